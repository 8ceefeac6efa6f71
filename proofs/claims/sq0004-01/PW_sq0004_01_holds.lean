import PyProof.Rows.All
import Wide.All
import OpenK.AllK
import Wide.FinOn
import PySem.Challenge.RW_sq0004_01
set_option Elab.async false
set_option linter.unusedVariables false
set_option linter.unusedSimpArgs false
set_option maxRecDepth 100000
set_option bootstrap.genMatcherCode false
set_option genSizeOf false
set_option tactic.hygienic false
namespace Mine
open PySem
inductive V where
 | none | bool (b:Bool) | int (i:Int) | str (k:Nat) | ref (i:Nat)
 deriving DecidableEq
set_option genInjectivity false
inductive O where
 | list (vs:List V) | tup (vs:List V) | dictI (es:List (Int×V)) | dictS (es:List (Nat×V)) | inst (c:Nat) (fs:List (Nat×V))
abbrev Hp:=List O
set_option genCtorIdx false
inductive R (α:Type)where
 | ok (a:α) (h:Hp) | stuck
set_option genCtorIdx true
inductive BOp where | add | sub | mul | fdiv | mod
inductive COp where | eq | ne | lt | gt | le | ge | isn | nisn | mem
inductive BI where | len | sum | max | min | sorted | list | abs
 deriving DecidableEq
set_option genCtorIdx false
inductive Hd where
 | none | ifNone (k l:Nat)
set_option genCtorIdx true
inductive Mk where
 | seq | rng | rng3 | zip | enum
set_option genCtorIdx false
inductive I where
 | push (v:V) | var (k:Nat) | cvar (k:Nat) | bin (o:BOp) | cmp (o:COp) | br (a b:List I)
 | attr (k:Nat) | item | rev | drop | take | list (n:Nat) | tup (n:Nat) | dict (ks:List Nat)
 | call (f n:Nat) | look (m:Nat) | meth (m n:Nat) | bi (b:BI) (n:Nat) | new (c n:Nat)
 | comp (k:Mk) (n:Nat) (b:List I)
 | st (k:Nat) | sattr (k:Nat) | sitem | sslice | unt (n:Nat) | pop | ret | raise
 | whl (t b:List I) | for1 (k:Nat) (it:Mk) (b:List I) | for2 (k l:Nat) (it:Mk) (b:List I) | tr (b:List I) (hd:Hd)
structure Fn where
 np:Nat
 ns:Nat
 body:List I
noncomputable def lim:Nat:=100000
noncomputable def turns:Nat:=100000
abbrev Fr:=List (Option V)
noncomputable def seqOf (h:Hp) (i:Nat):Option (List V):=match h[i]? with
 | some (.list vs)=>some vs
 | _=>none
noncomputable def listOf (h:Hp):V→Option (List V)
 | .ref i=>match h[i]? with | some (.list vs)=>some vs | _=>none
 | _=>none
noncomputable def intsOf:List V→Option (List Int)
 | []=>some []
 | .int i::r=>(intsOf r).map (i::·)
 | _::_=>none
theorem intsOf0:intsOf []=some []:=rfl
theorem intsOf1 {i r}:intsOf (.int i::r)=(intsOf r).map (i::·):=rfl
noncomputable def newO {α:Type}(o:O) (h:Hp) (k:Nat→Hp→R α):R α:=k h.length (h++[o])
noncomputable def newL (vs:List V) (h:Hp):R V:=if vs.length≤lim then .ok (.ref h.length) (h++[.list vs])else .stuck
noncomputable def veq0:V→V→Option Bool
 | .none,.none=>some true
 | .none,.int _=>some false
 | .int _,.none=>some false
 | .int i,.int j=>some (decide (i=j))
 | .str i,.str j=>some (decide (i=j))
 | _,_=>none
noncomputable def all2? (f:V→V→Option Bool):List V→List V→Option Bool
 | [],[]=>some true
 | x::xs,y::ys=>match f x y,all2? f xs ys with
  | some a,some b=>some (a&&b)
  | _,_=>none
 | _,_=>none
theorem all2_1 {f x y xs ys a b}(h:f x y=some a) (g:all2? f xs ys=some b):all2? f (x::xs) (y::ys)=some (a&&b):=by
 show(match f x y,all2? f xs ys with | some a,some b=>some (a&&b) | _,_=>none)=_
 rw[h,g]
noncomputable def veqI:V→V→Option Bool
 | .int i,.int j=>some (decide (i=j))
 | _,_=>none
noncomputable def veq1 (h:Hp) (a b:V):Option Bool:=match a,b with
 | .ref i,.ref j=>match h[i]?,h[j]? with
  | some (.tup xs),some (.tup ys)=>if xs.length=ys.length then all2? veqI xs ys else none
  | _,_=>none
 | a,b=>veqI a b
noncomputable def veq (h:Hp) (a b:V):Option Bool:=match a,b with
 | .ref i,.ref j=>match h[i]?,h[j]? with
  | some (.list xs),some (.list ys)=>if xs.length=ys.length then all2? (veq1 h) xs ys else some false
  | _,_=>none
 | a,b=>veq0 a b
noncomputable def big:Nat:=2^40
noncomputable def binop (o:BOp) (a b:V) (h:Hp):R V:=match a,b with
 | .int x,.int y=>match o with
  | .add=>.ok (.int (x+y)) h
  | .sub=>.ok (.int (x-y)) h
  | .mul=>if x.natAbs≤big∧y.natAbs≤big then .ok (.int (x*y)) h else .stuck
  | .fdiv=>if 0<y∧y<1073741824 then .ok (.int (x / y)) h else .stuck
  | .mod=>if 0<y then .ok (.int (x % y)) h else .stuck
 | .ref _,.ref _=>match o,listOf h a,listOf h b with
  | .add,some xs,some ys=>newL (xs++ys) h
  | _,_,_=>.stuck
 | .ref _,.int n=>match o,listOf h a with
  | .mul,some [v]=>if 0≤n∧n.toNat≤lim then newL (List.replicate n.toNat v) h else .stuck
  | _,_=>.stuck
 | _,_=>.stuck
noncomputable def cmpop (o:COp) (a b:V) (h:Hp):Option Bool:=match o with
 | .eq=>veq h a b
 | .ne=>(veq h a b).map (!·)
 | .isn=>match a with | .none=>some true | .int _=>some false | .str _=>some false | .ref _=>some false | .bool _=>some false
 | .nisn=>match a with | .none=>some false | .int _=>some true | .str _=>some true | .ref _=>some true | .bool _=>some true
 | .mem=>match a,b with
  | .int x,.ref _=>match(listOf h b).bind intsOf with
   | some ys=>some (ys.contains x)
   | none=>none
  | _,_=>none
 | o=>match a,b with
  | .int x,.int y=>match o with
   | .lt=>some (decide (x<y))
   | .gt=>some (decide (x>y))
   | .le=>some (decide (x≤y))
   | .ge=>some (decide (x≥y))
   | _=>none
  | _,_=>none
noncomputable def seqIx (n:Nat) (i:Int):Option Nat:=if 0≤i then(if i<n then some i.toNat else none)else(if -(n:Int)≤i then some (i+n).toNat else none)
noncomputable def findK (k:Int):List (Int×V)→Option V
 | []=>none
 | (a,v)::r=>if a=k then some v else findK k r
theorem findK0 {k}:findK k []=none:=rfl
theorem findK1 {k a v r}:findK k ((a,v)::r)=if a=k then some v else findK k r:=rfl
noncomputable def putK (k:Int) (v:V):List (Int×V)→List (Int×V)
 | []=>[(k,v)]
 | (a,w)::r=>if a=k then(a,v)::r else(a,w)::putK k v r
theorem putK0 {k v}:putK k v []=[(k,v)]:=rfl
theorem putK1 {k a v w r}:putK k v ((a,w)::r)=if a=k then(a,v)::r else(a,w)::putK k v r:=rfl
noncomputable def findF (k:Nat):List (Nat×V)→Option V
 | []=>none
 | (a,v)::r=>if a=k then some v else findF k r
theorem findF0 {k}:findF k []=none:=rfl
theorem findF1 {k a v r}:findF k ((a,v)::r)=if a=k then some v else findF k r:=rfl
noncomputable def putF (k:Nat) (v:V):List (Nat×V)→List (Nat×V)
 | []=>[(k,v)]
 | (a,w)::r=>if a=k then(a,v)::r else(a,w)::putF k v r
theorem putF0 {k v}:putF k v []=[(k,v)]:=rfl
theorem putF1 {k a v w r}:putF k v ((a,w)::r)=if a=k then(a,v)::r else(a,w)::putF k v r:=rfl
noncomputable def item (a i:V) (h:Hp):Option V:=match a with
 | .ref j=>match h[j]?,i with
  | some (.list vs),.int k=>(seqIx vs.length k).bind (vs[·]?)
  | some (.tup vs),.int k=>(seqIx vs.length k).bind (vs[·]?)
  | some (.dictI es),.int k=>findK k es
  | some (.dictS es),.str k=>findF k es
  | _,_=>none
 | _=>none
noncomputable def getA (a:V) (k:Nat) (h:Hp):Option V:=match a with
 | .ref j=>match h[j]? with
  | some (.inst _ fs)=>findF k fs
  | _=>none
 | _=>none
noncomputable def revL (a:V) (h:Hp):R V:=match listOf h a with
 | some vs=>newL vs.reverse h
 | none=>.stuck
noncomputable def dropL (a b:V) (h:Hp):R V:=match listOf h a,b with
 | some vs,.int k=>if 0≤k∧k.toNat≤big then newL (vs.drop k.toNat) h else .stuck
 | _,_=>.stuck
noncomputable def takeL (a b:V) (h:Hp):R V:=match listOf h a,b with
 | some vs,.int k=>if 0≤k∧k.toNat≤big then newL (vs.take k.toNat) h else .stuck
 | _,_=>.stuck
noncomputable def maxI:List Int→Option Int
 | []=>none
 | x::r=>some (r.foldl max x)
noncomputable def builtin (b:BI) (as:List V) (h:Hp):R V:=match b,as with
 | .len,[a]=>match listOf h a with | some vs=>.ok (.int vs.length) h | none=>.stuck
 | .sum,[a]=>match(listOf h a).bind intsOf with | some is=>.ok (.int is.sum) h | none=>.stuck
 | .max,[a]=>match(listOf h a).bind intsOf with
  | some is=>(match maxI is with | some m=>.ok (.int m) h | none=>.stuck)
  | none=>.stuck
 | .max,[.int x,.int y]=>.ok (.int (max x y)) h
 | .min,[.int x,.int y]=>.ok (.int (min x y)) h
 | .sorted,[.ref i]=>match h[i]? with
  | some (.list vs)=>match intsOf vs with
   | some is=>if is.length<64 then newL ((is.mergeSort (fun a b=>decide (a≤b))).map V.int) h else .stuck
   | none=>.stuck
  | some (.dictI es)=>if es.length<64 then newL (((es.map (·.1)).mergeSort (fun a b=>decide (a≤b))).map V.int) h else .stuck
  | _=>.stuck
 | .list,[a]=>match listOf h a with | some vs=>newL vs h | none=>.stuck
 | .abs,[.int x]=>.ok (.int x.natAbs) h
 | _,_=>.stuck
inductive IS where
 | seq (i k:Nat) | rng (cur:Int) (n:Nat) (step:Int) | zip (i j k:Nat) | enum (i k:Nat)
noncomputable def nextI:IS→Hp→Option (Option (List V×IS))
 | .seq i k,h=>match seqOf h i with
  | some vs=>(match vs[k]? with | some v=>some (some ([v],.seq i (k+1))) | none=>some none)
  | none=>none
 | .rng c n st,_=>match n with
  | 0=>some none
  | n+1=>some (some ([.int c],.rng (c+st) n st))
 | .zip i j k,h=>match h[i]?,h[j]? with
  | some (.list xs),some (.list ys)=>(match xs[k]?,ys[k]? with
   | some x,some y=>some (some ([x,y],.zip i j (k+1)))
   | _,_=>some none)
  | _,_=>none
 | .enum i k,h=>match h[i]? with
  | some (.list xs)=>(match xs[k]? with
   | some x=>some (some ([.int k,x],.enum i (k+1)))
   | none=>some none)
  | _=>none
noncomputable def unpackN (n:Nat) (vs:List V) (h:Hp):Option (List V):=
 if vs.length=n then some vs else match vs with
  | [.ref t]=>match h[t]? with
   | some (.tup ws)=>if ws.length=n then some ws else none
   | _=>none
  | _=>none
noncomputable abbrev s_append:Nat:=0
noncomputable abbrev s_extend:Nat:=1
noncomputable abbrev s_pop:Nat:=2
noncomputable abbrev s_insert:Nat:=3
noncomputable abbrev s_index:Nat:=4
noncomputable abbrev s_get:Nat:=5
noncomputable def idxOf (x:V):List V→Option Nat
 | []=>none
 | y::r=>if x=y then some 0 else(idxOf x r).map (·+1)
theorem idxOf0 {x}:idxOf x []=none:=rfl
theorem idxOf1 {x y r}:idxOf x (y::r)=if x=y then some 0 else(idxOf x r).map (·+1):=rfl
noncomputable def objMeth (i:Nat) (m:Nat) (as:List V) (h:Hp):R V:=match h[i]? with
 | some (.list vs)=>
  if m=s_append then(match as with
   | [v]=>if vs.length<lim then .ok .none (h.set i (.list (vs++[v])))else .stuck
   | _=>.stuck)
  else if m=s_extend then(match as with
   | [a]=>match listOf h a with
    | some ws=>if a≠.ref i∧vs.length+ws.length≤lim then .ok .none (h.set i (.list (vs++ws)))else .stuck
    | none=>.stuck
   | _=>.stuck)
  else if m=s_pop then(match as with
   | []=>match vs.getLast? with
    | some v=>.ok v (h.set i (.list vs.dropLast))
    | none=>.stuck
   | [.int k]=>if k=0 then(match vs with
     | v::r=>.ok v (h.set i (.list r))
     | []=>.stuck)else .stuck
   | _=>.stuck)
  else if m=s_insert then(match as with
   | [.int k,v]=>if 0≤k∧k≤vs.length∧vs.length<lim then .ok .none (h.set i (.list (vs.take k.toNat++v::vs.drop k.toNat)))else .stuck
   | _=>.stuck)
  else if m=s_index then(match as with
   | [.int x]=>match intsOf vs with
    | some _=>(match idxOf (.int x) vs with | some k=>.ok (.int k) h | none=>.stuck)
    | none=>.stuck
   | _=>.stuck)
  else .stuck
 | some (.dictI es)=>
  if m=s_get then(match as with
   | [.int k,d]=>.ok ((findK k es).getD d) h
   | _=>.stuck)
  else .stuck
 | _=>.stuck
noncomputable def setItem (a i v:V) (h:Hp):Option Hp:=match a with
 | .ref j=>match h[j]?,i with
  | some (.list vs),.int k=>if 0≤k∧k<vs.length∧j≠0 then some (h.set j (.list (vs.set k.toNat v)))else none
  | some (.dictI es),.int k=>if es.length<lim∧j≠0 then some (h.set j (.dictI (putK k v es)))else none
  | some (.dictS es),.str k=>if es.length<lim∧j≠0 then some (h.set j (.dictS (putF k v es)))else none
  | _,_=>none
 | _=>none
noncomputable def setA (a:V) (k:Nat) (v:V) (h:Hp):Option Hp:=match a with
 | .ref j=>match h[j]? with
  | some (.inst c fs)=>if fs.length<100∧j≠0 then some (h.set j (.inst c (putF k v fs)))else none
  | _=>none
 | _=>none
noncomputable def setSlice (a b c v:V) (h:Hp):Option Hp:=match a,b,c,listOf h v with
 | .ref j,.int x,.int y,some ws=>match h[j]? with
  | some (.list vs)=>if v≠a∧0≤x∧x≤y∧y≤vs.length∧vs.length+ws.length≤lim∧j≠0 then some (h.set j (.list (vs.take x.toNat++ws++vs.drop y.toNat)))else none
  | _=>none
 | _,_,_,_=>none
structure Prog where
 fns:List Fn
 meths:List ((Nat×Nat)×Nat)
 inits:List Nat
noncomputable def methOf (ms:List ((Nat×Nat)×Nat)) (c m:Nat):Option Nat:=match ms with
 | []=>none
 | (k,f)::r=>if k=(c,m)then some f else methOf r c m
noncomputable def no:Hp→Prop:=fun _=>False
@[irreducible] noncomputable def C {α:Type}(r:R α) (Q:α→Hp→Prop):Prop:=match r with
 | .ok a h=>Q a h
 | .stuck=>False
@[irreducible] noncomputable def wO {α:Type}(o:Option α) (K:α→Prop):Prop:=match o with
 | some a=>K a
 | none=>False
@[irreducible] noncomputable def wB (v:V) (p q:Prop):Prop:=match v with
 | .bool true=>p
 | .bool false=>q
 | _=>False
structure Env' where
 calls:Nat→List V→Hp→(V→Hp→Prop)→(Hp→Prop)→Prop
 meths:List ((Nat×Nat)×Nat)
 inits:List Nat
noncomputable def newT (vs:List V) (h:Hp):R V:=.ok (.ref h.length) (h++[.tup vs])
noncomputable def newD (ks:List Nat) (vs:List V) (h:Hp):R V:=.ok (.ref h.length) (h++[match ks with | []=>.dictI [] | ks=>.dictS (ks.zip vs)])
@[irreducible] noncomputable def wM (c:Env') (x:V) (m:Nat) (h:Hp) (K:V→Prop):Prop:=match x with
 | .ref i=>(match h[i]? with
  | some (.inst k fs)=>(match findF m fs,methOf c.meths k m with
   | none,some f=>K (.str f)
   | _,_=>False)
  | some (.list _)=>(m<5∧i≠0)∧K .none
  | some (.dictI _)=>m=s_get∧K .none
  | _=>False)
 | _=>False
@[irreducible] noncomputable def wI (c:Env') (k:Nat) (vs:List V) (h:Hp) (Q:V→Hp→Prop):Prop:=wO c.inits[k]? fun f=>c.calls f (.ref h.length::vs) (h++[.inst k []]) (fun v h'=>v=.none∧Q (.ref h.length) h') no
noncomputable def itR (x:V) (h:Hp):R IS:=match x with
 | .ref i=>if(seqOf h i).isSome then .ok (.seq i 0) h else .stuck
 | _=>.stuck
noncomputable def rngR (x:V) (h:Hp):R IS:=match x with
 | .int n=>if n.natAbs≤lim then .ok (.rng 0 n.toNat 1) h else .stuck
 | _=>.stuck
noncomputable def rng3R (x y z:V) (h:Hp):R IS:=match x,y,z with
 | .int n,.int e,.int st=>if e=-1∧st=-1∧n.natAbs≤lim then .ok (.rng n (n+1).toNat (-1)) h else .stuck
 | _,_,_=>.stuck
noncomputable def zipR (x y:V) (h:Hp):R IS:=match x,y with
 | .ref i,.ref j=>if(listOf h x).isSome&&(listOf h y).isSome then .ok (.zip i j 0) h else .stuck
 | _,_=>.stuck
noncomputable def enumR (x:V) (h:Hp):R IS:=match x with
 | .ref i=>if(listOf h x).isSome then .ok (.enum i 0) h else .stuck
 | _=>.stuck
noncomputable def tupN (v:V) (n:Nat) (h:Hp):Option (List V):=match v with
 | .ref i=>match h[i]? with
  | some (.tup vs)=>if vs.length=n then some vs else none
  | _=>none
 | _=>none
noncomputable abbrev wN (v:V) (p:Prop):Prop:=match v with | .none=>p | .bool _=>p | .int _=>p | .str _=>p | .ref _=>False
abbrev Kt:=Fr→Hp→List V→Prop
structure PP where
 T:V→Hp→Prop
 X:Fr→Hp→Prop
 Z:Hp→Prop
 cf:Fr
noncomputable abbrev p1 (st:List V) (f:V→List V→Prop):Prop:=match st with
 | x::st=>f x st
 | []=>False
noncomputable abbrev p2 (st:List V) (f:V→V→List V→Prop):Prop:=p1 st fun x st=>p1 st fun y st=>f y x st
noncomputable abbrev p3 (st:List V) (f:V→V→V→List V→Prop):Prop:=p2 st fun y z st=>p1 st fun x st=>f x y z st
noncomputable abbrev pN (f:List V→List V→Prop):Nat→List V→List V→Prop
 | 0,st,vs=>f vs st
 | n+1,st,vs=>p1 st fun v st=>pN f n st (v::vs)
noncomputable abbrev kv (fr:Fr) (h:Hp) (K:Kt) (st:List V) (v:V):Prop:=K fr h (v::st)
noncomputable abbrev kb (fr:Fr) (h:Hp) (K:Kt) (st:List V) (b:Bool):Prop:=K fr h (.bool b::st)
noncomputable abbrev kt (fr:Fr) (h:Hp) (K:Kt) (st vs:List V):Prop:=K fr h (vs++st)
noncomputable abbrev kq (fr:Fr) (K:Kt) (st:List V) (v:V) (h:Hp):Prop:=K fr h (v::st)
noncomputable abbrev kn (fr:Fr) (K:Kt) (st:List V) (h:Hp):Prop:=K fr h st
noncomputable abbrev kr (K:Kt) (st:List V) (fr:Fr) (h:Hp):Prop:=K fr h st
noncomputable abbrev kl (N:Fr→Hp→Prop) (fr:Fr) (h:Hp) (_:List V):Prop:=N fr h
noncomputable abbrev kC (fr:Fr) (K:Kt) (st vs:List V) (h:Hp):Prop:=C (newL vs h) (kq fr K st)
noncomputable def pC (ws:List V):PP:=⟨fun _=>no,fun _=>no,no,ws.map some⟩
noncomputable def pL (T:V→Hp→Prop):PP:=⟨T,fun _=>no,no,[]⟩
noncomputable def pF (Q:V→Hp→Prop) (Z:Hp→Prop):PP:=⟨Q,fun _=>Z,Z,[]⟩
noncomputable abbrev kF (Q:V→Hp→Prop):Kt:=fun _ h _=>Q .none h
noncomputable def wC (turn:List V→Hp→Kt→Prop) (m:Nat) (Q:List V→Hp→Prop):Nat→IS→List V→Hp→Prop
 | 0,_,_,_=>False
 | n+1,is,acc,h=>wO (nextI is h) fun r=>match r with
  | none=>Q acc h
  | some (vs,is')=>wO (unpackN m vs h) fun ws=>turn ws h fun _ h st=>wC turn m Q n is' (match st with | v::_=>acc++[v] | []=>acc) h
noncomputable def wW (test:Fr→Hp→Kt→Prop) (body:Fr→Hp→Kt→Prop) (N:Fr→Hp→Prop):Nat→Fr→Hp→Prop
 | 0,_,_=>False
 | n+1,fr,h=>test fr h fun _ h st=>p1 st fun v _=>wB v (body fr h (kl (wW test body N n))) (N fr h)
noncomputable def wF (m:Nat) (bind:List V→Fr→Fr) (body:Fr→Hp→Kt→Prop) (N:Fr→Hp→Prop):Nat→IS→Fr→Hp→Prop
 | 0,_,_,_=>False
 | n+1,is,fr,h=>wO (nextI is h) fun r=>match r with
  | none=>N fr h
  | some (vs,is')=>wO (unpackN m vs h) fun ws=>body (bind ws fr) h (kl (wF m bind body N n is'))
noncomputable def bind1 (k:Nat) (ws:List V) (fr:Fr):Fr:=match ws with
 | [a]=>fr.set k (some a)
 | _=>fr
noncomputable def bind2 (k l:Nat) (ws:List V) (fr:Fr):Fr:=match ws with
 | [a,b]=>(fr.set k (some a)).set l (some b)
 | _=>fr
noncomputable abbrev kci (turn:Fr→List V→Hp→Kt→Prop) (m:Nat) (fr:Fr) (K:Kt) (st:List V) (is:IS) (h:Hp):Prop:=wC (turn fr) m (kC fr K st) turns is [] h
noncomputable abbrev kfo (m:Nat) (bind:List V→Fr→Fr) (body:Fr→Hp→Kt→Prop) (fr:Fr) (K:Kt) (st:List V) (is:IS) (h:Hp):Prop:=wF m bind body (kr K st) turns is fr h
noncomputable abbrev wK (k:Mk) (st:List V) (h:Hp) (f:List V→IS→Hp→Prop):Prop:=match k with
 | .seq=>p1 st fun x st=>C (itR x h) (f st)
 | .rng=>p1 st fun x st=>C (rngR x h) (f st)
 | .rng3=>p3 st fun x y z st=>C (rng3R x y z h) (f st)
 | .zip=>p2 st fun x y st=>C (zipR x y h) (f st)
 | .enum=>p1 st fun x st=>C (enumR x h) (f st)
noncomputable def wH (hd:Hd) (T:V→Hp→Prop) (fr:Fr) (h:Hp):Prop:=match hd with
 | .none=>T .none h
 | .ifNone k l=>wO fr[k]?.join fun x=>wO fr[l]?.join fun y=>wO (cmpop .isn x .none h) fun q=>wB (.bool q) (T y h) (T .none h)
noncomputable abbrev wV (o:Option V) (K:V→Prop):Prop:=match o with
 | some v=>K v
 | none=>False
noncomputable abbrev wY (c:Env') (m:Nat) (t x:V) (as:List V) (h:Hp) (Q:V→Hp→Prop) (Z:Hp→Prop):Prop:=match t with
 | .str f=>c.calls f (x::as) h Q Z
 | _=>match x with
  | .ref i=>C (objMeth i m as h) Q
  | _=>False
mutual
noncomputable def goI (c:Env') (P:PP) (K:Kt):I→Kt
 | .push v,fr,h,st=>K fr h (v::st)
 | .var k,fr,h,st=>wV fr[k]?.join (kv fr h K st)
 | .cvar k,fr,h,st=>wV P.cf[k]?.join (kv fr h K st)
 | .bin o,fr,h,st=>p2 st fun x y st=>C (binop o x y h) (kq fr K st)
 | .cmp o,fr,h,st=>p2 st fun x y st=>wO (cmpop o x y h) (kb fr h K st)
 | .br a b,fr,h,st=>p1 st fun v st=>wB v (go c P K a fr h st) (go c P K b fr h st)
 | .attr k,fr,h,st=>p1 st fun x st=>wO (getA x k h) (kv fr h K st)
 | .item,fr,h,st=>p2 st fun x y st=>wO (item x y h) (kv fr h K st)
 | .rev,fr,h,st=>p1 st fun x st=>C (revL x h) (kq fr K st)
 | .drop,fr,h,st=>p2 st fun x y st=>C (dropL x y h) (kq fr K st)
 | .take,fr,h,st=>p2 st fun x y st=>C (takeL x y h) (kq fr K st)
 | .list n,fr,h,st=>pN (fun vs st=>C (newL vs h) (kq fr K st)) n st []
 | .tup n,fr,h,st=>pN (fun vs st=>C (newT vs h) (kq fr K st)) n st []
 | .dict ks,fr,h,st=>pN (fun vs st=>C (newD ks vs h) (kq fr K st)) ks.length st []
 | .call f n,fr,h,st=>pN (fun vs st=>c.calls f vs h (kq fr K st) (P.X fr)) n st []
 | .look m,fr,h,st=>p1 st fun x st=>wM c x m h (kv fr h K (x::st))
 | .meth m n,fr,h,st=>pN (fun vs st=>p2 st fun x t st=>wY c m t x vs h (kq fr K st) (P.X fr)) n st []
 | .bi b n,fr,h,st=>pN (fun vs st=>C (builtin b vs h) (kq fr K st)) n st []
 | .new k n,fr,h,st=>pN (fun vs st=>wI c k vs h (kq fr K st)) n st []
 | .comp k n b,fr,h,st=>wK k st h (kci (fun fr ws h K=>go c (pC ws) K b fr h []) n fr K)
 | .st k,fr,h,st=>p1 st fun v st=>K (fr.set k (some v)) h st
 | .sattr k,fr,h,st=>p2 st fun v x st=>wO (setA x k v h) (kn fr K st)
 | .sitem,fr,h,st=>p3 st fun v x y st=>wO (setItem x y v h) (kn fr K st)
 | .sslice,fr,h,st=>p3 st fun x y z st=>p1 st fun v st=>wO (setSlice x y z v h) (kn fr K st)
 | .unt n,fr,h,st=>p1 st fun v st=>wO (tupN v n h) (kt fr h K st)
 | .pop,fr,h,st=>p1 st fun v st=>wN v (K fr h st)
 | .ret,fr,h,st=>p1 st fun v _=>P.T v h
 | .raise,fr,h,st=>P.Z h
 | .whl t b,fr,h,st=>wW (fun fr h K=>go c (pL fun _=>no) K t fr h []) (fun fr h K=>go c (pL P.T) K b fr h []) (kr K st) turns fr h
 | .for1 k it b,fr,h,st=>wK it st h (kfo 1 (bind1 k) (fun fr h K=>go c (pL P.T) K b fr h []) fr K)
 | .for2 k l it b,fr,h,st=>wK it st h (kfo 2 (bind2 k l) (fun fr h K=>go c (pL P.T) K b fr h []) fr K)
 | .tr b hd,fr,h,st=>go c ⟨P.T,wH hd P.T,no,[]⟩ K b fr h st
termination_by structural i=>i
noncomputable def go (c:Env') (P:PP) (K:Kt):List I→Kt
 | [],fr,h,st=>K fr h st
 | i::l,fr,h,st=>goI c P (go c P K l) i fr h st
termination_by structural l=>l
end
noncomputable def callG (p:Prog):Nat→Nat→List V→Hp→(V→Hp→Prop)→(Hp→Prop)→Prop
 | 0,_,_,_,_,_=>False
 | n+1,f,as,h,Q,Z=>∃fn,p.fns[f]?=some fn∧as.length=fn.np∧go ⟨callG p n,p.meths,p.inits⟩ (pF Q Z) (kF Q) fn.body (as.map some++List.replicate (fn.ns-fn.np) none) h []
@[irreducible] noncomputable def callP (p:Prog) (n:Nat):Nat→List V→Hp→(V→Hp→Prop)→(Hp→Prop)→Prop:=callG p n
theorem callP_is {p:Prog}{n:Nat}:callP p n=callG p n:=by unfold callP;rfl
noncomputable def cn (p:Prog) (n:Nat):Env':=⟨callP p n,p.meths,p.inits⟩
theorem C_is {α:Type}{r:R α}{Q:α→Hp→Prop}:C r Q=match r with
 | .ok a h=>Q a h
 | .stuck=>False:=by unfold C;rfl
theorem wO_is {α:Type}{o:Option α}{K:α→Prop}:wO o K=match o with
 | some a=>K a
 | none=>False:=by unfold wO;rfl
theorem wB_is {v:V}{p q:Prop}:wB v p q=match v with
 | .bool true=>p
 | .bool false=>q
 | _=>False:=by unfold wB;rfl
end Mine
namespace Mine
open PySem
noncomputable def texts:List String:=["append","extend","pop","insert","index","get",
 "buffer","children","clock","earlier","height","hscroll","is_dedicated","last","later","least_height","least_width","left","number","parent","point","root","selected","sort","start","top","use_time","width","windows",
 "fresh","least_leaf","place","set_size","show","shown","size","touch","window",
 "Cannot resize window","No such window","Window too small for splitting","alone","child","column","cover","error","in","leaf","least","row","strangers"]
noncomputable def attrOk (k:Nat):Bool:=decide (6≤k)&&decide (k<29)
noncomputable def strAt (k:Nat):Str:=Str.ofString (texts.getD k "")
noncomputable def codeOf (x:Str):Option Nat:=texts.findIdx? fun y=>Str.ofString y==x
noncomputable def attrOf (x:Str):Option Nat:=(codeOf x).bind fun k=>if attrOk k then some k else none
noncomputable def defNames:List String:=["along","sort_along","leaves_under","leaves","windows_under","replace_child","least_size","shares","set_tree_size","set_places","movable","givers","can_give","resize","wrong_window","tree_error","split_parts","combined","split","joined","enlarge",
 "_law_draw","_law_all","_law_leaf","_law_size","_law_least","_law_set","_law_cells","_law_split","_law_is_built","_law_beside","_law_resized","_law_told","law"]
noncomputable def methNames:List (String×String):=[("Window","__init__"),("Window","size"),("Window","set_size"),("Window","place"),("Window","shown"),("Window","show"),
 ("WindowTree","__init__"),("WindowTree","fresh"),("WindowTree","window"),("WindowTree","touch"),("WindowTree","least_leaf")]
noncomputable def clsNames:List String:=["Window","WindowTree"]
end Mine
set_option autoImplicit false
namespace Mine
noncomputable def fc (a:V) (l:Fr):Fr:=some a::l
noncomputable def fo (a:Option V) (l:Fr):Fr:=a::l
noncomputable def fz (n:Nat):Fr:=List.replicate n none
noncomputable def f0:List I:=[.var 0,.push (.int 2),.cmp .eq,.br [.push (.int 0)] [.push (.int 1)],.ret]
noncomputable def f1:List I:=[.var 0,.push (.int 0),.cmp .eq,.br [.push (.int 2)] [.push (.int 1)],.ret]
noncomputable def f2t1:List I:=[.var 3,.list 0,.cmp .ne]
noncomputable def f2b1:List I:=[.var 0,.attr 28,.var 3,.look 2,.meth 2 0,.item,.st 4,.var 4,.attr 23,.push (.int 0),.cmp .eq,.br [.var 2,.look 0,.var 4,.attr 18,.meth 0 1,.pop] [.var 3,.look 1,.var 4,.attr 7,.rev,.meth 1 1,.pop]]
noncomputable def f2:List I:=[.list 0,.st 2,.var 1,.list 1,.st 3,.whl f2t1 f2b1,.var 2,.ret]
noncomputable def f3:List I:=[.var 0,.var 0,.attr 21,.call 2 2,.ret]
noncomputable def f4t1:List I:=[.var 3,.list 0,.cmp .ne]
noncomputable def f4b1:List I:=[.var 0,.attr 28,.var 3,.look 2,.meth 2 0,.item,.st 4,.var 2,.look 0,.var 4,.attr 18,.meth 0 1,.pop,.var 3,.look 1,.var 4,.attr 7,.rev,.meth 1 1,.pop]
noncomputable def f4:List I:=[.list 0,.st 2,.var 1,.list 1,.st 3,.whl f4t1 f4b1,.var 2,.ret]
noncomputable def f5:List I:=[.var 0,.attr 28,.var 1,.item,.attr 19,.st 3,.var 3,.var 0,.attr 28,.var 2,.item,.sattr 19,.var 3,.push (.int 0),.cmp .eq,.br [.var 2,.var 0,.sattr 21] [.var 0,.attr 28,.var 3,.item,.attr 7,.st 4,.var 2,.var 4,.var 4,.look 4,.var 1,.meth 4 1,.sitem]]
noncomputable def f6e1:List I:=[.var 3,.cvar 0,.item]
noncomputable def f6e2:List I:=[.var 3,.cvar 0,.item]
noncomputable def f6b1:List I:=[.var 0,.attr 28,.var 4,.item,.st 5,.var 5,.attr 23,.push (.int 0),.cmp .eq,.br [.var 0,.look 30,.var 2,.meth 30 1,.var 3,.var 4,.sitem] [.var 5,.attr 23,.call 0 1,.var 2,.cmp .eq,.br [.var 5,.attr 7,.comp .seq 1 f6e1,.bi .sum 1,.var 3,.var 4,.sitem] [.var 5,.attr 7,.comp .seq 1 f6e2,.bi .max 1,.var 3,.var 4,.sitem]]]
noncomputable def f6:List I:=[.dict [],.st 3,.var 0,.var 1,.call 4 2,.rev,.for1 4 .seq f6b1,.var 3,.var 1,.item,.ret]
noncomputable def f7e1:List I:=[.cvar 1,.var 3,.cvar 0,.bin .mul,.var 4,.bin .fdiv,.bin .add]
noncomputable def f7e2:List I:=[.cvar 1,.cvar 0,.var 6,.cmp .lt,.br [.push (.int 1)] [.push (.int 0)],.bin .add]
noncomputable def f7r:List I:=[.var 1,.var 2,.comp .zip 2 f7e1,.st 5,.var 0,.var 5,.bi .sum 1,.bin .sub,.st 6,.var 5,.comp .enum 2 f7e2,.ret]
noncomputable def f7:List I:=.var 0::.var 2::.bi .sum 1::.bin .sub::.var 1::.bi .sum 1::.tup 2::.unt 2::.st 3::.st 4::.var 4::.push (.int 0)::.cmp .eq::.br [.push (.int 1),.list 1,.var 2,.bi .len 1,.bin .mul,.st 1,.var 2,.bi .len 1,.st 4] []::f7r
noncomputable def f8t1:List I:=[.var 4,.list 0,.cmp .ne]
noncomputable def f8e1:List I:=[.var 0,.cvar 0,.var 2,.call 6 3]
noncomputable def f8e2:List I:=[.var 0,.attr 28,.cvar 0,.item,.look 35,.var 2,.meth 35 1,.cvar 1,.bin .sub]
noncomputable def f8b1:List I:=[.var 4,.look 0,.var 8,.var 11,.tup 2,.meth 0 1,.pop]
noncomputable def f8b2:List I:=[.var 4,.look 0,.var 8,.var 6,.tup 2,.meth 0 1,.pop]
noncomputable def f8b3r:List I:=[.var 7,.look 32,.var 2,.var 6,.meth 32 2,.pop]
noncomputable def f8b3:List I:=.var 4::.look 2::.meth 2 0::.unt 2::.st 5::.st 6::.var 0::.attr 28::.var 5::.item::.st 7::.var 7::.attr 23::.push (.int 0)::.cmp .ne::.br [.var 7,.attr 23,.call 0 1,.var 2,.cmp .eq,.br [.var 7,.attr 7,.comp .seq 1 f8e1,.st 9,.var 7,.attr 7,.var 9,.comp .zip 2 f8e2,.st 10,.var 7,.attr 7,.var 6,.var 10,.var 9,.call 7 3,.for2 8 11 .zip f8b1] [.var 7,.attr 7,.for1 8 .seq f8b2]] []::f8b3r
noncomputable def f8:List I:=[.var 1,.var 3,.tup 2,.list 1,.st 4,.whl f8t1 f8b3]
noncomputable def f9t1:List I:=[.var 1,.list 0,.cmp .ne]
noncomputable def f9b1:List I:=[.var 1,.look 0,.var 6,.var 3,.var 4,.tup 3,.meth 0 1,.pop,.var 5,.attr 23,.call 0 1,.push (.int 0),.cmp .eq,.br [.var 3,.var 0,.attr 28,.var 6,.item,.attr 27,.bin .add,.st 3] [.var 4,.var 0,.attr 28,.var 6,.item,.attr 10,.bin .add,.st 4]]
noncomputable def f9b2:List I:=[.var 1,.look 2,.meth 2 0,.unt 3,.st 2,.st 3,.st 4,.var 0,.attr 28,.var 2,.item,.st 5,.var 3,.var 4,.tup 2,.unt 2,.var 5,.sattr 17,.var 5,.sattr 25,.var 5,.attr 7,.for1 6 .seq f9b1]
noncomputable def f9:List I:=[.var 0,.attr 21,.push (.int 0),.push (.int 0),.tup 3,.list 1,.st 1,.whl f9t1 f9b2]
noncomputable def f10t1:List I:=[.var 3,.attr 19,.push (.int 0),.cmp .ne]
noncomputable def f10b1:List I:=[.var 0,.attr 28,.var 3,.attr 19,.item,.st 4,.var 4,.attr 23,.call 0 1,.var 2,.cmp .eq,.br [.var 3,.attr 18,.ret] [],.var 4,.st 3]
noncomputable def f10:List I:=[.var 0,.look 37,.var 1,.meth 37 1,.st 3,.whl f10t1 f10b1,.push (.int 0),.ret]
noncomputable def f11:List I:=[.var 0,.attr 28,.var 1,.item,.st 2,.var 0,.attr 28,.var 2,.attr 19,.item,.attr 7,.st 3,.var 3,.look 4,.var 1,.meth 4 1,.st 4,.var 3,.var 4,.push (.int 1),.bin .add,.drop,.var 3,.var 4,.take,.rev,.bin .add,.ret]
noncomputable def f12e1:List I:=[.var 0,.attr 28,.cvar 0,.item,.look 35,.var 2,.meth 35 1,.var 0,.cvar 0,.var 2,.call 6 3,.bin .sub]
noncomputable def f12:List I:=[.var 0,.var 1,.call 11 2,.comp .seq 1 f12e1,.bi .sum 1,.ret]
noncomputable def f13b1r:List I:=[.var 0,.var 7,.var 2,.var 8,.var 9,.bin .sub,.call 8 4,.pop,.var 6,.var 9,.bin .sub,.st 6]
noncomputable def f13b1:List I:=.var 0::.attr 28::.var 7::.item::.look 35::.var 2::.meth 35 1::.st 8::.var 6::.push (.int 0)::.cmp .gt::.br [.var 6,.var 8,.var 0,.var 7,.var 2,.call 6 3,.bin .sub,.bi .min 2] [.var 6]::.st 9::f13b1r
noncomputable def f13:List I:=[.var 0,.var 1,.var 2,.call 10 3,.st 4,.var 4,.push (.int 0),.cmp .eq,.br [.push (.str 45),.push (.str 38),.list 1,.raise] [],.var 0,.attr 28,.var 4,.item,.st 5,.var 3,.var 0,.var 4,.var 2,.call 12 3,.cmp .gt,.br [.push (.bool true)] [.var 5,.look 35,.var 2,.meth 35 1,.var 3,.bin .add,.var 0,.var 4,.var 2,.call 6 3,.cmp .lt,.br [.push (.bool true)] [.push (.bool false)]],.br [.push (.str 45),.push (.str 38),.list 1,.raise] [],.var 3,.st 6,.var 0,.var 4,.call 11 2,.for1 7 .seq f13b1,.var 0,.var 4,.var 2,.var 5,.look 35,.var 2,.meth 35 1,.var 3,.bin .add,.call 8 4,.pop,.var 0,.call 9 1,.pop]
noncomputable def f14b1:List I:=[.var 0,.attr 28,.look 5,.var 5,.push .none,.meth 5 2,.st 6,.var 6,.push .none,.cmp .isn,.br [.push (.bool true)] [.var 6,.attr 19,.var 1,.cmp .ne,.br [.push (.bool true)] [.var 6,.attr 23,.var 2,.attr 23,.cmp .eq,.br [.push (.bool true)] [.push (.bool false)]]],.br [.push (.str 42),.ret] [],.var 6,.look 31,.var 3,.meth 31 1,.var 4,.cmp .ne,.br [.push (.bool true)] [.var 6,.look 31,.push (.int 1),.var 3,.bin .sub,.meth 31 1,.var 2,.look 31,.push (.int 1),.var 3,.bin .sub,.meth 31 1,.cmp .ne,.br [.push (.bool true)] [.push (.bool false)]],.br [.push (.str 31),.ret] [],.var 6,.look 35,.push (.int 1),.var 3,.bin .sub,.meth 35 1,.var 2,.look 35,.push (.int 1),.var 3,.bin .sub,.meth 35 1,.cmp .ne,.br [.push (.str 35),.ret] [],.var 4,.var 6,.look 35,.var 3,.meth 35 1,.bin .add,.st 4]
noncomputable def f14:List I:=[.var 0,.attr 28,.var 1,.item,.st 2,.var 2,.attr 23,.push (.int 0),.cmp .eq,.br [.var 2,.attr 7,.list 0,.cmp .ne,.br [.push (.str 7),.ret] [],.var 2,.attr 27,.var 0,.attr 16,.cmp .lt,.br [.push (.bool true)] [.var 2,.attr 10,.var 0,.attr 15,.cmp .lt,.br [.push (.bool true)] [.push (.bool false)]],.br [.push (.str 48),.ret] [],.push .none,.ret] [],.var 2,.attr 7,.bi .len 1,.push (.int 2),.cmp .lt,.br [.push (.str 41),.ret] [],.var 2,.attr 23,.call 0 1,.var 2,.look 31,.var 2,.attr 23,.call 0 1,.meth 31 1,.tup 2,.unt 2,.st 3,.st 4,.var 2,.attr 7,.for1 5 .seq f14b1,.var 4,.var 2,.look 31,.var 3,.meth 31 1,.var 2,.look 35,.var 3,.meth 35 1,.bin .add,.cmp .eq,.br [.push .none] [.push (.str 44)],.ret]
noncomputable def f15b1:List I:=[.var 0,.var 3,.call 14 2,.st 4,.var 4,.push .none,.cmp .nisn,.br [.var 3,.var 4,.tup 2,.ret] []]
noncomputable def f15:List I:=[.var 0,.attr 28,.look 5,.var 0,.attr 21,.push .none,.meth 5 2,.st 1,.var 1,.push .none,.cmp .isn,.br [.push (.bool true)] [.var 1,.attr 19,.push (.int 0),.cmp .ne,.br [.push (.bool true)] [.var 1,.attr 17,.push (.int 0),.cmp .ne,.br [.push (.bool true)] [.var 1,.attr 25,.push (.int 0),.cmp .ne,.br [.push (.bool true)] [.push (.bool false)]]]],.br [.var 0,.attr 21,.push (.str 21),.tup 2,.ret] [],.var 0,.var 0,.attr 21,.call 4 2,.st 2,.var 2,.for1 3 .seq f15b1,.var 2,.bi .sorted 1,.var 0,.attr 28,.bi .sorted 1,.cmp .ne,.br [.push (.int 0),.push (.str 50),.tup 2,.ret] [],.var 0,.attr 22,.var 0,.var 0,.attr 21,.call 2 2,.cmp .mem,.br [.push .none] [.var 0,.attr 22,.push (.str 22),.tup 2],.ret]
noncomputable def f16:List I:=[.var 0,.look 37,.var 1,.meth 37 1,.look 35,.var 3,.meth 35 1,.st 4,.var 2,.push .none,.cmp .isn,.br [.var 4,.push (.int 2),.bin .fdiv,.st 5] [.var 2,.push (.int 0),.cmp .gt,.br [.var 4,.var 2,.bin .sub] [.push (.int 0),.var 2,.bin .sub],.st 5],.var 4,.var 5,.bin .sub,.st 6,.var 6,.var 0,.var 1,.var 3,.call 6 3,.cmp .lt,.br [.push (.bool true)] [.var 5,.var 0,.look 30,.var 3,.meth 30 1,.cmp .lt,.br [.push (.bool true)] [.push (.bool false)]],.br [.push (.str 45),.push (.str 40),.list 1,.raise] [],.var 6,.var 5,.tup 2,.ret]
noncomputable def f17:List I:=[.var 0,.attr 28,.var 1,.item,.st 3,.var 3,.attr 19,.push (.int 0),.cmp .ne,.br [.var 0,.attr 28,.var 3,.attr 19,.item,.attr 23,.call 0 1,.var 2,.cmp .eq,.br [.push (.bool true)] [.push (.bool false)]] [.push (.bool false)],.br [.var 3,.attr 19,.ret] [],.var 0,.look 29,.var 2,.call 1 1,.var 3,.attr 19,.meth 29 2,.st 4,.var 3,.attr 27,.var 3,.attr 10,.var 3,.attr 17,.var 3,.attr 25,.tup 4,.unt 4,.var 4,.sattr 27,.var 4,.sattr 10,.var 4,.sattr 17,.var 4,.sattr 25,.var 0,.var 1,.var 4,.attr 18,.call 5 3,.pop,.var 4,.attr 18,.var 3,.sattr 19,.var 1,.list 1,.var 4,.sattr 7,.var 4,.attr 18,.ret]
noncomputable def f18:List I:=[.var 0,.var 1,.var 2,.var 3,.call 16 4,.unt 2,.st 5,.st 6,.var 0,.var 1,.var 3,.call 17 3,.st 7,.var 0,.attr 28,.var 0,.var 1,.call 2 2,.push (.int 0),.item,.item,.st 8,.var 0,.look 29,.push (.int 0),.var 7,.meth 29 2,.st 9,.var 8,.attr 27,.var 8,.attr 10,.tup 2,.unt 2,.var 9,.sattr 27,.var 9,.sattr 10,.var 9,.look 32,.var 3,.var 6,.meth 32 2,.pop,.var 9,.look 32,.push (.int 1),.var 3,.bin .sub,.var 0,.attr 28,.var 1,.item,.look 35,.push (.int 1),.var 3,.bin .sub,.meth 35 1,.meth 32 2,.pop,.var 9,.look 33,.var 8,.look 34,.meth 34 0,.meth 33 1,.pop,.var 8,.attr 9,.bi .list 1,.var 9,.sattr 9,.var 0,.attr 28,.var 7,.item,.attr 7,.st 10,.var 10,.look 4,.var 1,.meth 4 1,.st 11,.var 10,.look 3,.var 4,.br [.var 11] [.var 11,.push (.int 1),.bin .add],.var 9,.attr 18,.meth 3 2,.pop,.var 0,.var 1,.var 3,.var 5,.call 8 4,.pop,.var 0,.var 7,.call 19 2,.pop,.var 0,.call 9 1,.pop,.var 9,.attr 18,.ret]
noncomputable def f19b1:List I:=[.var 0,.attr 28,.var 4,.item,.st 5,.var 5,.attr 23,.var 2,.attr 23,.cmp .eq,.br [.var 3,.look 1,.var 5,.attr 7,.meth 1 1,.pop,.var 0,.attr 28,.look 2,.var 4,.meth 2 1,.pop] [.var 3,.look 0,.var 4,.meth 0 1,.pop]]
noncomputable def f19b2:List I:=[.var 1,.var 0,.attr 28,.var 4,.item,.sattr 19]
noncomputable def f19:List I:=[.var 0,.attr 28,.var 1,.item,.st 2,.list 0,.st 3,.var 2,.attr 7,.for1 4 .seq f19b1,.var 3,.for1 4 .seq f19b2,.var 3,.var 2,.sattr 7]
noncomputable def f20t1:List I:=[.var 4,.attr 19,.push (.int 0),.cmp .ne,.br [.var 0,.attr 28,.var 4,.attr 19,.item,.attr 23,.call 0 1,.var 2,.cmp .ne,.br [.push (.bool true)] [.push (.bool false)]] [.push (.bool false)]]
noncomputable def f20b1:List I:=[.var 0,.attr 28,.var 4,.attr 19,.item,.st 4]
noncomputable def f20:List I:=[.var 0,.look 37,.var 1,.meth 37 1,.st 4,.whl f20t1 f20b1,.var 4,.attr 19,.push (.int 0),.cmp .eq,.br [.push (.str 45),.push (.str 38),.list 1,.raise] [],.var 3,.var 0,.var 4,.attr 18,.var 2,.call 12 3,.bi .min 2,.st 5,.var 5,.var 0,.var 4,.attr 18,.var 2,.call 6 3,.var 4,.look 35,.var 2,.meth 35 1,.bin .sub,.bi .max 2,.st 5,.var 5,.push (.int 0),.cmp .ne,.br [.var 0,.var 4,.attr 18,.var 2,.var 5,.call 13 4,.pop] [],.var 5,.ret]
noncomputable def f21:List I:=[.var 0,.list 0,.cmp .ne,.br [.var 0,.look 2,.push (.int 0),.meth 2 1,.var 1,.bin .mod] [.push (.int 0)],.ret]
noncomputable def f22t1:List I:=[.var 2,.list 0,.cmp .ne]
noncomputable def f22b1:List I:=[.var 2,.look 0,.var 3,.push (.str 46),.item,.var 5,.item,.var 4,.var 3,.var 5,.tup 2,.list 1,.bin .add,.tup 2,.meth 0 1,.pop]
noncomputable def f22b2:List I:=[.var 2,.look 2,.meth 2 0,.unt 2,.st 3,.st 4,.var 1,.look 0,.var 3,.var 4,.tup 2,.meth 0 1,.pop,.var 3,.push (.str 46),.item,.bi .len 1,.push (.int 1),.bin .sub,.push (.int (-1)),.push (.int (-1)),.for1 5 .rng3 f22b1]
noncomputable def f22:List I:=[.list 0,.var 0,.list 0,.tup 2,.list 1,.tup 2,.unt 2,.st 1,.st 2,.whl f22t1 f22b2,.var 1,.ret]
noncomputable def f23:List I:=[.push (.str 47),.list 0,.var 0,.var 1,.dict [23,46,49,43],.ret]
noncomputable def f24e1:List I:=[.cvar 0,.var 1,.call 24 2]
noncomputable def f24:List I:=[.var 0,.push (.str 23),.item,.push (.str 47),.cmp .eq,.br [.var 0,.var 1,.item,.ret] [],.var 0,.push (.str 46),.item,.comp .seq 1 f24e1,.st 2,.var 0,.push (.str 23),.item,.var 1,.cmp .eq,.br [.var 2,.bi .sum 1] [.var 2,.push (.int 0),.item],.ret]
noncomputable def f25e1:List I:=[.cvar 0,.var 1,.call 25 2]
noncomputable def f25:List I:=[.var 0,.push (.str 23),.item,.push (.str 47),.cmp .eq,.br [.var 1,.push (.str 49),.cmp .eq,.br [.push (.int 3)] [.push (.int 2)],.ret] [],.var 0,.push (.str 46),.item,.comp .seq 1 f25e1,.st 2,.var 0,.push (.str 23),.item,.var 1,.cmp .eq,.br [.var 2,.bi .sum 1] [.var 2,.bi .max 1],.ret]
noncomputable def f26b1:List I:=[.var 3,.var 1,.var 2,.call 26 3,.pop]
noncomputable def f26e1:List I:=[.cvar 0,.var 1,.call 25 2]
noncomputable def f26e2:List I:=[.cvar 0,.var 1,.call 24 2,.cvar 1,.bin .sub]
noncomputable def f26e3:List I:=[.cvar 0,.var 2,.var 4,.bi .sum 1,.bin .sub,.cvar 1,.bin .mul,.var 5,.bi .sum 1,.bin .fdiv,.bin .add]
noncomputable def f26b2:List I:=[.var 3,.var 1,.var 6,.var 8,.item,.var 8,.var 7,.cmp .lt,.br [.push (.int 1)] [.push (.int 0)],.bin .add,.call 26 3,.pop]
noncomputable def f26:List I:=[.var 0,.push (.str 23),.item,.push (.str 47),.cmp .eq,.br [.var 2,.var 0,.var 1,.sitem] [.var 0,.push (.str 23),.item,.var 1,.cmp .ne,.br [.var 0,.push (.str 46),.item,.for1 3 .seq f26b1] [.var 0,.push (.str 46),.item,.comp .seq 1 f26e1,.st 4,.var 0,.push (.str 46),.item,.var 4,.comp .zip 2 f26e2,.st 5,.var 5,.bi .sum 1,.push (.int 0),.cmp .gt,.br [.var 5] [.push (.int 1),.list 1,.var 5,.bi .len 1,.bin .mul],.st 5,.var 4,.var 5,.comp .zip 2 f26e3,.st 6,.var 2,.var 6,.bi .sum 1,.bin .sub,.st 7,.var 0,.push (.str 46),.item,.for2 8 3 .enum f26b2]]]
noncomputable def f27b1:List I:=[.var 3,.look 1,.var 4,.var 1,.var 2,.call 27 3,.meth 1 1,.pop,.var 0,.push (.str 23),.item,.push (.str 49),.cmp .eq,.br [.var 1,.var 4,.push (.str 49),.call 24 2,.bin .add,.st 1] [.var 2,.var 4,.push (.str 43),.call 24 2,.bin .add,.st 2]]
noncomputable def f27:List I:=[.var 1,.var 2,.var 0,.push (.str 49),.call 24 2,.var 0,.push (.str 43),.call 24 2,.tup 4,.list 1,.st 3,.var 0,.push (.str 46),.item,.for1 4 .seq f27b1,.var 3,.ret]
noncomputable def f28e1:List I:=[.cvar 0,.push (.int 0),.item,.push (.str 23),.item,.push (.str 47),.cmp .eq,.br [.cvar 0] []]
noncomputable def f28:List I:=[.var 0,.call 22 1,.comp .seq 1 f28e1,.var 1,.item,.unt 2,.st 5,.st 6,.var 2,.push .none,.cmp .isn,.br [.var 5,.var 3,.item,.push (.int 2),.bin .fdiv] [.var 2],.st 7,.var 7,.var 5,.var 3,.item,.var 7,.bin .sub,.bi .min 2,.var 5,.var 3,.call 25 2,.cmp .lt,.br [.push .none,.ret] [],.var 5,.push (.str 49),.item,.var 5,.push (.str 43),.item,.call 23 2,.st 8,.var 5,.var 3,.item,.var 7,.bin .sub,.var 7,.tup 2,.unt 2,.var 5,.var 3,.sitem,.var 8,.var 3,.sitem,.var 4,.br [.var 8,.var 5,.list 2] [.var 5,.var 8,.list 2],.st 9,.var 6,.list 0,.cmp .ne,.br [.var 6,.push (.int (-1)),.item,.push (.int 0),.item,.push (.str 23),.item,.var 3,.cmp .eq,.br [.push (.bool true)] [.push (.bool false)]] [.push (.bool false)],.br [.var 9,.var 6,.push (.int (-1)),.item,.push (.int 0),.item,.push (.str 46),.item,.var 6,.push (.int (-1)),.item,.push (.int 1),.item,.var 6,.push (.int (-1)),.item,.push (.int 1),.item,.push (.int 1),.bin .add,.sslice,.var 0,.ret] [],.var 3,.var 9,.dict [23,46],.st 10,.var 6,.list 0,.cmp .eq,.br [.var 10,.ret] [],.var 10,.var 6,.push (.int (-1)),.item,.push (.int 0),.item,.push (.str 46),.item,.var 6,.push (.int (-1)),.item,.push (.int 1),.item,.sitem,.var 0,.ret]
noncomputable def f29:List I:=[.var 2,.var 0,.call 3 1,.bi .len 1,.call 21 2,.var 2,.push (.int 4),.call 21 2,.tup 2,.unt 2,.st 3,.st 4,.push .none,.push (.int 3),.var 2,.push (.int 13),.call 21 2,.bin .add,.push (.int 2),.var 2,.push (.int 9),.call 21 2,.bin .add,.list 3,.var 2,.push (.int 3),.call 21 2,.item,.st 5,.var 1,.var 3,.var 5,.push (.str 43),.push (.str 49),.list 2,.var 4,.push (.int 2),.bin .fdiv,.item,.var 4,.push (.int 2),.bin .mod,.push (.int 1),.cmp .eq,.call 28 5,.st 6,.var 5,.push .none,.cmp .isn,.br [.push .none] [.push (.int 0),.var 5,.bin .sub],.st 7,.tr [.var 0,.var 0,.call 3 1,.var 3,.item,.var 7,.push (.int 1),.push (.int 0),.list 2,.var 4,.push (.int 2),.bin .fdiv,.item,.var 4,.push (.int 2),.bin .mod,.push (.int 1),.cmp .eq,.call 18 5,.pop] (.ifNone 6 1),.var 6,.ret]
noncomputable def f30b1:List I:=[.var 2,.push (.str 23),.item,.var 1,.cmp .eq,.br [.var 2,.push (.str 46),.item,.var 3,.item,.var 2,.push (.str 46),.item,.var 3,.push (.int 1),.bin .add,.drop,.var 2,.push (.str 46),.item,.var 3,.take,.rev,.bin .add,.tup 2,.ret] []]
noncomputable def f30:List I:=[.var 0,.rev,.for2 2 3 .seq f30b1,.push .none,.list 0,.tup 2,.ret]
noncomputable def f31e1:List I:=[.cvar 0,.var 1,.call 24 2,.cvar 0,.var 1,.call 25 2,.bin .sub]
noncomputable def f31b1:List I:=[.var 6,.var 1,.call 24 2,.st 10,.var 9,.push (.int 0),.cmp .gt,.br [.var 9,.var 10,.var 6,.var 1,.call 25 2,.bin .sub,.bi .min 2] [.var 9],.st 11,.var 6,.var 1,.var 10,.var 11,.bin .sub,.call 26 3,.pop,.var 9,.var 11,.bin .sub,.st 9]
noncomputable def f31:List I:=[.var 0,.var 1,.call 30 2,.unt 2,.st 4,.st 5,.var 4,.push .none,.cmp .isn,.br [.push .none,.ret] [],.var 5,.comp .seq 1 f31e1,.bi .sum 1,.st 7,.var 4,.var 1,.call 25 2,.var 4,.var 1,.call 24 2,.bin .sub,.st 8,.var 3,.br [.push (.bool false)] [.push (.bool true)],.br [.var 2,.var 7,.cmp .gt,.br [.push (.bool true)] [.var 2,.var 8,.cmp .lt,.br [.push (.bool true)] [.push (.bool false)]],.br [.push (.bool true)] [.push (.bool false)]] [.push (.bool false)],.br [.push .none,.ret] [],.var 8,.var 2,.var 7,.bi .min 2,.bi .max 2,.st 2,.var 2,.st 9,.var 5,.for1 6 .seq f31b1,.var 4,.var 1,.var 4,.var 1,.call 24 2,.var 2,.bin .add,.call 26 3,.pop,.var 2,.ret]
noncomputable def f32:List I:=[.tr [.var 4,.br [.var 0,.var 1,.var 2,.var 3,.call 20 4,.ret] [],.var 0,.var 1,.var 2,.var 3,.call 13 4,.pop,.var 3,.ret] .none]
noncomputable def f33e1:List I:=[.cvar 0,.bi .abs 1]
noncomputable def f33b1:List I:=[.var 4,.var 5,.var 1,.call 29 3,.st 5,.var 5,.push .none,.cmp .isn,.br [.push (.bool false),.ret] []]
noncomputable def f33e2:List I:=[.var 4,.attr 28,.cvar 0,.item]
noncomputable def f33e3:List I:=[.cvar 0,.attr 17,.cvar 0,.attr 25,.cvar 0,.attr 27,.cvar 0,.attr 10,.tup 4]
noncomputable def f33b2:List I:=[.var 1,.push (.int 2),.call 21 2,.push (.int 1),.cmp .eq,.var 4,.var 4,.attr 21,.call 4 2,.tup 2,.unt 2,.st 8,.st 9,.var 1,.var 9,.bi .len 1,.call 21 2,.var 1,.push (.int 2),.call 21 2,.var 1,.push (.int 25),.call 21 2,.push (.int 12),.bin .sub,.tup 3,.unt 3,.st 10,.st 11,.st 12,.var 5,.call 22 1,.var 10,.item,.push (.int 1),.item,.push (.str 49),.push (.str 43),.list 2,.var 11,.item,.var 12,.var 8,.call 31 4,.st 13,.var 4,.var 9,.var 10,.item,.push (.int 0),.push (.int 1),.list 2,.var 11,.item,.var 12,.var 8,.call 32 5,.var 13,.cmp .ne,.br [.push (.bool false),.ret] [],.var 4,.var 4,.attr 21,.call 4 2,.comp .seq 1 f33e2,.st 14,.var 14,.comp .seq 1 f33e3,.var 5,.push (.int 0),.push (.int 0),.call 27 3,.cmp .ne,.br [.push (.bool false),.ret] [],.var 4,.call 15 1,.push .none,.cmp .nisn,.br [.push (.bool false),.ret] []]
noncomputable def f33:List I:=[.var 0,.push (.int 63),.take,.comp .seq 1 f33e1,.st 1,.push (.int 24),.var 1,.push (.int 40),.call 21 2,.bin .add,.push (.int 12),.var 1,.push (.int 20),.call 21 2,.bin .add,.tup 2,.unt 2,.st 2,.st 3,.var 2,.var 3,.push (.int 1),.push (.int 3),.push (.int 2),.new 1 5,.var 2,.var 3,.call 23 2,.tup 2,.unt 2,.st 4,.st 5,.push (.int 1),.var 1,.push (.int 6),.call 21 2,.bin .add,.for1 6 .rng f33b1,.push (.int 1),.var 1,.push (.int 6),.call 21 2,.bin .add,.for1 7 .rng f33b2,.push (.bool true),.ret]
noncomputable def f34:List I:=[.var 1,.var 0,.sattr 18,.var 2,.var 0,.sattr 23,.var 3,.var 0,.sattr 19,.list 0,.var 0,.sattr 7,.push (.int 0),.var 0,.sattr 17,.push (.int 0),.var 0,.sattr 25,.push (.int 0),.var 0,.sattr 27,.push (.int 0),.var 0,.sattr 10,.push (.int 0),.var 0,.sattr 6,.push (.int 1),.var 0,.sattr 24,.push (.int 1),.var 0,.sattr 20,.push (.int 0),.var 0,.sattr 11,.push (.bool false),.var 0,.sattr 12,.push (.int 0),.var 0,.sattr 26,.list 0,.var 0,.sattr 9,.list 0,.var 0,.sattr 14]
noncomputable def f35:List I:=[.var 1,.push (.int 0),.cmp .eq,.br [.var 0,.attr 27] [.var 0,.attr 10],.ret]
noncomputable def f36:List I:=[.var 1,.push (.int 0),.cmp .eq,.br [.var 2,.var 0,.sattr 27] [.var 2,.var 0,.sattr 10]]
noncomputable def f37:List I:=[.var 1,.push (.int 0),.cmp .eq,.br [.var 0,.attr 17] [.var 0,.attr 25],.ret]
noncomputable def f38:List I:=[.var 0,.attr 6,.var 0,.attr 24,.var 0,.attr 20,.var 0,.attr 11,.tup 4,.ret]
noncomputable def f39:List I:=[.var 1,.unt 4,.var 0,.sattr 6,.var 0,.sattr 24,.var 0,.sattr 20,.var 0,.sattr 11]
noncomputable def f40:List I:=[.dict [],.var 0,.sattr 28,.push (.int 0),.var 0,.sattr 13,.push (.int 0),.var 0,.sattr 8,.var 4,.var 0,.sattr 16,.var 5,.var 0,.sattr 15,.var 0,.look 29,.push (.int 0),.push (.int 0),.meth 29 2,.st 6,.var 1,.var 6,.sattr 27,.var 2,.var 6,.sattr 10,.var 3,.var 6,.sattr 6,.var 6,.attr 18,.var 0,.sattr 21,.var 6,.attr 18,.var 0,.sattr 22,.var 0,.look 36,.var 6,.attr 18,.meth 36 1,.pop]
noncomputable def f41:List I:=[.var 0,.attr 13,.push (.int 1),.bin .add,.var 0,.sattr 13,.var 0,.attr 13,.var 1,.var 2,.new 0 3,.st 3,.var 3,.var 0,.attr 28,.var 0,.attr 13,.sitem,.var 3,.ret]
noncomputable def f42:List I:=[.var 0,.attr 28,.look 5,.var 1,.push .none,.meth 5 2,.st 2,.var 2,.push .none,.cmp .isn,.br [.push (.str 45),.push (.str 39),.list 1,.raise] [],.var 2,.ret]
noncomputable def f43:List I:=[.var 0,.attr 8,.push (.int 1),.bin .add,.var 0,.sattr 8,.var 0,.attr 8,.var 0,.attr 28,.var 1,.item,.sattr 26]
noncomputable def f44:List I:=[.var 1,.push (.int 0),.cmp .eq,.br [.var 0,.attr 16] [.var 0,.attr 15],.ret]
noncomputable def prog:Prog:=⟨[⟨1,1,f0⟩,⟨1,1,f1⟩,⟨2,5,f2⟩,⟨1,1,f3⟩,⟨2,5,f4⟩,⟨3,5,f5⟩,⟨3,6,f6⟩,⟨3,7,f7⟩,⟨4,12,f8⟩,⟨1,7,f9⟩,⟨3,5,f10⟩,⟨2,5,f11⟩,⟨3,3,f12⟩,⟨4,10,f13⟩,⟨2,7,f14⟩,⟨1,5,f15⟩,⟨4,7,f16⟩,⟨3,5,f17⟩,⟨5,12,f18⟩,⟨2,6,f19⟩,⟨4,6,f20⟩,⟨2,2,f21⟩,⟨1,6,f22⟩,⟨2,2,f23⟩,⟨2,3,f24⟩,⟨2,3,f25⟩,⟨3,9,f26⟩,⟨3,5,f27⟩,⟨5,11,f28⟩,⟨3,8,f29⟩,⟨2,4,f30⟩,⟨4,12,f31⟩,⟨5,5,f32⟩,⟨1,15,f33⟩,⟨4,4,f34⟩,⟨2,2,f35⟩,⟨3,3,f36⟩,⟨2,2,f37⟩,⟨1,1,f38⟩,⟨2,2,f39⟩,⟨6,7,f40⟩,⟨3,4,f41⟩,⟨2,3,f42⟩,⟨2,2,f43⟩,⟨2,2,f44⟩],[((0,35),35),((0,32),36),((0,31),37),((0,34),38),((0,33),39),((1,29),41),((1,37),42),((1,36),43),((1,30),44)],[34,40]⟩
section
variable {n:Nat}{h:Hp}{Q:V→Hp→Prop}{Z:Hp→Prop}
theorem call_of {k np ns:Nat}{b:List I}{as:List V}{fr:Fr}(hk:prog.fns[k]?=some ⟨np,ns,b⟩) (hl:as.length=np) (hf:as.map some++List.replicate (ns-np) none=fr) (x:go (cn prog n) (pF Q Z) (kF Q) b fr h []):callP prog (n+1) k as h Q Z:=by
 rw[callP_is]
 refine⟨_,hk,hl,?_⟩
 rw[← callP_is,hf]
 exact x
theorem c0 {a0:V}(x:go (cn prog n) (pF Q Z) (kF Q) f0 (fc a0 (fz 0)) h []):callP prog (n+1) 0 [a0] h Q Z:=call_of rfl rfl rfl x
theorem c1 {a0:V}(x:go (cn prog n) (pF Q Z) (kF Q) f1 (fc a0 (fz 0)) h []):callP prog (n+1) 1 [a0] h Q Z:=call_of rfl rfl rfl x
theorem c2 {a0 a1:V}(x:go (cn prog n) (pF Q Z) (kF Q) f2 (fc a0 (fc a1 (fz 3))) h []):callP prog (n+1) 2 [a0,a1] h Q Z:=call_of rfl rfl rfl x
theorem c3 {a0:V}(x:go (cn prog n) (pF Q Z) (kF Q) f3 (fc a0 (fz 0)) h []):callP prog (n+1) 3 [a0] h Q Z:=call_of rfl rfl rfl x
theorem c4 {a0 a1:V}(x:go (cn prog n) (pF Q Z) (kF Q) f4 (fc a0 (fc a1 (fz 3))) h []):callP prog (n+1) 4 [a0,a1] h Q Z:=call_of rfl rfl rfl x
theorem c5 {a0 a1 a2:V}(x:go (cn prog n) (pF Q Z) (kF Q) f5 (fc a0 (fc a1 (fc a2 (fz 2)))) h []):callP prog (n+1) 5 [a0,a1,a2] h Q Z:=call_of rfl rfl rfl x
theorem c6 {a0 a1 a2:V}(x:go (cn prog n) (pF Q Z) (kF Q) f6 (fc a0 (fc a1 (fc a2 (fz 3)))) h []):callP prog (n+1) 6 [a0,a1,a2] h Q Z:=call_of rfl rfl rfl x
theorem c7 {a0 a1 a2:V}(x:go (cn prog n) (pF Q Z) (kF Q) f7 (fc a0 (fc a1 (fc a2 (fz 4)))) h []):callP prog (n+1) 7 [a0,a1,a2] h Q Z:=call_of rfl rfl rfl x
theorem c8 {a0 a1 a2 a3:V}(x:go (cn prog n) (pF Q Z) (kF Q) f8 (fc a0 (fc a1 (fc a2 (fc a3 (fz 8))))) h []):callP prog (n+1) 8 [a0,a1,a2,a3] h Q Z:=call_of rfl rfl rfl x
theorem c9 {a0:V}(x:go (cn prog n) (pF Q Z) (kF Q) f9 (fc a0 (fz 6)) h []):callP prog (n+1) 9 [a0] h Q Z:=call_of rfl rfl rfl x
theorem c10 {a0 a1 a2:V}(x:go (cn prog n) (pF Q Z) (kF Q) f10 (fc a0 (fc a1 (fc a2 (fz 2)))) h []):callP prog (n+1) 10 [a0,a1,a2] h Q Z:=call_of rfl rfl rfl x
theorem c11 {a0 a1:V}(x:go (cn prog n) (pF Q Z) (kF Q) f11 (fc a0 (fc a1 (fz 3))) h []):callP prog (n+1) 11 [a0,a1] h Q Z:=call_of rfl rfl rfl x
theorem c12 {a0 a1 a2:V}(x:go (cn prog n) (pF Q Z) (kF Q) f12 (fc a0 (fc a1 (fc a2 (fz 0)))) h []):callP prog (n+1) 12 [a0,a1,a2] h Q Z:=call_of rfl rfl rfl x
theorem c13 {a0 a1 a2 a3:V}(x:go (cn prog n) (pF Q Z) (kF Q) f13 (fc a0 (fc a1 (fc a2 (fc a3 (fz 6))))) h []):callP prog (n+1) 13 [a0,a1,a2,a3] h Q Z:=call_of rfl rfl rfl x
theorem c14 {a0 a1:V}(x:go (cn prog n) (pF Q Z) (kF Q) f14 (fc a0 (fc a1 (fz 5))) h []):callP prog (n+1) 14 [a0,a1] h Q Z:=call_of rfl rfl rfl x
theorem c15 {a0:V}(x:go (cn prog n) (pF Q Z) (kF Q) f15 (fc a0 (fz 4)) h []):callP prog (n+1) 15 [a0] h Q Z:=call_of rfl rfl rfl x
theorem c16 {a0 a1 a2 a3:V}(x:go (cn prog n) (pF Q Z) (kF Q) f16 (fc a0 (fc a1 (fc a2 (fc a3 (fz 3))))) h []):callP prog (n+1) 16 [a0,a1,a2,a3] h Q Z:=call_of rfl rfl rfl x
theorem c17 {a0 a1 a2:V}(x:go (cn prog n) (pF Q Z) (kF Q) f17 (fc a0 (fc a1 (fc a2 (fz 2)))) h []):callP prog (n+1) 17 [a0,a1,a2] h Q Z:=call_of rfl rfl rfl x
theorem c18 {a0 a1 a2 a3 a4:V}(x:go (cn prog n) (pF Q Z) (kF Q) f18 (fc a0 (fc a1 (fc a2 (fc a3 (fc a4 (fz 7)))))) h []):callP prog (n+1) 18 [a0,a1,a2,a3,a4] h Q Z:=call_of rfl rfl rfl x
theorem c19 {a0 a1:V}(x:go (cn prog n) (pF Q Z) (kF Q) f19 (fc a0 (fc a1 (fz 4))) h []):callP prog (n+1) 19 [a0,a1] h Q Z:=call_of rfl rfl rfl x
theorem c20 {a0 a1 a2 a3:V}(x:go (cn prog n) (pF Q Z) (kF Q) f20 (fc a0 (fc a1 (fc a2 (fc a3 (fz 2))))) h []):callP prog (n+1) 20 [a0,a1,a2,a3] h Q Z:=call_of rfl rfl rfl x
theorem c21 {a0 a1:V}(x:go (cn prog n) (pF Q Z) (kF Q) f21 (fc a0 (fc a1 (fz 0))) h []):callP prog (n+1) 21 [a0,a1] h Q Z:=call_of rfl rfl rfl x
theorem c22 {a0:V}(x:go (cn prog n) (pF Q Z) (kF Q) f22 (fc a0 (fz 5)) h []):callP prog (n+1) 22 [a0] h Q Z:=call_of rfl rfl rfl x
theorem c23 {a0 a1:V}(x:go (cn prog n) (pF Q Z) (kF Q) f23 (fc a0 (fc a1 (fz 0))) h []):callP prog (n+1) 23 [a0,a1] h Q Z:=call_of rfl rfl rfl x
theorem c24 {a0 a1:V}(x:go (cn prog n) (pF Q Z) (kF Q) f24 (fc a0 (fc a1 (fz 1))) h []):callP prog (n+1) 24 [a0,a1] h Q Z:=call_of rfl rfl rfl x
theorem c25 {a0 a1:V}(x:go (cn prog n) (pF Q Z) (kF Q) f25 (fc a0 (fc a1 (fz 1))) h []):callP prog (n+1) 25 [a0,a1] h Q Z:=call_of rfl rfl rfl x
theorem c26 {a0 a1 a2:V}(x:go (cn prog n) (pF Q Z) (kF Q) f26 (fc a0 (fc a1 (fc a2 (fz 6)))) h []):callP prog (n+1) 26 [a0,a1,a2] h Q Z:=call_of rfl rfl rfl x
theorem c27 {a0 a1 a2:V}(x:go (cn prog n) (pF Q Z) (kF Q) f27 (fc a0 (fc a1 (fc a2 (fz 2)))) h []):callP prog (n+1) 27 [a0,a1,a2] h Q Z:=call_of rfl rfl rfl x
theorem c28 {a0 a1 a2 a3 a4:V}(x:go (cn prog n) (pF Q Z) (kF Q) f28 (fc a0 (fc a1 (fc a2 (fc a3 (fc a4 (fz 6)))))) h []):callP prog (n+1) 28 [a0,a1,a2,a3,a4] h Q Z:=call_of rfl rfl rfl x
theorem c29 {a0 a1 a2:V}(x:go (cn prog n) (pF Q Z) (kF Q) f29 (fc a0 (fc a1 (fc a2 (fz 5)))) h []):callP prog (n+1) 29 [a0,a1,a2] h Q Z:=call_of rfl rfl rfl x
theorem c30 {a0 a1:V}(x:go (cn prog n) (pF Q Z) (kF Q) f30 (fc a0 (fc a1 (fz 2))) h []):callP prog (n+1) 30 [a0,a1] h Q Z:=call_of rfl rfl rfl x
theorem c31 {a0 a1 a2 a3:V}(x:go (cn prog n) (pF Q Z) (kF Q) f31 (fc a0 (fc a1 (fc a2 (fc a3 (fz 8))))) h []):callP prog (n+1) 31 [a0,a1,a2,a3] h Q Z:=call_of rfl rfl rfl x
theorem c32 {a0 a1 a2 a3 a4:V}(x:go (cn prog n) (pF Q Z) (kF Q) f32 (fc a0 (fc a1 (fc a2 (fc a3 (fc a4 (fz 0)))))) h []):callP prog (n+1) 32 [a0,a1,a2,a3,a4] h Q Z:=call_of rfl rfl rfl x
theorem c33 {a0:V}(x:go (cn prog n) (pF Q Z) (kF Q) f33 (fc a0 (fz 14)) h []):callP prog (n+1) 33 [a0] h Q Z:=call_of rfl rfl rfl x
theorem c34 {a0 a1 a2 a3:V}(x:go (cn prog n) (pF Q Z) (kF Q) f34 (fc a0 (fc a1 (fc a2 (fc a3 (fz 0))))) h []):callP prog (n+1) 34 [a0,a1,a2,a3] h Q Z:=call_of rfl rfl rfl x
theorem c35 {a0 a1:V}(x:go (cn prog n) (pF Q Z) (kF Q) f35 (fc a0 (fc a1 (fz 0))) h []):callP prog (n+1) 35 [a0,a1] h Q Z:=call_of rfl rfl rfl x
theorem c36 {a0 a1 a2:V}(x:go (cn prog n) (pF Q Z) (kF Q) f36 (fc a0 (fc a1 (fc a2 (fz 0)))) h []):callP prog (n+1) 36 [a0,a1,a2] h Q Z:=call_of rfl rfl rfl x
theorem c37 {a0 a1:V}(x:go (cn prog n) (pF Q Z) (kF Q) f37 (fc a0 (fc a1 (fz 0))) h []):callP prog (n+1) 37 [a0,a1] h Q Z:=call_of rfl rfl rfl x
theorem c38 {a0:V}(x:go (cn prog n) (pF Q Z) (kF Q) f38 (fc a0 (fz 0)) h []):callP prog (n+1) 38 [a0] h Q Z:=call_of rfl rfl rfl x
theorem c39 {a0 a1:V}(x:go (cn prog n) (pF Q Z) (kF Q) f39 (fc a0 (fc a1 (fz 0))) h []):callP prog (n+1) 39 [a0,a1] h Q Z:=call_of rfl rfl rfl x
theorem c40 {a0 a1 a2 a3 a4 a5:V}(x:go (cn prog n) (pF Q Z) (kF Q) f40 (fc a0 (fc a1 (fc a2 (fc a3 (fc a4 (fc a5 (fz 1))))))) h []):callP prog (n+1) 40 [a0,a1,a2,a3,a4,a5] h Q Z:=call_of rfl rfl rfl x
theorem c41 {a0 a1 a2:V}(x:go (cn prog n) (pF Q Z) (kF Q) f41 (fc a0 (fc a1 (fc a2 (fz 1)))) h []):callP prog (n+1) 41 [a0,a1,a2] h Q Z:=call_of rfl rfl rfl x
theorem c42 {a0 a1:V}(x:go (cn prog n) (pF Q Z) (kF Q) f42 (fc a0 (fc a1 (fz 1))) h []):callP prog (n+1) 42 [a0,a1] h Q Z:=call_of rfl rfl rfl x
theorem c43 {a0 a1:V}(x:go (cn prog n) (pF Q Z) (kF Q) f43 (fc a0 (fc a1 (fz 0))) h []):callP prog (n+1) 43 [a0,a1] h Q Z:=call_of rfl rfl rfl x
theorem c44 {a0 a1:V}(x:go (cn prog n) (pF Q Z) (kF Q) f44 (fc a0 (fc a1 (fz 0))) h []):callP prog (n+1) 44 [a0,a1] h Q Z:=call_of rfl rfl rfl x
end
end Mine
set_option genInjectivity false
namespace Mine
inductive All2 {α β:Type}(R:α→β→Prop):List α→List β→Prop where
 | nil:All2 R [] []
 | cons {a:α} {b:β} {as:List α} {bs:List β}:R a b→All2 R as bs→All2 R (a::as) (b::bs)
theorem All2.imp {α β:Type}{R S:α→β→Prop}(f:∀a b,R a b→S a b) {as:List α}{bs:List β}(x:All2 R as bs):All2 S as bs:=by
 induction x with
 | nil=>exact .nil
 | cons h J ih=>exact .cons (f _ _ h) ih
theorem All2.length {α β:Type}{R:α→β→Prop}{as:List α}{bs:List β}(x:All2 R as bs):as.length=bs.length:=by
 induction x with
 | nil=>rfl
 | cons J J1 ih=>exact congrArg (·+1) ih
theorem All2.append {α β:Type}{R:α→β→Prop}{as as':List α}{bs bs':List β}(x:All2 R as bs) (y:All2 R as' bs'):All2 R (as++as') (bs++bs'):=by
 induction x with
 | nil=>exact y
 | cons h J ih=>exact .cons h ih
theorem All2.flip {α β:Type}{R:α→β→Prop}{as:List α}{bs:List β}(x:All2 R as bs):All2 (fun b a=>R a b) bs as:=by
 induction x with
 | nil=>exact .nil
 | cons h J ih=>exact .cons h ih
theorem All2.get {α β:Type}{R:α→β→Prop}{as:List α}{bs:List β}(x:All2 R as bs) {i:Nat}{a:α}(e:as[i]?=some a):∃b,bs[i]?=some b∧R a b:=by
 induction x generalizing i with
 | nil=>contradiction
 | @cons a' b' J J1 h J2 ih=>
  cases i with
  | zero=>exact Option.some.inj e▸⟨b',rfl,h⟩
  | succ i=>exact ih e
theorem All2.get' {α β:Type}{R:α→β→Prop}{as:List α}{bs:List β}(x:All2 R as bs) {i:Nat}{b:β}(e:bs[i]?=some b):∃a,as[i]?=some a∧R a b:=x.flip.get e
theorem All2.reverse {α β:Type}{R:α→β→Prop}{as:List α}{bs:List β}(x:All2 R as bs):All2 R as.reverse bs.reverse:=by
 induction x with
 | nil=>exact .nil
 | cons h J ih=>simp only[List.reverse_cons];exact ih.append (.cons h .nil)
theorem All2.take {α β:Type}{R:α→β→Prop}{as:List α}{bs:List β}(x:All2 R as bs) (n:Nat):All2 R (as.take n) (bs.take n):=by
 induction x generalizing n with
 | nil=>simp;exact .nil
 | cons h J ih=>cases n with
  | zero=>exact .nil
  | succ n=>exact .cons h (ih n)
theorem All2.drop {α β:Type}{R:α→β→Prop}{as:List α}{bs:List β}(x:All2 R as bs) (n:Nat):All2 R (as.drop n) (bs.drop n):=by
 induction x generalizing n with
 | nil=>simp;exact .nil
 | cons h t ih=>cases n with
  | zero=>exact .cons h t
  | succ n=>exact ih n
theorem All2.set {α β:Type}{R:α→β→Prop}{as:List α}{bs:List β}(x:All2 R as bs) (n:Nat) {a:α}{b:β}(r:R a b):All2 R (as.set n a) (bs.set n b):=by
 induction x generalizing n with
 | nil=>exact .nil
 | cons h t ih=>cases n with
  | zero=>exact .cons r t
  | succ n=>exact .cons h (ih n)
theorem All2.replicate {α β:Type}{R:α→β→Prop}{a:α}{b:β}(r:R a b):∀n,All2 R (List.replicate n a) (List.replicate n b)
 | 0=>.nil
 | n+1=>.cons r (All2.replicate r n)
theorem lim_eq:lim=100000:=rfl
theorem turns_eq:turns=100000:=rfl
theorem intsOf_map:∀(is:List Int),intsOf (is.map V.int)=some is:=by
 intro J1
 induction J1 with
 | nil=>
  exact rfl
 | cons i r J8=>
  rw[List.map_cons,intsOf1,J8];rfl
structure Ch (own:Nat→Prop) (h h':Hp):Prop where
 len:h.length≤h'.length
 keep:∀(i:Nat) (o:O),h[i]?=some o→(¬own i∨∃vs,o=.tup vs)→h'[i]?=some o
abbrev Ro (h h':Hp):Prop:=Ch (fun J=>False) h h'
section
variable {c:Env'}{P:PP}{K:Kt}{fr cf:Fr}{h h' h₀ h₁:Hp}{Z:Hp→Prop}{Q:V→Hp→Prop}{T:V→Hp→Prop}{N:Fr→Hp→Prop}{j i m n:Nat}{v:V}{l:List I}{st:List V}{own own':Nat→Prop}{vs ws:List V}{o ob:O}{p q d:Prop}{α:Type}
theorem lt_of_get (e:h[i]?=some o):i<h.length:=(List.getElem?_eq_some_iff.mp e).1
theorem get_app {l:Hp}(e:h[i]?=some o):(h++l)[i]?=some o:=(List.getElem?_append_left (lt_of_get e)).trans e
theorem get_new:(h++[o])[h.length]?=some o:=List.getElem?_concat_length
theorem get_set (e:h[j]?=some ob):(h.set j o)[j]?=some o:=List.getElem?_set_self (lt_of_get e)
theorem Ch.refl:Ch own h h:=⟨Nat.le_refl _,fun J J e J=>e⟩
theorem Ch.trans (x:Ch own h₀ h) (y:Ch own h h'):Ch own h₀ h':=⟨Nat.le_trans x.len y.len,fun i o e n=>y.keep i o (x.keep i o e n) n⟩
theorem Ch.mem (x:Ch own h₁ h) (w:∀i,own i→own' i):Ch own' h₁ h:=⟨x.len,fun i o e n=>x.keep i o e (n.imp (fun q z=>q (w i z)) id)⟩
theorem Ch.loc {h₂ h₃:Hp}(x:Ch own h₁ h₂) (y:Ch own' h₂ h₃) (w:∀i,i<h₁.length→own' i→own i):Ch own h₁ h₃:=⟨Nat.le_trans x.len y.len,fun i o e n=>y.keep i o (x.keep i o e n) (n.imp (fun q z=>q (w i (lt_of_get e) z)) id)⟩
theorem ro_new:Ro h (h++[o]):=⟨by rw[List.length_append];exact Nat.le_add_right ..,fun J J e J=>get_app e⟩
theorem Ch.at(x:Ch own h₀ h) (y:Ch (fun i=>i=j) h h') (hj:h₀.length≤j∨own j):Ch own h₀ h':=x.loc y fun i l e=>hj.elim (fun k=>absurd (e▸l) (Nat.not_lt.mpr k)) fun w=>e▸w
theorem Ch.ne (y:Ch (fun i=>i=j) h h') (e:h[i]?=some o) (n:i≠j):h'[i]?=some o:=y.keep i o e (.inl n)
theorem Ch.tup (y:Ch own h h') (e:h[i]?=some (.tup vs)):h'[i]?=some (.tup vs):=y.keep i _ e (.inr ⟨_,rfl⟩)
theorem Ch.and (x:Ch own h₀ h) (y:Ro h h'):Ch own h₀ h':=x.loc y fun J J z=>z.elim
theorem Ch.get (x:Ro h h') (e:h[i]?=some o):h'[i]?=some o:=x.keep i o e (.inl id)
theorem Ro.get (x:Ro h h') (e:h[i]?=some o):h'[i]?=some o:=x.keep i o e (.inl id)
theorem Ro.any (x:Ro h h'):Ch own h h':=x.mem fun J z=>z.elim
theorem ch_set (e:h[j]?=some ob) (nt:∀vs,ob≠.tup vs):Ch (fun i=>i=j) h (h.set j o):=⟨by rw[List.length_set];exact Nat.le_refl _,fun i o' e' n=>by
 by_cases q:j=i
 ·subst q
  rcases n with z | ⟨vs,z⟩
  ·exact absurd rfl z
  ·exact absurd (Option.some.inj (e.symm.trans e')) (z▸nt vs)
 ·rw[List.getElem?_set_ne q];exact e'⟩
theorem C.of {r:R α}{Q:α→Hp→Prop}(x:C r Q):∃a h,r=.ok a h∧Q a h:=by
 rw[C_is]at x
 cases r with
 | ok a h=>exact⟨a,h,rfl,x⟩
 | stuck=>exact x.elim
theorem wO.of {o:Option α}{K:α→Prop}(x:wO o K):∃a,o=some a∧K a:=by
 rw[wO_is]at x
 cases o with
 | some a=>exact⟨a,rfl,x⟩
 | none=>exact x.elim
theorem w_ok {a:α}{Q:α→Hp→Prop}(x:Q a h):C (.ok a h) Q:=C_is.mpr x
theorem w_r {r:R α}{a:α}{Q:α→Hp→Prop}(e:r=.ok a h) (x:Q a h):C r Q:=e▸w_ok x
theorem w_some {a:α}{K:α→Prop}(x:K a):wO (some a) K:=wO_is.mpr x
theorem w_o {o:Option α}{a:α}{K:α→Prop}(e:o=some a) (x:K a):wO o K:=e▸w_some x
theorem w_tt (x:p):wB (.bool true) p q:=wB_is.mpr x
theorem w_ff (x:q):wB (.bool false) p q:=wB_is.mpr x
theorem w_t [i:Decidable d] (e:d) (x:p):wB (.bool (decide d)) p q:=by rw[decide_eq_true e];exact w_tt x
theorem w_f [i:Decidable d] (e:¬d) (x:q):wB (.bool (decide d)) p q:=by rw[decide_eq_false e];exact w_ff x
theorem w_nt [i:Decidable d] (e:¬d) (x:p):wB (.bool (!decide d)) p q:=by rw[decide_eq_false e];exact w_tt x
theorem w_nf [i:Decidable d] (e:d) (x:q):wB (.bool (!decide d)) p q:=by rw[decide_eq_true e];exact w_ff x
theorem w_by [i:Decidable d] (x:d→p) (y:¬d→q):wB (.bool (decide d)) p q:=if e:d then w_t e (x e)else w_f e (y e)
theorem w_nby [i:Decidable d] (x:¬d→p) (y:d→q):wB (.bool (!decide d)) p q:=if e:d then w_nf e (y e)else w_nt e (x e)
theorem w_b {b:Bool}(x:b=true→p) (y:b=false→q):wB (.bool b) p q:=match b,x,y with
 | true,x,_=>w_tt (x rfl)
 | false,_,y=>w_ff (y rfl)
theorem w_v {o:Option V}{K:V→Prop}(e:o=some v) (x:K v):wV o K:=by rw[e];exact x
theorem listOf_is (e:h[j]?=some (.list vs)):listOf h (.ref j)=some vs:=by unfold listOf;dsimp only;rw[e]
theorem getA_is {k:Nat}{fs:List (Nat×V)}(e:h[j]?=some (.inst k fs)):getA (.ref j) m h=findF m fs:=by unfold getA;dsimp only;rw[e]
theorem w_attr {k:Nat}{fs:List (Nat×V)}{K:V→Prop}(g:h[j]?=some (.inst k fs)) (q:findF m fs=some v) (x:K v):wO (getA (.ref j) m h) K:=w_o ((getA_is g).trans q) x
theorem w_dk {ds:List (Int×V)}{i:Int}{K:V→Prop}(g:h[j]?=some (.dictI ds)) (q:findK i ds=some v) (x:K v):wO (item (.ref j) (.int i) h) K:=w_o (by unfold item;dsimp only;rw[g];exact q) x
theorem w_dks {ds:List (Nat×V)}{K:V→Prop}(g:h[j]?=some (.dictS ds)) (q:findF i ds=some v) (x:K v):wO (item (.ref j) (.str i) h) K:=w_o (by unfold item;dsimp only;rw[g];exact q) x
theorem seqIx_nat (l:i<n):seqIx n i=some i:=by unfold seqIx;rw[if_pos (Int.natCast_nonneg i),if_pos (Int.ofNat_lt.mpr l)];rfl
theorem w_ix {K:V→Prop}(g:h[j]?=some (.list vs)) (q:vs[i]?=some v) (x:K v):wO (item (.ref j) (.int i) h) K:=w_o (by unfold item;dsimp only;rw[g];dsimp only;rw[seqIx_nat (List.getElem?_eq_some_iff.mp q).1];exact q) x
theorem w_tx {K:V→Prop}(g:h[j]?=some (.tup vs)) (q:vs[i]?=some v) (x:K v):wO (item (.ref j) (.int i) h) K:=w_o (by unfold item;dsimp only;rw[g];dsimp only;rw[seqIx_nat (List.getElem?_eq_some_iff.mp q).1];exact q) x
theorem w_last {K:V→Prop}(g:h[j]?=some (.list (vs++[v]))) (x:K v):wO (item (.ref j) (.int (-1)) h) K:=w_o (by
 unfold item;dsimp only;rw[g];dsimp only
 have e:seqIx (vs++[v]).length (-1)=some vs.length:=by
  rw[List.length_append,List.length_singleton]
  unfold seqIx
  rw[if_neg (by decide),if_pos (by lia)]
  exact congrArg some (by lia)
 rw[e]
 exact List.getElem?_concat_length) x
theorem w_tg {K:List V→Prop}(g:h[i]?=some (.tup vs)) (e:vs.length=n) (x:K vs):wO (tupN (.ref i) n h) K:=by
 refine w_o (a:=vs) ?_ x
 unfold tupN
 dsimp only
 rw[g]
 exact if_pos e
theorem w_list (hl:vs.length≤lim) (x:∀i h',h.length≤i→h'[i]?=some (.list vs)→Ro h h'→Q (.ref i) h'):C (newL vs h) Q:=w_r (if_pos hl) (x _ _ (Nat.le_refl _) get_new ro_new)
theorem w_tup (x:∀i h',h.length≤i→h'[i]?=some (.tup vs)→Ro h h'→Q (.ref i) h'):C (newT vs h) Q:=w_ok (x _ _ (Nat.le_refl _) get_new ro_new)
theorem w_dict (x:∀i h',h.length≤i→h'[i]?=some (.dictI [])→Ro h h'→Q (.ref i) h'):C (newD [] vs h) Q:=w_ok (x _ _ (Nat.le_refl _) get_new ro_new)
theorem w_dictS {k:Nat}{ks:List Nat}(x:∀i h',h.length≤i→h'[i]?=some (.dictS ((k::ks).zip vs))→Ro h h'→Q (.ref i) h'):C (newD (k::ks) vs h) Q:=w_ok (x _ _ (Nat.le_refl _) get_new ro_new)
theorem w_inst {k f:Nat}(e:c.inits[k]?=some f) (x:∀i h',h.length≤i→h'[i]?=some (.inst k [])→Ro h h'→c.calls f (.ref i::vs) h' (fun v h=>v=.none∧Q (.ref i) h) no):wI c k vs h Q:=by
 unfold wI
 exact w_o e (x _ _ (Nat.le_refl _) get_new ro_new)
theorem w_set {k:Nat}{fs:List (Nat×V)}{K:Hp→Prop}(g:h[j]?=some (.inst k fs)) (l:fs.length<100) (z:j≠0) (x:∀h',h'[j]?=some (.inst k (putF m v fs))→Ch (fun i=>i=j) h h'→K h'):wO (setA (.ref j) m v h) K:=
 w_o (by unfold setA;dsimp only;rw[g];exact if_pos ⟨l,z⟩) (x _ (get_set g) (ch_set g fun J e=>by contradiction))
theorem w_put {ds:List (Int×V)}{i:Int}{K:Hp→Prop}(g:h[j]?=some (.dictI ds)) (l:ds.length<lim) (z:j≠0) (x:∀h',h'[j]?=some (.dictI (putK i v ds))→Ch (fun i=>i=j) h h'→K h'):wO (setItem (.ref j) (.int i) v h) K:=
 w_o (by unfold setItem;dsimp only;rw[g];exact if_pos ⟨l,z⟩) (x _ (get_set g) (ch_set g fun J e=>by contradiction))
theorem w_puts {ds:List (Nat×V)}{K:Hp→Prop}(g:h[j]?=some (.dictS ds)) (l:ds.length<lim) (z:j≠0) (x:∀h',h'[j]?=some (.dictS (putF i v ds))→Ch (fun i=>i=j) h h'→K h'):wO (setItem (.ref j) (.str i) v h) K:=
 w_o (by unfold setItem;dsimp only;rw[g];exact if_pos ⟨l,z⟩) (x _ (get_set g) (ch_set g fun J e=>by contradiction))
theorem w_six {K:Hp→Prop}(g:h[j]?=some (.list vs)) (l:i<vs.length) (z:j≠0) (x:∀h',h'[j]?=some (.list (vs.set i v))→Ch (fun i=>i=j) h h'→K h'):wO (setItem (.ref j) (.int i) v h) K:=
 w_o (by unfold setItem;dsimp only;rw[g];exact if_pos ⟨Int.natCast_nonneg _,Int.ofNat_lt.mpr l,z⟩) (x _ (get_set g) (ch_set g fun J e=>by contradiction))
theorem w_slc {a b:Nat}{K:Hp→Prop}(g:h[j]?=some (.list vs)) (gw:h[i]?=some (.list ws)) (ne:i≠j) (l1:a≤b) (l2:b≤vs.length) (l3:vs.length+ws.length≤lim) (z:j≠0) (x:∀h',h'[j]?=some (.list (vs.take a++ws++vs.drop b))→Ch (fun i=>i=j) h h'→K h'):wO (setSlice (.ref j) (.int a) (.int b) (.ref i) h) K:=
 w_o (by
  unfold setSlice
  rw[listOf_is gw];dsimp only;rw[g]
  exact if_pos ⟨fun e=>ne (V.ref.inj e),Int.natCast_nonneg _,Int.ofNat_le.mpr l1,Int.ofNat_le.mpr l2,l3,z⟩) (x _ (get_set g) (ch_set g fun J e=>by contradiction))
theorem ne_nil (g:h[j]?=some (.list (v::vs))) (gi:h[i]?=some (.list [])):cmpop .ne (.ref j) (.ref i) h=some true:=by
 show(veq h (.ref j) (.ref i)).map (!·)=_
 unfold veq;dsimp only;rw[g,gi];rfl
theorem eq_nil (g:h[j]?=some (.list [])) (gi:h[i]?=some (.list [])):cmpop .ne (.ref j) (.ref i) h=some false:=by
 show(veq h (.ref j) (.ref i)).map (!·)=_
 unfold veq;dsimp only;rw[g,gi];rfl
theorem w_ne1 (g:h[j]?=some (.list vs)) (e:vs≠[]) (x:∀h',Ro h h'→go c P K l fr h' (.bool true::st)):C (newL [] h) (kq fr (go c P K (.cmp .ne::l)) (.ref j::st)):=
 w_list (Nat.zero_le _) fun i h' J gi ro=>match vs,g,e with
  | _::_,g,_=>w_o (ne_nil (ro.get g) gi) (x h' ro)
  | [],_,e=>absurd rfl e
theorem w_ne0 (g:h[j]?=some (.list [])) (x:∀h',Ro h h'→go c P K l fr h' (.bool false::st)):C (newL [] h) (kq fr (go c P K (.cmp .ne::l)) (.ref j::st)):=
 w_list (Nat.zero_le _) fun i h' J gi ro=>w_o (eq_nil (ro.get g) gi) (x h' ro)
theorem w_mul {x y:Int}(hx:x.natAbs≤big) (hy:y.natAbs≤big) (k:Q (.int (x*y)) h):C (binop .mul (.int x) (.int y) h) Q:=w_r (if_pos ⟨hx,hy⟩) k
theorem w_div {x y:Int}(hy:0<y) (hz:y<1073741824) (k:Q (.int (x / y)) h):C (binop .fdiv (.int x) (.int y) h) Q:=w_r (if_pos ⟨hy,hz⟩) k
theorem w_mod {x y:Int}(hy:0<y) (k:Q (.int (x % y)) h):C (binop .mod (.int x) (.int y) h) Q:=w_r (if_pos hy) k
theorem w_cat (g:h[i]?=some (.list vs)) (g2:h[j]?=some (.list ws)) (hl:vs.length+ws.length≤lim) (x:∀i h',h.length≤i→h'[i]?=some (.list (vs++ws))→Ro h h'→Q (.ref i) h'):C (binop .add (.ref i) (.ref j) h) Q:=by
 have e:binop .add (.ref i) (.ref j) h=newL (vs++ws) h:=by unfold binop;dsimp only;rw[listOf_is g,listOf_is g2]
 rw[e]
 exact w_list (by rwa[List.length_append]) x
theorem w_rep (g:h[j]?=some (.list [v])) (hn:n≤lim) (x:∀i h',h.length≤i→h'[i]?=some (.list (List.replicate n v))→Ro h h'→Q (.ref i) h'):C (binop .mul (.ref j) (.int n) h) Q:=by
 have e:binop .mul (.ref j) (.int n) h=newL (List.replicate n v) h:=by unfold binop;dsimp only;rw[listOf_is g];exact if_pos ⟨Int.natCast_nonneg _,hn⟩
 rw[e]
 exact w_list (by rwa[List.length_replicate]) x
theorem w_rev (g:h[j]?=some (.list vs)) (hl:vs.length≤lim) (x:∀i h',h.length≤i→h'[i]?=some (.list vs.reverse)→Ro h h'→Q (.ref i) h'):C (revL (.ref j) h) Q:=by
 have e:revL (.ref j) h=newL vs.reverse h:=by unfold revL;rw[listOf_is g]
 rw[e]
 exact w_list (by rwa[List.length_reverse]) x
theorem w_drop (g:h[j]?=some (.list vs)) (hl:vs.length≤lim) (hn:n≤big) (x:∀i h',h.length≤i→h'[i]?=some (.list (vs.drop n))→Ro h h'→Q (.ref i) h'):C (dropL (.ref j) (.int n) h) Q:=by
 have e:dropL (.ref j) (.int n) h=newL (vs.drop n) h:=by unfold dropL;rw[listOf_is g];exact if_pos ⟨Int.natCast_nonneg _,hn⟩
 rw[e]
 exact w_list (Nat.le_trans (by rw[List.length_drop];exact Nat.sub_le ..) hl) x
theorem w_take (g:h[j]?=some (.list vs)) (hl:vs.length≤lim) (hn:n≤big) (x:∀i h',h.length≤i→h'[i]?=some (.list (vs.take n))→Ro h h'→Q (.ref i) h'):C (takeL (.ref j) (.int n) h) Q:=by
 have e:takeL (.ref j) (.int n) h=newL (vs.take n) h:=by unfold takeL;rw[listOf_is g];exact if_pos ⟨Int.natCast_nonneg _,hn⟩
 rw[e]
 exact w_list (Nat.le_trans (by rw[List.length_take];exact Nat.min_le_right ..) hl) x
theorem w_len (g:h[j]?=some (.list vs)) (x:Q (.int vs.length) h):C (builtin .len [.ref j] h) Q:=by
 have e:builtin .len [.ref j] h=match listOf h (.ref j)with | some vs=>.ok (.int vs.length) h | none=>.stuck:=rfl
 rw[e,listOf_is g];exact w_ok x
theorem w_tol (g:h[j]?=some (.list vs)) (hl:vs.length≤lim) (x:∀i h',h.length≤i→h'[i]?=some (.list vs)→Ro h h'→Q (.ref i) h'):C (builtin .list [.ref j] h) Q:=by
 have e:builtin .list [.ref j] h=match listOf h (.ref j)with | some vs=>newL vs h | none=>.stuck:=rfl
 rw[e,listOf_is g];exact w_list hl x
theorem w_sum {is:List Int}(g:h[j]?=some (.list (is.map V.int))) (x:Q (.int is.sum) h):C (builtin .sum [.ref j] h) Q:=by
 have e:builtin .sum [.ref j] h=match(listOf h (.ref j)).bind intsOf with | some is=>.ok (.int is.sum) h | none=>.stuck:=rfl
 rw[e,listOf_is g,Option.bind_some,intsOf_map];exact w_ok x
theorem w_max {is:List Int}{y:Int}(g:h[j]?=some (.list (is.map V.int))) (m:maxI is=some y) (x:Q (.int y) h):C (builtin .max [.ref j] h) Q:=by
 have e:builtin .max [.ref j] h=match(listOf h (.ref j)).bind intsOf with
  | some is=>(match maxI is with | some m=>.ok (.int m) h | none=>.stuck)
  | none=>.stuck:=rfl
 rw[e,listOf_is g,Option.bind_some,intsOf_map]
 dsimp only
 rw[m];exact w_ok x
theorem w_meth {k f:Nat}{fs:List (Nat×V)}{K:V→Prop}(e:h[j]?=some (.inst k fs)) (h1:findF m fs=none) (h2:methOf c.meths k m=some f) (x:K (.str f)):wM c (.ref j) m h K:=by
 unfold wM;dsimp only;rw[e];dsimp only;rw[h1,h2];exact x
theorem w_ml {K:V→Prop}(e:h[j]?=some (.list vs)) (hj:j≠0) (x:K .none) (hm:Nat.blt m 5=true):wM c (.ref j) m h K:=by
 unfold wM;dsimp only;rw[e];exact⟨⟨Nat.le_of_ble_eq_true hm,hj⟩,x⟩
theorem w_md {ds:List (Int×V)}{K:V→Prop}(e:h[j]?=some (.dictI ds)) (x:K .none):wM c (.ref j) 5 h K:=by
 unfold wM;dsimp only;rw[e];exact⟨rfl,x⟩
theorem w_app (g:h[j]?=some (.list vs)) (hl:vs.length<lim) (x:∀h',h'[j]?=some (.list (vs++[v]))→Ch (fun i=>i=j) h h'→Q .none h'):C (objMeth j 0 [v] h) Q:=
 w_r (by unfold objMeth;rw[g];exact if_pos hl) (x _ (get_set g) (ch_set g fun J e=>by contradiction))
theorem w_ext (g:h[j]?=some (.list vs)) (gw:h[i]?=some (.list ws)) (hl:vs.length+ws.length≤lim) (hn:i≠j) (x:∀h',h'[j]?=some (.list (vs++ws))→Ch (fun i=>i=j) h h'→Q .none h'):C (objMeth j 1 [.ref i] h) Q:=
 w_r (by unfold objMeth;rw[g];dsimp only;rw[if_neg (Nat.succ_ne_zero _),if_pos rfl,listOf_is gw];exact if_pos ⟨fun e=>hn (V.ref.inj e),hl⟩) (x _ (get_set g) (ch_set g fun J e=>by contradiction))
theorem w_pop (g:h[j]?=some (.list (vs++[v]))) (x:∀h',h'[j]?=some (.list vs)→Ch (fun i=>i=j) h h'→Q v h'):C (objMeth j 2 [] h) Q:=
 w_r (h:=h.set j (.list vs)) (by unfold objMeth;rw[g];dsimp only;rw[if_neg (Nat.succ_ne_zero _),if_neg (by decide),if_pos rfl,List.getLast?_concat,List.dropLast_concat]) (x _ (get_set g) (ch_set g fun J e=>by contradiction))
theorem w_pop0 (g:h[j]?=some (.list (v::vs))) (x:∀h',h'[j]?=some (.list vs)→Ch (fun i=>i=j) h h'→Q v h'):C (objMeth j 2 [.int 0] h) Q:=
 w_r (h:=h.set j (.list vs)) (by unfold objMeth;rw[g];rfl) (x _ (get_set g) (ch_set g fun J e=>by contradiction))
theorem w_ins (g:h[j]?=some (.list vs)) (hn:n≤vs.length) (hl:vs.length<lim) (x:∀h',h'[j]?=some (.list (vs.take n++v::vs.drop n))→Ch (fun i=>i=j) h h'→Q .none h'):C (objMeth j 3 [.int n,v] h) Q:=
 w_r (h:=h.set j (.list (vs.take n++v::vs.drop n))) (by unfold objMeth;rw[g];dsimp only;rw[if_neg (Nat.succ_ne_zero _),if_neg (by decide),if_neg (by decide),if_pos rfl];exact if_pos ⟨Int.natCast_nonneg _,Int.ofNat_le.mpr hn,hl⟩) (x _ (get_set g) (ch_set g fun J e=>by contradiction))
theorem w_idx {y:Int}{is:List Int}(g:h[j]?=some (.list vs)) (ei:intsOf vs=some is) (en:idxOf (.int y) vs=some n) (x:Q (.int n) h):C (objMeth j 4 [.int y] h) Q:=
 w_r (h:=h) (by unfold objMeth;rw[g];dsimp only;rw[if_neg (Nat.succ_ne_zero _),if_neg (by decide),if_neg (by decide),if_neg (by decide),if_pos rfl,ei];dsimp only;rw[en]) x
theorem w_get {ds:List (Int×V)}{y:Int}{u:V}(g:h[j]?=some (.dictI ds)) (x:Q ((findK y ds).getD u) h):C (objMeth j 5 [.int y,u] h) Q:=
 w_r (h:=h) (by unfold objMeth;rw[g];rfl) x
noncomputable def lw (c:Env') (t b:List I) (T:V→Hp→Prop) (n:Nat) (fr:Fr) (h:Hp) (N:Fr→Hp→Prop):Prop:=wW (fun fr h K=>go c (pL fun J=>no) K t fr h []) (fun fr h K=>go c (pL T) K b fr h []) N n fr h
noncomputable def lf1 (c:Env') (k:Nat) (b:List I) (T:V→Hp→Prop) (n:Nat) (is:IS) (fr:Fr) (h:Hp) (N:Fr→Hp→Prop):Prop:=wF 1 (bind1 k) (fun fr h K=>go c (pL T) K b fr h []) N n is fr h
noncomputable def lf2 (c:Env') (k l:Nat) (b:List I) (T:V→Hp→Prop) (n:Nat) (is:IS) (fr:Fr) (h:Hp) (N:Fr→Hp→Prop):Prop:=wF 2 (bind2 k l) (fun fr h K=>go c (pL T) K b fr h []) N n is fr h
noncomputable def lc (c:Env') (m:Nat) (b:List I) (fr:Fr) (n:Nat) (is:IS) (acc:List V) (h:Hp) (Q:List V→Hp→Prop):Prop:=wC (fun ws h K=>go c (pC ws) K b fr h []) m Q n is acc h
noncomputable def kw (c:Env') (t b:List I) (T:V→Hp→Prop) (n:Nat) (N:Fr→Hp→Prop) (fr:Fr) (h:Hp) (_:List V):Prop:=lw c t b T n fr h N
noncomputable def kt1 (c:Env') (t b:List I) (T:V→Hp→Prop) (n:Nat) (N:Fr→Hp→Prop) (fr _:Fr) (h:Hp) (st:List V):Prop:=p1 st fun v J=>wB v (go c (pL T) (kw c t b T n N) b fr h []) (N fr h)
noncomputable def k1 (c:Env') (k:Nat) (b:List I) (T:V→Hp→Prop) (n:Nat) (is:IS) (N:Fr→Hp→Prop) (fr:Fr) (h:Hp) (_:List V):Prop:=lf1 c k b T n is fr h N
noncomputable def k2 (c:Env') (k l:Nat) (b:List I) (T:V→Hp→Prop) (n:Nat) (is:IS) (N:Fr→Hp→Prop) (fr:Fr) (h:Hp) (_:List V):Prop:=lf2 c k l b T n is fr h N
theorem w_lw {t b:List I}(x:go c (pL fun J=>no) (kt1 c t b T n N fr) t fr h []):lw c t b T (n+1) fr h N:=x
theorem lw_more {t b:List I}(k:Nat) (l:k≤turns) (x:lw c t b T (turns-k+k) fr h N):lw c t b T turns fr h N:=by rwa[Nat.sub_add_cancel l]at x
theorem w_f1 {b:List I}{k:Nat}{is is':IS}(e:nextI is h=some (some ([v],is'))) (x:go c (pL T) (k1 c k b T n is' N) b (fr.set k (some v)) h []):lf1 c k b T (n+1) is fr h N:=w_o e (w_some (a:=[v]) x)
theorem w_f1e {b:List I}{k:Nat}{is:IS}(e:nextI is h=some none) (x:N fr h):lf1 c k b T (n+1) is fr h N:=w_o e x
theorem lf1_more {b:List I}{k:Nat}{is:IS}(m:Nat) (l:m≤turns) (x:lf1 c k b T (turns-m+m) is fr h N):lf1 c k b T turns is fr h N:=by rwa[Nat.sub_add_cancel l]at x
theorem w_f2 {b:List I}{k l:Nat}{is is':IS}{u:V}(e:nextI is h=some (some (vs,is'))) (e2:unpackN 2 vs h=some [v,u]) (x:go c (pL T) (k2 c k l b T n is' N) b ((fr.set k (some v)).set l (some u)) h []):lf2 c k l b T (n+1) is fr h N:=w_o e (w_o e2 x)
theorem w_f2e {b:List I}{k l:Nat}{is:IS}(e:nextI is h=some none) (x:N fr h):lf2 c k l b T (n+1) is fr h N:=w_o e x
theorem lf2_more {b:List I}{k l:Nat}{is:IS}(m:Nat) (hm:m≤turns) (x:lf2 c k l b T (turns-m+m) is fr h N):lf2 c k l b T turns is fr h N:=by rwa[Nat.sub_add_cancel hm]at x
theorem next_seq {q k:Nat}(e:h[q]?=some (.list vs)) (ev:vs[k]?=some v):nextI (.seq q k) h=some (some ([v],.seq q (k+1))):=by
 unfold nextI seqOf;dsimp only;rw[e];dsimp only;rw[ev]
theorem end_seq {q k:Nat}(e:h[q]?=some (.list vs)) (ev:vs.length≤k):nextI (.seq q k) h=some none:=by
 unfold nextI seqOf;dsimp only;rw[e];dsimp only;rw[List.getElem?_eq_none ev]
theorem w_it {Q:IS→Hp→Prop}(g:h[j]?=some (.list vs)) (x:Q (.seq j 0) h):C (itR (.ref j) h) Q:=w_r (by unfold itR seqOf;dsimp only;rw[g];rfl) x
theorem w_zip {Q:IS→Hp→Prop}(g:h[i]?=some (.list vs)) (g2:h[j]?=some (.list ws)) (x:Q (.zip i j 0) h):C (zipR (.ref i) (.ref j) h) Q:=w_r (by unfold zipR;dsimp only;rw[listOf_is g,listOf_is g2];rfl) x
theorem w_enum {Q:IS→Hp→Prop}(g:h[i]?=some (.list vs)) (x:Q (.enum i 0) h):C (enumR (.ref i) h) Q:=w_r (by unfold enumR;dsimp only;rw[listOf_is g];rfl) x
end
theorem findK_put {x y:Int}{w:V}:∀{ds:List (Int×V)},findK x (putK y w ds)=if x=y then some w else findK x ds
 | []=>by by_cases q:x=y<;>simp[putK0,findK0,findK1,q,eq_comm]
 | (a,u)::r=>by
  simp only[putK0,putK1]
  by_cases q:a=y
  ·subst q
   simp only[if_true,findK1]
   by_cases z:x=a<;>simp[z,eq_comm]
  ·simp only[if_neg q,findK1,findK_put]
   by_cases z:a=x
   ·subst z;simp[q]
   ·simp[z]
theorem findF_put {x y:Nat}{w:V}:∀{ds:List (Nat×V)},findF x (putF y w ds)=if x=y then some w else findF x ds
 | []=>by by_cases q:x=y<;>simp[putF0,findF0,findF1,q,eq_comm]
 | (a,u)::r=>by
  simp only[putF0,putF1]
  by_cases q:a=y
  ·subst q
   simp only[if_true,findF1]
   by_cases z:x=a<;>simp[z,eq_comm]
  ·simp only[if_neg q,findF1,findF_put]
   by_cases z:a=x
   ·subst z;simp[q]
   ·simp[z]
theorem putF_le {y:Nat}{w:V}:∀{ds:List (Nat×V)},(putF y w ds).length≤ds.length+1
 | []=>Nat.le_refl _
 | (a,u)::r=>by
  simp only[putF0,putF1]
  split
  ·exact Nat.le_succ _
  ·exact Nat.succ_le_succ putF_le
theorem putF_lt {y n:Nat}{w:V}{ds:List (Nat×V)}(l:ds.length<n):(putF y w ds).length<n+1:=Nat.lt_of_le_of_lt putF_le (Nat.succ_lt_succ l)
theorem putF_same {y:Nat}{w v:V}:∀{ds:List (Nat×V)},findF y ds=some v→(putF y w ds).length=ds.length
 | [],e=>by contradiction
 | (a,u)::r,e=>by
  simp only[putF0,putF1]
  split
  ·rfl
  ·rename_i q
   exact congrArg (·+1) (putF_same ((if_neg q).symm.trans e))
theorem putK_le {x:Int}{w:V}:∀{ds:List (Int×V)},(putK x w ds).length≤ds.length+1
 | []=>Nat.le_refl _
 | (a,u)::r=>by
  simp only[putK0,putK1]
  split
  ·exact Nat.le_succ _
  ·exact Nat.succ_le_succ putK_le
end Mine
set_option genCtorIdx false
namespace Mine
open PySem PySem.W PyProof.Rows
noncomputable def consts:List (String×Int):=[("LEAF",0),("COLUMN",1),("ROW",2),("WIDTH",0),("HEIGHT",1)]
inductive Sv where
 | assign (ts:List Expr) (e:Expr) (p:Pos) | expr (e:Expr) (p:Pos) | ite (t:Expr) (a b:List Stmt) (p:Pos) | whl (t:Expr) (b o:List Stmt) (p:Pos) | for' (t it:Expr) (b o:List Stmt) (p:Pos) | ret (e:Option Expr) (p:Pos)
 | raise (e c:Option Expr) (p:Pos) | try' (b:List Stmt) (hs:List ExceptHandler) (o f:List Stmt) (p:Pos) | fn (n:Str) (a:Arguments) (b:List Stmt) (sc:Scope) | cls (n:Str) (b:List Stmt) | oth
noncomputable def sv (s:Stmt):Sv:=match s with
 | .Assign ts e p=>.assign ts e p
 | .Expr e p=>.expr e p
 | .If t a b p=>.ite t a b p
 | .While t b o p=>.whl t b o p
 | .For t it b o p=>.for' t it b o p
 | .Return e p=>.ret e p
 | .Raise e c p=>.raise e c p
 | .Try b hs o f p=>.try' b hs o f p
 | .FunctionDef n a b _ _ _ sc _ _ _=>.fn n a b sc
 | .ClassDef n _ _ b _ _ _ _ _ _ _=>.cls n b
 | _=>.oth
structure DefSrc where
 args:Arguments
 body:List Stmt
 scope:Scope
noncomputable def findDef (x:String):List Stmt→Option DefSrc
 | []=>none
 | s::r=>match sv s with
  | .fn n a b sc=>if n==Str.ofString x then some ⟨a,b,sc⟩else findDef x r
  | _=>findDef x r
noncomputable def findCls (x:String):List Stmt→Option (List Stmt)
 | []=>none
 | s::r=>match sv s with
  | .cls n b=>if n==Str.ofString x then some b else findCls x r
  | _=>findCls x r
noncomputable def srcs:List (Option DefSrc):=
 (defNames.map fun n=>findDef n PySem.Challenge.pw_sq0004_01.main.body)++
 methNames.map fun p=>(findCls p.1 PySem.Challenge.pw_sq0004_01.main.body).bind (findDef p.2)
noncomputable def addrs:List Addr:=[175,182,189,196,203,210,215,220,225,232,239,246,251,258,265,272,279,286,293,300,307,314,321,328,333,338,343,350,355,362,369,374,381,386,55,62,69,76,83,90,112,119,126,140,154]
noncomputable def fnAddr (f:Nat):Addr:=addrs.getD f 0
noncomputable def clsAddr (c:Nat):Addr:=[93,164].getD c 0
noncomputable def fdOf (o:Obj):Option FuncData:=match o.data with
 | .func fd=>some fd
 | _=>none
noncomputable def sqOf (o:Obj):Option (Array Value×Nat):=match o.data with
 | .seq its n=>some (its,n)
 | _=>none
noncomputable def flOf (o:Obj):Option (Array Value):=match o.data with
 | .fields vs=>some vs
 | _=>none
noncomputable def rfOf (v:Value):Option Addr:=match v with
 | .ref a=>some a
 | _=>none
noncomputable def stOf (v:Value):Option (Str×Tok):=match v with
 | .str x t=>some (x,t)
 | _=>none
noncomputable def itOf' (v:Value):Option (Int×Tok):=match v with
 | .int i t=>some (i,t)
 | _=>none
noncomputable def isNn (v:Value):Bool:=match v with
 | .none=>true
 | _=>false
noncomputable def viewF (d:DefSrc):Arguments×FuncBody×Scope×Addr×List (Str×Addr)×Addr:=(d.args,.stmts d.body,d.scope,mainGlobals,[],builtinsNs)
noncomputable def fnView (K:Frag) (a:Addr):Option (Arguments×FuncBody×Scope×Addr×List (Str×Addr)×Addr):=(K.lookup a).bind fun o=>(fdOf o).map fun fd=>(fd.params,fd.body,fd.scope,fd.globals,fd.closure,fd.builtins)
noncomputable def codeIn (K:Frag) (fd:FuncData):Option Bool:=(rfOf fd.code).bind fun c=>(K.lookup c).bind fun o=>(flOf o).bind fun vs=>vs[1]?.bind fun v=>(stOf v).map fun q=>q.1==fd.qualname
noncomputable def dfltIn (K:Frag) (v:Value):Option Unit:=if isNn v then some ()else(rfOf v).bind fun t=>(K.lookup t).bind fun o=>(sqOf o).map fun J=>()
noncomputable def fnMore (K:Frag) (a:Addr):Option Bool:=(K.lookup a).bind fun o=>(fdOf o).bind fun fd=>if o.cls==.type "function" then(dfltIn K fd.defaults).bind fun J=>codeIn K fd else none
noncomputable def dfltNone (K:Frag) (a:Addr):Option Bool:=(K.lookup a).bind fun o=>(fdOf o).map fun fd=>isNn fd.defaults
noncomputable def lispSrc:Option DefSrc:=(findCls "LispSignal" PySem.Challenge.pw_sq0004_01.main.body).bind (findDef "__init__")
noncomputable def pw (a b c d:Nat):Pos:=⟨a,b,c,d⟩
noncomputable def lispPos:List Pos:=[pw 8 8 8 12,pw 8 8 8 19,pw 8 22 8 28,pw 8 8 8 28,pw 9 8 9 12,pw 9 8 9 17,pw 9 20 9 24,pw 9 8 9 24]
abbrev osa:Value:=.builtin "object.__setattr__"
noncomputable def clsOk (K:Frag) (c:Nat):Bool:=(plainGet K (clsAddr c) ""&&hasDictIn K (clsAddr c))&&(plainOver K (clsAddr c)&&keepIn K (.ref (clsAddr c)))&&(makesIn K (clsAddr c)&&findIn K (.ref (clsAddr c)) "__setattr__"==some (some osa))&&(List.range 29).all fun k=>!attrOk k||findIn K (.ref (clsAddr c)) (strAt k)==some none
noncomputable def methOk (K:Frag) (c m f:Nat):Bool:=findIn K (.ref (clsAddr c)) (strAt m)==some (some (.ref (fnAddr f)))&&isFn K (.ref (fnAddr f))
noncomputable abbrev kObs (K:Frag):=(addrs.map (fnView K),fnView K 35,K.lookup 38,nsIn K mainGlobals "LispSignal",nsIn K 37 "__setattr__",nsIn K 37 "symbol",nsIn K 37 "data",nsIn K 37 "__init__",findIn K (.ref 38) "__setattr__",findIn K (.ref 38) "symbol",findIn K (.ref 38) "data",subIn K (.ref 38) (.type "object"),
 addrs.map (fnMore K),fnMore K 35,dfltNone K 35,consts.map (fun p=>(nsIn K mainGlobals (Str.ofString p.1)).bind fun o=>o.bind fun v=>(itOf' v).map (·.1)),defNames.map (fun n=>nsIn K mainGlobals (Str.ofString n)),clsNames.map (fun n=>nsIn K mainGlobals (Str.ofString n)),
 (["len","sum","max","min","sorted","list","abs","range","zip","enumerate"]:List String).all (fun n=>nsIn K mainGlobals (Str.ofString n)==some none),nsOkIn K 37&&keepIn K (.ref 38),(List.range 2).all (clsOk K),prog.meths.all (fun p=>methOk K p.1.1 p.1.2 p.2),(List.range 45).all (fun f=>keepIn K (.ref (fnAddr f))&&typeIn K (.ref (fnAddr f))==some (.type "function")),
 findIn K (.ref 93) "__init__",findIn K (.ref 164) "__init__")
noncomputable def lispO:Obj:=excClassObj "LispSignal" "LispSignal" 38 37 [.type "Exception"] [.type "Exception",.type "BaseException",.type "object"] true [] [] false none none (some (.ref 22)) none (some (.str "LispSignal" 196)) (some (.str "LispSignal" 204)) (some (.bool true)) "Exception.__new__"
noncomputable abbrev kVal:=(srcs.map (fun d=>d.map viewF),lispSrc.map viewF,some lispO,some (some (Value.ref 38)),some (none:Option Value),some (none:Option Value),some (none:Option Value),some (some (Value.ref 35)),some (some osa),some (none:Option Value),some (none:Option Value),some true,
 List.replicate 45 (some true),some true,some true,consts.map (fun p=>some p.2),(List.range 34).map (fun k=>some (some (Value.ref (fnAddr k)))),(List.range 2).map (fun k=>some (some (Value.ref (clsAddr k)))),
 true,true,true,true,true,some (some (Value.ref (fnAddr 34))),some (some (Value.ref (fnAddr 40))))
noncomputable def fragAt (h:Heap) (l:List Addr):Frag:=l.filterMap fun a=>(h.get? a).map fun o=>(a,o)
theorem fragAt_in {h:Heap}(l:List Addr):(fragAt h l).In h:=by
 intro a o
 induction l with
 | nil=>exact fun e=>(by contradiction)
 | cons b l ih=>
  unfold fragAt
  rw[List.filterMap_cons]
  cases e:h.get? b with
  | none=>exact ih
  | some ob=>
   intro q
   rw[Option.map_some,List.lookup_cons]at q
   cases z:a==b with
   | true=>rw[z]at q;rw[beq_iff_eq.mp z,e];exact q
   | false=>rw[z]at q;exact ih q
noncomputable def kAt:List Addr:=[93,164,3,38,37,35,34,92,163,105,54,55,61,62,68,69,75,76,82,83,89,90,111,112,118,119,125,126,139,140,153,154,174,175,181,182,188,189,195,196,202,203,209,210,214,215,219,220,224,225,231,232,238,239,245,246,250,251,257,258,264,265,271,272,278,279,285,286,292,293,299,300,306,307,313,314,320,321,327,328,332,333,337,338,342,343,349,350,354,355,361,362,368,369,373,374,380,381,385,386]
noncomputable def hook:Hook where
 α:=_
 obs:=fun s=>kObs (fragAt s.heap kAt)
 val:=fun J=>kVal
 says:=fun J h=>∃K,kObs K=kVal∧K.In h
 of:=fun J J e=>⟨_,e,fragAt_in _⟩
 keeps:=fun J J J x k=>x.imp fun J q=>⟨q.1,q.2.keeps k⟩
end Mine
namespace Mine
open PySem PySem.W PyProof.Rows
noncomputable def vq:Program:=view PySem.Challenge.pw_sq0004_01 ((List.range 53).filter fun k=>!([1,3,17,28,34].contains k))
theorem hb (w:World):(openEnds treeTable PySem.Challenge.pw_sq0004_01 w 4664).map (fun s=>kObs (fragAt s.heap kAt))=some kVal:=by kernel_rfl
theorem hc:LeftO PySem.Challenge.pw_sq0004_01 vq [] (fun s=>xlAt vq [] s&&recOk [] s) (fun _=>()) (fun _=>()) 4664:=fun w=>by kernel_rfl
theorem said:PySem.Challenge.rw_sq0004_01.wellSaid=true:=by kernel_rfl
end Mine
namespace Mine
open PySem PySem.W PyProof.Rows
abbrev Nu:=List (Addr×Addr)
abbrev Pl (p:Addr×Addr) (b:Addr):Prop:=b=p.1∨b=p.2
noncomputable def Foot (ν:Nu) (b:Addr):Prop:=∃p∈ν,Pl p b
noncomputable def VR (ν:Nu) (a:V) (v:Value):Prop:=match a with
 | .none=>v=.none
 | .bool b=>v=.bool b
 | .int i=>∃t,v=.int i t
 | .str k=>k<texts.length∧∃t,v=.str (strAt k) t
 | .ref i=>∃p,ν[i]?=some p∧v=.ref p.1
abbrev VRs (ν:Nu):List V→List Value→Prop:=All2 (VR ν)
structure LispF (h₀:Heap) (lisp:Addr)where
 nm:Str
 q:Str
 N:Addr
 bs:List Value
 sn:List Str
 sub:List Value
 ab:Bool
 col:Option Bool
 dd:Option Addr
 k0:Option Value
 k1:Option Value
 k2:Option Value
 k3:Option Value
 k5:Option Value
 mN:Str→Option Value
 obj:h₀.get? lisp=some (excClassObj nm q lisp N bs [.type "Exception",.type "BaseException",.type "object"] true sn sub ab col dd k0 k1 k2 k3 k5 "Exception.__new__")
 ns:h₀.Ns N mN
 noSet:mN "__setattr__"=none
 noSym:mN "symbol"=none
 noData:mN "data"=none
 fI:Addr
 oI:Obj
 fd:FuncData
 p:List Pos
 init:mN "__init__"=some (.ref fI)
 fn:h₀.get? fI=some oI
 fcls:oI.cls=.type "function"
 data:oI.data=.func fd
 body:fd.body=.stmts [.Assign [.Attribute (.Name "self" (p.getD 0 default)) "symbol" (p.getD 1 default)] (.Name "symbol" (p.getD 2 default)) (p.getD 3 default),.Assign [.Attribute (.Name "self" (p.getD 4 default)) "data" (p.getD 5 default)] (.Name "data" (p.getD 6 default)) (p.getD 7 default)]
 binds:∀(s:Shared) (a b c:Value),BindsTo s fd ⟨[a,b,c],[]⟩ [(("self" : Str),a),(("symbol" : Str),b),(("data" : Str),c)]
 kind:fd.scope.kind=.function
 names:fd.scope.names=[(("self" : Str),NameKind.local),(("symbol" : Str),NameKind.local),(("data" : Str),NameKind.local)]
 noCo:fd.scope.isCoroutine=false
 noGen:fd.scope.isGenerator=false
 code:h₀.CodeRec fd.code fd.qualname
structure Facts where
 pr:Program
 w:World
 h₀:Heap
 K:Frag
 X:K.In h₀
 mg:Str→Option Value
 mb:Str→Option Value
 g:h₀.Ns mainGlobals mg
 b:h₀.Ns builtinsNs mb
 nolimit:h₀.NoLimit
 cls:Nat→Addr
 fnA:Nat→Addr
 lisp:Addr
 builtins:∀x:Str,x≠"__name__"→mb x=bootBuiltins x
 low:∃a o,10≤a∧h₀.get? a=some o
 consts:∀p∈consts,∃t,mg (Str.ofString p.1)=some (.int p.2 t)
 defs:∀(k:Nat) (n:String),defNames[k]?=some n→mg (Str.ofString n)=some (.ref (fnA k))
 clss:∀(k:Nat) (n:String),clsNames[k]?=some n→mg (Str.ofString n)=some (.ref (cls k))
 exc:mg "LispSignal"=some (.ref lisp)
 lispF:LispF h₀ lisp
 lispK:keepIn K (.ref lisp)=true
 lispCls:∃cd,clsIn K lisp=some cd∧cd.mro=[.ref lisp,.type "Exception",.type "BaseException",.type "object"]∧cd.hasDict=true
 lispSet:findIn K (.ref lisp) "__setattr__"=some (some (.builtin "object.__setattr__"))
 lispNo:findIn K (.ref lisp) "symbol"=some none∧findIn K (.ref lisp) "data"=some none
 lispSub:subIn K (.ref lisp) (.type "object")=some true
 bis:∀n∈(["len","sum","max","min","sorted","list","abs","range","zip","enumerate"]:List String),mg (Str.ofString n)=none
 ga:∀c,c<2→plainGet K (cls c) ""=true
 hasDict:∀c,c<2→hasDictIn K (cls c)=true
 noAttr:∀c k,c<2→attrOk k=true→findIn K (.ref (cls c)) (strAt k)=some none
 setattr:∀c,c<2→findIn K (.ref (cls c)) "__setattr__"=some (some (.builtin "object.__setattr__"))
 over:∀c,c<2→plainOver K (cls c)=true
 meth:∀c m f,methOf prog.meths c m=some f→findIn K (.ref (cls c)) (strAt m)=some (some (.ref (fnA f)))∧isFn K (.ref (fnA f))=true
 keepF:∀f,f<45→keepIn K (.ref (fnA f))=true
 keepC:∀c,c<2→keepIn K (.ref (cls c))=true
 makes:∀c,c<2→makesIn K (cls c)=true
 init:∀c f,prog.inits[c]?=some f→findIn K (.ref (cls c)) "__init__"=some (some (.ref (fnA f)))∧typeIn K (.ref (fnA f))=some (.type "function")
noncomputable def FR (ν:Nu) (p:Nat×V) (e:DictEntry):Prop:=(p.1<texts.length∧∃t,e.key=.str (strAt p.1) t)∧VR ν p.2 e.val
noncomputable def KI (ν:Nu) (x:Int×V) (y:Int×Value):Prop:=y.1=x.1∧VR ν x.2 y.2
noncomputable def KS (ν:Nu) (x:Nat×V) (y:Str×Value):Prop:=(x.1<texts.length∧y.1=strAt x.1)∧VR ν x.2 y.2
abbrev lsO (its:Array Value) (n:Nat):Obj:={ cls:=.type "list",data:=.seq its n }
abbrev tpO (its:Array Value) (n:Nat):Obj:={ cls:=.type "tuple",data:=.seq its n }
inductive OA (F:Facts) (ν:Nu) (H:Heap) (p:Addr×Addr):O→Prop where
 | list {vs:List V} {its:Array Value} {n:Nat} (e:p.2=p.1) (l:vs.length≤lim) (g:H.get? p.1=some (lsO its n)) (q:VRs ν vs its.toList):OA F ν H p (.list vs)
 | tup {vs:List V} {its:Array Value} {n:Nat} (e:p.2=p.1) (l:vs.length≤lim) (g:H.get? p.1=some (tpO its n)) (q:VRs ν vs its.toList):OA F ν H p (.tup vs)
 | dictI {es:List (Int×V)} {kvs:List (Int×Value)} (e:p.2=p.1) (z:p.1≠sysModules) (l:es.length≤lim) (g:H.DictOf (intKind F.pr F.w) p.1 kvs) (q:All2 (KI ν) es kvs):OA F ν H p (.dictI es)
 | dictS {es:List (Nat×V)} {kvs:List (Str×Value)} (e:p.2=p.1) (z:p.1≠sysModules) (l:es.length≤lim) (g:H.DictOf (strKind F.pr F.w) p.1 kvs) (q:All2 (KS ν) es kvs):OA F ν H p (.dictS es)
 | inst {c:Nat} {fs:List (Nat×V)} {es:List DictEntry} {n:Nat} (c2:c<2) (e:p.2≠p.1) (l:fs.length≤100) (g:H.get? p.1=some (instObj (F.cls c) p.2)) (d:H.get? p.2=some (dictOf es n)) (q:All2 (FR ν) fs es):OA F ν H p (.inst c fs)
structure HR (F:Facts) (ν:Nu) (h:Hp) (H:Heap):Prop where
 len:ν.length=h.length
 obj:∀(i:Nat) (o:O) (p:Addr×Addr),h[i]?=some o→ν[i]?=some p→OA F ν H p o
 disj:∀(i j:Nat) (p q:Addr×Addr) (b:Addr),ν[i]?=some p→ν[j]?=some q→Pl p b→Pl q b→i=j
 fresh:∀(i:Nat) (p:Addr×Addr) (b:Addr),0<i→ν[i]?=some p→Pl p b→F.h₀.get? b=none
 keep:∀b o,F.h₀.get? b=some o→H.get? b=some o
noncomputable def framesOf (fs:List Env):List Addr:=fs.filterMap (·.frame)
noncomputable def Sl (o:Obj) (r:Option Obj):Prop:=∃sl,r=some { o with slots:=sl }
inductive Ext (ν:Nu) (H:Heap):Nu→Prop where
 | mk {l:Nu} (n:∀p∈l,∀b,Pl p b→H.get? b=none):Ext ν H (ν++l)
abbrev Kps (H H':Heap):Prop:=∀b o,H.get? b=some o→H'.get? b=some o
structure Ctx extends Facts where
 A:Around
 fs:List Env
 handled:A.handled=none
 units:A.units+64<cLine
 room:A.depth+5<recursionLimit
abbrev Ctx.wp {α:Type}(Γ:Ctx) (t:Sem α) (Q:α→Shared→Prop) (E:Value→Shared→Prop) (s:Shared):Prop:=wpAny (model Γ.pr Γ.w) Γ.A t Q E s
structure Wd where
 ν:Nu
 s:Shared
abbrev Wd.H (σ:Wd):Heap:=σ.s.heap
structure Tr (Γ:Ctx) (σ σ':Wd):Prop where
 ext:Ext σ.ν σ.H σ'.ν
 kept:∀b o,σ.H.get? b=some o→¬Foot σ.ν b→(b∉framesOf Γ.fs→σ'.H.get? b=some o)∧Sl o (σ'.H.get? b)
 gens:σ'.s.gens=σ.s.gens
 os:σ'.s.os=σ.s.os
structure St (Γ:Ctx) (h:Hp) (σ:Wd):Prop where
 hr:HR Γ.toFacts σ.ν h σ.H
 funs:σ.H.FunFrames Γ.h₀ Γ.fs
 out:∀b∈framesOf Γ.fs,¬Foot σ.ν b
section
variable {F:Facts}{fs:List Env}{ν ν' l:Nu}{a v:V}{u:Value}{H H':Heap}{h h':Hp}{p:Addr×Addr}{o:O}{ob:Obj}{b:Addr}{i:Nat}{E:Value→Shared→Prop}{r:V}{Q:Value→Shared→Prop}{fl:List Addr}{ν₁ ν₂ ν₃:Nu}{h₂:Hp}{n:Nat}{us:List Value}{vs:List V}{rr:V}{G:Prop}
theorem nu_app (e:ν[i]?=some p):(ν++l)[i]?=some p:=(List.getElem?_append_left (List.getElem?_eq_some_iff.mp e).1).trans e
theorem VR.mono (x:VR ν a u):VR (ν++l) a u:=by
 cases a with
 | ref i=>exact let⟨p,hp,e⟩:=x;⟨p,nu_app hp,e⟩
 | _=>exact x
theorem VR.ext (e:Ext ν H ν') (x:VR ν a u):VR ν' a u:=by cases e;exact x.mono
theorem VRs.ext (e:Ext ν H ν') (x:VRs ν vs us):VRs ν' vs us:=x.imp fun J J q=>q.ext e
theorem VRs.mono (x:VRs ν vs us):VRs (ν++l) vs us:=x.imp fun J J q=>q.mono
theorem Foot.mono (x:Foot ν b):Foot (ν++l) b:=let⟨p,hp,e⟩:=x;⟨p,List.mem_append_left _ hp,e⟩
theorem foot_at (e:ν[i]?=some p) (x:Pl p b):Foot ν b:=⟨p,List.mem_of_getElem? e,x⟩
theorem OA.to (x:OA F ν H p o) (e:∀b o,Pl p b→H.get? b=some o→H'.get? b=some o):OA F (ν++l) H' p o:=by
 have e1:=fun o=>e p.1 o (.inl rfl)
 have dk:∀{P:Type} [DecidableEq P] {k:KeyKind F.pr F.w P} {kvs:List (P×Value)},H.DictOf k p.1 kvs→H'.DictOf k p.1 kvs:=fun J2=>J2.elim fun o J3=>J3.elim fun es J4=>J4.elim fun ep J5=>J5.elim fun h1 h2=>⟨o,es,ep,e1 o h1,h2⟩
 cases x with
 | list a b c d=>exact .list a b (e1 _ c) d.mono
 | tup a b c d=>exact .tup a b (e1 _ c) d.mono
 | dictI a z b c d=>exact .dictI a z b (dk c) (d.imp fun J J z=>⟨z.1,z.2.mono⟩)
 | dictS a z b c d=>exact .dictS a z b (dk c) (d.imp fun J J z=>⟨z.1,z.2.mono⟩)
 | inst a z b c g d=>exact .inst a z b (e1 _ c) (e _ _ (.inr rfl) g) (d.imp fun J J z=>⟨z.1,z.2.mono⟩)
theorem OA.there (x:OA F ν H p o) (q:Pl p b):H.get? b≠none:=by
 have key:∀{o1 o2:Obj},H.get? p.1=some o1→H.get? p.2=some o2→H.get? b≠none:=fun{o1 o2} k1 k2=>q.elim (fun q=>q▸k1▸Option.some_ne_none _) fun q=>q▸k2▸Option.some_ne_none _
 have dk:∀{P:Type} [DecidableEq P] {k:KeyKind F.pr F.w P} {kvs:List (P×Value)},H.DictOf k p.1 kvs→p.2=p.1→H.get? b≠none:=fun J6 e=>J6.elim fun J J7=>J7.elim fun J J8=>J8.elim fun J J9=>J9.elim fun c J=>key c (e▸c)
 cases x with
 | list a J c J1=>exact key c (a▸c)
 | tup a J c J1=>exact key c (a▸c)
 | dictI a J J1 c J2=>exact dk c a
 | dictS a J J1 c J2=>exact dk c a
 | inst J J1 J2 c g J3=>exact key c g
theorem HR.get (R:HR F ν h H) (e:h[i]?=some o) (x:∀p,ν[i]?=some p→OA F ν H p o→G):G:=
 have hi:i<ν.length:=R.len.symm▸(List.getElem?_eq_some_iff.mp e).1
 x _ (List.getElem?_eq_getElem hi) (R.obj i o _ e (List.getElem?_eq_getElem hi))
theorem HR.alloc (R:HR F ν h H) (x:Foot ν b):H.get? b≠none:=by
 obtain⟨p,hp,e⟩:=x
 obtain⟨i,hi,q⟩:=List.mem_iff_getElem.mp hp
 have q:=List.getElem?_eq_some_iff.mpr ⟨hi,q⟩
 exact(R.obj i _ _ (List.getElem?_eq_getElem (R.len▸hi)) q).there e
theorem nfoot (R:HR F ν h H) (e:H.get? b=none):¬Foot ν b:=fun q=>R.alloc q e
theorem HR.keeps (R:HR F ν h H) (e:∀b o,Foot ν b→H.get? b=some o→H'.get? b=some o) (k:∀b o,F.h₀.get? b=some o→H'.get? b=some o):HR F ν h H' where
 len:=R.len
 obj:=fun i o p ho hp=>by
  have:=(R.obj i o p ho hp).to (l:=[]) fun b ob hb q=>e b ob (foot_at hp hb) q
  rwa[List.append_nil]at this
 disj:=R.disj
 fresh:=R.fresh
 keep:=k
theorem HR.keepAll (R:HR F ν h H) (e:Kps H H'):HR F ν h H':=R.keeps (fun b o J q=>e b o q) fun b o q=>e b o (R.keep b o q)
theorem get_push {α:Type}{l:List α}{a b:α}{i:Nat}{G:Prop}(e:(l++[a])[i]?=some b) (x:i<l.length→l[i]?=some b→G) (y:i=l.length→b=a→G):G:=by
 by_cases hi:i<l.length
 ·exact x hi ((List.getElem?_append_left hi).symm.trans e)
 ·rw[List.getElem?_append_right (Nat.not_lt.mp hi),List.getElem?_singleton]at e
  split at e
  ·exact y (by lia) (Option.some.inj e).symm
  ·contradiction
theorem low_none (k:Kps F.h₀ H) (e:H.get? b=none):F.h₀.get? b=none:=by
 cases z:F.h₀.get? b with
 | none=>rfl
 | some o=>exact absurd ((k _ _ z).symm.trans e) (Option.some_ne_none _)
theorem HR.push (R:HR F ν h H) (e:∀b o,Foot ν b→H.get? b=some o→H'.get? b=some o) (k:Kps F.h₀ H') (nf:∀b,Pl p b→¬Foot ν b) (low:∀b,Pl p b→F.h₀.get? b=none) (ho:OA F (ν++[p]) H' p o):HR F (ν++[p]) (h++[o]) H' where
 len:=by rw[List.length_append,List.length_append,R.len];rfl
 obj:=fun i x q hx hq=>get_push hx
  (fun l hx=>get_push hq (fun J hq=>(R.obj i x q hx hq).to fun b ob hb z=>e b ob (foot_at hq hb) z) fun e J=>absurd l (by rw[← R.len,e];exact Nat.lt_irrefl _))
  fun e hx=>get_push hq (fun l J=>absurd l (by rw[R.len,e];exact Nat.lt_irrefl _)) fun J hq=>hx▸hq▸ho
 disj:=fun i j q r b hq hr x y=>get_push hq
  (fun l hq=>get_push hr (fun J hr=>R.disj i j q r b hq hr x y) fun J e=>absurd (foot_at hq x) (nf b (e▸y)))
  fun e1 e=>get_push hr (fun J hr=>absurd (foot_at hr y) (nf b (e▸x))) fun e2 J=>e1.trans e2.symm
 fresh:=fun i q b hi hq x=>get_push hq (fun J hq=>R.fresh i q b hi hq x) fun J e=>low b (e▸x)
 keep:=k
theorem HR.set (R:HR F ν h H) (hi0:0<i) (hp:ν[i]?=some p) (hs:∀b o,¬Pl p b→H.get? b=some o→H'.get? b=some o) (ho:OA F ν H' p o):HR F ν (h.set i o) H' where
 len:=by rw[List.length_set];exact R.len
 obj:=fun j x q hx hq=>by
  by_cases hij:i=j
  ·subst hij
   rw[List.getElem?_set_self (R.len▸(List.getElem?_eq_some_iff.mp hp).1)]at hx
   exact Option.some.inj hx▸Option.some.inj (hp.symm.trans hq)▸ho
  ·rw[List.getElem?_set_ne hij]at hx
   have:=(R.obj j x q hx hq).to (l:=[]) fun b ob hb e=>hs b ob (fun z=>hij (R.disj i j p q b hp hq z hb)) e
   rwa[List.append_nil]at this
 disj:=R.disj
 fresh:=R.fresh
 keep:=fun b ob hb=>hs b ob (fun z=>by rw[R.fresh i p b hi0 hp z]at hb;contradiction) (R.keep b ob hb)
theorem Ext.refl:Ext ν H ν:=by
 have:Ext ν H (ν++[]):=.mk fun J h=>(by contradiction)
 rwa[List.append_nil]at this
theorem Sl.refl (e:H.get? b=some ob):Sl ob (H.get? b):=⟨ob.slots,e⟩
theorem Ext.notFoot (x:Ext ν H ν') (e:H.get? b=some ob) (n:¬Foot ν b):¬Foot ν' b:=by
 cases x with
 | mk m=>exact fun J1=>J1.elim fun p J2=>J2.elim fun hp hb=>(List.mem_append.mp hp).elim (fun z=>n ⟨p,z,hb⟩) fun z=>absurd (e.symm.trans (m p z b hb)) (Option.some_ne_none _)
theorem Ext.foot (x:Ext ν H ν') (q:Foot ν b):Foot ν' b:=by cases x;exact q.mono
theorem VR.at(x:VR ν (.ref i) u) (e:ν[i]?=some p):u=.ref p.1:=x.elim fun J q=>q.2.trans (congrArg (fun p=>Value.ref p.1) (Option.some.inj (q.1.symm.trans e)))
theorem none_size (H:Heap):H.get? H.objs.size=none:=by
 cases q:H.get? H.objs.size with
 | none=>rfl
 | some o=>exact absurd (Heap.lt_size q) (Nat.lt_irrefl _)
theorem push_keeps (H:Heap) (o:Obj):Kps H (H.push o):=fun J J e=>Heap.get?_push_of_some o e
theorem funs_keep {B:Heap}{fs:List Env}:H.FunFrames B fs→(∀b∈framesOf fs,∀o,H.get? b=some o→(∀vs,o.data≠.fields vs)→∃o',H'.get? b=some o'∧∀vs,o'.data≠.fields vs)→H'.FunFrames B fs:=by
 induction fs with
 | nil=>exact fun J J=>trivial
 | cons env fs ih=>
  intro x k
  obtain⟨L,o,hf,hn,ho,hd⟩:=x.2.1
  have e:framesOf (env::fs)=L::framesOf fs:=by unfold framesOf;rw[List.filterMap_cons,hf]
  rw[e]at k
  exact(k L (.head _) o ho hd).elim fun o' hs=>⟨x.1,⟨L,o',hf,hn,hs.1,hs.2⟩,ih x.2.2 fun b hb=>k b (.tail _ hb)⟩
end
section
variable {Γ:Ctx}{σ σ' σ₁ σ₂ σ₃:Wd}{h h' h₁ h₂:Hp}{a r:V}{vs:List V}{u:Value}{us:List Value}{Q:Value→Shared→Prop}{i n:Nat}{p:Addr×Addr}{o:O}{b:Addr}{G:Prop}
theorem Tr.refl:Tr Γ σ σ:=⟨.refl,fun b o q J=>⟨fun J=>q,Sl.refl q⟩,rfl,rfl⟩
theorem Tr.free (x:Tr Γ σ σ₁) (R:HR Γ.toFacts σ₁.ν h₁ σ₁.H) (e:σ₁.H.get? b=none):σ.H.get? b=none:=by
 cases q:σ.H.get? b with
 | none=>rfl
 | some o=>
  by_cases hf:Foot σ.ν b
  ·exact absurd e (R.alloc (x.ext.foot hf))
  ·exact(x.kept b o q hf).2.elim fun sl z=>nomatch e.symm.trans z
theorem Tr.trans (x:Tr Γ σ₁ σ₂) (R:HR Γ.toFacts σ₂.ν h₂ σ₂.H) (y:Tr Γ σ₂ σ₃):Tr Γ σ₁ σ₃ where
 ext:=by
  have e1:=x.ext
  have e2:=y.ext
  have f:=fun b=>x.free (b:=b) R
  generalize σ₂.ν=ν₂ at e1 e2
  generalize σ₃.ν=ν₃ at e2
  cases e1 with
  | mk n₁=>cases e2 with
   | mk n₂=>
    rw[List.append_assoc]
    exact .mk fun p hp b q=>(List.mem_append.mp hp).elim (fun z=>n₁ p z b q) fun z=>f b (n₂ p z b q)
 kept:=fun b o e n=>
  have n₂:=x.ext.notFoot e n
  have k:=x.kept b o e n
  ⟨fun hb=>(y.kept b o (k.1 hb) n₂).1 hb,k.2.elim fun sl c=>(y.kept b _ c n₂).2⟩
 gens:=y.gens.trans x.gens
 os:=y.os.trans x.os
theorem St.tr (S:St Γ h σ) (T:Tr Γ σ σ') (R:HR Γ.toFacts σ'.ν h' σ'.H):St Γ h' σ' where
 hr:=R
 funs:=funs_keep S.funs fun b hb o ho hd=>(T.kept b o ho (S.out b hb)).2.elim fun sl e=>⟨_,e,hd⟩
 out:=fun b hb=>(S.funs.mem hb).2.elim fun o ho=>T.ext.notFoot ho.1 (S.out b hb)
theorem St.nf (S:St Γ h σ) (e:σ.H.get? b=none):¬Foot σ.ν b:=nfoot S.hr e
abbrev Kq (Γ:Ctx) (σ:Wd) (Q:Value→Shared→Prop) (r:V) (h':Hp):Prop:=∀σ' v,St Γ h' σ'→Tr Γ σ σ'→VR σ'.ν r v→Q v σ'.s
abbrev Kn (Γ:Ctx) (σ:Wd) (Q:Unit→Shared→Prop) (h':Hp):Prop:=∀σ',St Γ h' σ'→Tr Γ σ σ'→Q () σ'.s
abbrev Wd.to (σ:Wd) (H:Heap) (n:Nat):Wd:=⟨σ.ν,{ σ.s with heap:=H,toks:=n }⟩
theorem St.more {H':Heap}(S:St Γ h σ) (e:Kps σ.H H'):St Γ h (σ.to H' n)∧Tr Γ σ (σ.to H' n):=
 have T:Tr Γ σ (σ.to H' n):=⟨.refl,fun b o q J=>⟨fun J=>e b o q,Sl.refl (e b o q)⟩,rfl,rfl⟩
 ⟨S.tr T (S.hr.keepAll e),T⟩
theorem Kq.more {H':Heap}(k:Kq Γ σ Q r h) (S:St Γ h σ) (q:VR σ.ν r u) (e:Kps σ.H H'):Q u { σ.s with heap:=H',toks:=n }:=k (σ.to H' n) u (S.more e).1 (S.more e).2 q
theorem Kq.now (k:Kq Γ σ Q r h) (S:St Γ h σ) (q:VR σ.ν r u):Q u σ.s:=k σ u S .refl q
theorem Kq.tok (k:Kq Γ σ Q r h) (S:St Γ h σ) (q:VR σ.ν r u):Q u { σ.s with toks:=n }:=k.more S q fun J J e=>e
theorem size_sys (S:St Γ h σ):σ.H.objs.size≠sysModules:=fun z=>Γ.low.elim fun a x=>x.elim fun o x=>by
 have:=Heap.lt_size (S.hr.keep a o x.2)
 rw[z]at this
 exact absurd (Nat.lt_of_le_of_lt (show @LE.le Nat _ 10 a from x.1) this) (by decide)
theorem adopt {a:Addr}{s₂:Shared}(S:St Γ h σ) (T:Tr Γ σ σ₁) (S₁:St Γ h' σ₁) (n:σ.H.get? a=none) (nf:¬Foot σ₁.ν a) (k:∀b o,b≠a→σ₁.H.get? b=some o→s₂.heap.get? b=some o) (ho:OA Γ.toFacts (σ₁.ν++[(a,a)]) s₂.heap (a,a) o) (g:s₂.gens=σ₁.s.gens) (os:s₂.os=σ₁.s.os) :
  St Γ (h'++[o]) ⟨σ₁.ν++[(a,a)],s₂⟩∧Tr Γ σ ⟨σ₁.ν++[(a,a)],s₂⟩∧VR (σ₁.ν++[(a,a)]) (.ref h'.length) (.ref a):=by
 have low:=low_none S.hr.keep n
 have pl:∀b,Pl (a,a) b→b=a:=fun b q=>q.elim id id
 have R:HR Γ.toFacts (σ₁.ν++[(a,a)]) (h'++[o]) s₂.heap:=S₁.hr.push (fun b o q e=>k b o (fun z=>nf (z▸q)) e) (fun b o e=>k b o (fun z=>nomatch (z▸low).symm.trans e) (S₁.hr.keep b o e)) (fun b q=>pl b q▸nf) (fun b q=>pl b q▸low) ho
 have T₂:Tr Γ σ ⟨σ₁.ν++[(a,a)],s₂⟩:=by
  refine⟨?_,fun b o e q=>?_,g.trans T.gens,os.trans T.os⟩
  ·have e1:=T.ext
   show Ext σ.ν σ.H (σ₁.ν++[(a,a)])
   generalize σ₁.ν=ν₁ at e1
   cases e1 with
   | mk e2=>
    rw[List.append_assoc]
    exact .mk fun p hp b q=>(List.mem_append.mp hp).elim (fun z=>e2 p z b q) fun z=>pl b (List.mem_singleton.mp z▸q)▸n
  ·have nb:b≠a:=fun z=>nomatch (z▸n).symm.trans e
   have x:=T.kept b o e q
   exact⟨fun z=>k _ _ nb (x.1 z),x.2.elim fun sl y=>⟨sl,k _ _ nb y⟩⟩
 exact⟨S.tr T₂ R,T₂,(a,a),by rw[List.getElem?_append_right (by rw[S₁.hr.len];exact Nat.le_refl _),S₁.hr.len,Nat.sub_self];rfl,rfl⟩
theorem Kq.new {a:Addr}{H':Heap}{n:Nat}(k:Kq Γ σ Q (.ref h.length) (h++[o])) (S:St Γ h σ) (nn:σ.H.get? a=none) (e:Kps σ.H H') (ho:OA Γ.toFacts (σ.ν++[(a,a)]) H' (a,a) o):Q (.ref a) { σ.s with heap:=H',toks:=n }:=
 have x:=adopt (s₂:={ σ.s with heap:=H',toks:=n }) S .refl S nn (S.nf nn) (fun b o J q=>e b o q) ho rfl rfl
 k _ _ x.1 x.2.1 x.2.2
theorem St.set {s':Shared}(S:St Γ h σ) (hi0:0<i) (hp:σ.ν[i]?=some p) (hs:∀b o,¬Pl p b→σ.H.get? b=some o→s'.heap.get? b=some o) (ho:OA Γ.toFacts σ.ν s'.heap p o) (g:s'.gens=σ.s.gens) (os:s'.os=σ.s.os):St Γ (h.set i o) ⟨σ.ν,s'⟩∧Tr Γ σ ⟨σ.ν,s'⟩:=
 have T:Tr Γ σ ⟨σ.ν,s'⟩:=⟨.refl,fun b ob e n=>have e':=hs b ob (fun z=>n (foot_at hp z)) e;⟨fun J=>e',Sl.refl e'⟩,g,os⟩
 ⟨S.tr T (S.hr.set hi0 hp hs ho),T⟩
theorem VR.list (x:VR σ.ν (.ref i) u) (S:St Γ h σ) (ho:h[i]?=some (.list vs)) (k:∀p its n,u=.ref p.1→σ.ν[i]?=some p→p.2=p.1→vs.length≤lim→σ.H.get? p.1=some (lsO its n)→VRs σ.ν vs its.toList→its.size=vs.length→G):G:=
 S.hr.get ho fun q hq y=>match y with
  | .list h1 h2 h3 h4=>k q _ _ (x.at hq) hq h1 h2 h3 h4 (by rw[h4.length,Array.length_toList])
theorem tup_at (S:St Γ h σ) (ho:h[i]?=some (.tup vs)) (x:VR σ.ν (.ref i) u) (k:∀p its n,u=.ref p.1→σ.ν[i]?=some p→vs.length≤lim→σ.H.get? p.1=some (tpO its n)→VRs σ.ν vs its.toList→its.size=vs.length→G):G:=
 S.hr.get ho fun q hq y=>match y with
  | .tup h1 h2 h3 h4=>k q _ _ (x.at hq) hq h2 h3 h4 (by rw[h4.length,Array.length_toList])
end
end Mine
namespace Mine
open PySem PySem.W PyProof.Rows PySem.SeqAt PySem.EqNone
theorem lim_line:lim≤sizeLine:=by unfold lim sizeLine;decide
theorem lim_is:lim=100000:=rfl
abbrev C' {α:Type}(r:R α) (Q:α→Hp→Prop):Prop:=match r with
 | .ok a h=>Q a h
 | .stuck=>False
abbrev wO' {α:Type}(o:Option α) (K:α→Prop):Prop:=match o with
 | some a=>K a
 | none=>False
section
variable {h h':Hp}{i:Nat}{vs:List V}{α:Type}{z:R α}{p G:Prop}{x:α}{Q Q':α→Hp→Prop}{K K':α→Prop}{o:Option α}
theorem C.to (x:C z Q) (k:∀a h,Q a h→Q' a h):C' z Q':=by
 rw[C_is]at x
 cases z with
 | ok a h=>exact k a h x
 | stuck=>exact x
theorem wO.to (x:wO o K) (k:∀a,K a→K' a):wO' o K':=by
 rw[wO_is]at x
 cases o with
 | some a=>exact k a x
 | none=>exact x
theorem wO'.of (x:wO' o K) (k:∀a,o=some a→K a→G):G:=by
 cases o with
 | some a=>exact k a rfl x
 | none=>exact x.elim
theorem C_if [d:Decidable p] (x:C' (if p then z else .stuck) Q) (k:p→C' z Q→G):G:=by
 cases d with
 | isTrue q=>exact k q x
 | isFalse J=>exact x.elim
theorem O_if [d:Decidable p] (x:wO' (if p then o else none) K) (k:p→wO' o K→G):G:=by
 cases d with
 | isTrue q=>exact k q x
 | isFalse J=>exact x.elim
theorem listOf_inv (e:listOf h (.ref i)=some vs):h[i]?=some (.list vs):=by
 have k:∀{o:Option O},(match o with | some (.list vs)=>some vs | _=>none)=some vs→o=some (.list vs):=fun{o} e=>by
  cases o with
  | none=>exact(by contradiction)
  | some o=>cases o with
   | list J=>exact congrArg (fun x=>x.map O.list) e
   | _=>exact(by contradiction)
 exact k e
theorem lo_inv {a:V}{K:List V→Prop}{G:V→Prop}(x:wO' (listOf h a) K) (k:∀i vs,h[i]?=some (.list vs)→K vs→G (.ref i)):G a:=by
 cases a with
 | ref i=>exact x.of fun vs e x=>k i vs (listOf_inv e) x
 | _=>exact x.elim
end
section
variable {ν:Nu}{u:Value}{p:Value→Prop}
@[elab_as_elim] theorem VR.int {x:Int}(xa:VR ν (.int x) u) (k:∀t,p (.int x t)):p u:=xa.elim fun t e=>e▸k t
@[elab_as_elim] theorem VR.none (xa:VR ν .none u) (k:p .none):p u:=(show u=.none from xa)▸k
@[elab_as_elim] theorem VR.str {n:Nat}(xa:VR ν (.str n) u) (k:n<texts.length→∀t,p (.str (strAt n) t)):p u:=xa.2.elim fun t e=>e▸k xa.1 t
@[elab_as_elim] theorem VR.ref {i:Nat}(xa:VR ν (.ref i) u) (k:∀q,ν[i]?=some q→p (.ref q.1)):p u:=xa.elim fun q e=>e.2▸k q e.1
end
theorem bin_inv {h:Hp}{o:BOp}{a b:V}{K:V→Hp→Prop}{G:BOp→V→V→Prop}(x:C' (binop o a b h) K) (k1:∀x y,K (.int (x+y)) h→G .add (.int x) (.int y)) (k2:∀x y,K (.int (x-y)) h→G .sub (.int x) (.int y)) (k3:∀x y,x.natAbs≤big∧y.natAbs≤big→K (.int (x*y)) h→G .mul (.int x) (.int y)) (k4:∀x y,0<y∧y<1073741824→K (.int (x / y)) h→G .fdiv (.int x) (.int y)) (k5:∀x y,0<y→K (.int (x % y)) h→G .mod (.int x) (.int y))
  (k6:∀i j xs ys,h[i]?=some (.list xs)→h[j]?=some (.list ys)→C' (newL (xs++ys) h) K→G .add (.ref i) (.ref j)) (k7:∀i v n,h[i]?=some (.list [v])→0≤n∧n.toNat≤lim→C' (newL (List.replicate n.toNat v) h) K→G .mul (.ref i) (.int n)):G o a b:=by
 cases a with
 | int i=>cases b with
  | int j=>cases o with
   | add=>exact k1 i j x
   | sub=>exact k2 i j x
   | mul=>exact C_if x (k3 i j)
   | fdiv=>exact C_if x (k4 i j)
   | mod=>exact C_if x (k5 i j)
  | _=>exact x.elim
 | ref i=>cases b with
  | ref j=>cases o with
   | add=>
    have y:∀{o1 o2:Option (List V)},C' (match BOp.add,o1,o2 with | .add,some xs,some ys=>newL (xs++ys) h | _,_,_=>.stuck) K→wO' o1 fun xs=>wO' o2 fun ys=>C' (newL (xs++ys) h) K:=fun{o1 o2} x=>by
     cases o1 with
     | none=>exact x
     | some J=>cases o2<;>exact x
    exact(y x).of fun xs e1 x=>x.of fun ys e2 x=>k6 i j xs ys (listOf_inv e1) (listOf_inv e2) x
   | _=>exact x.elim
  | int n=>cases o with
   | mul=>
    have y:∀{o1:Option (List V)},C' (match BOp.mul,o1 with | .mul,some [v]=>if 0≤n∧n.toNat≤lim then newL (List.replicate n.toNat v) h else .stuck | _,_=>.stuck) K→wO' o1 fun vs=>∃v,vs=[v]∧C' (if 0≤n∧n.toNat≤lim then newL (List.replicate n.toNat v) h else .stuck) K:=fun{o1} x=>by
     cases o1 with
     | none=>exact x
     | some vs=>cases vs with
      | nil=>exact x.elim
      | cons v r=>cases r with
       | nil=>exact⟨v,rfl,x⟩
       | cons J J1=>exact x.elim
    exact(y x).of fun vs e1 x=>x.elim fun v x=>C_if x.2 (k7 i v n (listOf_inv (x.1▸e1)))
   | _=>exact x.elim
  | _=>exact x.elim
 | _=>exact x.elim
noncomputable def opOf:BOp→Operator
 | .add=>.Add | .sub=>.Sub | .mul=>.Mult | .fdiv=>.FloorDiv | .mod=>.Mod
section
variable {Γ:Ctx}{σ:Wd}{h:Hp}{Q E:Value→Shared→Prop}{a b:V}{u v:Value}{i j:Nat}{xs ys:List V}
theorem foldl_single (v:Value) (n:Nat):∀(acc:List Value),List.foldl (fun x1 x2=>x1++x2) acc.toArray (List.replicate n #[v])=(acc++List.replicate n v).toArray:=by
 induction n with
 | zero=>intro acc;exact congrArg List.toArray (List.append_nil _).symm
 | succ n ih=>
  intro acc
  have:=ih (acc++[v])
  rw[List.append_assoc,← List.append_toArray]at this
  exact this
theorem newL_k {vs:List V}{us:List Value}{n tk:Nat}(S:St Γ h σ) (q:VRs σ.ν vs us) (x:C' (newL vs h) (Kq Γ σ Q)):Q (.ref σ.H.objs.size) { σ.s with heap:=σ.H.push (lsO us.toArray n),toks:=tk }:=
 C_if x fun hl x=>Kq.new x S (none_size _) (push_keeps _ _) (.list rfl hl (Heap.get?_push_size _ rfl) q.mono)
theorem newL_le {vs:List V}{K:V→Hp→Prop}(x:C' (newL vs h) K):vs.length≤lim:=C_if x fun l J=>l
theorem isList_of {H:Heap}{a:Addr}{its:Array Value}{n:Nat}(e:H.get? a=some (lsO its n)):H.IsList a its:=⟨_,e,rfl,n,rfl⟩
theorem isTuple_of {H:Heap}{a:Addr}{its:Array Value}{n:Nat}(e:H.get? a=some (tpO its n)):H.IsTuple a its:=⟨_,e,rfl,n,rfl⟩
theorem l_cat (S:St Γ h σ) (xa:VR σ.ν (.ref i) u) (xb:VR σ.ν (.ref j) v) (e1:h[i]?=some (.list xs)) (e2:h[j]?=some (.list ys)) (x:C' (newL (xs++ys) h) (Kq Γ σ Q)):Γ.wp (binaryOp .Add u v) Q E σ.s:=
 xa.list S e1 fun p its n ea J J J hg hv z=>xb.list S e2 fun p' its' n' eb J J J hg' hv' z'=>by
  have hz:=newL_le x
  rw[List.length_append,← z,← z',lim_is]at hz
  have:=newL_k (n:=0) (tk:=σ.s.toks) S (hv.append hv') x
  rw[← Array.toList_append]at this
  rw[ea,eb]
  exact concat_meets ⟨_,hg,rfl⟩ ⟨_,hg',rfl⟩ noFill_list_add seq_list_add PySem.F.slot_list_add PySem.F.entry_list_add (PySem.F.args_list_add_2 _ _)
   (AutoSeq1.list___add___list_list_0 _ its n _ its' n' (Nat.le_trans hz lim_line)) ⟨hg,hg',this⟩
theorem All2.un {α β:Type}{R:α→β→Prop}{as:List α}{us:List β}(x:All2 R as us):match as,us with | [],[]=>True | a::as,u::us=>R a u∧All2 R as us | _,_=>False:=by
 cases x with
 | nil=>exact trivial
 | cons a b=>exact⟨a,b⟩
theorem nil_of {us:List Value}{ν:Nu}(x:VRs ν [] us):us=[]:=by
 cases us with
 | nil=>rfl
 | cons J J1=>exact x.un.elim
theorem cons_of {us:List Value}{as:List V}{G:Prop}{ν:Nu}(x:VRs ν (a::as) us) (k:∀u r,us=u::r→VR ν a u→VRs ν as r→G):G:=by
 cases us with
 | nil=>exact x.un.elim
 | cons u r=>exact k u r rfl x.un.1 x.un.2
theorem one_of {us:List Value}{G:Prop}{ν:Nu}(x:VRs ν [a] us) (k:∀u,us=[u]→VR ν a u→G):G:=
 cons_of x fun u r e xa x=>k u (nil_of x▸e) xa
theorem l_rep {n:Int}(S:St Γ h σ) (xa:VR σ.ν (.ref i) u) (xb:VR σ.ν (.int n) v) (e1:h[i]?=some (.list [a])) (hb:0≤n∧n.toNat≤lim) (x:C' (newL (List.replicate n.toNat a) h) (Kq Γ σ Q)):Γ.wp (binaryOp .Mult u v) Q E σ.s:=
 xa.list S e1 fun p its n' ea J J J hg hv z=>one_of hv fun w e h1=>xb.int fun t=>by
  have e:its=#[w]:=Array.toList_inj.mp e
  subst e
  have hll:=lim_is
  rw[ea]
  refine wpAny_binaryOp_repeat_ref (T:="list") (U:="int") rfl ⟨_,hg,rfl⟩ (fun s'=>typeIs_int s' n _) noFill_list_mul PySem.F.fills_int_mul PySem.F.slot_int_rmul repeat_list PySem.F.slot_int_index.lookup
   (call_meets PySem.F.slot_int_rmul (typeIs_int σ.s n _) PySem.F.entry_int_rmul (PySem.F.args_int_rmul_2 _ _) (int___rmul___int_list n _ p.1 #[w] n')
    ⟨hg,rfl,⟨_,hg,rfl⟩,call_meets PySem.F.slot_list_mul ⟨_,hg,rfl⟩ PySem.F.entry_list_mul (PySem.F.args_list_mul_2 _ _)
     (AutoListH.list___mul___list_int_3 p.1 #[w] n' n _ (by simp[Builtin.List.listFitsIndex];lia) (by simp;lia) (by simp[Builtin.List.listTooLong,sizeLine];lia))
     ⟨hg,?_⟩⟩)
  have:=newL_k (n:=0) (tk:=σ.s.toks) S (All2.replicate h1 _) x
  have e:=foldl_single w n.toNat []
  rw[List.nil_append]at e
  rw[← e]at this
  exact this
theorem l_bin {o:BOp}(S:St Γ h σ) (x:C' (binop o a b h) (Kq Γ σ Q)):VR σ.ν a u→VR σ.ν b v→Γ.wp (binaryOp (opOf o) u v) Q E σ.s:=
 bin_inv (G:=fun o a b=>VR σ.ν a u→VR σ.ν b v→Γ.wp (binaryOp (opOf o) u v) Q E σ.s) x
  (fun x y k xa xb=>xa.int fun t=>xb.int fun t'=>add_int (Kq.tok k S ⟨_,rfl⟩))
  (fun x y k xa xb=>xa.int fun t=>xb.int fun t'=>sub_int (Kq.tok k S ⟨_,rfl⟩))
  (fun x y hb k xa xb=>xa.int fun t=>xb.int fun t'=>mul_int (Kq.tok k S ⟨_,rfl⟩) (by
   have:=hb.1;have:=hb.2
   simp only[big]at*
   mul_fits))
  (fun x y hb k xa xb=>xa.int fun t=>xb.int fun t'=>floordiv_int (Int.ne_of_gt hb.1) (by rw[Int.fdiv_eq_ediv_of_nonneg _ (Int.le_of_lt hb.1)];exact Kq.tok k S ⟨_,rfl⟩) (Or.inl (PyProof.noPylong_small (by omega))))
  (fun x y hb k xa xb=>xa.int fun t=>xb.int fun t'=>mod_int' (Int.ne_of_gt hb) (by rw[Int.fmod_eq_emod_of_nonneg _ (Int.le_of_lt hb)];exact Kq.tok k S ⟨_,rfl⟩))
  (fun i j xs ys e1 e2 k xa xb=>l_cat S xa xb e1 e2 k)
  fun i v n e1 hb k xa xb=>l_rep S xa xb e1 hb k
end
end Mine
namespace Mine
open PySem PySem.W PyProof.Rows PySem.SeqAt PySem.EqNone
theorem texts_nodup:(texts.map Str.ofString).Nodup:=by decide +kernel
theorem strAt_inj {i j:Nat}(hi:i<texts.length) (hj:j<texts.length) (e:strAt i=strAt j):i=j:=by
 have q:∀k,k<texts.length→(texts.map Str.ofString)[k]?=some (strAt k):=fun k hk=>by
  rw[List.getElem?_map,List.getElem?_eq_getElem hk]
  unfold strAt
  rw[List.getD_eq_getElem?_getD,List.getElem?_eq_getElem hk]
  rfl
 have hi':i<(texts.map Str.ofString).length:=by rw[List.length_map];exact hi
 exact(List.getElem?_inj hi' texts_nodup).mp ((q i hi).trans (e▸(q j hj).symm))
theorem strAt_beq {i j:Nat}(hi:i<texts.length) (hj:j<texts.length):(strAt i==strAt j)=decide (i=j):=by
 by_cases h:i=j
 ·subst h;rw[beq_self_eq_true,decide_eq_true rfl]
 ·rw[decide_eq_false h]
  exact beq_eq_false_iff_ne.mpr fun e=>h (strAt_inj hi hj e)
theorem all2_k {f:V→V→Option Bool}{xs:List V}:∀{ys:List V}{K:Bool→Prop},wO' (all2? f xs ys) K→∃e:Nat→Bool,(∀j x y,xs[j]?=some x→ys[j]?=some y→f x y=some (e j))∧K ((List.range xs.length).all e):=by
 induction xs with
 | nil=>intro ys K x;cases ys with
  | nil=>exact⟨fun J=>true,⟨fun _ _ _ (h:none=_)=>((by contradiction)),x⟩⟩
  | cons J J1=>exact x.elim
 | cons a as ih=>intro ys K x;cases ys with
  | nil=>exact x.elim
  | cons b bs=>
   have y:∀{o1 o2:Option Bool},wO' (match o1,o2 with | some a,some b=>some (a&&b) | _,_=>none) K→wO' o1 fun p=>wO' o2 fun q=>K (p&&q):=fun{o1 o2} x=>by
    cases o1 with
    | none=>exact x
    | some J=>cases o2<;>exact x
   exact(y x).of fun p e1 x=>(ih x).elim fun e x=>⟨fun j=>Nat.casesOn j p e,⟨fun j=>Nat.casesOn j (fun x y hx hy=>Option.some.inj hx▸Option.some.inj hy▸e1) fun j=>x.1 j,by
    rw[List.length_cons,List.range_succ_eq_map,List.all_cons,List.all_map]
    exact x.2⟩⟩
section
variable {Γ:Ctx}{A:Around}{σ:Wd}{h:Hp}{Q E:Value→Shared→Prop}{a b:V}{u v:Value}{i j:Nat}{xs ys:List V}{K:Bool→Prop}
theorem two_tups {o1 o2:Option O}{f:List V→List V→Option Bool}{G:Prop}(x:wO' (match o1,o2 with | some (.tup xs),some (.tup ys)=>f xs ys | _,_=>none) K) (k:∀xs ys,o1=some (.tup xs)→o2=some (.tup ys)→wO' (f xs ys) K→G):G:=by
 cases o1 with
 | none=>exact x.elim
 | some o1=>cases o1 with
  | tup xs=>cases o2 with
   | none=>exact x.elim
   | some o2=>cases o2 with
    | tup ys=>exact k xs ys rfl rfl x
    | _=>exact x.elim
  | _=>exact x.elim
theorem two_lists {o1 o2:Option O}{f:List V→List V→Option Bool}{G:Prop}(x:wO' (match o1,o2 with | some (.list xs),some (.list ys)=>f xs ys | _,_=>none) K) (k:∀xs ys,o1=some (.list xs)→o2=some (.list ys)→wO' (f xs ys) K→G):G:=by
 cases o1 with
 | none=>exact x.elim
 | some o1=>cases o1 with
  | list xs=>cases o2 with
   | none=>exact x.elim
   | some o2=>cases o2 with
    | list ys=>exact k xs ys rfl rfl x
    | _=>exact x.elim
  | _=>exact x.elim
theorem at_of_get {ν:Nu}{vs:List V}{its:Array Value}(q:VRs ν vs its.toList) {j:Nat}(hj:j<its.size):∃x,vs[j]?=some x∧VR ν x its[j]:=q.get' (List.getElem?_eq_some_iff.mpr ⟨hj,rfl⟩)
theorem veqI_inv {G:V→V→Prop}(x:wO' (veqI a b) K) (k:∀i j,K (decide (i=j))→G (.int i) (.int j)):G a b:=by
 cases a with
 | int i=>cases b with
  | int j=>exact k i j x
  | _=>exact x.elim
 | _=>exact x.elim
theorem veqI_at {b':Bool}(e:veqI a b=some b'):VR σ.ν a u→VR σ.ν b v→EqAt A σ.s u v b':=
 veqI_inv (K:=fun c=>c=b') (G:=fun a b=>VR σ.ν a u→VR σ.ν b v→EqAt A σ.s u v b') (by rw[e]) fun i j z xa xb=>z▸xa.int fun t=>xb.int fun t'=>(PySem.MeetsSeq.EqGives.int _ _ t t').at A σ.s
theorem veq1_inv {G:V→V→Prop}(x:wO' (veq1 h a b) K) (k:∀i j,K (decide (i=j))→G (.int i) (.int j)) (k2:∀i j xs ys,h[i]?=some (.tup xs)→h[j]?=some (.tup ys)→xs.length=ys.length→wO' (all2? veqI xs ys) K→G (.ref i) (.ref j)):G a b:=by
 cases a with
 | int i=>cases b with
  | int j=>exact k i j x
  | _=>exact x.elim
 | ref i=>cases b with
  | ref j=>
   exact two_tups x fun xs ys e1 e2 x=>O_if x (k2 i j xs ys e1 e2)
  | _=>exact x.elim
 | _=>contradiction<;>exact x.elim
theorem veq1_at {b':Bool}(hu:A.units+8<cLine) (S:St Γ h σ) (e:veq1 h a b=some b'):VR σ.ν a u→VR σ.ν b v→EqAt A σ.s u v b':=
 veq1_inv (K:=fun c=>c=b') (G:=fun a b=>VR σ.ν a u→VR σ.ν b v→EqAt A σ.s u v b') (by rw[e]) (fun i j z xa xb=>z▸xa.int fun t=>xb.int fun t'=>(PySem.MeetsSeq.EqGives.int _ _ t t').at A σ.s) fun i j xs ys hx hy hl x xa xb=>
  tup_at S hx xa fun p its n ea hp J h3 h4 z1=>tup_at S hy xb fun p' its' n' eb hp' J h3' h4' z2=>(all2_k x).elim fun f x=>by
   rw[ea,eb,← x.2]
   by_cases hne:p.1=p'.1
   ·have e:i=j:=S.hr.disj i j p p' p.1 hp hp' (.inl rfl) (.inl hne)
    subst e
    have e:xs=ys:=by injection Option.some.inj (hx.symm.trans hy)
    subst e
    have:(List.range xs.length).all f=true:=List.all_eq_true.mpr fun k hk=>by
     have:=x.1 k _ _ (List.getElem?_eq_getElem (List.mem_range.mp hk)) (List.getElem?_eq_getElem (List.mem_range.mp hk))
     exact veqI_inv (K:=fun c=>c=f k) (G:=fun a b=>a=b→f k=true) (by rw[this]) (fun i j z e=>z▸decide_eq_true (V.int.inj e)) rfl
    rw[this,hne];exact EqAt.same _
   ·have:=RcAt.tuples (A:=A) (e:=f) (isTuple_of h3) (isTuple_of h3') (Nat.lt_of_le_of_lt (Nat.le_add_right ..) hu) fun k k1 k2=>(at_of_get h4 k1).elim fun a ha=>(at_of_get h4' k2).elim fun b hb=>veqI_at (x.1 k a b ha.1 hb.1) ha.2 hb.2
    rw[z1,z2,← hl,Nat.min_self,beq_self_eq_true,Bool.and_true]at this
    exact EqAt.of_refs hne this
theorem veq_inv {G:V→V→Prop}(x:wO' (veq h a b) K) (k0:K true→G .none .none) (k1:∀i,K false→G .none (.int i)) (k2:∀i,K false→G (.int i) .none) (k3:∀i j,K (decide (i=j))→G (.int i) (.int j)) (k4:∀i j,K (decide (i=j))→G (.str i) (.str j))
  (k5:∀i j xs ys,h[i]?=some (.list xs)→h[j]?=some (.list ys)→wO' (if xs.length=ys.length then all2? (veq1 h) xs ys else some false) K→G (.ref i) (.ref j)):G a b:=by
 cases a with
 | none=>cases b with
  | none=>exact k0 x
  | int i=>exact k1 i x
  | _=>exact x.elim
 | int i=>cases b with
  | none=>exact k2 i x
  | int j=>exact k3 i j x
  | _=>exact x.elim
 | str i=>cases b with
  | str j=>exact k4 i j x
  | _=>exact x.elim
 | ref i=>cases b with
  | ref j=>
   exact two_lists x fun xs ys e1 e2 x=>k5 i j xs ys e1 e2 x
  | _=>exact x.elim
 | _=>contradiction<;>exact x.elim
theorem rc_lists {ne:Bool}(S:St Γ h σ) (hx:h[i]?=some (.list xs)) (hy:h[j]?=some (.list ys)) (x:wO' (if xs.length=ys.length then all2? (veq1 h) xs ys else some false) fun r=>Q (.bool (ne != r)) σ.s) (xa:VR σ.ν (.ref i) u) (xb:VR σ.ν (.ref j) v):Γ.wp (compareOp (if ne then .NotEq else .Eq) u v) Q E σ.s:=
 xa.list S hx fun p its n ea J J J h3 h4 z1=>xb.list S hy fun p' its' n' eb J J J h3' h4' z2=>by
  have hu:=Γ.units
  have hu0:Γ.A.units<cLine:=by exact Nat.lt_of_le_of_lt (Nat.le_add_right _ _) (by assumption)
  rw[ea,eb]
  by_cases hl:xs.length=ys.length
  ·rw[if_pos hl]at x
   obtain⟨f,x1,x2⟩:=all2_k x
   rw[← z1]at x2
   have q:∀k (k1:k<its.size) (k2:k<its'.size),EqAt Γ.A.in1 σ.s its[k] its'[k] (f k):=fun k k1 k2=>(at_of_get h4 k1).elim fun a ha=>(at_of_get h4' k2).elim fun b hb=>veq1_at (by simp;omega) S (x1 k a b ha.1 hb.1) ha.2 hb.2
   cases ne with
   | false=>exact eq_listAt (e:=f) (isList_of h3) (isList_of h3') (z1.trans (hl.trans z2.symm)) hu0 q (by rw[Bool.false_bne]at x2;exact x2)
   | true=>exact RcNeAt.lists (e:=f) (isList_of h3) (isList_of h3') (z1.trans (hl.trans z2.symm)) hu0 q _ _ _ _ (by rw[Bool.true_bne]at x2;exact x2)
  ·rw[if_neg hl]at x
   have hz:(its.size != its'.size)=true:=bne_iff_ne.mpr (z1▸z2▸hl)
   cases ne with
   | false=>exact eq_list_lengthsAt (isList_of h3) (isList_of h3') hz hu0 x
   | true=>exact RcNeAt.lists_lengths (isList_of h3) (isList_of h3') hz hu0 _ _ _ _ x
theorem l_eq (S:St Γ h σ) (x:wO' (veq h a b) fun r=>Q (.bool r) σ.s):VR σ.ν a u→VR σ.ν b v→Γ.wp (compareOp .Eq u v) Q E σ.s:=
 veq_inv (G:=fun a b=>VR σ.ν a u→VR σ.ν b v→Γ.wp (compareOp .Eq u v) Q E σ.s) x (fun k xa xb=>xa.none (xb.none (eq_none_none k))) (fun i k xa xb=>xa.none (xb.int fun t=>eq_none_int k)) (fun i k xa xb=>xb.none (xa.int fun t=>eq_int_none k)) (fun i j k xa xb=>xa.int fun t=>xb.int fun t'=>eq_int k)
  (fun i j k xa xb=>xa.str fun l t=>xb.str fun l' t'=>PyProof.Rows.eq_str (by rw[strAt_beq l l'];exact k))
  fun i j xs ys e1 e2 x xa xb=>rc_lists (ne:=false) S e1 e2 (by simpa using x) xa xb
theorem l_ne (S:St Γ h σ) (x:wO' (veq h a b) fun r=>Q (.bool (!r)) σ.s):VR σ.ν a u→VR σ.ν b v→Γ.wp (compareOp .NotEq u v) Q E σ.s:=
 veq_inv (G:=fun a b=>VR σ.ν a u→VR σ.ν b v→Γ.wp (compareOp .NotEq u v) Q E σ.s) x (fun k xa xb=>xa.none (xb.none (ne_none_none k))) (fun i k xa xb=>xa.none (xb.int fun t=>ne_none_int k)) (fun i k xa xb=>xb.none (xa.int fun t=>ne_int_none k)) (fun i j k xa xb=>xa.int fun t=>xb.int fun t'=>ne_int k)
  (fun i j k xa xb=>xa.str fun l t=>xb.str fun l' t'=>PyProof.Rows.ne_str (by rw[bne,strAt_beq l l'];exact k))
  fun i j xs ys e1 e2 x xa xb=>rc_lists (ne:=true) S e1 e2 (by simpa using x) xa xb
end
end Mine
namespace Mine
open PySem PySem.W PyProof.Rows PySem.SeqAt PySem.EqNone
section
variable {Γ:Ctx}{A:Around}{σ:Wd}{h:Hp}{Q E:Value→Shared→Prop}{a b i:V}{u v:Value}{j:Nat}{xs ys:List V}{K:Bool→Prop}{KV:V→Prop}{ν:Nu}{α β:Type}{G:Prop}
theorem O_bind {o:Option α}{f:α→Option β}{K:β→Prop}(x:wO' (o.bind f) K):wO' o fun a=>wO' (f a) K:=by cases o<;>exact x
theorem O_map {o:Option α}{f:α→β}{K:β→Prop}(x:wO' (o.map f) K):wO' o fun a=>K (f a):=by cases o<;>exact x
theorem intsAre_k {vs:List V}:∀{us:List Value}{K:List Int→Prop},wO' (intsOf vs) K→VRs ν vs us→(∀is,IntsAre us is→K is→G)→G:=by
 induction vs with
 | nil=>intro us K x r k;exact k [] (nil_of r▸.nil) x
 | cons a vs ih=>intro us K x r k;cases a with
  | int i=>exact cons_of r fun u us' e xa r=>ih (O_map x) r fun is hi x=>k (i::is) (e▸xa.int fun t=>.cons i t hi) x
  | _=>exact x.elim
theorem l_mem {x:Int}(S:St Γ h σ) (y:wO' (cmpop .mem (.int x) b h) fun r=>Q (.bool r) σ.s) (xa:VR σ.ν (.int x) u) (xb:VR σ.ν b v):Γ.wp (compareOp .In u v) Q E σ.s:=by
 cases b with
 | ref j=>
  have z:∀{o:Option (List Int)},wO' (match o with | some ys=>some (ys.contains x) | none=>none) (fun r=>Q (.bool r) σ.s)→wO' o fun ys=>Q (.bool (ys.contains x)) σ.s:=fun{o} z=>by cases o<;>exact z
  exact(O_bind (z y)).of fun vs e z=>xb.list S (listOf_inv e) fun p its n ea J J J hg hv J=>intsAre_k z hv fun is hi z=>by
   rw[ea]
   refine xa.int fun t=>in_list_ints (vs:=its.toList) (isList_of hg) hi ?_
   rw[List.contains_eq_any_beq]at z
   rwa[show(fun y=>y==x)=fun y:Int=>x==y from funext fun y=>Bool.beq_comm]
 | _=>exact y.elim
theorem isn_k (xa:VR σ.ν a u) (k:wO' (cmpop .isn a .none h) fun r=>KV (.bool r)):KV (.bool (u==.none)):=by
 cases a with
 | none=>exact xa.none k
 | bool b=>exact(show u=.bool b from xa)▸k
 | int i=>exact xa.int fun t=>k
 | str n=>exact xa.str fun l t=>k
 | ref i=>exact xa.ref fun q J=>k
theorem l_is {pr:Program}{w:World}{A:Around}(xa:VR σ.ν a u) (x:wO' (cmpop .isn a .none h) fun r=>Q (.bool r) σ.s):wpAny (model pr w) A (compareOp .Is u .none) Q E σ.s:=by
 refine is_none_gen ?_
 have:=isn_k (h:=h) (KV:=fun v=>∀r,v=.bool r→Q (.bool r) σ.s) xa (x.of fun r e x=>e▸fun r' z=>V.bool.inj z▸x)
 exact this _ rfl
theorem l_isnt (xa:VR σ.ν a u) (x:wO' (cmpop .nisn a .none h) fun r=>Q (.bool r) σ.s):Γ.wp (compareOp .IsNot u .none) Q E σ.s:=by
 refine isnot_none_gen ?_
 have:=isn_k (h:=h) (KV:=fun v=>∀r,v=.bool r→Q (.bool (!r)) σ.s) xa (by cases a<;>exact fun r' z=>V.bool.inj z▸x)
 exact this _ rfl
noncomputable def cOf:COp→Option CmpOp
 | .eq=>some .Eq | .ne=>some .NotEq | .lt=>some .Lt | .gt=>some .Gt | .mem=>some .In | _=>none
theorem lt_inv {G:V→V→Prop}(x:wO' (cmpop .lt a b h) K) (k:∀i j,K (decide (i<j))→G (.int i) (.int j)):G a b:=by
 cases a with
 | int i=>cases b with
  | int j=>exact k i j x
  | _=>exact x.elim
 | _=>exact x.elim
theorem gt_inv {G:V→V→Prop}(x:wO' (cmpop .gt a b h) K) (k:∀i j,K (decide (i>j))→G (.int i) (.int j)):G a b:=by
 cases a with
 | int i=>cases b with
  | int j=>exact k i j x
  | _=>exact x.elim
 | _=>exact x.elim
theorem l_cmp {o:COp}{op:CmpOp}(e:cOf o=some op) (S:St Γ h σ) (x:wO' (cmpop o a b h) fun r=>Q (.bool r) σ.s) (xa:VR σ.ν a u) (xb:VR σ.ν b v):Γ.wp (compareOp op u v) Q E σ.s:=by
 cases o with
 | eq=>exact Option.some.inj e▸l_eq S x xa xb
 | ne=>exact Option.some.inj e▸l_ne S (O_map x) xa xb
 | mem=>cases a with
  | int i=>exact Option.some.inj e▸l_mem S x xa xb
  | _=>exact x.elim
 | lt=>exact Option.some.inj e▸lt_inv (G:=fun a b=>VR σ.ν a u→VR σ.ν b v→Γ.wp (compareOp .Lt u v) Q E σ.s) x (fun i j k xa xb=>xa.int fun t=>xb.int fun t'=>PyProof.Rows.lt_int k) xa xb
 | gt=>exact Option.some.inj e▸gt_inv (G:=fun a b=>VR σ.ν a u→VR σ.ν b v→Γ.wp (compareOp .Gt u v) Q E σ.s) x (fun i j k xa xb=>xa.int fun t=>xb.int fun t'=>PyProof.Rows.gt_int k) xa xb
 | _=>exact(by contradiction)
theorem ix_k {n:Nat}{i:Int}{K:Nat→Prop}(x:wO' (seqIx n i) K) (k1:0≤i→i<n→K i.toNat→G) (k2:i<0→-(n:Int)≤i→K (i+n).toNat→G):G:=by
 unfold seqIx at x
 by_cases h0:0≤i
 ·rw[if_pos h0]at x;exact O_if x fun l x=>k1 h0 l x
 ·rw[if_neg h0]at x;exact O_if x fun l x=>k2 (Int.not_le.mp h0) l x
theorem item_k {o:Option O}{i:V}{K:V→Prop}{G:Option O→V→Prop}(x:wO' (match o,i with
  | some (.list vs),.int k=>(seqIx vs.length k).bind (vs[·]?)
  | some (.tup vs),.int k=>(seqIx vs.length k).bind (vs[·]?)
  | some (.dictI es),.int k=>findK k es
  | some (.dictS es),.str k=>findF k es
  | _,_=>none) K) (k1:∀vs k,wO' (seqIx vs.length k) (fun m=>wO' vs[m]? K)→G (some (.list vs)) (.int k)) (k2:∀vs k,wO' (seqIx vs.length k) (fun m=>wO' vs[m]? K)→G (some (.tup vs)) (.int k)) (k3:∀es k,wO' (findK k es) K→G (some (.dictI es)) (.int k)) (k4:∀es k,wO' (findF k es) K→G (some (.dictS es)) (.str k)):G o i:=by
 cases o with
 | none=>exact x.elim
 | some o=>cases o with
  | list vs=>cases i with
   | int k=>exact k1 vs k (O_bind x)
   | _=>exact x.elim
  | tup vs=>cases i with
   | int k=>exact k2 vs k (O_bind x)
   | _=>exact x.elim
  | dictI es=>cases i with
   | int k=>exact k3 es k x
   | _=>exact x.elim
  | dictS es=>cases i with
   | str k=>exact k4 es k x
   | _=>exact x.elim
  | _=>contradiction<;>exact x.elim
theorem findK_k {es:List (Int×V)}{kvs:List (Int×Value)}(x:All2 (KI ν) es kvs) {k:Int}{G:Option V→Option Value→Prop}(n:G none none) (s:∀v u,VR ν v u→G (some v) (some u)):G (findK k es) (valueAt kvs k):=by
 induction x with
 | nil=>exact n
 | @cons a b as bs r J ih=>
  unfold valueAt at*
  rw[List.find?_cons]
  have e:findK k (a::as)=if a.1=k then some a.2 else findK k as:=rfl
  rw[e,r.1]
  by_cases hk:a.1=k
  ·rw[if_pos hk,decide_eq_true hk];exact s _ _ r.2
  ·rw[if_neg hk,decide_eq_false hk];exact ih
theorem findS_k {es:List (Nat×V)}{kvs:List (Str×Value)}(x:All2 (KS ν) es kvs) {k:Nat}(l:k<texts.length) {G:Option V→Option Value→Prop}(n:G none none) (s:∀v u,VR ν v u→G (some v) (some u)):G (findF k es) (valueAt kvs (strAt k)):=by
 induction x with
 | nil=>exact n
 | @cons a b as bs r J ih=>
  unfold valueAt at*
  rw[List.find?_cons]
  have e:findF k (a::as)=if a.1=k then some a.2 else findF k as:=rfl
  rw[e,r.1.2]
  by_cases hk:a.1=k
  ·rw[if_pos hk,decide_eq_true (congrArg strAt hk)];exact s _ _ r.2
  ·rw[if_neg hk,decide_eq_false fun z=>hk (strAt_inj r.1.1 l z)];exact ih
theorem not_sys {p:Addr×Addr}(h:p.1≠sysModules):(p.1==sysModules)=false:=beq_eq_false_iff_ne.mpr h
theorem its_get {its:Array Value}{m:Nat}{x:Value}(e:its.toList[m]?=some x):its[m]?=some x:=Array.getElem?_toList▸e
theorem l_item {value slice:Expr}{ops:List Value}(S:St Γ h σ) (x:wO' (item a i h) fun r=>Kq Γ σ Q r h) (xa:VR σ.ν a u) (xi:VR σ.ν i v) (hsl:subscripted slice false u v=operate ops (getItem u v)):Γ.wp (subscriptTail value slice u v) Q E σ.s:=by
 cases a with
 | ref j=>
  exact item_k (o:=h[j]?) (i:=i) (K:=fun r=>Kq Γ σ Q r h) (G:=fun o i=>h[j]?=o→VR σ.ν i v→Γ.wp (subscriptTail value slice u v) Q E σ.s) x
   (fun vs k x ho xi=>xa.list S ho fun p its n ea J J hl hg hv z=>by
    rw[lim_is]at hl
    have hL:=isList_of hg
    have fin:∀m:Nat,wO' vs[m]? (fun r=>Kq Γ σ Q r h)→∃w,its[m]?=some w∧Q w σ.s:=fun m x=>x.of fun r e x=>(hv.get e).elim fun w hw=>⟨w,its_get hw.1,Kq.now x S hw.2⟩
    revert hsl
    rw[ea]
    refine xi.int fun t hsl=>?_
    refine tail_any hL.typeIs slot_list_getitem.lookup ?_ hsl
    exact ix_k x (fun h0 l x=>(fin _ x).elim fun w y=>wpAny_getItem_list hL h0 (by lia) y.1 y.2) fun h0 l x=>(fin _ x).elim fun w y=>wpAny_getItem_list_neg hL h0 (by rw[z];exact l) (by lia) (by rw[z];exact y.1) y.2)
   (fun vs k x ho xi=>tup_at S ho xa fun p its n ea J hl hg hv z=>by
    rw[lim_is]at hl
    have hT:IsTup σ.H p.1 its:=⟨_,hg,rfl,n,rfl⟩
    have fin:∀m:Nat,wO' vs[m]? (fun r=>Kq Γ σ Q r h)→∃w,its[m]?=some w∧Q w σ.s:=fun m x=>x.of fun r e x=>(hv.get e).elim fun w hw=>⟨w,its_get hw.1,Kq.now x S hw.2⟩
    revert hsl
    rw[ea]
    refine xi.int fun t hsl=>?_
    exact ix_k x (fun h0 l x=>(fin _ x).elim fun w y=>tail_any ⟨_,hg,rfl⟩ slot_tuple_getitem.lookup (PyProof.Rows.getItem_tuple hT (by lia) (by lia) (by rw[z];exact seqIndex_of h0 l) y.1 y.2) hsl) fun h0 l x=>(fin _ x).elim fun w y=>tail_any ⟨_,hg,rfl⟩ slot_tuple_getitem.lookup (PyProof.Rows.getItem_tuple hT (by lia) (by exact Int.lt_of_lt_of_le (by assumption) (by decide)) (by rw[z];exact PySem.seqIndex_neg h0 l) y.1 y.2) hsl)
   (fun es k x ho xi=>S.hr.get ho fun p hp R=>match R with
    | .dictI _ _ _ hd hq=>by
     revert hsl
     rw[xa.at hp]
     refine xi.int fun t hsl=>?_
     exact findK_k hq (k:=k) (G:=fun o1 o2=>valueAt _ k=o2→wO' o1 (fun r=>Kq Γ σ Q r h)→_) (fun J x=>x.elim) (fun v' u' r e x=>tail_any hd.typeIs slot_dict_getitem.lookup (wpAny_getItem_of (intKind_is Γ.pr Γ.w k t) hd.mapOf e (Kq.tok x S r)) hsl) rfl x)
   (fun es k x ho xi=>S.hr.get ho fun p hp R=>match R with
    | .dictS _ _ _ hd hq=>by
     revert hsl
     rw[xa.at hp]
     refine xi.str fun lk t hsl=>?_
     exact findS_k hq lk (G:=fun o1 o2=>valueAt _ (strAt k)=o2→wO' o1 (fun r=>Kq Γ σ Q r h)→_) (fun J x=>x.elim) (fun v' u' r e x=>tail_any hd.typeIs slot_dict_getitem.lookup (wpAny_getItem_of (strKind_is Γ.pr Γ.w _ t) hd.mapOf e (Kq.tok x S r)) hsl) rfl x) rfl xi
 | _=>exact x.elim
end
end Mine
namespace Mine
open PySem PySem.W PyProof.Rows PySem.SeqAt PySem.EqNone PySem.MeetsSeq
section
variable {Γ:Ctx}{σ:Wd}{h:Hp}{Q E:Value→Shared→Prop}{a b i:V}{u v:Value}{j:Nat}{vs ws:List V}{ν:Nu}{α β:Type}{K:α→Hp→Prop}{KV:V→Hp→Prop}{value slice:Expr}{ops:List Value}{sl:Addr}{vl vu vt:Value}{lo hi st:Option Int}
theorem lo_C {f:List V→R α}{G:V→Prop}(x:C' (match listOf h a with | some vs=>f vs | none=>.stuck) K) (k:∀j vs,h[j]?=some (.list vs)→C' (f vs) K→G (.ref j)):G a:=by
 have y:∀{o:Option (List V)},C' (match o with | some vs=>f vs | none=>.stuck) K→wO' o fun vs=>C' (f vs) K:=fun{o} y=>by cases o<;>exact y
 exact lo_inv (y x) k
theorem subscripted_any (slice:Expr) (o i:Value):∃ops,subscripted slice false o i=operate ops (getItem o i):=by
 cases slice with
 | Slice J J1 c J2=>cases c<;>exact⟨_,rfl⟩
 | _=>exact⟨_,rfl⟩
theorem l_slice (S:St Γ h σ) (xa:VR σ.ν (.ref j) u) (ho:h[j]?=some (.list vs)) (hsl:σ.H.IsSliceOf sl vl vu vt) (pl:IsPart vl lo) (pu:IsPart vu hi) (ps:IsPart vt st) (h0:st≠some 0)
  (hw:∀its:Array Value,VRs σ.ν vs its.toList→VRs σ.ν ws (slicePick its lo hi st).toList) (x:C' (newL ws h) (Kq Γ σ Q)):Γ.wp (subscriptTail value slice u (.ref sl)) Q E σ.s:=
 xa.list S ho fun p its n ea J J hl hg hv z=>by
  have hL:=isList_of hg
  rw[ea]
  exact(subscripted_any slice (.ref p.1) (.ref sl)).elim fun ops hsub=>tail_any hL.typeIs slot_list_getitem.lookup (wpAny_getItem_list_slice hL hsl pl pu ps h0 (newL_k (n:=0) (tk:=σ.s.toks) S (hw its hv) x) (by rw[z];exact Nat.le_trans hl lim_line)) hsub
theorem l_rev (S:St Γ h σ) (x:C' (revL a h) (Kq Γ σ Q)) (hsl:σ.H.IsSliceOf sl .none .none vt) (ps:IsPart vt (some (-1))):VR σ.ν a u→Γ.wp (subscriptTail value slice u (.ref sl)) Q E σ.s:=
 lo_C (f:=fun vs=>newL vs.reverse h) (G:=fun a=>VR σ.ν a u→Γ.wp (subscriptTail value slice u (.ref sl)) Q E σ.s) x fun j vs ho x xa=>l_slice S xa ho hsl .none .none ps (by decide) (fun its q=>by rw[krv_pick];exact q.reverse) x
theorem cut_k {f:List V→Nat→List V}{G:V→V→Prop}(x:C' (match listOf h a,b with | some vs,.int k=>if 0≤k∧k.toNat≤big then newL (f vs k.toNat) h else .stuck | _,_=>.stuck) KV) (k:∀j vs (m:Nat),h[j]?=some (.list vs)→C' (newL (f vs m) h) KV→G (.ref j) (.int m)):G a b:=by
 have y:∀{o:Option (List V)} {b:V},C' (match o,b with | some vs,.int k=>if 0≤k∧k.toNat≤big then newL (f vs k.toNat) h else .stuck | _,_=>.stuck) KV→∃vs m,o=some vs∧b=.int (Int.ofNat m)∧C' (newL (f vs m) h) KV:=fun{o b} y=>by
  cases o with
  | none=>exact y.elim
  | some vs=>cases b with
   | int k=>cases k with
    | ofNat m=>exact C_if y fun J x=>⟨vs,m,rfl,rfl,x⟩
    | negSucc J=>exact C_if y fun l J=>(nomatch l.1)
   | _=>exact y.elim
 obtain⟨vs,m,e,eb,y⟩:=y x
 rw[eb]
 exact lo_inv (K:=fun ws=>ws=vs) (G:=fun a=>G a (.int (Int.ofNat m))) (by rw[e]) fun j ws ho z=>k j vs m (z▸ho) y
theorem part_of {m:Int}(xb:VR ν (.int m) v):IsPart v (some m):=xb.int fun t=>.int m t
theorem l_drop (S:St Γ h σ) (x:C' (dropL a b h) (Kq Γ σ Q)) (hsl:σ.H.IsSliceOf sl v .none .none):VR σ.ν a u→VR σ.ν b v→Γ.wp (subscriptTail value slice u (.ref sl)) Q E σ.s:=
 cut_k (f:=fun vs m=>vs.drop m) (G:=fun a b=>VR σ.ν a u→VR σ.ν b v→Γ.wp (subscriptTail value slice u (.ref sl)) Q E σ.s) x fun j vs m ho x xa xb=>l_slice S xa ho hsl (part_of xb) .none .none (by decide) (fun its q=>by rw[slicePick_from'];exact q.drop _) x
theorem l_take (S:St Γ h σ) (x:C' (takeL a b h) (Kq Γ σ Q)) (hsl:σ.H.IsSliceOf sl .none v .none):VR σ.ν a u→VR σ.ν b v→Γ.wp (subscriptTail value slice u (.ref sl)) Q E σ.s:=
 cut_k (f:=fun vs m=>vs.take m) (G:=fun a b=>VR σ.ν a u→VR σ.ν b v→Γ.wp (subscriptTail value slice u (.ref sl)) Q E σ.s) x fun j vs m ho x xa xb=>l_slice S xa ho hsl .none (part_of xb) .none (by decide) (fun its q=>by rw[slicePick_upto'];exact q.take _) x
theorem upd_keeps {H:Heap}{l:Addr}{f:Obj→Obj}{b:Addr}{o:Obj}(n:b≠l) (e:H.get? b=some o):(H.update l f).get? b=some o:=(Heap.get?_update_other _ _ (Ne.symm n)).trans e
theorem setList {p:Addr×Addr}{its:Array Value}{n tk:Nat}{g:Array Value→Array Value}(S:St Γ h σ) (hi0:0<j) (hp:σ.ν[j]?=some p) (h1:p.2=p.1) (e:σ.H.get? p.1=some (lsO its n)) (hl:vs.length≤lim) (q:VRs σ.ν vs (g its).toList) :
  St Γ (h.set j (.list vs)) (σ.to (σ.H.update p.1 (Obj.mapSeq g)) tk)∧Tr Γ σ (σ.to (σ.H.update p.1 (Obj.mapSeq g)) tk):=
 S.set (s':={ σ.s with heap:=σ.H.update p.1 (Obj.mapSeq g),toks:=tk }) hi0 hp (fun b o n1 hb=>upd_keeps (fun z=>n1 (.inl z)) hb) (.list h1 hl (Heap.get?_update_self _ e rfl) q) rfl rfl
theorem Kq.setList {p:Addr×Addr}{its:Array Value}{n tk:Nat}{g:Array Value→Array Value}{r:V}(k:Kq Γ σ Q r (h.set j (.list vs))) (S:St Γ h σ) (hi0:0<j) (hp:σ.ν[j]?=some p) (h1:p.2=p.1) (e:σ.H.get? p.1=some (lsO its n)) (hl:vs.length≤lim) (q:VRs σ.ν vs (g its).toList) (rr:VR σ.ν r u):Q u { σ.s with heap:=σ.H.update p.1 (Obj.mapSeq g),toks:=tk }:=
 have z:=Mine.setList S hi0 hp h1 e hl q
 k _ u z.1 z.2 rr
end
section
variable {prog:Program}{w:World}{A:Around}{E:Value→Shared→Prop}{s:Shared}
theorem setItem_listX {l:Addr}{items:Array Value}{k:Int}{t:Tok}{n:Nat}{v:Value}{Q:Unit→Shared→Prop}(hl:s.heap.get? l=some { cls:=.type "list",data:=.seq items n })
  (h0:0≤k) (hfit:k<2^63) (hn:k<items.size) (hQ:Q () { s with heap:=s.heap.update l (Obj.mapSeq (·.setIfInBounds k.toNat v)) }) :
  wpAny (model prog w) A (PySem.setItem (.ref l) (.int k t) v) Q E s:=by
 have hL:=isList_of hl
 unfold PySem.setItem
 try with_reducible refine wpAny_holding ?_
 first | refine wpAny_bind (wpAny_pure ?_) | skip
 refine wpAny_bind (wpAny_sequenceKey hL.typeIs (by decide) ?_)
 refine wpAny_bind (wpAny_callSpecial?_slot (name:=Str.ofString "__setitem__") hL.typeIs slot_list_setitem
  (wpAny_call_entry slot_list_setitem hL.typeIs entry_list_setitem ?_ (args_list_setitem _ _ _)))
 show wpAny _ _ (Builtin.List.listSubscript? (.int k t)>>=_) _ _ s
 refine wpAny_bind (wpAny_listSubscript_int (fitsIndex_of h0 hfit) ?_)
 clear hfit
 obtain⟨j,rfl⟩:=Int.eq_ofNat_of_zero_le h0
 have hj:j<items.size:=by exact Int.ofNat_le.mp (by assumption)
 have hx':items[j]?=some items[j]:=Array.getElem?_eq_getElem hj
 show wpAny _ _ ((seqItemAt l j>>=fun r=>pure (r.map (j,·)))>>=_) _ _ s
 refine wpAny_bind (wpAny_bind (wpAny_seqItemAt hl rfl (wpAny_pure ?_)))
 rw[hx']
 show wpAny _ _ (setSeqItemAt l j v>>=_) _ _ s
 refine wpAny_bind (wpAny_setSeqItemAt hl rfl ?_)
 first
  | exact wpAny_bind (wpAny_pure (wpAny_pure ⟨.none,rfl,wpAny_pure hQ⟩))
  | exact wpAny_pure ⟨.none,rfl,wpAny_pure hQ⟩
theorem bounds_in {x y:Int}{n:Nat}(h0:0≤x) (h1:x≤n) (h2:0≤y) (h3:y≤n):sliceBounds (some x) (some y) none n=(x,y,1):=by
 have c:∀{z:Int},0≤z→z≤n→max 0 (min (if z<0 then z+n else z) (n:Int))=z:=fun a b=>by rw[if_neg (Int.not_lt.mpr a),Int.min_eq_left b,Int.max_eq_right a]
 show(_,_,(1:Int))=_
 rw[Prod.mk.injEq,Prod.mk.injEq]
 exact⟨c h0 h1,c h2 h3,rfl⟩
theorem setItem_sliceX {l sl b:Addr}{items new:Array Value}{vl vu:Value}{x y:Int}{n n':Nat}{Q:Unit→Shared→Prop}(hl:s.heap.get? l=some { cls:=.type "list",data:=.seq items n })
  (hb:s.heap.get? b=some { cls:=.type "list",data:=.seq new n' }) (hne:l≠b)
  (hs:s.heap.IsSliceOf sl vl vu .none) (pl:IsPart vl (some x)) (pu:IsPart vu (some y)) (h0:0≤x) (h1:x≤y) (h2:y≤items.size) (hz:items.size+new.size≤1000000)
  (hQ:Q () { s with heap:=s.heap.update l (Obj.mapSeq fun xs=>xs.extract 0 x.toNat++new++xs.extract y.toNat xs.size) }) :
  wpAny (model prog w) A (PySem.setItem (.ref l) (.ref sl) (.ref b)) Q E s:=by
 have hL:=isList_of hl
 have hB:=isList_of hb
 obtain⟨os,hos,hcs,hds⟩:=id hs
 have hTs:s.TypeIs (.ref sl) "slice":=⟨os,hos,hcs⟩
 unfold PySem.setItem
 try with_reducible refine wpAny_holding ?_
 first | refine wpAny_bind (wpAny_pure ?_) | skip
 refine wpAny_bind (wpAny_sequenceKey hL.typeIs (by decide) ?_)
 refine wpAny_bind (wpAny_callSpecial?_slot (name:=Str.ofString "__setitem__") hL.typeIs slot_list_setitem
  (wpAny_call_entry slot_list_setitem hL.typeIs entry_list_setitem ?_ (args_list_setitem _ _ _)))
 show wpAny _ _ (Builtin.List.listSubscript? (.ref sl)>>=_) _ _ s
 refine wpAny_bind ?_
 unfold Builtin.List.listSubscript?
 refine wpAny_bind (wpAny_specialOf hTs slice_no_index ?_)
 rw[if_pos (show(Option.none:Option Value).isNone=true from rfl)]
 refine wpAny_pure ?_
 show wpAny _ _ (typeOf (.ref sl)>>=_) _ _ s
 refine wpAny_bind (wpAny_typeOf hTs ?_)
 rw[if_neg (by decide)]
 rw[listSliceParts_eq]
 refine wpAny_bind (wpAny_bind (wpAny_field hos hds (x:=.none) rfl (wpAny_bind (wpAny_listPart .none ?_))))
 rw[if_neg (show¬((rawPart none==rawInt 0)=true)from Bool.false_ne_true)]
 refine wpAny_bind (wpAny_field hos hds (x:=vl) rfl (wpAny_bind (wpAny_listPart pl ?_)))
 refine wpAny_bind (wpAny_field hos hds (x:=vu) rfl (wpAny_bind (wpAny_listPart pu (wpAny_pure ?_))))
 have same:Builtin.List.listSameRef (.ref l) (.ref b)=false:=beq_eq_false_iff_ne.mpr hne
 rw[same]
 refine wpAny_bind (m:=Builtin.List.listAllItems (.ref b) _) ?_
 unfold Builtin.List.listAllItems
 refine wpAny_bind (wpAny_typeOf hB.typeIs ?_)
 rw[if_pos (by decide)]
 unfold Builtin.List.listItems
 refine wpAny_bind (wpAny_seqItems hb rfl (wpAny_pure ?_))
 refine wpAny_bind (wpAny_bind (wpAny_seqItems hl rfl (wpAny_pure ?_)))
 refine wpAny_bind (wpAny_of_eq (sliceIndices_raw (some x) (some y) none items.size (by simp)) ?_)
 rw[bounds_in h0 (Int.le_trans h1 h2) (Int.le_trans h0 h1) h2]
 refine wpAny_bind (wpAny_rule ?_)
 have big:Builtin.List.listTooLong (items.size+new.size)=false:=by simp[Builtin.List.listTooLong,sizeLine];exact Nat.le_trans (by assumption) (by simp)
 rw[big,Int.max_eq_right h1]
 have hsl:sizeLine=16777216:=by rfl
 refine wpAny_bind (m:=updateSeq l _) (wpAny_updateSeq (o:={ cls:=.type "list",data:=.seq items n }) hl rfl ?_ (by lia) (by
  have a:∀i j,(items.extract i j).size≤items.size:=fun i j=>by rw[Array.size_extract];exact Nat.le_trans (Nat.sub_le ..) (Nat.min_le_right ..)
  rw[Array.size_append,Array.size_append]
  exact Nat.le_trans (Nat.add_le_add (Nat.add_le_add (a _ _) (Nat.le_refl _)) (a _ _)) (by lia)))
 refine wpAny_bind (wpAny_letGo (wpAny_pure ?_))
 first
  | exact⟨.none,rfl,wpAny_pure hQ⟩
  | exact wpAny_pure ⟨.none,rfl,wpAny_pure hQ⟩
end
section
variable {Γ:Ctx}{σ:Wd}{h:Hp}{Q:Unit→Shared→Prop}{E:Value→Shared→Prop}{a b i c v:V}{u u1 u2 u3 u4:Value}{j:Nat}{vs ws:List V}{ν:Nu}
theorem setItem_k {o:Option O}{K:Hp→Prop}{G:Option O→V→Prop}(x:wO' (match o,i with
  | some (.list vs),.int k=>if 0≤k∧k<vs.length∧j≠0 then some (h.set j (.list (vs.set k.toNat v)))else none
  | some (.dictI es),.int k=>if es.length<lim∧j≠0 then some (h.set j (.dictI (putK k v es)))else none
  | some (.dictS es),.str k=>if es.length<lim∧j≠0 then some (h.set j (.dictS (putF k v es)))else none
  | _,_=>none) K) (k1:∀vs k,0≤k∧k<vs.length∧j≠0→K (h.set j (.list (vs.set k.toNat v)))→G (some (.list vs)) (.int k)) (k2:∀es k,es.length<lim∧j≠0→K (h.set j (.dictI (putK k v es)))→G (some (.dictI es)) (.int k)) (k3:∀es k,es.length<lim∧j≠0→K (h.set j (.dictS (putF k v es)))→G (some (.dictS es)) (.str k)):G o i:=by
 cases o with
 | none=>exact x.elim
 | some o=>cases o with
  | list vs=>cases i with
   | int k=>exact O_if x (k1 vs k)
   | _=>exact x.elim
  | dictI es=>cases i with
   | int k=>exact O_if x (k2 es k)
   | _=>exact x.elim
  | dictS es=>cases i with
   | str k=>exact O_if x (k3 es k)
   | _=>exact x.elim
  | _=>contradiction<;>exact x.elim
theorem stored_k {P:Type} [DecidableEq P] {y:P×Value}{r:List (P×Value)}{k:P}{u:Value}:stored (y::r) k u=if y.1=k then(y.1,u)::r.map (fun kv=>if kv.1=k then(kv.1,u)else kv)else y::stored r k u:=by
 unfold stored
 by_cases e:y.1=k
 ·rw[if_pos e,List.any_cons,decide_eq_true e,Bool.true_or,if_pos rfl,List.map_cons,if_pos e]
 ·rw[if_neg e,List.any_cons,decide_eq_false e,Bool.false_or,List.map_cons,if_neg e]
  by_cases q:(r.any fun kv=>decide (kv.1=k))=true
  ·rw[if_pos q,if_pos q]
  ·rw[if_neg q,if_neg q];rfl
theorem map_same {P:Type} [DecidableEq P] {k:P}{u:Value}{r:List (P×Value)}(n:k∉r.map (·.1)):r.map (fun kv=>if kv.1=k then(kv.1,u)else kv)=r:=
 (List.map_congr_left fun p hp=>if_neg fun q:p.1=k=>n (List.mem_map.mpr ⟨p,hp,q⟩)).trans (List.map_id _)
theorem putK_pairs {es:List (Int×V)}{kvs:List (Int×Value)}{k:Int}(x:All2 (KI ν) es kvs) (nd:(kvs.map (·.1)).Nodup) (r:VR ν v u):All2 (KI ν) (putK k v es) (stored kvs k u):=by
 induction x with
 | nil=>exact .cons ⟨rfl,r⟩ .nil
 | @cons a b as bs hab t ih=>
  have nd:=List.nodup_cons.mp nd
  rw[stored_k]
  show All2 (KI ν) (if a.1=k then(a.1,v)::as else(a.1,a.2)::putK k v as) _
  rw[← hab.1]
  by_cases hk:b.1=k
  ·rw[if_pos hk,if_pos hk,map_same (hk▸nd.1)];exact .cons ⟨rfl,r⟩ t
  ·rw[if_neg hk,if_neg hk];exact .cons ⟨rfl,hab.2⟩ (ih nd.2)
theorem putF_pairs {es:List (Nat×V)}{kvs:List (Str×Value)}{k:Nat}(x:All2 (KS ν) es kvs) (nd:(kvs.map (·.1)).Nodup) (l:k<texts.length) (r:VR ν v u):All2 (KS ν) (putF k v es) (stored kvs (strAt k) u):=by
 induction x with
 | nil=>exact .cons ⟨⟨l,rfl⟩,r⟩ .nil
 | @cons a b as bs hab t ih=>
  have nd:=List.nodup_cons.mp nd
  rw[stored_k]
  show All2 (KS ν) (if a.1=k then(a.1,v)::as else(a.1,a.2)::putF k v as) _
  by_cases hk:a.1=k
  ·have e:b.1=strAt k:=hk▸hab.1.2
   rw[if_pos hk,if_pos e,map_same (e▸nd.1)];exact .cons ⟨⟨hab.1.1,hab.1.2⟩,r⟩ t
  ·have e:b.1≠strAt k:=fun e=>hk (strAt_inj hab.1.1 l (hab.1.2▸e))
   rw[if_neg hk,if_neg e];exact .cons hab (ih nd.2)
theorem l_setItem (S:St Γ h σ) (x:wO' (setItem a i v h) (Kn Γ σ Q)) (xa:VR σ.ν a u1) (xi:VR σ.ν i u2) (xv:VR σ.ν v u3):Γ.wp (PySem.setItem u1 u2 u3) Q E σ.s:=by
 cases a with
 | ref j=>
  exact setItem_k (o:=h[j]?) (i:=i) (K:=Kn Γ σ Q) (G:=fun o i=>h[j]?=o→VR σ.ν i u2→Γ.wp (PySem.setItem u1 u2 u3) Q E σ.s) x
   (fun vs k l x ho xi=>xa.list S ho fun p its n ea hp h1 hl hg hv z=>by
    rw[ea]
    rw[lim_is]at hl
    refine xi.int fun t=>?_
    have y:=setList (tk:=σ.s.toks) (g:=fun xs=>xs.setIfInBounds k.toNat u3) S (Nat.pos_of_ne_zero l.2.2) hp h1 hg (vs:=vs.set k.toNat v) (by rw[List.length_set,lim_is];exact hl) (by rw[Array.toList_setIfInBounds];exact hv.set _ xv)
    exact setItem_listX hg l.1 (by lia) (by rw[z];exact l.2.1) (x _ y.1 y.2))
   (fun es k l x ho xi=>S.hr.get ho fun p hp R=>match R with
    | .dictI (kvs:=kvs) e z hl hd hq=>by
     rw[xa.at hp]
     refine xi.int fun t=>?_
     have nd:(kvs.map (·.1)).Nodup:=by obtain⟨_,_,_,_,_,_,_,_,nd⟩:=hd;exact nd
     refine wpAny_setItem_pairs (intKind_is Γ.pr Γ.w k t) hd (fun h' hd hs=>?_) (by rw[← hq.length];exact Nat.le_trans (Nat.le_of_lt l.1) lim_line)
     have y:=S.set (s':={ σ.s with heap:=h',toks:=σ.s.toks+1 }) (Nat.pos_of_ne_zero l.2) hp (fun c o n1 hc=>(hs.2 c fun z=>n1 (.inl z)).trans hc) (.dictI e z (Nat.le_trans putK_le l.1) hd (putK_pairs hq nd xv)) rfl rfl
     exact x _ y.1 y.2)
   (fun es k l x ho xi=>S.hr.get ho fun p hp R=>match R with
    | .dictS (kvs:=kvs) e z hl hd hq=>by
     rw[xa.at hp]
     refine xi.str fun lk t=>?_
     have nd:(kvs.map (·.1)).Nodup:=by obtain⟨_,_,_,_,_,_,_,_,nd⟩:=hd;exact nd
     refine wpAny_setItem_pairs (strKind_is Γ.pr Γ.w _ t) hd (fun h' hd hs=>?_) (by rw[← hq.length];exact Nat.le_trans (Nat.le_of_lt l.1) lim_line)
     have y:=S.set (s':={ σ.s with heap:=h',toks:=σ.s.toks+1 }) (Nat.pos_of_ne_zero l.2) hp (fun c o n1 hc=>(hs.2 c fun z=>n1 (.inl z)).trans hc) (.dictS e z (Nat.le_trans putF_le l.1) hd (putF_pairs hq nd lk xv)) rfl rfl
     exact x _ y.1 y.2) rfl xi
 | _=>exact x.elim
theorem list_O {β:Type}{o:Option O}{f:List V→Option β}{K:β→Prop}{G:Prop}(y:wO' (match o with | some (.list vs)=>f vs | _=>none) K) (k:∀vs,o=some (.list vs)→wO' (f vs) K→G):G:=by
 cases o with
 | none=>exact y.elim
 | some o=>cases o with
  | list vs=>exact k vs rfl y
  | _=>exact y.elim
theorem setSlice_k {K:Hp→Prop}{G:V→V→V→Prop}(x:wO' (setSlice a b c v h) K) (k:∀(j:Nat) (x y:Int) (vs ws:List V),h[j]?=some (.list vs)→listOf h v=some ws→v≠.ref j∧0≤x∧x≤y∧y≤vs.length∧vs.length+ws.length≤lim∧j≠0→K (h.set j (.list (vs.take x.toNat++ws++vs.drop y.toNat)))→G (.ref j) (.int x) (.int y)):G a b c:=by
 cases a with
 | ref j=>cases b with
  | int m=>cases c with
   | int n=>
    unfold setSlice at x
    cases e:listOf h v with
    | none=>rw[e]at x;exact x.elim
    | some ws=>
     rw[e]at x
     exact list_O (f:=fun vs=>if v≠.ref j∧0≤m∧m≤n∧n≤vs.length∧vs.length+ws.length≤lim∧j≠0 then some (h.set j (.list (vs.take m.toNat++ws++vs.drop n.toNat)))else none) x fun vs ho y=>O_if y (k j m n vs ws ho e)
   | _=>exact x.elim
  | _=>exact x.elim
 | _=>exact x.elim
theorem l_setSlice {sl:Addr}(S:St Γ h σ) (x:wO' (setSlice a b c v h) (Kn Γ σ Q)) (xv:VR σ.ν v u4) (hsl:σ.H.IsSliceOf sl u2 u3 .none):VR σ.ν a u1→VR σ.ν b u2→VR σ.ν c u3→Γ.wp (PySem.setItem u1 (.ref sl) u4) Q E σ.s:=
 setSlice_k (G:=fun a b c=>VR σ.ν a u1→VR σ.ν b u2→VR σ.ν c u3→Γ.wp (PySem.setItem u1 (.ref sl) u4) Q E σ.s) x fun j m n vs ws ho e0 l x xa xb xc=>
  lo_inv (K:=fun z=>z=ws) (G:=fun v=>v≠.ref j→VR σ.ν v u4→Γ.wp (PySem.setItem u1 (.ref sl) u4) Q E σ.s) (a:=v) (by rw[e0]) (fun j' ws' ho' z ne xv=>by
   subst z
   exact xa.list S ho fun p its nz ea hp h1 hl hg hv z=>xv.list S ho' fun q its' n' eb hq J J hg' hv' z'=>by
    obtain⟨_,l1,l2,l3,l4,l5⟩:=l
    rw[lim_is]at l4
    have hne:p.1≠q.1:=fun z=>ne (congrArg V.ref (S.hr.disj j' j q p p.1 hq hp (.inl z) (.inl rfl)))
    have y:=setList (tk:=σ.s.toks) (g:=fun xs=>xs.extract 0 m.toNat++its'++xs.extract n.toNat xs.size) S (Nat.pos_of_ne_zero l5) hp h1 hg (vs:=vs.take m.toNat++ws'++vs.drop n.toNat) (by
     rw[List.length_append,List.length_append,List.length_drop]
     have:=List.length_take_le m.toNat vs
     exact Nat.le_trans (Nat.add_le_add (Nat.add_le_add this (Nat.le_refl _)) (Nat.le_refl _)) (by rw[lim_is];lia)) (by
     have:(its.extract 0 m.toNat++its'++its.extract n.toNat its.size).toList=its.toList.take m.toNat++its'.toList++its.toList.drop n.toNat:=by
      simp[List.take_of_length_le]
     rw[this]
     exact((hv.take _).append hv').append (hv.drop _))
    rw[ea,eb]
    exact setItem_sliceX hg hg' hne hsl (part_of xb) (part_of xc) l1 l2 (by rw[z];exact l3) (by lia) (x _ y.1 y.2)) l.1 xv
end
end Mine
namespace Mine
open PySem PySem.W PyProof.Rows PySem.SeqAt PySem.EqNone PySem.MeetsSeq
noncomputable def omO (i:Nat) (m:Nat) (as:List V) (h:Hp) (o:Option O):R V:=match o with
 | some (.list vs)=>
  if m=s_append then(match as with
   | [v]=>if vs.length<lim then .ok .none (h.set i (.list (vs++[v])))else .stuck
   | _=>.stuck)
  else if m=s_extend then(match as with
   | [a]=>match listOf h a with
    | some ws=>if a≠.ref i∧vs.length+ws.length≤lim then .ok .none (h.set i (.list (vs++ws)))else .stuck
    | none=>.stuck
   | _=>.stuck)
  else if m=s_pop then(match as with
   | []=>match vs.getLast? with
    | some v=>.ok v (h.set i (.list vs.dropLast))
    | none=>.stuck
   | [.int k]=>if k=0 then(match vs with
     | v::r=>.ok v (h.set i (.list r))
     | []=>.stuck)else .stuck
   | _=>.stuck)
  else if m=s_insert then(match as with
   | [.int k,v]=>if 0≤k∧k≤vs.length∧vs.length<lim then .ok .none (h.set i (.list (vs.take k.toNat++v::vs.drop k.toNat)))else .stuck
   | _=>.stuck)
  else if m=s_index then(match as with
   | [.int x]=>match intsOf vs with
    | some J=>(match idxOf (.int x) vs with | some k=>.ok (.int k) h | none=>.stuck)
    | none=>.stuck
   | _=>.stuck)
  else .stuck
 | some (.dictI es)=>
  if m=s_get then(match as with
   | [.int k,d]=>.ok ((findK k es).getD d) h
   | _=>.stuck)
  else .stuck
 | _=>.stuck
theorem omO_is {i m:Nat}{as:List V}{h:Hp}:objMeth i m as h=omO i m as h h[i]?:=rfl
section
variable {Γ:Ctx}{σ:Wd}{h:Hp}{Q E:Value→Shared→Prop}{u:Value}{us:List Value}{i m:Nat}{vs as:List V}{ν:Nu}{K:V→Hp→Prop}{G:Prop}{v a b:V}
theorem two_of {us:List Value}{G:Prop}(x:VRs ν [a,b] us) (k:∀u w,us=[u,w]→VR ν a u→VR ν b w→G):G:=
 cons_of x fun u r e xa x=>one_of x fun w e' xb=>k u w (e'▸e) xa xb
theorem om_app (ho:h[i]?=some (.list vs)) (x:C' (objMeth i 0 as h) K) (k:∀v,as=[v]→vs.length<lim→K .none (h.set i (.list (vs++[v])))→G):G:=by
 rw[omO_is,ho]at x
 cases as with
 | nil=>exact x.elim
 | cons v r=>cases r with
  | nil=>exact C_if (show C' (if vs.length<lim then .ok .none (h.set i (.list (vs++[v])))else .stuck) K from x) (k v rfl)
  | cons J J1=>exact x.elim
theorem om_ext (ho:h[i]?=some (.list vs)) (x:C' (objMeth i 1 as h) K) (k:∀j ws,as=[.ref j]→h[j]?=some (.list ws)→vs.length+ws.length≤lim→K .none (h.set i (.list (vs++ws)))→G):G:=by
 rw[omO_is,ho]at x
 cases as with
 | nil=>exact x.elim
 | cons v r=>cases r with
  | nil=>exact lo_C (a:=v) (f:=fun ws=>if v≠.ref i∧vs.length+ws.length≤lim then R.ok V.none (h.set i (.list (vs++ws)))else .stuck) (G:=fun a=>v=a→G) x (fun j ws hj x e=>C_if x fun l x=>k j ws (congrArg (fun z=>[z]) e) hj l.2 x) rfl
  | cons J J1=>exact x.elim
theorem om_pop (ho:h[i]?=some (.list vs)) (x:C' (objMeth i 2 as h) K) (k1:∀v,as=[]→vs.getLast?=some v→K v (h.set i (.list vs.dropLast))→G) (k2:∀v r,as=[.int 0]→vs=v::r→K v (h.set i (.list r))→G):G:=by
 rw[omO_is,ho]at x
 cases as with
 | nil=>
  have y:∀{o:Option V},C' (match o with | some v=>.ok v (h.set i (.list vs.dropLast)) | none=>.stuck) K→wO' o fun v=>K v (h.set i (.list vs.dropLast)):=fun{o} y=>by cases o<;>exact y
  exact(y x).of fun v e x=>k1 v rfl e x
 | cons a r=>cases a with
  | int n=>cases r with
   | nil=>
    cases vs with
    | nil=>exact C_if (show C' (if n=0 then .stuck else .stuck) K from x) fun J x=>x.elim
    | cons v r=>exact C_if (show C' (if n=0 then .ok v (h.set i (.list r))else .stuck) K from x) fun z x=>k2 v r (z▸rfl) rfl x
   | cons J J1=>exact x.elim
  | _=>exact x.elim
theorem iv_k {f:Int→V→R V}(x:C' (match as with | [.int k,v]=>f k v | _=>.stuck) K) (k:∀n v,as=[.int n,v]→C' (f n v) K→G):G:=by
 cases as with
 | nil=>exact x.elim
 | cons a r=>cases a with
  | int n=>cases r with
   | nil=>exact x.elim
   | cons v r=>cases r with
    | nil=>exact k n v rfl x
    | cons J J1=>exact x.elim
  | _=>cases r with
   | nil=>exact x.elim
   | cons J r=>contradiction<;>exact x.elim
theorem om_ins (ho:h[i]?=some (.list vs)) (x:C' (objMeth i 3 as h) K) (k:∀n v,as=[.int n,v]→0≤n∧n≤vs.length∧vs.length<lim→K .none (h.set i (.list (vs.take n.toNat++v::vs.drop n.toNat)))→G):G:=by
 rw[omO_is,ho]at x
 exact iv_k (f:=fun n v=>if 0≤n∧n≤vs.length∧vs.length<lim then .ok .none (h.set i (.list (vs.take n.toNat++v::vs.drop n.toNat)))else .stuck) x fun n v e x=>C_if x (k n v e)
theorem om_idx (ho:h[i]?=some (.list vs)) (x:C' (objMeth i 4 as h) K) (k:∀n m is,as=[.int n]→intsOf vs=some is→idxOf (.int n) vs=some m→K (.int (m:Nat)) h→G):G:=by
 rw[omO_is,ho]at x
 cases as with
 | nil=>exact x.elim
 | cons a r=>cases a with
  | int n=>cases r with
   | nil=>
    have y:∀{o:Option (List Int)} {o2:Option Nat},C' (match o with | some J=>(match o2 with | some k=>R.ok (V.int k) h | none=>.stuck) | none=>.stuck) K→wO' o fun is=>wO' o2 fun m=>K (.int (m:Nat)) h:=fun{o o2} y=>by
     cases o with
     | none=>exact y
     | some J=>cases o2<;>exact y
    exact(y x).of fun is e1 y=>y.of fun m e2 y=>k n m is rfl e1 e2 y
   | cons J J1=>exact x.elim
  | _=>contradiction<;>exact x.elim
theorem om_get {es:List (Int×V)}(ho:h[i]?=some (.dictI es)) (x:C' (objMeth i 5 as h) K) (k:∀n d,as=[.int n,d]→K ((findK n es).getD d) h→G):G:=by
 rw[omO_is,ho]at x
 exact iv_k (f:=fun n d=>.ok ((findK n es).getD d) h) x k
theorem All2.dropLast {α β:Type}{R:α→β→Prop}{as:List α}{bs:List β}(x:All2 R as bs):All2 R as.dropLast bs.dropLast:=by
 rw[List.dropLast_eq_take,List.dropLast_eq_take,← x.length];exact x.take _
theorem erase_last (its:Array Value):(its.eraseIdxIfInBounds (its.size-1)).toList=its.toList.dropLast:=by
 rw[Array.toList_eraseIdxIfInBounds,← Array.length_toList,List.eraseIdx_length_sub_one]
theorem erase_first (its:Array Value):(its.eraseIdxIfInBounds 0).toList=its.toList.tail:=by
 rw[Array.toList_eraseIdxIfInBounds]
 cases its.toList<;>rfl
theorem idxOf_is {x:V}{vs:List V}:∀{k:Nat},idxOf x vs=some k→∃hk:k<vs.length,vs[k]=x∧∀m (hm:m<vs.length),m<k→vs[m]≠x:=by
 induction vs with
 | nil=>intro k e;contradiction
 | cons y r ih=>
  intro k e
  by_cases q:x=y
  ·have e1:0=k:=Option.some.inj ((if_pos q).symm.trans e)
   exact e1▸⟨Nat.succ_pos _,q.symm,fun m J hm=>absurd hm (Nat.not_lt_zero _)⟩
  ·have e1:(idxOf x r).map (·+1)=some k:=(if_neg q).symm.trans e
   obtain⟨j,hj,rfl⟩:=Option.map_eq_some_iff.mp e1
   have J:=ih hj;have h1:=J.1;have h2:=J.2.1;have h3:=J.2.2
   exact⟨Nat.succ_lt_succ h1,h2,fun m=>Nat.casesOn m (fun J J z=>q z.symm) fun m hm hl=>h3 m (Nat.lt_of_succ_lt_succ hm) (Nat.lt_of_succ_lt_succ hl)⟩
theorem int_at {is:List Int}{vs:List V}:∀{us:List Value},intsOf vs=some is→VRs ν vs us→∀{m:Nat}{w:Value},us[m]?=some w→∃i t,w=.int i t∧vs[m]?=some (.int i):=by
 induction vs generalizing is with
 | nil=>intro us e r m w hw;rw[nil_of r]at hw;contradiction
 | cons a vs ih=>
  intro us e r m w hw
  cases a with
  | int i=>
    refine cons_of r fun u us' eu xa r=>?_
    rw[eu]at hw
    cases m with
    | zero=>exact xa.elim fun t e=>⟨i,t,(Option.some.inj hw).symm.trans e,rfl⟩
    | succ m=>
     have e:(intsOf vs).map (i::·)=some is:=e
     obtain⟨is',e',_⟩:=Option.map_eq_some_iff.mp e
     exact ih e' r hw
  | _=>contradiction
noncomputable def methId (m:Nat):String:=match m with
 | 0=>"list.append" | 1=>"list.extend" | 2=>"list.pop" | 3=>"list.insert" | _=>"list.index"
theorem not_long {n:Nat}(l:n≤lim):Builtin.List.listTooLong n=false:=decide_eq_false (Nat.not_lt.mpr (Nat.le_trans l lim_line))
theorem l_app (S:St Γ h σ) (ho:h[i]?=some (.list vs)) (i0:0<i) (xa:VR σ.ν (.ref i) u) (xs:VRs σ.ν as us) (x:C' (objMeth i 0 as h) (Kq Γ σ Q)):Γ.wp (call (.builtin "list.append") (u::us)) Q E σ.s:=
 xa.list S ho fun p its n ea hp h1 hl hg hv z=>om_app ho x fun v e l y=>by
  subst e
  rw[ea]
  refine one_of xs fun w ew xw=>ew▸?_
  refine call_meets PySem.F.slot_list_append ⟨_,hg,rfl⟩ PySem.F.entry_list_append (PySem.F.args_list_append_2 _ _) (AutoListH.list_append_list_val_0 p.1 its n w (by rw[z];exact Nat.le_trans hl lim_line)) ⟨hg,?_⟩
  exact Kq.setList y S i0 hp h1 hg (by rw[List.length_append];exact l) (by rw[Array.toList_push];exact hv.append (.cons xw .nil)) rfl
theorem l_ext (S:St Γ h σ) (ho:h[i]?=some (.list vs)) (i0:0<i) (xa:VR σ.ν (.ref i) u) (xs:VRs σ.ν as us) (x:C' (objMeth i 1 as h) (Kq Γ σ Q)):Γ.wp (call (.builtin "list.extend") (u::us)) Q E σ.s:=
 xa.list S ho fun p its n ea hp h1 hl hg hv z=>om_ext ho x fun j ws e hj l y=>by
  subst e
  rw[ea]
  refine one_of xs fun w ew xw=>ew▸?_
  refine xw.list S hj fun q its' n' eb J J J hg' hv' z'=>?_
  rw[eb]
  have l2:its.size+its'.size≤lim:=by rw[z,z'];exact l
  refine call_meets PySem.F.slot_list_extend ⟨_,hg,rfl⟩ PySem.F.entry_list_extend (PySem.F.args_list_extend_2 _ _) (AutoSeq1.list_extend_list_list_0 p.1 its n q.1 its' n' (by rw[not_long l2,Bool.and_false];exact Bool.false_ne_true) (by rw[z];exact Nat.le_trans hl lim_line) (Nat.le_succ_of_le (Nat.le_trans l2 lim_line))) ⟨hg,hg',?_⟩
  exact Kq.setList y S i0 hp h1 hg (by rw[List.length_append];exact l) (by rw[Array.toList_append];exact hv.append hv') rfl
theorem l_pop (S:St Γ h σ) (ho:h[i]?=some (.list vs)) (i0:0<i) (xa:VR σ.ν (.ref i) u) (xs:VRs σ.ν as us) (x:C' (objMeth i 2 as h) (Kq Γ σ Q)):Γ.wp (call (.builtin "list.pop") (u::us)) Q E σ.s:=
 xa.list S ho fun p its n ea hp h1 hl hg hv z=>om_pop ho x
  (fun v e l k=>by
   subst e
   rw[ea,nil_of xs]
   rw[List.getLast?_eq_getElem?,← z]at l
   obtain⟨y,hy,r⟩:=hv.get l
   refine call_meets PySem.F.slot_list_pop ⟨_,hg,rfl⟩ PySem.F.entry_list_pop (PySem.F.args_list_pop_1 _) (list_pop_last p.1 its n y (its_get hy) (by rw[z];exact Nat.le_trans hl lim_line)) ⟨hg,?_⟩
   exact Kq.setList k S i0 hp h1 hg (by rw[List.length_dropLast];exact Nat.le_trans (Nat.sub_le ..) hl) (by rw[erase_last];exact hv.dropLast) r)
  fun v r e ev k=>by
   subst e
   subst ev
   rw[ea]
   refine one_of xs fun w ew xw=>ew▸?_
   refine xw.int fun t=>?_
   refine cons_of hv fun y ys ey ry hr=>?_
   have hy:its[0]?=some y:=its_get (by rw[ey];rfl)
   refine call_meets PySem.F.slot_list_pop ⟨_,hg,rfl⟩ PySem.F.entry_list_pop (PySem.F.args_list_pop_2 _ _) (list_pop_at p.1 its n 0 t 0 y (fitsIndex_of (by decide) (by decide)) (seqIndex_of (Int.le_refl 0) (by rw[z];exact Int.ofNat_lt.mpr (Nat.succ_pos _))) hy (by rw[z];exact Nat.le_trans hl lim_line)) ⟨hg,?_⟩
   exact Kq.setList k S i0 hp h1 hg (Nat.le_trans (Nat.le_succ _) hl) (by rw[erase_first,ey];exact hr) ry
theorem l_ins (S:St Γ h σ) (ho:h[i]?=some (.list vs)) (i0:0<i) (xa:VR σ.ν (.ref i) u) (xs:VRs σ.ν as us) (x:C' (objMeth i 3 as h) (Kq Γ σ Q)):Γ.wp (call (.builtin "list.insert") (u::us)) Q E σ.s:=
 xa.list S ho fun p its n ea hp h1 hl hg hv z=>om_ins ho x fun k v e l y=>by
  subst e
  rw[ea]
  refine two_of xs fun w1 w2 ew xw1 xw2=>ew▸?_
  refine xw1.int fun t=>?_
  obtain⟨l1,l2,l3⟩:=l
  rw[lim_is]at hl
  refine call_meets PySem.F.slot_list_insert ⟨_,hg,rfl⟩ PySem.F.entry_list_insert (PySem.F.args_list_insert_3 _ _ _) (AutoListH.list_insert_list_int_val_1 p.1 its n k t w2 (by rw[fitsIndex_of l1 (by lia)];decide) (by rw[z];exact Nat.le_trans (lim_is▸hl) lim_line)) ⟨hg,?_⟩
  refine Kq.setList y S i0 hp h1 hg ?_ ?_ rfl
  ·rw[List.length_append,List.length_cons,List.length_drop,List.length_take,Nat.min_eq_left (by lia)];lia
  ·have e1:min k.toNat its.size=k.toNat:=Nat.min_eq_left (by lia)
   have e2:((its.extract 0 k.toNat).push w2++its.extract k.toNat).toList=its.toList.take k.toNat++w2::its.toList.drop k.toNat:=by simp[List.take_of_length_le]
   show VRs σ.ν _ (Array.toList ((its.extract 0 (if k<0 then _ else _)).push w2++its.extract (if k<0 then _ else _)))
   rw[if_neg (Int.not_lt.mpr l1),e1,e2]
   exact(hv.take _).append (.cons xw2 (hv.drop _))
theorem l_idx (S:St Γ h σ) (ho:h[i]?=some (.list vs)) (xa:VR σ.ν (.ref i) u) (xs:VRs σ.ν as us) (x:C' (objMeth i 4 as h) (Kq Γ σ Q)):Γ.wp (call (.builtin "list.index") (u::us)) Q E σ.s:=
 xa.list S ho fun p its n ea hp h1 hl hg hv z=>om_idx ho x fun k m is e ei em y=>by
  subst e
  rw[ea]
  refine one_of xs fun w ew xw=>ew▸?_
  refine xw.int fun t=>?_
  rw[lim_is]at hl
  obtain⟨hk,q1,q2⟩:=idxOf_is em
  have hInt:∀{m:Nat} (hm:m<its.size),∃i t,its[m]=.int i t∧vs[m]?=some (.int i):=fun{m} hm=>int_at ei hv (List.getElem?_eq_some_iff.mpr ⟨hm,rfl⟩)
  refine call_meets PySem.F.slot_list_index ⟨_,hg,rfl⟩ PySem.F.entry_list_index (PySem.F.args_list_index_2 _ _)
   (list_indexAt p.1 its n none #[] (.int k t) (fun y=>match y with | .int i _=>i==k | _=>false) m (by lia) (by lia) ?_ (fun m hm hl=>?_)) ⟨hg,fun y hy=>?_,Kq.tok y S ⟨_,rfl⟩⟩
  ·obtain⟨i,t',e3,e4⟩:=hInt (m:=m) (by lia)
   rw[e3]
   rw[List.getElem?_eq_getElem hk,q1]at e4
   exact beq_iff_eq.mpr (V.int.inj (Option.some.inj e4)).symm
  ·obtain⟨i,t',e3,e4⟩:=hInt (m:=m) hm
   rw[e3]
   have hm':m<vs.length:=z▸hm
   rw[List.getElem?_eq_getElem hm']at e4
   exact beq_eq_false_iff_ne.mpr fun e6=>q2 m hm' hl ((Option.some.inj e4).trans (congrArg V.int e6))
  ·obtain⟨m,hm,rfl⟩:=Array.mem_iff_getElem.mp hy
   obtain⟨i,t',e3,e4⟩:=hInt (m:=m) hm
   rw[e3]
   exact(PySem.MeetsSeq.EqGives.int _ _ _ _).at _ _
theorem l_get {es:List (Int×V)}(S:St Γ h σ) (ho:h[i]?=some (.dictI es)) (xa:VR σ.ν (.ref i) u) (xs:VRs σ.ν as us) (x:C' (objMeth i 5 as h) (Kq Γ σ Q)):Γ.wp (call (.builtin "dict.get") (u::us)) Q E σ.s:=
 S.hr.get ho fun p hp R=>match R with
  | .dictI (kvs:=kvs) e z hl hd hq=>om_get ho x fun k d e y=>by
   subst e
   rw[xa.at hp]
   refine two_of xs fun w1 w2 ew xw1 xw2=>ew▸?_
   refine xw1.int fun t=>?_
   refine call_meetsIn PySem.F.slot_dict_get hd.typeIs PySem.F.entry_dict_get (PySem.F.args_dict_get_3 _ _ _) (meets_dict_get_default (intKind Γ.pr Γ.w) p.1 (intKind_is Γ.pr Γ.w k t) (not_sys z) w2) ⟨_,hd.mapOf,Kq.tok y S ?_⟩
   exact findK_k hq (k:=k) (G:=fun o1 o2=>VR σ.ν (o1.getD d) (o2.getD w2)) xw2 fun J J r=>r
end
end Mine
namespace Mine
open PySem PySem.W PyProof.Rows PySem.SeqAt PySem.EqNone PySem.MeetsSeq PySem.Calls
noncomputable def biVal:BI→Value
 | .len=>.builtin "len" | .sum=>.builtin "sum" | .max=>.builtin "max" | .min=>.builtin "min" | .sorted=>.builtin "sorted" | .list=>.type "list" | .abs=>.builtin "abs"
theorem sorted_is {ns ns':List Int}(hp:ns'.Perm ns) (hs:ns'.Pairwise (·≤·)):ns.mergeSort (fun a b=>decide (a≤b))=ns':=by
 refine List.Perm.eq_of_pairwise (le:=fun a b:Int=>a≤b) (fun a b J J h1 h2=>Int.le_antisymm h1 h2) ?_ hs ((List.mergeSort_perm _ _).trans hp.symm)
 have:=List.pairwise_mergeSort (le:=fun a b:Int=>decide (a≤b)) (fun a b c h1 h2=>decide_eq_true (Int.le_trans (of_decide_eq_true h1) (of_decide_eq_true h2))) (fun a b=>(Int.le_total a b).elim (fun l=>by rw[decide_eq_true l];rfl) fun l=>by rw[decide_eq_true l,Bool.or_true]) ns
 exact this.imp fun h=>of_decide_eq_true h
theorem foldl_max (r:List Int):∀(x:Int),(r.foldl max x∈x::r)∧∀a∈x::r,a≤r.foldl max x:=by
 induction r with
 | nil=>exact fun x=>⟨.head _,fun a ha=>List.mem_singleton.mp ha▸Int.le_refl _⟩
 | cons y r ih=>
  intro x
  obtain⟨h1,h2⟩:=ih (max x y)
  rw[List.foldl_cons]
  refine⟨(List.mem_cons.mp h1).elim (fun q=>?_) fun q=>.tail _ (.tail _ q),fun a ha=>?_⟩
  ·rw[q]
   exact(Int.le_total x y).elim (fun l=>by rw[Int.max_eq_right l];exact .tail _ (.head _)) fun l=>by rw[Int.max_eq_left l];exact .head _
  ·exact(List.mem_cons.mp ha).elim (fun e=>by rw[e];exact Int.le_trans (Int.le_max_left x y) (h2 _ (.head _))) fun ha=>(List.mem_cons.mp ha).elim (fun e=>by rw[e];exact Int.le_trans (Int.le_max_right x y) (h2 _ (.head _))) fun ha=>h2 a (.tail _ ha)
section
variable {Γ:Ctx}{σ:Wd}{h:Hp}{Q E:Value→Shared→Prop}{u:Value}{us:List Value}{i:Nat}{vs as:List V}{ν:Nu}{K:V→Hp→Prop}{v a b:V}{l:Addr}{its:Array Value}{ns:List Int}
theorem vrs_ints (x:IntsAre us ns):VRs ν (ns.map V.int) us:=by
 induction x with
 | nil=>exact .nil
 | cons n t J ih=>exact .cons ⟨t,rfl⟩ ih
theorem lo_CI {f:List Int→R V}{G:V→Prop}(x:C' (match(listOf h a).bind intsOf with | some is=>f is | none=>.stuck) K) (k:∀j vs is,h[j]?=some (.list vs)→intsOf vs=some is→C' (f is) K→G (.ref j)):G a:=by
 have y:∀{o:Option (List Int)},C' (match o with | some is=>f is | none=>.stuck) K→wO' o fun is=>C' (f is) K:=fun{o} y=>by cases o<;>exact y
 exact lo_inv (O_bind (y x)) fun j vs ho y=>y.of fun is e y=>k j vs is ho e y
theorem one_k {b:BI}{G:List V→Prop}(x:C' (builtin b as h) K) (n0:builtin b [] h=.stuck) (n2:∀a c r,builtin b (a::c::r) h=.stuck) (k:∀a,C' (builtin b [a] h) K→G [a]):G as:=by
 cases as with
 | nil=>rw[n0]at x;exact x.elim
 | cons a r=>cases r with
  | nil=>exact k a x
  | cons c r=>rw[n2]at x;exact x.elim
theorem l_len (S:St Γ h σ) (xs:VRs σ.ν as us) (x:C' (builtin .len as h) (Kq Γ σ Q)):Γ.wp (call (.builtin "len") us) Q E σ.s:=
 one_k (G:=fun as=>VRs σ.ν as us→Γ.wp (call (.builtin "len") us) Q E σ.s) x rfl (fun J J J=>rfl) (fun a x xs=>one_of xs fun u eu xa=>eu▸lo_C (f:=fun vs=>R.ok (V.int vs.length) h) (G:=fun a=>VR σ.ν a u→Γ.wp (call (.builtin "len") [u]) Q E σ.s) x (fun j vs ho x xa=>xa.list S ho fun p its n ea J J hl hg hv z=>by
  rw[ea]
  rw[lim_is]at hl
  exact call_len_list (isList_of hg) (by omega) (by rw[z];exact Kq.tok x S ⟨_,rfl⟩)) xa) xs
theorem l_sum (S:St Γ h σ) (xs:VRs σ.ν as us) (x:C' (builtin .sum as h) (Kq Γ σ Q)):Γ.wp (call (.builtin "sum") us) Q E σ.s:=
 one_k (G:=fun as=>VRs σ.ν as us→Γ.wp (call (.builtin "sum") us) Q E σ.s) x rfl (fun J J J=>rfl) (fun a x xs=>one_of xs fun u eu xa=>eu▸lo_CI (f:=fun is=>R.ok (V.int is.sum) h) (G:=fun a=>VR σ.ν a u→Γ.wp (call (.builtin "sum") [u]) Q E σ.s) x (fun j vs is ho ei x xa=>xa.list S ho fun p its n ea J J hl hg hv z=>intsAre_k (K:=fun z=>z=is) (by rw[ei]) hv fun ns hI e=>by
  rw[ea]
  have ha:=hI.allInts
  rw[Array.toArray_toList]at ha
  have hn:=hI.numsOf
  obtain⟨xs,rfl⟩:=ha.items
  rw[nums_intItems,e]at hn
  refine sum_intListG Γ.handled (isList_of hg) fun h' tk t' hk=>?_
  rw[preSum_eq,List.take_of_length_le (by rw[List.length_map,Array.length_toList];exact Nat.le_refl _),hn]
  exact Kq.more x S ⟨_,rfl⟩ hk) xa) xs
theorem maxl (S:St Γ h σ) (x:C' (builtin .max [a] h) (Kq Γ σ Q)):VR σ.ν a u→Γ.wp (call (.builtin "max") [u]) Q E σ.s:=
 lo_CI (f:=fun is=>match maxI is with | some m=>R.ok (V.int m) h | none=>.stuck) (G:=fun a=>VR σ.ν a u→Γ.wp (call (.builtin "max") [u]) Q E σ.s) x fun j vs is ho ei x xa=>xa.list S ho fun p its n ea J J hl hg hv z=>intsAre_k (K:=fun z=>z=is) (by rw[ei]) hv fun ns hI e=>by
  rw[ea]
  cases is with
  | nil=>exact x.elim
  | cons y r=>
   have ha:=hI.allInts
   rw[Array.toArray_toList]at ha
   have hn:=hI.numsOf
   obtain⟨xs,rfl⟩:=ha.items
   rw[nums_intItems,e]at hn
   have hln:=congrArg List.length hn
   rw[List.length_map,Array.length_toList,List.length_cons]at hln
   refine max_intList Γ.handled (isList_of hg) (hln▸Nat.succ_pos _) fun v h' tk hv hk=>?_
   obtain⟨t,rfl⟩:=intItems_at hv
   obtain⟨h1,h2⟩:=argBest_gt (numAt xs) (xs.size-1)
   obtain⟨m1,m2⟩:=foldl_max r y
   have e:numAt xs (argBest (fun i j=>decide (numAt xs i>numAt xs j)) (xs.size-1))=r.foldl max y:=by
    refine Int.le_antisymm (m2 _ ?_) ?_
    ·rw[← hn,numAt_eq]
     exact getD_mem (by rw[List.length_map,Array.length_toList];exact Nat.lt_of_le_of_lt h1 (Nat.sub_lt (hln▸Nat.succ_pos _) Nat.one_pos))
    ·rw[← hn]at m1
     obtain⟨j,hj,ej⟩:=mem_getD m1
     rw[List.length_map,Array.length_toList]at hj
     rw[← ej,← numAt_eq];exact h2 j (Nat.le_sub_one_of_lt hj)
   rw[e]
   exact Kq.more x S ⟨_,rfl⟩ hk
theorem min_k {G:List V→Prop}(x:C' (builtin .min as h) K) (k:∀x y,K (.int (min x y)) h→G [.int x,.int y]):G as:=by
 cases as with
 | nil=>exact x.elim
 | cons a r=>cases a with
  | int m=>cases r with
   | nil=>exact x.elim
   | cons b r=>cases b with
    | int n=>cases r with
     | nil=>exact k m n x
     | cons J J1=>exact x.elim
    | _=>exact x.elim
  | _=>exact x.elim
theorem max_k {G:List V→Prop}{r:List V}(x:C' (builtin .max (a::b::r) h) K) (k:∀x y,K (.int (max x y)) h→G [.int x,.int y]):G (a::b::r):=by
 cases b with
 | int n=>cases a with
  | int m=>cases r with
   | nil=>exact k m n x
   | cons c r=>exact(show False from x).elim
  | _=>cases r<;>exact(show False from x).elim
 | _=>cases a with
  | int m=>exact(show False from x).elim
  | _=>exact(show False from x).elim
theorem l_max (S:St Γ h σ) (xs:VRs σ.ν as us) (x:C' (builtin .max as h) (Kq Γ σ Q)):Γ.wp (call (.builtin "max") us) Q E σ.s:=by
 cases as with
 | nil=>exact x.elim
 | cons a r=>cases r with
  | nil=>exact one_of xs fun u eu xa=>eu▸maxl S x xa
  | cons b r=>
   exact max_k (G:=fun as=>VRs σ.ν as us→Γ.wp (call (.builtin "max") us) Q E σ.s) x (fun m n x xs=>two_of xs fun u w eu xa xb=>eu▸xa.int fun t=>xb.int fun t'=>max_two_ints Γ.handled fun h' tk hk=>Kq.more x S (by
    split
    ·rename_i q;exact⟨_,by rw[Int.max_eq_right (Int.le_of_lt q)]⟩
    ·rename_i q;exact⟨_,by rw[Int.max_eq_left (Int.not_lt.mp q)]⟩) hk) xs
theorem l_min (S:St Γ h σ) (xs:VRs σ.ν as us) (x:C' (builtin .min as h) (Kq Γ σ Q)):Γ.wp (call (.builtin "min") us) Q E σ.s:=
 min_k (G:=fun as=>VRs σ.ν as us→Γ.wp (call (.builtin "min") us) Q E σ.s) x (fun m n x xs=>two_of xs fun u w eu xa xb=>eu▸xa.int fun t=>xb.int fun t'=>min_two_ints Γ.handled fun h' tk hk=>Kq.more x S (by
  split
  ·rename_i q;exact⟨_,by rw[Int.min_eq_right (Int.le_of_lt q)]⟩
  ·rename_i q;exact⟨_,by rw[Int.min_eq_left (Int.not_lt.mp q)]⟩) hk) xs
theorem l_abs (S:St Γ h σ) (xs:VRs σ.ν as us) (x:C' (builtin .abs as h) (Kq Γ σ Q)):Γ.wp (call (.builtin "abs") us) Q E σ.s:=
 one_k (G:=fun as=>VRs σ.ν as us→Γ.wp (call (.builtin "abs") us) Q E σ.s) x rfl (fun a J J=>by cases a<;>rfl) (fun a x xs=>one_of xs fun u eu xa=>eu▸by
  cases a with
  | int k=>exact xa.int fun t=>call_abs_int fun u tk=>Kq.tok x S ⟨u,congrArg (fun k=>Value.int k u) (by
   split
   ·rename_i q;exact(Int.ofNat_natAbs_of_nonpos (Int.le_of_lt q)).symm
   ·rename_i q;exact(Int.natAbs_of_nonneg (Int.not_lt.mp q)).symm)⟩
  | _=>exact x.elim) xs
theorem l_list (S:St Γ h σ) (xs:VRs σ.ν as us) (x:C' (builtin .list as h) (Kq Γ σ Q)):Γ.wp (call (.type "list") us) Q E σ.s:=
 one_k (G:=fun as=>VRs σ.ν as us→Γ.wp (call (.type "list") us) Q E σ.s) x rfl (fun J J J=>rfl) (fun a x xs=>one_of xs fun u eu xa=>eu▸lo_C (f:=fun vs=>newL vs h) (G:=fun a=>VR σ.ν a u→Γ.wp (call (.type "list") [u]) Q E σ.s) x (fun j vs ho x xa=>xa.list S ho fun p its n ea J J hl hg hv z=>by
  rw[ea]
  exact call_list_seq p.1 (.inl rfl) hg rfl rfl (fun h' c' hk hn=>C_if x fun hl x=>Kq.new x S (none_size _) hk (.list rfl hl hn hv.mono)) (by rw[z];exact Nat.le_trans hl lim_line)) xa) xs
theorem keys_ints {us:List Value}:∀{is:List Int},us.length=is.length→(∀(j:Nat) (v:Value),us[j]?=some v→∃(k:Int) (t:Tok),v=.int k t∧is[j]?=some k)→IntsAre us is:=by
 induction us with
 | nil=>intro is hl J;cases is with
  | nil=>exact .nil
  | cons J J1=>contradiction
 | cons u us ih=>intro is hl q;cases is with
  | nil=>contradiction
  | cons i is=>
   obtain⟨k,t,e1,e2⟩:=q 0 u rfl
   exact e1▸Option.some.inj e2▸.cons _ _ (ih (Nat.succ.inj hl) fun j v hj=>q (j+1) v hj)
theorem made_sorted {H':Heap}{tk n:Nat}{addr:Addr}{is ns':List Int}{out:List Value}(S:St Γ h σ) (x:C' (newL ((is.mergeSort fun a b=>decide (a≤b)).map V.int) h) (Kq Γ σ Q)) (a1:IntsAre out ns') (a2:ns'.Perm is) (a3:ns'.Pairwise (·≤·)) (nn:σ.H.get? addr=none) (e:Kps σ.H H') (g:H'.get? addr=some (lsO out.toArray n)):Q (.ref addr) { σ.s with heap:=H',toks:=tk }:=by
 rw[sorted_is a2 a3]at x
 exact C_if x fun hl x=>Kq.new x S nn e (.list rfl hl g (vrs_ints a1).mono)
theorem above {H:Heap}{b:Addr}(l:@LE.le Nat _ H.objs.size b):H.get? b=none:=by
 cases q:H.get? b with
 | none=>rfl
 | some o=>exact absurd (Heap.lt_size q) (Nat.not_lt.mpr l)
theorem sort_k {o:Option O}{G:Option O→Prop}(x:C' (match o with
  | some (.list vs)=>match intsOf vs with
   | some is=>if is.length<64 then newL ((is.mergeSort (fun a b=>decide (a≤b))).map V.int) h else .stuck
   | none=>.stuck
  | some (.dictI es)=>if es.length<64 then newL (((es.map (·.1)).mergeSort (fun a b=>decide (a≤b))).map V.int) h else .stuck
  | _=>.stuck) K) (k1:∀vs is,intsOf vs=some is→is.length<64→C' (newL ((is.mergeSort (fun a b=>decide (a≤b))).map V.int) h) K→G (some (.list vs))) (k2:∀es,es.length<64→C' (newL (((es.map (·.1)).mergeSort (fun a b=>decide (a≤b))).map V.int) h) K→G (some (.dictI es))):G o:=by
 cases o with
 | none=>exact x.elim
 | some o=>cases o with
  | list vs=>
   have y:∀{o:Option (List Int)},C' (match o with | some is=>if is.length<64 then newL ((is.mergeSort (fun a b=>decide (a≤b))).map V.int) h else .stuck | none=>.stuck) K→wO' o fun is=>C' (if is.length<64 then newL ((is.mergeSort (fun a b=>decide (a≤b))).map V.int) h else .stuck) K:=fun{o} y=>by cases o<;>exact y
   exact(y x).of fun is e y=>C_if y (k1 vs is e)
  | dictI es=>exact C_if x (k2 es)
  | _=>exact x.elim
theorem l_sorted (S:St Γ h σ) (xs:VRs σ.ν as us) (x:C' (builtin .sorted as h) (Kq Γ σ Q)):Γ.wp (call (.builtin "sorted") us) Q E σ.s:=
 one_k (G:=fun as=>VRs σ.ν as us→Γ.wp (call (.builtin "sorted") us) Q E σ.s) x rfl (fun a J J=>by cases a<;>rfl) (fun a x xs=>one_of xs fun u eu xa=>eu▸by
  cases a with
  | ref i=>
   refine sort_k (o:=h[i]?) (G:=fun o=>h[i]?=o→Γ.wp (call (.builtin "sorted") [u]) Q E σ.s) x (fun vs is e l x ho=>?_) (fun es l x ho=>?_) rfl
   ·refine xa.list S ho fun p its n ea J J hl hg hv z=>intsAre_k (K:=fun z=>z=is) (by rw[e]) hv fun ns hI e=>?_
    subst e
    rw[ea]
    refine sorted_ints (vs:=its.toList) (isList_of hg) hI (by rw[hI.length];exact l) fun out ns' a1 a2 a3=>?_
    exact(sortedAll_at σ.H its.toList out).elim fun ep he=>made_sorted S x a1 a2 a3 (above (Nat.le_succ _)) (fun b o hb=>sortedAll_old hb) he
   ·exact S.hr.get ho fun p hp R=>match R with
     | .dictI (kvs:=kvs) e z hl hd hq=>by
      rw[xa.at hp]
      obtain⟨ep,hat⟩:=hd.dictAt
      have hlen:=hq.length
      have l:kvs.length<64:=hlen▸l
      refine call_function_entry kind_sorted plain_sorted entry_sorted (args_sorted1 _) ?_
      unfold Builtin.«sorted»
      refine wpAny_bind (m:=checkCount "sorted" 1 1 _) (wpAny_pure ?_)
      refine wpAny_bind (kdu_collect (A:=Γ.A.in1) (kdl_dict (knd:=intKind Γ.pr Γ.w) (kvs:=kvs) (ep:=ep) (not_sys z)) Γ.handled hat (Nat.le_of_lt (Nat.lt_trans l (by decide))) fun h' tk acc hk hacc=>?_)
      have hl:acc.toList.length=kvs.length:=by rw[Array.length_toList];exact hacc.1
      refine wpAny_bind (wpAny_newList ?_ (by rw[hl];exact Nat.le_of_lt (Nat.lt_trans l (by decide))))
      have hoL:(h'.push (seqObj "list" acc.toList.toArray 0)).get? h'.objs.size=some (seqObj "list" acc.toList.toArray 0):=Heap.get?_push_size _ rfl
      have hI:IntsAre acc.toList (es.map (·.1)):=keys_ints (by rw[List.length_map,hl,hlen]) fun j v hj=>by
       obtain⟨k,x,hx,hkk⟩:=hacc.2 j v (its_get hj)
       obtain⟨y,hy,r⟩:=hq.get' hx
       obtain⟨t,rfl⟩:=Value.isInt_shape hkk
       exact⟨k,t,rfl,by rw[List.getElem?_map,hy];exact congrArg some r.1.symm⟩
      refine wpAny_bind (wpAny_holding (wpAny_call_entry slot_list_sort ⟨_,hoL,rfl⟩ entry_list_sort (list_sort_tree hoL hI (by rw[hl];exact l) fun out ns' a1 a2 a3=>⟨_,rfl,?_⟩) (args_list_sort _)))
      refine wpAny_pure ⟨_,rfl,?_⟩
      exact(sortedHeap_at (out:=out) hoL).elim fun ep' he=>made_sorted S x a1 a2 a3 (by
       cases q:σ.H.get? h'.objs.size with
       | none=>rfl
       | some o=>exact absurd (Heap.lt_size (hk _ _ q)) (Nat.lt_irrefl _)) (fun b o hb=>by
        have hb':=hk b o hb
        have hlt:=Heap.lt_size hb'
        exact(sortedHeap_old (h:=h'.push (seqObj "list" acc.toList.toArray 0)) (a:=h'.objs.size) (vs:=acc.toList) (out:=out) (Nat.ne_of_lt hlt) (by rw[Heap.size_push];exact Nat.lt_succ_of_lt hlt)).trans (Heap.get?_push_of_some _ hb')) he
  | _=>exact x.elim) xs
theorem l_bi {b:BI}(hb:b≠.list) (S:St Γ h σ) (xs:VRs σ.ν as us) (x:C' (builtin b as h) (Kq Γ σ Q)):Γ.wp (call (biVal b) us) Q E σ.s:=by
 cases b with
 | len=>exact l_len S xs x
 | sum=>exact l_sum S xs x
 | max=>exact l_max S xs x
 | min=>exact l_min S xs x
 | sorted=>exact l_sorted S xs x
 | list=>exact absurd rfl hb
 | abs=>exact l_abs S xs x
end
end Mine
namespace Mine
open PySem PySem.W PyProof.Rows PySem.SeqAt PySem.EqNone PySem.MeetsSeq PySem.Calls
section
variable {Γ:Ctx}{σ:Wd}{h:Hp}{Q E:Value→Shared→Prop}{QU:Unit→Shared→Prop}{u u1 u2:Value}{us:List Value}{i k:Nat}{vs as:List V}{ν:Nu}{KV:V→Prop}{v a b:V}{fl:List (Nat×V)}{es:List DictEntry}{p:Addr×Addr}
theorem isStr_at {e:DictEntry}{k:Nat}{t:Tok}{n:Str}(q:e.key=.str (strAt k) t):e.key.isStr n=(strAt k==n):=by rw[q];rfl
theorem noRef {e:DictEntry}{k:Nat}{t:Tok}(q:e.key=.str (strAt k) t):e.refKey=false:=by unfold DictEntry.refKey;rw[q]
theorem getL_k (x:All2 (FR ν) fl es) (hk:k<texts.length) {G:Option V→Option (Option Value)→Prop}(n:G none (some none)) (s:∀v u,VR ν v u→G (some v) (some (some u))):G (findF k fl) (getL (strAt k) es):=by
 induction x with
 | nil=>exact n
 | @cons a b as bs hab J ih=>
  obtain⟨t,q⟩:=hab.1.2
  unfold getL at*
  rw[List.find?_cons,isStr_at q,strAt_beq hab.1.1 hk]
  have e:findF k (a::as)=if a.1=k then some a.2 else findF k as:=rfl
  rw[e]
  by_cases e:a.1=k
  ·rw[if_pos e,decide_eq_true e];exact s _ _ hab.2
  ·rw[if_neg e,decide_eq_false e,List.any_cons,noRef q,Bool.false_or];exact ih
theorem putL_fields (x:All2 (FR ν) fl es) (hk:k<texts.length) (r:VR ν v u) (hs:Int) (t0:Tok):All2 (FR ν) (putF k v fl) (putL (strAt k) hs (.str (strAt k) t0) u es):=by
 induction x with
 | nil=>exact .cons ⟨⟨hk,t0,rfl⟩,r⟩ .nil
 | @cons a b as bs hab hr ih=>
  obtain⟨t,q⟩:=hab.1.2
  unfold putL
  rw[isStr_at q,strAt_beq hab.1.1 hk]
  show All2 (FR ν) (if a.1=k then(a.1,v)::as else(a.1,a.2)::putF k v as) _
  by_cases e:a.1=k
  ·rw[if_pos e,decide_eq_true e,if_pos rfl];exact .cons ⟨⟨hab.1.1,t,q⟩,r⟩ hr
  ·rw[if_neg e,decide_eq_false e,if_neg Bool.false_ne_true];exact .cons hab ih
theorem attr_lt (e:attrOk k=true):k<texts.length:=by
 unfold attrOk at e
 exact Nat.lt_trans (of_decide_eq_true (Bool.and_eq_true_iff.mp e).2) (by decide)
theorem handed_of (x:VR ν v u):handedIn u=true:=by
 cases v with
 | none=>exact x.none rfl
 | bool b=>exact(show u=.bool b from x)▸rfl
 | int i=>exact x.int fun J=>rfl
 | str k=>exact x.str fun J J=>rfl
 | ref i=>exact x.ref fun J J=>rfl
theorem inst_at {c:Nat}(S:St Γ h σ) (ho:h[i]?=some (.inst c fl)) (x:VR σ.ν (.ref i) u) {G:Prop}(k:∀p es n,u=.ref p.1→σ.ν[i]?=some p→c<2→p.2≠p.1→fl.length≤100→σ.H.get? p.1=some (instObj (Γ.cls c) p.2)→σ.H.get? p.2=some (dictOf es n)→All2 (FR σ.ν) fl es→G):G:=
 S.hr.get ho fun p hp R=>match R with
  | .inst c2 e l g d q=>k p _ _ (x.at hp) hp c2 e l g d q
theorem instAt_of {H:Heap}{c:Addr}{n:Nat}(e1:H.get? p.1=some (instObj c p.2)) (e2:H.get? p.2=some (dictOf es n)):InstAt H p.1 (instObj c p.2) c (some (dictOf es n)):=⟨e1,rfl,rfl,e2⟩
theorem getA_k {G:V→Prop}(x:wO' (getA a k h) KV) (kk:∀i c fl,h[i]?=some (.inst c fl)→wO' (findF k fl) KV→G (.ref i)):G a:=by
 cases a with
 | ref i=>
  have y:∀{o:Option O},wO' (match o with | some (.inst _ fs)=>findF k fs | _=>none) KV→∃c fl,o=some (.inst c fl)∧wO' (findF k fl) KV:=fun{o} y=>by
   cases o with
   | none=>exact y.elim
   | some o=>cases o with
    | inst c fl=>exact⟨c,fl,rfl,y⟩
    | _=>exact y.elim
  exact(y x).elim fun c y=>y.elim fun fl y=>kk i c fl y.1 y.2
 | _=>exact x.elim
theorem l_getA {ex:Bool}(S:St Γ h σ) (hk:attrOk k=true) (x:wO' (getA a k h) fun r=>Kq Γ σ Q r h):VR σ.ν a u→Γ.wp (getAttr u (strAt k) ex) Q E σ.s:=
 getA_k (G:=fun a=>VR σ.ν a u→Γ.wp (getAttr u (strAt k) ex) Q E σ.s) x fun i c fl ho x xa=>inst_at S ho xa fun p es n ea hp h1 h2 h3 h4 h5 h6=>by
  have X:=Γ.X.keeps S.hr.keep
  rw[ea]
  exact getL_k h6 (attr_lt hk) (G:=fun o1 o2=>getL (strAt k) es=o2→wO' o1 (fun r=>Kq Γ σ Q r h)→Γ.wp (getAttr (.ref p.1) (strAt k) ex) Q E σ.s) (fun J x=>x.elim) (fun v w r e x=>get_value X (instAt_of h4 h5) (plainGet_of (Γ.ga c h1)).1 (findObj_own (Γ.hasDict c h1) (Γ.noAttr c k h1 hk) rfl e) (handed_of r) (Kq.tok x S r)) rfl x
theorem refKey_none (x:All2 (FR ν) fl es):es.any (·.refKey)=false:=by
 induction x with
 | nil=>rfl
 | cons hab J ih=>
  obtain⟨t,q⟩:=hab.1.2
  rw[List.any_cons,ih,Bool.or_false]
  exact noRef q
theorem setA_k {K:Hp→Prop}{G:V→Prop}(x:wO' (setA a k v h) K) (kk:∀i c fl,h[i]?=some (.inst c fl)→fl.length<100∧i≠0→K (h.set i (.inst c (putF k v fl)))→G (.ref i)):G a:=by
 cases a with
 | ref i=>
  have y:∀{o:Option O},wO' (match o with | some (.inst c fs)=>if fs.length<100∧i≠0 then some (h.set i (.inst c (putF k v fs)))else none | _=>none) K→∃c fl,o=some (.inst c fl)∧wO' (if fl.length<100∧i≠0 then some (h.set i (.inst c (putF k v fl)))else none) K:=fun{o} y=>by
   cases o with
   | none=>exact y.elim
   | some o=>cases o with
    | inst c fl=>exact⟨c,fl,rfl,y⟩
    | _=>exact y.elim
  exact(y x).elim fun c y=>y.elim fun fl y=>O_if y.2 (kk i c fl y.1)
 | _=>exact x.elim
theorem l_setA (S:St Γ h σ) (xv:VR σ.ν v u2) (hk:attrOk k=true) (x:wO' (setA a k v h) (Kn Γ σ QU)):VR σ.ν a u1→Γ.wp (setAttr u1 (strAt k) u2) QU E σ.s:=
 setA_k (G:=fun a=>VR σ.ν a u1→Γ.wp (setAttr u1 (strAt k) u2) QU E σ.s) x fun i c fl ho hlt x xa=>inst_at S ho xa fun p es n ea hp h1 h2 h3 h4 h5 h6=>by
  have X:=Γ.X.keeps S.hr.keep
  have I:=instAt_of h4 h5
  have hkl:=attr_lt hk
  have ht:takerIn Γ.K (Γ.cls c) (strAt k)=some none:=by unfold takerIn;rw[Γ.noAttr c k h1 hk];rfl
  rw[ea]
  refine set_plain X I (Γ.setattr c h1) (osa_open (s:={ σ.s with toks:=σ.s.toks+1 }) X I (Γ.over c h1) ht fun bb=>?_)
  obtain⟨cd,hc,hd'⟩:=any_some (Γ.hasDict c h1)
  refine wpAny_bind (wpAny_pure (wpAny_bind (wpAny_bind (wpAny_loadPart h4 (wpAny_bind ((looks_clsIn (M:=model Γ.pr Γ.w) X hc).at ?_))))))
  rw[hd']
  refine wpAny_pure (a:=some p.2) (wpAny_bind (wpAny_pure (wpAny_bind ?_)))
  unfold nsSet
  refine wpAny_bind (wpAny_bind (wpAny_askSetting (wpAny_pure (wpAny_bind (wpAny_mkText (wpAny_bind (wpAny_loadPart h5 ?_)))))))
  have c:(!(es.toArray).any (·.key.isStr (strAt k))&&(es.toArray).any (·.refKey))=false:=by
   have q:es.toArray.any (·.refKey)=false:=by rw[List.any_toArray];exact refKey_none h6
   rw[q,Bool.and_false]
  dsimp only
  rw[aRefKeyMayBeTheName_at,c]
  refine wpAny_updatePart h5 ?_
  have hput:=putName_dict (strAt k) (PyData.keyHash Γ.w.params (strAt k)) (.str (strAt k) (σ.s.toks+1)) u2 es n
  have hf:=putL_fields h6 hkl xv (PyData.keyHash Γ.w.params (strAt k)) (σ.s.toks+1)
  have hu:(σ.H.update p.2 (Obj.putName (strAt k) (PyData.keyHash Γ.w.params (strAt k)) (.str (strAt k) (σ.s.toks+1)) u2)).get? p.2=some (dictOf (putL (strAt k) (PyData.keyHash Γ.w.params (strAt k)) (.str (strAt k) (σ.s.toks+1)) u2 es) (putN (strAt k) es n)):=by
   rw[Heap.get?_update_self _ h5 (by rw[hput];rfl),hput]
  have hl:(putF k v fl).length≤100:=Nat.le_of_lt_succ (putF_lt hlt.1)
  refine wpAny_bind (wpAny_lookBehind hu (pastItsLine_dict (by rw[List.size_toArray,← hf.length,sizeLine_eq];exact Nat.le_trans hl (by decide))) ?_)
  refine wpAny_pure ?_
  have y:=S.set (s':={ σ.s with heap:=σ.H.update p.2 (Obj.putName (strAt k) (PyData.keyHash Γ.w.params (strAt k)) (.str (strAt k) (σ.s.toks+1)) u2),toks:=σ.s.toks+1+1 }) (Nat.pos_of_ne_zero hlt.2) hp (fun b o n1 hb=>upd_keeps (fun z=>n1 (.inr z)) hb) (.inst h1 h2 hl (upd_keeps h2.symm h4) hu hf) rfl rfl
  exact x _ y.1 y.2
theorem l_meth {j c m f:Nat}{pl:Sem Bool}{QM:Value×List Value→Shared→Prop}(S:St Γ h σ) (xa:VR σ.ν (.ref j) u) (ho:h[j]?=some (.inst c fl)) (hm:m<texts.length) (hn:findF m fl=none) (hf:methOf prog.meths c m=some f) (hq:QM (.ref (Γ.fnA f),[u]) σ.s):Γ.wp (getMethod u (strAt m) pl) QM E σ.s:=
 inst_at S ho xa fun p es n ea hp h1 h2 h3 h4 h5 h6=>by
  have X:=Γ.X.keeps S.hr.keep
  have mm:=Γ.meth c m f hf
  rw[ea]at hq⊢
  exact method_fn X (instAt_of h4 h5) (plainGet_of (Γ.ga c h1)).1 (plainGet_of (Γ.ga c h1)).2 mm.1 (beq_iff_eq.mp mm.2) (by
   show(lookIn (strAt m) (dictOf es n)).map _=_
   rw[lookIn_dict]
   exact getL_k h6 hm (G:=fun o1 o2=>o1=none→o2.map _=_) (fun J=>rfl) (fun J J J e=>(by contradiction)) hn) hq
end
end Mine
namespace Mine
open PySem PySem.W PyProof.Rows PySem.SeqAt PySem.EqNone PySem.MeetsSeq PySem.Calls
structure ExnPost (Γ:Ctx) (σ:Wd) (h':Hp) (e:Value) (s':Shared) (ea:Addr) (a0:Value) (B:Heap) (ν':Nu):Prop where
 ev:e=.ref ea
 fl:Heap.FlyingW B Γ.fs ea (.ref Γ.lisp) a0 s'.heap
 hr:HR Γ.toFacts ν' h' B
 ext:Ext σ.ν σ.H ν'
 kb:∀b o,σ.H.get? b=some o→¬Foot σ.ν b→b∉framesOf Γ.fs→B.get? b=some o
 kf:∀b∈framesOf Γ.fs,∀o,σ.H.get? b=some o→Sl o (s'.heap.get? b)
 gens:s'.gens=σ.s.gens
 os:s'.os=σ.s.os
noncomputable def SC (Γ:Ctx) (c:Env'):Prop:=∀(f:Nat) (as:List V) (us:List Value) (h:Hp) (σ:Wd) (Qc:V→Hp→Prop) (Zc:Hp→Prop) (Q E:Value→Shared→Prop),f<45→St Γ h σ→VRs σ.ν as us→c.calls f as h Qc Zc→(∀r h',Qc r h'→Kq Γ σ Q r h')→
 (∀h' e s' ea a0 B ν',Zc h'→ExnPost Γ σ h' e s' ea a0 B ν'→E e s')→Γ.wp (call (.ref (Γ.fnA f)) us) Q E σ.s
noncomputable def SN (Γ:Ctx) (c:Env'):Prop:=∀(k:Nat) (as:List V) (us:List Value) (h:Hp) (σ:Wd) (Qc:V→Hp→Prop) (Q E:Value→Shared→Prop),k<2→St Γ h σ→VRs σ.ν as us→wI c k as h Qc→(∀r h',Qc r h'→Kq Γ σ Q r h')→Γ.wp (call (.ref (Γ.cls k)) us) Q E σ.s
structure FRel (env:Env) (ln:List Str) (lv:Fr) (cn:List Str) (cv:Fr) (ν:Nu) (H:Heap):Prop where
 loc:∃m,H.Ns env.locals m∧∀(k:Nat) (x:Str) (v:V),ln[k]?=some x→env.kindOf x=some .local→lv[k]?=some (some v)→∃u,m x=some u∧VR ν v u
 cel:∀(k:Nat) (x:Str),cn[k]?=some x→(env.kindOf x=some .cell∨env.kindOf x=some .free)→∃c o,env.cells.lookup x=some c∧H.IsCell c o∧∀v,cv[k]?=some (some v)→∃u,o=some u∧VR ν v u
 outL:¬Foot ν env.locals
 outC:∀x c,env.cells.lookup x=some c→(∃v,H.IsCell c v)∧¬Foot ν c
 inj:∀x y c,env.cells.lookup x=some c→env.cells.lookup y=some c→x=y
structure KindR (sc:Scope) (env:Env):Prop where
 loc:∀x,sc.names.lookup x=some .local→env.kindOf x=some .local
 cel:∀x,sc.names.lookup x=some .cell→env.kindOf x=some .cell
 free:∀x,sc.names.lookup x=some .free→env.kindOf x=some .cell∨env.kindOf x=some .free
 glob:∀x,sc.names.lookup x=some .globalImplicit→env.kindOf x=some .globalImplicit
structure Cx where
 sc:Scope
 slots:List Str
 comp:Option (List Str)
noncomputable abbrev Cx.ln (x:Cx):List Str:=x.comp.getD x.slots
structure Cf0 extends Ctx where
 env:Env
 cx:Cx
 c:Env'
 P:PP
 b0:Wd
 keep:Addr→Obj→Prop
 n0:Nu
 nk:∀b o,keep b o→b∉framesOf fs∧¬(b=env.locals∨∃x,env.cells.lookup x=some b)
 envK:env.scope.kind=.function
 envG:env.globals=mainGlobals
 envB:env.builtins=builtinsNs
 envN:KindR cx.sc env
 cM:c.meths=prog.meths
 cI:c.inits=prog.inits
 calls:SC toCtx c
 news:SN toCtx c
noncomputable abbrev Cf0.lv (Γ:Cf0) (fr:Fr):Fr:=if Γ.cx.comp.isSome then Γ.P.cf else fr
structure At0 (Γ:Cf0) (fr:Fr) (st:List V) (us:List Value) (h:Hp) (σ:Wd):Prop where
 S:St Γ.toCtx h σ
 tr:Tr Γ.toCtx Γ.b0 σ
 fe:FRel Γ.env Γ.cx.ln (Γ.lv fr) Γ.cx.slots fr σ.ν σ.H
 vs:VRs σ.ν st us
 kp:∀b o,Γ.keep b o→σ.H.get? b=some o∧¬Foot σ.ν b
 nx:∀(i:Nat) (p:Addr×Addr),Γ.n0[i]?=some p→σ.ν[i]?=some p
structure Cf extends Cf0 where
 E:Value→Shared→Prop
 hE:∀fr st us h σ h' e s' ea a0 B ν',At0 toCf0 fr st us h σ→P.X fr h'→ExnPost toCtx σ h' e s' ea a0 B ν'→E e s'
abbrev At (Γ:Cf):=At0 Γ.toCf0
section
variable {Γ:Cf0}{lv fr lv' fr':Fr}{st st':List V}{us us':List Value}{h h':Hp}{σ σ':Wd}{Q E:Value→Shared→Prop}{a v:V}{u:Value}{ln cn:List Str}{ν ν':Nu}{H H':Heap}{env:Env}{x:Str}{k:Nat}{pos:Pos}{K:Kt}
theorem ns_slots {a:Addr}{m:Str→Option Value}(x:H.Ns a m) (k:∀o,H.get? a=some o→Sl o (H'.get? a)):H'.Ns a m:=by
 obtain⟨o,es,ep,ho,hd,r⟩:=x
 exact(k o ho).elim fun sl hs=>⟨_,es,ep,hs,hd,r⟩
theorem cell_slots {c:Addr}{v:Option Value}(x:H.IsCell c v) (k:∀o,H.get? c=some o→Sl o (H'.get? c)):H'.IsCell c v:=by
 obtain⟨o,ho,hd⟩:=x
 exact(k o ho).elim fun sl hs=>⟨_,hs,hd⟩
theorem FRel.keeps (R:FRel env ln lv cn fr ν H) (e:Ext ν H ν') (k:∀b o,(b=env.locals∨∃x,env.cells.lookup x=some b)→H.get? b=some o→¬Foot ν b→Sl o (H'.get? b)):FRel env ln lv cn fr ν' H':=by
 refine⟨?_,fun i x hx hk=>?_,?_,fun x c hc=>?_,R.inj⟩
 ·exact R.loc.elim fun m q=>⟨m,ns_slots q.1 fun o ho=>k _ o (.inl rfl) ho R.outL,fun i x v h1 h2 h3=>(q.2 i x v h1 h2 h3).elim fun u r=>⟨u,r.1,r.2.ext e⟩⟩
 ·obtain⟨c,o,h1,h2,h3⟩:=R.cel i x hx hk
  exact⟨c,o,h1,cell_slots h2 fun ob ho=>k _ ob (.inr ⟨x,h1⟩) ho (R.outC x c h1).2,fun v hv=>(h3 v hv).elim fun u r=>⟨u,r.1,r.2.ext e⟩⟩
 ·obtain⟨m,⟨o,es,ep,ho,_⟩,q⟩:=R.loc
  exact e.notFoot ho R.outL
 ·obtain⟨⟨v,hv⟩,hn⟩:=R.outC x c hc
  have hv':=hv
  obtain⟨o,ho,_⟩:=hv'
  exact⟨⟨v,cell_slots hv fun ob hob=>k _ ob (.inr ⟨x,hc⟩) hob hn⟩,e.notFoot ho hn⟩
theorem Ext.nth {ν ν':Nu}{H:Heap}(x:Ext ν H ν'):∀(i:Nat) (p:Addr×Addr),ν[i]?=some p→ν'[i]?=some p:=by
 cases x;exact fun i p e=>nu_app e
theorem At0.to (g:At0 Γ fr st us h σ) (S:St Γ.toCtx h' σ') (T:Tr Γ.toCtx σ σ') (vs:VRs σ'.ν st' us'):At0 Γ fr st' us' h' σ' where
 S:=S
 tr:=g.tr.trans g.S.hr T
 fe:=g.fe.keeps T.ext fun b o J ho hn=>(T.kept b o ho hn).2
 vs:=vs
 kp:=fun b o q=>have z:=g.kp b o q;⟨(T.kept b o z.1 z.2).1 (Γ.nk b o q).1,T.ext.notFoot z.1 z.2⟩
 nx:=fun i p e=>T.ext.nth i p (g.nx i p e)
theorem join_is {l:Fr}{k:Nat}{v:V}(e:l[k]?.join=some v):l[k]?=some (some v):=by
 cases q:l[k]? with
 | none=>rw[q]at e;contradiction
 | some o=>rw[q]at e;exact congrArg some e
theorem FRel.local {pr:Program}{w:World}{A:Around}(R:FRel env ln lv cn fr σ.ν σ.H) (hk:env.scope.kind=.function) (h1:ln[k]?=some x) (h2:env.kindOf x=some .local) (hd:(x==("__debug__" : Str))=false) (y:wV lv[k]?.join fun v=>∀u,VR σ.ν v u→Q u σ.s):wpAny (model pr w) A (eval (.Name x pos) env) Q E σ.s:=by
 cases e:lv[k]?.join with
 | none=>rw[e]at y;exact y.elim
 | some v=>
  rw[e]at y
  obtain⟨m,hm,q⟩:=R.loc
  exact(q k x v h1 h2 (join_is e)).elim fun u r=>wpAny_Name (wpAny_loadName_local hk h2 hm r.1 (y u r.2)) hd
theorem FRel.cell {pr:Program}{w:World}{A:Around}(R:FRel env ln lv cn fr σ.ν σ.H) (hk:env.scope.kind=.function) (h1:cn[k]?=some x) (h2:env.kindOf x=some .cell∨env.kindOf x=some .free) (hd:(x==("__debug__" : Str))=false) (hcd:(x==("__classdict__" : Str))=false) (y:wV fr[k]?.join fun v=>∀u,VR σ.ν v u→Q u σ.s):wpAny (model pr w) A (eval (.Name x pos) env) Q E σ.s:=by
 cases e:fr[k]?.join with
 | none=>rw[e]at y;exact y.elim
 | some v=>
  rw[e]at y
  obtain⟨c,o,g1,g2,g3⟩:=R.cel k x h1 h2
  obtain⟨u,e,r⟩:=g3 v (join_is e)
  subst e
  exact h2.elim (fun h2=>wpAny_Name (wpAny_loadName_cell hk h2 g1 g2 (y u r)) hd) fun h2=>wpAny_Name (wpAny_loadName_free hk h2 g1 g2 (y u r) hcd) hd
theorem wV.to {o:Option V}{K K':V→Prop}(x:wV o K) (k:∀a,K a→K' a):wV o K':=by
 cases o with
 | none=>exact x
 | some a=>exact k a x
end
end Mine
namespace Mine
open PySem
noncomputable def ixOf (x:Str):List Str→Option Nat
 | []=>none
 | y::r=>if y==x then some 0 else(ixOf x r).map (·+1)
theorem ixOf0 {x}:ixOf x []=none:=rfl
theorem ixOf1 {x y r}:ixOf x (y::r)=if y==x then some 0 else(ixOf x r).map (·+1):=rfl
noncomputable def constOf (x:Str):Option Int:=(consts.find? fun p=>Str.ofString p.1==x).map (·.2)
noncomputable def defOf' (x:Str):Option Nat:=defNames.findIdx? fun y=>Str.ofString y==x
noncomputable def clsOf' (x:Str):Option Nat:=clsNames.findIdx? fun y=>Str.ofString y==x
noncomputable def bis:List (String×BI):=[("len",.len),("sum",.sum),("max",.max),("min",.min),("sorted",.sorted),("list",.list),("abs",.abs)]
noncomputable def biOf (x:Str):Option BI:=(bis.find? fun p=>Str.ofString p.1==x).map (·.2)
noncomputable def Cx.glob (cx:Cx) (x:Str):Bool:=cx.sc.names.lookup x==some .globalImplicit&&!(x==("__debug__" : Str))
noncomputable def binOf (o:Operator):Option BOp:=[BOp.add,.sub,.mul,.fdiv,.mod].find? fun b=>opOf b==o
noncomputable def cmpOf (o:CmpOp):Option COp:=[COp.eq,.ne,.lt,.gt,.mem].find? fun b=>cOf b==some o
inductive Sh where
 | const (c:Const) (k:Nat) (p:Pos) | name (x:Str) (p:Pos) | bin (a:Expr) (o:Operator) (b:Expr) (p:Pos) | un (o:UnaryOp) (a:Expr) (p:Pos) | ite (t a b:Expr) (p:Pos) | cmp (a:Expr) (os:List CmpOp) (bs:List Expr) (p:Pos)
 | attr (e:Expr) (x:Str) (p:Pos) | sub (e i:Expr) (p:Pos) | slice (a b s:Option Expr) (p:Pos) | list (es:List Expr) (p:Pos) | tup (es:List Expr) (k:Nat) (p:Pos) | dict (ks:List (Option Expr)) (es:List Expr) (p:Pos)
 | call (f:Expr) (as:List Expr) (ks:List Keyword) (p:Pos) | comp (e:Expr) (gs:List Comprehension) (sc:Scope) (p:Pos) | bop (o:BoolOp) (vs:List Expr) (p:Pos) | oth
noncomputable def sh (e:Expr):Sh:=match e with
 | .Constant c k p=>.const c k p
 | .Name x p=>.name x p
 | .BinOp a o b p=>.bin a o b p
 | .UnaryOp o a p=>.un o a p
 | .IfExp t a b p=>.ite t a b p
 | .Compare a os bs p=>.cmp a os bs p
 | .Attribute e x p=>.attr e x p
 | .Subscript e i p=>.sub e i p
 | .Slice a b s p=>.slice a b s p
 | .List es p=>.list es p
 | .Tuple es k p=>.tup es k p
 | .Dict ks es p=>.dict ks es p
 | .Call f as ks p=>.call f as ks p
 | .ListComp e gs sc p=>.comp e gs sc p
 | .BoolOp o vs p=>.bop o vs p
 | _=>.oth
noncomputable def toE (s:Sh):Expr:=match s with
 | .const c k p=>.Constant c k p
 | .name x p=>.Name x p
 | .bin a o b p=>.BinOp a o b p
 | .un o a p=>.UnaryOp o a p
 | .ite t a b p=>.IfExp t a b p
 | .cmp a os bs p=>.Compare a os bs p
 | .attr e x p=>.Attribute e x p
 | .sub e i p=>.Subscript e i p
 | .slice a b s p=>.Slice a b s p
 | .list es p=>.List es p
 | .tup es k p=>.Tuple es k p
 | .dict ks es p=>.Dict ks es p
 | .call f as ks p=>.Call f as ks p
 | .comp e gs sc p=>.ListComp e gs sc p
 | .bop o vs p=>.BoolOp o vs p
 | .oth=>.Constant .none 0 default
theorem sh_c {C:Expr→Sh→Prop}(o:∀e,C e .oth) (k:∀s,C (toE s) s) (e:Expr):C e (sh e):=by
 have key:sh e=.oth∨toE (sh e)=e:=by cases e<;>first | exact .inl rfl | exact .inr rfl
 have q:=k (sh e)
 exact key.elim (fun z=>z▸o e) fun z=>by rw[z]at q;exact q
noncomputable def cst (e:Expr):Option Const:=match sh e with
 | .const c _ _=>some c
 | _=>none
noncomputable def isNoneC (c:Const):Bool:=match c with
 | .none=>true
 | _=>false
noncomputable def intC (c:Const):Option Int:=match c with
 | .int i=>some i
 | _=>none
noncomputable def isNone (e:Expr):Bool:=(cst e).any isNoneC
noncomputable def isMinus1 (e:Expr):Bool:=match sh e with
 | .un o a _=>o==.USub&&(cst a).bind intC==some 1
 | _=>false
noncomputable def plainBase (e:Expr):Bool:=match sh e with
 | .call f _ _ _=>match sh f with
  | .attr _ _ _=>true
  | _=>false
 | _=>true
noncomputable def nmOf (e:Expr):Option Str:=match sh e with
 | .name x _=>some x
 | _=>none
noncomputable def strC (c:Const):Option Str:=match c with
 | .str x=>some x
 | _=>none
noncomputable def strOf (e:Expr):Option Str:=(cst e).bind strC
noncomputable def keyCodes:List (Option Expr)→Option (List Nat)
 | []=>some []
 | k::r=>(k.bind strOf).bind fun x=>(codeOf x).bind fun n=>(keyCodes r).map (n::·)
noncomputable def tgNames (e:Expr):Option (List Str):=match sh e with
 | .name x _=>some [x]
 | .tup es _ _=>match es with
  | [a,b]=>(nmOf a).bind fun x=>(nmOf b).bind fun y=>if x==y then none else some [x,y]
  | _=>none
 | _=>none
noncomputable def scopeOk (cx:Cx) (sc:Scope) (ns:List Str):Bool:=
 sc.kind==.function&&sc.names.all (fun p=>p.2 != .cell&&(p.2 != .local||sc.names.lookup p.1==some .local)&&(p.2 != .free||(sc.names.lookup p.1==some .free&&cx.sc.names.lookup p.1==some .cell&&cx.slots.contains p.1)))
  && ns.all (fun n=>sc.names.lookup n==some .local)
structure Cp where
 e:Cx→Expr→List I→Option (List I)
 t:Cx→Expr→List I→Option (List I)
abbrev Oc:=Option (List I)
noncomputable def kConst (c:Const) (r:List I):Oc:=match c with
 | .none=>some (.push .none::r)
 | .bool b=>some (.push (.bool b)::r)
 | .int i=>some (.push (.int i)::r)
 | .str x=>(codeOf x).map fun k=>.push (.str k)::r
 | _=>none
noncomputable def kName (cx:Cx) (x:Str) (r:List I):Oc:=if x==("__debug__" : Str)||x==("__classdict__" : Str)then none else
 if cx.sc.names.lookup x==some .globalImplicit then(constOf x).map fun i=>.push (.int i)::r
 else if cx.sc.names.lookup x==some .local then(match cx.comp with
  | none=>(ixOf x cx.slots).map fun k=>.var k::r
  | some ns=>(ixOf x ns).map fun k=>.cvar k::r)
 else if cx.sc.names.lookup x==some .cell||cx.sc.names.lookup x==some .free then(ixOf x cx.slots).map fun k=>.var k::r else none
noncomputable def kUn (o:UnaryOp) (a:Expr) (r:List I):Oc:=if o==.USub then((cst a).bind intC).map fun i=>.push (.int (-i))::r else none
noncomputable def kCmp (c:Cp) (cx:Cx) (a:Expr) (o:CmpOp) (b:Expr) (r:List I):Oc:=
 if o==.Is then(if isNone b then c.e cx a (.push .none::.cmp .isn::r)else none)
 else if o==.IsNot then(if isNone b then c.e cx a (.push .none::.cmp .nisn::r)else none)
 else(cmpOf o).bind fun o=>(c.e cx b (.cmp o::r)).bind (c.e cx a)
noncomputable def slOf (e:Expr):Option (Option Expr×Option Expr×Option Expr):=match sh e with
 | .slice a b s _=>some (a,b,s)
 | _=>none
noncomputable def kSub (c:Cp) (cx:Cx) (e i:Expr) (r:List I):Oc:=match slOf i with
 | some (a,b,s)=>match s with
  | some s=>if a.isNone&&b.isNone&&isMinus1 s then c.e cx e (.rev::r)else none
  | none=>match a with
   | some a=>if b.isNone then(c.e cx a (.drop::r)).bind (c.e cx e)else none
   | none=>b.bind fun b=>(c.e cx b (.take::r)).bind (c.e cx e)
 | none=>(c.e cx i (.item::r)).bind (c.e cx e)
noncomputable def kEs (f:Expr→List I→Oc):List Expr→List I→Oc
 | [],r=>some r
 | e::es,r=>(kEs f es r).bind (f e)
noncomputable def kCall (cx:Cx) (x:Str) (n:Nat) (r:List I):Oc:=if cx.glob x&&decide (n<20)then match defOf' x with
 | some f=>some (.call f n::r)
 | none=>match clsOf' x with
  | some k=>some (.new k n::r)
  | none=>(biOf x).map fun b=>.bi b n::r
 else none
noncomputable def mkOf (x:Str) (n:Nat):Option Mk:=if x=="range" then(if n=1 then some .rng else if n=3 then some .rng3 else none)else if x=="zip" then(if n=2 then some .zip else none)else if x=="enumerate" then(if n=1 then some .enum else none)else none
noncomputable def itOf (cx:Cx) (e:Expr):Option (Mk×List Expr):=match sh e with
 | .call g as ks _=>if ks.isEmpty then(nmOf g).bind fun x=>if cx.glob x then(mkOf x as.length).map fun m=>(m,as)else none else none
 | _=>none
noncomputable def kIt (c:Cp) (cx:Cx) (e:Expr) (f:Mk→List I):Oc:=match itOf cx e with
 | some (m,as)=>kEs (c.e cx) as (f m)
 | none=>c.e cx e (f .seq)
noncomputable def attOf (e:Expr):Option (Expr×Str×Pos):=match sh e with
 | .attr e x p=>some (e,x,p)
 | _=>none
noncomputable def kComp (c:Cp) (cx:Cx) (elt:Expr) (gs:List Comprehension) (sc:Scope) (r:List I):Oc:=match gs with
 | [g]=>if cx.comp.isSome||g.is_async != 0 then none else(tgNames g.target).bind fun ns=>if scopeOk cx sc ns then
   (match g.ifs with
    | []=>c.e ⟨sc,cx.slots,some ns⟩ elt []
    | [t]=>(c.e ⟨sc,cx.slots,some ns⟩ elt []).bind fun b=>c.t ⟨sc,cx.slots,some ns⟩ t [.br b []]
    | _=>none).bind fun b=>kIt c cx g.iter fun m=>.comp m ns.length b::r
  else none
 | _=>none
noncomputable def kE (c:Cp) (cx:Cx) (s:Sh) (r:List I):Oc:=match s with
 | .const k _ _=>kConst k r
 | .name x _=>kName cx x r
 | .bin a o b _=>(binOf o).bind fun o=>(c.e cx b (.bin o::r)).bind (c.e cx a)
 | .un o a _=>kUn o a r
 | .ite t a b _=>(c.e cx a []).bind fun a=>(c.e cx b []).bind fun b=>c.t cx t (.br a b::r)
 | .cmp a os bs _=>match os with
  | [o]=>match bs with
   | [b]=>kCmp c cx a o b r
   | _=>none
  | _=>none
 | .attr e x _=>if plainBase e then(attrOf x).bind fun k=>c.e cx e (.attr k::r)else none
 | .sub e i _=>kSub c cx e i r
 | .list es _=>kEs (c.e cx) es (.list es.length::r)
 | .tup es _ _=>if decide (es.length<20)then kEs (c.e cx) es (.tup es.length::r)else none
 | .dict ks es _=>(keyCodes ks).bind fun ns=>if ns.length=es.length∧ns.Nodup∧ns.length≤15 then kEs (c.e cx) es (.dict ns::r)else none
 | .call f as ks pos=>if ks.isEmpty then match attOf f with
  | some (e,x,apos)=>if apos.endLine==pos.line&&decide (as.length<20)&&plainBase e then(codeOf x).bind fun m=>(kEs (c.e cx) as (.meth m as.length::r)).bind fun l=>c.e cx e (.look m::l)else none
  | none=>(nmOf f).bind fun x=>(kCall cx x as.length r).bind (kEs (c.e cx) as)
  else none
 | .comp elt gs sc _=>kComp c cx elt gs sc r
 | _=>none
noncomputable def kTs (c:Cp) (cx:Cx) (o:BoolOp):List Expr→List I→Oc
 | [],r=>some (.push (.bool (o==.And))::r)
 | e::es,r=>(kTs c cx o es []).bind fun b=>c.t cx e (match o with
  | .And=>.br b [.push (.bool false)]::r
  | .Or=>.br [.push (.bool true)] b::r)
noncomputable def kT (c:Cp) (cx:Cx) (s:Sh) (r:List I):Oc:=match s with
 | .un o a p=>if o==.Not then c.t cx a (.br [.push (.bool false)] [.push (.bool true)]::r)else kUn o a r
 | .bop o vs _=>kTs c cx o vs r
 | .ite _ _ _ _=>none
 | s=>kE c cx s r
noncomputable def cp:Nat→Cp
 | 0=>⟨fun J J J=>none,fun J J J=>none⟩
 | n+1=>⟨fun cx e=>kE (cp n) cx (sh e),fun cx e=>kT (cp n) cx (sh e)⟩
noncomputable def toS (s:Sv):Stmt:=match s with
 | .assign ts e p=>.Assign ts e p
 | .expr e p=>.Expr e p
 | .ite t a b p=>.If t a b p
 | .whl t b o p=>.While t b o p
 | .for' t it b o p=>.For t it b o p
 | .ret e p=>.Return e p
 | .raise e c p=>.Raise e c p
 | .try' b hs o f p=>.Try b hs o f p
 | _=>.Return none default
noncomputable def isSt (s:Sv):Bool:=match s with
 | .fn _ _ _ _=>false
 | .cls _ _=>false
 | .oth=>false
 | _=>true
theorem sv_c {C:Stmt→Sv→Prop}(o:∀e s,isSt s=false→C e s) (k:∀s,C (toS s) s) (e:Stmt):C e (sv e):=by
 have key:isSt (sv e)=false∨toS (sv e)=e:=by cases e<;>first | exact .inl rfl | exact .inr rfl
 have q:=k (sv e)
 exact key.elim (fun z=>o e _ z) fun z=>by rw[z]at q;exact q
noncomputable def kVar (cx:Cx) (e:Expr):Option Nat:=(nmOf e).bind fun x=>if cx.sc.names.lookup x==some .local||cx.sc.names.lookup x==some .cell then ixOf x cx.slots else none
noncomputable def kTg (c:Cp):Nat→Cx→Expr→List I→Oc
 | 0,_,_,_=>none
 | n+1,cx,e,r=>match sh e with
  | .name _ _=>(kVar cx e).map fun k=>.st k::r
  | .attr e x _=>(attrOf x).bind fun k=>c.e cx e (.sattr k::r)
  | .sub e i _=>match slOf i with
   | some (a,b,s)=>if s.isNone then a.bind fun a=>b.bind fun b=>(c.e cx b (.sslice::r)).bind fun l=>(c.e cx a l).bind (c.e cx e)else none
   | none=>(c.e cx i (.sitem::r)).bind (c.e cx e)
  | .tup ts _ _=>(kEs (kTg c n cx) ts r).map fun l=>.unt ts.length::l
  | _=>none
noncomputable def swapOk (t e:Expr):Bool:=match sh t with
 | .tup ts _ _=>match sh e with
  | .tup vs _ _=>!(vs.all (constantsAlone 8))&&decide ((ts.filterMap nmOf).Nodup)
  | _=>true
 | .list _ _=>false
 | _=>true
noncomputable def retE (s:Stmt):Option Expr:=match sv s with
 | .ret e _=>e
 | _=>none
noncomputable def iteOf (e:Expr):Option (Expr×Expr×Expr):=match sh e with
 | .ite t a b _=>some (t,a,b)
 | _=>none
noncomputable def isOf (e:Expr):Option (Expr×Expr):=match sh e with
 | .cmp a os bs _=>match os with
  | [o]=>match bs with
   | [b]=>if o==.Is then some (a,b)else none
   | _=>none
  | _=>none
 | _=>none
noncomputable def nmOk (e:Expr):Bool:=(nmOf e).all fun x=>!(x==("__debug__" : Str)||x==("__classdict__" : Str))
noncomputable def kHd (cx:Cx) (ss:List Stmt):Option Hd:=match ss with
 | [s]=>(retE s).bind fun e=>if isNone e then some .none else(iteOf e).bind fun y=>(isOf y.1).bind fun z=>if isNone z.2&&isNone y.2.2&&nmOk z.1&&nmOk y.2.1 then(kVar cx z.1).bind fun k=>(kVar cx y.2.1).map fun l=>.ifNone k l else none
 | _=>none
noncomputable def kSs (f:Stmt→List I→Oc):List Stmt→List I→Oc
 | [],r=>some r
 | s::ss,r=>(kSs f ss r).bind (f s)
noncomputable def kFor (cx:Cx) (t:Expr) (b:List I) (r:List I):Option (Mk→List I):=match sh t with
 | .name _ _=>(kVar cx t).map fun k m=>.for1 k m b::r
 | .tup ts _ _=>match ts with
  | [x,y]=>(kVar cx x).bind fun k=>(kVar cx y).map fun l m=>.for2 k l m b::r
  | _=>none
 | _=>none
noncomputable def kRaise (c:Cp) (cx:Cx) (e:Expr) (r:List I):Oc:=match sh e with
 | .call f as ks _=>if nmOf f==some ("LispSignal" : Str)&&cx.glob "LispSignal"&&ks.isEmpty&&as.length==2 then kEs (c.e cx) as (.raise::r)else none
 | _=>none
noncomputable def isCall (e:Expr):Bool:=match sh e with
 | .call _ _ _ _=>true
 | _=>false
noncomputable def kTry (cx:Cx) (b:Oc) (hs:List ExceptHandler) (r:List I):Oc:=match hs with
 | [.ExceptHandler t n hd _]=>if t.bind nmOf==some ("LispSignal" : Str)&&cx.glob "LispSignal"&&n.isNone then(kHd cx hd).bind fun hd=>b.map fun b=>.tr b hd::r else none
 | _=>none
noncomputable def kSv (c:Cp) (f:Stmt→List I→Oc) (cx:Cx) (y:Sv) (r:List I):Oc:=match y with
 | .assign ts e _=>match ts with
  | [t]=>if swapOk t e then(kTg c 5 cx t r).bind (c.e cx e)else none
  | _=>none
 | .expr e _=>if isCall e then c.e cx e (.pop::r)else none
 | .ite t a b _=>(kSs f a []).bind fun a=>(kSs f b []).bind fun b=>c.t cx t (.br a b::r)
 | .whl t b o _=>if o.isEmpty then(c.t cx t []).bind fun t=>(kSs f b []).map fun b=>.whl t b::r else none
 | .for' t it b o _=>if o.isEmpty then(kSs f b []).bind fun b=>(kFor cx t b r).bind (kIt c cx it)else none
 | .ret e _=>match e with
  | some e=>c.e cx e (.ret::r)
  | none=>some (.push .none::.ret::r)
 | .raise e q _=>if q.isNone then e.bind fun e=>kRaise c cx e r else none
 | .try' b hs o f' _=>if o.isEmpty&&f'.isEmpty then kTry cx (kSs f b []) hs r else none
 | _=>none
noncomputable def kS (c:Cp):Nat→Cx→Stmt→List I→Oc
 | 0,_,_,_=>none
 | n+1,cx,s,r=>kSv c (kS c n cx) cx (sv s) r
noncomputable def slotsOf (d:DefSrc):List Str:=d.args.args.map (·.arg)++(d.scope.names.filter fun p=>(p.2==.local||p.2==.cell)&&!(d.args.args.map (·.arg)).contains p.1).map (·.1)
noncomputable def compFn (d:DefSrc):Option Fn:=(kSs (kS (cp 40) 20 ⟨d.scope,slotsOf d,none⟩) d.body []).map fun b=>⟨d.args.args.length,(slotsOf d).length,b⟩
theorem comp_ok:srcs.map (fun d=>d.bind compFn)=prog.fns.map some:=by kernel_rfl
end Mine
namespace Mine
open PySem PySem.W PyProof.Rows PySem.SeqAt PySem.EqNone PySem.MeetsSeq PySem.Calls
section
variable {α β:Type}{G:Prop}
theorem bnd {o:Option α}{f:α→Option β}{b:β}(x:o.bind f=some b) (k:∀a,o=some a→f a=some b→G):G:=by
 cases o with
 | none=>contradiction
 | some a=>exact k a rfl x
theorem ite_ {p:Prop} [d:Decidable p] {a b:Option β}{c:β}(x:(if p then a else b)=some c) (k:p→a=some c→G) (k2:¬p→b=some c→G):G:=by
 cases d with
 | isTrue q=>exact k q x
 | isFalse q=>exact k2 q x
theorem or_ {a b:Bool}(x:(a||b)=true):a=true∨b=true:=by
 cases a with
 | true=>exact .inl rfl
 | false=>exact .inr x
theorem mp_ {o:Option α}{f:α→β}{b:β}(x:o.map f=some b) (k:∀a,o=some a→f a=b→G):G:=by
 cases o with
 | none=>contradiction
 | some a=>exact k a rfl (Option.some.inj x)
theorem iff_ {p:Prop} [d:Decidable p] {o:Option β}{b:β}(x:(if p then o else none)=some b) (k:p→o=some b→G):G:=by
 cases d with
 | isTrue q=>exact k q x
 | isFalse q=>contradiction
theorem iff' {p:Prop} [d:Decidable p] {o:Option β}{b:β}(x:(if p then none else o)=some b) (k:¬p→o=some b→G):G:=by
 cases d with
 | isTrue q=>contradiction
 | isFalse q=>exact k q x
theorem and_ {a b:Bool}(x:(a&&b)=true) (k:a=true→b=true→G):G:=by
 cases a with
 | true=>exact k rfl x
 | false=>contradiction
end
theorem codeOf_is {x:Str}{k:Nat}(e:codeOf x=some k):k<texts.length∧strAt k=x:=by
 unfold codeOf at e
 have J:=List.findIdx?_eq_some_iff_getElem.mp e;have h1:=J.1;have h2:=J.2.1
 refine⟨h1,?_⟩
 unfold strAt
 rw[List.getD_eq_getElem?_getD,List.getElem?_eq_getElem h1]
 exact beq_iff_eq.mp h2
theorem attrOf_is {x:Str}{k:Nat}(e:attrOf x=some k):attrOk k=true∧strAt k=x:=
 bnd e fun J q e=>iff_ e fun h e=>Option.some.inj e▸⟨h,(codeOf_is q).2⟩
theorem ixOf_is {x:Str}:∀{l:List Str}{k:Nat},ixOf x l=some k→l[k]?=some x:=by
 intro J1
 induction J1 with
 | nil=>
  intro J e
  exact(by contradiction)
 | cons y l J8=>
  intro k e
  simp only[ixOf0,ixOf1]at e
  split at e
  ·cases e;rename_i q;exact congrArg some (beq_iff_eq.mp q)
  ·exact mp_ e fun j e1 e2=>e2▸J8 e1
theorem attributeBase_plain {o:Expr}{x:Str}{env:Env}{t:Sem Value}(h:plainBase o=true):attributeBase o x env t=t:=by
 cases o with
 | Call f as ks p=>cases f<;>first | rfl | exact(by contradiction)
 | _=>rfl
abbrev Kv (Γ:Cf) (fr:Fr) (st:List V) (us:List Value) (K:Kt) (r:List I) (Q:Value→Shared→Prop):Prop:=∀a v h' σ',At Γ fr (a::st) (v::us) h' σ'→go Γ.c Γ.P K r fr h' (a::st)→Q v σ'.s
noncomputable def SE (Γ:Cf) (e:Expr) (l r:List I):Prop:=∀(K:Kt) (fr:Fr) (st:List V) (us:List Value) (h:Hp) (σ:Wd) (Q:Value→Shared→Prop),At Γ fr st us h σ→go Γ.c Γ.P K l fr h st→Kv Γ fr st us K r Q→Γ.wp (eval e Γ.env) Q Γ.E σ.s
abbrev Kb (Γ:Cf) (fr:Fr) (st:List V) (us:List Value) (K:Kt) (r:List I) (Q:Bool→Shared→Prop):Prop:=∀b h' σ',At Γ fr st us h' σ'→go Γ.c Γ.P K r fr h' (.bool b::st)→Q b σ'.s
abbrev Bdd (Γ:Cf) (K:Kt) (r:List I):Prop:=∀v fr h st,go Γ.c Γ.P K r fr h (v::st)→∃b,v=.bool b
noncomputable def ST (Γ:Cf) (e:Expr) (l r:List I):Prop:=∀(K:Kt) (fr:Fr) (st:List V) (us:List Value) (h:Hp) (σ:Wd) (Q:Bool→Shared→Prop),Bdd Γ K r→At Γ fr st us h σ→go Γ.c Γ.P K l fr h st→Kb Γ fr st us K r Q→Γ.wp (isTrue e Γ.env (eval e Γ.env)) Q Γ.E σ.s
noncomputable def STs (Γ:Cf) (o:BoolOp) (es:List Expr) (l r:List I):Prop:=∀(K:Kt) (fr:Fr) (st:List V) (us:List Value) (h:Hp) (σ:Wd) (Q:Bool→Shared→Prop),Bdd Γ K r→At Γ fr st us h σ→go Γ.c Γ.P K l fr h st→Kb Γ fr st us K r Q→Γ.wp (allTrue o es Γ.env) Q Γ.E σ.s
abbrev Ks' (Γ:Cf) (fr:Fr) (st:List V) (us:List Value) (K:Kt) (r:List I) (n:Nat) (Q:List Value→Shared→Prop):Prop:=∀(vs:List V) (ws:List Value) (h':Hp) (σ':Wd),vs.length=n→ws.length=n→At Γ fr (vs.reverseAux st) (ws.reverseAux us) h' σ'→go Γ.c Γ.P K r fr h' (vs.reverseAux st)→Q ws σ'.s
noncomputable def SEs (Γ:Cf) (es:List Expr) (l r:List I):Prop:=∀(pos:Pos) (K:Kt) (fr:Fr) (st:List V) (us:List Value) (h:Hp) (σ:Wd) (Q:List Value→Shared→Prop),At Γ fr st us h σ→go Γ.c Γ.P K l fr h st→Ks' Γ fr st us K r es.length Q→Γ.wp (spliced (backTo pos (starEach es Γ.env))) Q Γ.E σ.s
section
variable {Γ:Cf}{K:Kt}{fr:Fr}{st:List V}{us:List Value}{h h':Hp}{σ σ':Wd}{Q:Value→Shared→Prop}{QB:Bool→Shared→Prop}{a b:V}{u v:Value}{l m r:List I}{pos pos':Pos}{e ea eb ec:Expr}{x:Str}{k n:Nat}{H':Heap}{st':List V}{us':List Value}{G:Prop}
theorem Kv.now (k:Kv Γ fr st us K r Q) (g:At Γ fr st us h σ) (q:VR σ.ν a u) (x:go Γ.c Γ.P K r fr h (a::st)):Q u σ.s:=k a u h σ (g.to g.S .refl (.cons q g.vs)) x
theorem At0.more {Γ:Cf0}(g:At0 Γ fr st us h σ) (e:Kps σ.H H'):At0 Γ fr st us h (σ.to H' n):=g.to (g.S.more e).1 (g.S.more e).2 g.vs
theorem Kv.tok (k:Kv Γ fr st us K r Q) (g:At Γ fr st us h σ) (q:VR σ.ν a u) (x:go Γ.c Γ.P K r fr h (a::st)):Q u { σ.s with toks:=n }:=Kv.now (σ:=σ.to σ.H n) k (g.more fun J J e=>e) q x
theorem Kv.q (k:Kv Γ fr st us K r Q) (g:At Γ fr st' us' h σ) (vs:VRs σ.ν st us):∀a h',go Γ.c Γ.P K r fr h' (a::st)→Kq Γ.toCtx σ Q a h':=
 fun a h' x σ' v S T q=>k a v h' σ' (g.to S T (.cons q (vs.ext T.ext))) x
theorem Kv.lf (k:Kv Γ fr st us K r Q) (g:At Γ fr st' us' h σ) (vs:VRs σ.ν st us):∀a,go Γ.c Γ.P K r fr h (a::st)→Kq Γ.toCtx σ Q a h:=fun a=>k.q g vs a h
theorem Kv.bo (k:Kv Γ fr st us K r Q) (g:At Γ fr st' us' h σ) (vs:VRs σ.ν st us):∀b,go Γ.c Γ.P K r fr h (.bool b::st)→Q (.bool b) σ.s:=fun b x=>Kv.lf k g vs _ x σ _ g.S .refl rfl
theorem Kb.bo (k:Kb Γ fr st us K r QB) (g:At Γ fr st' us' h σ) (vs:VRs σ.ν st us) {E:Value→Shared→Prop}:∀b,go Γ.c Γ.P K r fr h (.bool b::st)→Γ.wp (truthy (.bool b)) QB E σ.s:=fun b x=>wpAny_truthy_bool (k b h σ (g.to g.S .refl vs) x)
theorem se_const {c:Const}{j:Nat}(e:kConst c r=some l):SE Γ (.Constant c j pos) l r:=by
 intro K fr st us h σ Q g x k
 cases c with
 | none=>cases e;exact wpAny_Constant_none (Kv.now (a:=.none) k g rfl x)
 | bool b=>cases e;exact wpAny_Constant_bool (Kv.now (a:=.bool b) k g rfl x)
 | int i=>cases e;exact wpAny_Constant_int (Kv.tok (a:=.int i) k g ⟨_,rfl⟩ x)
 | str t=>exact mp_ e fun n hn e=>wpAny_Constant_str (Kv.tok (a:=.str n) k g ⟨(codeOf_is hn).1,_,by rw[(codeOf_is hn).2]⟩ (show go Γ.c Γ.P K (.push (.str n)::r) fr h st from e▸x))
 | _=>exact(by contradiction)
theorem se_neg {i:Int}{j:Nat}:SE Γ (.UnaryOp .USub (.Constant (.int i) j pos') pos) (.push (.int (-i))::r) r:=fun K fr st us h σ Q g x k=>
 wpAny_UnaryOp (wpAny_Constant_int (PySem.P.neg_int (Kv.tok (a:=.int (-i)) k g ⟨_,rfl⟩ x)))
theorem constOf_is {i:Int}(h:constOf x=some i) (k:∀p∈consts,Str.ofString p.1=x→p.2=i→G):G:=mp_ h fun p hp e=>k p (List.mem_of_find?_eq_some hp) (beq_iff_eq.mp (List.find?_some (p:=fun(p:String×Int)=>Str.ofString p.1==x) hp)) e
theorem name_glob {E:Value→Shared→Prop}(g:At Γ fr st us h σ) (hg:Γ.cx.sc.names.lookup x=some .globalImplicit) (hd:(x==("__debug__" : Str))=false) (hv:Γ.mg x=some v) (hq:Q v σ.s):Γ.wp (eval (.Name x pos) Γ.env) Q E σ.s:=
 Name_function_global Γ.envK (Γ.envN.glob _ hg) (loadGlobal_global (mg:=Γ.mg) (by rw[Γ.envG];exact Γ.g.keeps g.S.hr.keep) hv hq) hd
theorem name_builtin {E:Value→Shared→Prop}(g:At Γ fr st us h σ) (hg:Γ.cx.sc.names.lookup x=some .globalImplicit) (hd:(x==("__debug__" : Str))=false) (hn:Γ.mg x=none) (hm:x≠"__name__") (hv:bootBuiltins x=some v) (hq:Q v σ.s):Γ.wp (eval (.Name x pos) Γ.env) Q E σ.s:=
 Name_function_global Γ.envK (Γ.envN.glob _ hg) (loadGlobal_builtin (mg:=Γ.mg) (mb:=Γ.mb) (by rw[Γ.envG];exact Γ.g.keeps g.S.hr.keep) hn (by rw[Γ.envB];exact Γ.b.keeps g.S.hr.keep) (by rw[Γ.builtins x hm];exact hv) hq) hd
theorem se_name (e:kName Γ.cx x r=some l):SE Γ (.Name x pos) l r:=fun K fr st us h σ Q g y k=>iff' e fun hd e=>
 have hd:=not_or.mp (mt Bool.or_eq_true_iff.mpr hd)
 have hd1:=Bool.not_eq_true _▸hd.1
 have go' {m:List I} (e:m=l):go Γ.c Γ.P K m fr h st:=e▸y
 ite_ e (fun hg e=>mp_ e fun i hi e=>constOf_is hi fun p hp e1 e2=>(Γ.consts p hp).elim fun t ht=>
  name_glob g (beq_iff_eq.mp hg) hd1 (e1▸ht) (Kv.now (a:=.int i) k g ⟨t,e2▸rfl⟩ (go' e)))
 fun J e=>ite_ e (fun h1 e=>by
  have h1:=Γ.envN.loc _ (beq_iff_eq.mp h1)
  have h2:=fun i hi=>FRel.local (pr:=Γ.pr) (w:=Γ.w) (A:=Γ.A) g.fe (Q:=Q) (E:=Γ.E) (pos:=pos) (k:=i) (x:=x) Γ.envK hi h1 hd1
  unfold Cx.ln Cf0.lv at h2
  cases hc:Γ.cx.comp with
  | none=>
   rw[hc]at h2 e
   exact mp_ e fun i hi e=>h2 i (ixOf_is hi) (wV.to (go' e) fun a z u q=>Kv.now k g q z)
  | some ns=>
   rw[hc]at h2 e
   exact mp_ e fun i hi e=>h2 i (ixOf_is hi) (wV.to (go' e) fun a z u q=>Kv.now k g q z))
 fun J e=>iff_ e fun h1 e=>mp_ e fun i hi e=>g.fe.cell Γ.envK (ixOf_is hi) ((or_ h1).elim (fun q=>.inl (Γ.envN.cel _ (beq_iff_eq.mp q))) fun q=>Γ.envN.free _ (beq_iff_eq.mp q)) hd1 (Bool.not_eq_true _▸hd.2) (wV.to (go' e) fun a z u q=>Kv.now k g q z)
theorem binOf_is {o:Operator}{o':BOp}(e:binOf o=some o'):o=opOf o':=(beq_iff_eq.mp (List.find?_some (p:=fun b=>opOf b==o) e)).symm
theorem se_bin {o:Operator}{o':BOp}(ho:binOf o=some o') (ha:SE Γ ea l m) (hb:SE Γ eb m (.bin o'::r)):SE Γ (.BinOp ea o eb pos) l r:=fun K fr st us h σ Q g x k=>
 wpAny_BinOp (ha K fr st us h σ _ g x fun a v h1 σ1 g1 x=>hb K fr _ _ h1 σ1 _ g1 x fun b w h2 σ2 g2 x=>
  binOf_is ho▸l_bin g2.S (C.to x (Kv.q k g2 g2.vs.un.2.un.2)) g2.vs.un.2.un.1 g2.vs.un.1)
theorem cmpOf_is {o:CmpOp}{o':COp}(e:cmpOf o=some o'):cOf o'=some o:=beq_iff_eq.mp (List.find?_some (p:=fun b=>cOf b==some o) e)
theorem se_cmp {o:CmpOp}{o':COp}(ho:cmpOf o=some o') (hm:behindInMarks o eb=false) (ha:SE Γ ea l m) (hb:SE Γ eb m (.cmp o'::r)):SE Γ (.Compare ea [o] [eb] pos) l r:=fun K fr st us h σ Q g x k=>
 wpAny_Compare1 (ha K fr st us h σ _ g x fun a v h1 σ1 g1 x=>hb K fr _ _ h1 σ1 _ g1 x fun b w h2 σ2 g2 x=>
  l_cmp (cmpOf_is ho) g2.S (wO.to x (Kv.bo k g2 g2.vs.un.2.un.2)) g2.vs.un.2.un.1 g2.vs.un.1) hm
theorem st_cmp {o:CmpOp}{o':COp}(ho:cmpOf o=some o') (hm:behindInMarks o eb=false) (ha:SE Γ ea l m) (hb:SE Γ eb m (.cmp o'::r)):ST Γ (.Compare ea [o] [eb] pos) l r:=fun K fr st us h σ Q J g x k=>
 wpAny_isTrue_Compare1 (ha K fr st us h σ _ g x fun a v h1 σ1 g1 x=>hb K fr _ _ h1 σ1 _ g1 x fun b w h2 σ2 g2 x=>
  l_cmp (cmpOf_is ho) g2.S (wO.to x (Kb.bo k g2 g2.vs.un.2.un.2)) g2.vs.un.2.un.1 g2.vs.un.1) hm
end
end Mine
namespace Mine
open PySem PySem.W PyProof.Rows PySem.SeqAt PySem.EqNone PySem.MeetsSeq PySem.Calls
section
variable {p q:Prop}{v:V}{n:Nat}{st vs acc:List V}{us ws:List Value}{f:List V→List V→Prop}{ν:Nu}
theorem wB_t (x:wB (.bool true) p q):p:=by rw[wB_is]at x;exact x
theorem wB_f (x:wB (.bool false) p q):q:=by rw[wB_is]at x;exact x
theorem wB_bd (x:wB v p q):∃b,v=.bool b:=by
 rw[wB_is]at x
 cases v with
 | bool b=>exact⟨b,rfl⟩
 | _=>exact x.elim
theorem pN_go:∀{vs st acc:List V}{k:Nat},pN f (vs.length+k) (vs.reverseAux st) acc→pN f k st (vs++acc):=by
 intro J1
 induction J1 with
 | nil=>
  intro J J k x
  rwa[List.length_nil,Nat.zero_add]at x
 | cons v vs J8=>
  intro st acc k x
  rw[List.length_cons,Nat.add_assoc,Nat.add_comm 1]at x
  exact J8 (st:=v::st) x
theorem pN_rev (e:vs.length=n) (x:pN f n (vs.reverseAux st) []):f vs st:=by
 have:=pN_go (k:=0) (e▸x)
 rwa[List.append_nil]at this
theorem revs:vs.length=ws.length→VRs ν (vs.reverseAux st) (ws.reverseAux us)→VRs ν vs ws∧VRs ν st us:=by
 induction vs generalizing st ws us with
 | nil=>cases ws with
  | nil=>exact fun J x=>⟨.nil,x⟩
  | cons J J1=>exact fun e=>(by contradiction)
 | cons v vs ih=>cases ws with
  | nil=>exact fun e=>(by contradiction)
  | cons u ws=>exact fun e x=>have y:=ih (st:=v::st) (us:=u::us) (Nat.succ.inj e) x;⟨.cons y.2.un.1 y.1,y.2.un.2⟩
theorem cst_is {e:Expr}{c:Const}:cst e=some c→∃k p,e=.Constant c k p:=sh_c (C:=fun e s=>(match s with
 | .const c _ _=>some c
 | _=>none)=some c→∃k p,e=.Constant c k p) (fun J h=>nomatch h) (fun s h=>by
  cases s with
  | const c' k p=>exact⟨k,p,Option.some.inj h▸rfl⟩
  | _=>exact(by contradiction)) e
theorem isNoneC_is {c:Const}(h:isNoneC c=true):c=.none:=by
 cases c with
 | none=>rfl
 | _=>exact(by contradiction)
theorem intC_is {c:Const}{i:Int}(h:intC c=some i):c=.int i:=by
 cases c with
 | int j=>exact Option.some.inj h▸rfl
 | _=>exact(by contradiction)
theorem strC_is {c:Const}{x:Str}(h:strC c=some x):c=.str x:=by
 cases c with
 | str j=>exact Option.some.inj h▸rfl
 | _=>exact(by contradiction)
end
section
variable {Γ:Cf}{K:Kt}{fr:Fr}{st:List V}{us:List Value}{h h':Hp}{σ σ':Wd}{Q:Value→Shared→Prop}{a b:V}{u v:Value}{l m r A B:List I}{pos pos':Pos}{e ea eb ec:Expr}{es:List Expr}{x:Str}{n:Nat}
theorem bd_br:Bdd Γ K (.br A B::r):=fun J J J J x=>wB_bd x
theorem st_val (he:∀env,isTrue e env (eval e env)=(do let v ← eval e env;standAt e.pos;holding [v] (truthy v))) (ha:SE Γ e l r):ST Γ e l r:=fun K fr st us h σ Q B g x k=>
 wpAny_isTrue_value (ha K fr st us h σ _ g x fun a v h' σ' g' x'=>(B _ _ _ _ x').elim fun b eb=>by
  subst eb
  have:=g'.vs.un
  rw[show v=.bool b from this.1]
  exact Kb.bo k g' this.2 b x') (he _)
theorem st_is {o:CmpOp}{o':COp}(hc:∀{σ:Wd}{E Q:Value→Shared→Prop}{a:V}{u:Value}{h:Hp},VR σ.ν a u→wO' (cmpop o' a .none h) (fun r=>Q (.bool r) σ.s)→Γ.wp (compareOp o u .none) Q E σ.s) (hm:∀k p,behindInMarks o (.Constant .none k p)=false) (hn:isNone eb=true) (ha:SE Γ ea l (.push .none::.cmp o'::r)):SE Γ (.Compare ea [o] [eb] pos) l r∧ST Γ (.Compare ea [o] [eb] pos) l r:=by
 have hk:∃k p,eb=.Constant .none k p:=Option.any_eq_true .. |>.mp hn |>.elim fun c q=>isNoneC_is q.2▸cst_is q.1
 obtain⟨k,p,rfl⟩:=hk
 exact⟨fun K fr st us h σ Q g x k=>wpAny_Compare1 (ha K fr st us h σ _ g x fun a v h1 σ1 g1 x=>wpAny_Constant_none (hc g1.vs.un.1 (wO.to x (Kv.bo k g1 g1.vs.un.2)))) (hm _ _),
  fun K fr st us h σ Q J g x k=>wpAny_isTrue_Compare1 (ha K fr st us h σ _ g x fun a v h1 σ1 g1 x=>wpAny_Constant_none (hc g1.vs.un.1 (wO.to x (Kb.bo k g1 g1.vs.un.2)))) (hm _ _)⟩
theorem st_not (ht:ST Γ e l (.br [.push (.bool false)] [.push (.bool true)]::r)):ST Γ (.UnaryOp .Not e pos) l r:=fun K fr st us h σ Q J g x k=>
 wpAny_isTrue_Not (ht K fr st us h σ _ bd_br g x fun b h' σ' g' x'=>by
  cases b with
  | true=>exact k _ _ _ g' (wB_t x')
  | false=>exact k _ _ _ g' (wB_f x'))
theorem se_ite (ht:ST Γ e l (.br A B::r)) (ha:SE Γ ea A []) (hb:SE Γ eb B []):SE Γ (.IfExp e ea eb pos) l r:=fun K fr st us h σ Q g x k=>
 wpAny_IfExp (ht K fr st us h σ _ bd_br g x fun b h' σ' g' x'=>by
  cases b with
  | true=>exact ha _ fr st us h' σ' Q g' (wB_t x') k
  | false=>exact hb _ fr st us h' σ' Q g' (wB_f x') k)
theorem sts_nil {o:BoolOp}:STs Γ o [] (.push (.bool (o==.And))::r) r:=fun K fr st us h σ Q J g x k=>by
 cases o with
 | And=>exact wpAny_allTrue_And_nil (k _ _ _ g x)
 | Or=>exact wpAny_allTrue_Or_nil (k _ _ _ g x)
theorem sts_and (ht:ST Γ e l (.br B [.push (.bool false)]::r)) (hr:STs Γ .And es B []):STs Γ .And (e::es) l r:=fun K fr st us h σ Q bd g x k=>
 wpAny_allTrue_And_cons (ht K fr st us h σ _ bd_br g x fun b h' σ' g' x'=>by
  cases b with
  | true=>exact hr _ fr st us h' σ' Q bd g' (wB_t x') k
  | false=>exact k _ _ _ g' (wB_f x'))
theorem sts_or (ht:ST Γ e l (.br [.push (.bool true)] B::r)) (hr:STs Γ .Or es B []):STs Γ .Or (e::es) l r:=fun K fr st us h σ Q bd g x k=>
 wpAny_allTrue_Or_cons (ht K fr st us h σ _ bd_br g x fun b h' σ' g' x'=>by
  cases b with
  | true=>exact k _ _ _ g' (wB_t x')
  | false=>exact hr _ fr st us h' σ' Q bd g' (wB_f x') k)
theorem st_boolop {o:BoolOp}(hr:STs Γ o es l r):ST Γ (.BoolOp o es pos) l r:=fun K fr st us h σ Q bd g x k=>wpAny_isTrue_BoolOp (hr K fr st us h σ Q bd g x k)
theorem ses_nil:SEs Γ [] r r:=fun pos K fr st us h σ Q g x k=>wpAny_items_nil (k [] [] h σ rfl rfl g x)
theorem ses_cons (hst:∀env,starEach (e::es) env=(false,eval e env)::starEach es env) (he:SE Γ e l m) (hes:SEs Γ es m r):SEs Γ (e::es) l r:=fun pos K fr st us h σ Q g x k=>
 wpAny_items_cons (he K fr st us h σ _ g x fun a v h1 σ1 g1 x1=>hes pos K fr _ _ h1 σ1 _ g1 x1 fun vs ws h2 σ2 e1 e2 g2 x2=>k (a::vs) (v::ws) h2 σ2 (congrArg Nat.succ e1) (congrArg Nat.succ e2) g2 x2) (hst _)
theorem At0.pop {Γ:Cf0}{st':List V}{us':List Value}(g:At0 Γ fr st us h σ) (vs:VRs σ.ν st' us'):At0 Γ fr st' us' h σ:=⟨g.S,g.tr,g.fe,vs,g.kp,g.nx⟩
theorem gather {F:Hp→List V→List V→Prop}{Q:List Value→Shared→Prop}(hF:∀h st,go Γ.c Γ.P K r fr h st=pN (F h) n st []) (k:∀(vs:List V) (ws:List Value) (h':Hp) (σ':Wd),vs.length=n→VRs σ'.ν vs ws→At Γ fr st us h' σ'→F h' vs st→Q ws σ'.s):Ks' Γ fr st us K r n Q:=
 fun vs ws h' σ' e1 e2 g x=>have y:=revs (e1.trans e2.symm) g.vs;k vs ws h' σ' e1 y.1 (g.pop y.2) (pN_rev e1 (hF h' _▸x))
theorem se_list (hes:SEs Γ es l (.list es.length::r)):SE Γ (.List es pos) l r:=fun K fr st us h σ Q g x k=>
 wpAny_List (hes pos K fr st us h σ _ g x (gather (fun J J=>rfl) fun vs ws h' σ' e y g' x'=>
  have x':=C.to x' (Kv.q k g' g'.vs)
  ⟨y.length▸Nat.le_trans (newL_le x') lim_line,newL_k g'.S y x'⟩))
theorem se_tup {j:Nat}(hn:es.length<20) (hes:SEs Γ es l (.tup es.length::r)):SE Γ (.Tuple es j pos) l r:=fun K fr st us h σ Q g x k=>
 wpAny_Tuple (hes pos K fr st us h σ _ g x (gather (fun J J=>rfl) fun vs ws h' σ' e y g' x'=>
  have hl:vs.length≤lim:=e▸Nat.le_trans (Nat.le_of_lt hn) (Nat.le_of_ble_eq_true rfl)
  ⟨y.length▸Nat.le_trans hl lim_line,Kq.new (C.to x' (Kv.q k g' g'.vs)) g'.S (none_size _) (push_keeps _ _) (.tup rfl hl (Heap.get?_push_size _ rfl) y.mono)⟩))
theorem se_attr {t:Str}{j:Nat}(hp:plainBase e=true) (hk:attrOf t=some j) (he:SE Γ e l (.attr j::r)):SE Γ (.Attribute e t pos) l r:=fun K fr st us h σ Q g x k=>
 Attribute_any_ (he K fr st us h σ _ g x fun a v h1 σ1 g1 x1=>(attrOf_is hk).2▸l_getA g1.S (attrOf_is hk).1 (wO.to x1 (Kv.lf k g1 g1.vs.un.2)) g1.vs.un.1) (by
  show(do let o ← attributeBase e t Γ.env (eval e Γ.env);_)=_
  rw[attributeBase_plain hp])
theorem se_item (he:SE Γ ea l m) (hi:SE Γ eb m (.item::r)):SE Γ (.Subscript ea eb pos) l r:=fun K fr st us h σ Q g x k=>
 Subscript_ (he K fr st us h σ _ g x fun a u h1 σ1 g1 x=>hi K fr _ _ h1 σ1 _ g1 x fun b v h2 σ2 g2 x=>(subscripted_any eb u v).elim fun ops hsl=>
  l_item g2.S (wO.to x (Kv.lf k g2 g2.vs.un.2.un.2)) g2.vs.un.2.un.1 g2.vs.un.1 hsl)
theorem isSlice {H:Heap}{u1 u2 u3:Value}:(H.push { cls:=.type "slice",data:=.fields #[u1,u2,u3] }).IsSliceOf H.objs.size u1 u2 u3:=⟨_,Heap.get?_push_size _ rfl,rfl,rfl⟩
theorem minus1 (h:isMinus1 e=true):∃k p p',e=.UnaryOp .USub (.Constant (.int 1) k p) p':=sh_c (C:=fun e s=>(match s with
 | .un o a _=>o==.USub&&(cst a).bind intC==some 1
 | _=>false)=true→∃k p p',e=.UnaryOp .USub (.Constant (.int 1) k p) p') (fun J h=>nomatch h) (fun s h=>by
  cases s with
  | un o a p=>exact and_ h fun h1 h2=>bnd (beq_iff_eq.mp h2) fun c hc hi=>(cst_is hc).elim fun k q=>q.elim fun p' q=>⟨k,p',p,by rw[show o=.USub from beq_iff_eq.mp h1,q,intC_is hi];rfl⟩
  | _=>exact(by contradiction)) e h
theorem se_rev (hm:isMinus1 eb=true) (he:SE Γ ea l (.rev::r)):SE Γ (.Subscript ea (.Slice none none (some eb) pos') pos) l r:=fun K fr st us h σ Q g x k=>
 Subscript_ (he K fr st us h σ _ g x fun a u h1 σ1 g1 x=>(minus1 hm).elim fun j y=>y.elim fun p y=>y.elim fun p' y=>y▸
  wpAny_Slice (wpAny_evalPart_none (wpAny_evalPart_none (wpAny_evalPart_some (wpAny_UnaryOp (wpAny_Constant_int (PySem.P.neg_int
   (have g2:=At0.more (n:=σ1.s.toks+1+1) g1 (push_keeps _ _)
   l_rev g2.S (C.to x (Kv.q k g2 g2.vs.un.2)) isSlice (IsPart.int _ _) g2.vs.un.1))))))))
theorem se_drop (he:SE Γ ea l m) (hi:SE Γ eb m (.drop::r)):SE Γ (.Subscript ea (.Slice (some eb) none none pos') pos) l r:=fun K fr st us h σ Q g x k=>
 Subscript_ (he K fr st us h σ _ g x fun a u h1 σ1 g1 x=>wpAny_Slice (wpAny_evalPart_some (hi K fr _ _ h1 σ1 _ g1 x fun b v h2 σ2 g2 x=>wpAny_evalPart_none (wpAny_evalPart_none
  (have g3:=At0.more (n:=σ2.s.toks) g2 (push_keeps _ _)
  l_drop g3.S (C.to x (Kv.q k g3 g3.vs.un.2.un.2)) isSlice g3.vs.un.2.un.1 g3.vs.un.1)))))
theorem se_take (he:SE Γ ea l m) (hi:SE Γ eb m (.take::r)):SE Γ (.Subscript ea (.Slice none (some eb) none pos') pos) l r:=fun K fr st us h σ Q g x k=>
 Subscript_ (he K fr st us h σ _ g x fun a u h1 σ1 g1 x=>wpAny_Slice (wpAny_evalPart_none (wpAny_evalPart_some (hi K fr _ _ h1 σ1 _ g1 x fun b v h2 σ2 g2 x=>wpAny_evalPart_none
  (have g3:=At0.more (n:=σ2.s.toks) g2 (push_keeps _ _)
  l_take g3.S (C.to x (Kv.q k g3 g3.vs.un.2.un.2)) isSlice g3.vs.un.2.un.1 g3.vs.un.1)))))
end
end Mine
namespace Mine
open PySem PySem.W PyProof.Rows PySem.SeqAt PySem.EqNone PySem.MeetsSeq PySem.Calls
abbrev Plain (e:Expr):Prop:=∀es env,starEach (e::es) env=(false,eval e env)::starEach es env
structure Es (Γ:Cf) (es:List Expr) (l r:List I):Prop where
 s:SEs Γ es l r
 p:∀e∈es,Plain e
 z:es=[]→l=r
theorem star_plain {es:List Expr}{env:Env}{pos:Pos}(h:∀e∈es,Plain e):(backTo pos (starEach es env)).any (·.1)=false∧(backTo pos (starEach es env)).all (fun x=>!x.1)=true:=by
 induction es with
 | nil=>exact⟨rfl,rfl⟩
 | cons e es ih=>
  have:=ih fun e q=>h e (.tail _ q)
  rw[h e (.head _)]
  exact⟨(Bool.false_or _).trans this.1,(Bool.true_and _).trans this.2⟩
section
variable {Γ:Cf}{K:Kt}{fr:Fr}{st:List V}{us:List Value}{h h':Hp}{σ σ':Wd}{Q E:Value→Shared→Prop}{a b:V}{u v:Value}{l l2 m r A B:List I}{pos pos':Pos}{e ea eb ec:Expr}{es:List Expr}{x:Str}{n i j:Nat}{fv:Value}{first ws us':List Value}{vs as st':List V}
theorem kEs_ok {f:Expr→List I→Oc}(hf:∀e l r,f e r=some l→SE Γ e l r∧Plain e):kEs f es r=some l→Es Γ es l r:=by
 induction es generalizing l with
 | nil=>exact fun x=>Option.some.inj x▸⟨ses_nil,(fun J h=>(by contradiction)),fun J=>rfl⟩
 | cons e es ih=>exact fun x=>bnd x fun m h1 h2=>have y:=ih h1;have z:=hf _ _ _ h2;⟨ses_cons (z.2 es) z.1 y.s,(fun e q=>(List.mem_cons.mp q).elim (fun w=>w▸z.2) (y.p e)),by simp⟩
theorem Es.args {Q:Args→Shared→Prop}(y:Es Γ es l r) (g:At Γ fr st us h σ) (x:go Γ.c Γ.P K l fr h st) (k:Ks' Γ fr st us K r es.length fun ws s=>Q ⟨ws,[]⟩ s):Γ.wp (evalArgs fv true (backTo pos (starEach es Γ.env)) []) Q Γ.E σ.s:=by
 cases es with
 | nil=>exact evalArgs_nil3 (k [] [] h σ rfl rfl g (y.z rfl▸x))
 | cons e es=>
  have:=y.s pos K fr st us h σ _ g x k
  rw[y.p e (.head _)]at this ⊢;exact evalArgs_plain this
theorem callK (hk:keepIn Γ.K fv=true) (y:Es Γ es l r) (g:At Γ fr st us h σ) (x:go Γ.c Γ.P K l fr h st) (k:Ks' Γ fr st us K r es.length fun ws s=>Γ.wp (call fv (first++ws)) Q Γ.E s):Γ.wp (callWith pos fv first (backTo pos (starEach es Γ.env)) []) Q Γ.E σ.s:=
 callWith_of (P:=fun H=>Γ.K.In H) (by rw[(star_plain y.p).1];rfl) (keeps_K hk) (y.args g x fun vs ws h' σ' e1 e2 g' x'=>⟨Γ.X.keeps g'.S.hr.keep,k vs ws h' σ' e1 e2 g' x'⟩)
theorem callB {id:String}(y:Es Γ es l r) (g:At Γ fr st us h σ) (x:go Γ.c Γ.P K l fr h st) (k:Ks' Γ fr st us K r es.length fun ws s=>Γ.wp (call (.builtin id) (first++ws)) Q Γ.E s):Γ.wp (callWith pos (.builtin id) first (backTo pos (starEach es Γ.env)) []) Q Γ.E σ.s:=
 callWith_builtin (star_plain y.p).1 (y.args g x k)
theorem callT {id:String}(y:Es Γ es l r) (g:At Γ fr st us h σ) (x:go Γ.c Γ.P K l fr h st) (k:Ks' Γ fr st us K r es.length fun ws s=>Γ.wp (call (.type id) ws) Q Γ.E s):Γ.wp (callWith pos (.type id) [] (backTo pos (starEach es Γ.env)) []) Q Γ.E σ.s:=
 callWith_excType (star_plain y.p).1 (y.args g x k)
theorem findIdx_is {l:List String}{k:Nat}{G:Prop}(h:(l.findIdx? fun y=>Str.ofString y==x)=some k) (z:∀n,k<l.length→l[k]?=some n→Str.ofString n=x→G):G:=
 (List.findIdx?_eq_some_iff_getElem.mp h).elim fun h1 h2=>z l[k] h1 (List.getElem?_eq_getElem h1) (beq_iff_eq.mp h2.1)
theorem glob_k {cx:Cx}{G:Prop}(h:cx.glob x=true) (k:cx.sc.names.lookup x=some .globalImplicit→(x==("__debug__" : Str))=false→G):G:=
 and_ h fun h1 h2=>k (beq_iff_eq.mp h1) (Bool.not_eq_true' _▸h2)
theorem own_end {f:Nat}(hf:f<45) (k:Kv Γ fr st us K r Q) (g:At Γ fr st' us' h σ) (vs':VRs σ.ν st us) (y:VRs σ.ν as ws) (x:Γ.c.calls f as h (kq fr (go Γ.c Γ.P K r) st) (Γ.P.X fr)):Γ.wp (call (.ref (Γ.fnA f)) ws) Q Γ.E σ.s:=
 Γ.calls f as ws h σ _ _ Q Γ.E hf g.S y x (Kv.q k g vs') fun h' e s' ea a0 B ν' z p=>Γ.hE _ _ _ _ _ _ _ _ _ _ _ _ g z p
theorem boot_bi:∀p∈bis,p.1∈(["len","sum","max","min","sorted","list","abs","range","zip","enumerate"]:List String)∧Str.ofString p.1≠"__name__"∧bootBuiltins (Str.ofString p.1)=some (biVal p.2):=by decide +kernel
theorem biOf_is {b:BI}{G:Prop}(hb:biOf x=some b) (k:∀n∈(["len","sum","max","min","sorted","list","abs","range","zip","enumerate"]:List String),Str.ofString n=x→x≠"__name__"→bootBuiltins x=some (biVal b)→G):G:=
 mp_ hb fun p hp e=>have q:=boot_bi p (List.mem_of_find?_eq_some hp);have e1:=beq_iff_eq.mp (List.find?_some (p:=fun(p:String×BI)=>Str.ofString p.1==x) hp);k p.1 q.1 e1 (e1▸q.2.1) (e1▸e▸q.2.2)
theorem bi_val {b:BI}(hb:b≠.list):∃id,biVal b=.builtin id:=by
 cases b with
 | list=>exact absurd rfl hb
 | _=>exact⟨_,rfl⟩
theorem bi_call {b:BI}(hb:b≠.list) (y:Es Γ es l r) (g:At Γ fr st us h σ) (x:go Γ.c Γ.P K l fr h st) (k:Ks' Γ fr st us K r es.length fun ws s=>Γ.wp (call (biVal b) ws) Q Γ.E s):Γ.wp (callWith pos (biVal b) [] (backTo pos (starEach es Γ.env)) []) Q Γ.E σ.s:=by
 obtain⟨id,e⟩:=bi_val hb
 rw[e]at k⊢
 exact callB (first:=[]) y g x k
theorem se_call {np:Pos}(hk:kCall Γ.cx x es.length r=some m) (y:Es Γ es l m):SE Γ (.Call (.Name x np) es [] pos) l r:=fun K fr st us h σ Q g z k=>iff_ hk fun hg hk=>and_ hg fun hg J=>glob_k hg fun hg hd=>by
 cases q:defOf' x with
 | some f=>
  rw[q]at hk
  cases hk
  exact findIdx_is q fun n f1 f2 e=>have f1:=Nat.lt_trans f1 (by decide);wpAny_Call_ofName (name_glob g hg hd (e▸Γ.defs f n f2) (callK (first:=[]) (Γ.keepF f f1) y g z (gather (fun J J=>rfl) fun vs ws h' σ' e w g' x'=>own_end f1 k g' g'.vs w x')))
 | none=>
  rw[q]at hk
  cases q:clsOf' x with
  | some c=>
   rw[q]at hk
   cases hk
   exact findIdx_is q fun n f1 f2 e=>wpAny_Call_ofName (name_glob g hg hd (e▸Γ.clss c n f2) (callK (first:=[]) (Γ.keepC c f1) y g z (gather (fun J J=>rfl) fun vs ws h' σ' e w g' x'=>Γ.news c vs ws h' σ' _ Q Γ.E f1 g'.S w x' (Kv.q k g' g'.vs))))
  | none=>
   rw[q]at hk
   refine mp_ hk fun b hb e=>biOf_is hb fun n hn e1 h1 h2=>?_
   subst e
   refine wpAny_Call_ofName (name_builtin g hg hd (e1▸Γ.bis n hn) h1 h2 ?_)
   by_cases hl:b=.list
   ·subst hl
    exact callT y g z (gather (fun J J=>rfl) fun vs ws h' σ' e w g' x'=>l_list g'.S w (C.to x' (Kv.q k g' g'.vs)))
   ·exact bi_call hl y g z (gather (fun J J=>rfl) fun vs ws h' σ' e w g' x'=>l_bi hl g'.S w (C.to x' (Kv.q k g' g'.vs)))
end
end Mine
namespace Mine
open PySem PySem.W PyProof.Rows PySem.SeqAt PySem.EqNone PySem.MeetsSeq PySem.Calls
section
variable {Γ:Ctx}{h:Hp}{σ:Wd}{Q E:Value→Shared→Prop}{u:Value}{us ws:List Value}{i m:Nat}{vs as:List V}{KV:V→Prop}{KQ:V→Hp→Prop}{a:V}{c:Env'}
theorem wM_k {G:Prop}(x:wM c a m h KV) (k1:∀i k fs f,a=.ref i→h[i]?=some (.inst k fs)→findF m fs=none→methOf c.meths k m=some f→KV (.str f)→G) (k2:∀i vs,a=.ref i→h[i]?=some (.list vs)→m<5→i≠0→KV .none→G) (k3:∀i es,a=.ref i→h[i]?=some (.dictI es)→m=5→KV .none→G):G:=by
 unfold wM at x
 cases a with
 | ref i=>
  have k1:=k1 i
  have k2:=k2 i
  have k3:=k3 i
  dsimp only at x
  generalize h[i]?=o at x k1 k2 k3
  cases o with
  | none=>exact x.elim
  | some o=>cases o with
   | inst k fs=>
    have k1:=k1 k fs
    dsimp only at x
    generalize findF m fs=o1 at x k1
    generalize methOf c.meths k m=o2 at x k1
    cases o1 with
    | some J=>exact x.elim
    | none=>cases o2 with
     | none=>exact x.elim
     | some f=>exact k1 f rfl rfl rfl rfl x
   | list vs=>exact k2 vs rfl rfl x.1.1 x.1.2 x.2
   | dictI es=>exact k3 es rfl rfl x.1 x.2
   | _=>exact x.elim
 | _=>exact x.elim
theorem om_list (hm:m<5) (x:C' (objMeth i m as h) KQ):∃vs,h[i]?=some (.list vs):=by
 rw[omO_is]at x
 generalize h[i]?=o at x
 cases o with
 | none=>exact x.elim
 | some o=>cases o with
  | list vs=>exact⟨vs,rfl⟩
  | dictI es=>exact(show C' (if m=s_get then _ else R.stuck) KQ from x)|>fun x=>C_if x fun e J=>absurd e (Nat.ne_of_lt hm)
  | _=>exact x.elim
theorem om_dict (x:C' (objMeth i 5 as h) KQ):∃es,h[i]?=some (.dictI es):=by
 rw[omO_is]at x
 generalize h[i]?=o at x
 cases o with
 | none=>exact x.elim
 | some o=>cases o with
  | dictI es=>exact⟨es,rfl⟩
  | _=>exact x.elim
theorem l_om (hm:m<5) (i0:0<i) (S:St Γ h σ) (xa:VR σ.ν (.ref i) u) (xs:VRs σ.ν as us) (x:C' (objMeth i m as h) (Kq Γ σ Q)):Γ.wp (call (.builtin (methId m)) (u::us)) Q E σ.s:=
 (om_list hm x).elim fun vs ho=>match m,hm,x with
  | 0,_,x=>l_app S ho i0 xa xs x
  | 1,_,x=>l_ext S ho i0 xa xs x
  | 2,_,x=>l_pop S ho i0 xa xs x
  | 3,_,x=>l_ins S ho i0 xa xs x
  | 4,_,x=>l_idx S ho xa xs x
theorem meth_list (hm:m<5):Slot "list" (strAt m) (methId m)∧typeOf (.builtin (methId m))=pure (.type "method_descriptor"):=
 match m,hm with
 | 0,_=>⟨PySem.F.slot_list_append,PySem.F.type_list_append⟩
 | 1,_=>⟨PySem.F.slot_list_extend,PySem.F.type_list_extend⟩
 | 2,_=>⟨PySem.F.slot_list_pop,PySem.F.type_list_pop⟩
 | 3,_=>⟨PySem.F.slot_list_insert,PySem.F.type_list_insert⟩
 | 4,_=>⟨PySem.F.slot_list_index,PySem.F.type_list_index⟩
theorem gm_list {pl:Sem Bool}{QM:Value×List Value→Shared→Prop}(S:St Γ h σ) (xa:VR σ.ν (.ref i) u) (ho:h[i]?=some (.list vs)) (hm:m<5) (hq:QM (.builtin (methId m),[u]) σ.s):Γ.wp (getMethod u (strAt m) pl) QM E σ.s:=
 xa.list S ho fun p its n ea J J J hg J J=>by
  rw[ea]at hq⊢
  exact getMethod_builtin ⟨_,hg,rfl⟩ PySem.F.plainAttrs_list (meth_list hm).1 (meth_list hm).2 (fun a e=>Value.ref.inj e▸⟨_,hg,rfl⟩) hq
theorem gm_dict {es:List (Int×V)}{pl:Sem Bool}{QM:Value×List Value→Shared→Prop}(S:St Γ h σ) (xa:VR σ.ν (.ref i) u) (ho:h[i]?=some (.dictI es)) (hq:QM (.builtin "dict.get",[u]) σ.s):Γ.wp (getMethod u (strAt 5) pl) QM E σ.s:=
 S.hr.get ho fun q hp y=>by
  rw[xa.at hp]at hq⊢
  cases y with
  | dictI e z l g q=>
   obtain⟨od,ds',ep,g3,gx,_⟩:=g
   exact getMethod_builtin (T:="dict") (id:="dict.get") ⟨_,g3,gx.1⟩ PySem.F.plainAttrs_dict PySem.F.slot_dict_get PySem.F.type_dict_get (fun a e=>Value.ref.inj e▸⟨_,g3,gx.2.1⟩) hq
theorem methOf_small {c m f:Nat}:methOf prog.meths c m=some f→f<45:=by
 have key:∀l:List ((Nat×Nat)×Nat),(∀p∈l,p.2<45)→methOf l c m=some f→f<45:=fun l=>by
  induction l with
  | nil=>exact fun J h=>(by contradiction)
  | cons p l ih=>exact fun hl h=>ite_ (show(if p.1=(c,m)then some p.2 else methOf l c m)=some f from h) (fun J e=>Option.some.inj e▸hl p (.head _)) fun J=>ih fun q hq=>hl q (.tail _ hq)
 exact key _ (by decide +kernel)
end
section
variable {Γ:Cf}{l l2 r:List I}{pos apos:Pos}{e:Expr}{es:List Expr}{t:Str}{m:Nat}
theorem se_meth (hp:plainBase e=true) (hl:(apos.endLine==pos.line)=true) (hn:es.length<20) (hm:codeOf t=some m) (he:SE Γ e l (.look m::l2)) (hes:Es Γ es l2 (.meth m es.length::r)):SE Γ (.Call (.Attribute e t apos) es [] pos) l r:=by
 intro K fr st us h σ Q g x k
 have m1:=(codeOf_is hm).1
 rw[← (codeOf_is hm).2]
 show wpAny _ _ _ _ _ _
 rw[arm_eval_Call,attributeBase_plain hp]
 refine wpAny_bind (he K fr st us h σ _ g x fun a u h1 σ1 g1 x1=>wpAny_bind (wpAny_standAt ?_))
 have hform:methodCallForm (es.length+([]:List Keyword).length) (backTo pos (starEach es Γ.env)) (backToKw pos (keywordEach [] Γ.env))=true:=by
  unfold methodCallForm
  rw[(star_plain hes.p).2]
  exact decide_eq_true (Nat.lt_of_lt_of_le hn (Nat.le_of_ble_eq_true rfl))
 have hpos:methodCallPos true e Γ.env apos pos=pure pos:=by unfold methodCallPos;simp[hl]
 unfold methodCall
 rw[hform]
 refine wpAny_bind (wpAny_holding ?_)
 have g2 {t:V} {w:Value} (q:VR σ1.ν t w):At Γ fr (t::a::st) (w::u::us) h1 σ1:=g1.pop (.cons q g1.vs)
 have xu:=g1.vs.un.1
 refine wM_k x1 (fun i c fs f ea ho h1 h2 x2=>?_) (fun i vs ea ho hm5 i0 x2=>?_) (fun i ds ea ho hm5 x2=>?_)<;>subst ea
 ·have f1:=methOf_small (Γ.cM▸h2)
  refine l_meth g1.S xu ho m1 h1 (Γ.cM▸h2) (wpAny_bind (wpAny_of_eq hpos (callK (first:=[u]) (Γ.keepF f f1) hes (g2 (t:=.str f) (w:=.str (strAt f) 0) ⟨Nat.lt_trans f1 (by decide),0,rfl⟩) x2 (gather (fun J J=>rfl) fun vs ws h' σ' e y g' x'=>?_))))
  exact own_end (as:=.ref i::vs) (ws:=u::ws) f1 k g' g'.vs.un.2.un.2 (.cons g'.vs.un.2.un.1 y) x'
 ·refine gm_list g1.S xu ho hm5 (wpAny_bind (wpAny_of_eq hpos (callB (first:=[u]) hes (g2 (t:=.none) (w:=.none) rfl) x2 (gather (fun J J=>rfl) fun vs ws h' σ' e y g' x'=>?_))))
  exact l_om hm5 (Nat.pos_of_ne_zero i0) g'.S g'.vs.un.2.un.1 y (C.to x' (Kv.q k g' g'.vs.un.2.un.2))
 ·subst hm5
  refine gm_dict g1.S xu ho (wpAny_bind (wpAny_of_eq hpos (callB (first:=[u]) hes (g2 (t:=.none) (w:=.none) rfl) x2 (gather (fun J J=>rfl) fun vs ws h' σ' e y g' x'=>?_))))
  have x':=C.to x' (Kv.q k g' g'.vs.un.2.un.2)
  exact(om_dict x').elim fun ds ho=>l_get g'.S ho g'.vs.un.2.un.1 y x'
end
end Mine
namespace Mine
open PySem PySem.W PyProof.Rows PySem.SeqAt PySem.EqNone PySem.MeetsSeq PySem.Calls
structure Ows (Γ:Cf0) (ν:Nu) (b:Addr):Prop where
 new:Γ.b0.H.get? b=none
 low:Γ.h₀.get? b=none
 nf:¬Foot ν b
 nk:∀o,¬Γ.keep b o
 nr:b∉framesOf Γ.fs
 nl:¬(b=Γ.env.locals∨∃x,Γ.env.cells.lookup x=some b)
section
variable {Γ:Cf0}{fr:Fr}{st:List V}{us:List Value}{h:Hp}{σ σ' b0:Wd}{b:Addr}{o:Obj}{H':Heap}{n:Nat}{H:Heap}{ν ν':Nu}
theorem St.nfr {Γ:Ctx}{b:Addr}(S:St Γ h σ) (e:σ.H.get? b=none):b∉framesOf Γ.fs:=fun hb=>(S.funs.mem hb).2.elim fun o ho=>nomatch ho.1.symm.trans e
theorem At0.fresh (g:At0 Γ fr st us h σ) (e:σ.H.get? b=none):Ows Γ σ.ν b where
 new:=g.tr.free g.S.hr e
 low:=low_none g.S.hr.keep e
 nf:=g.S.nf e
 nk:=fun o q=>nomatch (g.kp b o q).1.symm.trans e
 nr:=g.S.nfr e
 nl:=fun q=>q.elim (fun q=>g.fe.loc.elim fun m z=>z.1.elim fun o y=>y.elim fun J y=>y.elim fun J y=>nomatch (q▸y.1).symm.trans e) fun q=>q.elim fun x q=>(g.fe.outC x b q).1.elim fun v y=>y.elim fun o y=>nomatch y.1.symm.trans e
theorem Ows.to (x:Ows Γ ν b) (e:Ext ν H ν') (z:H.get? b≠none):Ows Γ ν' b:=⟨x.new,x.low,match q:H.get? b with | none=>absurd q z | some o=>e.notFoot q x.nf,x.nk,x.nr,x.nl⟩
theorem mvST {Γ:Ctx}(S:St Γ h σ) (T:Tr Γ b0 σ) (k:∀b o,σ.H.get? b=some o→(b0.H.get? b=none∧Γ.h₀.get? b=none∧¬Foot σ.ν b∧(b∈framesOf Γ.fs→∃o',H'.get? b=some o'∧∀vs,o'.data≠.fields vs))∨H'.get? b=some o):St Γ h (σ.to H' n)∧Tr Γ b0 (σ.to H' n):=
 ⟨{
  hr:=S.hr.keeps (fun b o hf e=>(k b o e).elim (fun w=>absurd hf w.2.2.1) id) fun b o e=>(k b o (S.hr.keep b o e)).elim (fun w=>nomatch e.symm.trans w.2.1) id,
  funs:=funs_keep S.funs fun b hb o ho hd=>(k b o ho).elim (fun w=>w.2.2.2 hb) fun e=>⟨o,e,hd⟩,
  out:=S.out },
 {
  ext:=T.ext,
  kept:=fun b o e n=>have y:=T.kept b o e n
   ⟨fun hb=>(k b o (y.1 hb)).elim (fun w=>nomatch e.symm.trans w.1) id,y.2.elim fun sl z=>(k b _ z).elim (fun w=>nomatch e.symm.trans w.1) fun z=>⟨sl,z⟩⟩,
  gens:=T.gens,
  os:=T.os }⟩
theorem At0.mv (g:At0 Γ fr st us h σ) (k:∀b o,σ.H.get? b=some o→Ows Γ σ.ν b∨H'.get? b=some o):At0 Γ fr st us h (σ.to H' n):=
 have x:=mvST (n:=n) g.S g.tr fun b o e=>(k b o e).imp (fun w=>⟨w.new,w.low,w.nf,fun q=>absurd q w.nr⟩) id
 {
  S:=x.1,
  tr:=x.2,
  fe:=g.fe.keeps .refl fun b o q e J=>(k b o e).elim (fun w=>absurd q w.nl) fun e=>Sl.refl e,
  vs:=g.vs,
  kp:=fun b o q=>have y:=g.kp b o q;⟨(k b o y.1).elim (fun w=>absurd q (w.nk o)) id,y.2⟩,
  nx:=g.nx }
end
noncomputable abbrev Cf.also (Γ:Cf) {fr:Fr}{st:List V}{us:List Value}{h₀:Hp}{σ₀:Wd}(g₀:At Γ fr st us h₀ σ₀) (k:Addr→Obj→Prop) (nk:∀b o,k b o→b∉framesOf Γ.fs∧¬(b=Γ.env.locals∨∃x,Γ.env.cells.lookup x=some b)):Cf where
 toCf0:={ Γ.toCf0 with b0:=σ₀,keep:=fun b o=>Γ.keep b o∨k b o,nk:=fun b o q=>q.elim (Γ.nk b o) (nk b o) }
 E:=Γ.E
 hE:=fun fr st us h σ h' e s' ea a0 B ν' g=>Γ.hE fr st us h σ h' e s' ea a0 B ν' ⟨g.S,g₀.tr.trans g₀.S.hr g.tr,g.fe,g.vs,fun b o q=>g.kp b o (.inl q),g.nx⟩
section
variable {Γ:Cf}{K:Kt}{fr:Fr}{st:List V}{us:List Value}{h h':Hp}{σ σ':Wd}{Q E:Value→Shared→Prop}{a b:V}{u v:Value}{l l2 m r A B:List I}{pos pos':Pos}{e ea eb ec:Expr}{es:List Expr}{x:Str}{n i j:Nat}{k:Addr→Obj→Prop}{nk:∀b o,k b o→b∉framesOf Γ.fs∧¬(b=Γ.env.locals∨∃x,Γ.env.cells.lookup x=some b)}{ks:List (Option Expr)}{ns:List Nat}{vs:List V}{ps:List (Value×Value)}{ν:Nu}
theorem At0.also (g:At Γ fr st us h σ) (q:∀b o,k b o→σ.H.get? b=some o∧¬Foot σ.ν b):At (Γ.also g k nk) fr st us h σ:=⟨g.S,.refl,g.fe,g.vs,fun b o z=>z.elim (g.kp b o) (q b o),g.nx⟩
theorem At0.back {g₀:At Γ fr st us h σ}{fr':Fr}{st':List V}{us':List Value}(g:At (Γ.also g₀ k nk) fr' st' us' h' σ'):At Γ fr' st' us' h' σ':=⟨g.S,g₀.tr.trans g₀.S.hr g.tr,g.fe,g.vs,fun b o z=>g.kp b o (.inl z),g.nx⟩
abbrev KP (n:Nat) (p:Value×Value):Prop:=n<texts.length∧∃t,p.1=.str (strAt n) t
noncomputable def SP (Γ:Cf) (ks:List (Option Expr)) (ns:List Nat) (es:List Expr) (l r:List I):Prop:=∀(pos:Pos) (K:Kt) (fr:Fr) (st:List V) (us:List Value) (h:Hp) (σ:Wd) (Q:List (Value×Value)→Shared→Prop),At Γ fr st us h σ→go Γ.c Γ.P K l fr h st→
 (∀(vs:List V) (ps:List (Value×Value)) (h':Hp) (σ':Wd),vs.length=es.length→ps.length=es.length→All2 KP ns ps→At Γ fr (vs.reverseAux st) ((ps.map (·.2)).reverseAux us) h' σ'→go Γ.c Γ.P K r fr h' (vs.reverseAux st)→Q ps σ'.s)→Γ.wp (evalPairs (pairTrees ks es Γ.env pos)) Q Γ.E σ.s
theorem key_is {k:Option Expr}(q:k.bind strOf=some x):∃j p,k=some (.Constant (.str x) j p):=bnd q fun e h1 h2=>bnd h2 fun c hc hx=>(cst_is hc).elim fun j y=>y.elim fun p y=>⟨j,p,h1▸congrArg some (y.trans (by rw[strC_is hx]))⟩
theorem sps_ok {f:Expr→List I→Oc}(hf:∀e l r,f e r=some l→SE Γ e l r):keyCodes ks=some ns→ns.length=es.length→kEs f es r=some l→SP Γ ks ns es l r∧ks.all (·.isSome)=true∧ks.length=es.length∧(es=[]→l=r):=by
 induction es generalizing l ks ns with
 | nil=>cases ns with
  | cons J J1=>exact fun J e=>(by contradiction)
  | nil=>cases ks with
   | nil=>exact fun J J x=>Option.some.inj x▸⟨fun pos K fr st us h σ Q g x k=>pairTrees_nil_walk (k [] [] h σ rfl rfl .nil g x),rfl,rfl,fun J=>rfl⟩
   | cons k ks=>exact fun x=>bnd x fun t J x=>bnd x fun n J x=>mp_ x fun J J x=>(by contradiction)
 | cons e es ih=>cases ks with
  | nil=>exact fun x y=>absurd y (by cases x;exact Nat.zero_ne_add_one _)
  | cons k ks=>
   intro x y z
   refine bnd x fun t ht x=>bnd x fun n hn x=>mp_ x fun ns hns x=>bnd z fun m hm he=>?_
   subst x
   obtain⟨j,p,rfl⟩:=key_is ht
   have q:=ih hns (Nat.succ.inj y) hm
   refine⟨fun pos K fr st us h σ Q g x k=>?_,q.2.1,congrArg Nat.succ q.2.2.1,by simp⟩
   have c:=codeOf_is hn
   exact pairTrees_cons_walk (wpAny_Constant_str (hf _ _ _ he K fr st us h _ _ (At0.more (n:=σ.s.toks+1) g fun J J e=>e) x fun a v h1 σ1 g1 x1=>q.1 pos K fr _ _ h1 σ1 _ g1 x1 fun vs ps h2 σ2 e1 e2 hp g2 x2=>
     k (a::vs) ((_,v)::ps) h2 σ2 (congrArg Nat.succ e1) (congrArg Nat.succ e2) (.cons ⟨c.1,σ.s.toks,by rw[c.2]⟩ hp) g2 x2))
theorem carries_k {pr:Program}{w:World}:∀{ns:List Nat}{vs:List V}{ps:List (Value×Value)},All2 KP ns ps→VRs ν vs (ps.map (·.2))→∃kvs,Carries (strKind pr w) ps kvs∧All2 (KS ν) (ns.zip vs) kvs∧kvs.map (·.1)=ns.map strAt:=by
 intro ns vs ps x
 induction x generalizing vs with
 | nil=>exact fun J=>⟨[],trivial,(show All2 _ (([]:List Nat).zip vs) []from by rw[List.zip_nil_left];exact .nil),rfl⟩
 | cons a J ih=>cases vs with
  | nil=>exact fun y=>y.un.elim
  | cons v vs=>exact fun y=>(ih y.un.2).elim fun kvs q=>a.2.elim fun t e=>⟨(_,_)::kvs,⟨by rw[e];exact strKind_is pr w _ _,rfl,q.1⟩,.cons ⟨⟨a.1,rfl⟩,y.un.1⟩ q.2.1,congrArg _ q.2.2⟩
theorem keys_nodup (hl:∀n∈ns,n<texts.length) (hn:ns.Nodup):(ns.map strAt).Nodup:=by
 induction ns with
 | nil=>exact .nil
 | cons n ns ih=>exact have q:=List.nodup_cons.mp hn;List.nodup_cons.mpr ⟨fun m=>(List.mem_map.mp m).elim fun i hi=>q.1 (strAt_inj (hl i (.tail _ hi.1)) (hl n (.head _)) hi.2▸hi.1),ih (fun i hi=>hl i (.tail _ hi)) q.2⟩
theorem kp_lt {ns:List Nat}{ps:List (Value×Value)}(x:All2 KP ns ps):∀n∈ns,n<texts.length:=by
 induction x with
 | nil=>exact fun J h=>(by contradiction)
 | cons a J ih=>exact fun n hn=>(List.mem_cons.mp hn).elim (fun e=>e▸a.1) (ih n)
abbrev eDict:Obj:={ cls:=.type "dict",data:=.dict #[] }
theorem dict0 {P:Type} [DecidableEq P] {pr:Program}{w:World}{kd:KeyKind pr w P}{H:Heap}{d:Addr}(e:H.get? d=some eDict):H.DictOf kd d []:=⟨_,#[],0,e,⟨rfl,rfl,rfl⟩,rfl,(fun J h=>nomatch (Array.mem_def.mp h)),.nil,List.nodup_nil⟩
theorem se_dict (hB:∀(Γ':Cf),Γ'.cx=Γ.cx→SP Γ' ks ns es l (.dict ns::r)) (hk:ks.all (·.isSome)=true) (hl:ks.length=es.length) (hz:es=[]→l=.dict ns::r) (hns:ns.length=es.length) (hn:ns.Nodup) (h15:ns.length≤15):SE Γ (.Dict ks es pos) l r:=by
 intro K fr st us h σ Q g x k
 cases ns with
 | nil=>
  have e1:=List.length_eq_zero_iff.mp hns.symm
  subst e1
  have e2:=List.length_eq_zero_iff.mp hl
  subst e2
  rw[hz rfl]at x
  exact wpAny_Dict_empty (Kq.new (C.to x (Kv.q k g g.vs)) g.S (none_size _) (push_keeps _ _) (.dictI rfl (size_sys g.S) (Nat.zero_le _) (dict0 (Heap.get?_push_size _ rfl)) .nil))
 | cons n ns=>
  refine wpAny_Dict_walk (knd:=strKind Γ.pr Γ.w) hk hl (fun z=>by rw[z]at hl;exact nomatch hl.trans hns.symm) (hl.trans hns.symm▸h15) ?_
  have g0:=At0.more (n:=σ.s.toks) g (push_keeps _ eDict)
  have nf:=g.S.nf (none_size _)
  have g1:=At0.also (k:=fun b o=>b=σ.H.objs.size∧o=eDict) (nk:=fun b o q=>have z:=g.fresh (none_size _);q.1▸⟨z.nr,z.nl⟩) g0 (by rintro b o ⟨rfl,rfl⟩;exact⟨Heap.get?_push_size _ rfl,nf⟩)
  refine hB (Γ.also g0 _ _) rfl pos K fr st us h _ _ g1 x fun vs ps h' σ' e1 e2 hp g' x'=>?_
  have y:=revs (e1.trans (e2.symm.trans (List.length_map _).symm)) g'.vs
  refine(carries_k (w:=Γ.w) (pr:=Γ.pr) hp y.1).elim fun kvs c=>?_
  have kd:=g'.kp _ _ (.inr ⟨rfl,rfl⟩)
  refine⟨kvs,c.1,dict0 kd.1,fun H' hd' hs'=>?_⟩
  rw[merged_nil_of_nodup _ (c.2.2▸keys_nodup (kp_lt hp) hn)]at hd'
  have a:=adopt (s₂:={ σ'.s with heap:=H',toks:=σ'.s.toks+ps.length }) g.S ((g.S.more (n:=σ.s.toks) (push_keeps _ eDict)).2.trans g0.S.hr g'.tr) g'.S (none_size _) kd.2 (fun b o nb q=>(hs'.2 b nb).trans q) (.dictS rfl (size_sys g.S) (by rw[List.length_zip];exact Nat.le_trans (Nat.min_le_left _ _) (Nat.le_trans h15 (Nat.le_of_ble_eq_true rfl))) hd' (c.2.1.imp fun J J z=>⟨z.1,z.2.mono⟩)) rfl rfl
  exact k _ _ _ _ (g.to a.1 a.2.1 (.cons a.2.2 y.2.mono)) (C.to (pN_rev (e1.trans hns.symm) x') fun J J z=>z)
end
end Mine
namespace Mine
open PySem PySem.W PyProof.Rows PySem.SeqAt PySem.EqNone PySem.MeetsSeq PySem.Calls
inductive IR (ν:Nu) (H:Heap) (it:Addr):IS→List Addr→Prop where
 | seq {i k:Nat} {p:Addr×Addr} (e:ν[i]?=some p) (x:H.IsListIter it p.1 k):IR ν H it (.seq i k) [it]
 | rng {c:Int} {n:Nat} {d:Int} (x:IsRangeIter H it c n d):IR ν H it (.rng c n d) [it]
 | zip {i j k:Nat} {TI TO i1 i2:Addr} {p q:Addr×Addr} {a b:Value} (e1:ν[i]?=some p) (e2:ν[j]?=some q) (D:ZipApart it TI TO i1 i2 p.1 q.1) (z:IsZip H it TI TO .none) (x1:IsPair H TI (.ref i1) (.ref i2)) (x2:IsPair H TO a b) (l1:H.IsListIter i1 p.1 k) (l2:H.IsListIter i2 q.1 k):IR ν H it (.zip i j k) [it,TI,TO,i1,i2]
 | enum {i k:Nat} {e':Addr} {p:Addr×Addr} {old:Value} (ne:it≠e') (e:ν[i]?=some p) (x:IsEnum H it e' k old) (l:H.IsListIter e' p.1 k):IR ν H it (.enum i k) [it,e']
section
variable {ν ν':Nu}{H H':Heap}{it:Addr}{is:IS}{ow:List Addr}
theorem li_keeps {a l:Addr}{i:Nat}(x:H.IsListIter a l i) (e:∀o,H.get? a=some o→H'.get? a=some o):H'.IsListIter a l i:=x.elim fun o y=>⟨o,e o y.1,y.2⟩
theorem IR.keeps (x:IR ν H it is ow) (k:∀b∈ow,∀o,H.get? b=some o→H'.get? b=some o) (n:∀(i:Nat) (p:Addr×Addr),ν[i]?=some p→ν'[i]?=some p):IR ν' H' it is ow:=by
 cases x with
 | seq e x=>exact .seq (n _ _ e) (li_keeps x (k _ (.head _)))
 | rng x=>exact .rng (k _ (.head _) _ x)
 | zip e1 e2 D z x1 x2 l1 l2=>exact .zip (n _ _ e1) (n _ _ e2) D (k _ (.head _) _ z) (k _ (.tail _ (.head _)) _ x1) (k _ (.tail _ (.tail _ (.head _))) _ x2) (li_keeps l1 (k _ (.tail _ (.tail _ (.tail _ (.head _)))))) (li_keeps l2 (k _ (.tail _ (.tail _ (.tail _ (.tail _ (.head _)))))))
 | enum ne e x l=>exact .enum ne (n _ _ e) (k _ (.head _) _ x) (li_keeps l (k _ (.tail _ (.head _))))
theorem li_live {a l:Addr}{i:Nat}(x:H.IsListIter a l i):H.get? a≠none:=x.elim fun o y e=>nomatch y.1.symm.trans e
theorem some_live {a:Addr}{o:Obj}(x:H.get? a=some o):H.get? a≠none:=fun e=>nomatch x.symm.trans e
theorem all_nil {P:Addr→Prop}:∀b∈([]:List Addr),P b:=fun J h=>(by cases h)
theorem all_cons {P:Addr→Prop}{a:Addr}{l:List Addr}(x:P a) (y:∀b∈l,P b):∀b∈a::l,P b:=fun b h=>(List.mem_cons.mp h).elim (fun e=>e▸x) (y b)
theorem IR.live (x:IR ν H it is ow):∀b∈ow,H.get? b≠none:=by
 cases x with
 | seq e x=>exact all_cons (li_live x) all_nil
 | rng x=>exact all_cons (some_live x) all_nil
 | zip e1 e2 D z x1 x2 l1 l2=>exact all_cons (some_live z) (all_cons (some_live x1) (all_cons (some_live x2) (all_cons (li_live l1) (all_cons (li_live l2) all_nil))))
 | enum ne e x l=>exact all_cons (some_live x) (all_cons (li_live l) all_nil)
end
inductive ItemR (ν:Nu) (H:Heap):List V→Value→Prop where
 | one {a:V} {v:Value} (r:VR ν a v):ItemR ν H [a] v
 | two {x y:V} {T:Addr} {u1 u2:Value} (t:IsPair H T u1 u2) (r1:VR ν x u1) (r2:VR ν y u2):ItemR ν H [x,y] (.ref T)
inductive TgN:Expr→Nat→Prop where
 | one {x:Str} {p:Pos}:TgN (.Name x p) 1
 | two {es:List Expr} {k:Nat} {p:Pos}:TgN (.Tuple es k p) 2
section
variable {Γ:Cf0}{fr:Fr}{st:List V}{us:List Value}{h:Hp}{σ:Wd}{is:IS}{it:Addr}{ow:List Addr}{tg:Expr}{n:Nat}{E E':Value→Shared→Prop}{QN:Shared→Prop}{QS:Value→Shared→Prop}{NN:Prop}{KK:List V→IS→Prop}{ν:Nu}{vs:List V}{its:Array Value}{k i j:Nat}{G:Prop}
theorem get_k (x:VRs ν vs its.toList) (a:vs[k]?=none→its[k]?=none→G) (b:∀v u,vs[k]?=some v→its[k]?=some u→VR ν v u→G):G:=by
 cases e:vs[k]? with
 | none=>exact a e (Array.getElem?_eq_none (by rw[← Array.length_toList,← x.length];exact List.getElem?_eq_none_iff.mp e))
 | some v=>exact(All2.get x e).elim fun u q=>b v u e (Array.getElem?_toList▸q.1) q.2
structure Nx (Γ:Cf0) (fr:Fr) (st:List V) (us:List Value) (h:Hp) (σ:Wd) (it:Addr) (ow:List Addr) (n:Nat) (QN:Shared→Prop) (QS:Value→Shared→Prop) (NN:Prop) (KK:List V→IS→Prop):Prop where
 stop:∀H' tk,At0 Γ fr st us h (σ.to H' tk)→NN→QN { σ.s with heap:=H',toks:=tk }
 turn:∀vs is' ws H' tk v,At0 Γ fr st us h (σ.to H' tk)→IR σ.ν H' it is' ow→(∀b∈ow,Ows Γ σ.ν b)→ItemR σ.ν H' vs v→unpackN n vs h=some ws→KK ws is'→QS v { σ.s with heap:=H',toks:=tk }
abbrev wX (n:Nat) (h:Hp) (NN:Prop) (KK:List V→IS→Prop) (r:Option (Option (List V×IS))):Prop:=wO' r fun r=>match r with
 | none=>NN
 | some (vs,is')=>wO (unpackN n vs h) fun ws=>KK ws is'
theorem seqOf_is (e:seqOf h i=some vs):h[i]?=some (.list vs):=by
 have k:∀{o:Option O},(match o with | some (.list vs)=>some vs | _=>none)=some vs→o=some (.list vs):=fun{o} e=>by
  cases o with
  | none=>exact(by contradiction)
  | some o=>cases o with
   | list J=>exact congrArg (fun x=>x.map O.list) e
   | _=>exact(by contradiction)
 exact k e
theorem nx_seq {m:Nat}(x:wX n h NN KK (nextI (.seq i m) h)) (k:∀vs,h[i]?=some (.list vs)→wX n h NN KK (match vs[m]? with | some v=>some (some ([v],.seq i (m+1))) | none=>some none)→G):G:=by
 have e:nextI (.seq i m) h=(seqOf h i).bind fun vs=>match vs[m]? with | some v=>some (some ([v],.seq i (m+1))) | none=>some none:=by
  unfold nextI;dsimp only;cases seqOf h i<;>rfl
 rw[e]at x
 exact(O_bind x).of fun vs e x=>k vs (seqOf_is e) x
theorem nx_enum {m:Nat}(x:wX n h NN KK (nextI (.enum i m) h)) (k:∀vs,h[i]?=some (.list vs)→wX n h NN KK (match vs[m]? with | some v=>some (some ([.int m,v],.enum i (m+1))) | none=>some none)→G):G:=by
 have e:nextI (.enum i m) h=(seqOf h i).bind fun vs=>match vs[m]? with | some v=>some (some ([.int m,v],.enum i (m+1))) | none=>some none:=by
  unfold nextI seqOf
  dsimp only
  cases h[i]? with
  | none=>rfl
  | some o=>cases o<;>rfl
 rw[e]at x
 exact(O_bind x).of fun vs e x=>k vs (seqOf_is e) x
theorem nx_zip {m:Nat}(x:wX n h NN KK (nextI (.zip i j m) h)) (k:∀vs ws,h[i]?=some (.list vs)→h[j]?=some (.list ws)→wX n h NN KK (match vs[m]?,ws[m]? with | some v,some w=>some (some ([v,w],.zip i j (m+1))) | _,_=>some none)→G):G:=by
 have e:nextI (.zip i j m) h=(seqOf h i).bind fun vs=>(seqOf h j).bind fun ws=>match vs[m]?,ws[m]? with | some v,some w=>some (some ([v,w],.zip i j (m+1))) | _,_=>some none:=by
  unfold nextI seqOf
  dsimp only
  cases h[i]? with
  | none=>rfl
  | some o=>cases o with
   | list vs=>cases h[j]? with
    | none=>rfl
    | some o=>cases o<;>rfl
   | _=>rfl
 rw[e]at x
 exact(O_bind x).of fun vs e x=>(O_bind x).of fun ws e2 x=>k vs ws (seqOf_is e) (seqOf_is e2) x
theorem two_no {a b:V}{K:List V→Prop}(x:wO' (unpackN 1 [a,b] h) K):G:=by
 have:unpackN 1 [a,b] h=none:=by
  unfold unpackN
  refine(if_neg (fun e:2=1=>absurd e (by decide))).trans ?_
  cases a<;>rfl
 rw[this]at x;exact x.elim
theorem At0.mvs {H':Heap}{tk:Nat}(g:At0 Γ fr st us h σ) (O:∀b∈ow,Ows Γ σ.ν b) (k:∀b o,b∉ow→σ.H.get? b=some o→H'.get? b=some o):At0 Γ fr st us h (σ.to H' tk):=
 g.mv fun b o e=>(Classical.em (b∈ow)).elim (fun q=>.inl (O b q)) fun q=>.inr (k b o q e)
theorem list_at {Γ:Ctx}{p:Addr×Addr}(S:St Γ h σ) (e:σ.ν[i]?=some p) (ho:h[i]?=some (.list vs)) (k:∀its,σ.H.IsList p.1 its→VRs σ.ν vs its.toList→G):G:=
 S.hr.get ho fun q hq y=>match y with
  | .list _ _ c d=>k _ (Option.some.inj (e.symm.trans hq)▸isList_of c) d
theorem l_next (g:At0 Γ fr st us h σ) (I:IR σ.ν σ.H it is ow) (O:∀b∈ow,Ows Γ σ.ν b) (ht:TgN tg n) (x:wX n h NN KK (nextI is h)) (N:Nx Γ fr st us h σ it ow n QN QS NN KK) {Q:Option Value→Shared→Prop}
  (q0:∀s,QN s→Q none s) (q1:∀v s,Γ.wp (letOwnedTupleGo tg (.ref it) v) (fun J s₂=>QS v s₂) E' s→Q (some v) s):Γ.wp (pyNext (.ref it)) Q E σ.s:=by
 have nh:∀{b a:Addr} {l:List Addr},b∉a::l→b≠a:=fun q z=>q (z▸.head _)
 have nt:∀{b a:Addr} {l:List Addr},b∉a::l→b∉l:=fun q z=>q (.tail _ z)
 have turn:∀{vs is' v} {H':Heap} {tk:Nat},(∀b o,b∉ow→σ.H.get? b=some o→H'.get? b=some o)→IR σ.ν H' it is' ow→ItemR σ.ν H' vs v→wX n h NN KK (some (some (vs,is')))→QS v { σ.s with heap:=H',toks:=tk }:=
  fun{vs is' v H' tk} k I' it' x=>(wO.to x fun J y=>y).of fun ws e y=>N.turn vs is' ws H' tk v (g.mvs (tk:=tk) O k) I' O it' e y
 have stop:∀{H':Heap} {tk:Nat},(∀b o,b∉ow→σ.H.get? b=some o→H'.get? b=some o)→wX n h NN KK (some none)→Q none { σ.s with heap:=H',toks:=tk }:=fun{H' tk} k x=>q0 _ (N.stop H' tk (g.mvs (tk:=tk) O k) x)
 cases I with
 | @seq i k p e hit=>
  refine nx_seq x fun vs ho x=>list_at g.S e ho fun its hl hv=>get_k (k:=k) hv (fun e1 e2=>?_) fun v u e1 e2 r=>?_
  ·rw[e1]at x
   exact wpAny_pyNext_list_end Γ.handled hit hl e2 fun h' he=>stop (fun b o q z=>he b o (nh q) z) x
  ·rw[e1]at x
   exact wpAny_pyNext_list_item hit hl e2 fun h' hit' hs'=>q1 _ _ (letGo_listiter hit' (turn (fun b o q z=>(hs'.2 b (nh q)).trans z) (.seq e hit') (.one r) x))
 | @rng c m d hit=>
  cases m with
  | zero=>exact wpAny_pyNext_range_end Γ.handled hit (Int.le_refl _) fun h' he=>stop (fun b o q z=>he b o (nh q) z) x
  | succ m=>
   refine wpAny_pyNext_range_item hit (Int.natCast_pos.mpr (Nat.succ_pos m)) fun h' hit' hs'=>?_
   cases ht with
   | one=>exact q1 _ _ (wpAny_pure (turn (fun b o q z=>(hs'.2 b (nh q)).trans z) (.rng (by rwa[Int.natCast_succ,Int.add_sub_cancel]at hit')) (.one (a:=.int c) ⟨_,rfl⟩) x))
   | two=>exact((wO.to x fun J y=>y).of fun ws e y=>(by contradiction))
 | @zip i j k TI TO i1 i2 p q a b e1 e2 D hz hTI hTO h1 h2=>
  refine nx_zip x fun vs ws ho1 ho2 x=>list_at g.S e1 ho1 fun us hl1 hv1=>list_at g.S e2 ho2 fun ws' hl2 hv2=>?_
  have endd:(us[k]?=none∨ws'[k]?=none)→wX n h NN KK (some none)→Γ.wp (pyNext (.ref it)) Q E σ.s:=fun he x=>wpAny_pyNext_zip_end Γ.handled D hz hTI hTO h1 h2 hl1 hl2 he fun h' hk=>stop (fun b o q z=>hk b o (nh q) (nh (nt (nt q))) (nh (nt (nt (nt q)))) (nh (nt (nt (nt (nt q))))) z) x
  refine get_k (k:=k) hv1 (fun e1 e2=>?_) fun v u a1 a2 r1=>get_k (k:=k) hv2 (fun e1 e2=>?_) fun w u' b1 b2 r2=>?_
  ·rw[e1]at x;exact endd (.inl e2) x
  ·rw[a1,e1]at x;exact endd (.inr e2) x
  ·rw[a1,b1]at x
   cases ht with
   | one=>exact two_no (wO.to x fun J y=>y)
   | two=>
    refine wpAny_pyNext_zip_item D hz hTI hTO h1 h2 hl1 hl2 a2 b2 fun h' hz' hTO' h1' h2' hT' J hk=>q1 _ _ (wpAny_letOwnedTupleGo_zip hz' fun h'' hz'' hs'=>?_)
    have hzT:it≠σ.H.objs.size:=Nat.ne_of_lt (Heap.lt_size hz)
    have kp:∀c o,c≠it→h'.get? c=some o→h''.get? c=some o:=fun c o n e=>(hs'.2 c n).trans e
    exact turn (fun b o q z=>kp b o (nh q) (hk b o (nh q) (nh (nt (nt q))) (nh (nt (nt (nt q)))) (nh (nt (nt (nt (nt q))))) z))
     (.zip e1 e2 D hz'' (kp _ _ D.TIz (hk _ _ D.TIz D.TITO D.TIi1 D.TIi2 hTI)) (kp _ _ D.TOz hTO') (li_keeps h1' fun o=>kp _ o D.i1z) (li_keeps h2' fun o=>kp _ o D.i2z)) (.two (kp _ _ hzT.symm hT') r1 r2) x
 | @enum i k e' p old hne e he hit=>
  refine nx_enum x fun vs ho x=>list_at g.S e ho fun its hl hv=>get_k (k:=k) hv (fun e1 e2=>?_) fun v u e1 e2 r=>?_
  ·rw[e1]at x
   exact wpAny_pyNext_enum_end Γ.handled he hit hl e2 fun h' hk=>stop (fun b o q z=>hk b o (nh (nt q)) z) x
  ·rw[e1]at x
   cases ht with
   | one=>exact two_no (wO.to x fun J y=>y)
   | two=>
    refine wpAny_pyNext_enum_item he hit hl e2 hne fun h' he' hit' hT' J hk=>q1 _ _ (wpAny_letOwnedTupleGo_enum he' fun h'' hz'' hs'=>?_)
    have hzT:it≠σ.H.objs.size:=Nat.ne_of_lt (Heap.lt_size he)
    have kp:∀c o,c≠it→h'.get? c=some o→h''.get? c=some o:=fun c o n e=>(hs'.2 c n).trans e
    exact turn (fun b o q z=>kp b o (nh q) (hk b o (nh q) (nh (nt q)) z)) (.enum hne e hz'' (li_keeps hit' fun o=>kp _ o hne.symm)) (.two (x:=.int k) (kp _ _ hzT.symm hT') ⟨_,rfl⟩ r) x
end
end Mine
namespace Mine
open PySem PySem.W PyProof.Rows PySem.SeqAt PySem.EqNone PySem.MeetsSeq PySem.Calls
theorem rs_one (n:Int):Builtin.Range.rangeSize 0 n 1=(n.toNat:Int):=by
 rw[rangeSize_one];split<;>lia
theorem rs_down (n:Int):Builtin.Range.rangeSize n (-1) (-1)=((n+1).toNat:Int):=by
 unfold Builtin.Range.rangeSize
 simp only[show¬((-1:Int)>0) by decide,if_false,Int.neg_neg,Int.ediv_one]
 split<;>lia
theorem small_dn {n:Int}(h:n.natAbs≤100000):Builtin.Range.small n (-1) (-1)=true:=by
 have e:=rs_down n
 unfold Builtin.Range.small
 rw[e]
 simp only[Builtin.Range.rangeFitsLong,Bool.and_eq_true,Bool.or_eq_true,decide_eq_true_eq,beq_iff_eq,show¬((-1:Int)>0) by decide,if_false]
 lia
inductive IV (ν:Nu) (H:Heap) (h:Hp):IS→Value→List Addr→Prop where
 | seq {i:Nat} {p:Addr×Addr} {vs:List V} (e:ν[i]?=some p) (ho:h[i]?=some (.list vs)):IV ν H h (.seq i 0) (.ref p.1) []
 | rng {a:Int} {n:Nat} {d b:Int} {r:Addr} {t u t':Nat} (x:IsRange H r a b d t u t') (s:Builtin.Range.small a b d=true) (z:Builtin.Range.rangeSize a b d=(n:Int)):IV ν H h (.rng a n d) (.ref r) []
 | it {is:IS} {it:Addr} {ow:List Addr} (x:IR ν H it is ow):IV ν H h is (.ref it) ow
section
variable {Γ:Cf0}{fr:Fr}{st:List V}{us:List Value}{h:Hp}{σ:Wd}{is:IS}{it:Addr}{ow:List Addr}{E Q:Value→Shared→Prop}{v:Value}{G:Prop}{K:IS→Hp→Prop}{a b d:V}
theorem pyIter_self {A:Around}{pr:Program}{w:World}{ν:Nu}{s:Shared}(I:IR ν s.heap it is ow) (k:Q (.ref it) s):wpAny (model pr w) A (pyIter (.ref it)) Q E s:=by
 cases I with
 | seq e x=>exact wpAny_pyIter_listiter x k
 | rng x=>exact wpAny_pyIter_rangeiter x k
 | zip e1 e2 D z x1 x2 l1 l2=>exact wpAny_pyIter_zip z k
 | enum ne e x l=>exact wpAny_pyIter_enum x k
theorem l_iter (g:At0 Γ fr st us h σ) (I:IV σ.ν σ.H h is v ow) (O:∀b∈ow,Ows Γ σ.ν b) (k:∀it ow' σ',At0 Γ fr st us h σ'→IR σ'.ν σ'.H it is ow'→(∀b∈ow',Ows Γ σ'.ν b)→Q (.ref it) σ'.s):Γ.wp (pyIter v) Q E σ.s:=by
 have o1:∀b∈[σ.H.objs.size],Ows Γ σ.ν b:=all_cons (g.fresh (none_size _)) all_nil
 cases I with
 | seq e ho=>exact list_at g.S e ho fun its hl hv=>wpAny_pyIter_list hl (k _ _ (σ.to _ _) (g.more (push_keeps _ _)) (.seq e ⟨_,Heap.get?_push_size _ rfl,rfl,rfl⟩) o1)
 | rng x s z=>exact wpAny_pyIter_range x s (k _ _ (σ.to _ _) (g.more (push_keeps _ _)) (.rng (by rw[z];exact Heap.get?_push_size _ rfl)) o1)
 | it x=>exact pyIter_self x (k _ _ σ g x O)
theorem it_inv (x:C' (itR a h) K) (k:∀i vs,a=.ref i→h[i]?=some (.list vs)→K (.seq i 0) h→G):G:=by
 cases a with
 | ref i=>exact C_if x fun q y=>(Option.isSome_iff_exists.mp q).elim fun vs e=>k i vs rfl (seqOf_is e) y
 | _=>exact x.elim
theorem rng_inv (x:C' (rngR a h) K) (k:∀n,a=.int n→n.natAbs≤lim→K (.rng 0 n.toNat 1) h→G):G:=by
 cases a with
 | int n=>exact C_if x fun q y=>k n rfl q y
 | _=>exact x.elim
theorem rng3_inv (x:C' (rng3R a b d h) K) (k:∀n,a=.int n→b=.int (-1)→d=.int (-1)→n.natAbs≤lim→K (.rng n (n+1).toNat (-1)) h→G):G:=by
 cases a with
 | int n=>cases b with
  | int e=>cases d with
   | int s=>exact C_if x fun q y=>k n rfl (q.1▸rfl) (q.2.1▸rfl) q.2.2 y
   | _=>exact x.elim
  | _=>exact x.elim
 | _=>exact x.elim
theorem zip_inv (x:C' (zipR a b h) K) (k:∀i j vs ws,a=.ref i→b=.ref j→h[i]?=some (.list vs)→h[j]?=some (.list ws)→K (.zip i j 0) h→G):G:=by
 cases a with
 | ref i=>cases b with
  | ref j=>exact C_if x fun q y=>and_ q fun q1 q2=>(Option.isSome_iff_exists.mp q1).elim fun vs e=>(Option.isSome_iff_exists.mp q2).elim fun ws e'=>k i j vs ws rfl rfl (listOf_inv e) (listOf_inv e') y
  | _=>exact x.elim
 | _=>exact x.elim
theorem enum_inv (x:C' (enumR a h) K) (k:∀i vs,a=.ref i→h[i]?=some (.list vs)→K (.enum i 0) h→G):G:=by
 cases a with
 | ref i=>exact C_if x fun q y=>(Option.isSome_iff_exists.mp q).elim fun vs e=>k i vs rfl (listOf_inv e) y
 | _=>exact x.elim
end
abbrev Ki (Γ:Cf) (fr:Fr) (st:List V) (us:List Value) (Φ:List V→IS→Hp→Prop) (Q:Value→Shared→Prop):Prop:=∀v is ow h' σ',At Γ fr st us h' σ'→IV σ'.ν σ'.H h' is v ow→(∀b∈ow,Ows Γ.toCf0 σ'.ν b)→Φ st is h'→Q v σ'.s
noncomputable def SI (Γ:Cf) (e:Expr) (l:List I) (f:Mk→List I):Prop:=∀(K:Kt) (fr:Fr) (st:List V) (us:List Value) (h:Hp) (σ:Wd) (Q:Value→Shared→Prop) (Φ:List V→IS→Hp→Prop),(∀m h st,go Γ.c Γ.P K (f m) fr h st=wK m st h Φ)→
 At Γ fr st us h σ→go Γ.c Γ.P K l fr h st→Ki Γ fr st us Φ Q→Γ.wp (eval e Γ.env) Q Γ.E σ.s
section
variable {Γ:Cf}{K:Kt}{fr:Fr}{st:List V}{us:List Value}{h h':Hp}{σ σ':Wd}{Q:Value→Shared→Prop}{QL:List Value→Shared→Prop}{l r:List I}{pos np:Pos}{e:Expr}{es:List Expr}{x:Str}{f:Mk→List I}{Φ:List V→IS→Hp→Prop}{n:Nat}{m:Mk}
theorem si_plain (he:SE Γ e l (f .seq)):SI Γ e l f:=fun K fr st us h σ Q Φ hΦ g x k=>he K fr st us h σ Q g x fun a v h' σ' g' x'=>
 it_inv (C.to ((hΦ .seq h' (a::st)).mp x':C (itR a h') (Φ st)) fun J J z=>z) fun i vs ea ho y=>by
  subst ea
  exact g'.vs.un.1.elim fun p q=>q.2▸k _ _ _ _ _ (g'.pop g'.vs.un.2) (.seq q.1 ho) all_nil y
@[elab_as_elim] theorem lsucc {α:Type}{n:Nat}{vs:List α}{P:List α→Prop}(e:vs.length=n+1) (k:∀a r,r.length=n→P (a::r)):P vs:=by
 cases vs with
 | nil=>exact(by contradiction)
 | cons a r=>exact k a r (Nat.succ.inj e)
@[elab_as_elim] theorem lzero {α:Type}{vs:List α}{P:List α→Prop}(e:vs.length=0) (k:P []):P vs:=(List.length_eq_zero_iff.mp e)▸k
theorem Ks.one (k:∀a v h' σ',At Γ fr (a::st) (v::us) h' σ'→go Γ.c Γ.P K r fr h' (a::st)→QL [v] σ'.s):Ks' Γ fr st us K r 1 QL:=fun vs ws h' σ' e1 e2=>lsucc e1 fun a r e1=>lzero e1 (lsucc e2 fun v s e2=>lzero e2 (k a v h' σ'))
theorem Ks.more {n:Nat}(k:∀(a:V) (v:Value) (vs:List V) (ws:List Value) (h':Hp) (σ':Wd),vs.length=n→ws.length=n→At Γ fr (vs.reverseAux (a::st)) (ws.reverseAux (v::us)) h' σ'→go Γ.c Γ.P K r fr h' (vs.reverseAux (a::st))→QL (v::ws) σ'.s):Ks' Γ fr st us K r (n+1) QL:=fun vs ws h' σ' e1 e2=>lsucc e1 fun a r e1=>lsucc e2 fun v s e2=>k a v r s h' σ' e1 e2
theorem Ks.two (k:∀a v b w h' σ',At Γ fr (b::a::st) (w::v::us) h' σ'→go Γ.c Γ.P K r fr h' (b::a::st)→QL [v,w] σ'.s):Ks' Γ fr st us K r 2 QL:=
 Ks.more fun a v vs ws h' σ' e1 e2=>Ks.one (QL:=fun l s=>QL (v::l) s) (k a v) vs ws h' σ' e1 e2
theorem Ks.three (k:∀a v b w d y h' σ',At Γ fr (d::b::a::st) (y::w::v::us) h' σ'→go Γ.c Γ.P K r fr h' (d::b::a::st)→QL [v,w,y] σ'.s):Ks' Γ fr st us K r 3 QL:=
 Ks.more fun a v vs ws h' σ' e1 e2=>Ks.two (QL:=fun l s=>QL (v::l) s) (k a v) vs ws h' σ' e1 e2
theorem boot_it:bootBuiltins "range"=some (.type "range")∧bootBuiltins "zip"=some (.type "zip")∧bootBuiltins "enumerate"=some (.type "enumerate"):=by decide +kernel
theorem mk_name {s:String}{id:String}(g:At Γ fr st us h σ) (hx:x=Str.ofString s) (hg:Γ.cx.glob x=true) (hb:s∈(["len","sum","max","min","sorted","list","abs","range","zip","enumerate"]:List String)) (hm:Str.ofString s≠"__name__") (hv:bootBuiltins (Str.ofString s)=some (.type id)) (hes:Es Γ es l r) (y:go Γ.c Γ.P K l fr h st)
  (k:Ks' Γ fr st us K r es.length fun ws s=>Γ.wp (call (.type id) ws) Q Γ.E s):Γ.wp (eval (.Call (.Name x np) es [] pos) Γ.env) Q Γ.E σ.s:=by
 subst hx
 exact glob_k hg fun hg hd=>wpAny_Call_ofName (name_builtin g hg hd (Γ.bis s hb) hm hv (callT hes g y k))
theorem si_mk (hm:mkOf x es.length=some m) (hg:Γ.cx.glob x=true) (hes:Es Γ es l (f m)):SI Γ (.Call (.Name x np) es [] pos) l f:=fun K fr st us h σ Q Φ hΦ g y k=>by
 refine ite_ hm (fun e hm=>ite_ hm (fun hn hm=>?_) fun J hm=>iff_ hm fun hn hm=>?_) fun J hm=>ite_ hm (fun e hm=>iff_ hm fun hn hm=>?_) fun J hm=>iff_ hm fun e hm=>iff_ hm fun hn hm=>?_
 all_goals
  cases hm
  refine mk_name g (beq_iff_eq.mp e) hg (by decide) (by decide) (by first | exact boot_it.1 | exact boot_it.2.1 | exact boot_it.2.2) hes y ?_
  rw[hn]
 ·refine Ks.one fun a v h' σ' g' x'=>rng_inv (C.to ((hΦ .rng h' (a::st)).mp x':C (rngR a h') (Φ st)) fun J J z=>z) fun n ea hn z=>?_
  subst ea
  exact g'.vs.un.1.elim fun t q=>q▸call_range_1 (k _ _ _ _ (σ'.to _ _) ((At0.more g' (push_keeps _ _)).pop g'.vs.un.2) (.rng (Heap.get?_push_size _ rfl) (small_one (by decide) (by simp) (by rw[lim_is]at hn;lia) (by rw[lim_is]at hn;lia)) (rs_one n)) all_nil z)
 ·refine Ks.three fun a v b w d u h' σ' g' x'=>rng3_inv (C.to ((hΦ .rng3 h' (d::b::a::st)).mp x':C (rng3R a b d h') (Φ st)) fun J J z=>z) fun n ea eb ed hn z=>?_
  subst ea eb ed
  obtain⟨⟨t3,rfl⟩,⟨t2,rfl⟩,⟨t1,rfl⟩,q⟩:=And.intro g'.vs.un.1 (And.intro g'.vs.un.2.un.1 (And.intro g'.vs.un.2.un.2.un.1 g'.vs.un.2.un.2.un.2))
  exact call_range_3 (by decide) (k _ _ _ _ (σ'.to _ _) ((At0.more g' (push_keeps _ _)).pop q) (.rng (Heap.get?_push_size _ rfl) (small_dn hn) (rs_down n)) all_nil z) (.inl (PyProof.noPylong_small (by rw[lim_is]at hn;lia)))
 ·refine Ks.two fun a v b w h' σ' g' x'=>zip_inv (C.to ((hΦ .zip h' (b::a::st)).mp x':C (zipR a b h') (Φ st)) fun J J z=>z) fun i j vs ws ea eb h1 h2 z=>?_
  subst ea eb
  refine g'.vs.un.2.un.1.elim fun p q1=>g'.vs.un.1.elim fun p' q2=>q1.2▸q2.2▸?_
  refine list_at g'.S q1.1 h1 fun its hl J=>list_at g'.S q2.1 h2 fun its' hl' J=>?_
  have a1:@LT.lt Nat _ p.1 σ'.H.objs.size:=hl.elim fun o e=>Heap.lt_size e.1
  have a2:@LT.lt Nat _ p'.1 σ'.H.objs.size:=hl'.elim fun o e=>Heap.lt_size e.1
  refine call_zip_2 hl hl' fun H' hz hTI hTO hi1 hi2 J hk=>?_
  refine k _ _ _ _ (σ'.to H' σ'.s.toks) ((At0.more g' hk).pop g'.vs.un.2.un.2) (.it (.zip q1.1 q2.1 ?_ hz hTI hTO hi1 hi2)) ?_ z
  ·constructor<;>(show @Ne Nat _ _;lia)
  ·have n (j:Nat):=g'.fresh (b:=σ'.H.objs.size+j) (above (Nat.le_add_right _ _))
   exact all_cons (n 4) (all_cons (n 2) (all_cons (n 3) (all_cons (n 0) (all_cons (n 1) all_nil))))
 ·refine Ks.one fun a v h' σ' g' x'=>enum_inv (C.to ((hΦ .enum h' (a::st)).mp x':C (enumR a h') (Φ st)) fun J J z=>z) fun i vs ea ho z=>?_
  subst ea
  refine g'.vs.un.1.elim fun p q=>q.2▸list_at g'.S q.1 ho fun its hl J=>?_
  refine call_enumerate_list hl fun H' he hit J hk=>?_
  refine k _ _ _ _ (σ'.to H' σ'.s.toks) ((At0.more g' hk).pop g'.vs.un.2) (.it (.enum (Nat.succ_ne_self _) q.1 he hit)) ?_ z
  have n (j:Nat):=g'.fresh (b:=σ'.H.objs.size+j) (above (Nat.le_add_right _ _))
  exact all_cons (n 1) (all_cons (n 0) all_nil)
end
end Mine
namespace Mine
open PySem PySem.W PyProof.Rows PySem.SeqAt PySem.EqNone PySem.MeetsSeq PySem.Calls
section
variable {Γ:Ctx}{σ:Wd}{env:Env}{ln cn:List Str}{lv cv lv' cv':Fr}{x y:Str}{k:Nat}{v:V}{u:Value}{Q:Unit→Shared→Prop}{E:Value→Shared→Prop}{H H':Heap}{a:Addr}{m:Str→Option Value}{o:Option Value}{names:List (Str×NameKind)}{acc:List (Str×Addr)}{ν:Nu}
theorem ns_cell (x:H.Ns a m) (y:H.IsCell a o):False:=by
 obtain⟨ob,es,ep,h1,h2,_⟩:=x
 obtain⟨ob',h3,h4⟩:=y
 cases h1.symm.trans h3
 exact nomatch h2.symm.trans h4
theorem ns_there (x:H.Ns a m):∃o,H.get? a=some o∧∀vs,o.data≠.fields vs:=x.elim fun o x=>x.elim fun es x=>x.elim fun ep x=>⟨o,x.1,fun vs e=>nomatch x.2.1.symm.trans e⟩
theorem cell_there {o:Option Value}(x:H.IsCell a o):∃o,H.get? a=some o∧∀vs,o.data≠.fields vs:=x.elim fun o x=>⟨o,x.1,fun vs e=>nomatch x.2.symm.trans e⟩
theorem FRel.storeL (R:FRel env ln lv cn cv σ.ν σ.H) (hk:env.scope.kind=.function) (hx:env.kindOf x=some .local) (r:VR σ.ν v u)
  (hl:∀(j:Nat) (y:Str) (v':V),ln[j]?=some y→lv'[j]?=some (some v')→(y=x∧v'=v)∨(y≠x∧lv[j]?=some (some v')))
  (hc:∀(j:Nat) (y:Str),cn[j]?=some y→(env.kindOf y=some .cell∨env.kindOf y=some .free)→cv'[j]?=cv[j]?)
  (d:∀H',(∀b,b≠env.locals→H'.get? b=σ.H.get? b)→(∃o,H'.get? env.locals=some o∧∀vs,o.data≠.fields vs)→FRel env ln lv' cn cv' σ.ν H'→Q () { σ.s with heap:=H',toks:=σ.s.toks+1 }):Γ.wp (storeName env x u) Q E σ.s:=
 R.loc.elim fun m y=>wpAny_storeName_local hx y.1 (fun H' hn hs=>by
  have keep:∀b,b≠env.locals→H'.get? b=σ.H.get? b:=hs.2
  have ck:∀{cc o},σ.H.IsCell cc o→H'.IsCell cc o:=fun z=>have ne:=fun e=>ns_cell y.1 (e▸z);z.elim fun ob z=>⟨ob,(keep _ ne).trans z.1,z.2⟩
  refine d H' keep (ns_there hn) ⟨⟨_,hn,fun j z v' h1 h2 h3=>(hl j z v' h1 h3).elim (fun e=>⟨u,if_pos e.1,e.2▸r⟩) fun e=>(y.2 j z v' h1 h2 e.2).imp fun u q=>⟨(if_neg e.1).trans q.1,q.2⟩⟩,fun j z h1 h2=>?_,R.outL,fun z cc hc=>?_,R.inj⟩
  ·exact(R.cel j z h1 h2).imp fun cc q=>q.imp fun o q=>⟨q.1,ck q.2.1,fun v' hv=>q.2.2 v' (hc j z h1 h2▸hv)⟩
  ·exact⟨(R.outC z cc hc).1.imp fun o q=>ck q,(R.outC z cc hc).2⟩) (by rw[hk];rfl)
theorem FRel.storeC (R:FRel env ln lv cn cv σ.ν σ.H) (hk:env.scope.kind=.function) (hx:env.kindOf x=some .cell) (hkx:cn[k]?=some x) (r:VR σ.ν v u)
  (hl:∀(j:Nat) (y:Str),ln[j]?=some y→env.kindOf y=some .local→lv'[j]?=lv[j]?)
  (hc:∀(j:Nat) (y:Str) (v':V),cn[j]?=some y→cv'[j]?=some (some v')→(y=x∧v'=v)∨(y≠x∧cv[j]?=some (some v')))
  (d:∀H' cc,env.cells.lookup x=some cc→(∀b,b≠cc→H'.get? b=σ.H.get? b)→(∃o,H'.get? cc=some o∧∀vs,o.data≠.fields vs)→FRel env ln lv' cn cv' σ.ν H'→Q () { σ.s with heap:=H' }):Γ.wp (storeName env x u) Q E σ.s:=by
 obtain⟨cc,o,g1,g2,g3⟩:=R.cel k x hkx (.inl hx)
 refine wpAny_storeName_cell hk hx g1 g2 fun H' hn hs=>?_
 have keep:∀b,b≠cc→H'.get? b=σ.H.get? b:=hs.2
 obtain⟨m,hm,q⟩:=R.loc
 have ne:env.locals≠cc:=fun z=>ns_cell hm (z▸g2)
 have ck:∀{c' o},c'≠cc→σ.H.IsCell c' o→H'.IsCell c' o:=fun ne z=>z.elim fun ob z=>⟨ob,(keep _ ne).trans z.1,z.2⟩
 refine d H' cc g1 keep (cell_there hn) ⟨⟨m,hm.at fun o ho=>(keep _ ne).trans ho,fun j y v' h1 h2 h3=>q j y v' h1 h2 (hl j y h1 h2▸h3)⟩,fun j y h1 h2=>?_,R.outL,fun y c' hc'=>?_,R.inj⟩
 ·by_cases e:y=x
  ·subst e
   exact⟨cc,_,g1,hn,fun v' hv=>(hc j y v' h1 hv).elim (fun e=>⟨u,rfl,e.2▸r⟩) fun e=>absurd rfl e.1⟩
  ·exact(R.cel j y h1 h2).imp fun c' z=>z.imp fun o z=>⟨z.1,ck (fun w=>e (R.inj y x cc (w▸z.1) g1)) z.2.1,fun v' hv=>(hc j y v' h1 hv).elim (fun w=>absurd w.1 e) fun w=>z.2.2 v' w.2⟩
 ·refine⟨?_,(R.outC y c' hc').2⟩
  by_cases e:c'=cc
  ·exact e▸⟨_,hn⟩
  ·exact(R.outC y c' hc').1.imp fun o z=>ck e z
noncomputable def cloL (env:Env):List (Str×NameKind)→List (Str×Addr)→List (Str×Addr)
 | [],acc=>acc
 | p::r,acc=>cloL env r (if p.2==.free then(p.1,(env.cells.lookup p.1).getD 0)::acc else acc)
theorem cloL0 {e a}:cloL e [] a=a:=rfl
theorem cloL1 {env p r acc}:cloL env (p::r) acc=cloL env r (if p.2==.free then(p.1,(env.cells.lookup p.1).getD 0)::acc else acc):=rfl
theorem closureFor_is {scope:Scope}(hf:∀p∈scope.names,p.2=.free→∃a,env.cells.lookup p.1=some a):closureFor scope env=pure (cloL env scope.names []):=by
 unfold closureFor
 dsimp only
 generalize ([]:List (Str×Addr))=acc
 generalize scope.names=names at hf
 induction names generalizing acc with
 | nil=>rfl
 | cons p r ih=>
  obtain⟨n,k⟩:=p
  rw[List.forIn_cons]
  simp only[cloL1]
  by_cases hk:k=.free
  ·subst hk
   obtain⟨a,ha⟩:=hf (n,.free) (.head _) rfl
   simp only[beq_self_eq_true,if_true,cellOf]
   rw[ha]
   exact ih _ (fun p hp=>hf p (.tail _ hp))
  ·have:(k==NameKind.free)=false:=beq_false_of_ne hk
   simp only[this,Bool.false_eq_true,if_false]
   exact ih _ (fun p hp=>hf p (.tail _ hp))
theorem cloL_ok (hf:∀p∈names,p.2=.free→∃a,env.cells.lookup p.1=some a) (hi:∀y a,acc.lookup y=some a→env.cells.lookup y=some a):(∀y a,(cloL env names acc).lookup y=some a→env.cells.lookup y=some a)∧∀y,((y,.free)∈names∨∃a,acc.lookup y=some a)→∃a,(cloL env names acc).lookup y=some a:=by
 induction names generalizing acc with
 | nil=>exact⟨hi,fun y h=>h.elim (by simp) id⟩
 | cons p r ih=>
  have ih:=fun acc=>ih (acc:=acc) fun q hq=>hf q (.tail _ hq)
  simp only[cloL0,cloL1]
  by_cases hk:p.2=.free
  ·obtain⟨a,ha⟩:=hf p (.head _) hk
   rw[if_pos (beq_iff_eq.mpr hk),ha]
   have lk:∀y,((p.1,a)::acc).lookup y=if y==p.1 then some a else acc.lookup y:=fun y=>by rw[List.lookup_cons];cases y==p.1<;>rfl
   have z:=ih ((p.1,a)::acc) fun y b e=>ite_ (lk y▸e) (fun h e=>by rw[show y=p.1 from beq_iff_eq.mp h];exact ha.trans e) fun J e=>hi y b e
   refine⟨z.1,fun y h=>z.2 y ?_⟩
   by_cases e:(y==p.1)=true
   ·exact .inr ⟨a,(lk y).trans (if_pos e)⟩
   ·exact h.imp (fun h=>(List.mem_cons.mp h).elim (fun h=>absurd (beq_iff_eq.mpr (congrArg (·.1) h)) e) id) fun h=>h.imp fun b q=>((lk y).trans (if_neg e)).trans q
  ·rw[if_neg (fun h=>hk (beq_iff_eq.mp h))]
   have z:=ih acc hi
   exact⟨z.1,fun y h=>z.2 y (h.imp (fun h=>(List.mem_cons.mp h).elim (fun h=>absurd (congrArg (·.2) h).symm hk) id) id)⟩
theorem relabel_lookup {c:Str→NameKind→Bool}:(names.map fun(n,k)=>if c n k then(n,NameKind.cell)else(n,k)).lookup y=(names.lookup y).map fun k=>if c y k then .cell else k:=by
 induction names with
 | nil=>rfl
 | cons p r ih=>
  have e:(if c p.1 p.2 then(p.1,NameKind.cell)else(p.1,p.2))=(p.1,if c p.1 p.2 then .cell else p.2):=by cases c p.1 p.2<;>rfl
  show List.lookup y ((if c p.1 p.2 then(p.1,NameKind.cell)else(p.1,p.2))::_)=_
  rw[e,List.lookup_cons,List.lookup_cons]
  cases q:y==p.1 with
  | false=>exact ih
  | true=>rw[beq_iff_eq.mp q];rfl
theorem lookup_mem {α:Type}{x:Str}{k:α}{l:List (Str×α)}:l.lookup x=some k→(x,k)∈l:=by
 induction l with
 | nil=>exact by simp
 | cons p r ih=>
  rw[List.lookup_cons]
  cases q:x==p.1 with
  | false=>exact fun h=>.tail _ (ih h)
  | true=>exact fun h=>by rw[beq_iff_eq.mp q,← Option.some.inj h];exact .head _
noncomputable abbrev cenvOf (sc:Scope) (C:Addr) (env:Env):Env:=compEnvC sc (cloL env sc.names []) C env
structure ScOk (cx:Cx) (sc:Scope) (ns:List Str):Prop where
 kind:sc.kind=.function
 noCell:∀x∈sc.names,x.2≠.cell
 loc:∀x∈sc.names,x.2=.local→sc.names.lookup x.1=some .local
 free:∀x∈sc.names,x.2=.free→cx.sc.names.lookup x.1=some .cell∧∃k:Nat,cx.slots[k]?=some x.1
 ns:∀n∈ns,sc.names.lookup n=some .local
theorem or_ne {a b:Bool}(x:(!a||b)=true) (h:a=true):b=true:=by
 subst h;exact x
theorem scopeOk_is {cx:Cx}{sc:Scope}{ns:List Str}(h:scopeOk cx sc ns=true):ScOk cx sc ns:=and_ h fun h h3=>and_ h fun h1 h2=>
 have h2:=List.all_eq_true.mp h2
 {
  kind:=beq_iff_eq.mp h1,
  noCell:=fun x hx=>and_ (h2 x hx) fun q J=>and_ q fun q J=>bne_iff_ne.mp q,
  loc:=fun x hx e=>and_ (h2 x hx) fun q J=>and_ q fun J q=>beq_iff_eq.mp (or_ne q (beq_iff_eq.mpr e)),
  free:=fun x hx e=>and_ (h2 x hx) fun J q=>and_ (or_ne q (beq_iff_eq.mpr e)) fun q q3=>and_ q fun J q2=>⟨beq_iff_eq.mp q2,(List.mem_iff_getElem?.mp (List.contains_iff_mem.mp q3))⟩,
  ns:=fun n hn=>beq_iff_eq.mp (List.all_eq_true.mp h3 n hn) }
section
variable {cx:Cx}{sc:Scope}{ns:List Str}{fr:Fr}{C:Addr}
theorem ScOk.cells (s:ScOk cx sc ns) (N:KindR cx.sc env) (R:FRel env ln lv cx.slots fr ν H):∀p∈sc.names,p.2=.free→∃a,env.cells.lookup p.1=some a:=fun p hp e=>
 have q:=s.free p hp e
 q.2.elim fun k h3=>(R.cel k p.1 h3 (.inl (N.cel _ q.1))).elim fun cc z=>z.elim fun o z=>⟨cc,z.1⟩
theorem cenv_kind (hk:env.scope.kind=.function):(cenvOf sc C env).kindOf x=(sc.names.lookup x).map fun k=>if(k==NameKind.free&&env.scope.kind==.function&&env.kindOf x==some .cell)then .cell else k:=relabel_lookup (c:=fun n k=>k==NameKind.free&&env.scope.kind==.function&&env.kindOf n==some .cell)
theorem ScOk.kindR (s:ScOk cx sc ns) (hk:env.scope.kind=.function) (N:KindR cx.sc env):KindR sc (cenvOf sc C env)where
 loc:=fun x q=>by rw[cenv_kind hk,q];rfl
 cel:=fun x q=>absurd rfl (s.noCell _ (lookup_mem q))
 free:=fun x q=>.inl (by
  rw[cenv_kind hk,q]
  exact congrArg some (if_pos (by rw[N.cel _ (s.free _ (lookup_mem q) rfl).1,hk];rfl)))
 glob:=fun x q=>by rw[cenv_kind hk,q];rfl
theorem ScOk.rel (s:ScOk cx sc ns) (hk:env.scope.kind=.function) (N:KindR cx.sc env) (R:FRel env ln lv cx.slots fr ν H) (hC:∃m,H.Ns C m) (hf:¬Foot ν C):FRel (cenvOf sc C env) ns [] cx.slots fr ν H:=by
 have cl:=cloL_ok (acc:=[]) (s.cells N R) fun J J h=>(by contradiction)
 refine⟨hC.imp fun m hm=>⟨hm,fun j x v J J q=>(by contradiction)⟩,fun j x h1 h2=>?_,hf,fun x cc q=>R.outC x cc (cl.1 _ _ q),fun x y cc q1 q2=>R.inj x y cc (cl.1 _ _ q1) (cl.1 _ _ q2)⟩
 rw[cenv_kind hk]at h2
 have hfree:sc.names.lookup x=some .free:=by
  cases q:sc.names.lookup x with
  | none=>rw[q]at h2;exact h2.elim (fun h=>(by contradiction)) fun h=>(by contradiction)
  | some kk=>
   rw[q]at h2
   have:=s.noCell _ (lookup_mem q)
   cases kk with
   | free=>rfl
   | cell=>exact absurd rfl this
   | _=>exact h2.elim (fun h=>nomatch h) fun h=>nomatch h
 have q:=s.free _ (lookup_mem hfree) rfl
 exact(R.cel j x h1 (.inl (N.cel _ q.1))).imp fun cc z=>z.imp fun o z=>⟨(cl.2 x (.inl (lookup_mem hfree))).elim fun a w=>w.trans ((cl.1 _ _ w).symm.trans z.1),z.2⟩
end
end
end Mine
namespace Mine
open PySem PySem.W PyProof.Rows PySem.SeqAt PySem.EqNone PySem.MeetsSeq PySem.Calls
section
variable {G:Prop}{e tg:Expr}{x:Str}{ns:List Str}{ν:Nu}{H:Heap}{h:Hp}{vs ws:List V}{v:Value}{Γ:Ctx}{σ:Wd}{a:V}{env:Env}{lv cv:Fr}{cn:List Str}{Q:Unit→Shared→Prop}{E:Value→Shared→Prop}
theorem nm_is:nmOf e=some x→∃p,e=.Name x p:=sh_c (C:=fun e s=>(match s with
 | .name x _=>some x
 | _=>none)=some x→∃p,e=.Name x p) (fun J h=>nomatch h) (fun s h=>by
  cases s with
  | name y p=>exact⟨p,Option.some.inj h▸rfl⟩
  | _=>exact(by contradiction)) e
theorem tg_is (h:tgNames e=some ns) (k1:∀x p,e=.Name x p→ns=[x]→G) (k2:∀x p y q k r,e=.Tuple [.Name x p,.Name y q] k r→ns=[x,y]→x≠y→G):G:=by
 refine sh_c (C:=fun e s=>(match s with
  | .name x _=>some [x]
  | .tup es _ _=>match es with
   | [a,b]=>(nmOf a).bind fun x=>(nmOf b).bind fun y=>if x==y then none else some [x,y]
   | _=>none
  | _=>none)=some ns→(∀x p,e=.Name x p→ns=[x]→G)→(∀x p y q k r,e=.Tuple [.Name x p,.Name y q] k r→ns=[x,y]→x≠y→G)→G) (fun J h=>nomatch h) (fun s h k1 k2=>?_) e h k1 k2
 cases s with
 | name y p=>exact k1 y p rfl (Option.some.inj h).symm
 | tup es k p=>cases es with
  | nil=>exact(by contradiction)
  | cons a es=>cases es with
   | nil=>exact(by contradiction)
   | cons b es=>cases es with
    | cons J J1=>exact(by contradiction)
    | nil=>exact bnd h fun x hx h=>bnd h fun y hy h=>iff' h fun ne h=>(nm_is hx).elim fun p ea=>(nm_is hy).elim fun q eb=>k2 x p y q k _ (by rw[ea,eb];rfl) (Option.some.inj h).symm fun e=>ne (beq_iff_eq.mpr e)
 | _=>exact(by contradiction)
theorem unp2 (hu:unpackN 2 [a] h=some ws) (k:∀t,a=.ref t→h[t]?=some (.tup ws)→ws.length=2→G):G:=by
 cases a with
 | ref t=>
  have e:unpackN 2 [.ref t] h=(match h[t]? with
   | some (.tup ws)=>if ws.length=2 then some ws else none
   | _=>none):=by unfold unpackN;exact if_neg (fun e:1=2=>absurd e (by decide))
  have hu:=e.symm.trans hu
  have k:=k t rfl
  generalize h[t]?=o at hu k
  cases o with
  | none=>exact(by contradiction)
  | some o=>cases o with
   | tup ws'=>exact iff_ hu fun hl e=>by cases e;exact k rfl hl
   | _=>exact(by contradiction)
 | _=>exact(by contradiction)
theorem item1 (I:ItemR ν H vs v) (hu:unpackN 1 vs h=some ws) (k:∀a,ws=[a]→VR ν a v→G):G:=by
 cases I with
 | @one a v r=>exact k a (Option.some.inj hu).symm r
 | two t r1 r2=>exact two_no (K:=fun J=>True) (by rw[hu];exact trivial)
theorem item2 (S:St Γ h σ) (I:ItemR σ.ν σ.H vs v) (hu:unpackN 2 vs h=some ws) (k:∀a b T u1 u2,ws=[a,b]→v=.ref T→σ.H.IsTuple T #[u1,u2]→VR σ.ν a u1→VR σ.ν b u2→G):G:=by
 cases I with
 | @one a v r=>
   refine unp2 hu fun t ea ho hl=>?_
   subst ea
   refine tup_at S ho r fun p its n eu hp J hg hv hz=>?_
   refine lsucc (P:=fun ws=>ws=ws→VRs σ.ν ws its.toList→(∀a b T u1 u2,ws=[a,b]→v=.ref T→σ.H.IsTuple T #[u1,u2]→VR σ.ν a u1→VR σ.ν b u2→G)→G) hl (fun a r hl=>lsucc hl fun b r hl=>lzero hl fun J hv k=>?_) rfl hv k
   exact cons_of hv fun u1 r e1 x1 hv=>one_of hv fun u2 e2 x2=>k a b p.1 u1 u2 rfl eu (by rw[show #[u1,u2]=its from(Array.toList_inj.mp (e1.trans (e2▸rfl))).symm];exact isTuple_of hg) x1 x2
 | @two x y T u1 u2 t r1 r2=>exact k x y T u1 u2 (Option.some.inj hu).symm rfl ⟨_,t,rfl,_,rfl⟩ r1 r2
theorem one_at {x y:Str}{a v':V}{lv:Fr}:∀(j:Nat),[x][j]?=some y→([some a]:Fr)[j]?=some (some v')→(y=x∧v'=a)∨(y≠x∧lv[j]?=some (some v'))
 | 0,h1,h2=>.inl ⟨(Option.some.inj h1).symm,(Option.some.inj (Option.some.inj h2)).symm⟩
 | j+1,h1,_=>(by contradiction)
theorem two_at0 {x y z:Str}{a v':V}{lv:Fr}:∀(j:Nat),[x,y][j]?=some z→([some a,none]:Fr)[j]?=some (some v')→(z=x∧v'=a)∨(z≠x∧lv[j]?=some (some v'))
 | 0,h1,h2=>.inl ⟨(Option.some.inj h1).symm,(Option.some.inj (Option.some.inj h2)).symm⟩
 | 1,_,h2=>nomatch (Option.some.inj h2)
 | j+2,h1,_=>(by contradiction)
theorem two_at1 {x y z:Str}{a b v':V}(ne:x≠y):∀(j:Nat),[x,y][j]?=some z→([some a,some b]:Fr)[j]?=some (some v')→(z=y∧v'=b)∨(z≠y∧([some a,none]:Fr)[j]?=some (some v'))
 | 0,h1,h2=>.inr ⟨fun e=>ne ((Option.some.inj h1).trans e),h2⟩
 | 1,h1,h2=>.inl ⟨(Option.some.inj h1).symm,(Option.some.inj (Option.some.inj h2)).symm⟩
 | j+2,h1,_=>(by contradiction)
theorem bind_tg (ht:tgNames tg=some ns) (hk:env.scope.kind=.function) (hloc:∀x∈ns,env.kindOf x=some .local) (R:FRel env ns lv cn cv σ.ν σ.H) (S:St Γ h σ) (I:ItemR σ.ν σ.H vs v) (hu:unpackN ns.length vs h=some ws)
  (d:∀H' tk,(∀b o,b≠env.locals→σ.H.get? b=some o→H'.get? b=some o)→(∃o,H'.get? env.locals=some o∧∀vs,o.data≠.fields vs)→FRel env ns (ws.map some) cn cv σ.ν H'→Q () { σ.s with heap:=H',toks:=tk }):Γ.wp (assign tg env v) Q E σ.s:=by
 refine tg_is ht (fun x p e1 e2=>?_) fun x p y q k r e1 e2 ne=>?_
 ·subst e1;subst e2
  exact item1 I hu fun a e r=>by
   subst e
   exact wpAny_assign_Name (R.storeL (lv':=[some a]) (cv':=cv) hk (hloc x (.head _)) r (fun j y v'=>one_at j) (fun J J J J=>rfl) fun H' hk' hn R'=>d H' _ (fun b o nb e=>(hk' b nb).trans e) hn R')
 ·subst e1;subst e2
  exact item2 S I hu fun a b T u1 u2 e ev hT r1 r2=>by
   subst e;subst ev
   refine wpAny_assign_Tuple Γ.handled hT rfl rfl fun h1 he1=>?_
   have k1:Kps σ.H h1:=fun b o q=>he1 b o (Nat.ne_of_lt (Heap.lt_size q)) q
   have R1:=R.keeps (H':=h1) .refl fun b o J q J=>Sl.refl (k1 b o q)
   refine assignInOrder_cons (wpAny_assign_Name (FRel.storeL (σ:=σ.to h1 σ.s.toks) (lv':=[some a,none]) (cv':=cv) R1 hk (hloc x (.head _)) r1 (fun j y v'=>two_at0 j) (fun J J J J=>rfl) fun H2 hk2 hn2 R2=>?_))
   refine assignInOrder_cons (wpAny_assign_Name (FRel.storeL (σ:=σ.to H2 (σ.s.toks+1)) (lv':=[some a,some b]) (cv':=cv) R2 hk (hloc y (.tail _ (.head _))) r2 (fun j y v'=>two_at1 ne j) (fun J J J J=>rfl) fun H3 hk3 hn3 R3=>?_))
   exact assignInOrder_nil (d H3 _ (fun b o nb e=>(hk3 b nb).trans ((hk2 b nb).trans (k1 b o e))) hn3 R3)
end
end Mine
namespace Mine
open PySem PySem.W PyProof.Rows PySem.SeqAt PySem.EqNone PySem.MeetsSeq PySem.Calls
structure Cm extends Cf0 where
 sc:Scope
 C:Addr
 ns:List Str
 D:Addr
 it:Addr
 ow:List Addr
 ok:ScOk cx sc ns
 nC:∀o,¬keep C o
 hcl:∀x c,(cloL env sc.names []).lookup x=some c→env.cells.lookup x=some c
 newC:b0.H.get? C=none
 lowC:h₀.get? C=none
 nrC:C∉framesOf fs
 nD:D∉ow
 CD:D≠C
noncomputable abbrev Cm.at(Γ:Cm) (b:Wd) (ws:List V) (k:Addr→Obj→Prop) (nk:∀b o,k b o→b∉framesOf Γ.fs∧¬(b=Γ.C∨∃x,(cloL Γ.env Γ.sc.names []).lookup x=some b)):Cf0 where
 toCtx:=Γ.toCtx
 env:=cenvOf Γ.sc Γ.C Γ.env
 cx:=⟨Γ.sc,Γ.cx.slots,some Γ.ns⟩
 c:=Γ.c
 P:=pC ws
 b0:=b
 keep:=fun b o=>Γ.keep b o∨k b o
 n0:=Γ.n0
 nk:=fun b o q=>q.elim (fun q=>have z:=Γ.nk b o q;⟨z.1,fun w=>w.elim (fun(w:b=Γ.C)=>Γ.nC o (w▸q)) fun w=>w.elim fun x w=>z.2 (.inr ⟨x,Γ.hcl x b w⟩)⟩) (nk b o)
 envK:=Γ.ok.kind
 envG:=Γ.envG
 envB:=Γ.envB
 envN:=Γ.ok.kindR Γ.envK Γ.envN
 cM:=Γ.cM
 cI:=Γ.cI
 calls:=Γ.calls
 news:=Γ.news
noncomputable abbrev Cm.z (Γ:Cm):Cf0:=Γ.at Γ.b0 [] (fun J J=>False) fun J J q=>q.elim
noncomputable abbrev Cm.cf (Γ:Cm) (b:Wd) (ws:List V) (k:Addr→Obj→Prop) (nk:∀b o,k b o→b∉framesOf Γ.fs∧¬(b=Γ.C∨∃x,(cloL Γ.env Γ.sc.names []).lookup x=some b)) (E:Value→Shared→Prop):Cf where
 toCf0:=Γ.at b ws k nk
 E:=E
 hE:=fun _ _ _ _ _ _ _ _ _ _ _ _ _ (q:False)=>q.elim
structure CI (Γ:Cm) (fr:Fr) (is:IS) (acc:List V) (h:Hp) (σ:Wd):Prop where
 g:At0 Γ.z fr [] [] h σ
 I:IR σ.ν σ.H Γ.it is Γ.ow
 O:∀b∈Γ.ow,Ows Γ.z σ.ν b
 oD:Ows Γ.z σ.ν Γ.D
 acc:∃us n,σ.H.get? Γ.D=some (lsO us n)∧VRs σ.ν acc us.toList
section
variable {Γ:Cm}{fr:Fr}{is is':IS}{acc:List V}{h h':Hp}{σ σ':Wd}{b:Wd}{ws vs:List V}{us:List Value}{k:Addr→Obj→Prop}{nk:∀b o,k b o→b∉framesOf Γ.fs∧¬(b=Γ.C∨∃x,(cloL Γ.env Γ.sc.names []).lookup x=some b)}{tg elt:Expr}{E E' Q:Value→Shared→Prop}{QT:Unit→Shared→Prop}{NN:Prop}{KK:List V→IS→Prop}{QO:Option Value→Shared→Prop}{v:V}{u:Value}{D:Addr}
theorem FRel.forget {env:Env}{ln cn:List Str}{lv cv:Fr}{ν:Nu}{H:Heap}(R:FRel env ln lv cn cv ν H):FRel env ln [] cn cv ν H:=⟨R.loc.imp fun m q=>⟨q.1,fun J J J J J e=>(by contradiction)⟩,R.cel,R.outL,R.outC,R.inj⟩
abbrev kTn (Γ:Cm) (σ:Wd) (b:Addr) (o:Obj):Prop:=(b=Γ.D∨b∈Γ.ow)∧σ.H.get? b=some o
theorem CI.nks (I:CI Γ fr is acc h σ):∀b o,kTn Γ σ' b o→b∉framesOf Γ.fs∧¬(b=Γ.C∨∃x,(cloL Γ.env Γ.sc.names []).lookup x=some b):=fun b o q=>q.1.elim (fun e=>e▸⟨I.oD.nr,I.oD.nl⟩) fun m=>⟨(I.O b m).nr,(I.O b m).nl⟩
theorem CI.after (I:CI Γ fr is acc h σ) (g:At0 (Γ.at σ ws (kTn Γ σ) I.nks) fr vs us h' σ'):CI Γ fr is acc h' σ':=by
 have kp:=fun b o q=>g.kp b o (.inr q)
 have lD:σ.H.get? Γ.D≠none:=I.acc.elim fun us q=>q.elim fun n q=>some_live q.1
 exact{
     g:=⟨g.S,I.g.tr.trans I.g.S.hr g.tr,g.fe.forget,.nil,fun b o q=>q.elim (fun q=>g.kp b o (.inl q)) fun q=>q.elim,g.nx⟩,
     I:=I.I.keeps (fun b hb o e=>(kp b o ⟨.inr hb,e⟩).1) g.tr.ext.nth,
     O:=fun b hb=>(I.O b hb).to g.tr.ext (I.I.live b hb),
     oD:=I.oD.to g.tr.ext lD,
     acc:=I.acc.imp fun us q=>q.imp fun n q=>⟨(kp _ _ ⟨.inl rfl,q.1⟩).1,q.2.ext g.tr.ext⟩ }
theorem CI.append (I:CI Γ fr is acc h σ) (r:VR σ.ν v u) (hl:acc.length<turns) (k:∀σ',CI Γ fr is (acc++[v]) h σ'→Q .none σ'.s):Γ.wp (call (.builtin "list.append") [.ref Γ.D,u]) Q E σ.s:=by
 obtain⟨us,n,hD,hv⟩:=I.acc
 have hz:us.size≤sizeLine:=by rw[← Array.length_toList,← hv.length];exact Nat.le_trans (Nat.le_of_lt hl) (show lim≤sizeLine from lim_line)
 refine call_meets PySem.F.slot_list_append ⟨_,hD,rfl⟩ PySem.F.entry_list_append (PySem.F.args_list_append_2 _ _) (AutoListH.list_append_list_val_0 Γ.D us n u hz) ⟨hD,?_⟩
 have kp:∀b o,b≠Γ.D→σ.H.get? b=some o→(σ.H.update Γ.D (Obj.mapSeq fun a=>a.push u)).get? b=some o:=fun b o nb q=>(Heap.get?_update_other _ _ (Ne.symm nb)).trans q
 have nw:∀b∈Γ.ow,b≠Γ.D:=fun b hb e=>Γ.nD (e▸hb)
 refine k (σ.to _ σ.s.toks) { g:=I.g.mv fun b o e=>?_,I:=I.I.keeps (fun b hb o e=>kp b o (nw b hb) e) fun J J e=>e,O:=I.O,oD:=I.oD,acc:=⟨_,_,Heap.get?_update_self _ hD rfl,?_⟩ }
 ·by_cases q:b=Γ.D
  ·exact .inl (q▸I.oD)
  ·exact .inr (kp b o q e)
 ·rw[Array.toList_push];exact hv.append (.cons r .nil)
theorem CI.next (I:CI Γ fr is acc h σ) (ht:tgNames tg=some Γ.ns) (x:wX Γ.ns.length h NN KK (nextI is h))
  (q0:∀σ',At0 Γ.z fr [] [] h σ'→Ows Γ.z σ'.ν Γ.D→(∃us n,σ'.H.get? Γ.D=some (lsO us n)∧VRs σ'.ν acc us.toList)→NN→QO none σ'.s)
  (q1:∀v s,Γ.wp (letOwnedTupleGo tg (.ref Γ.it) v) (fun J s₂=>Γ.wp (assign tg (cenvOf Γ.sc Γ.C Γ.env) v) QT E s₂) E s→QO (some v) s)
  (turn:∀ws is' σ' (I':CI Γ fr is' acc h σ'),At0 (Γ.at σ' ws (kTn Γ σ') I'.nks) fr [] [] h σ'→KK ws is'→QT () σ'.s):Γ.wp (pyNext (.ref Γ.it)) QO E' σ.s:=by
 obtain⟨us,n,hD,hv⟩:=I.acc
 have nw:∀b∈Γ.ow,b≠Γ.D:=fun b hb e=>Γ.nD (e▸hb)
 have nk:∀b o,(b=Γ.D∧o=lsO us n)→b∉framesOf Γ.fs∧¬(b=Γ.C∨∃x,(cloL Γ.env Γ.sc.names []).lookup x=some b):=fun b o q=>q.1▸⟨I.oD.nr,I.oD.nl⟩
 have g1:At0 (Γ.at Γ.b0 [] (fun b o=>b=Γ.D∧o=lsO us n) nk) fr [] [] h σ:=⟨I.g.S,I.g.tr,I.g.fe,.nil,fun b o q=>q.elim (fun q=>I.g.kp b o (.inl q)) fun q=>q.1▸q.2▸⟨hD,I.oD.nf⟩,I.g.nx⟩
 have back:∀{σ'},At0 (Γ.at Γ.b0 [] (fun b o=>b=Γ.D∧o=lsO us n) nk) fr [] [] h σ'→At0 Γ.z fr [] [] h σ':=fun g=>⟨g.S,g.tr,g.fe,.nil,fun b o q=>q.elim (fun q=>g.kp b o (.inl q)) fun q=>q.elim,g.nx⟩
 have O1:∀b∈Γ.ow,Ows (Γ.at Γ.b0 [] (fun b o=>b=Γ.D∧o=lsO us n) nk) σ.ν b:=fun b hb=>{ I.O b hb with nk:=fun o q=>q.elim (fun q=>(I.O b hb).nk o (.inl q)) fun q=>nw b hb q.1 }
 have tn:TgN tg Γ.ns.length:=tg_is ht (fun x p e1 e2=>e1▸e2▸.one) fun x p y q k r e1 e2 J=>e1▸e2▸.two
 refine l_next (E':=E) (QN:=QO none) (QS:=fun v s₂=>Γ.wp (assign tg (cenvOf Γ.sc Γ.C Γ.env) v) QT E s₂) g1 I.I O1 tn x ⟨fun H' tk g z=>q0 (σ.to H' tk) (back g) I.oD ⟨us,n,(g.kp _ _ (.inr ⟨rfl,rfl⟩)).1,hv⟩ z,fun vs is' ws H' tk v g I' J it hu z=>?_⟩ (fun J h=>h) q1
 refine bind_tg ht Γ.ok.kind (fun x hx=>(Γ.ok.kindR Γ.envK Γ.envN).loc _ (Γ.ok.ns x hx)) g.fe g.S it hu fun H2 tk2 k2 d2 R2=>?_
 have x2:=mvST (H':=H2) (n:=tk2) g.S g.tr fun b o e=>by
  by_cases q:b=Γ.C
  ·exact .inl (q▸⟨Γ.newC,Γ.lowC,g.fe.outL,fun J=>d2⟩)
  ·exact .inr (k2 b o q e)
 have kp0:∀b o,Γ.keep b o→H2.get? b=some o∧¬Foot σ.ν b:=fun b o q=>have z:=g.kp b o (.inl q);⟨k2 b o (fun(e:b=Γ.C)=>Γ.nC o (e▸q)) z.1,z.2⟩
 have I2:CI Γ fr is' acc h (σ.to H2 tk2):=
  {
   g:=⟨x2.1,x2.2,R2.forget,.nil,fun b o q=>q.elim (kp0 b o) fun q=>q.elim,g.nx⟩,
   I:=I'.keeps (fun b hb o e=>k2 b o (fun e=>(I.O b hb).nl (.inl e)) e) fun J J e=>e,
   O:=I.O,
   oD:=I.oD,
   acc:=⟨us,n,k2 _ _ Γ.CD (g.kp _ _ (.inr ⟨rfl,rfl⟩)).1,hv⟩ }
 exact turn ws is' _ I2 ⟨x2.1,.refl,R2,.nil,fun b o q=>q.elim (kp0 b o) fun q=>⟨q.2,q.1.elim (fun e=>e▸I.oD.nf) fun m=>(I.O b m).nf⟩,g.nx⟩ z
end
end Mine
namespace Mine
open PySem PySem.W PyProof.Rows PySem.SeqAt PySem.EqNone PySem.MeetsSeq PySem.Calls
noncomputable def LoopOk (cx:Cx) (sc:Scope) (ns:List Str) (tg elt:Expr) (ifs:List Expr) (b:List I):Prop:=∀(Γ:Cm) (fr:Fr) (iter:Expr) (pos:Pos) (Qc:List V→Hp→Prop) (R:Result→Shared→Prop),Γ.cx=cx→Γ.sc=sc→Γ.ns=ns→
 (∀σ' acc h,At0 Γ.z fr [] [] h σ'→Ows Γ.z σ'.ν Γ.D→(∃us n,σ'.H.get? Γ.D=some (lsO us n)∧VRs σ'.ν acc us.toList)→Qc acc h→R (.ok .next) σ'.s)→
 ∀(n:Nat) (is:IS) (acc:List V) (h:Hp) (σ:Wd),CI Γ fr is acc h σ→acc.length+n≤turns→wC (fun ws h K=>go Γ.c (pC ws) K b fr h []) Γ.ns.length Qc n is acc h→
 codeAny (model Γ.pr Γ.w) Γ.A (.compLoop (.ListComp elt [⟨tg,iter,ifs,0⟩] Γ.sc pos) 0 (.ref Γ.it) (.ref Γ.D) (cenvOf Γ.sc Γ.C Γ.env)) R σ.s
noncomputable def LI (Γ:Cm) (fr:Fr) (b:List I) (Qc:List V→Hp→Prop) (n:Nat) (s:Shared):Prop:=∃is acc h σ,σ.s=s∧CI Γ fr is acc h σ∧acc.length+n≤turns∧wC (fun ws h K=>go Γ.c (pC ws) K b fr h []) Γ.ns.length Qc n is acc h
section
variable {cx:Cx}{sc:Scope}{ns:List Str}{tg elt t:Expr}{b l r:List I}
theorem SE.cm {Γ:Cm}{K:Kt}{fr:Fr}{st:List V}{us:List Value}{h:Hp}{σ b0:Wd}{ws:List V}{k:Addr→Obj→Prop}{nk:∀b o,k b o→b∉framesOf Γ.fs∧¬(b=Γ.C∨∃x,(cloL Γ.env Γ.sc.names []).lookup x=some b)}{Q E:Value→Shared→Prop}(he:∀(Γ':Cf),Γ'.cx=⟨Γ.sc,Γ.cx.slots,some Γ.ns⟩→SE Γ' elt b []) (g:At0 (Γ.at b0 ws k nk) fr st us h σ) (x:go Γ.c (pC ws) K b fr h st)
  (kv:∀a v h' σ',At0 (Γ.at b0 ws k nk) fr (a::st) (v::us) h' σ'→K fr h' (a::st)→Q v σ'.s):Γ.wp (eval elt (cenvOf Γ.sc Γ.C Γ.env)) Q E σ.s:=he (Γ.cf b0 ws k nk E) rfl K fr st us h σ Q g x kv
theorem ST.cm {Γ:Cm}{K:Kt}{fr:Fr}{st:List V}{us:List Value}{h:Hp}{σ b0:Wd}{ws:List V}{k:Addr→Obj→Prop}{nk:∀b o,k b o→b∉framesOf Γ.fs∧¬(b=Γ.C∨∃x,(cloL Γ.env Γ.sc.names []).lookup x=some b)}{Q:Bool→Shared→Prop}{E:Value→Shared→Prop}(ht:∀(Γ':Cf),Γ'.cx=⟨Γ.sc,Γ.cx.slots,some Γ.ns⟩→ST Γ' t l [.br b []]) (g:At0 (Γ.at b0 ws k nk) fr st us h σ) (x:go Γ.c (pC ws) K l fr h st)
  (kb:∀b' h' σ',At0 (Γ.at b0 ws k nk) fr st us h' σ'→wB (.bool b') (go Γ.c (pC ws) K b fr h' st) (K fr h' st)→Q b' σ'.s):Γ.wp (isTrue t (cenvOf Γ.sc Γ.C Γ.env) (eval t (cenvOf Γ.sc Γ.C Γ.env))) Q E σ.s:=ht (Γ.cf b0 ws k nk E) rfl K fr st us h σ Q bd_br g x kb
theorem li_step {Γ:Cm}{fr:Fr}{Qc:List V→Hp→Prop}{n m:Nat}{is:IS}{acc:List V}{h:Hp}{σ:Wd}(I:CI Γ fr is acc h σ) (e:acc.length+m≤turns) (l:m<n) (x:wC (fun ws h K=>go Γ.c (pC ws) K b fr h []) Γ.ns.length Qc m is acc h):∃m,m<n∧LI Γ fr b Qc m σ.s:=⟨m,l,is,acc,h,σ,rfl,I,e,x⟩
theorem app_le {acc:List V}{v:V}{n:Nat}(e:acc.length+(n+1)≤turns):(acc++[v]).length+n≤turns:=by
 rw[List.length_append,Nat.add_assoc,Nat.add_comm _ n];exact e
theorem turn_plain {Γ:Cm}{fr:Fr}{Qc:List V→Hp→Prop}{n:Nat}{s:Shared}{QO:Option Value→Shared→Prop}{E E':Value→Shared→Prop}{QX:Shared→Prop}(ht:tgNames tg=some Γ.ns) (he:∀(Γ':Cf),Γ'.cx=⟨Γ.sc,Γ.cx.slots,some Γ.ns⟩→SE Γ' elt b [])
  (fin:∀σ' acc h,At0 Γ.z fr [] [] h σ'→Ows Γ.z σ'.ν Γ.D→(∃us n,σ'.H.get? Γ.D=some (lsO us n)∧VRs σ'.ν acc us.toList)→Qc acc h→QX σ'.s) (I:LI Γ fr b Qc n s) (q0:∀s,QX s→QO none s)
  (q1:∀v s,Γ.wp (letOwnedTupleGo tg (.ref Γ.it) v) (fun J s₂=>Γ.wp (assign tg (cenvOf Γ.sc Γ.C Γ.env) v) (fun J s₃=>Γ.wp (eval elt (cenvOf Γ.sc Γ.C Γ.env)) (fun x s₄=>Γ.wp (call (.builtin "list.append") [.ref Γ.D,x]) (fun J s₅=>∃m,m<n∧LI Γ fr b Qc m s₅) E s₄) E s₃) E s₂) E s→QO (some v) s):Γ.wp (pyNext (.ref Γ.it)) QO E' s:=by
 obtain⟨is,acc,h,σ,rfl,I,hn,x⟩:=I
 cases n with
 | zero=>exact False.elim x
 | succ n=>
  refine I.next ht (wO.to x fun J y=>y) (fun σ' g o a z=>q0 _ (fin σ' acc h g o a z)) q1 fun ws is' σ' I' g z=>?_
  exact SE.cm he g z fun a v h2 σ2 g2 x2=>(I'.after g2).append g2.vs.un.1 (Nat.lt_of_lt_of_le (Nat.lt_add_of_pos_right (Nat.succ_pos n)) hn) fun σ3 I3=>li_step I3 (app_le hn) (Nat.lt_succ_self n) x2
theorem loop_plain (ht:tgNames tg=some ns) (he:∀(Γ':Cf),Γ'.cx=⟨sc,cx.slots,some ns⟩→SE Γ' elt b []):LoopOk cx sc ns tg elt [] b:=by
 intro Γ fr iter pos Qc R e1 e2 e3 fin n is acc h σ I hn x
 subst e1 e2 e3
 exact kcp_loop (LI Γ fr b Qc) (fun n s hI=>turn_plain ht he fin hI (fun J q=>q) fun J J q=>q) n ⟨is,acc,h,σ,rfl,I,hn,x⟩
theorem turn_test {Γ:Cm}{fr:Fr}{Qc:List V→Hp→Prop}{n:Nat}{s:Shared}{QO:Option Value→Shared→Prop}{E E':Value→Shared→Prop}{QX:Shared→Prop}(ht:tgNames tg=some Γ.ns) (htt:∀(Γ':Cf),Γ'.cx=⟨Γ.sc,Γ.cx.slots,some Γ.ns⟩→ST Γ' t l [.br b []]) (he:∀(Γ':Cf),Γ'.cx=⟨Γ.sc,Γ.cx.slots,some Γ.ns⟩→SE Γ' elt b [])
  (fin:∀σ' acc h,At0 Γ.z fr [] [] h σ'→Ows Γ.z σ'.ν Γ.D→(∃us n,σ'.H.get? Γ.D=some (lsO us n)∧VRs σ'.ν acc us.toList)→Qc acc h→QX σ'.s) (I:LI Γ fr l Qc n s) (q0:∀s,QX s→QO none s)
  (q1:∀v s,Γ.wp (letOwnedTupleGo tg (.ref Γ.it) v) (fun J s₂=>Γ.wp (assign tg (cenvOf Γ.sc Γ.C Γ.env) v) (fun J s₃=>Γ.wp (isTrue t (cenvOf Γ.sc Γ.C Γ.env) (eval t (cenvOf Γ.sc Γ.C Γ.env))) (fun ok s₃=>if ok=true then Γ.wp (eval elt (cenvOf Γ.sc Γ.C Γ.env)) (fun x s₄=>Γ.wp (call (.builtin "list.append") [.ref Γ.D,x]) (fun J s₅=>∃m,m<n∧LI Γ fr l Qc m s₅) E s₄) E s₃ else ∃m,m<n∧LI Γ fr l Qc m s₃) E s₃) E s₂) E s→QO (some v) s):Γ.wp (pyNext (.ref Γ.it)) QO E' s:=by
 obtain⟨is,acc,h,σ,rfl,I,hn,x⟩:=I
 cases n with
 | zero=>exact False.elim x
 | succ n=>
  refine I.next ht (wO.to x fun J y=>y) (fun σ' g o a z=>q0 _ (fin σ' acc h g o a z)) q1 fun ws is' σ' I' g z=>?_
  refine ST.cm htt g z fun q h2 σ2 g2 x2=>?_
  cases q with
  | true=>exact SE.cm he g2 (wB_t x2) fun a v h3 σ3 g3 x3=>(I'.after g3).append g3.vs.un.1 (Nat.lt_of_lt_of_le (Nat.lt_add_of_pos_right (Nat.succ_pos n)) hn) fun σ4 I4=>li_step I4 (app_le hn) (Nat.lt_succ_self n) x3
  | false=>exact li_step (I'.after g2) (Nat.le_trans (Nat.add_le_add_left (Nat.le_succ n) _) hn) (Nat.lt_succ_self n) (wB_f x2)
theorem loop_test (ht:tgNames tg=some ns) (htt:∀(Γ':Cf),Γ'.cx=⟨sc,cx.slots,some ns⟩→ST Γ' t l [.br b []]) (he:∀(Γ':Cf),Γ'.cx=⟨sc,cx.slots,some ns⟩→SE Γ' elt b []):LoopOk cx sc ns tg elt [t] l:=by
 intro Γ fr iter pos Qc R e1 e2 e3 fin n is acc h σ I hn x
 subst e1 e2 e3
 exact kct_loop (LI Γ fr l Qc) (fun n s hI=>turn_test ht htt he fin hI (fun J q=>q) fun J J q=>q) n ⟨is,acc,h,σ,rfl,I,hn,x⟩
end
section
variable {sc:Scope}{ns:List Str}{tg elt iter:Expr}{ifs:List Expr}{b l r:List I}{pos:Pos}
theorem comp_core {Γ:Cf0}{fr:Fr}{st:List V}{us:List Value}{h:Hp}{σ:Wd}{is:IS}{v:Value}{ow:List Addr}{Qc:List V→Hp→Prop}{R:Value→Addr→Result→Shared→Prop}{E:Value→Shared→Prop}(ok:ScOk Γ.cx sc ns) (hL:LoopOk Γ.cx sc ns tg elt ifs b) (g1:At0 Γ fr st us h σ) (iv:IV σ.ν σ.H h is v ow) (O:∀b∈ow,Ows Γ σ.ν b)
  (x:wC (fun ws h K=>go Γ.c (pC ws) K b fr h []) ns.length Qc turns is [] h)
  (fin:∀(σ':Wd) acc h' D C m,St Γ.toCtx h' σ'→Tr Γ.toCtx Γ.b0 σ'→Ows Γ σ'.ν D→Ows Γ σ'.ν C→D≠C→(∃us n,σ'.H.get? D=some (lsO us n)∧VRs σ'.ν acc us.toList)→σ'.H.Ns C m→Qc acc h'→R (.ref D) C (.ok .next) σ'.s) :
  Γ.wp (pyIter v) (fun it s₂=>Γ.wp (newList []) (fun acc s₃=>Γ.wp (newFunctionEnv sc Γ.env.globals (cloL Γ.env sc.names []) [] Γ.env.qual none .none (some Γ.env)) (fun cenv s₄=>
   codeAny (model Γ.pr Γ.w) Γ.A (.compStart (.ListComp elt [⟨tg,iter,ifs,0⟩] sc pos) 0 it acc { cenv with scope:=relabel sc Γ.env }) (R acc cenv.locals) s₄) E s₃) E s₂) E σ.s:=by
 have cells:=ok.cells Γ.envN g1.fe
 have hcl:=(cloL_ok (acc:=[]) cells fun J J h=>(by contradiction)).1
 refine l_iter g1 iv O fun it ow σ2 g2 ir O2=>wpAny_newList ?_ (Nat.zero_le _)
 have nD:=none_size σ2.H
 have fD:=g2.fresh nD
 have lw:∀b∈ow,b≠σ2.H.objs.size:=fun b hb e=>ir.live b hb (e▸nD)
 have k3:=push_keeps σ2.H (lsO ([]:List Value).toArray 0)
 have g3:=At0.more (n:=σ2.s.toks) g2 k3
 have hD:(σ2.H.push (lsO ([]:List Value).toArray 0)).get? σ2.H.objs.size=some (lsO #[] 0):=Heap.get?_push_size _ rfl
 have nC:=none_size (σ2.H.push (lsO ([]:List Value).toArray 0))
 have fC:=g3.fresh nC
 have lC:∀{b:Addr},(σ2.H.push (lsO ([]:List Value).toArray 0)).get? b≠none→b≠(σ2.H.push (lsO ([]:List Value).toArray 0)).objs.size:=fun q e=>q (e▸nC)
 refine wpAny_newFunctionEnv ok.noCell (fun J h=>(by contradiction)) (fun H4 hns hsb=>?_) ok.kind
 have k4:Kps (σ2.H.push (lsO ([]:List Value).toArray 0)) H4:=fun b o q=>(hsb.2 b (lC (some_live q))).trans (push_keeps _ _ b o q)
 have g4:=At0.more (n:=σ2.s.toks) g3 k4
 have lw':∀b∈ow,(σ2.H.push (lsO ([]:List Value).toArray 0)).get? b≠none:=fun b hb=>match q:σ2.H.get? b with
  | none=>absurd q (ir.live b hb)
  | some o=>some_live (k3 b o q)
 have nl:∀{b:Addr},(σ2.H.push (lsO ([]:List Value).toArray 0)).get? b≠none→Ows Γ σ2.ν b→¬(b=(σ2.H.push (lsO ([]:List Value).toArray 0)).objs.size∨∃x,(cloL Γ.env sc.names []).lookup x=some b):=fun q w z=>z.elim (lC q) fun z=>z.elim fun x z=>w.nl (.inr ⟨x,hcl x _ z⟩)
 have R4:=ok.rel Γ.envK Γ.envN g4.fe ⟨_,hns⟩ fC.nf
 let Γm:Cm:={ Γ with sc:=sc,C:=(σ2.H.push (lsO ([]:List Value).toArray 0)).objs.size,ns:=ns,D:=σ2.H.objs.size,it:=it,ow:=ow,ok:=ok,nC:=fC.nk,hcl:=hcl,newC:=fC.new,lowC:=fC.low,nrC:=fC.nr,nD:=fun hb=>lw _ hb rfl,CD:=lC (some_live hD) }
 have I4:CI Γm fr is [] h (σ2.to H4 σ2.s.toks):=
  {
   g:=⟨g4.S,g4.tr,R4,.nil,fun b o q=>q.elim (g4.kp b o) fun q=>q.elim,g4.nx⟩,
   I:=ir.keeps (fun b J o e=>k4 b o (k3 b o e)) fun J J e=>e,
   O:=fun b hb=>⟨(O2 b hb).new,(O2 b hb).low,(O2 b hb).nf,fun o q=>q.elim ((O2 b hb).nk o) fun q=>q.elim,(O2 b hb).nr,nl (lw' b hb) (O2 b hb)⟩,
   oD:=⟨fD.new,fD.low,fD.nf,fun o q=>q.elim (fD.nk o) fun q=>q.elim,fD.nr,nl (some_live hD) fD⟩,
   acc:=⟨#[],0,k4 _ _ hD,.nil⟩ }
 have lp:=hL Γm fr iter pos Qc (R (.ref Γm.D) Γm.C) rfl rfl rfl (fun σ' acc h' g' oD a q=>?_) turns is [] h _ I4 (by rw[List.length_nil,Nat.zero_add];exact Nat.le_refl _) x
 ·exact codeAny_compStart_list lp (pyIter_self I4.I lp)
 ·exact g'.fe.loc.elim fun m hm=>fin σ' acc h' Γm.D Γm.C m g'.S g'.tr { fD with nf:=oD.nf } { fC with nf:=g'.fe.outL } Γm.CD a hm.1 q
theorem se_comp {Γ:Cf}(hok:scopeOk Γ.cx sc ns=true) (hfs:∀env v,foldedSetIterable iter env v=pure v) (hi:∀(Γ':Cf),Γ'.cx=Γ.cx→SI Γ' iter l fun m=>.comp m ns.length b::r) (hL:LoopOk Γ.cx sc ns tg elt ifs b):SE Γ (.ListComp elt [⟨tg,iter,ifs,0⟩] sc pos) l r:=by
 intro K fr st us h σ Q g x k
 have ok:=scopeOk_is hok
 show wpAny _ _ (comprehension (.ListComp elt [⟨tg,iter,ifs,0⟩] sc pos) sc Γ.env (firstIterPos [⟨tg,iter,ifs,0⟩] pos) (newList []) false (eval iter Γ.env) none) _ _ _
 refine wpAny_comprehension_free (g:=⟨tg,iter,ifs,0⟩) (gs:=[]) rfl (hfs _) (closureFor_is (ok.cells Γ.envN g.fe)) ok.kind ok.loc ?_
 refine hi (Γ.also g (fun J J=>False) fun J J q=>q.elim) rfl K fr st us h σ _ (kci (fun fr ws h K=>go Γ.c (pC ws) K b fr h []) ns.length fr (go Γ.c Γ.P K r)) (fun J J J=>rfl) (g.also fun J J q=>q.elim) x fun v is ow h1 σ1 g1 iv O z=>?_
 refine comp_core (Γ:=(Γ.also g (fun J J=>False) fun J J q=>q.elim).toCf0) ok hL g1 iv O z fun σ' acc h' D Ca m S' T' oD oC dc a hm q=>⟨m,hm,fun h'' hsb=>?_⟩
 have z:=mvST (H':=h'') (n:=σ'.s.toks) S' T' fun b o e=>by
  by_cases w:b=Ca
  ·exact .inl (w▸⟨oC.new,oC.low,oC.nf,fun w=>absurd w oC.nr⟩)
  ·exact .inr ((hsb.2 b w).trans e)
 exact C_if (C.to q fun J J z=>z) fun hl q=>a.elim fun vs a=>a.elim fun n a=>
  have y:=adopt (s₂:={ σ'.s with heap:=h'' }) g.S z.2 z.1 oD.new oD.nf (fun J J J e=>e) (.list rfl hl ((hsb.2 _ dc).trans a.1) a.2.mono) rfl rfl
  k _ _ _ ⟨σ'.ν++[(D,D)],{ σ'.s with heap:=h'' }⟩ (g.to y.1 y.2.1 (.cons y.2.2 (g.vs.ext y.2.1.ext))) q
end
end Mine
namespace Mine
open PySem PySem.W PyProof.Rows PySem.SeqAt PySem.EqNone PySem.MeetsSeq PySem.Calls
structure Pn (e:Expr):Prop where
 star:Plain e
 fold:∀env v,foldedSetIterable e env v=pure v
 mark:∀op,behindInMarks op e=false
 sw:(∀a gs sc p,e≠.ListComp a gs sc p)→∀t line env,swapsWith e t line env=pure false
 tu:(∀vs k p,e≠.Tuple vs k p)→∀ts j q env,swappedStores [.Tuple ts j q] e env=pure none
structure Ok (c:Cp):Prop where
 e:∀(Γ:Cf) e l r,c.e Γ.cx e r=some l→SE Γ e l r
 t:∀(Γ:Cf) e l r,c.t Γ.cx e r=some l→ST Γ e l r
 p:∀cx e l r,c.e cx e r=some l→Pn e
section
variable {Γ:Cf}{c:Cp}{l r:List I}{e f a b i:Expr}{es as:List Expr}{pos:Pos}{x:Str}{o:CmpOp}{cx:Cx}{ks:List Keyword}{ns:List Nat}
theorem slOf_is {y:Option Expr×Option Expr×Option Expr}:slOf e=some y→∃p,e=.Slice y.1 y.2.1 y.2.2 p:=sh_c (C:=fun e s=>(match s with
 | .slice a b s _=>some (a,b,s)
 | _=>none)=some y→∃p,e=.Slice y.1 y.2.1 y.2.2 p) (fun J h=>nomatch h) (fun s h=>by
  cases s with
  | slice a b d p=>exact⟨p,Option.some.inj h▸rfl⟩
  | _=>exact(by contradiction)) e
theorem attOf_is {y:Expr×Str×Pos}:attOf e=some y→e=.Attribute y.1 y.2.1 y.2.2:=sh_c (C:=fun e s=>(match s with
 | .attr e x p=>some (e,x,p)
 | _=>none)=some y→e=.Attribute y.1 y.2.1 y.2.2) (fun J h=>nomatch h) (fun s h=>by
  cases s with
  | attr a b p=>exact Option.some.inj h▸rfl
  | _=>exact(by contradiction)) e
theorem nil_is {ks:List Keyword}(h:ks.isEmpty=true):ks=[]:=List.isEmpty_iff.mp h
theorem itOf_is {y:Mk×List Expr}:itOf cx e=some y→∃x np p,e=.Call (.Name x np) y.2 [] p∧cx.glob x=true∧mkOf x y.2.length=some y.1:=sh_c (C:=fun e s=>(match s with
 | .call g as ks _=>if ks.isEmpty then(nmOf g).bind fun x=>if cx.glob x then(mkOf x as.length).map fun m=>(m,as)else none else none
 | _=>none)=some y→∃x np p,e=.Call (.Name x np) y.2 [] p∧cx.glob x=true∧mkOf x y.2.length=some y.1) (fun J h=>nomatch h) (fun s h=>by
  cases s with
  | call g as ks p=>exact iff_ h fun hk h=>bnd h fun x hx h=>iff_ h fun hg h=>mp_ h fun m hm h=>(nm_is hx).elim fun np eg=>⟨x,np,p,by rw[eg,nil_is hk,← h];rfl,hg,h▸hm⟩
  | _=>exact(by contradiction)) e
theorem pn_ok {n:Nat}:(cp n).e cx e r=some l→Pn e:=by
 cases n with
 | zero=>exact fun h=>(by contradiction)
 | succ n=>exact sh_c (C:=fun e s=>kE (cp n) cx s r=some l→Pn e) (fun J h=>(by contradiction)) (fun s h=>by cases s<;>exact⟨fun J J=>rfl,fun J J=>rfl,fun J=>rfl,(by first | exact fun J J J J=>rfl | exact fun h=>absurd rfl (h _ _ _ _)),by first | exact fun J J J J J=>rfl | exact fun h=>absurd rfl (h _ _ _)⟩) e
theorem Ok.lst (B:Ok c) (h:kEs (c.e Γ.cx) es r=some l):Es Γ es l r:=kEs_ok (fun e l r h=>⟨B.e Γ e l r h,(B.p _ _ _ _ h).star⟩) h
theorem cmp_ok (B:Ok c) (h:kCmp c Γ.cx a o b r=some l):SE Γ (.Compare a [o] [b] pos) l r∧ST Γ (.Compare a [o] [b] pos) l r:=
 ite_ h (fun q h=>iff_ h fun hn h=>(beq_iff_eq.mp q)▸st_is (fun xa x=>l_is xa x) (fun J J=>rfl) hn (B.e _ _ _ _ h)) fun J h=>
 ite_ h (fun q h=>iff_ h fun hn h=>(beq_iff_eq.mp q)▸st_is (fun xa x=>l_isnt xa x) (fun J J=>rfl) hn (B.e _ _ _ _ h)) fun J h=>
 bnd h fun o' ho h=>bnd h fun m hb ha=>⟨se_cmp ho ((B.p _ _ _ _ hb).mark _) (B.e _ _ _ _ ha) (B.e _ _ _ _ hb),st_cmp ho ((B.p _ _ _ _ hb).mark _) (B.e _ _ _ _ ha) (B.e _ _ _ _ hb)⟩
theorem sub_ok (B:Ok c) (h:kSub c Γ.cx e i r=some l):SE Γ (.Subscript e i pos) l r:=by
 unfold kSub at h
 cases q:slOf i with
 | none=>
  rw[q]at h
  exact bnd h fun m hb ha=>se_item (B.e _ _ _ _ ha) (B.e _ _ _ _ hb)
 | some y=>
  rw[q]at h
  refine(slOf_is q).elim fun p ei=>?_
  subst ei
  obtain⟨a,b,s⟩:=y
  cases s with
  | some s=>
   refine iff_ h fun q h=>and_ q fun q q3=>and_ q fun q1 q2=>?_
   rw[Option.isNone_iff_eq_none.mp q1,Option.isNone_iff_eq_none.mp q2]
   exact se_rev q3 (B.e _ _ _ _ h)
  | none=>cases a with
   | some a=>
    refine iff_ h fun q h=>bnd h fun m hb ha=>?_
    rw[Option.isNone_iff_eq_none.mp q]
    exact se_drop (B.e _ _ _ _ ha) (B.e _ _ _ _ hb)
   | none=>
    refine bnd h fun b' eb h=>bnd h fun m hb ha=>?_
    rw[eb]
    exact se_take (B.e _ _ _ _ ha) (B.e _ _ _ _ hb)
theorem un_ok {o:UnaryOp}(h:kUn o a r=some l):o=.USub∧SE Γ (.UnaryOp o a pos) l r:=iff_ h fun q h=>mp_ h fun i hi e=>bnd hi fun k hk hi=>(cst_is hk).elim fun j y=>y.elim fun p ea=>by
 subst ea e
 rw[show o=.USub from beq_iff_eq.mp q,intC_is hi]
 exact⟨rfl,se_neg⟩
theorem call_ok (B:Ok c) (h:kE c Γ.cx (.call f as ks pos) r=some l):SE Γ (.Call f as ks pos) l r:=iff_ h fun hk h=>by
 rw[nil_is hk]
 cases q:attOf f with
 | some y=>
  rw[q]at h
  rw[attOf_is q]
  exact iff_ h fun q h=>and_ q fun q q3=>and_ q fun q1 q2=>bnd h fun m hm h=>bnd h fun l2 h2 h1=>se_meth q3 q1 (of_decide_eq_true q2) hm (B.e _ _ _ _ h1) (B.lst h2)
 | none=>
  rw[q]at h
  exact bnd h fun x hx h=>bnd h fun m hm h=>(nm_is hx).elim fun np ef=>by
   rw[ef]
   exact se_call hm (B.lst h)
theorem it_ok (B:Ok c) {f:Mk→List I}(h:kIt c Γ.cx e f=some l):SI Γ e l f∧∀env v,foldedSetIterable e env v=pure v:=by
 unfold kIt at h
 cases q:itOf Γ.cx e with
 | none=>
  rw[q]at h
  exact⟨si_plain (B.e _ _ _ _ h),(B.p _ _ _ _ h).fold⟩
 | some y=>
  rw[q]at h
  obtain⟨x,np,p,rfl,hg,hm⟩:=itOf_is q
  exact⟨si_mk hm hg (B.lst h),fun J J=>rfl⟩
theorem dict_ok (B:Ok c) {ks:List (Option Expr)}(h:kE c Γ.cx (.dict ks es pos) r=some l):SE Γ (.Dict ks es pos) l r:=
 bnd h fun ns hn h=>iff_ h fun q h=>have y:=sps_ok (Γ:=Γ) (fun e l r h=>B.e Γ e l r h) hn q.1 h
  se_dict (fun Γ' e=>(sps_ok (Γ:=Γ') (fun e l r h=>B.e Γ' e l r h) hn q.1 (e▸h)).1) y.2.1 y.2.2.1 y.2.2.2 q.1 q.2.1 q.2.2
structure Cps (cx:Cx) (elt:Expr) (sc:Scope) (l r:List I) (tg iter:Expr) (ifs:List Expr) (ns:List Str) (b:List I):Prop where
 ok:scopeOk cx sc ns=true
 fs:∀env v,foldedSetIterable iter env v=pure v
 si:∀(Γ':Cf),Γ'.cx=cx→SI Γ' iter l fun m=>.comp m ns.length b::r
 lp:LoopOk cx sc ns tg elt ifs b
theorem comp_parts (B:Ok c) {elt:Expr}{gs:List Comprehension}{sc:Scope}(Γ:Cf) {G:Prop}(h:kComp c Γ.cx elt gs sc r=some l) (k:∀tg iter ifs ns b,gs=[⟨tg,iter,ifs,0⟩]→Cps Γ.cx elt sc l r tg iter ifs ns b→G):G:=by
 cases gs with
 | nil=>exact(by contradiction)
 | cons g gs=>cases gs with
  | cons J J1=>exact(by contradiction)
  | nil=>
   refine iff' h fun q h=>bnd h fun ns hns h=>iff_ h fun hok h=>bnd h fun b hb h=>?_
   obtain⟨tg,iter,ifs,ia⟩:=g
   have ha:ia=0:=Decidable.byContradiction fun w=>q (Bool.or_eq_true_iff.mpr (.inr (bne_iff_ne.mpr w)))
   subst ha
   refine k tg iter ifs ns b rfl ⟨hok,(it_ok B h).2,fun Γ' e=>(it_ok B (e▸h)).1,?_⟩
   cases ifs with
   | nil=>exact loop_plain hns fun Γ' e=>B.e Γ' _ _ _ (e▸hb)
   | cons t ifs=>cases ifs with
    | cons J J1=>exact(by contradiction)
    | nil=>exact bnd hb fun b' hb ht=>loop_test hns (fun Γ' e=>B.t Γ' _ _ _ (e▸ht)) fun Γ' e=>B.e Γ' _ _ _ (e▸hb)
theorem comp_sound (B:Ok c) {elt:Expr}{gs:List Comprehension}{sc:Scope}(h:kComp c Γ.cx elt gs sc r=some l):SE Γ (.ListComp elt gs sc pos) l r:=
 comp_parts B Γ h fun tg iter ifs ns b e y=>e▸se_comp y.ok y.fs y.si y.lp
theorem e_ok (B:Ok c) (Γ:Cf) (e:Expr) (l r:List I):kE c Γ.cx (sh e) r=some l→SE Γ e l r:=sh_c (C:=fun e s=>kE c Γ.cx s r=some l→SE Γ e l r) (fun J h=>(by contradiction)) (fun s h=>by
 cases s with
 | const k j p=>exact se_const h
 | name x p=>exact se_name h
 | bin a o b p=>exact bnd h fun o' ho h=>bnd h fun m hb ha=>se_bin ho (B.e _ _ _ _ ha) (B.e _ _ _ _ hb)
 | un o a p=>exact(un_ok h).2
 | ite t a b p=>exact bnd h fun a' ha h=>bnd h fun b' hb ht=>se_ite (B.t _ _ _ _ ht) (B.e _ _ _ _ ha) (B.e _ _ _ _ hb)
 | cmp a os bs p=>cases os with
  | nil=>exact(by contradiction)
  | cons o os=>cases os with
   | cons J J1=>exact(by contradiction)
   | nil=>cases bs with
    | nil=>exact(by contradiction)
    | cons b bs=>cases bs with
     | cons J J1=>exact(by contradiction)
     | nil=>exact(cmp_ok B h).1
 | attr e x p=>exact iff_ h fun hp h=>bnd h fun k hk h=>se_attr hp hk (B.e _ _ _ _ h)
 | sub e i p=>exact sub_ok B h
 | list es p=>exact se_list (B.lst h).s
 | tup es k p=>exact iff_ h fun hn h=>se_tup (of_decide_eq_true hn) (B.lst h).s
 | dict ks es p=>exact dict_ok B h
 | call f as ks p=>exact call_ok B h
 | comp e gs sc p=>exact comp_sound B h
 | _=>exact(by contradiction)) e
theorem ts_ok (B:Ok c) {o:BoolOp}(h:kTs c Γ.cx o es r=some l):STs Γ o es l r:=by
 induction es generalizing l r with
 | nil=>cases h;exact sts_nil
 | cons e es ih=>
   refine bnd h fun b hb h=>?_
   cases o with
   | And=>exact sts_and (B.t _ _ _ _ h) (ih hb)
   | Or=>exact sts_or (B.t _ _ _ _ h) (ih hb)
theorem t_ok (B:Ok c) (Γ:Cf) (e:Expr) (l r:List I):kT c Γ.cx (sh e) r=some l→ST Γ e l r:=by
 have y:=e_ok B Γ e l r
 revert y
 refine sh_c (C:=fun e s=>(kE c Γ.cx s r=some l→SE Γ e l r)→kT c Γ.cx s r=some l→ST Γ e l r) (fun J J h=>(by contradiction)) (fun s y h=>?_) e
 cases s with
 | un o a p=>
   refine ite_ h (fun q h=>by rw[show o=.Not from beq_iff_eq.mp q];exact st_not (B.t _ _ _ _ h)) fun J h=>?_
   have z:=un_ok (Γ:=Γ) (pos:=p) h
   exact st_val (fun J=>by rw[show o=.USub from z.1];rfl) z.2
 | bop o vs p=>exact st_boolop (ts_ok B h)
 | cmp a os bs p=>cases os with
  | nil=>exact(by contradiction)
  | cons o os=>cases os with
   | cons J J1=>exact(by contradiction)
   | nil=>cases bs with
    | nil=>exact(by contradiction)
    | cons b bs=>cases bs with
     | cons J J1=>exact(by contradiction)
     | nil=>exact(cmp_ok B h).2
 | ite J J1 J2 J3=>exact(by contradiction)
 | oth=>exact(by contradiction)
 | slice J J1 J2 J3=>exact(by contradiction)
 | _=>exact st_val (fun J=>rfl) (y h)
end
theorem cp_ok:∀n,Ok (cp n)
 | 0=>⟨(fun J J J J h=>(by contradiction)),(fun J J J J h=>(by contradiction)),(fun J J J J h=>(by contradiction))⟩
 | n+1=>⟨e_ok (cp_ok n),t_ok (cp_ok n),fun J J J J h=>pn_ok (n:=n+1) h⟩
end Mine
namespace Mine
open PySem PySem.W PyProof.Rows PySem.SeqAt PySem.EqNone PySem.MeetsSeq PySem.Calls
structure ExcAt (F:Facts) (H:Heap) (e:Addr) (t:Addr) (dx:Option Addr) (es:List DictEntry):Prop where
 obj:H.get? e=some { cls:=.ref F.lisp,dict:=dx,data:=.fields #[.ref t,.none,.none,.none,.bool false,.none] }
 dict:match dx with
  | none=>es=[]
  | some d=>d≠e∧∃n,H.get? d=some (dictOf es n)
 few:es.length≤10
 nrk:es.any (·.refKey)=false
structure Cb extends Cf where
 fs':List Env
 efs:fs=env::fs'
 frames:A.frames=some fs
 frame:env.frame=some env.locals
 noC:cx.comp=none
 nd:cx.slots.Nodup
 new:∀b,(b=env.locals∨∃x,env.cells.lookup x=some b)→b0.H.get? b=none∧h₀.get? b=none
 hZ:∀fr st us h σ ea t dx es s',At0 toCf0 fr st us h σ→P.Z h→(∀b o,σ.H.get? b=some o→s'.heap.get? b=some o)→σ.H.get? ea=none→ExcAt toFacts s'.heap ea t dx es→s'.gens=σ.s.gens→s'.os=σ.s.os→E (.ref ea) s'
noncomputable def SA (Γ:Cb) (t:Expr) (l r:List I):Prop:=∀(K:Kt) (fr:Fr) (st:List V) (us:List Value) (h:Hp) (σ:Wd) (a:V) (v:Value) (Q:Unit→Shared→Prop),At Γ.toCf fr (a::st) (v::us) h σ→go Γ.c Γ.P K l fr h (a::st)→
 (∀fr' h' σ',At Γ.toCf fr' st us h' σ'→go Γ.c Γ.P K r fr' h' st→Q () σ'.s)→Γ.wp (assign t Γ.env v) Q Γ.E σ.s
noncomputable def SAs (Γ:Cb) (ts:List Expr) (l r:List I):Prop:=∀(K:Kt) (fr:Fr) (st:List V) (us:List Value) (h:Hp) (σ:Wd) (vs:List V) (ws:List Value) (Q:Unit→Shared→Prop),vs.length=ts.length→ws.length=ts.length→At Γ.toCf fr (vs++st) (ws++us) h σ→go Γ.c Γ.P K l fr h (vs++st)→
 (∀fr' h' σ',At Γ.toCf fr' st us h' σ'→go Γ.c Γ.P K r fr' h' st→Q () σ'.s)→Γ.wp (assignInOrder ((assignEach ts Γ.env).map (·.2)) ws) Q Γ.E σ.s
abbrev TPlain (t:Expr):Prop:=∀ts env,assignEach (t::ts) env=(false,assign t env)::assignEach ts env
section
variable {Γ:Cb}{K:Kt}{fr fr':Fr}{st:List V}{us:List Value}{h h':Hp}{σ σ':Wd}{Q:Unit→Shared→Prop}{E:Value→Shared→Prop}{a b:V}{u v:Value}{l l2 m m2 r:List I}{pos pos':Pos}{e ea eb ec t:Expr}{ts:List Expr}{x:Str}{k n:Nat}
theorem Cb.lvs (Γ:Cb) (fr:Fr):Γ.toCf0.lv fr=fr:=by unfold Cf0.lv;rw[Γ.noC];rfl
theorem Cb.lns (Γ:Cb):Γ.cx.ln=Γ.cx.slots:=by unfold Cx.ln;rw[Γ.noC];rfl
theorem At0.rel (g:At Γ.toCf fr st us h σ):FRel Γ.env Γ.cx.slots fr Γ.cx.slots fr σ.ν σ.H:=by
 have:=g.fe
 rwa[Γ.lvs,Γ.lns]at this
theorem set_at {sl:List Str}(nd:sl.Nodup) (hk:sl[k]?=some x):(∀(j:Nat) (y:Str) (v':V),sl[j]?=some y→(fr.set k (some a))[j]?=some (some v')→(y=x∧v'=a)∨(y≠x∧fr[j]?=some (some v')))∧∀(j:Nat) (y:Str),sl[j]?=some y→y≠x→(fr.set k (some a))[j]?=fr[j]?:=by
 have uniq:∀{j:Nat},sl[j]?=some x→j=k:=fun{j} hj=>
  (List.getElem?_eq_some_iff.mp hj).elim fun h1 e1=>(List.getElem?_eq_some_iff.mp hk).elim fun h2 e2=>(List.getElem_inj nd).mp (e1.trans e2.symm)
 refine⟨fun j y v' h1 h2=>?_,fun j y h1 h2=>List.getElem?_set_ne fun z=>h2 (Option.some.inj ((z▸h1).symm.trans hk))⟩
 by_cases e:j=k
 ·subst e
  refine .inl ⟨Option.some.inj (h1.symm.trans hk),?_⟩
  rw[List.getElem?_set,if_pos rfl]at h2
  exact iff_ h2 fun J e=>(Option.some.inj (Option.some.inj e)).symm
 ·exact .inr ⟨fun z=>e (uniq (z▸h1)),(List.getElem?_set_ne (Ne.symm e)).symm.trans h2⟩
theorem store_name (g:At Γ.toCf fr st us h σ) (hx:Γ.cx.sc.names.lookup x=some .local∨Γ.cx.sc.names.lookup x=some .cell) (hk:Γ.cx.slots[k]?=some x) (q:VR σ.ν a v) (d:∀H' tk,At Γ.toCf (fr.set k (some a)) st us h (σ.to H' tk)→Q () { σ.s with heap:=H',toks:=tk }):Γ.wp (storeName Γ.env x v) Q E σ.s:=by
 have s:=set_at (fr:=fr) (a:=a) Γ.nd hk
 have fin:∀H' tk b,(b=Γ.env.locals∨∃x,Γ.env.cells.lookup x=some b)→¬Foot σ.ν b→(∀c,c≠b→H'.get? c=σ.H.get? c)→(∃o,H'.get? b=some o∧∀vs,o.data≠.fields vs)→FRel Γ.env Γ.cx.slots (fr.set k (some a)) Γ.cx.slots (fr.set k (some a)) σ.ν H'→Q () { σ.s with heap:=H',toks:=tk }:=fun H' tk b hb nf hk' ho R=>by
  have x2:=mvST (H':=H') (n:=tk) g.S g.tr fun c o e=>by
   by_cases w:c=b
   ·exact .inl (w▸⟨(Γ.new b hb).1,(Γ.new b hb).2,nf,fun J=>ho⟩)
   ·exact .inr ((hk' c w).trans e)
  exact d H' tk ⟨x2.1,x2.2,by rw[Γ.lvs,Γ.lns];exact R,g.vs,fun c o z=>have w:=g.kp c o z;⟨(hk' c fun e=>(Γ.nk c o z).2 (e▸hb)).trans w.1,w.2⟩,g.nx⟩
 have R:=g.rel
 refine hx.elim (fun hx=>?_) fun hx=>?_
 ·exact R.storeL (lv':=fr.set k (some a)) (cv':=fr.set k (some a)) Γ.envK (Γ.envN.loc x hx) q s.1 (fun j y h1 h2=>s.2 j y h1 fun z=>h2.elim (fun h2=>nomatch (z▸h2).symm.trans (Γ.envN.loc x hx)) fun h2=>nomatch (z▸h2).symm.trans (Γ.envN.loc x hx)) fun H' hk' ho R'=>fin H' _ _ (.inl rfl) R.outL hk' ho R'
 ·exact R.storeC (lv':=fr.set k (some a)) (cv':=fr.set k (some a)) Γ.envK (Γ.envN.cel x hx) hk q (fun j y h1 h2=>s.2 j y h1 fun z=>nomatch (z▸h2).symm.trans (Γ.envN.cel x hx)) s.1 fun H' cc hcc hk' ho R'=>fin H' σ.s.toks cc (.inr ⟨x,hcc⟩) (R.outC x cc hcc).2 hk' ho R'
theorem var_is {cx:Cx}(h:kVar cx e=some k):∃x p,e=.Name x p∧(cx.sc.names.lookup x=some .local∨cx.sc.names.lookup x=some .cell)∧cx.slots[k]?=some x:=
 bnd h fun x hx h=>iff_ h fun q h=>(nm_is hx).elim fun p ep=>⟨x,p,ep,(or_ q).imp beq_iff_eq.mp beq_iff_eq.mp,ixOf_is h⟩
theorem sa_name (hk:kVar Γ.cx t=some k):SA Γ t (.st k::r) r:=fun K fr st us h σ a v Q g x d=>by
 obtain⟨y,p,rfl,hx,hk⟩:=var_is hk
 exact wpAny_assign_Name (store_name (g.pop g.vs.un.2) hx hk g.vs.un.1 fun H' tk g'=>d _ h (σ.to H' tk) g' x)
theorem sa_attr {y:Str}{j:Nat}(hk:attrOf y=some j) (he:SE Γ.toCf e l (.sattr j::r)):SA Γ (.Attribute e y pos) l r:=fun K fr st us h σ a v Q g x d=>by
 show wpAny _ _ _ _ _ _
 rw[arm_assign_Attribute]
 exact wpAny_bind (wpAny_holding (he K fr _ _ h σ _ g x fun b u h1 σ1 g1 x1=>wpAny_bind (wpAny_standAt (wpAny_bind (wpAny_holding ((attrOf_is hk).2▸l_setA g1.S g1.vs.un.2.un.1 (attrOf_is hk).1 (wO.to x1 fun h2 x2 σ2 S T=>wpAny_release (d fr h2 σ2 (g1.to S T (VRs.ext T.ext g1.vs.un.2.un.2)) x2)) g1.vs.un.1))))))
theorem sa_item (he:SE Γ.toCf ea l m) (hi:SE Γ.toCf eb m (.sitem::r)):SA Γ (.Subscript ea eb pos) l r:=fun K fr st us h σ a v Q g x d=>by
 show wpAny _ _ _ _ _ _
 rw[arm_assign_Subscript]
 exact wpAny_bind (wpAny_holding (he K fr _ _ h σ _ g x fun b u h1 σ1 g1 x1=>wpAny_bind (wpAny_holding (hi K fr _ _ h1 σ1 _ g1 x1 fun i w h2 σ2 g2 x2=>wpAny_bind (wpAny_standAt (wpAny_bind (wpAny_holding
  (l_setItem g2.S (wO.to x2 fun h3 x3 σ3 S T=>wpAny_release (d fr h3 σ3 (g2.to S T (VRs.ext T.ext g2.vs.un.2.un.2.un.2)) x3)) g2.vs.un.2.un.1 g2.vs.un.1 g2.vs.un.2.un.2.un.1))))))))
theorem sa_slice (he:SE Γ.toCf ea l m) (hi:SE Γ.toCf eb m m2) (hj:SE Γ.toCf ec m2 (.sslice::r)):SA Γ (.Subscript ea (.Slice (some eb) (some ec) none pos') pos) l r:=fun K fr st us h σ a v Q g x d=>by
 show wpAny _ _ _ _ _ _
 rw[arm_assign_Subscript]
 exact wpAny_bind (wpAny_holding (he K fr _ _ h σ _ g x fun b u h1 σ1 g1 x1=>wpAny_bind (wpAny_holding (wpAny_Slice (wpAny_evalPart_some (hi K fr _ _ h1 σ1 _ g1 x1 fun i w h2 σ2 g2 x2=>wpAny_evalPart_some (hj K fr _ _ h2 σ2 _ g2 x2 fun j y h3 σ3 g3 x3=>wpAny_evalPart_none
  (have g4:=At0.more (n:=σ3.s.toks) g3 (push_keeps _ _)
  wpAny_bind (wpAny_standAt (wpAny_bind (wpAny_holding (l_setSlice g4.S (wO.to x3 fun h5 x5 σ5 S T=>wpAny_release (d fr h5 σ5 (g4.to S T (VRs.ext T.ext g4.vs.un.2.un.2.un.2.un.2)) x5)) g4.vs.un.2.un.2.un.2.un.1 isSlice g4.vs.un.2.un.2.un.1 g4.vs.un.2.un.1 g4.vs.un.1))))))))))))
theorem tupN_k {n:Nat}{KT:List V→Prop}{G:Prop}(x:wO' (tupN a n h) KT) (k:∀i vs,a=.ref i→h[i]?=some (.tup vs)→vs.length=n→KT vs→G):G:=by
 cases a with
 | ref i=>
  have k:=k i
  have x:wO' (match h[i]? with
   | some (.tup vs)=>if vs.length=n then some vs else none
   | _=>none) KT:=x
  generalize h[i]?=o at x k
  cases o with
  | none=>exact x.elim
  | some o=>cases o with
   | tup vs=>exact O_if x fun hl x=>k vs rfl rfl hl x
   | _=>exact x.elim
 | _=>exact x.elim
theorem sa_tup {j:Nat}(hp:∀t∈ts,TPlain t) (hts:SAs Γ ts l r):SA Γ (.Tuple ts j pos) (.unt ts.length::l) r:=fun K fr st us h σ a v Q g x d=>
 tupN_k (wO.to x fun J z=>z) fun i vs ea ho hl y=>by
  subst ea
  refine tup_at g.S ho g.vs.un.1 fun p its n eu hp' J hg hv hz=>?_
  subst eu
  have q:∀{ts:List Expr},(∀t∈ts,TPlain t)→(assignEach ts Γ.env).length=ts.length∧(assignEach ts Γ.env).findIdx? (·.1)=none:=fun{ts} h=>by
   induction ts with
   | nil=>exact⟨rfl,rfl⟩
   | cons t ts ih=>
    have ih:=ih fun t q=>h t (.tail _ q)
    rw[h t (.head _)]
    exact⟨congrArg Nat.succ ih.1,by rw[List.findIdx?_cons,ih.2];rfl⟩
  refine wpAny_assign_Tuple Γ.handled (isTuple_of hg) ((q hp).1.trans (hl.symm.trans hz.symm)) (q hp).2 fun h'' he=>?_
  have g2:=At0.more (n:=σ.s.toks) g (fun b o z=>he b o (Nat.ne_of_lt (Heap.lt_size z)) z)
  exact hts K fr st us h _ vs its.toList Q hl (by rw[Array.length_toList,hz,hl]) (g2.pop (hv.append g2.vs.un.2)) y d
theorem sas_nil:SAs Γ [] r r:=fun K fr st us h σ vs ws Q e1 e2 g x d=>by
 rw[List.length_eq_zero_iff.mp e1]at g x
 rw[List.length_eq_zero_iff.mp e2]at g⊢
 exact assignInOrder_nil (d fr h σ g x)
theorem sas_cons (hp:TPlain t) (ht:SA Γ t l m) (hts:SAs Γ ts m r):SAs Γ (t::ts) l r:=fun K fr st us h σ vs ws Q e1 e2=>by
 rw[hp]
 refine lsucc e1 fun a vs e1=>lsucc e2 fun v ws e2=>?_
 exact fun g x d=>assignInOrder_cons (ht K fr (vs++st) (ws++us) h σ a v _ g x fun fr' h' σ' g' x'=>hts K fr' st us h' σ' vs ws Q e1 e2 g' x' d)
theorem tg_ok {c:Cp}(B:Ok c):∀(n:Nat) (t:Expr) (l r:List I),kTg c n Γ.cx t r=some l→SA Γ t l r∧TPlain t
 | 0,_,_,_,h=>(by contradiction)
 | n+1,t,l,r,h=>by
  have ih:=tg_ok B n
  have lst:∀{ts:List Expr} {l r:List I},kEs (kTg c n Γ.cx) ts r=some l→SAs Γ ts l r∧∀t∈ts,TPlain t:=fun{ts}=>by
   induction ts with
   | nil=>exact fun h=>Option.some.inj h▸⟨sas_nil,fun J h=>(by cases h)⟩
   | cons t ts it=>exact fun h=>bnd h fun m h1 h2=>have y:=it h1;have z:=ih _ _ _ h2;⟨sas_cons z.2 z.1 y.1,fun e q=>(List.mem_cons.mp q).elim (fun w=>w▸z.2) (y.2 e)⟩
  refine sh_c (C:=fun e s=>(match s with
  | .name _ _=>(kVar Γ.cx e).map fun k=>.st k::r
  | .attr e x _=>(attrOf x).bind fun k=>c.e Γ.cx e (.sattr k::r)
  | .sub e i _=>match slOf i with
   | some (a,b,s)=>if s.isNone then a.bind fun a=>b.bind fun b=>(c.e Γ.cx b (.sslice::r)).bind fun l=>(c.e Γ.cx a l).bind (c.e Γ.cx e)else none
   | none=>(c.e Γ.cx i (.sitem::r)).bind (c.e Γ.cx e)
  | .tup ts _ _=>(kEs (kTg c n Γ.cx) ts r).map fun l=>.unt ts.length::l
  | _=>none)=some l→SA Γ e l r∧TPlain e) (fun J h=>(by contradiction)) (fun s h=>?_) t h
  cases s with
  | name x p=>exact mp_ h fun k hk e=>e▸⟨sa_name hk,fun J J=>rfl⟩
  | attr e x p=>exact bnd h fun k hk h=>⟨sa_attr hk (B.e _ _ _ _ h),fun J J=>rfl⟩
  | sub e i p=>
   refine⟨?_,fun J J=>rfl⟩
   dsimp only at h
   cases q:slOf i with
   | none=>
    rw[q]at h
    exact bnd h fun m hb ha=>sa_item (B.e _ _ _ _ ha) (B.e _ _ _ _ hb)
   | some y=>
    rw[q]at h
    refine(slOf_is q).elim fun p' ei=>?_
    subst ei
    refine iff_ h fun q h=>bnd h fun a ea h=>bnd h fun b eb h=>bnd h fun m2 hj h=>bnd h fun m hi he=>?_
    rw[ea,eb,Option.isNone_iff_eq_none.mp q]
    exact sa_slice (B.e _ _ _ _ he) (B.e _ _ _ _ hi) (B.e _ _ _ _ hj)
  | tup ts k p=>exact mp_ h fun l' hl e=>e▸⟨sa_tup (lst hl).2 (lst hl).1,fun J J=>rfl⟩
  | _=>exact(by contradiction)
end
end Mine
namespace Mine
open PySem PySem.W PyProof.Rows PySem.SeqAt PySem.EqNone PySem.MeetsSeq PySem.Calls
abbrev Kx (Γ:Cb) (K:Kt) (r:List I) (Q:Flow→Shared→Prop):Prop:=∀fr h σ,At Γ.toCf fr [] [] h σ→go Γ.c Γ.P K r fr h []→Q .next σ.s
abbrev Kr (Γ:Cb) (Q:Flow→Shared→Prop):Prop:=∀fr a v h σ,At Γ.toCf fr [a] [v] h σ→Γ.P.T a h→Q (.ret v) σ.s
noncomputable def SS (Γ:Cb) (s:Stmt) (l r:List I):Prop:=∀(K:Kt) (fr:Fr) (h:Hp) (σ:Wd) (Q:Flow→Shared→Prop),At Γ.toCf fr [] [] h σ→go Γ.c Γ.P K l fr h []→Kx Γ K r Q→Kr Γ Q→Γ.wp (exec s Γ.env) Q Γ.E σ.s
noncomputable def SL (Γ:Cb) (ss:List Stmt) (l r:List I):Prop:=∀(K:Kt) (fr:Fr) (h:Hp) (σ:Wd) (Q:Flow→Shared→Prop),At Γ.toCf fr [] [] h σ→go Γ.c Γ.P K l fr h []→Kx Γ K r Q→Kr Γ Q→Γ.wp (execs ss Γ.env) Q Γ.E σ.s
noncomputable abbrev Cb.lp (Γ:Cb) (T:V→Hp→Prop) (n0:Nu) (k:Addr→Obj→Prop) (nk:∀b o,k b o→b∉framesOf Γ.fs∧¬(b=Γ.env.locals∨∃x,Γ.env.cells.lookup x=some b)) (E:Value→Shared→Prop):Cb where
 toCf0:={ Γ.toCf0 with P:=pL T,n0:=n0,keep:=fun b o=>Γ.keep b o∨k b o,nk:=fun b o q=>q.elim (Γ.nk b o) (nk b o) }
 E:=E
 hE:=fun J J J J J J J J J J J J J q=>q.elim
 fs':=Γ.fs'
 efs:=Γ.efs
 frames:=Γ.frames
 frame:=Γ.frame
 noC:=Γ.noC
 nd:=Γ.nd
 new:=Γ.new
 hZ:=fun J J J J J J J J J J J q=>q.elim
section
variable {Γ:Cb}{K:Kt}{fr fr':Fr}{st:List V}{us:List Value}{h h':Hp}{σ σ':Wd}{Q:Flow→Shared→Prop}{E:Value→Shared→Prop}{a b:V}{u v:Value}{l m r A B tl bl:List I}{pos pos':Pos}{e t:Expr}{s:Stmt}{ss p q:List Stmt}{T:V→Hp→Prop}{k:Addr→Obj→Prop}{nk:∀b o,k b o→b∉framesOf Γ.fs∧¬(b=Γ.env.locals∨∃x,Γ.env.cells.lookup x=some b)}{n0:Nu}
theorem fe_of {Γ':Cb}(R:FRel Γ'.env Γ'.cx.slots fr Γ'.cx.slots fr σ.ν σ.H):FRel Γ'.env Γ'.cx.ln (Γ'.lv fr) Γ'.cx.slots fr σ.ν σ.H:=by rw[Γ'.lvs,Γ'.lns];exact R
theorem At0.lp (g:At Γ.toCf fr st us h σ) (q:∀b o,k b o→σ.H.get? b=some o∧¬Foot σ.ν b) (n:∀(i:Nat) (p:Addr×Addr),n0[i]?=some p→σ.ν[i]?=some p):At (Γ.lp T n0 k nk E).toCf fr st us h σ:=⟨g.S,g.tr,fe_of (Γ':=Γ.lp T n0 k nk E) g.rel,g.vs,fun b o z=>z.elim (g.kp b o) (q b o),n⟩
theorem At0.unlp (g:At (Γ.lp T n0 k nk E).toCf fr st us h σ) (n:∀(i:Nat) (p:Addr×Addr),Γ.n0[i]?=some p→n0[i]?=some p):At Γ.toCf fr st us h σ:=⟨g.S,g.tr,fe_of (At0.rel (Γ:=Γ.lp T n0 k nk E) g),g.vs,fun b o z=>g.kp b o (.inl z),fun i p e=>g.nx i p (n i p e)⟩
theorem ss_ret (he:SE Γ.toCf e l (.ret::r)):SS Γ (.Return (some e) pos) l r:=fun K fr h σ Q g x kx kr=>wpAny_Return_some (he K fr [] [] h σ _ g x fun a v h' σ' g' x'=>kr fr a v h' σ' g' x')
theorem ss_ret0:SS Γ (.Return none pos) (.push .none::.ret::r) r:=fun K fr h σ Q g x kx kr=>wpAny_Return_none (kr fr .none .none h σ (g.pop (.cons rfl .nil)) x)
theorem ss_ex (he:SE Γ.toCf e l (.pop::r)) (hs:swapsWith e none pos.line Γ.env=pure false):SS Γ (.Expr e pos) l r:=fun K fr h σ Q g x kx kr=>
 wpAny_Expr (he K fr [] [] h σ _ g x fun a v h' σ' g' x'=>by
  have y:=g'.vs.un.1
  have g2:=g'.pop .nil
  cases a with
  | none=>exact VR.none y (kx _ _ _ g2 x')
  | bool b=>rw[show v=.bool b from y];exact kx _ _ _ g2 x'
  | int i=>exact VR.int y fun J=>kx _ _ _ g2 x'
  | str i=>exact VR.str y fun J J=>kx _ _ _ g2 x'
  | ref i=>exact False.elim x') (by unfold interactive;rw[Γ.envK];rfl) hs
theorem sl_nil:SL Γ [] r r:=fun K fr h σ Q g x kx kr=>wpAny_execs_nil (kx fr h σ g x)
theorem sl_cons (h1:SS Γ s l m) (h2:SL Γ ss m r):SL Γ (s::ss) l r:=fun K fr h σ Q g x kx kr=>wpAny_execs_cons (h1 K fr h σ _ g x (fun fr h σ g x=>h2 K fr h σ Q g x kx kr) fun fr a v h σ g x=>kr fr a v h σ g x)
theorem ss_ite (ht:ST Γ.toCf t l (.br A B::r)) (hp:SL Γ p A []) (hq:SL Γ q B []):SS Γ (.If t p q pos) l r:=fun K fr h σ Q g x kx kr=>
 wpAny_If (ht K fr [] [] h σ _ bd_br g x fun b h' σ' g' x'=>by
  cases b with
  | true=>exact hp _ fr h' σ' Q g' (wB_t x') kx kr
  | false=>exact hq _ fr h' σ' Q g' (wB_f x') kx kr)
noncomputable abbrev Cb.l0 (Γ:Cb) (T:V→Hp→Prop) (n0:Nu) (k:Addr→Obj→Prop) (nk:∀b o,k b o→b∉framesOf Γ.fs∧¬(b=Γ.env.locals∨∃x,Γ.env.cells.lookup x=some b)):Cf0:=(Γ.lp T n0 k nk fun J J=>True).toCf0
theorem SL.lp (hp:∀Γ':Cb,Γ'.cx=Γ.cx→SL Γ' p bl []) (g:At0 (Γ.l0 T n0 k nk) fr [] [] h σ) (x:go Γ.c (pL T) K bl fr h []) (kx:∀fr h σ,At0 (Γ.l0 T n0 k nk) fr [] [] h σ→K fr h []→Q .next σ.s) (kr:∀fr a v h σ,At0 (Γ.l0 T n0 k nk) fr [a] [v] h σ→T a h→Q (.ret v) σ.s):Γ.wp (execs p Γ.env) Q E σ.s:=hp (Γ.lp T n0 k nk E) rfl K fr h σ Q g x kx kr
theorem ST.lp {QB:Bool→Shared→Prop}(ht:∀Γ':Cb,Γ'.cx=Γ.cx→ST Γ'.toCf t tl []) (g:At0 (Γ.l0 T n0 k nk) fr [] [] h σ) (bd:∀v fr h st,K fr h (v::st)→∃b,v=.bool b) (x:go Γ.c (pL T) K tl fr h []) (kb:∀b h' σ',At0 (Γ.l0 T n0 k nk) fr [] [] h' σ'→K fr h' [.bool b]→QB b σ'.s):Γ.wp (isTrue t Γ.env (eval t Γ.env)) QB E σ.s:=ht (Γ.lp T n0 k nk E) rfl K fr [] [] h σ QB bd g x kb
noncomputable def WI (Γ:Cb) (K:Kt) (tl bl r:List I) (n:Nat) (s:Shared):Prop:=∃fr h σ,σ.s=s∧At Γ.toCf fr [] [] h σ∧wW (fun fr h K=>go Γ.c (pL fun J=>no) K tl fr h []) (fun fr h K=>go Γ.c (pL Γ.P.T) K bl fr h []) (kr (go Γ.c Γ.P K r) []) n fr h
theorem whl_turn {n:Nat}{s:Shared}{QF QX:Flow→Shared→Prop}(ht:∀Γ':Cb,Γ'.cx=Γ.cx→ST Γ'.toCf t tl []) (hp:∀Γ':Cb,Γ'.cx=Γ.cx→SL Γ' p bl []) (I:WI Γ K tl bl r n s) (q1:∀s,(∃m,m<n∧WI Γ K tl bl r m s)→QF .next s) (q2:Kr Γ QF) (q3:Kx Γ K r QX) :
  Γ.wp (isTrue t Γ.env (eval t Γ.env)) (fun b s₂=>if b then Γ.wp (execs p Γ.env) QF E s₂ else Γ.wp (execs [] Γ.env) QX E s₂) E s:=by
 obtain⟨fr,h,σ,rfl,g,x⟩:=I
 cases n with
 | zero=>exact False.elim x
 | succ n=>
  have lp {T:V→Hp→Prop} {h σ} (g:At Γ.toCf fr [] [] h σ):At0 (Γ.l0 T Γ.n0 (fun J J=>False) fun J J q=>q.elim) fr [] [] h σ:=g.lp (E:=fun J J=>True) (fun J J q=>q.elim) g.nx
  have un {T:V→Hp→Prop} {fr st us h σ} (g:At0 (Γ.l0 T Γ.n0 (fun J J=>False) fun J J q=>q.elim) fr st us h σ):At Γ.toCf fr st us h σ:=At0.unlp (E:=fun J J=>True) g fun J J e=>e
  refine ST.lp ht (T:=fun J=>no) (lp g) ?_ x fun b h1 σ1 g1 x1=>?_
  ·exact fun J J J J x=>wB_bd x
  cases b with
  | true=>exact SL.lp hp (lp (un g1)) (wB_t x1) (fun fr h σ g x=>q1 _ ⟨n,Nat.lt_succ_self n,fr,h,σ,rfl,un g,x⟩) fun fr a v h σ g x=>q2 fr a v h σ (un g) x
  | false=>exact wpAny_execs_nil (q3 fr h1 σ1 (un g1) (wB_f x1))
theorem ss_whl (ht:∀Γ':Cb,Γ'.cx=Γ.cx→ST Γ'.toCf t tl []) (hp:∀Γ':Cb,Γ'.cx=Γ.cx→SL Γ' p bl []):SS Γ (.While t p [] pos) (.whl tl bl::r) r:=fun K fr h σ Q g x kx kr=>
 wpAny_While (codeAny_whileLoop (WI Γ K tl bl r) (fun n s hI=>whl_turn ht hp hI (fun J q=>q) kr kx) turns ⟨fr,h,σ,rfl,g,x⟩)
noncomputable def FT (cx:Cx) (tg:Expr) (m:Nat) (bind:List V→Fr→Fr):Prop:=∀(Γ:Cb),Γ.cx=cx→∀(fr:Fr) (h:Hp) (σ:Wd) (vs ws:List V) (v:Value) (Q:Unit→Shared→Prop) (E:Value→Shared→Prop),At Γ.toCf fr [] [] h σ→ItemR σ.ν σ.H vs v→unpackN m vs h=some ws→
 (∀H' tk,At Γ.toCf (bind ws fr) [] [] h (σ.to H' tk)→Q () { σ.s with heap:=H',toks:=tk })→Γ.wp (assign tg Γ.env v) Q E σ.s
theorem ft_one {cx:Cx}{i:Nat}(hk:kVar cx t=some i):FT cx t 1 (bind1 i):=fun Γ e fr h σ vs ws v Q E g I hu d=>item1 I hu fun a ew q=>by
 subst e ew
 obtain⟨y,p,rfl,hx,hk⟩:=var_is hk
 exact wpAny_assign_Name (store_name g hx hk q d)
theorem ft_two {cx:Cx}{i j kk:Nat}{y:Expr}(hk:kVar cx t=some i) (hj:kVar cx y=some j):FT cx (.Tuple [t,y] kk pos) 2 (bind2 i j):=fun Γ e fr h σ vs ws v Q E g I hu d=>item2 g.S I hu fun a b T u1 u2 ew ev hT q1 q2=>by
 subst e ew ev
 obtain⟨x1,p1,rfl,hx1,hk1⟩:=var_is hk
 obtain⟨x2,p2,rfl,hx2,hk2⟩:=var_is hj
 refine wpAny_assign_Tuple Γ.handled hT rfl rfl fun h' he=>assignInOrder_cons (wpAny_assign_Name ?_)
 have g1:=At0.more (n:=σ.s.toks) g (fun b o z=>he b o (Nat.ne_of_lt (Heap.lt_size z)) z)
 exact store_name (σ:=σ.to h' σ.s.toks) g1 hx1 hk1 q1 fun H2 tk2 g2=>assignInOrder_cons (wpAny_assign_Name (store_name (σ:=σ.to H2 tk2) g2 hx2 hk2 q2 fun H3 tk3 g3=>assignInOrder_nil (d H3 tk3 g3)))
noncomputable def FI (Γ:Cb) (K:Kt) (m:Nat) (bind:List V→Fr→Fr) (bl r:List I) (it:Addr) (ow:List Addr) (n:Nat) (s:Shared):Prop:=∃is fr h σ,σ.s=s∧At Γ.toCf fr [] [] h σ∧IR σ.ν σ.H it is ow∧(∀b∈ow,Ows Γ.toCf0 σ.ν b)∧wF m bind (fun fr h K=>go Γ.c (pL Γ.P.T) K bl fr h []) (kr (go Γ.c Γ.P K r) []) n is fr h
theorem for_turn {tg:Expr}{m n:Nat}{bind:List V→Fr→Fr}{it:Addr}{ow:List Addr}{s:Shared}{QF QX:Flow→Shared→Prop}{QO:Option Value→Shared→Prop}{E':Value→Shared→Prop}(htg:TgN tg m) (hft:FT Γ.cx tg m bind) (hp:∀Γ':Cb,Γ'.cx=Γ.cx→SL Γ' p bl []) (I:FI Γ K m bind bl r it ow n s) (q1:∀s,(∃m',m'<n∧FI Γ K m bind bl r it ow m' s)→QF .next s) (q2:Kr Γ QF) (q3:Kx Γ K r QX)
  (q4:∀s,Γ.wp (execs [] Γ.env) QX E s→QO none s) (q5:∀v s,Γ.wp (letOwnedTupleGo tg (.ref it) v) (fun J s=>Γ.wp (assign tg Γ.env v) (fun J s=>Γ.wp (execs p Γ.env) QF E s) E s) E s→QO (some v) s):Γ.wp (pyNext (.ref it)) QO E' s:=by
 obtain⟨is,fr,h,σ,rfl,g,ir,O,x⟩:=I
 cases n with
 | zero=>exact False.elim x
 | succ n=>
  refine l_next (E':=E) (QS:=fun v s=>Γ.wp (assign tg Γ.env v) (fun J s=>Γ.wp (execs p Γ.env) QF E s) E s) (QN:=fun s=>Γ.wp (execs [] Γ.env) QX E s) g ir O htg (wO.to x fun J y=>y) ⟨fun H' tk g z=>wpAny_execs_nil (q3 fr h (σ.to H' tk) g z),fun vs is' ws H' tk v g I' O' itm hu z=>?_⟩ q4 q5
  have gn:=g.nx
  have g3:=At0.lp (T:=Γ.P.T) (n0:=σ.ν) (k:=fun b o=>b∈ow∧H'.get? b=some o) (nk:=fun b o q=>⟨(O' b q.1).nr,(O' b q.1).nl⟩) (E:=fun J J=>True) g (fun b o q=>⟨q.2,(O' b q.1).nf⟩) fun J J e=>e
  refine hft (Γ.lp Γ.P.T σ.ν (fun b o=>b∈ow∧H'.get? b=some o) (fun b o q=>⟨(O' b q.1).nr,(O' b q.1).nl⟩) fun J J=>True) rfl fr h (σ.to H' tk) vs ws v _ _ g3 itm hu fun H2 tk2 g4=>?_
  refine SL.lp hp g4 z (fun fr h σ' g x=>q1 _ ?_) fun fr a v h σ g x=>q2 fr a v h σ (At0.unlp (E:=fun J J=>True) g gn) x
  exact⟨n,Nat.lt_succ_self n,is',fr,h,σ',rfl,At0.unlp (E:=fun J J=>True) g gn,I'.keeps (fun b hb o e=>(g.kp b o (.inr ⟨hb,e⟩)).1) g.nx,fun b hb=>{ O' b hb with nf:=(match q:H'.get? b with | none=>absurd q (I'.live b hb) | some o=>(g.kp b o (.inr ⟨hb,q⟩)).2) },x⟩
theorem ss_for {tg it:Expr}{m:Nat}{bind:List V→Fr→Fr}{f:Mk→List I}(htg:TgN tg m) (hft:FT Γ.cx tg m bind) (hfs:∀env v,foldedSetIterable it env v=pure v) (hi:SI Γ.toCf it l f) (hf:∀K k fr h st,go Γ.c Γ.P K (f k) fr h st=wK k st h (kfo m bind (fun fr h K=>go Γ.c (pL Γ.P.T) K bl fr h []) fr (go Γ.c Γ.P K r))) (hp:∀Γ':Cb,Γ'.cx=Γ.cx→SL Γ' p bl []):SS Γ (.For tg it p [] pos) l r:=fun K fr h σ Q g x kx kr=>
 wpAny_For (hi K fr [] [] h σ _ _ (fun k h st=>hf K k fr h st) g x fun v is ow h1 σ1 g1 iv O z=>l_iter g1 iv O fun it ow σ2 g2 ir O2=>
  codeAny_forLoop_any (FI Γ K m bind bl r it ow) (fun n s hI=>for_turn htg hft hp hI (by exact fun J q=>q) (by exact kr) (by exact kx) (fun J q=>q) fun J J q=>q) turns ⟨is,fr,h1,σ2,rfl,g2,ir,O2,z⟩) (hfs _)
end
end Mine
namespace Mine
open PySem PySem.W PyProof.Rows PySem.SeqAt PySem.EqNone PySem.MeetsSeq PySem.Calls
section
variable {Γ:Cb}{K:Kt}{fr:Fr}{st:List V}{us:List Value}{h:Hp}{σ:Wd}{l m r b:List I}{pos p0 p p':Pos}{e t:Expr}{ts vs:List Expr}{x:Str}{k j j':Nat}{c:Cp}{ks:List (Str×Nat)}{as:List V}{ws:List Value}{ν:Nu}
theorem ss_plain (hp:TPlain t) (hs:swapsWithSole [t] e pos.line Γ.env=pure false) (hw:swappedStores [t] e Γ.env=pure none) (ht:SA Γ t m r) (he:SE Γ.toCf e l m):SS Γ (.Assign [t] e pos) l r:=fun K fr h σ Q g x kx kr=>
 wpAny_Assign_stores (he K fr [] [] h σ _ g x fun a v h' σ' g' x'=>by
  rw[hp]
  show Γ.wp (assign t Γ.env v) _ _ _
  exact ht K fr [] [] h' σ' a v _ g' x' fun fr h σ g x=>kx fr h σ g x) hs hw
noncomputable def sets (ks:List (Str×Nat)) (as:List V) (fr:Fr):Fr:=match ks with
 | []=>fr
 | k::ks=>match as with
  | []=>fr
  | a::as=>sets ks as (fr.set k.2 (some a))
theorem go_sets:∀{ks:List (Str×Nat)}{as:List V}{fr:Fr},as.length=ks.length→go Γ.c Γ.P K (ks.map (fun k=>I.st k.2)++r) fr h (as++st)→go Γ.c Γ.P K r (sets ks as fr) h st
 | [],[],fr,_,x=>x
 | k::ks,a::as,fr,e,x=>go_sets (ks:=ks) (as:=as) (fr:=fr.set k.2 (some a)) (Nat.succ.inj e) x
structure Nms (cx:Cx) (ts:List Expr) (ks:List (Str×Nat)):Prop where
 nm:ts.filterMap nmOf=ks.map (·.1)
 len:ks.length=ts.length
 at':∀p∈ks,(cx.sc.names.lookup p.1=some .local∨cx.sc.names.lookup p.1=some .cell)∧cx.slots[p.2]?=some p.1
theorem nms_of {n:Nat}{cx:Cx}(hn:∀t∈ts,∃x p,t=.Name x p) (hl:kEs (kTg c (n+1) cx) ts r=some l):∃ks,Nms cx ts ks∧l=ks.map (fun k=>I.st k.2)++r:=by
 induction ts generalizing l with
 | nil=>exact⟨[],⟨rfl,rfl,fun J h=>(by contradiction)⟩,(Option.some.inj hl).symm⟩
 | cons t ts ih=>
  refine bnd hl fun m h1 h2=>(ih (fun t q=>hn t (.tail _ q)) h1).elim fun ks q=>(hn t (.head _)).elim fun x y=>y.elim fun p e=>?_
  subst e
  refine mp_ h2 fun k hk e=>(var_is hk).elim fun y z=>z.elim fun p' z=>?_
  have e1:x=y:=congrArg (fun e=>(nmOf e).getD x) z.1
  subst e1
  exact⟨(x,k)::ks,⟨by rw[List.filterMap_cons];exact congrArg (x::·) q.1.nm,congrArg Nat.succ q.1.len,fun p hp=>(List.mem_cons.mp hp).elim (fun e=>e▸z.2) (q.1.at' p)⟩,e▸congrArg (I.st k::·) q.2⟩
theorem sets_comm {k:Str×Nat}{a:V}:∀{ks:List (Str×Nat)}{as:List V}{fr:Fr},(∀q∈ks,q.2≠k.2)→sets ks as (fr.set k.2 (some a))=(sets ks as fr).set k.2 (some a)
 | [],_,_,_=>rfl
 | _::_,[],_,_=>rfl
 | q::ks,b::as,fr,h=>by
  show sets ks as ((fr.set k.2 (some a)).set q.2 (some b))=(sets ks as (fr.set q.2 (some b))).set k.2 (some a)
  rw[List.set_comm _ _ (Ne.symm (h q (.head _))),sets_comm fun z hz=>h z (.tail _ hz)]
theorem store_rev {E:Value→Shared→Prop}(ha:∀p∈ks,(Γ.cx.sc.names.lookup p.1=some .local∨Γ.cx.sc.names.lookup p.1=some .cell)∧Γ.cx.slots[p.2]?=some p.1) (hn:(ks.map (·.2)).Nodup) (hv:VRs ν as ws) (hl:as.length=ks.length) :
  ∀{fr h σ} {fs:List (Value→Sem Unit)} {us:List Value} {Q:Unit→Shared→Prop},σ.ν=ν→At Γ.toCf fr [] [] h σ→(∀σ',σ'.ν=ν→At Γ.toCf (sets ks as fr) [] [] h σ'→Γ.wp (assignInOrder fs us) Q E σ'.s)→Γ.wp (assignInOrder ((ks.map fun p=>bindName Γ.env p.1).reverse++fs) (ws.reverse++us)) Q E σ.s:=by
 induction ks generalizing as ws with
 | nil=>
  refine lzero (P:=fun as=>VRs ν as ws→∀{fr h σ} {fs:List (Value→Sem Unit)} {us:List Value} {Q:Unit→Shared→Prop},σ.ν=ν→At Γ.toCf fr [] [] h σ→(∀σ',σ'.ν=ν→At Γ.toCf (sets [] as fr) [] [] h σ'→Γ.wp (assignInOrder fs us) Q E σ'.s)→Γ.wp (assignInOrder ([]++fs) (ws.reverse++us)) Q E σ.s) hl (fun hv {fr h σ fs us Q} e g d=>?_) hv
  rw[nil_of hv]
  exact d σ e g
 | cons k ks ih=>
  cases as with
  | nil=>exact(by contradiction)
  | cons a as=>
   have q:=List.nodup_cons.mp hn
   intro fr h σ fs us Q e g d
   refine cons_of hv fun w r e1 xa xs=>?_
   subst e1
   rw[List.map_cons,List.reverse_cons,List.reverse_cons,List.append_assoc,List.append_assoc]
   refine ih (fun p hp=>ha p (.tail _ hp)) q.2 xs (Nat.succ.inj hl) e g fun σ' e' g'=>?_
   exact assignInOrder_cons (wpAny_bindName (store_name g' (ha k (.head _)).1 (ha k (.head _)).2 (e'.symm▸xa) fun H' tk g2=>d (σ'.to H' tk) e' (by
    show At Γ.toCf (sets ks as (fr.set k.2 (some a))) [] [] h (σ'.to H' tk)
    rw[sets_comm (k:=k) fun z hz e=>q.1 (List.mem_map.mpr ⟨z,hz,e⟩)]
    exact g2)))
theorem slots_nd {sl:List Str}:∀{ks:List (Str×Nat)},(∀p∈ks,sl[p.2]?=some p.1)→(ks.map (·.1)).Nodup→(ks.map (·.2)).Nodup:=by
 intro J1
 induction J1 with
 | nil=>
  intro J J
  exact List.nodup_nil
 | cons k ks J8=>
  intro h hn
  exact have q:=List.nodup_cons.mp hn
   List.nodup_cons.mpr ⟨fun m=>(List.mem_map.mp m).elim fun z hz=>q.1 (List.mem_map.mpr ⟨z,hz.1,Option.some.inj ((h z (.tail _ hz.1)).symm.trans (hz.2▸h k (.head _)))⟩),J8 (fun p hp=>h p (.tail _ hp)) q.2⟩
theorem ss_swapped {n:Nat}{names:List Str}(hl:kEs (kTg c (n+1) Γ.cx) ts r=some m) (hw:swappedStores [.Tuple ts j p] (.Tuple vs j' p') Γ.env=pure (some names)) (hnm:∀t∈ts,∃x p,t=.Name x p) (hnames:names=ts.filterMap nmOf) (hnd:(ts.filterMap nmOf).Nodup) (he:SE Γ.toCf (.Tuple vs j' p') l (.unt ts.length::m)):SS Γ (.Assign [.Tuple ts j p] (.Tuple vs j' p') pos) l r:=fun K fr h σ Q g x kx kr=>by
 obtain⟨ks,q,rfl⟩:=nms_of hnm hl
 refine Assign_Tuple_swapped (he K fr [] [] h σ _ g x fun a v h' σ' g' x'=>?_) rfl hw
 refine tupN_k (wO.to x' fun J z=>z) fun i as ea ho hal y=>?_
 subst ea
 refine tup_at g'.S ho g'.vs.un.1 fun pp its z eu hp' J hg hv hz=>?_
 subst eu
 rw[show names.length=its.size by rw[hnames,q.nm,List.length_map,q.len,hz,hal]]
 refine wpAny_unpackItems_tuple Γ.handled (isTuple_of hg) fun h'' he'=>?_
 have g2:=At0.pop (At0.more (n:=σ'.s.toks) g' (fun b o z=>he' b o (Nat.ne_of_lt (Heap.lt_size z)) z)) (.nil:VRs σ'.ν [] [])
 rw[hnames,q.nm,← List.map_reverse,List.map_map,List.map_reverse]
 have:=store_rev (E:=Γ.E) (Q:=fun J=>Q .next) (σ:=σ'.to h'' σ'.s.toks) (fs:=[]) (us:=[]) q.at' (slots_nd (fun p hp=>(q.at' p hp).2) (q.nm▸hnd)) hv (hal.trans q.len.symm) rfl g2 fun σ' e g=>assignInOrder_nil (kx _ h' σ' g (go_sets (st:=[]) (hal.trans q.len.symm) y))
 rwa[List.append_nil,List.append_nil]at this
theorem filterMap_full {α β:Type}{f:α→Option β}{l:List α}(hl:(l.filterMap f).length=l.length):∀a∈l,∃y,f a=some y:=by
 induction l with
 | nil=>exact fun J h=>(by contradiction)
 | cons x l ih=>
  rw[List.filterMap_cons]at hl
  cases q:f x with
  | none=>
   rw[q]at hl
   exact absurd (hl▸List.length_filterMap_le f l) (Nat.not_succ_le_self _)
  | some y=>
   rw[q]at hl
   exact fun a ha=>(List.mem_cons.mp ha).elim (fun z=>z▸⟨y,q⟩) (ih (Nat.succ.inj hl) a)
theorem filterMap_agree {α β:Type}{f g:α→Option β}{l:List α}(h:∀a∈l,f a=g a):l.filterMap f=l.filterMap g:=by
 induction l with
 | nil=>rfl
 | cons x l ih=>rw[List.filterMap_cons,List.filterMap_cons,h x (.head _),ih fun a ha=>h a (.tail _ ha)]
theorem nameF (c:Str→Pos→Bool) (t:Expr):Option.elim (match t with
  | .Name id pos=>if c id pos then some id else none
  | _=>none) True (fun y=>nmOf t=some y):=by
 cases t<;>first | exact True.intro | (dsimp only;cases c _ _<;>first | exact True.intro | rfl)
theorem swapped_is {env:Env}(hc:vs.all (constantsAlone 8)=false):swappedStores [.Tuple ts j p] (.Tuple vs j' p') env=pure none∨
  ∃names,swappedStores [.Tuple ts j p] (.Tuple vs j' p') env=pure (some names)∧(∀t∈ts,∃x p,t=.Name x p)∧names=ts.filterMap nmOf:=by
 delta swappedStores
 dsimp only
 split
 ·exact .inl rfl
 split
 ·exact .inl rfl
 split
 ·exact .inl rfl
 rename_i h3
 split
 ·exact .inl rfl
 split
 ·rename_i h5;rw[hc]at h5;contradiction
 have full:=filterMap_full (Decidable.not_not.mp fun z=>h3 (by rw[bne_iff_ne.mpr z];rfl))
 refine .inr ⟨_,rfl,fun t ht=>?_,filterMap_agree fun t ht=>?_⟩
 ·obtain⟨y,hy⟩:=full t ht
  exact(nm_is (Eq.mp (congrArg (fun o=>Option.elim o True fun y=>nmOf t=some y) hy) (nameF (fun id pos=>env.kindOf id==some .local&&pos.line==(ts.head?.map (·.pos.line)).getD 0) t))).elim fun p e=>⟨y,p,e⟩
 ·obtain⟨y,hy⟩:=full t ht
  exact hy.trans (Eq.mp (congrArg (fun o=>Option.elim o True fun y=>nmOf t=some y) hy) (nameF (fun id pos=>env.kindOf id==some .local&&pos.line==(ts.head?.map (·.pos.line)).getD 0) t):nmOf t=some y).symm
end
end Mine
namespace Mine
open PySem PySem.W PyProof.Rows PySem.SeqAt PySem.EqNone PySem.MeetsSeq PySem.Calls
section
variable {Γ:Cb}{l m r b:List I}{pos p0 p:Pos}{e t tg elt iter:Expr}{ifs:List Expr}{x:Str}{k n:Nat}{sc:Scope}{ns:List Str}{ν:Nu}
theorem foot_app {D c:Addr}(h:Foot (ν++[(D,D)]) c):Foot ν c∨c=D:=h.elim fun q y=>(List.mem_append.mp y.1).imp (fun z=>⟨q,z,y.2⟩) fun z=>by
 have y:=y.2
 rw[List.mem_singleton.mp z]at y
 exact y.elim id id
theorem ss_used (hk:kVar Γ.cx (.Name x p0)=some k) (hsw:swapsWith (.ListComp elt [⟨tg,iter,ifs,0⟩] sc p) (some (.Name x p0)) pos.line Γ.env=pure true) (y:Cps Γ.cx elt sc l (.st k::r) tg iter ifs ns b):SS Γ (.Assign [.Name x p0] (.ListComp elt [⟨tg,iter,ifs,0⟩] sc p) pos) l r:=by
 intro K fr h σ Q g x' kx kr
 have ok:=scopeOk_is y.ok
 show wpAny _ _ _ _ _ _
 rw[exec_Assign_Name_used _ _ _ _ hsw]
 refine wpAny_bind (wpAny_standAt (wpAny_bind ?_))
 rw[arm_evalThenUse_ListComp]
 refine wpAny_bind ?_
 show wpAny _ _ (comprehension (.ListComp elt [⟨tg,iter,ifs,0⟩] sc p) sc Γ.env (firstIterPos [⟨tg,iter,ifs,0⟩] p) (newList []) false (eval iter Γ.env) (some (assign (.Name x p0) Γ.env))) _ _ _
 refine wpAny_comprehension_free (g:=⟨tg,iter,ifs,0⟩) (gs:=[]) rfl (y.fs _) (closureFor_is (ok.cells Γ.envN g.fe)) ok.kind ok.loc ?_
 refine y.si (Γ.toCf.also g (fun J J=>False) fun J J q=>q.elim) rfl K fr [] [] h σ _ (kci (fun fr ws h K=>go Γ.c (pC ws) K b fr h []) ns.length fr (go Γ.c Γ.P K (.st k::r))) (fun J J J=>rfl) (g.also fun J J q=>q.elim) x' fun v is ow h1 σ1 g1 iv O z=>?_
 refine comp_core (Γ:=(Γ.toCf.also g (fun J J=>False) fun J J q=>q.elim).toCf0) ok y.lp g1 iv O z fun σ' acc h' D Ca m S' T' oD oC dc a hm q=>?_
 refine C_if (C.to q fun J J z=>z) fun hl q=>a.elim fun vs a=>a.elim fun n a=>?_
 have y2:=adopt (s₂:=σ'.s) g.S T' S' oD.new oD.nf (fun J J J e=>e) (.list rfl hl a.1 a.2.mono) rfl rfl
 have nf:¬Foot (σ'.ν++[(D,D)]) Ca:=fun w=>(foot_app w).elim oC.nf (Ne.symm dc)
 have g2:At Γ.toCf fr [] [] (h'++[.list acc]) ⟨σ'.ν++[(D,D)],σ'.s⟩:=g.to y2.1 y2.2.1 .nil
 have oC':Ows Γ.toCf0 (σ'.ν++[(D,D)]) Ca:=⟨g.tr.free g.S.hr oC.new,oC.low,nf,fun o w=>oC.nk o (.inl w),oC.nr,oC.nl⟩
 have g3:=At0.lp (T:=Γ.P.T) (n0:=Γ.n0) (k:=fun b o=>b=Ca∧σ'.H.get? b=some o) (nk:=fun b o w=>w.1▸⟨oC.nr,oC.nl⟩) (E:=fun J J=>True) g2 (fun b o w=>⟨w.2,w.1▸nf⟩) g2.nx
 obtain⟨y',p',e,hx,hk'⟩:=var_is hk
 have e1:x=y':=congrArg (fun e=>(nmOf e).getD x) e
 subst e1
 show Γ.wp (assign (.Name x p0) Γ.env (.ref D)) _ _ _
 refine wpAny_assign_Name (store_name (Γ:=Γ.lp Γ.P.T Γ.n0 (fun b o=>b=Ca∧σ'.H.get? b=some o) (fun b o w=>w.1▸⟨oC.nr,oC.nl⟩) fun J J=>True) (σ:=⟨σ'.ν++[(D,D)],σ'.s⟩) g3 hx hk' y2.2.2 fun H' tk g4=>⟨m,hm.at fun o ho=>(g4.kp _ _ (.inr ⟨rfl,ho⟩)).1,fun h'' hsb=>?_⟩)
 refine wpAny_pure (wpAny_pure (kx _ _ (Wd.to ⟨σ'.ν++[(D,D)],σ'.s⟩ h'' tk) (At0.mv (σ:=Wd.to ⟨σ'.ν++[(D,D)],σ'.s⟩ H' tk) (At0.unlp (E:=fun J J=>True) g4 fun J J e=>e) fun b o e=>?_) q))
 by_cases w:b=Ca
 ·exact .inl (w▸oC')
 ·exact .inr ((hsb.2 b w).trans e)
theorem tshape {c:Cp}(h:kTg c (n+1) Γ.cx t r=some m):(∃x p,t=.Name x p)∨(∃ts j p,t=.Tuple ts j p)∨((∀e env,swappedStores [t] e env=pure none)∧∀a gs sc p line env,swapsWith (.ListComp a gs sc p) (some t) line env=pure false):=
 sh_c (C:=fun e s=>(match s with
  | .name _ _=>(kVar Γ.cx e).map fun k=>.st k::r
  | .attr e x _=>(attrOf x).bind fun k=>c.e Γ.cx e (.sattr k::r)
  | .sub e i _=>match slOf i with
   | some (a,b,s)=>if s.isNone then a.bind fun a=>b.bind fun b=>(c.e Γ.cx b (.sslice::r)).bind fun l=>(c.e Γ.cx a l).bind (c.e Γ.cx e)else none
   | none=>(c.e Γ.cx i (.sitem::r)).bind (c.e Γ.cx e)
  | .tup ts _ _=>(kEs (kTg c n Γ.cx) ts r).map fun l=>.unt ts.length::l
  | _=>none)=some m→(∃x p,e=.Name x p)∨(∃ts j p,e=.Tuple ts j p)∨((∀v env,swappedStores [e] v env=pure none)∧∀a gs sc p line env,swapsWith (.ListComp a gs sc p) (some e) line env=pure false)) (fun J h=>(by contradiction)) (fun s h=>by
  cases s with
  | name x p=>exact .inl ⟨x,p,rfl⟩
  | attr e x p=>exact .inr (.inr ⟨fun J J=>rfl,fun J J J J J J=>rfl⟩)
  | sub e i p=>exact .inr (.inr ⟨fun J J=>rfl,fun J J J J J J=>rfl⟩)
  | tup ts k p=>exact .inr (.inl ⟨ts,k,p,rfl⟩)
  | _=>exact(by contradiction)) t h
theorem assign_ok (B0:Ok (cp n)) (B:Ok (cp (n+1))) (h:(if swapOk t e then(kTg (cp (n+1)) 5 Γ.cx t r).bind ((cp (n+1)).e Γ.cx e)else none)=some l):SS Γ (.Assign [t] e pos) l r:=by
 refine iff_ h fun hsw h=>bnd h fun m ht he=>?_
 have tp:=tg_ok B 5 t m r ht
 have se:=B.e Γ.toCf e l m he
 have pn:=B.p _ _ _ _ he
 have pl:=fun hs hw=>ss_plain (pos:=pos) tp.2 hs hw tp.1 se
 refine(Classical.em (∃a gs sc p,e=.ListComp a gs sc p)).elim (fun q=>?_) fun q=>?_
 ·obtain⟨a,gs,sc,p,rfl⟩:=q
  refine(tshape ht).elim (fun q=>?_) fun q=>q.elim (fun q=>?_) fun q=>pl (q.2 _ _ _ _ _ _) (q.1 _ _)
  ·obtain⟨x,p0,rfl⟩:=q
   have hq:∃q,swapsWith (.ListComp a gs sc p) (some (.Name x p0)) pos.line Γ.env=pure q:=⟨_,rfl⟩
   obtain⟨q,hq⟩:=hq
   cases q with
   | false=>exact pl hq rfl
   | true=>
    refine mp_ ht fun k hk em=>comp_parts B0 Γ.toCf he fun tg iter ifs ns b eg y=>?_
    subst eg em
    exact ss_used hk hq y
  ·obtain⟨ts,j,p',rfl⟩:=q
   exact pl rfl (pn.tu (fun J J J e=>(by contradiction)) _ _ _ _)
 ·have hs:=fun t=>pn.sw (fun a gs sc p e=>q ⟨a,gs,sc,p,e⟩) (some t) pos.line Γ.env
  refine(tshape ht).elim (fun q=>?_) fun q=>q.elim (fun q=>?_) fun q=>pl (hs t) (q.1 _ _)
  ·obtain⟨x,p0,rfl⟩:=q
   exact pl (hs (.Name x p0)) rfl
  ·obtain⟨ts,j,p',rfl⟩:=q
   refine(Classical.em (∃vs k p,e=.Tuple vs k p)).elim (fun q=>?_) fun q=>pl (hs (.Tuple ts j p')) (pn.tu (fun vs k p e=>q ⟨vs,k,p,e⟩) _ _ _ _)
   obtain⟨vs,k',p2,rfl⟩:=q
   refine and_ hsw fun h1 h2=>(swapped_is (env:=Γ.env) (p:=p') (j:=j) (j':=k') (p':=p2) (ts:=ts) (Bool.not_eq_true' _▸h1)).elim (fun w=>pl (hs (.Tuple ts j p')) w) fun w=>w.elim fun names w=>mp_ ht fun m' hl em=>?_
   subst em
   exact ss_swapped hl w.1 w.2.1 w.2.2 (of_decide_eq_true h2) se
end
end Mine
namespace Mine
open PySem PySem.W PyProof.Rows PySem.SeqAt PySem.EqNone PySem.MeetsSeq PySem.Calls Builtin Builtin.ObjectAttr
section
variable {F:Facts}{A:Around}{s:Shared}
theorem osa_lisp {e t:Addr}{dx:Option Addr}{es:List DictEntry}{name:Str}{tk:Tok}{v:Value}{R:Result→Shared→Prop}(k:∀b o,F.h₀.get? b=some o→s.heap.get? b=some o) (I:ExcAt F s.heap e t dx es) (ht:findIn F.K (.ref F.lisp) name=some none)
  (h:∀b,wpAny (model F.pr F.w) A.in1 (storeInOwnDict (.ref e) (.ref F.lisp) (.str name tk) name v b)
   (fun fin s'=>match fin with | .done f=>R (.ok f) s' | .again c'=>c'.quiet=true∧codeAny (model F.pr F.w) A c' R s') (fun e s'=>R (.error e) s') s) :
  codeAny (model F.pr F.w) A (.call (.builtin "object.__setattr__") ⟨[.ref e,.str name tk,v],[]⟩) R s:=by
 have SF:=PySem.F.store_Exception
 have X:=F.X.keeps k
 obtain⟨cd,hc,hmro,hd⟩:=F.lispCls
 have tp:Looks (model F.pr F.w) s.heap (typeOf (.ref e)) (.ref F.lisp):=(Looks.ld I.obj).andThen .now
 have sub:Looks (model F.pr F.w) s.heap (isInstance (.ref e) (.type "object")) true:=tp.andThen (looks_subIn X F.lispSub)
 refine codeAny_call_builtin SF.slot.plain SF.entry (@check_slot (model F.pr F.w) _ _ s "object.__setattr__" "object" "__setattr__" (.ref e) [.str name tk,v] [] _ SF.kind SF.split sub (SF.args (.ref e) (.str name tk) v) ?_)
 have hm:Looks (model F.pr F.w) s.heap (mroOf (.ref F.lisp)) cd.mro:=(looks_clsIn X hc).andThen .now
 rw[osa_eq,refuse_eq]
 refine wpAny_bind (wpAny_bind (tp.here (wpAny_bind (hm.here ?_))))
 rw[hmro,refuseLoop_ref,SF.passes]
 refine wpAny_pure (wpAny_bind (tp.here (wpAny_bind ((looks_findIn X ht).here (wpAny_bind ((Looks.of_pure rfl).here ?_))))))
 exact h _
theorem set_lisp {e t:Addr}{dx:Option Addr}{es:List DictEntry}{name:Str}{v:Value}{Q:Unit→Shared→Prop}{E:Value→Shared→Prop}(k:∀b o,F.h₀.get? b=some o→s.heap.get? b=some o) (I:ExcAt F s.heap e t dx es) (ht:findIn F.K (.ref F.lisp) name=some none) (hl:es.length<10)
  (d:∀H' tk dx' es',ExcAt F H' e t (some dx') es'→(∀b o,b≠e→(∀d,dx=some d→b≠d)→s.heap.get? b=some o→H'.get? b=some o)→(dx=none→s.heap.get? dx'=none)→(∀d,dx=some d→dx'=d)→es'.length≤es.length+1→Q () { s with heap:=H',toks:=tk }) :
  wpAny (model F.pr F.w) A (setAttr (.ref e) name v) Q E s:=by
 have X:=F.X.keeps k
 obtain⟨cd,hc,hmro,hd⟩:=F.lispCls
 have IA:InstAt s.heap e { cls:=.ref F.lisp,dict:=dx,data:=.fields #[.ref t,.none,.none,.none,.bool false,.none] } F.lisp (match dx with | none=>none | some d=>s.heap.get? d):=by
  refine⟨I.obj,rfl,rfl,?_⟩
  have:=I.dict
  cases dx with
  | none=>exact trivial
  | some d=>obtain⟨_,n,hn⟩:=this;dsimp only;rw[hn];exact hn
 refine set_plain X IA F.lispSet (osa_lisp (s:={ s with toks:=s.toks+1 }) k I ht fun b=>?_)
 have fin:∀{H:Heap} {tk:Nat} {d':Addr} {n:Nat} {tk':Tok},H.get? e=some { cls:=.ref F.lisp,dict:=some d',data:=.fields #[.ref t,.none,.none,.none,.bool false,.none] }→H.get? d'=some (dictOf es n)→d'≠e→(∀b o,b≠e→(∀d,dx=some d→b≠d)→s.heap.get? b=some o→H.get? b=some o∧b≠d')→(dx=none→s.heap.get? d'=none)→(∀d,dx=some d→d'=d)→
   wpAny (model F.pr F.w) A.in1 (storeInDict d' (.str name tk') name v) (fun fin s'=>match fin with | .done f=>(match(Except.ok f:Result)with | .ok (.ret _)=>Q () s' | .ok _=>False | .error e=>E e s') | .again c'=>c'.quiet=true∧codeAny (model F.pr F.w) A c' (fun r s'=>match r with | .ok (.ret _)=>Q () s' | .ok _=>False | .error e=>E e s') s') (fun e s'=>E e s') { s with heap:=H,toks:=tk }:=by
  intro H tk d' n tk' he hdd hne hk hn1 hn2
  unfold storeInDict
  refine wpAny_bind (wpAny_pure (wpAny_bind ?_))
  unfold nsSet
  refine wpAny_bind (wpAny_bind (wpAny_askSetting (wpAny_pure (wpAny_bind (wpAny_mkText (wpAny_bind (wpAny_loadPart hdd ?_)))))))
  dsimp only
  have cc:(!(es.toArray).any (·.key.isStr name)&&(es.toArray).any (·.refKey))=false:=by
   have q:es.toArray.any (·.refKey)=false:=by rw[List.any_toArray];exact I.nrk
   rw[q,Bool.and_false]
  rw[aRefKeyMayBeTheName_at,cc]
  refine wpAny_updatePart hdd ?_
  have hput:=putName_dict name (PyData.keyHash F.w.params name) (.str name tk) v es n
  have hlen:(putL name (PyData.keyHash F.w.params name) (.str name tk) v es).length≤es.length+1:=by
   have:∀l:List DictEntry,(putL name (PyData.keyHash F.w.params name) (.str name tk) v l).length≤l.length+1:=by
    intro l
    induction l with
    | nil=>simp[putL]
    | cons a l ih=>unfold putL;split<;>simp<;>omega
   exact this es
  have hu:(H.update d' (Obj.putName name (PyData.keyHash F.w.params name) (.str name tk) v)).get? d'=some (dictOf (putL name (PyData.keyHash F.w.params name) (.str name tk) v es) (putN name es n)):=by
   rw[Heap.get?_update_self _ hdd (by rw[hput];rfl),hput]
  refine wpAny_bind (wpAny_lookBehind hu (pastItsLine_dict (by rw[List.size_toArray,sizeLine_eq];omega)) ?_)
  refine wpAny_pure ?_
  have hrk:(putL name (PyData.keyHash F.w.params name) (.str name tk) v es).any (·.refKey)=false:=by
   have:∀l:List DictEntry,l.any (·.refKey)=false→(putL name (PyData.keyHash F.w.params name) (.str name tk) v l).any (·.refKey)=false:=by
    intro l
    induction l with
    | nil=>intro J;rfl
    | cons a l ih=>
     intro q
     rw[List.any_cons,Bool.or_eq_false_iff]at q
     unfold putL
     split
     ·rw[List.any_cons,q.2,Bool.or_false];exact q.1
     ·rw[List.any_cons,q.1,ih q.2];rfl
   exact this es I.nrk
  refine d _ _ d' _ ⟨(Heap.get?_update_other _ _ hne).trans he,⟨hne,_,hu⟩,by omega,hrk⟩ (fun b o h1 h2 h3=>?_) hn1 hn2 hlen
  have J:=hk b o h1 h2 h3;have q1:=J.1;have q2:=J.2
  exact(Heap.get?_update_other _ _ (Ne.symm q2)).trans q1
 have hx:=I.obj
 have hdict:=I.dict
 unfold storeInOwnDict
 cases dx with
 | some d0=>
  obtain⟨hne,n,hn⟩:=hdict
  refine wpAny_bind (wpAny_pure (wpAny_bind (wpAny_bind (wpAny_loadPart hx (wpAny_bind ((looks_clsIn (M:=model F.pr F.w) X hc).at ?_))))))
  rw[hd]
  refine wpAny_pure (a:=some d0) (wpAny_bind (wpAny_pure ?_))
  exact fin (tk':=s.toks) hx hn hne (fun b o h1 h2 h3=>⟨h3,h2 _ rfl⟩) (fun z=>by contradiction) (fun d' z=>by cases z;rfl)
 | none=>
  dsimp only at hdict
  subst hdict
  refine wpAny_bind (wpAny_pure (wpAny_bind (wpAny_bind (wpAny_loadPart hx (wpAny_bind ((looks_clsIn (M:=model F.pr F.w) X hc).at ?_))))))
  rw[hd]
  dsimp only
  rw[if_neg (by decide),if_neg (by simp[typeHasDict])]
  have hx₁:(s.heap.push { cls:=.type "dict",data:=.dict #[] }).get? e=some { cls:=.ref F.lisp,data:=.fields #[.ref t,.none,.none,.none,.bool false,.none] }:=Heap.get?_push_of_some _ hx
  have ne:s.heap.objs.size≠e:=fun z=>by rw[← z,none_size]at hx;contradiction
  refine wpAny_bind (wpAny_alloc (wpAny_bind (wpAny_update hx₁ (wpAny_pure (a:=some s.heap.objs.size) ?_))))
  refine fin (tk':=s.toks) (d':=s.heap.objs.size) (n:=0) ?_ ?_ ne (fun b o h1 J h3=>⟨?_,?_⟩) (fun J=>none_size _) (fun d z=>by contradiction)
  ·exact Heap.get?_update_self _ hx₁ rfl
  ·exact(Heap.get?_update_other _ _ ne.symm).trans (Heap.get?_push_size _ rfl)
  ·exact(Heap.get?_update_other _ _ (Ne.symm h1)).trans (push_keeps _ _ b o h3)
  ·exact fun z=>by rw[z,none_size]at h3;contradiction
theorem under_make (A:Around) (C:Addr) (rest:List Value):(A.under (.builtin "type.__call__" ⟨.ref C::rest,[]⟩)).depth=A.depth+1:=by
 unfold Around.under
 show A.depth+Code.weight _=_
 congr 1
theorem make_lisp (k:∀b o,F.h₀.get? b=some o→s.heap.get? b=some o) (hroom:A.depth+1<recursionLimit) {u1 u2:Value}{Q:Value→Shared→Prop}{E:Value→Shared→Prop}
  (d:∀H' tk e t dx es,(∀b o,s.heap.get? b=some o→H'.get? b=some o)→s.heap.get? e=none→ExcAt F H' e t dx es→Q (.ref e) { s with heap:=H',toks:=tk }) :
  wpAny (model F.pr F.w) A (call (.ref F.lisp) [u1,u2]) Q E s:=by
 obtain⟨hh,g,dr,tk,os⟩:=s
 dsimp only at k d
 have L:=F.lispF
 have hns:∀{H:Heap},(∀b o,hh.get? b=some o→H.get? b=some o)→H.Ns L.N L.mN:=fun q=>L.ns.keeps fun b o e=>q b o (k b o e)
 refine wpAny_call_exc_init (rest:=[u1,u2]) PySem.F.excBase_Exception (k _ _ L.obj) (hns fun J J e=>e) L.init (k _ _ L.fn) L.fcls (fun h' e hm=>?_) (by show 2≤sizeLine;rw[sizeLine_eq];omega)
 have kk:∀b o,F.h₀.get? b=some o→h'.get? b=some o:=fun b o q=>hm.keeps b o (k b o q)
 refine wpAny_call (codeAny_call_def (by rw[under_make];exact hroom) (kk _ _ L.fn) L.data (F.nolimit.keeps kk) ?_ L.body (L.binds _ _ _ _) ?_ ?_ (fun H hH hk=>?_) L.noCo L.noGen L.kind)
 ·obtain⟨c,o,vs,t,e1,e2,r⟩:=L.code;exact⟨c,o,vs,t,e1,kk _ _ e2,r⟩
 ·rw[L.names];decide
 ·rw[L.names];intro x hx;simp at hx;rcases hx with rfl | rfl | rfl<;>rfl
 obtain⟨t0,ht0,ht1,ht2⟩:=hm.there
 have he':=hk _ _ ht0
 have hLn:h'.get? h'.objs.size=none:=none_size _
 generalize hL:h'.objs.size=Lo at hH hLn⊢
 have kind:∀x:Str,(callEnv L.fd Lo L.fI).kindOf x=[(("self" : Str),NameKind.local),(("symbol" : Str),NameKind.local),(("data" : Str),NameKind.local)].lookup x:=fun x=>by
  show(L.fd.scope.names.lookup x)=_
  rw[L.names]
 have hpl:(callEnv L.fd Lo L.fI).scope.kind=.function:=L.kind
 have hlc:(callEnv L.fd Lo L.fI).locals=Lo:=rfl
 generalize callEnv L.fd Lo L.fI=env at kind hpl hlc⊢
 have hE:Lo≠e:=fun z=>by rw[z,ht0]at hLn;contradiction
 have I0:ExcAt F H e t0 none []:=⟨he',rfl,by simp,rfl⟩
 have ld:∀{A:Around} {E:Value→Shared→Prop} {Q:Value→Shared→Prop} {s':Shared} {x:Str} {pos:Pos} {v:Value},s'.heap.Ns Lo (fun y=>([(("self" : Str),Value.ref e),(("symbol" : Str),u1),(("data" : Str),u2)]:List (Str×Value)).reverse.lookup y)→[(("self" : Str),NameKind.local),(("symbol" : Str),NameKind.local),(("data" : Str),NameKind.local)].lookup x=some .local→
   ([(("self" : Str),Value.ref e),(("symbol" : Str),u1),(("data" : Str),u2)]:List (Str×Value)).reverse.lookup x=some v→(x==("__debug__" : Str))=false→Q v s'→wpAny (model F.pr F.w) A (eval (.Name x pos) env) Q E s':=by
  intro A E Q s' x pos v h1 h2 h3 h4 h5
  exact wpAny_Name (wpAny_loadName_local hpl ((kind x).trans h2) (by rw[hlc];exact h1) h3 h5) h4
 refine wpAny_execs_cons (wpAny_Assign_stores (ld hH rfl rfl rfl ?_) rfl rfl)
 show wpAny _ _ (assign (.Attribute (.Name "self" _) "symbol" _) env u1) _ _ _
 rw[assign_Attribute]
 refine wpAny_bind (wpAny_holding (ld hH rfl rfl rfl (wpAny_bind (wpAny_standAt (wpAny_bind (wpAny_holding ?_))))))
 refine set_lisp (F:=F) (fun b o q=>hk b o (kk b o q)) I0 F.lispNo.1 (by simp) fun H1 tk1 dx1 es1 I1 k1 n1 J l1=>?_
 refine wpAny_release ?_
 have kH1:∀b o,b≠e→H.get? b=some o→H1.get? b=some o:=fun b o nb q=>k1 b o nb (fun d z=>by contradiction) q
 have hH1:H1.Ns Lo (fun y=>([(("self" : Str),Value.ref e),(("symbol" : Str),u1),(("data" : Str),u2)]:List (Str×Value)).reverse.lookup y):=hH.at fun o ho=>kH1 _ _ hE ho
 refine wpAny_execs_cons (wpAny_Assign_stores (ld hH1 rfl rfl rfl ?_) rfl rfl)
 show wpAny _ _ (assign (.Attribute (.Name "self" _) "data" _) env u2) _ _ _
 rw[assign_Attribute]
 refine wpAny_bind (wpAny_holding (ld hH1 rfl rfl rfl (wpAny_bind (wpAny_standAt (wpAny_bind (wpAny_holding ?_))))))
 have eNew:∀b o,hh.get? b=some o→b≠e:=fun b o q z=>by rw[z,hm.new]at q;contradiction
 have kAll:∀b o,hh.get? b=some o→H1.get? b=some o:=fun b o q=>kH1 b o (eNew b o q) (hk b o (hm.keeps b o q))
 refine set_lisp (F:=F) (fun b o q=>kAll b o (k b o q)) I1 F.lispNo.2 (by simp at l1;omega) fun H2 tk2 dx2 es2 I2 k2 J J J=>?_
 refine wpAny_release (wpAny_execs_nil ⟨rfl,d H2 tk2 e t0 (some dx2) es2 (fun b o q=>?_) hm.new I2⟩)
 refine k2 b o (eNew b o q) (fun d z=>?_) (kAll b o q)
 cases z
 have:=n1 rfl
 exact fun z=>by rw[z]at q;have:=hk _ _ (hm.keeps _ _ q);rw[n1 rfl]at this;contradiction
end
end Mine
namespace Mine
open PySem PySem.W PyProof.Rows PySem.SeqAt PySem.EqNone PySem.MeetsSeq PySem.Calls
section
variable {F:Facts}{A:Around}{s:Shared}{env:Env}
theorem raise_stmt {x:Sem Value}{Q:Flow→Shared→Prop}{E:Value→Shared→Prop}(hh:A.handled=none)
  (hx:wpAny (model F.pr F.w) A x (fun v s₁=>∃e t dx es,v=.ref e∧(∀b o,F.h₀.get? b=some o→s₁.heap.get? b=some o)∧ExcAt F s₁.heap e t dx es∧E (.ref e) s₁) E s):wpAny (model F.pr F.w) A (raiseStmt env (some x) none) Q E s:=by
 have L:=F.lispF
 have hcB:(Value.ref F.lisp::[.type "Exception",.type "BaseException",.type "object"]).contains (.type "BaseException")=true:=rfl
 unfold raiseStmt
 refine wpAny_bind (wpAny_mono hx (fun v s₁ h₁=>?_) fun J J x=>x)
 obtain⟨e,t,dx,es,rfl,k,I,hE⟩:=h₁
 have he:=I.obj
 have hC:=k _ _ L.obj
 obtain⟨hp,g,d,tk,os⟩:=s₁
 dsimp only at he hC
 repeat (first | with_reducible refine wpAny_loadPart_at he ?_ | with_reducible refine wpAny_loadPart_at hC ?_ | (with_reducible refine wpAny_isSubtype_exc hC ?_;rw[hcB]) | wp_step)
 exact wpAny_raiseNew_none hh hE
end
section
variable {Γ:Cb}{K:Kt}{fr:Fr}{st:List V}{us:List Value}{h h':Hp}{σ:Wd}{Q:Flow→Shared→Prop}{E:Value→Shared→Prop}{l m r b:List I}{pos p0 np hp:Pos}{e t:Expr}{as:List Expr}{p suite:List Stmt}{x:Str}{k n:Nat}{ν':Nu}{ea:Addr}{a0:Value}{B:Heap}{s' s4:Shared}{v:Value}{hd:Hd}{T:V→Hp→Prop}
theorem ss_raise (hg:Γ.cx.glob "LispSignal"=true) (h2:as.length=2) (hes:Es Γ.toCf as l (.raise::r)):SS Γ (.Raise (some (.Call (.Name "LispSignal" np) as [] p0)) none pos) l r:=fun K fr h σ Q g x kx kr=>by
 show wpAny _ _ _ _ _ _
 rw[arm_exec_Raise]
 refine wpAny_bind (wpAny_standAt ?_)
 show wpAny _ _ (raiseStmt Γ.env (some (do let v ← eval (.Call (.Name "LispSignal" np) as [] p0) Γ.env;standAt pos;pure v)) none) _ _ _
 refine raise_stmt (F:=Γ.toFacts) Γ.handled (wpAny_bind (glob_k hg fun hg hd=>wpAny_Call_ofName (name_glob g hg hd Γ.exc (callK (first:=[]) Γ.lispK hes g x ?_))))
 rw[h2]
 exact Ks.two fun a v b w h' σ' g' x'=>make_lisp (F:=Γ.toFacts) g'.S.hr.keep (Nat.lt_of_le_of_lt (Nat.add_le_add_left (Nat.le_of_ble_eq_true rfl) _) Γ.room) fun H' tk e t dx es k1 k2 I=>
  wpAny_bind (wpAny_standAt (wpAny_pure ⟨e,t,dx,es,rfl,fun b o q=>k1 b o (g'.S.hr.keep b o q),I,Γ.hZ _ _ _ _ _ _ _ _ _ _ g' x' k1 k2 I rfl rfl⟩))
theorem handle_lisp {b₀:Stmt}{rest:List ExceptHandler}(k:∀b o,Γ.h₀.get? b=some o→s'.heap.get? b=some o) (hg:Γ.cx.glob "LispSignal"=true) (he:∃oe,s'.heap.get? ea=some oe∧oe.cls=.ref Γ.lisp)
  (hk:wpAny (model Γ.pr Γ.w) (Γ.A.mark (some (.ref ea))) (setFlight (.ref ea) none) (fun J s₂=>wpAny (model Γ.pr Γ.w) (Γ.A.mark (some (.ref ea))) (execs (b₀::suite) Γ.env) Q (notedBy (model Γ.pr Γ.w) (Γ.A.mark (some (.ref ea))) Γ.env (cameBackBy (model Γ.pr Γ.w) Γ.A Γ.env E)) s₂) (notedBy (model Γ.pr Γ.w) (Γ.A.mark (some (.ref ea))) Γ.env (cameBackBy (model Γ.pr Γ.w) Γ.A Γ.env E)) s') :
  Γ.wp (handleBy (.ref ea) Γ.env (.ExceptHandler (some (.Name "LispSignal" np)) none (b₀::suite) hp::rest)) Q E s':=by
 have L:=Γ.lispF
 refine wpAny_handleBy_cons (codeAny_handlers_test ?_) (fun q=>(by contradiction))
 refine glob_k hg fun hg hd=>Name_function_global Γ.envK (Γ.envN.glob _ hg) (loadGlobal_global (mg:=Γ.mg) (by rw[Γ.envG];exact Γ.g.keeps k) Γ.exc ?_) hd
 obtain⟨oe,he,hcls⟩:=he
 have hC:=k _ _ L.obj
 obtain⟨hh,g,d,tk,os⟩:=s'
 exact wpAny_excMatches_sub_self hC he hcls rfl (codeAny_handlers_suite hk)
theorem landed (g:At Γ.toCf fr st us h σ) (q:ExnPost Γ.toCtx σ h' v s' ea a0 B ν') (fl:Heap.FlyingW B Γ.fs ea (.ref Γ.lisp) a0 s4.heap) (up:s'.heap.UpToSlots s4.heap) (e1:s4.gens=s'.gens) (e2:s4.os=s'.os):At Γ.toCf fr [] [] h' ⟨ν',s4⟩:=by
 have T:Tr Γ.toCtx σ ⟨ν',s4⟩:=⟨q.ext,fun b o ho hn=>by
  by_cases hf:b∈framesOf Γ.fs
  ·refine⟨fun z=>absurd hf z,(q.kf b hf o ho).elim fun sl hs=>(g.S.funs.mem hf).2.elim fun o' y=>(up _ _ hs (Option.some.inj (y.1.symm.trans ho)▸y.2)).elim fun sl' z=>⟨sl',z⟩⟩
  ·have:=fl.1 b o (q.kb b o ho hn hf)
   exact⟨fun J=>this,Sl.refl this⟩,e1.trans q.gens,e2.trans q.os⟩
 exact g.to ⟨q.hr.keeps (fun b o J z=>fl.1 b o z) fun b o z=>fl.1 b o (q.hr.keep b o z),funFrames_base (fun b o z=>q.hr.keep b o z) fl.2.2.1,fun b hb=>(g.S.funs.mem hb).2.elim fun o y=>q.ext.notFoot y.1 (g.S.out b hb)⟩ T .nil
theorem retE_is {s:Stmt}:retE s=some e→∃p,s=.Return (some e) p:=sv_c (C:=fun s y=>(match y with
 | .ret e _=>e
 | _=>none)=some e→∃p,s=.Return (some e) p) (fun s y q h=>by
  cases y with
  | ret J J1=>exact(by contradiction)
  | _=>exact(by contradiction)) (fun y h=>by
  cases y with
  | ret e' p=>exact⟨p,(show e'=some e from h)▸rfl⟩
  | _=>exact(by contradiction)) s
theorem iteOf_is {y:Expr×Expr×Expr}:iteOf e=some y→∃p,e=.IfExp y.1 y.2.1 y.2.2 p:=sh_c (C:=fun e s=>(match s with
 | .ite t a b _=>some (t,a,b)
 | _=>none)=some y→∃p,e=.IfExp y.1 y.2.1 y.2.2 p) (fun J h=>nomatch h) (fun s h=>by
  cases s with
  | ite t a b p=>exact⟨p,Option.some.inj h▸rfl⟩
  | _=>exact(by contradiction)) e
theorem isOf_is {y:Expr×Expr}:isOf e=some y→∃p,e=.Compare y.1 [.Is] [y.2] p:=sh_c (C:=fun e s=>(match s with
 | .cmp a os bs _=>match os with
  | [o]=>match bs with
   | [b]=>if o==.Is then some (a,b)else none
   | _=>none
  | _=>none
 | _=>none)=some y→∃p,e=.Compare y.1 [.Is] [y.2] p) (fun J h=>nomatch h) (fun s h=>by
  cases s with
  | cmp a os bs p=>cases os with
   | nil=>exact(by contradiction)
   | cons o os=>cases os with
    | cons J J1=>exact(by contradiction)
    | nil=>cases bs with
     | nil=>exact(by contradiction)
     | cons b bs=>cases bs with
      | cons J J1=>exact(by contradiction)
      | nil=>exact iff_ h fun q h=>⟨p,by rw[← Option.some.inj h,show o=.Is from beq_iff_eq.mp q];rfl⟩
  | _=>exact(by contradiction)) e
theorem none_is (hn:isNone e=true):∃k p,e=.Constant .none k p:=Option.any_eq_true .. |>.mp hn |>.elim fun c q=>isNoneC_is q.2▸cst_is q.1
theorem var_eval {pr:Program}{w:World}{A:Around}{QV:Value→Shared→Prop}(hk:kVar Γ.cx t=some k) (hn:nmOk t=true) (g:At Γ.toCf fr st us h σ) (x:wO' fr[k]?.join fun a=>∀u,VR σ.ν a u→QV u σ.s):wpAny (model pr w) A (eval t Γ.env) QV E σ.s:=by
 obtain⟨y,p,rfl,hx,hs⟩:=var_is hk
 have hn:(!(y==("__debug__" : Str)||y==("__classdict__" : Str)))=true:=hn
 rw[Bool.not_eq_true',Bool.or_eq_false_iff]at hn
 have x:wV fr[k]?.join fun a=>∀u,VR σ.ν a u→QV u σ.s:=by
  cases q:fr[k]?.join with
  | none=>rw[q]at x;exact x
  | some a=>rw[q]at x;exact x
 exact hx.elim (fun hx=>g.rel.local Γ.envK hs (Γ.envN.loc _ hx) hn.1 x) fun hx=>g.rel.cell Γ.envK hs (.inl (Γ.envN.cel _ hx)) hn.1 hn.2 x
theorem hd_ok {pr:Program}{w:World}{A:Around}(h1:kHd Γ.cx suite=some hd) (g:At Γ.toCf fr [] [] h σ) (x:wH hd T fr h) (kr:∀a v σ',At Γ.toCf fr [a] [v] h σ'→T a h→Q (.ret v) σ'.s):suite≠[]∧wpAny (model pr w) A (execs suite Γ.env) Q E σ.s:=by
 cases suite with
 | nil=>exact(by contradiction)
 | cons s ss=>cases ss with
  | cons J J1=>exact(by contradiction)
  | nil=>
   refine⟨(by simp),?_⟩
   refine bnd h1 fun e he h1=>(retE_is he).elim fun p es=>?_
   subst es
   refine wpAny_execs_cons (wpAny_Return_some ?_)
   have n0:∀{e:Expr} {QV:Value→Shared→Prop},isNone e=true→QV .none σ.s→wpAny (model pr w) A (eval e Γ.env) QV E σ.s:=fun hn q=>(none_is hn).elim fun k y=>y.elim fun p e=>e▸wpAny_Constant_none q
   have end':∀a v,VR σ.ν a v→T a h→Q (.ret v) σ.s:=fun a v q z=>kr a v σ (g.pop (.cons q .nil)) z
   refine ite_ h1 (fun hn e=>n0 hn (by cases e;exact end' .none .none rfl x)) fun J h1=>bnd h1 fun y hy h1=>bnd h1 fun z hz h1=>iff_ h1 fun q h1=>and_ q fun q q4=>and_ q fun q q3=>and_ q fun q1 q2=>bnd h1 fun k hk h1=>mp_ h1 fun l hl h1=>?_
   subst h1
   refine(iteOf_is hy).elim fun p1 ey=>(isOf_is hz).elim fun p2 ez=>(none_is q1).elim fun k1 r1=>r1.elim fun p3 e3=>?_
   rw[ey,ez,e3]
   refine wpAny_IfExp (wpAny_isTrue_Compare1 (var_eval hk q3 g (wO.to x fun a z u xa=>wpAny_Constant_none ((wO.to z fun J z=>z).of fun yv ey z=>l_is xa (wO.to z fun q z=>wpAny_truthy_bool ?_)))) rfl)
   cases q with
   | true=>exact var_eval hl q4 g (by rw[ey];exact fun u xu=>end' yv u xu (wB_t z))
   | false=>exact n0 q2 (end' .none .none rfl (wB_f z))
end
noncomputable abbrev Cb.tr (Γ:Cb) (hd:Hd) (E:Value→Shared→Prop) (hE:∀fr st us h σ h' e s' ea a0 B ν',At Γ.toCf fr st us h σ→wH hd Γ.P.T fr h'→ExnPost Γ.toCtx σ h' e s' ea a0 B ν'→E e s'):Cb where
 toCf0:={ Γ.toCf0 with P:=⟨Γ.P.T,wH hd Γ.P.T,no,[]⟩ }
 E:=E
 hE:=fun fr st us h σ h' e s' ea a0 B ν' g=>hE fr st us h σ h' e s' ea a0 B ν' ⟨g.S,g.tr,fe_of (by have:=g.fe;unfold Cf0.lv Cx.ln at this;rwa[Γ.noC]at this),g.vs,g.kp,g.nx⟩
 fs':=Γ.fs'
 efs:=Γ.efs
 frames:=Γ.frames
 frame:=Γ.frame
 noC:=Γ.noC
 nd:=Γ.nd
 new:=Γ.new
 hZ:=fun J J J J J J J J J J J q=>q.elim
section
variable {Γ:Cb}{K:Kt}{fr:Fr}{h:Hp}{σ:Wd}{Q:Flow→Shared→Prop}{E:Value→Shared→Prop}{b r:List I}{pos np hp:Pos}{p suite:List Stmt}{hd:Hd}
theorem tr_run (hb:∀Γ':Cb,Γ'.cx=Γ.cx→SL Γ' p b []) (g:At Γ.toCf fr [] [] h σ) (x:go Γ.c ⟨Γ.P.T,wH hd Γ.P.T,no,[]⟩ K b fr h []) (k1:∀fr h σ,At Γ.toCf fr [] [] h σ→K fr h []→Q .next σ.s) (k2:Kr Γ Q) (hE:∀fr st us h σ h' e s' ea a0 B ν',At Γ.toCf fr st us h σ→wH hd Γ.P.T fr h'→ExnPost Γ.toCtx σ h' e s' ea a0 B ν'→E e s'):Γ.wp (execs p Γ.env) Q E σ.s:=
 have back:∀{fr st us h σ},At (Γ.tr hd E hE).toCf fr st us h σ→At Γ.toCf fr st us h σ:=fun g=>⟨g.S,g.tr,fe_of (At0.rel (Γ:=Γ.tr hd E hE) g),g.vs,g.kp,g.nx⟩
 hb (Γ.tr hd E hE) rfl K fr h σ Q ⟨g.S,g.tr,fe_of (Γ':=Γ.tr hd E hE) g.rel,g.vs,g.kp,g.nx⟩ x (fun fr h σ g x=>k1 fr h σ (back g) x) fun fr a v h σ g x=>k2 fr a v h σ (back g) x
theorem ss_tr (hg:Γ.cx.glob "LispSignal"=true) (hb:∀Γ':Cb,Γ'.cx=Γ.cx→SL Γ' p b []) (hh:kHd Γ.cx suite=some hd):SS Γ (.Try p [.ExceptHandler (some (.Name "LispSignal" np)) none suite hp] [] [] pos) (.tr b hd::r) r:=fun K fr h σ Q g x kx kr=>by
 refine wpAny_Try_except (tr_run hb g x (fun fr h σ g x=>wpAny_execs_nil (kx fr h σ g x)) kr fun fr st us h σ h' e s' ea a0 B ν' g z q=>?_)
 rw[q.ev]
 have fl:=q.fl
 rw[Γ.efs]at fl
 refine wpAny_looks_onW (Γ.frames.trans (congrArg some Γ.efs)) Γ.frame fl fun H2 held up2=>wpAny_landsW (s:={ s' with heap:=H2 }) held fun H3 fl3 up3=>?_
 have hd':=fun(A:Around) (E:Value→Shared→Prop) (σ:Wd) (g:At Γ.toCf fr [] [] h' σ)=>hd_ok (pr:=Γ.pr) (w:=Γ.w) (A:=A) (E:=E) (Q:=Q) hh g z fun a v σ' g' t=>kr fr a v h' σ' g' t
 cases suite with
 | nil=>exact(by contradiction)
 | cons b0 suite=>
  refine handle_lisp (fun b o w=>fl3.1 b o (q.hr.keep b o w)) hg fl3.there (lands_againW (s:={ s' with heap:=H3 }) fl3 fun H4 fl4 up4=>?_)
  exact(hd' _ _ ⟨ν',{ s' with heap:=H4 }⟩ (landed (s4:={ s' with heap:=H4 }) g q (Γ.efs▸fl4) (up2.trans (up3.trans up4)) rfl rfl)).2
end
end Mine
namespace Mine
open PySem PySem.W PyProof.Rows PySem.SeqAt PySem.EqNone PySem.MeetsSeq PySem.Calls
section
variable {Γ:Cb}{K:Kt}{fr:Fr}{h:Hp}{σ:Wd}{Q:Flow→Shared→Prop}{E:Value→Shared→Prop}{b r:List I}{pos np hp:Pos}{p suite:List Stmt}{hd:Hd}
theorem ft_ok {t:Expr}{f:Mk→List I}(h:kFor Γ.cx t b r=some f):∃m bind,TgN t m∧FT Γ.cx t m bind∧∀K k fr h st,go Γ.c Γ.P K (f k) fr h st=wK k st h (kfo m bind (fun fr h K=>go Γ.c (pL Γ.P.T) K b fr h []) fr (go Γ.c Γ.P K r)):=
 sh_c (C:=fun t s=>(match s with
  | .name _ _=>(kVar Γ.cx t).map fun k m=>.for1 k m b::r
  | .tup ts _ _=>match ts with
   | [x,y]=>(kVar Γ.cx x).bind fun k=>(kVar Γ.cx y).map fun l m=>.for2 k l m b::r
   | _=>none
  | _=>none)=some f→∃m bind,TgN t m∧FT Γ.cx t m bind∧∀K k fr h st,go Γ.c Γ.P K (f k) fr h st=wK k st h (kfo m bind (fun fr h K=>go Γ.c (pL Γ.P.T) K b fr h []) fr (go Γ.c Γ.P K r))) (fun J h=>(by contradiction)) (fun s h=>by
  cases s with
  | name x p=>exact mp_ h fun k hk e=>e▸⟨1,bind1 k,.one,ft_one hk,fun J J J J J=>rfl⟩
  | tup ts k p=>cases ts with
   | nil=>exact(by contradiction)
   | cons x ts=>cases ts with
    | nil=>exact(by contradiction)
    | cons y ts=>cases ts with
     | cons J J1=>exact(by contradiction)
     | nil=>exact bnd h fun k hk h=>mp_ h fun l hl e=>e▸⟨2,bind2 k l,.two,ft_two hk hl,fun J J J J J=>rfl⟩
  | _=>exact(by contradiction)) t h
theorem call_shape {e:Expr}(h:isCall e=true):∀a gs sc p,e≠.ListComp a gs sc p:=fun a gs sc p q=>by subst q;exact(by contradiction)
theorem raise_ok {c:Cp}{e:Option Expr}{q:Option Expr}{e':Expr}{l:List I}(B:Ok c) (hq:q=none) (he:e=some e') (h:kRaise c Γ.cx e' r=some l):SS Γ (.Raise e q pos) l r:=by
 subst hq he
 refine sh_c (C:=fun e s=>(match s with
  | .call f as ks _=>if nmOf f==some ("LispSignal" : Str)&&Γ.cx.glob "LispSignal"&&ks.isEmpty&&as.length==2 then kEs (c.e Γ.cx) as (.raise::r)else none
  | _=>none)=some l→SS Γ (.Raise (some e) none pos) l r) (fun J h=>nomatch h) (fun s h=>?_) e' h
 cases s with
 | call f as ks p=>
  refine iff_ h fun q h=>and_ q fun q q4=>and_ q fun q q3=>and_ q fun q1 q2=>(nm_is (beq_iff_eq.mp q1)).elim fun np ef=>?_
  show SS Γ (.Raise (some (.Call f as ks p)) none pos) l r
  rw[ef,nil_is q3]
  exact ss_raise q2 (beq_iff_eq.mp q4) (B.lst h)
 | _=>exact(by contradiction)
theorem try_ok {p:List Stmt}{hs:List ExceptHandler}{o f:List Stmt}{b:Oc}{l:List I}(ho:o=[]) (hf:f=[]) (hb:∀b',b=some b'→∀Γ':Cb,Γ'.cx=Γ.cx→SL Γ' p b' []) (h:kTry Γ.cx b hs r=some l):SS Γ (.Try p hs o f pos) l r:=by
 subst ho hf
 cases hs with
 | nil=>exact(by contradiction)
 | cons x hs=>cases x with
  | ExceptHandler t n hd p2=>cases hs with
   | cons J J1=>exact(by contradiction)
   | nil=>
    refine iff_ h fun q h=>and_ q fun q q3=>and_ q fun q1 q2=>bnd h fun hd' hh h=>mp_ h fun b' hb' e=>bnd (beq_iff_eq.mp q1) fun t' et hn=>(nm_is hn).elim fun np e'=>?_
    rw[Option.isNone_iff_eq_none.mp q3,et,e',← e]
    exact ss_tr q2 (hb b' hb') hh
theorem kSs_ok {f:Stmt→List I→Oc}{ss:List Stmt}{l r:List I}(hf:∀s l r,f s r=some l→SS Γ s l r):kSs f ss r=some l→SL Γ ss l r:=by
 induction ss generalizing l with
 | nil=>exact fun h=>Option.some.inj h▸sl_nil
 | cons s ss ih=>exact fun h=>bnd h fun m h1 h2=>sl_cons (hf _ _ _ h2) (ih h1)
theorem s_ok {n:Nat}(B0:Ok (cp n)) (B:Ok (cp (n+1))):∀(i:Nat) (Γ:Cb) (s:Stmt) (l r:List I),kS (cp (n+1)) i Γ.cx s r=some l→SS Γ s l r
 | 0,_,_,_,_,h=>(by contradiction)
 | i+1,Γ,s,l,r,h=>by
  have ih:=s_ok B0 B i
  have il:∀{ss l r},kSs (kS (cp (n+1)) i Γ.cx) ss r=some l→∀Γ':Cb,Γ'.cx=Γ.cx→SL Γ' ss l r:=fun h Γ' e=>kSs_ok (fun s l r=>ih Γ' s l r) (e▸h)
  refine sv_c (C:=fun s y=>kSv (cp (n+1)) (kS (cp (n+1)) i Γ.cx) Γ.cx y r=some l→SS Γ s l r) (fun s y q h=>?_) (fun y h=>?_) s h
  ·cases y with
   | fn J J1 J2 J3=>exact(by contradiction)
   | cls J J1=>exact(by contradiction)
   | oth=>exact(by contradiction)
   | _=>exact(by contradiction)
  cases y with
  | assign ts e p=>cases ts with
   | nil=>exact(by contradiction)
   | cons t ts=>cases ts with
    | cons J J1=>exact(by contradiction)
    | nil=>exact assign_ok B0 B h
  | expr e p=>exact iff_ h fun hc h=>ss_ex (B.e _ _ _ _ h) ((B.p _ _ _ _ h).sw (call_shape hc) _ _ _)
  | ite t a b p=>exact bnd h fun a' ha h=>bnd h fun b' hb ht=>ss_ite (B.t _ _ _ _ ht) (il ha Γ rfl) (il hb Γ rfl)
  | whl t b o p=>
   refine iff_ h fun ho h=>bnd h fun t' ht h=>mp_ h fun b' hb e=>?_
   rw[List.isEmpty_iff.mp ho,← e]
   exact ss_whl (fun Γ' q=>B.t Γ'.toCf _ _ _ (q▸ht)) (il hb)
  | for' t it b o p=>
   refine iff_ h fun ho h=>bnd h fun b' hb h=>bnd h fun f hf h=>(ft_ok hf).elim fun m q=>q.elim fun bind q=>?_
   rw[List.isEmpty_iff.mp ho]
   have y:=it_ok (Γ:=Γ.toCf) B h
   exact ss_for q.1 q.2.1 y.2 y.1 q.2.2 (il hb)
  | ret e p=>cases e with
   | some e=>exact ss_ret (B.e _ _ _ _ h)
   | none=>cases h;exact ss_ret0
  | raise e q p=>exact iff_ h fun hq h=>bnd h fun e' he h=>raise_ok B (Option.isNone_iff_eq_none.mp hq) he h
  | try' b hs o f p=>exact iff_ h fun ho h=>and_ ho fun o1 o2=>try_ok (List.isEmpty_iff.mp o1) (List.isEmpty_iff.mp o2) (fun b h=>il h) h
  | _=>exact(by contradiction)
end
end Mine
namespace Mine
open PySem PySem.W PyProof.Rows PySem.SeqAt PySem.EqNone PySem.MeetsSeq PySem.Calls
section
variable {ns:List Str}{us:List Value}{n x:Str}{u:Value}{k:Nat}{m:Str→Option Value}{kof:Str→Option NameKind}
theorem bind_is {g:List (Str×Value)→(Str→Option Value)→Str→Option Value}{st:Str→Value→(Str→Option Value)→Str→Option Value}(g0:∀m,g [] m=m) (g1:∀n v r m,g ((n,v)::r) m=g r (st n v m)) (s1:∀v m,st x v m x=some v) (s2:∀n v m,x≠n→st n v m x=m x):(x∉ns→g (ns.zip us) m x=m x)∧(ns.Nodup→ns[k]?=some x→us[k]?=some u→g (ns.zip us) m x=some u):=by
 induction ns generalizing us m k with
 | nil=>exact⟨fun J=>congrFun (g0 m) x,fun J h=>(by contradiction)⟩
 | cons n ns ih=>cases us with
  | nil=>exact⟨fun J=>congrFun (g0 m) x,fun J J h=>(by contradiction)⟩
  | cons v us=>
   rw[List.zip_cons_cons,g1]
   refine⟨fun h=>(ih (k:=0).1 fun q=>h (.tail _ q)).trans (s2 n v m fun e=>h (e▸.head _)),fun hn h1 h2=>?_⟩
   have hn:=List.nodup_cons.mp hn
   cases k with
   | zero=>
    rw[Option.some.inj h1]at hn⊢
    exact(ih (k:=0).1 hn.1).trans ((s1 v m).trans h2)
   | succ k=>exact ih.2 hn.2 h1 h2
theorem if_at {p:Prop} [Decidable p] {f g:Str→Option Value}:(if p then f else g) x=if p then f x else g x:=by split<;>rfl
theorem bindL_is (hk:kof x=some .local) (hn:ns.Nodup) (h1:ns[k]?=some x) (h2:us[k]?=some u):bindL kof (ns.zip us) m x=some u:=
 (bind_is (g:=bindL kof) (st:=fun n v m=>if kof n=some .local then fun y=>if y=n then some v else m y else m) (fun J=>rfl) (fun J J J J=>rfl) (fun v m=>by rw[if_pos hk,if_pos rfl]) fun n v m q=>by rw[if_at,if_neg q,ite_self]).2 hn h1 h2
theorem bindC_is (hk:kof x≠some .local) (hn:ns.Nodup) (h1:ns[k]?=some x) (h2:us[k]?=some u):bindC kof (ns.zip us) m x=some u:=
 (bind_is (g:=bindC kof) (st:=fun n v m=>if kof n=some .local then m else fun y=>if y=n then some v else m y) (fun J=>rfl) (fun J J J J=>rfl) (fun v m=>by rw[if_neg hk,if_pos rfl]) fun n v m q=>by rw[if_at,if_neg q,ite_self]).2 hn h1 h2
theorem lookup_is (hn:ns.Nodup) (h1:ns[k]?=some x) (h2:us[k]?=some u):(ns.zip us).lookup x=some u:=by
 induction ns generalizing us k with
 | nil=>exact(by contradiction)
 | cons n ns ih=>cases us with
  | nil=>exact(by contradiction)
  | cons v us=>
   have hn:=List.nodup_cons.mp hn
   rw[List.zip_cons_cons,List.lookup_cons]
   cases k with
   | zero=>rw[Option.some.inj h1,beq_self_eq_true];exact h2
   | succ k=>rw[beq_false_of_ne fun e:x=n=>hn.1 (e▸List.mem_of_getElem? h1)];exact ih hn.2 h1 h2
theorem zip_all (hn:ns.Nodup) (hl:us.length=ns.length) (x:Str) (hm:x∈ns):((ns.zip us).lookup x).isNone=false:=
 (List.mem_iff_getElem.mp hm).elim fun k q=>q.elim fun hk e=>by rw[lookup_is hn (List.getElem?_eq_some_iff.mpr ⟨hk,e⟩) (List.getElem?_eq_getElem (hl▸hk))];rfl
theorem filterMap_zip {L:List (Str×Value)}(hl:us.length=ns.length):(∀(k:Nat) (n:Str) (u:Value),ns[k]?=some n→us[k]?=some u→L.lookup n=some u)→(ns.filterMap fun n=>(L.lookup n).map (n,·))=ns.zip us:=by
 induction ns generalizing us with
 | nil=>exact fun J=>by rw[List.zip_nil_left];rfl
 | cons n ns ih=>cases us with
  | nil=>exact(by contradiction)
  | cons u us=>
   intro q
   rw[List.filterMap_cons,q 0 n u rfl rfl,List.zip_cons_cons,← ih (Nat.succ.inj hl) fun k=>q (k+1)]
   rfl
theorem bind_plain {fd:FuncData}(h1:fd.params.posonlyargs=[]) (h2:fd.params.kwonlyargs=[]) (h3:fd.params.vararg=none) (h4:fd.params.kwarg=none)
  (hn:(fd.params.args.map (·.arg)).Nodup) (hl:us.length=fd.params.args.length) {M:Model} {A:Around} {Q:List (Str×Value)→Shared→Prop} {E:Value→Shared→Prop} {s:Shared} {d:Option (Array Value)}
  (hd:∀(Q:Option (Array Value)→Shared→Prop),Q d s→wpAny M A (seqItems? fd.defaults) Q E s) (h:Q ((fd.params.args.map (·.arg)).zip us) s) :
  wpAny M A (bindArgs fd ⟨us,[]⟩) Q E s:=by
 unfold bindArgs
 simp only[h1,h2,h3,h4,List.map_nil,List.nil_append,List.append_nil]
 have hl':us.length=(fd.params.args.map (·.arg)).length:=by rw[List.length_map];exact hl
 generalize (fd.params.args.map (·.arg))=ns at hn hl' h⊢
 have hall:=zip_all hn hl'
 refine wpAny_bind (wpAny_pure (wpAny_bind (hd _ ?_)))
 rw[hl']
 rw[if_neg (by simp)]
 rw[List.filter_eq_nil_iff.mpr fun n hn=>by rw[hall n (List.mem_of_mem_take hn)];exact Bool.false_ne_true]
 rw[if_neg (by simp)]
 have loop:∀(l:List (Str×Value)),(∀p∈l,p.1∈ns)→∀{Q:List (Str×Value)→Shared→Prop},Q (ns.zip us) s→wpAny M A (forIn l (ns.zip us) fun x __s=>
        if(List.lookup x.fst __s).isNone=true then pure (ForInStep.yield (__s++[(x.fst,x.snd)]))
        else pure (ForInStep.yield __s)) Q E s:=by
  intro l
  induction l with
  | nil=>intro J Q q;exact wpAny_pure q
  | cons p r ih=>
   intro hp Q q
   rw[List.forIn_cons,hall p.1 (hp p (.head _)),if_neg Bool.false_ne_true]
   exact wpAny_bind (wpAny_pure (ih (fun p' h'=>hp p' (.tail _ h')) q))
 refine wpAny_bind (loop _ (fun p hp=>List.mem_of_mem_drop (List.of_mem_zip hp).1) ?_)
 rw[List.forIn_nil]
 refine wpAny_bind (wpAny_pure ?_)
 rw[if_neg (by simp),filterMap_zip hl' fun k n u e1 e2=>lookup_is hn e1 e2]
 exact wpAny_pure h
end
end Mine
namespace Mine
open PySem PySem.W PyProof.Rows PySem.SeqAt PySem.EqNone PySem.MeetsSeq PySem.Calls
theorem frame_some {as:List V}{n k:Nat}{v:V}(h:(as.map some++List.replicate n none)[k]?=some (some v)):as[k]?=some v:=by
 induction as generalizing k with
 | nil=>
  rw[List.map_nil,List.nil_append,List.getElem?_replicate]at h
  exact iff_ h fun J h=>(by cases h)
 | cons a as ih=>cases k with
  | zero=>exact Option.some.inj h
  | succ k=>exact ih h
noncomputable def defOk (d:DefSrc):Bool:=
 ((d.args.posonlyargs.isEmpty&&d.args.kwonlyargs.isEmpty)&&(d.args.vararg.isNone&&d.args.kwarg.isNone))&&(decide (d.args.args.map (·.arg)).Nodup&&d.scope.kind==.function)&&(!d.scope.isCoroutine&&!d.scope.isGenerator)&&(decide (slotsOf d).Nodup&&(slotsOf d).all (fun x=>d.scope.names.lookup x==some .local||d.scope.names.lookup x==some .cell))
structure DefOk (d:DefSrc):Prop where
 pos:d.args.posonlyargs=[]
 kwo:d.args.kwonlyargs=[]
 va:d.args.vararg=none
 kwa:d.args.kwarg=none
 nd:(d.args.args.map (·.arg)).Nodup
 kind:d.scope.kind=.function
 noCo:d.scope.isCoroutine=false
 noGen:d.scope.isGenerator=false
 slots:(slotsOf d).Nodup
 kinds:∀x∈slotsOf d,d.scope.names.lookup x=some .local∨d.scope.names.lookup x=some .cell
theorem not_is {b:Bool}(h:(!b)=true):b=false:=by cases b with | false=>rfl | true=>contradiction
theorem defOk_is {d:DefSrc}(h:defOk d=true):DefOk d:=and_ h fun h h4=>and_ h fun h h3=>and_ h fun h1 h2=>and_ h1 fun a b=>and_ a fun a1 a2=>and_ b fun b1 b2=>and_ h2 fun c1 c2=>and_ h3 fun d1 d2=>and_ h4 fun e1 e2=>
 ⟨List.isEmpty_iff.mp a1,List.isEmpty_iff.mp a2,Option.isNone_iff_eq_none.mp b1,Option.isNone_iff_eq_none.mp b2,of_decide_eq_true c1,beq_iff_eq.mp c2,not_is d1,not_is d2,of_decide_eq_true e1,fun x hx=>(or_ (List.all_eq_true.mp e2 x hx)).imp beq_iff_eq.mp beq_iff_eq.mp⟩
theorem srcs_ok:(srcs.all fun d=>d.any defOk)=true:=by decide +kernel
theorem src_ok {f:Nat}(h:f<45):∃d,srcs[f]?=some (some d)∧DefOk d:=by
 have hf:f<srcs.length:=h
 have q:=List.all_eq_true.mp srcs_ok _ (List.getElem_mem hf)
 cases e:srcs[f]with
 | none=>rw[e]at q;contradiction
 | some d=>rw[e]at q;exact⟨d,(List.getElem?_eq_getElem hf).trans (congrArg some e),defOk_is q⟩
structure FnAt (h₀:Heap) (d:DefSrc) (a:Addr)where
 o:Obj
 fd:FuncData
 get:h₀.get? a=some o
 data:o.data=.func fd
 fcls:o.cls=.type "function"
 params:fd.params=d.args
 body:fd.body=.stmts d.body
 scope:fd.scope=d.scope
 globals:fd.globals=mainGlobals
 closure:fd.closure=[]
 builtins:fd.builtins=builtinsNs
 defaults:fd.defaults=.none∨∃t ob its n,fd.defaults=.ref t∧h₀.get? t=some ob∧ob.data=.seq its n
 code:h₀.CodeRec fd.code fd.qualname
theorem FnAt.defs {h₀:Heap}{d:DefSrc}{a:Addr}(x:FnAt h₀ d a) {s:Shared}(k:Kps h₀ s.heap):∃d:Option (Array Value),∀(M:Model) (A:Around) (E:Value→Shared→Prop) (Q:Option (Array Value)→Shared→Prop),Q d s→wpAny M A (seqItems? x.fd.defaults) Q E s:=by
 rcases x.defaults with e | ⟨t,ob,its,n,e,g,hd⟩
 ·rw[e]
  exact⟨none,fun J J J Q q=>wpAny_pure q⟩
 ·rw[e]
  refine⟨some its,fun J J J Q q=>?_⟩
  unfold seqItems?
  refine wpAny_bind (wpAny_load (k _ _ g) ?_)
  rw[hd]
  exact wpAny_pure q
noncomputable abbrev Ctx.in (Γ:Ctx) (env:Env) (hu:Γ.A.units+67<cLine) (hr:Γ.A.depth+6<recursionLimit):Ctx:=
 { Γ.toFacts with A:=Γ.A.deeper env,fs:=env::Γ.fs,handled:=Γ.handled,units:=(Nat.add_right_comm Γ.A.units 3 64▸hu:Γ.A.units+3+64<cLine),room:=(Nat.add_right_comm Γ.A.depth 1 5▸hr:Γ.A.depth+1+5<recursionLimit) }
abbrev OwnE (env:Env) (b:Addr):Prop:=b=env.locals∨∃x,env.cells.lookup x=some b
section
variable {Γ:Ctx}{env:Env}{hu:Γ.A.units+67<cLine}{hr:Γ.A.depth+6<recursionLimit}{σ σ':Wd}{h h':Hp}{as:List V}{us:List Value}{N:Nat}{fs:List Env}{s₁:Shared}{b:Addr}{d:DefSrc}{e0:Value}{s':Shared}{ea:Addr}{a0:Value}{B H:Heap}{ν':Nu}
theorem frames_eq (hf:env.frame=some env.locals):framesOf (env::fs)=env.locals::framesOf fs:=by unfold framesOf;rw[List.filterMap_cons,hf]
theorem Tr.out (hf:env.frame=some env.locals) (hn:σ.H.get? env.locals=none) (T:Tr (Γ.in env hu hr) σ σ'):Tr Γ σ σ' where
 ext:=T.ext
 kept:=fun b o e n=>have z:=T.kept b o e n
  ⟨fun q=>z.1 fun z=>by
   rw[show framesOf (Γ.in env hu hr).fs=_ from frames_eq hf]at z
   exact(List.mem_cons.mp z).elim (fun z=>nomatch (z▸e).symm.trans hn) q,z.2⟩
 gens:=T.gens
 os:=T.os
theorem St.outer (hf:env.frame=some env.locals) (S:St (Γ.in env hu hr) h σ):St Γ h σ:=⟨S.hr,S.funs.2.2,fun b q=>S.out b (by rw[show framesOf (Γ.in env hu hr).fs=_ from frames_eq hf];exact .tail _ q)⟩
theorem low_in (hL:env.locals=σ.H.objs.size) (ab:∀n c,(n,c)∈env.cells→env.locals<c) (q:OwnE env b):σ.H.get? b=none:=by
 have:σ.H.objs.size≤b:=q.elim (fun e=>by rw[e,hL];exact Nat.le_refl _) fun q=>q.elim fun x e=>hL▸Nat.le_of_lt (ab x b (PySem.mem_of_lookup e))
 cases q:σ.H.get? b with
 | none=>rfl
 | some o=>exact absurd (Heap.lt_size q) (Nat.not_lt.mpr this)
theorem entry_fe (D:DefOk d) (hsc:env.scope=d.scope) (hc:env.cells=cellsFrom (σ.H.objs.size+1) d.scope.names []) (hnf:∀b,OwnE env b→¬Foot σ.ν b)
  (x:InCallC σ.s env.locals (bindL env.kindOf ((d.args.args.map (·.arg)).zip us) fun J=>none) env.cells (bindC env.kindOf ((d.args.args.map (·.arg)).zip us) fun J=>none) s₁) (r:VRs σ.ν as us) (hl:as.length=d.args.args.length) :
  FRel env (slotsOf d) (as.map some++List.replicate N none) (slotsOf d) (as.map some++List.replicate N none) σ.ν s₁.heap:=by
 have kof:∀y,env.kindOf y=d.scope.names.lookup y:=fun y=>by unfold Env.kindOf;rw[hsc]
 have arg:∀{k:Nat} {y:Str} {v:V},(slotsOf d)[k]?=some y→(as.map some++List.replicate N none)[k]?=some (some v)→(d.args.args.map (·.arg))[k]?=some y∧∃u,us[k]?=some u∧VR σ.ν v u:=fun{k y v} h1 h2=>
  have h3:=frame_some h2
  ⟨(List.getElem?_append_left (by rw[List.length_map,← hl];exact(List.getElem?_eq_some_iff.mp h3).1)).symm.trans h1,All2.get r h3⟩
 refine⟨⟨_,x.toInCall.ns,fun k y v h1 h2 h3=>?_⟩,fun k y h1 h2=>?_,hnf _ (.inl rfl),fun y c e=>⟨⟨_,x.cell y c e⟩,hnf c (.inr ⟨y,e⟩)⟩,fun y z c e1 e2=>name_of_addr x.apart (PySem.mem_of_lookup e1) (PySem.mem_of_lookup e2)⟩
 ·exact(arg h1 h3).2.elim fun u q=>⟨u,bindL_is h2 D.nd (arg h1 h3).1 q.1,q.2⟩
 ·have hk:=D.kinds y (List.mem_of_getElem? h1)
  rw[← kof]at hk
  have hcell:env.kindOf y=some .cell:=hk.resolve_left fun z=>by rw[z]at h2;exact h2.elim (by simp) fun h=>(by contradiction)
  refine(Option.isSome_iff_exists.mp (cellsFrom_some (x:=y) d.scope.names (σ.H.objs.size+1) [] (.inl ((kof y).symm.trans hcell)))).elim fun c e=>?_
  rw[← hc]at e
  exact⟨c,_,e,x.cell y c e,fun v hv=>(arg h1 hv).2.elim fun u q=>⟨u,bindC_is (by rw[hcell];exact by simp) D.nd (arg h1 hv).1 q.1,q.2⟩⟩
theorem entry_st {m cm:Str→Option Value}(hk:env.scope.kind=.function) (hf:env.frame=some env.locals) (hn:∀b,OwnE env b→σ.H.get? b=none) (x:InCallC σ.s env.locals m env.cells cm s₁) (S:St Γ h σ):St (Γ.in env hu hr) h ⟨σ.ν,s₁⟩∧Tr (Γ.in env hu hr) σ ⟨σ.ν,s₁⟩:=by
 obtain⟨H,tk,e⟩:=x.toInCall.same
 have kp:Kps σ.H s₁.heap:=x.toInCall.keep
 obtain⟨ob,es,ep,hob,hdat,_⟩:=x.toInCall.ns
 refine⟨⟨S.hr.keepAll kp,⟨(by rw[hk];exact by simp),⟨env.locals,ob,hf,low_none S.hr.keep (hn _ (.inl rfl)),hob,fun vs q=>(nomatch hdat.symm.trans q)⟩,funs_keep S.funs fun b hb o ho hd=>⟨o,kp b o ho,hd⟩⟩,fun b hb=>?_⟩,.refl,fun b o q J=>⟨fun J=>kp b o q,Sl.refl (kp b o q)⟩,by rw[e],by rw[e]⟩
 rw[show framesOf (Γ.in env hu hr).fs=_ from frames_eq hf]at hb
 exact(List.mem_cons.mp hb).elim (fun z=>z▸S.nf (hn _ (.inl rfl))) (S.out b)
theorem left_post (hf:env.frame=some env.locals) (hn:σ.H.get? env.locals=none) (T:Tr (Γ.in env hu hr) σ σ') {h1:Hp}(R:HR Γ.toFacts σ'.ν h1 σ'.H) (hr':HR Γ.toFacts ν' h' B) (ext:Ext σ'.ν σ'.H ν') (kb:∀b o,σ'.H.get? b=some o→¬Foot σ'.ν b→b∉framesOf (env::Γ.fs)→B.get? b=some o)
  (kf:∀b∈framesOf Γ.fs,∀o,σ'.H.get? b=some o→Sl o (s'.heap.get? b)) (fr:s'.heap.FunFrames B (env::Γ.fs)) (fl:Heap.FlyingW B Γ.fs ea (.ref Γ.lisp) a0 H) (up:s'.heap.UpToSlots H) (eg:s'.gens=σ'.s.gens) (eo:s'.os=σ'.s.os) (out:∀b∈framesOf Γ.fs,¬Foot σ.ν b):ExnPost Γ σ h' (.ref ea) { s' with heap:=H } ea a0 B ν':=by
 have T':=T.out hf hn
 refine⟨rfl,fl,hr',?_,fun b o e n q=>?_,fun b hb o e=>?_,eg.trans T.gens,eo.trans T.os⟩
 ·have T2:Tr Γ σ' ⟨ν',σ'.s⟩:=⟨ext,fun b o e J=>⟨fun J=>e,Sl.refl e⟩,rfl,rfl⟩
  exact(T'.trans R T2).ext
 ·refine kb b o ((T'.kept b o e n).1 q) (T.ext.notFoot e n) fun z=>?_
  rw[frames_eq hf]at z
  exact(List.mem_cons.mp z).elim (fun z=>nomatch (z▸e).symm.trans hn) q
 ·refine(T'.kept b o e (out b hb)).2.elim fun sl z=>(kf b hb _ z).elim fun sl2 z=>(fr.2.2.mem hb).2.elim fun o' q=>?_
  refine(up b _ z fun vs e=>q.2 vs ((congrArg Obj.data (Option.some.inj (q.1.symm.trans z))).trans e)).elim fun sl3 z=>⟨sl3,z⟩
end
end Mine
namespace Mine
open PySem PySem.W PyProof.Rows PySem.SeqAt PySem.EqNone PySem.MeetsSeq PySem.Calls
abbrev wRet (R:Result→Shared→Prop) (v:Value) (s:Shared):Prop:=R (.ok (.ret v)) s
abbrev CG (Γ:Ctx) (n f:Nat) (as:List V) (us:List Value) (h:Hp) (σ:Wd) (Qc:V→Hp→Prop) (Zc:Hp→Prop) (R:Result→Shared→Prop):Prop:=
 f<45→St Γ h σ→VRs σ.ν as us→callP prog n f as h Qc Zc→(∀r h',Qc r h'→Kq Γ σ (wRet R) r h')→
 (∀h' e s' ea a0 B ν',Zc h'→ExnPost Γ σ h' e s' ea a0 B ν'→R (.error e) s')→codeAny (model Γ.pr Γ.w) Γ.A (.call (.ref (Γ.fnA f)) ⟨us,[]⟩) R σ.s
noncomputable def CN (F:Facts) (n:Nat):Prop:=∀(A:Around) (fs:List Env) (hh:A.handled=none) (hu:A.units+64<cLine) (hr:A.depth+5<recursionLimit),A.frames=some fs→A.depth+3*n+12<recursionLimit→A.units+20*n+120<cLine→
 ∀f as us h σ Qc Zc R,CG ⟨F,A,fs,hh,hu,hr⟩ n f as us h σ Qc Zc R
theorem sc_of {Γ:Ctx}{n:Nat}(x:∀f as us h σ Qc Zc R,CG Γ n f as us h σ Qc Zc R):SC Γ (cn prog n):=fun f as us h σ Qc Zc Q E hf S r y k kz=>
 wpAny_call (x f as us h σ Qc Zc _ hf S r y k kz)
theorem units_make (A:Around) (C:Addr) (rest:List Value):(A.under (.builtin "type.__call__" ⟨.ref C::rest,[]⟩)).units=A.units+1:=rfl
theorem inits_lt {k f:Nat}(h:prog.inits[k]?=some f):f<45:=
 match k,h with
 | 0,h=>Option.some.inj h▸(Nat.le_of_ble_eq_true rfl)
 | 1,h=>Option.some.inj h▸(Nat.le_of_ble_eq_true rfl)
theorem sn_of {F:Facts}{n:Nat}(IH:CN F n) {A:Around}{fs:List Env}{hh:A.handled=none}{hu:A.units+64<cLine}{hr:A.depth+5<recursionLimit}(hf:A.frames=some fs) (h1:A.depth+3*n+13<recursionLimit) (h2:A.units+20*n+121<cLine):SN ⟨F,A,fs,hh,hu,hr⟩ (cn prog n):=by
 intro k as us h σ Qc Q E hk S r x kq
 unfold wI at x
 refine wpAny_call ((wO.to x fun J q=>q).of fun f e x=>?_)
 have J:=F.init k f e;have f1:=J.1;have f2:=J.2
 obtain⟨ν,⟨hh',g,dr,tk,os⟩⟩:=σ
 have kp:Kps F.h₀ hh':=S.hr.keep
 have X:F.K.In hh':=fun a o e=>kp _ _ (F.X a o e)
 refine make_core (makes_of X (F.makes k hk)) (looks_findIn X f1) (fun self=>bind_fn X self f2) (.inl rfl) ?_
 have n2:hh'.get? hh'.objs.size=none:=none_size _
 have n1:hh'.get? (hh'.objs.size+1)=none:=by
  cases q:hh'.get? (hh'.objs.size+1)with
  | none=>rfl
  | some o=>exact absurd (Heap.lt_size q) (Nat.not_lt.mpr (Nat.le_succ _))
 have kk:Kps hh' ((hh'.push emptyDict).push (instObj (F.cls k) hh'.objs.size)):=fun b o e=>Heap.get?_push_of_some _ (Heap.get?_push_of_some _ e)
 have fr:∀b,Pl (hh'.objs.size+1,hh'.objs.size) b→hh'.get? b=none:=fun b q=>q.elim (fun e=>e▸n1) fun e=>e▸n2
 have R':=S.hr.push (o:=.inst k []) (p:=(hh'.objs.size+1,hh'.objs.size)) (fun b o J e=>kk b o e) (fun b o e=>kk b o (kp b o e)) (fun b q=>S.nf (fr b q)) (fun b q=>low_none kp (fr b q))
  (.inst (es:=[]) (n:=0) hk (Nat.succ_ne_self _).symm (Nat.zero_le _) (by heap_get) (by heap_get) .nil)
 have T:Tr ⟨F,A,fs,hh,hu,hr⟩ ⟨ν,⟨hh',g,dr,tk,os⟩⟩ ⟨ν++[(hh'.objs.size+1,hh'.objs.size)],⟨(hh'.push emptyDict).push (instObj (F.cls k) hh'.objs.size),g,dr,tk,os⟩⟩:=
  ⟨.mk fun p hp b q=>fr b (List.mem_singleton.mp hp▸q),fun b o q J=>⟨fun J=>kk b o q,Sl.refl (kk b o q)⟩,rfl,rfl⟩
 have S':=S.tr T R'
 have vr:VR (ν++[(hh'.objs.size+1,hh'.objs.size)]) (.ref h.length) (.ref (hh'.objs.size+1)):=⟨_,by rw[← S.hr.len,List.getElem?_append_right (Nat.le_refl _),Nat.sub_self];rfl,rfl⟩
 have x:callP prog n f (.ref h.length::as) (h++[O.inst k []]) (fun v h'=>v=.none∧Qc (.ref h.length) h') no:=x
 refine IH (A.under (.builtin "type.__call__" ⟨.ref (F.cls k)::us,[]⟩)) fs hh ?_ ?_ hf ?_ ?_ f (.ref h.length::as) (.ref (hh'.objs.size+1)::us) (h++[O.inst k []]) ⟨_,_⟩ _ no _ (inits_lt e) ⟨S'.hr,S'.funs,S'.out⟩ (.cons vr r.mono) x ?_ fun J J J J J J J q=>q.elim
 ·rw[units_make];lia
 ·rw[under_make];lia
 ·rw[under_make];lia
 ·rw[units_make];lia
 ·exact fun v h' q σ' w S2 T2 rv=>⟨by rw[q.1]at rv;exact rv,kq _ _ q.2 σ' _ ⟨S2.hr,S2.funs,S2.out⟩ (T.trans S'.hr ⟨T2.ext,T2.kept,T2.gens,T2.os⟩) (vr.ext T2.ext)⟩
noncomputable abbrev bodyC (Γ:Ctx) (env:Env) (hu:Γ.A.units+67<cLine) (hr:Γ.A.depth+6<recursionLimit) (d:DefSrc) (σ:Wd) (Qc:V→Hp→Prop) (Zc:Hp→Prop) (n:Nat) (k:env.scope.kind=.function) (g:env.globals=mainGlobals) (b:env.builtins=builtinsNs) (nn:KindR d.scope env) (sc:SC (Γ.in env hu hr) (cn prog n)) (sn:SN (Γ.in env hu hr) (cn prog n)):Cf0:=
 { Γ.in env hu hr with env:=env,cx:=⟨d.scope,slotsOf d,none⟩,c:=cn prog n,P:=pF Qc Zc,b0:=σ,keep:=fun J J=>False,n0:=[],nk:=fun J J q=>q.elim,envK:=k,envG:=g,envB:=b,envN:=nn,cM:=rfl,cI:=rfl,calls:=sc,news:=sn }
section
variable {Γ:Ctx}{env:Env}{hu:Γ.A.units+67<cLine}{hr:Γ.A.depth+6<recursionLimit}{d:DefSrc}{σ σ':Wd}{Qc:V→Hp→Prop}{Zc:Hp→Prop}{n:Nat}{k:env.scope.kind=.function}{g:env.globals=mainGlobals}{b:env.builtins=builtinsNs}{nn:KindR d.scope env}{sc:SC (Γ.in env hu hr) (cn prog n)}{sn:SN (Γ.in env hu hr) (cn prog n)}{R:Result→Shared→Prop}{fr:Fr}{st:List V}{us:List Value}{h h':Hp}{e:Value}{s':Shared}{ea t:Addr}{a0:Value}{B:Heap}{ν':Nu}{dx:Option Addr}{es:List DictEntry}
abbrev Leave (Γ:Ctx) (env:Env) (R:Result→Shared→Prop) (e:Value) (s':Shared):Prop:=wpAny (model Γ.pr Γ.w) (Γ.A.deeper env) (leaving env e) (fun J s''=>R (.error e) s'') (fun e' s''=>R (.error e') s'') s'
theorem deep_frames (hA:Γ.A.frames=some Γ.fs):(Γ.A.deeper env).frames=some (env::Γ.fs):=by
 show Γ.A.frames.map _=_
 rw[hA];rfl
theorem leave_fly (hA:Γ.A.frames=some Γ.fs) (hf:env.frame=some env.locals) (hn:σ.H.get? env.locals=none) (out:∀b∈framesOf Γ.fs,¬Foot σ.ν b) (kz:∀h' e s' ea a0 B ν',Zc h'→ExnPost Γ σ h' e s' ea a0 B ν'→R (.error e) s')
  (G:At0 (bodyC Γ env hu hr d σ Qc Zc n k g b nn sc sn) fr st us h σ') (z:Zc h') (y:ExnPost (Γ.in env hu hr) σ' h' e s' ea a0 B ν'):Leave Γ env R e s':=
 y.ev▸wpAny_leaves_onW (deep_frames hA) hf y.fl fun H fl up=>kz _ _ _ _ _ _ _ z (left_post (hu:=hu) (hr:=hr) hf hn G.tr G.S.hr y.hr y.ext y.kb (fun b hb=>y.kf b (frames_eq (fs:=Γ.fs) hf▸.tail _ hb)) y.fl.2.2.1 fl up y.gens y.os out)
theorem leave_new (hA:Γ.A.frames=some Γ.fs) (hf:env.frame=some env.locals) (hn:σ.H.get? env.locals=none) (out:∀b∈framesOf Γ.fs,¬Foot σ.ν b) (kz:∀h' e s' ea a0 B ν',Zc h'→ExnPost Γ σ h' e s' ea a0 B ν'→R (.error e) s')
  (G:At0 (bodyC Γ env hu hr d σ Qc Zc n k g b nn sc sn) fr st us h σ') (z:Zc h) (k2:Kps σ'.H s'.heap) (n2:σ'.H.get? ea=none) (x:ExcAt Γ.toFacts s'.heap ea t dx es) (eg:s'.gens=σ'.s.gens) (eo:s'.os=σ'.s.os):Leave Γ env R (.ref ea) s':=by
 have fr3:s'.heap.FunFrames (hideAll σ'.H (framesOf (env::Γ.fs))) (env::Γ.fs):=funs_keep (funFrames_hide G.S.funs fun env' he a ha=>List.mem_filterMap.mpr ⟨env',he,ha⟩) fun b hb o ho hd=>⟨o,k2 b o ho,hd⟩
 have ne2:(hideAll σ'.H (framesOf (env::Γ.fs))).get? ea=none:=by
  cases q:(hideAll σ'.H (framesOf (env::Γ.fs))).get? ea with
  | none=>rfl
  | some o=>exact nomatch (of_hideAll _ q).symm.trans n2
 exact wpAny_leaving_firstW (deep_frames hA) fr3 hf x.obj (fun b o q=>k2 b o (of_hideAll _ q)) ne2 rfl rfl rfl fun H lw=>lw.elim fun stays lw=>lw.elim fun ff lw=>lw.elim fun tr up=>kz _ _ _ _ _ _ _ z
  (left_post (hu:=hu) (hr:=hr) hf hn G.tr G.S.hr (G.S.hr.keeps (fun b o hb e=>hideAll_get _ e fun hm=>G.S.out b hm hb) fun b o e=>hideAll_get _ (G.S.hr.keep b o e) fun hm=>nomatch e.symm.trans (G.S.funs.mem hm).1) .refl (fun b o e J q=>hideAll_get _ e q) (fun b hb o e=>Sl.refl (k2 b o e)) fr3 ⟨stays,ne2,ff.2.2,tr⟩ up eg eo out)
theorem body_go (hA:Γ.A.frames=some Γ.fs) (hf:env.frame=some env.locals) (hn:∀b,OwnE env b→σ.H.get? b=none) (S:St Γ h σ) (D:DefOk d) {l:List I}{s₁:Shared}(hb:∀Γ':Cb,Γ'.cx=⟨d.scope,slotsOf d,none⟩→SL Γ' d.body l []) (G:At0 (bodyC Γ env hu hr d σ Qc Zc n k g b nn sc sn) fr [] [] h ⟨σ.ν,s₁⟩)
  (x:go (cn prog n) (pF Qc Zc) (kF Qc) l fr h []) (kk:∀r h',Qc r h'→Kq Γ σ (wRet R) r h') (kz:∀h' e s' ea a0 B ν',Zc h'→ExnPost Γ σ h' e s' ea a0 B ν'→R (.error e) s') :
  wpAny (model Γ.pr Γ.w) (Γ.A.deeper env) (execs d.body env) (fun f s'=>R (.ok (.ret (match f with | .ret v=>v | _=>.none))) s') (Leave Γ env R) s₁:=
 hb {
   toCf0:=bodyC Γ env hu hr d σ Qc Zc n k g b nn sc sn,
   E:=Leave Γ env R,
   hE:=fun J J J J J J J J J J J J G z y=>leave_fly hA hf (hn _ (.inl rfl)) S.out kz G z y,
   fs':=Γ.fs,
   efs:=rfl,
   frames:=deep_frames hA,
   frame:=hf,
   noC:=rfl,
   nd:=D.slots,
   new:=fun b q=>⟨hn b q,low_none S.hr.keep (hn b q)⟩,
   hZ:=fun J J J J J J J J J J G z k2 n2 x eg eo=>leave_new hA hf (hn _ (.inl rfl)) S.out kz G z k2 n2 x eg eo } rfl _ fr h ⟨σ.ν,s₁⟩ _ G x
  (fun fr h σ' G q=>kk _ _ q σ' _ (St.outer (hu:=hu) (hr:=hr) hf G.S) (Tr.out (hu:=hu) (hr:=hr) hf (hn _ (.inl rfl)) G.tr) rfl)
  (fun fr a v h σ' G q=>kk _ _ q σ' _ (St.outer (hu:=hu) (hr:=hr) hf G.S) (Tr.out (hu:=hu) (hr:=hr) hf (hn _ (.inl rfl)) G.tr) G.vs.un.1)
end
theorem comp_at {f:Nat}{d:DefSrc}{fn:Fn}(hd:srcs[f]?=some (some d)) (hf:prog.fns[f]?=some fn):compFn d=some fn:=by
 have:=congrArg (fun l=>l[f]?) comp_ok
 simp only[List.getElem?_map,hd,hf,Option.map_some]at this
 exact Option.some.inj this
theorem comp_sl {d:DefSrc}{fn:Fn}(h:compFn d=some fn):fn.np=d.args.args.length∧∀Γ':Cb,Γ'.cx=⟨d.scope,slotsOf d,none⟩→SL Γ' d.body fn.body []:=
 mp_ h fun b hb e=>by
  subst e
  exact⟨rfl,fun Γ' q=>kSs_ok (fun s l r=>s_ok (cp_ok 39) (cp_ok 40) 20 Γ' s l r) (q▸hb)⟩
theorem call_step {F:Facts}{n:Nat}(FN:∀(f:Nat) (d:DefSrc),srcs[f]?=some (some d)→Nonempty (FnAt F.h₀ d (F.fnA f))) (IH:CN F n):CN F (n+1):=by
 intro A fs hh hu hr hA h1 h2 f as us h σ Qc Zc R hf S r x kk kz
 obtain⟨d,hd,D⟩:=src_ok hf
 obtain⟨P⟩:=FN f d hd
 rw[callP_is]at x
 obtain⟨fn,hfn,hl,x⟩:=x
 rw[← callP_is]at x
 obtain⟨hnp,hb⟩:=comp_sl (comp_at hd hfn)
 have kp:Kps F.h₀ σ.H:=S.hr.keep
 refine codeAny_call_function (by exact Nat.lt_of_le_of_lt (Nat.le_add_right _ _) (by assumption)) (kp _ _ P.get) P.data (by rw[P.scope];exact D.noCo) (by rw[P.scope];exact D.noGen) P.body (P.code.elim fun c q=>q.elim fun o q=>q.elim fun vs q=>q.elim fun t q=>⟨c,o,vs,t,q.1,kp _ _ q.2.1,q.2.2⟩) ((P.defs kp).elim fun dd hdd=>?_)
 refine bind_plain (by rw[P.params];exact D.pos) (by rw[P.params];exact D.kwo) (by rw[P.params];exact D.va) (by rw[P.params];exact D.kwa) (by rw[P.params];exact D.nd) (by rw[P.params,← r.length,hl,hnp]) (hdd _ _ _) ?_
 rw[P.closure,P.scope,P.globals,P.builtins,P.params]
 refine wpAny_newFunctionEnv_cells D.kind (fun y hy=>(D.kinds y.1 (List.mem_append_left _ (List.of_mem_zip (b:=y.2) hy).1)).imp id fun q=>⟨q,cellsFrom_some _ _ _ (.inl q)⟩) fun env he s₁ x1=>⟨(F.nolimit.keeps kp).keeps x1.toInCall.keep,codeAny_func ?_⟩
 have hsc:env.scope=d.scope:=by rw[he];rfl
 have hk:env.scope.kind=.function:=hsc▸D.kind
 have hfr:env.frame=some env.locals:=by rw[he];rfl
 have own:∀b,OwnE env b→σ.H.get? b=none:=fun b=>low_in (by rw[he];rfl) x1.above
 have kof:∀y,env.kindOf y=d.scope.names.lookup y:=fun y=>by unfold Env.kindOf;rw[hsc]
 have hu':A.units+67<cLine:=by lia
 have hr':A.depth+6<recursionLimit:=by lia
 have st:=entry_st (Γ:=⟨F,A,fs,hh,hu,hr⟩) (hu:=hu') (hr:=hr') hk hfr own x1 S
 have fe:=entry_fe (N:=fn.ns-fn.np) D hsc (by rw[he];rfl) (fun b q=>S.nf (own b q)) x1 r (hl.trans hnp)
 have a1:(A.deeper env).frames=some (env::fs):=deep_frames (Γ:=⟨F,A,fs,hh,hu,hr⟩) hA
 have IH':=IH (A.deeper env) (env::fs) hh (by show A.units+3+64<_;assumption) (by show A.depth+1+5<_;assumption) a1 (by show A.depth+1+3*n+12<_;lia) (by show A.units+3+20*n+120<_;lia)
 exact body_go (Γ:=⟨F,A,fs,hh,hu,hr⟩) (hu:=hu') (hr:=hr') (k:=hk) (g:=by rw[he];rfl) (b:=by rw[he];rfl) (nn:=⟨fun y e=>(kof y).trans e,fun y e=>(kof y).trans e,fun y e=>.inr ((kof y).trans e),fun y e=>(kof y).trans e⟩) (sc:=sc_of IH') (sn:=sn_of IH a1 (by show A.depth+1+3*n+13<_;lia) (by show A.units+3+20*n+121<_;lia)) hA hfr own S D hb ⟨st.1,st.2,fe,.nil,fun J J q=>q.elim,fun J J q=>(by contradiction)⟩ x kk kz
theorem calls_ok {F:Facts}(FN:∀(f:Nat) (d:DefSrc),srcs[f]?=some (some d)→Nonempty (FnAt F.h₀ d (F.fnA f))) (n:Nat):CN F n:=by
 induction n with
 | zero=>exact fun J J J J J J J J J J J J J J J J J J J x=>by rw[callP_is]at x;exact x.elim
 | succ n ih=>exact call_step FN ih
end Mine
namespace Mine
open PySem PySem.W PyProof.Rows PySem.SeqAt PySem.EqNone PySem.MeetsSeq PySem.Calls
section
variable {K:Frag}{h:Heap}{a:Addr}{m:Str→Option Value}{x:Str}{v:Value}{o:Obj}
theorem oe {α:Type}{o:Option α}{P:α→Prop}{a:α}(e:o=some a) (q:o.elim True P):P a:=by rw[e]at q;exact q
theorem fdOf_is {fd:FuncData}(e:fdOf o=some fd):o.data=.func fd:=oe (P:=fun fd=>o.data=.func fd) e (by
 obtain⟨c,d,t,l⟩:=o
 cases t<;>first | exact True.intro | rfl)
theorem sqOf_is {q:Array Value×Nat}(e:sqOf o=some q):o.data=.seq q.1 q.2:=oe (P:=fun q=>o.data=.seq q.1 q.2) e (by
 obtain⟨c,d,t,l⟩:=o
 cases t<;>first | exact True.intro | rfl)
theorem flOf_is {q:Array Value}(e:flOf o=some q):o.data=.fields q:=oe (P:=fun q=>o.data=.fields q) e (by
 obtain⟨c,d,t,l⟩:=o
 cases t<;>first | exact True.intro | rfl)
theorem rfOf_is (e:rfOf v=some a):v=.ref a:=oe (P:=fun a=>v=.ref a) e (by cases v<;>first | exact True.intro | rfl)
theorem stOf_is {q:Str×Tok}(e:stOf v=some q):v=.str q.1 q.2:=oe (P:=fun q=>v=.str q.1 q.2) e (by cases v<;>first | exact True.intro | rfl)
theorem itOf'_is {q:Int×Tok}(e:itOf' v=some q):v=.int q.1 q.2:=oe (P:=fun q=>v=.int q.1 q.2) e (by cases v<;>first | exact True.intro | rfl)
theorem isNn_is (e:isNn v=true):v=.none:=
 have q:isNn v=false∨v=.none:=by cases v<;>first | exact .inl rfl | exact .inr rfl
 q.elim (fun z=>by rw[z]at e;contradiction) id
theorem ns_of (X:K.In h) (G:h.Ns a m) (e:nsIn K a x=some (some v)):m x=some v:=by
 obtain⟨o,es,ep,ho,hd,_,hf⟩:=G
 delta nsIn at e
 cases q:K.lookup a with
 | none=>rw[q]at e;contradiction
 | some ob=>
  rw[q]at e
  obtain⟨c,d,t,l⟩:=o
  cases ho.symm.trans (X _ _ q)
  subst hd
  dsimp only at e
  cases z:es.toList.find? (·.key.isStr x)with
  | none=>rw[z]at e;exact ite_ (show(if es.toList.any (·.refKey)=true then none else some none)=some (some v)from e) (fun _ e=>nomatch e) fun _ e=>nomatch e
  | some en=>
   rw[z]at e
   rw[← hf]
   unfold nsFind findBy
   rw[← Array.find?_toList,z]
   exact Option.some.inj e
theorem fn_at {d:DefSrc}(X:K.In h) (e:fnView K a=some (viewF d)) (m:fnMore K a=some true):Nonempty (FnAt h d a):=
 bnd e fun o ho e=>mp_ e fun fd hfd e=>bnd m fun o' ho' m=>bnd m fun fd' hfd' m=>iff_ m fun hc m=>bnd m fun u hu m5=>by
  cases ho.symm.trans ho'
  cases hfd.symm.trans hfd'
  obtain⟨e1,e⟩:=Prod.mk.inj e
  obtain⟨e2,e⟩:=Prod.mk.inj e
  obtain⟨e3,e⟩:=Prod.mk.inj e
  obtain⟨e4,e⟩:=Prod.mk.inj e
  obtain⟨e5,e6⟩:=Prod.mk.inj e
  refine⟨⟨o,fd,X _ _ ho,fdOf_is hfd,beq_iff_eq.mp hc,e1,e2,e3,e4,e5,e6,?_,?_⟩⟩
  ·exact ite_ hu (fun q J=>.inl (isNn_is q)) fun J hu=>bnd hu fun t ht hu=>bnd hu fun o' ho hu=>mp_ hu fun q hq J=>.inr ⟨t,_,_,_,rfOf_is ht,X _ _ ho,sqOf_is hq⟩
  ·exact bnd m5 fun c hc m=>bnd m fun o' ho m=>bnd m fun vs hvs m=>bnd m fun v hv m=>mp_ m fun q hq m=>⟨c,_,vs,q.2,rfOf_is hc,X _ _ ho,flOf_is hvs,hv.trans (congrArg some ((stOf_is hq).trans (by rw[beq_iff_eq.mp m])))⟩
theorem lispSrc_is:∃d,lispSrc=some d∧d.body=[.Assign [.Attribute (.Name "self" (lispPos.getD 0 default)) "symbol" (lispPos.getD 1 default)] (.Name "symbol" (lispPos.getD 2 default)) (lispPos.getD 3 default),.Assign [.Attribute (.Name "self" (lispPos.getD 4 default)) "data" (lispPos.getD 5 default)] (.Name "data" (lispPos.getD 6 default)) (lispPos.getD 7 default)]∧
  d.scope.names=[(("self" : Str),NameKind.local),(("symbol" : Str),NameKind.local),(("data" : Str),NameKind.local)]∧d.scope.kind=.function∧d.scope.isCoroutine=false∧d.scope.isGenerator=false∧
  d.args.posonlyargs=[]∧d.args.kwonlyargs=[]∧d.args.vararg=none∧d.args.kwarg=none∧d.args.args.map (·.arg)=[("self" : Str),("symbol" : Str),("data" : Str)]:=
 ⟨_,rfl,rfl,rfl,rfl,rfl,rfl,rfl,rfl,rfl,rfl,rfl⟩
theorem lisp_f (ok:kObs K=kVal) (X:K.In h):Nonempty (LispF h 38):=by
 obtain⟨d,hd,d1,d2,d3,d4,d5,d6,d7,d8,d9,d10⟩:=lispSrc_is
 have k1:fnView K 35=lispSrc.map viewF:=congrArg (fun x=>x.2.1) ok
 have k2:K.lookup 38=some lispO:=congrArg (fun x=>x.2.2.1) ok
 have k4:nsIn K 37 "__setattr__"=some none:=congrArg (fun x=>x.2.2.2.2.1) ok
 have k5:nsIn K 37 "symbol"=some none:=congrArg (fun x=>x.2.2.2.2.2.1) ok
 have k6:nsIn K 37 "data"=some none:=congrArg (fun x=>x.2.2.2.2.2.2.1) ok
 have k7:nsIn K 37 "__init__"=some (some (.ref 35)):=congrArg (fun x=>x.2.2.2.2.2.2.2.1) ok
 have k13:fnMore K 35=some true:=congrArg (fun x=>x.2.2.2.2.2.2.2.2.2.2.2.2.2.1) ok
 have k14:dfltNone K 35=some true:=congrArg (fun x=>x.2.2.2.2.2.2.2.2.2.2.2.2.2.2.1) ok
 have k19:(nsOkIn K 37&&keepIn K (.ref 38))=true:=congrArg (fun x=>x.2.2.2.2.2.2.2.2.2.2.2.2.2.2.2.2.2.2.2.1) ok
 rw[hd]at k1
 obtain⟨P⟩:=fn_at X k1 k13
 have hN:h.Ns 37 (h.nsMap 37):=.of_isNs (isNs_of_in X (Bool.and_eq_true_iff.mp k19).1)
 have dn:P.fd.defaults=.none:=bnd k14 fun o ho e=>mp_ e fun fd hfd e=>by
  cases P.get.symm.trans (X _ _ ho)
  cases P.data.symm.trans (fdOf_is hfd)
  exact isNn_is e
 exact⟨{
  nm:="LispSignal",q:="LispSignal",N:=37,bs:=[.type "Exception"],sn:=[],sub:=[],ab:=false,col:=none,dd:=none,k0:=some (.ref 22),k1:=none,k2:=some (.str "LispSignal" 196),k3:=some (.str "LispSignal" 204),k5:=some (.bool true),mN:=h.nsMap 37,
  obj:=X _ _ k2,ns:=hN,noSet:=ns_none_of X hN k4,noSym:=ns_none_of X hN k5,noData:=ns_none_of X hN k6,fI:=35,oI:=P.o,fd:=P.fd,p:=lispPos,init:=ns_of X hN k7,fn:=P.get,fcls:=P.fcls,data:=P.data,
  body:=P.body.trans (congrArg _ d1),
  binds:=fun s a b c M A E Q q=>bind_plain (d:=none) (by rw[P.params];exact d6) (by rw[P.params];exact d7) (by rw[P.params];exact d8) (by rw[P.params];exact d9) (by rw[P.params,d10];decide) (by have:=congrArg List.length d10;rw[List.length_map]at this;rw[P.params];exact this.symm) (fun Q q=>by rw[dn];exact wpAny_pure q) (by rw[P.params,d10];exact q),
  kind:=by rw[P.scope];exact d3,
  names:=by rw[P.scope];exact d2,
  noCo:=by rw[P.scope];exact d4,
  noGen:=by rw[P.scope];exact d5,
  code:=P.code }⟩
theorem at_map {α β:Type}{l:List α}{f:α→β}{k:Nat}{n:α}{r:List β}(e:l.map f=r) (h:l[k]?=some n):some (f n)=r[k]?:=by rw[← e,List.getElem?_map,h];rfl
theorem at_range {β:Type}{n k:Nat}{f:Nat→β}(h:k<n):((List.range n).map f)[k]?=some (f k):=by rw[List.getElem?_map,List.getElem?_range h];rfl
theorem all_range {n:Nat}{p:Nat→Bool}(h:((List.range n).all p)=true) {k:Nat}(hk:k<n):p k=true:=List.all_eq_true.mp h k (List.mem_range.mpr hk)
theorem lt_of_at {α:Type}{l:List α}{k:Nat}{x:α}(h:l[k]?=some x):k<l.length:=(List.getElem?_eq_some_iff.mp h).1
theorem methOf_mem {c m f:Nat}{l:List ((Nat×Nat)×Nat)}:methOf l c m=some f→((c,m),f)∈l:=by
 induction l with
 | nil=>exact fun h=>(by contradiction)
 | cons p l ih=>exact fun h=>ite_ (show(if p.1=(c,m)then some p.2 else methOf l c m)=some f from h) (fun q e=>by rw[← q,← Option.some.inj e];exact .head _) fun J h=>.tail _ (ih h)
theorem cls_ok (ok:kObs K=kVal) {c:Nat}(hc:c<2) {G:Prop}(k:plainGet K (clsAddr c) ""=true→hasDictIn K (clsAddr c)=true→plainOver K (clsAddr c)=true→keepIn K (.ref (clsAddr c))=true→makesIn K (clsAddr c)=true→findIn K (.ref (clsAddr c)) "__setattr__"=some (some osa)→(∀k,attrOk k=true→findIn K (.ref (clsAddr c)) (strAt k)=some none)→G):G:=by
 have k20:(List.range 2).all (clsOk K)=true:=congrArg (fun x=>x.2.2.2.2.2.2.2.2.2.2.2.2.2.2.2.2.2.2.2.2.1) ok
 exact and_ (all_range k20 hc) fun h h4=>and_ h fun h h3=>and_ h fun h1 h2=>and_ h1 fun a1 a2=>and_ h2 fun b1 b2=>and_ h3 fun c1 c2=>k a1 a2 b1 b2 c1 (beq_iff_eq.mp c2) fun k hk=>beq_iff_eq.mp (or_ne (all_range h4 (of_decide_eq_true (and_ hk fun J q=>q))) hk)
theorem facts_of (p:Program) (w:World) (ok:kObs K=kVal) (X:K.In h) {mg mb:Str→Option Value}(g:h.Ns mainGlobals mg) (b:h.Ns builtinsNs mb) (nl:h.NoLimit) (bi:∀x:Str,x≠"__name__"→mb x=bootBuiltins x) :
  ∃F:Facts,F.pr=p∧F.w=w∧F.h₀=h∧F.mg=mg∧(∀(f:Nat) (d:DefSrc),srcs[f]?=some (some d)→Nonempty (FnAt F.h₀ d (F.fnA f))):=by
 obtain⟨L⟩:=lisp_f ok X
 have k0:addrs.map (fnView K)=srcs.map (fun d=>d.map viewF):=congrArg (fun x=>x.1) ok
 have k2:K.lookup 38=some lispO:=congrArg (fun x=>x.2.2.1) ok
 have k12:addrs.map (fnMore K)=List.replicate 45 (some true):=congrArg (fun x=>x.2.2.2.2.2.2.2.2.2.2.2.2.1) ok
 have k15:consts.map (fun p=>(nsIn K mainGlobals (Str.ofString p.1)).bind fun o=>o.bind fun v=>(itOf' v).map (·.1))=consts.map (fun p=>some p.2):=congrArg (fun x=>x.2.2.2.2.2.2.2.2.2.2.2.2.2.2.2.1) ok
 have k16:defNames.map (fun n=>nsIn K mainGlobals (Str.ofString n))=(List.range 34).map (fun k=>some (some (Value.ref (fnAddr k)))):=congrArg (fun x=>x.2.2.2.2.2.2.2.2.2.2.2.2.2.2.2.2.1) ok
 have k17:clsNames.map (fun n=>nsIn K mainGlobals (Str.ofString n))=(List.range 2).map (fun k=>some (some (Value.ref (clsAddr k)))):=congrArg (fun x=>x.2.2.2.2.2.2.2.2.2.2.2.2.2.2.2.2.2.1) ok
 have k18:(["len","sum","max","min","sorted","list","abs","range","zip","enumerate"]:List String).all (fun n=>nsIn K mainGlobals (Str.ofString n)==some none)=true:=congrArg (fun x=>x.2.2.2.2.2.2.2.2.2.2.2.2.2.2.2.2.2.2.1) ok
 have k19:(nsOkIn K 37&&keepIn K (.ref 38))=true:=congrArg (fun x=>x.2.2.2.2.2.2.2.2.2.2.2.2.2.2.2.2.2.2.2.1) ok
 have k21:prog.meths.all (fun p=>methOk K p.1.1 p.1.2 p.2)=true:=congrArg (fun x=>x.2.2.2.2.2.2.2.2.2.2.2.2.2.2.2.2.2.2.2.2.2.1) ok
 have k22:(List.range 45).all (fun f=>keepIn K (.ref (fnAddr f))&&typeIn K (.ref (fnAddr f))==some (.type "function"))=true:=congrArg (fun x=>x.2.2.2.2.2.2.2.2.2.2.2.2.2.2.2.2.2.2.2.2.2.2.1) ok
 refine⟨{
  pr:=p,w:=w,h₀:=h,K:=K,X:=X,mg:=mg,mb:=mb,g:=g,b:=b,nolimit:=nl,cls:=clsAddr,fnA:=fnAddr,lisp:=38,builtins:=bi,
  low:=⟨38,_,(by decide:(10:Nat)≤38),X _ _ k2⟩,
  consts:=fun q hq=>(List.mem_iff_getElem?.mp hq).elim fun i hi=>by
   have e:=at_map k15 hi
   rw[List.getElem?_map,hi]at e
   exact bnd (Option.some.inj e) fun o ho e=>bnd e fun v hv e=>mp_ e fun z hz e=>⟨z.2,ns_of X g (by rw[ho,hv,itOf'_is hz,e])⟩,
  defs:=fun k n e=>ns_of X g (Option.some.inj ((at_map k16 e).trans (at_range (lt_of_at e)))),
  clss:=fun k n e=>ns_of X g (Option.some.inj ((at_map k17 e).trans (at_range (lt_of_at e)))),
  exc:=ns_of X g (congrArg (fun x=>x.2.2.2.1) ok),
  lispF:=L,
  lispK:=(Bool.and_eq_true_iff.mp k19).2,
  lispCls:=by unfold clsIn;rw[k2];exact⟨_,rfl,rfl,rfl⟩,
  lispSet:=congrArg (fun x=>x.2.2.2.2.2.2.2.2.1) ok,
  lispNo:=⟨congrArg (fun x=>x.2.2.2.2.2.2.2.2.2.1) ok,congrArg (fun x=>x.2.2.2.2.2.2.2.2.2.2.1) ok⟩,
  lispSub:=congrArg (fun x=>x.2.2.2.2.2.2.2.2.2.2.2.1) ok,
  bis:=fun n hn=>ns_none_of X g (beq_iff_eq.mp (List.all_eq_true.mp k18 n hn)),
  ga:=fun c hc=>cls_ok ok hc fun a J J J J J J=>a,
  hasDict:=fun c hc=>cls_ok ok hc fun J a J J J J J=>a,
  noAttr:=fun c k hc=>cls_ok ok hc fun J J J J J J a=>a k,
  setattr:=fun c hc=>cls_ok ok hc fun J J J J J a J=>a,
  over:=fun c hc=>cls_ok ok hc fun J J a J J J J=>a,
  meth:=fun c m f e=>and_ (List.all_eq_true.mp k21 _ (methOf_mem e)) fun a b=>⟨beq_iff_eq.mp a,b⟩,
  keepF:=fun f hf=>and_ (all_range k22 hf) fun a J=>a,
  keepC:=fun c hc=>cls_ok ok hc fun J J J a J J J=>a,
  makes:=fun c hc=>cls_ok ok hc fun J J J J a J J=>a,
  init:=fun c f e=>⟨match c,e with
   | 0,e=>Option.some.inj e▸congrArg (fun x=>x.2.2.2.2.2.2.2.2.2.2.2.2.2.2.2.2.2.2.2.2.2.2.2.1) ok
   | 1,e=>Option.some.inj e▸congrArg (fun x=>x.2.2.2.2.2.2.2.2.2.2.2.2.2.2.2.2.2.2.2.2.2.2.2.2) ok,and_ (all_range k22 (inits_lt e)) fun J b=>beq_iff_eq.mp b⟩ },rfl,rfl,rfl,rfl,fun f d hd=>?_⟩
 have hf:f<45:=lt_of_at hd
 have e0:addrs[f]?=some (fnAddr f):=by
  unfold fnAddr
  rw[List.getD_eq_getElem?_getD,List.getElem?_eq_getElem (show f<addrs.length from hf)];rfl
 have e:=at_map k0 e0
 rw[List.getElem?_map,hd]at e
 have e2:=at_map k12 e0
 rw[List.getElem?_replicate,if_pos hf]at e2
 exact fn_at X (Option.some.inj e) (Option.some.inj e2)
end
end Mine
namespace Mine
noncomputable def along (s:Int):Int:=if s=2 then 0 else 1
noncomputable def sortAlong (a:Int):Int:=if a=0 then 2 else 1
section
variable {Q:V→Hp→Prop}{Z:Hp→Prop}{h:Hp}
theorem call0 {n:Nat}{s:Int}(x:Q (.int (along s)) h):callP prog (n+1) 0 [.int s] h Q Z:=
 c0 (w_some (w_by (fun e=>by rwa[along,if_pos e]at x) fun e=>by rwa[along,if_neg e]at x))
theorem call1 {n:Nat}{s:Int}(x:Q (.int (sortAlong s)) h):callP prog (n+1) 1 [.int s] h Q Z:=
 c1 (w_some (w_by (fun e=>by rwa[sortAlong,if_pos e]at x) fun e=>by rwa[sortAlong,if_neg e]at x))
end
set_option genCtorIdx true
inductive F where
 | nil | node (m s:Int) (kids rest:F)
set_option genCtorIdx false
noncomputable def F.roots:F→List Int
 | .nil=>[]
 | .node m _ _ r=>m::r.roots
theorem F.roots0:F.roots .nil=[]:=rfl
theorem F.roots1 {m s k r}:F.roots (.node m s k r)=m::r.roots:=rfl
noncomputable def F.nums:F→List Int
 | .nil=>[]
 | .node m _ k r=>m::(k.nums++r.nums)
theorem F.nums0:F.nums .nil=[]:=rfl
theorem F.nums1 {m s k r}:F.nums (.node m s k r)=m::(k.nums++r.nums):=rfl
noncomputable def F.count:F→Nat
 | .nil=>0
 | .node _ _ k r=>k.count+r.count+1
theorem F.count0:F.count .nil=0:=rfl
theorem F.count1 {m s k r}:F.count (.node m s k r)=k.count+r.count+1:=rfl
theorem F.nums_length:∀f:F,f.nums.length=f.count
 | .nil=>rfl
 | .node m s k r=>by simp[F.nums0,F.nums1,F.count0,F.count1,F.nums_length k,F.nums_length r]
theorem F.roots_length:∀f:F,f.roots.length≤f.count
 | .nil=>Nat.le_refl _
 | .node m s k r=>by have:=F.roots_length r;simp[F.roots0,F.roots1,F.count0,F.count1];exact Nat.le_trans (by assumption) (Nat.le_add_left _ _)
structure WS where
 σ:Int→Int→Int
 π:Int→Int→Int
 ω:Int→Nat
 κ:Int→Nat
 ε:Int→Nat
 ρ:Int→Int
structure Wf (W:WS) (m s p:Int) (fs:List (Nat×V)):Prop where
 len:fs.length≤16
 num:findF 18 fs=some (.int m)
 sort:findF 23 fs=some (.int s)
 par:findF 19 fs=some (.int p)
 kids:findF 7 fs=some (.ref (W.κ m))
 left:findF 17 fs=some (.int (W.π m 0))
 top:findF 25 fs=some (.int (W.π m 1))
 wid:findF 27 fs=some (.int (W.σ m 0))
 hgt:findF 10 fs=some (.int (W.σ m 1))
 ear:findF 9 fs=some (.ref (W.ε m))
 more:∃v1 v2 v3 v4,findF 6 fs=some v1∧findF 24 fs=some v2∧findF 20 fs=some v3∧findF 11 fs=some v4
 meth:∀k,29≤k→findF k fs=none
structure Wn (h:Hp) (es:List (Int×V)) (W:WS) (m s p:Int) (ks:List Int):Prop where
 inst:∃fs,h[W.ω m]?=some (.inst 0 fs)∧Wf W m s p fs
 kids:h[W.κ m]?=some (.list (ks.map V.int))
 ear:h[W.ε m]?=some (.list [])
 dk:findK m es=some (.ref (W.ω m))
 pr:p=W.ρ m
structure Tt (h:Hp) (τ δ:Nat) (fs:List (Nat×V)) (es:List (Int×V)) (r:Int):Prop where
 inst:h[τ]?=some (.inst 1 fs)
 dict:h[δ]?=some (.dictI es)
 win:findF 28 fs=some (.ref δ)
 root:findF 21 fs=some (.int r)
 lw:findF 16 fs=some (.int 3)
 lh:findF 15 fs=some (.int 2)
 sel:findF 22 fs=some (.int 1)
 meth:∀k,29≤k→findF k fs=none
 len:fs.length≤20
noncomputable def Vw (h:Hp) (es:List (Int×V)) (W:WS):F→Prop
 | .nil=>True
 | .node m s k r=>(∃p,Wn h es W m s p k.roots)∧Vw h es W k∧Vw h es W r
theorem Vw0 {h es W}:Vw h es W .nil=True:=rfl
theorem Vw1 {h es W m s k r}:Vw h es W (.node m s k r)=((∃p,Wn h es W m s p k.roots)∧Vw h es W k∧Vw h es W r):=rfl
section
variable {α:Type}{Q:V→Hp→Prop}{Z:Hp→Prop}{h h' h₀:Hp}{W:WS}{es:List (Int×V)}{fs:List (Nat×V)}{τ δ:Nat}{r m s p:Int}{ks:List Int}
theorem Wn.ro (x:Wn h es W m s p ks) (q:Ro h h'):Wn h' es W m s p ks:=⟨let⟨fs,a,b⟩:=x.inst;⟨fs,q.get a,b⟩,q.get x.kids,q.get x.ear,x.dk,x.pr⟩
theorem Tt.ro (x:Tt h τ δ fs es r) (q:Ro h h'):Tt h' τ δ fs es r:=⟨q.get x.inst,q.get x.dict,x.win,x.root,x.lw,x.lh,x.sel,x.meth,x.len⟩
theorem Vw.ro:∀{f:F},Vw h es W f→Ro h h'→Vw h' es W f
 | .nil,_,_=>trivial
 | .node _ _ _ _,⟨⟨p,a⟩,b,c⟩,q=>⟨⟨p,a.ro q⟩,b.ro q,c.ro q⟩
theorem wu_loop {c:Env'}{a1:V}(ht:Tt h₀ τ δ fs es r):∀(f:F) {h:Hp}{i j:Nat}{acc st:List V}{k:Nat}{here:Option V}{N:Fr→Hp→Prop}{T:V→Hp→Prop},Vw h₀ es W f→Ro h₀ h→h₀.length≤i→h₀.length≤j→i≠j→
  h[i]?=some (.list acc)→h[j]?=some (.list (st++(f.roots.map V.int).reverse))→acc.length+st.length+f.count<1000→
  (∀h' here',Ro h₀ h'→h'[i]?=some (.list (acc++f.nums.map V.int))→h'[j]?=some (.list st)→lw c f4t1 f4b1 T k (fc (.ref τ) (fc a1 (fc (.ref i) (fc (.ref j) (fo here' (fz 0)))))) h' N)→
  lw c f4t1 f4b1 T (k+f.count) (fc (.ref τ) (fc a1 (fc (.ref i) (fc (.ref j) (fo here (fz 0)))))) h N:=by
 intro J1
 induction J1 with
 | nil=>
  intro h i j acc st k here N T hv ro hi hj ij gi gj hb next
  exact next h here ro (by simpa[F.nums0,F.nums1]using gi) (by simpa[F.roots0,F.roots1]using gj)
 | node m s kd rs J8 J9=>
  rintro h i j acc st k here N T ⟨⟨p,w⟩,vk,vr⟩ ro hi hj ij gi gj hb next
  obtain⟨ws,w1,w2⟩:=w.inst
  have lτ:=lt_of_get ht.inst
  have gj:h[j]?=some (.list ((st++(rs.roots.map V.int).reverse)++[.int m])):=by simpa[F.roots0,F.roots1]using gj
  generalize hst:st++(rs.roots.map V.int).reverse=st' at gj
  have hl:st'.length=st.length+rs.roots.length:=by rw[← hst];simp
  have hr:=F.roots_length rs
  have hk:=F.roots_length kd
  have hb:acc.length+st.length+(kd.count+rs.count+1)<1000:=hb
  refine w_lw (n:=k+(kd.count+rs.count)) ?_
  refine w_ne1 gj (by simp) fun h1 o1=>w_tt ?_
  have ro1:=ro.and o1
  refine w_attr (ro1.get ht.inst) ht.win ?_
  refine w_ml (o1.get gj) (by lia) ?_ rfl
  refine w_pop (o1.get gj) fun h2 gj2 o2=>?_
  have ro2:=ro1.at o2 (.inl hj)
  have gi2:=o2.ne (o1.get gi) ij
  refine w_dk (ro2.get ht.dict) w.dk ?_
  refine w_ml gi2 (by lia) ?_ rfl
  refine w_attr (ro2.get w1) w2.num ?_
  refine w_app gi2 (by rw[lim_eq];lia) fun h3 gi3 o3=>?_
  have ro3:=ro2.at o3 (.inl hi)
  have gj3:=o3.ne gj2 (Ne.symm ij)
  refine w_ml gj3 (by lia) ?_ rfl
  refine w_attr (ro3.get w1) w2.kids ?_
  refine w_rev (ro3.get w.kids) (by rw[lim_eq,List.length_map];lia) fun a h4 la ga o4=>?_
  refine w_ext (o4.get gj3) ga (by rw[lim_eq];simp;lia) (by have:=lt_of_get gj3;lia) fun h5 gj5 o5=>?_
  rw[show k+(kd.count+rs.count)=k+rs.count+kd.count by lia]
  refine J8 vk ((ro3.and o4).at o5 (.inl hj)) hi hj ij (o5.ne (o4.get gi3) ij) gj5 (by simp;lia) fun h6 here6 ro6 gi6 gj6=>?_
  refine J9 vr ro6 hi hj ij gi6 (by rw[gj6,← hst]) (by simp[F.nums_length];lia) fun h7 here7 ro7 gi7 gj7=>?_
  refine next h7 here7 ro7 ?_ gj7
  rw[gi7]
  simp[F.nums0,F.nums1]
theorem call4 {n:Nat}{kd:F}(ht:Tt h τ δ fs es r) (hv:Vw h es W (.node m s kd .nil)) (hc:kd.count<900) (x:∀i h',h.length≤i→h'[i]?=some (.list ((m::kd.nums).map V.int))→Ro h h'→Q (.ref i) h'):callP prog (n+1) 4 [.ref τ,.int m] h Q Z:=by
 refine c4 ?_
 refine w_list (by simp) fun i h1 li gi o1=>?_
 refine w_list (by rw[lim_eq];simp) fun j h2 lj gj o2=>?_
 refine lw_more (1+(F.node m s kd .nil).count) (by unfold turns;simp[F.count0,F.count1];lia) ?_
 have:=lt_of_get gi
 have:=o1.len
 rw[← Nat.add_assoc]
 refine wu_loop ht (.node m s kd .nil) (acc:=[]) (st:=[]) hv (o1.trans o2) li (by exact Nat.le_trans (by assumption) (by assumption)) (by lia) (o2.get gi) gj (by simp[F.count0];exact Nat.lt_of_le_of_lt (by assumption) (by simp)) fun h' here' ro gi gj=>?_
 refine w_lw ?_
 refine w_ne0 gj fun h3 o3=>w_ff ?_
 exact x i h3 li ((o3.get gi).trans (by simp[F.nums0,F.nums1])) (ro.trans o3)
end
end Mine
namespace Mine
section
variable {α:Type}{Q:V→Hp→Prop}{Z:Hp→Prop}{h h' h₀:Hp}{W:WS}{es:List (Int×V)}{fs:List (Nat×V)}{τ δ:Nat}{r m s p:Int}{ks:List Int}
theorem comp_map {c:Env'}{b:List I}{fr:Fr}{i:Nat}(Inv:Hp→Prop) {Q:List V→Hp→Prop}{xs ys:List V}(r:All2 (fun x y=>∀h,Inv h→∀K:Kt,(∀h',Inv h'→K fr h' [y])→go c (pC [x]) K b fr h []) xs ys) :
  ∀{pre acc:List V} {n:Nat} {h:Hp},(∀h,Inv h→h[i]?=some (.list (pre++xs)))→Inv h→xs.length<n→(∀h',Inv h'→Q (acc++ys) h')→lc c 1 b fr n (.seq i pre.length) acc h Q:=by
 induction r with
 | nil=>
  intro pre acc n h hs hi hn x
  cases n with
  | zero=>contradiction
  | succ n=>exact w_o (end_seq (hs h hi) (by simp)) (by simpa using x h hi)
 | @cons u y xs ys r _ ih=>
  intro pre acc n h hs hi hn x
  cases n with
  | zero=>contradiction
  | succ n=>
   refine w_o (next_seq (hs h hi) (v:=u) (by simp)) (w_some (a:=[u]) (r h hi _ fun h' hi'=>?_))
   have:=ih (pre:=pre++[u]) (acc:=acc++[y]) (n:=n) (fun h q=>by rw[hs h q];simp) hi' (Nat.lt_of_succ_lt_succ hn) (fun h' q=>by simpa using x h' q)
   rwa[List.length_append]at this
theorem comp_pure {c:Env'}{b:List I}{fr:Fr}{i:Nat}{Q:List V→Hp→Prop}{xs ys:List V}(g:h[i]?=some (.list xs)) (l:xs.length<turns) (r:All2 (fun x y=>∀K:Kt,K fr h [y]→go c (pC [x]) K b fr h []) xs ys) (x:Q ys h):lc c 1 b fr turns (.seq i 0) [] h Q:=
 comp_map (fun H=>H=h) (r.imp fun x y e H q K k=>by subst q;exact e K (k _ rfl)) (pre:=[]) (acc:=[]) (fun H q=>by rw[q];exact g) rfl l fun H q=>by rw[q];exact x
noncomputable def lmax (l:List Int):Int:=(maxI l).getD 0
noncomputable def least (a:Int):F→List Int
 | .nil=>[]
 | .node _ s k r=>(if s=0 then(if a=0 then 3 else 2)else if along s=a then(least a k).sum else lmax (least a k))::least a r
theorem leastE0 {a}:least a .nil=[]:=rfl
theorem leastE1 {a m s k r}:least a (.node m s k r)=(if s=0 then(if a=0 then 3 else 2)else if along s=a then(least a k).sum else lmax (least a k))::least a r:=rfl
theorem least_length (a:Int):∀f:F,(least a f).length=f.roots.length
 | .nil=>rfl
 | .node _ _ _ r=>by simp[leastE0,leastE1,F.roots0,F.roots1,least_length a r]
noncomputable def Full:F→Prop
 | .nil=>True
 | .node _ s k r=>(s=0↔k=.nil)∧Full k∧Full r
theorem Full0:Full .nil=True:=rfl
theorem Full1 {m s k r}:Full (.node m s k r)=((s=0↔k=.nil)∧Full k∧Full r):=rfl
noncomputable def LD (ds:List (Int×V)) (a:Int):F→Prop
 | .nil=>True
 | .node m s k r=>findK m ds=(least a (.node m s k .nil)).head?.map V.int∧LD ds a k∧LD ds a r
theorem LD.put {ds:List (Int×V)}{a x:Int}{v:V}:∀{f:F},LD ds a f→x∉f.nums→LD (putK x v ds) a f:=by
 intro J1
 induction J1 with
 | nil=>
  intro J J
  exact trivial
 | node m s k r J8 J9=>
  rintro⟨h1,h2,h3⟩ hn
  simp only[F.nums0,F.nums1,List.mem_cons,List.mem_append,not_or]at hn
  refine⟨?_,J8 h2 hn.2.1,J9 h3 hn.2.2⟩
  rw[findK_put,if_neg (Ne.symm hn.1)];exact h1
theorem LD.same {ds ds':List (Int×V)}{a:Int}:∀{f:F},LD ds a f→(∀x∈f.nums,findK x ds'=findK x ds)→LD ds' a f:=by
 intro J1
 induction J1 with
 | nil=>
  intro J J
  exact trivial
 | node m s k r J8 J9=>
  rintro⟨h1,h2,h3⟩ hn
  simp only[F.nums0,F.nums1,List.mem_cons,List.mem_append]at hn
  exact⟨by rw[hn m (.inl rfl)];exact h1,J8 h2 fun x hx=>hn x (.inr (.inl hx)),J9 h3 fun x hx=>hn x (.inr (.inr hx))⟩
theorem LD.roots {ds:List (Int×V)}{a:Int}:∀{f:F},LD ds a f→All2 (fun x y=>findK x ds=some (V.int y)) f.roots (least a f)
 | .nil,_=>.nil
 | .node m s k r,⟨h1,h2,h3⟩=>.cons (by rw[h1];rfl) h3.roots
theorem maxI_some {l:List Int}(h:l≠[]):maxI l=some (lmax l):=by
 cases l with
 | nil=>exact absurd rfl h
 | cons a b=>rfl
theorem F.roots_ne {f:F}(h:f≠.nil):f.roots≠[]:=by cases f with
 | nil=>exact absurd rfl h
 | node _ _ _ _=>simp[F.roots0,F.roots1]
theorem All2.map2 {α β γ δ:Type}{R:γ→δ→Prop}{f:α→γ}{g:β→δ}{as:List α}{bs:List β}(x:All2 (fun a b=>R (f a) (g b)) as bs):All2 R (as.map f) (bs.map g):=by
 induction x with
 | nil=>exact .nil
 | cons a _ ih=>exact .cons a ih
theorem call44 {n:Nat}{a:Int}(ht:Tt h τ δ fs es r) (x:Q (.int (if a=0 then 3 else 2)) h):callP prog (n+1) 44 [.ref τ,.int a] h Q Z:=
 c44 (w_some (w_by (fun e=>w_attr ht.inst ht.lw (by rwa[if_pos e]at x)) fun e=>w_attr ht.inst ht.lh (by rwa[if_neg e]at x)))
theorem ls_loop {a:Int}{n:Nat}{q φ:Nat}{a1:V}(ht:Tt h₀ τ δ fs es r) (hφ:h₀.length≤φ):∀(f:F) {h:Hp}{pre suf:List V}{ds:List (Int×V)}{k:Nat}{own here:Option V}{N:Fr→Hp→Prop}{T:V→Hp→Prop},Vw h₀ es W f→Full f→f.nums.Nodup→Ro h₀ h→
  h[q]?=some (.list (pre++(f.nums.map V.int).reverse++suf))→h[φ]?=some (.dictI ds)→ds.length+f.count<1000→f.count<900→
  (∀h' ds' own' here',Ro h₀ h'→h'[q]?=some (.list (pre++(f.nums.map V.int).reverse++suf))→h'[φ]?=some (.dictI ds')→ds'.length≤ds.length+f.count→LD ds' a f→(∀x,x∉f.nums→findK x ds'=findK x ds)→
   lf1 (cn prog (n+1)) 4 f6b1 T k (.seq q (pre.length+f.count)) (fc (.ref τ) (fc a1 (fc (.int a) (fc (.ref φ) (fo own' (fo here' (fz 0))))))) h' N)→
  lf1 (cn prog (n+1)) 4 f6b1 T (k+f.count) (.seq q pre.length) (fc (.ref τ) (fc a1 (fc (.int a) (fc (.ref φ) (fo own (fo here (fz 0))))))) h N:=by
 intro J1
 induction J1 with
 | nil=>
  intro h pre suf ds k own here N T hv hfu hnd ro gq gφ hb hc next
  exact next h ds own here ro gq gφ (Nat.le_refl _) trivial fun _ _=>rfl
 | node m s kd rs J8 J9=>
  rintro h pre suf ds k own here N T ⟨⟨p,w⟩,vk,vr⟩ ⟨fu,fk,fr⟩ hnd ro gq gφ hb hc next
  obtain⟨ws,w1,w2⟩:=w.inst
  have hz:=lt_of_get ht.inst
  rw[F.nums1,List.nodup_cons,List.mem_append,not_or,List.nodup_append]at hnd
  obtain⟨⟨mk,mr⟩,nk,nr,disj⟩:=hnd
  simp only[F.count0,F.count1]at hb hc
  have e0:(F.node m s kd rs).nums.map V.int=V.int m::(kd.nums.map V.int++rs.nums.map V.int):=by simp[F.nums0,F.nums1]
  rw[show k+(F.node m s kd rs).count=(k+1+kd.count)+rs.count by simp[F.count];lia]
  refine J9 vr fr nr ro (suf:=(kd.nums.map V.int).reverse++.int m::suf) (by rw[gq,e0];simp) gφ (by lia) (by lia) fun h1 ds1 own1 here1 ro1 gq1 gφ1 hl1 ld1 fr1=>?_
  rw[show pre.length+rs.count=(pre++(rs.nums.map V.int).reverse).length by simp[F.nums_length]]
  refine J8 (pre:=pre++(rs.nums.map V.int).reverse) (suf:=.int m::suf) vk fk nk ro1 (by rw[gq1];simp) gφ1 (by lia) (by lia) fun h2 ds2 own2 here2 ro2 gq2 gφ2 hl2 ld2 fr2=>?_
  have e2:(pre++(rs.nums.map V.int).reverse).length+kd.count=(pre++(rs.nums.map V.int).reverse++(kd.nums.map V.int).reverse).length:=by simp[F.nums_length];exact Nat.add_assoc _ _ _
  rw[e2]
  refine w_f1 (v:=.int m) (next_seq gq2 (by simp)) ?_
  have ht2:=ht.ro ro2
  have wi:=ro2.get w1
  have hrl:=F.roots_length kd
  have done:∀(y:Int) (h3 h4:Hp),(least a (.node m s kd .nil)).head?=some y→Ro h2 h3→Ch (fun i=>i=φ) h3 h4→h4[φ]?=some (.dictI (putK m (.int y) ds2))→
   lf1 (cn prog (n+1)) 4 f6b1 T k (.seq q ((pre++(rs.nums.map V.int).reverse++(kd.nums.map V.int).reverse).length+1)) (fc (.ref τ) (fc a1 (fc (.int a) (fc (.ref φ) (fo (some (.int m)) (fo (some (.ref (W.ω m))) (fz 0))))))) h4 N:=by
   intro y h3 h4 hy o3 o4 g4
   have qφ:q≠φ:=fun z=>by rw[z,gφ2]at gq2;cases gq2
   have:=next h4 _ (some (.int m)) (some (.ref (W.ω m))) ((ro2.and o3).at o4 (.inl hφ)) (by rw[o4.ne (o3.get gq2) qφ,e0];simp) g4 (by have:=putK_le (x:=m) (w:=.int y) (ds:=ds2);simp only[F.count0,F.count1];lia) ⟨by rw[findK_put,if_pos rfl,hy];rfl,ld2.put mk,(ld1.same fun x hx=>fr2 x fun hk=>(disj x hk x hx) rfl).put mr⟩ fun x hx=>by
    simp only[F.nums0,F.nums1,List.mem_cons,List.mem_append,not_or]at hx
    rw[findK_put,if_neg hx.1,fr2 x hx.2.1,fr1 x hx.2.2]
   rwa[show pre.length+(F.node m s kd rs).count=(pre++(rs.nums.map V.int).reverse++(kd.nums.map V.int).reverse).length+1 by simp[F.nums_length,F.count1];lia]at this
  refine w_attr ht2.inst ht2.win ?_
  refine w_dk ht2.dict w.dk ?_
  refine w_attr wi w2.sort ?_
  refine w_some (w_by (fun hs=>?_) fun hs=>?_)
  ·refine w_meth ht2.inst (ht.meth 30 (by simp)) rfl ?_
   refine call44 ht2 ?_
   refine w_put gφ2 (by rw[lim_eq];lia) (by lia) fun h4 g4 o4=>?_
   exact done _ _ h4 (by simp[leastE0,leastE1,hs]) .refl o4 g4
  ·have hk:kd≠.nil:=fun z=>hs (fu.mpr z)
   have hll:=least_length a kd
   have comp:∀{Q:List V→Hp→Prop} {fr:Fr},fr[3]?.join=some (.ref φ)→Q ((least a kd).map V.int) h2→lc (cn prog (n+1)) 1 f6e1 fr turns (.seq (W.κ m) 0) [] h2 Q:=fun f3 x=>comp_pure (ro2.get w.kids) (by rw[turns_eq,List.length_map];lia) (All2.map2 (ld2.roots.imp fun x y e K k=>by exact w_v f3 (w_dk gφ2 e k))) x
   refine w_attr wi w2.sort ?_
   refine call0 ?_
   refine w_some (w_by (fun ha=>?_) fun ha=>?_)
   ·refine w_attr wi w2.kids ?_
    refine w_it (ro2.get w.kids) ?_
    refine comp rfl ?_
    refine w_list (by rw[lim_eq,List.length_map];lia) fun i h3 li gi o3=>?_
    refine w_sum gi ?_
    refine w_put (o3.get gφ2) (by rw[lim_eq];lia) (by lia) fun h4 g4 o4=>?_
    exact done _ _ h4 (by simp[leastE0,leastE1,hs,ha]) o3 o4 g4
   ·refine w_attr wi w2.kids ?_
    refine w_it (ro2.get w.kids) ?_
    refine comp rfl ?_
    refine w_list (by rw[lim_eq,List.length_map];lia) fun i h3 li gi o3=>?_
    refine w_max gi (maxI_some fun z=>F.roots_ne hk (List.length_eq_zero_iff.mp (by rw[← hll,z];rfl))) ?_
    refine w_put (o3.get gφ2) (by rw[lim_eq];lia) (by lia) fun h4 g4 o4=>?_
    exact done _ _ h4 (by simp[leastE0,leastE1,hs,ha]) o3 o4 g4
noncomputable def least1 (a m s:Int) (k:F):Int:=(least a (.node m s k .nil)).headD 0
theorem call6 {n:Nat}{a:Int}{kd:F}(ht:Tt h τ δ fs es r) (hv:Vw h es W (.node m s kd .nil)) (hfu:Full (.node m s kd .nil)) (hnd:(F.node m s kd .nil).nums.Nodup) (hc:kd.count<800) (x:∀h',Ro h h'→Q (.int (least1 a m s kd)) h'):callP prog (n+2) 6 [.ref τ,.int m,.int a] h Q Z:=by
 have hz:=lt_of_get ht.inst
 refine c6 ?_
 refine w_dict fun φ h1 lφ gφ o1=>?_
 refine call4 (n:=n) (ht.ro o1) (hv.ro o1) (by exact Nat.lt_of_lt_of_le (by assumption) (by simp)) fun i h2 _ gi o2=>?_
 refine w_rev gi (by rw[lim_eq,List.length_map];simp[F.nums_length];lia) fun q h3 lq gq o3=>?_
 refine w_it gq ?_
 refine lf1_more (1+(F.node m s kd .nil).count) (by rw[turns_eq];simp[F.count0,F.count1];lia) ?_
 rw[← Nat.add_assoc]
 refine ls_loop ht lφ (.node m s kd .nil) (pre:=[]) (suf:=[]) hv hfu hnd ((o1.trans o2).trans o3) (by rw[gq];simp[F.nums0,F.nums1]) (o3.get (o2.get gφ)) (by simp[F.count0,F.count1];exact Nat.lt_of_le_of_lt (by assumption) (by simp)) (by simp[F.count0,F.count1];exact Nat.lt_of_le_of_lt (by assumption) (by simp)) fun h4 ds own here ro gq4 gφ4 hl ld fr=>?_
 refine w_f1e (end_seq gq4 (by simp[F.nums_length,F.count0])) ?_
 exact w_dk gφ4 ld.1 (x h4 ro)
end
end Mine
namespace Mine
noncomputable def Feeds (Inv:Hp→Prop) (m:Nat):IS→List (List V)→Prop
 | is,[]=>∀h,Inv h→nextI is h=some none
 | is,ws::r=>∃is' vs,(∀h,Inv h→nextI is h=some (some (vs,is'))∧unpackN m vs h=some ws)∧Feeds Inv m is' r
section
variable {h:Hp}{Z:Hp→Prop}{Q:V→Hp→Prop}
theorem comp_feeds {c:Env'}{b:List I}{fr:Fr}{m:Nat}{Inv:Hp→Prop}{Q:List V→Hp→Prop}{xs:List (List V)}{ys:List V}(r:All2 (fun x y=>∀h,Inv h→∀K:Kt,(∀h',Inv h'→K fr h' [y])→go c (pC x) K b fr h []) xs ys) :
  ∀{acc:List V} {n:Nat} {is:IS} {h:Hp},Feeds Inv m is xs→Inv h→xs.length<n→(∀h',Inv h'→Q (acc++ys) h')→lc c m b fr n is acc h Q:=by
 induction r with
 | nil=>
  intro acc n is h f hi hn x
  cases n with
  | zero=>contradiction
  | succ n=>exact w_o (f h hi) (by simpa using x h hi)
 | cons r J ih=>
  intro acc n is h f hi hn x
  obtain⟨is',vs,f,fr⟩:=f
  cases n with
  | zero=>contradiction
  | succ n=>exact w_o (f h hi).1 (w_o (f h hi).2 (r h hi _ fun h' hi'=>ih fr hi' (Nat.lt_of_succ_lt_succ hn) fun h' q=>by simpa using x h' q))
theorem comp_here {c:Env'}{b:List I}{fr:Fr}{m:Nat}{Q:List V→Hp→Prop}{xs:List (List V)}{ys:List V}{is:IS}(f:Feeds (fun H=>H=h) m is xs) (l:xs.length<turns) (r:All2 (fun x y=>∀K:Kt,K fr h [y]→go c (pC x) K b fr h []) xs ys) (x:Q ys h):lc c m b fr turns is [] h Q:=
 comp_feeds (r.imp fun x y e H q K k=>by subst q;exact e K (k _ rfl)) (acc:=[]) f rfl l fun H q=>by rw[q];exact x
theorem feeds_zip {Inv:Hp→Prop}{i j:Nat}:∀{xs ys pre qre:List V},xs.length=ys.length→pre.length=qre.length→(∀h,Inv h→h[i]?=some (.list (pre++xs))∧h[j]?=some (.list (qre++ys)))→Feeds Inv 2 (.zip i j pre.length) (List.zipWith (fun x y=>[x,y]) xs ys)
 | [],[],pre,qre,hl,hp,hs=>fun h hi=>by
  have J:=hs h hi;have a:=J.1;have b:=J.2
  simp[nextI,a,b,hp]
 | x::xs,y::ys,pre,qre,hl,hp,hs=>by
  refine⟨.zip i j (pre.length+1),[x,y],fun h hi=>⟨?_,rfl⟩,?_⟩
  ·obtain⟨a,b⟩:=hs h hi
   have h1:(pre++x::xs)[pre.length]?=some x:=by simp
   have h2:(qre++y::ys)[pre.length]?=some y:=by rw[hp];simp
   simp only[nextI,a,b,h1,h2]
  ·have:=feeds_zip (Inv:=Inv) (i:=i) (j:=j) (xs:=xs) (ys:=ys) (pre:=pre++[x]) (qre:=qre++[y]) (by simpa using hl) (by simp[hp]) fun h hi=>by
    obtain⟨a,b⟩:=hs h hi
    exact⟨by rw[a];simp,by rw[b];simp⟩
   simpa using this
noncomputable def enumF (k:Nat):List V→List (List V)
 | []=>[]
 | x::r=>[.int k,x]::enumF (k+1) r
theorem enumF0 {k}:enumF k []=[]:=rfl
theorem enumF1 {k x r}:enumF k (x::r)=[.int k,x]::enumF (k+1) r:=rfl
theorem enumF_length:∀(k:Nat) (l:List V),(enumF k l).length=l.length
 | _,[]=>rfl
 | k,x::r=>by simp[enumF0,enumF1,enumF_length (k+1) r]
theorem feeds_enum {Inv:Hp→Prop}{i:Nat}:∀{xs pre:List V},(∀h,Inv h→h[i]?=some (.list (pre++xs)))→Feeds Inv 2 (.enum i pre.length) (enumF pre.length xs):=by
 intro J1
 induction J1 with
 | nil=>
  intro pre hs
  exact fun h hi=>by simp[nextI,hs h hi]
 | cons x xs J8=>
  intro pre hs
  refine⟨.enum i (pre.length+1),[.int pre.length,x],fun h hi=>⟨?_,rfl⟩,?_⟩
  ·simp[nextI,hs h hi]
  ·have:=J8 (pre:=pre++[x]) fun h hi=>by rw[hs h hi];simp
   simpa using this
end
noncomputable def addRest (rest:Int):Nat→List Int→List Int
 | _,[]=>[]
 | k,x::r=>(x+if(k:Int)<rest then 1 else 0)::addRest rest (k+1) r
theorem addRest0 {t k}:addRest t k []=[]:=rfl
theorem addRest1 {t k x r}:addRest t k (x::r)=(x+if(k:Int)<t then 1 else 0)::addRest t (k+1) r:=rfl
noncomputable def cutF (room whole:Int) (ws ls:List Int):List Int:=List.zipWith (fun w l=>l+room*w / whole) ws ls
noncomputable def wts (ws:List Int):List Int:=if ws.sum=0 then List.replicate ws.length 1 else ws
noncomputable def sharesF (total:Int) (ws ls:List Int):List Int:=
 let found:=cutF (total-ls.sum) (wts ws).sum (wts ws) ls
 addRest (total-found.sum) 0 found
theorem addRest_length (r:Int):∀(k:Nat) (l:List Int),(addRest r k l).length=l.length
 | _,[]=>rfl
 | k,x::l=>by simp[addRest0,addRest1,addRest_length r (k+1) l]
theorem sum_rep:∀n:Nat,(List.replicate n (1:Int)).sum=n
 | 0=>rfl
 | n+1=>by rw[List.replicate_succ,List.sum_cons,sum_rep n];exact Int.add_comm _ _
theorem map_rep (n:Nat):List.replicate n (V.int 1)=(List.replicate n (1:Int)).map V.int:=by simp
theorem big_eq:big=1099511627776:=by rfl
structure ShOk (total:Int) (ws ls:List Int):Prop where
 len:ws.length=ls.length
 few:ls.length≤900
 ne:ls≠[]
 room:(total-ls.sum).natAbs≤1000000
 wlo:∀w∈ws,0≤w∧w≤100000
theorem wts_ok {total:Int}{ws ls:List Int}(x:ShOk total ws ls):(wts ws).length=ls.length∧(∀w∈wts ws,0≤w∧w≤100000)∧0<(wts ws).sum∧(wts ws).sum<1073741824:=by
 have bound:∀l:List Int,(∀w∈l,0≤w∧w≤100000)→0≤l.sum∧l.sum≤100000*l.length:=by
  intro l
  induction l with
  | nil=>intro J;simp
  | cons a r ih=>
   intro h
   have h1:=h a (.head _)
   have h2:=ih fun w hw=>h w (.tail _ hw)
   simp only[List.sum_cons,List.length_cons]
   lia
 have hf:=x.few
 unfold wts
 split
 ·refine⟨by rw[List.length_replicate,x.len],fun w hw=>?_,?_,?_⟩
  ·rw[List.mem_replicate]at hw;lia
  ·rw[sum_rep]
   have:=x.ne
   have h1:ls.length≠0:=fun z=>this (List.length_eq_zero_iff.mp z)
   rw[x.len];lia
  ·rw[sum_rep,x.len];lia
 ·rename_i hs
  obtain⟨b1,b2⟩:=bound ws x.wlo
  have:=x.len
  refine⟨x.len,x.wlo,by lia,by lia⟩
section
variable {h:Hp}{Q:V→Hp→Prop}{Z:Hp→Prop}
theorem call7 {n i j:Nat}{total:Int}{ws ls:List Int}(ok:ShOk total ws ls) (gi:h[i]?=some (.list (ws.map V.int))) (gj:h[j]?=some (.list (ls.map V.int)))
  (x:∀q h',h.length≤q→h'[q]?=some (.list ((sharesF total ws ls).map V.int))→Ro h h'→Q (.ref q) h'):callP prog (n+1) 7 [.int total,.ref i,.ref j] h Q Z:=by
 have J:=wts_ok ok;have w1:=J.1;have w2:=J.2.1;have w3:=J.2.2.1;have w4:=J.2.2.2
 have hf:=ok.few
 have hr:=ok.room
 have tail:∀{h1:Hp} {i1:Nat} {N:Kt},h1[i1]?=some (.list ((wts ws).map V.int))→h1[j]?=some (.list (ls.map V.int))→Ro h h1→
   go (cn prog n) (pF Q Z) N f7r (fc (.int total) (fc (.ref i1) (fc (.ref j) (fc (.int (total-ls.sum)) (fc (.int (wts ws).sum) (fz 2)))))) h1 []:=by
  intro h1 i1 N gi1 gj1 ro1
  refine w_zip gi1 gj1 ?_
  have A:∀(a b:List Int),a.length=b.length→(∀w∈a,0≤w∧w≤100000)→All2 (fun x y=>∀K:Kt,K (fc (.int total) (fc (.ref i1) (fc (.ref j) (fc (.int (total-ls.sum)) (fc (.int (wts ws).sum) (fz 2)))))) h1 [y]→go (cn prog n) (pC x) K f7e1 (fc (.int total) (fc (.ref i1) (fc (.ref j) (fc (.int (total-ls.sum)) (fc (.int (wts ws).sum) (fz 2)))))) h1 []) (List.zipWith (fun x y=>[x,y]) (a.map V.int) (b.map V.int)) ((cutF (total-ls.sum) (wts ws).sum a b).map V.int):=by
   intro a
   induction a with
   | nil=>intro b hb J;cases b with
    | nil=>exact .nil
    | cons J J1=>contradiction
   | cons x a ih=>intro b hb hw;cases b with
    | nil=>contradiction
    | cons y b=>
     refine .cons (fun K k=>?_) (ih b (Nat.succ.inj hb) fun w hw'=>hw w (.tail _ hw'))
     have hx:=hw x (.head _)
     refine w_mul (by rw[big_eq];exact Nat.le_trans (by assumption) (by simp)) (by rw[big_eq];lia) ?_
     refine w_div w3 w4 ?_
     exact w_ok k
  refine comp_here (feeds_zip (pre:=[]) (qre:=[]) (by simp[w1]) rfl fun H hH=>by rw[hH];exact⟨gi1,gj1⟩) (by simp[w1];rw[turns_eq];exact Nat.lt_of_le_of_lt (by assumption) (by decide)) (A _ _ w1 w2) ?_
  have hcl:(cutF (total-ls.sum) (wts ws).sum (wts ws) ls).length=ls.length:=by unfold cutF;rw[List.length_zipWith,w1];lia
  refine w_list (by rw[lim_eq,List.length_map,hcl];exact Nat.le_trans (by assumption) (by decide)) fun k h2 lk gk o2=>?_
  refine w_sum gk ?_
  refine w_ok ?_
  refine w_enum gk ?_
  generalize hc:cutF (total-ls.sum) (wts ws).sum (wts ws) ls=cut at hcl gk⊢
  have B:∀{fr:Fr} (f6:fr[6]?.join=some (.int (total-cut.sum))) (j:Nat) (l:List Int),All2 (fun x y=>∀K:Kt,K fr h2 [y]→go (cn prog n) (pC x) K f7e2 fr h2 []) (enumF j (l.map V.int)) ((addRest (total-cut.sum) j l).map V.int):=by
   intro fr f6 j l
   induction l generalizing j with
   | nil=>exact .nil
   | cons x l ih=>
    refine .cons (fun K k=>?_) (ih (j+1))
    refine w_v f6 ?_
    refine w_some (w_by (fun e=>w_ok ?_) fun e=>w_ok ?_)
    ·rwa[if_pos e]at k
    ·rwa[if_neg e]at k
  refine comp_here (feeds_enum (pre:=[]) fun H hH=>by rw[hH];exact gk) (by rw[enumF_length,List.length_map,hcl,turns_eq];exact Nat.lt_of_le_of_lt (by assumption) (by decide)) (B rfl 0 cut) ?_
  refine w_list (by rw[lim_eq,List.length_map,addRest_length,hcl];exact Nat.le_trans (by assumption) (by decide)) fun q h3 lq gq o3=>?_
  exact x q h3 (Nat.le_trans (ro1.and o2).len lq) (by rw[gq,sharesF,hc]) ((ro1.and o2).and o3)
 refine c7 ?_
 refine w_sum gj ?_
 refine w_ok ?_
 refine w_sum gi ?_
 refine w_tup fun t h0 J gt o0=>?_
 refine w_tg gt rfl ?_
 refine w_some (w_by (fun hs=>?_) fun hs=>?_)
 ·have e1:wts ws=List.replicate ls.length 1:=by unfold wts;rw[if_pos hs,ok.len]
  refine w_list (by rw[lim_eq];simp) fun k h1 J gk o1=>?_
  refine w_len ((o0.and o1).get gj) ?_
  refine w_rep gk (by rw[lim_eq,List.length_map];exact Nat.le_trans (by assumption) (by decide)) fun k2 h2 J gk2 o2=>?_
  have o02:=(o0.and o1).and o2
  refine w_len (o02.get gj) ?_
  have:=tail (N:=kF Q) (by rw[gk2,e1,List.length_map,map_rep]) (o02.get gj) o02
  rw[e1,sum_rep]at this
  rw[List.length_map]
  exact this
 ·have e1:wts ws=ws:=by unfold wts;rw[if_neg hs]
  have:=tail (N:=kF Q) (by rw[e1];exact o0.get gi) (o0.get gj) o0
  rw[e1]at this
  exact this
end
end Mine
namespace Mine
theorem foldl_max_ge:∀(l:List Int) (x:Int),x≤l.foldl max x∧∀y∈l,y≤l.foldl max x:=by
 intro J1
 induction J1 with
 | nil=>
  intro x
  exact⟨Int.le_refl _,by simp⟩
 | cons a r J8=>
  intro x
  obtain⟨h1,h2⟩:=J8 (max x a)
  simp only[List.foldl_cons]
  refine⟨by lia,fun y hy=>?_⟩
  rcases List.mem_cons.mp hy with rfl | q
  ·lia
  ·exact h2 y q
theorem foldl_max_mem:∀(l:List Int) (x:Int),l.foldl max x=x∨l.foldl max x∈l:=by
 intro J1
 induction J1 with
 | nil=>
  intro x
  exact .inl rfl
 | cons a r J8=>
  intro x
  simp only[List.foldl_cons]
  rcases J8 (max x a)with h | h
  ·rw[h]
   by_cases q:x≤a
   ·right;rw[Int.max_eq_right q];exact .head _
   ·left;exact Int.max_eq_left (by lia)
  ·exact .inr (.tail _ h)
theorem lmax_ge {l:List Int}{y:Int}(h:y∈l):y≤lmax l:=by
 cases l with
 | nil=>cases h
 | cons a r=>
  show y≤r.foldl max a
  obtain⟨h1,h2⟩:=foldl_max_ge r a
  rcases List.mem_cons.mp h with rfl | q
  ·exact h1
  ·exact h2 y q
theorem lmax_mem {l:List Int}(h:l≠[]):lmax l∈l:=by
 cases l with
 | nil=>exact absurd rfl h
 | cons a r=>
  show r.foldl max a∈a::r
  rcases foldl_max_mem r a with q | q
  ·rw[q];exact .head _
  ·exact .tail _ q
theorem sum_ge {l:List Int}{b:Int}(h:∀x∈l,b≤x):b*l.length≤l.sum:=by
 induction l with
 | nil=>simp
 | cons a r ih=>
  have h1:=h a (.head _)
  have h2:=ih fun x hx=>h x (.tail _ hx)
  simp only[List.sum_cons,List.length_cons,Int.natCast_add,Int.mul_add]
  lia
theorem sum_le {l:List Int}{b:Int}(h:∀x∈l,x≤b):l.sum≤b*l.length:=by
 induction l with
 | nil=>simp
 | cons a r ih=>
  have h1:=h a (.head _)
  have h2:=ih fun x hx=>h x (.tail _ hx)
  simp only[List.sum_cons,List.length_cons,Int.natCast_add,Int.mul_add]
  lia
theorem mem_le_sum {l:List Int}(h:∀x∈l,0≤x) {y:Int}(hy:y∈l):y≤l.sum:=by
 induction l with
 | nil=>cases hy
 | cons a r ih=>
  have h1:=h a (.head _)
  have h2:0≤r.sum:=by have:=sum_ge (l:=r) (b:=0) fun x hx=>h x (.tail _ hx);lia
  simp only[List.sum_cons]
  rcases List.mem_cons.mp hy with rfl | q
  ·lia
  ·have:=ih (fun x hx=>h x (.tail _ hx)) q;lia
theorem least_pos {a:Int}:∀{f:F},Full f→∀x∈least a f,2≤x:=by
 intro J1
 induction J1 with
 | nil=>
  intro J x hx
  contradiction
 | node m s k r J8 J9=>
  rintro⟨h1,h2,h3⟩ x hx
  simp only[leastE0,leastE1,List.mem_cons]at hx
  rcases hx with rfl | hx
  ·split
   ·split<;>lia
   ·rename_i hs
    have hk:=J8 h2
    have hne:least a k≠[]:=by
     have:=F.roots_ne (f:=k) (fun z=>hs (h1.mpr z))
     intro z
     have hl:=least_length a k
     rw[z]at hl
     exact this (List.length_eq_zero_iff.mp hl.symm)
    split
    ·have:=sum_ge hk
     have h4:0<(least a k).length:=List.length_pos_iff.mpr hne
     lia
    ·exact hk _ (lmax_mem hne)
  ·exact J9 h3 x hx
theorem cut_length {r w:Int}{ws ls:List Int}(h:ws.length=ls.length):(cutF r w ws ls).length=ls.length:=by unfold cutF;rw[List.length_zipWith,h];lia
theorem cut_sum {r w:Int}(hw:0<w):∀{ws ls:List Int},ws.length=ls.length→w*((cutF r w ws ls).sum-ls.sum)≤r*ws.sum∧r*ws.sum≤w*((cutF r w ws ls).sum-ls.sum)+(w-1)*ls.length
 | [],[],_=>by simp[cutF]
 | [],_::_,h=>by simp at h
 | _::_,[],h=>by simp at h
 | a::ws,l::ls,h=>by
  obtain⟨h1,h2⟩:=cut_sum (r:=r) hw (ws:=ws) (ls:=ls) (by simpa using h)
  have e:cutF r w (a::ws) (l::ls)=(l+r*a / w)::cutF r w ws ls:=rfl
  rw[e]
  simp only[List.sum_cons,List.length_cons,Int.natCast_add]
  have q1:=Int.mul_ediv_add_emod (r*a) w
  have q2:=Int.emod_nonneg (r*a) (Int.ne_of_gt hw)
  have q3:=Int.emod_lt_of_pos (r*a) hw
  have e1:w*(l+r*a / w+(cutF r w ws ls).sum-(l+ls.sum))=w*(r*a / w)+w*((cutF r w ws ls).sum-ls.sum):=by
   rw[← Int.mul_add];congr 1;lia
  have e2:r*(a+ws.sum)=r*a+r*ws.sum:=Int.mul_add _ _ _
  have e3:(w-1)*((ls.length:Int)+1)=(w-1)*ls.length+(w-1):=by rw[Int.mul_add,Int.mul_one]
  have e4:((1:Nat):Int)=1:=rfl
  rw[e1,e2,e4,e3]
  lia
theorem addRest_sum (rest:Int):∀(k:Nat) (l:List Int),0≤rest-k→rest-k≤l.length→(addRest rest k l).sum=l.sum+(rest-k)
 | k,[],h1,h2=>by
  have:rest-k=0:=by simp at h2;exact Int.le_antisymm (by assumption) (by assumption)
  rw[this];rfl
 | k,x::r,h1,h2=>by
  simp only[addRest0,addRest1,List.sum_cons]
  by_cases q:(k:Int)<rest
  ·rw[if_pos q,addRest_sum rest (k+1) r (by exact Int.sub_nonneg_of_le (by assumption)) (by simp at h2;lia)]
   lia
  ·have zero:∀(j:Nat) (l:List Int),rest≤j→addRest rest j l=l:=by
    intro j l
    induction l generalizing j with
    | nil=>intro J;rfl
    | cons y l ih=>intro hj;simp only[addRest0,addRest1];rw[if_neg (by exact Int.not_lt.mpr (by assumption)),ih (j+1) (by lia)];simp
   rw[if_neg q,zero _ _ (by lia)]
   lia
theorem addRest_ge (rest:Int):∀(k:Nat) (l:List Int),All2 (fun x y=>x≤y∧y≤x+1) l (addRest rest k l)
 | _,[]=>.nil
 | k,x::r=>.cons (by split<;>lia) (addRest_ge rest (k+1) r)
theorem cut_ge {r w:Int}(hr:0≤r) (hw:0<w):∀{ws ls:List Int},ws.length=ls.length→(∀x∈ws,0≤x)→All2 (fun l x=>l≤x) ls (cutF r w ws ls)
 | [],[],_,_=>.nil
 | [],_::_,h,_=>by simp at h
 | _::_,[],h,_=>by simp at h
 | a::ws,l::ls,h,hx=>by
  refine .cons (show l≤l+r*a / w from ?_) (cut_ge hr hw (by simpa using h) fun x q=>hx x (.tail _ q))
  have:=hx a (.head _)
  have:0≤r*a / w:=Int.ediv_nonneg (Int.mul_nonneg hr this) (by exact Int.le_of_lt (by assumption))
  lia
theorem rest_ok {total:Int}{ws ls:List Int}(ok:ShOk total ws ls):0≤total-(cutF (total-ls.sum) (wts ws).sum (wts ws) ls).sum∧total-(cutF (total-ls.sum) (wts ws).sum (wts ws) ls).sum≤ls.length:=by
 have J:=wts_ok ok;have w1:=J.1;have w2:=J.2.1;have w3:=J.2.2.1;have w4:=J.2.2.2
 have J:=cut_sum (r:=total-ls.sum) w3 w1;have c1:=J.1;have c2:=J.2
 generalize (wts ws).sum=w at*
 generalize (cutF (total-ls.sum) w (wts ws) ls).sum=c at*
 have e:(total-ls.sum)*w=w*(total-ls.sum):=Int.mul_comm _ _
 rw[e]at c1 c2
 have d1:0≤w*(total-c):=by
  have:w*(total-c)=w*(total-ls.sum)-w*(c-ls.sum):=by rw[← Int.mul_sub];congr 1;lia
  lia
 have d2:w*(total-c)≤(w-1)*ls.length:=by
  have:w*(total-c)=w*(total-ls.sum)-w*(c-ls.sum):=by rw[← Int.mul_sub];congr 1;lia
  lia
 have p1:0≤total-c:=by
  apply Classical.byContradiction
  intro z
  have:=Int.mul_lt_mul_of_pos_left (show total-c<0 by exact Int.not_le.mp (by assumption)) w3
  lia
 refine⟨p1,?_⟩
 apply Classical.byContradiction
 intro z
 have h1:w*(ls.length:Int)<w*(total-c):=Int.mul_lt_mul_of_pos_left (by exact Int.not_le.mp (by assumption)) w3
 have h2:(w-1)*(ls.length:Int)=w*ls.length-ls.length:=by rw[Int.sub_mul,Int.one_mul]
 lia
theorem shares_sum {total:Int}{ws ls:List Int}(ok:ShOk total ws ls):(sharesF total ws ls).sum=total:=by
 obtain⟨w1,_⟩:=wts_ok ok
 obtain⟨r1,r2⟩:=rest_ok ok
 unfold sharesF
 dsimp only
 rw[addRest_sum _ _ _ (by simpa using r1) (by rw[cut_length w1];simpa using r2)]
 lia
theorem All2.trans' {α β γ:Type}{R:α→β→Prop}{S:β→γ→Prop}{T:α→γ→Prop}(f:∀a b c,R a b→S b c→T a c) {as:List α}{bs:List β}{cs:List γ}(x:All2 R as bs) (y:All2 S bs cs):All2 T as cs:=by
 induction x generalizing cs with
 | nil=>cases y;exact .nil
 | cons h J ih=>cases y with
  | cons h' t'=>exact .cons (f _ _ _ h h') (ih t')
theorem shares_ge {total:Int}{ws ls:List Int}(ok:ShOk total ws ls) (h:ls.sum≤total):All2 (fun l x=>l≤x) ls (sharesF total ws ls):=by
 have J:=wts_ok ok;have w1:=J.1;have w2:=J.2.1;have w3:=J.2.2.1
 exact All2.trans' (R:=fun(l x:Int)=>l≤x) (S:=fun(x y:Int)=>x≤y∧y≤x+1) (T:=fun(l x:Int)=>l≤x) (fun J J J h1 h2=>Int.le_trans h1 h2.1) (cut_ge (r:=total-ls.sum) (by exact Int.sub_nonneg_of_le (by assumption)) w3 w1 fun x hx=>(w2 x hx).1) (addRest_ge _ _ _)
theorem shares_length {total:Int}{ws ls:List Int}(ok:ShOk total ws ls):(sharesF total ws ls).length=ls.length:=by
 obtain⟨w1,_⟩:=wts_ok ok
 unfold sharesF
 dsimp only
 rw[addRest_length,cut_length w1]
theorem All2.mem {α β:Type}{R:α→β→Prop}{as:List α}{bs:List β}(x:All2 R as bs) {b:β}(h:b∈bs):∃a∈as,R a b:=by
 induction x with
 | nil=>contradiction
 | cons q J ih=>
  rcases List.mem_cons.mp h with rfl | z
  ·exact⟨_,.head _,q⟩
  ·obtain⟨a,h1,h2⟩:=ih z;exact⟨a,.tail _ h1,h2⟩
theorem All2.memL {α β:Type}{R:α→β→Prop}{as:List α}{bs:List β}(x:All2 R as bs) {a:α}(h:a∈as):∃b∈bs,R a b:=by
 induction x with
 | nil=>contradiction
 | cons q J ih=>
  rcases List.mem_cons.mp h with rfl | z
  ·exact⟨_,.head _,q⟩
  ·obtain⟨a,h1,h2⟩:=ih z;exact⟨a,.tail _ h1,h2⟩
theorem All2.and {α β:Type}{R S:α→β→Prop}{as:List α}{bs:List β}(x:All2 R as bs) (y:∀b∈bs,∀a,S a b):All2 (fun a b=>R a b∧S a b) as bs:=by
 induction x with
 | nil=>exact .nil
 | cons q J ih=>exact .cons ⟨q,y _ (.head _) _⟩ (ih fun b hb=>y b (.tail _ hb))
noncomputable def Tgt (a:Int) (f:F) (ss:List Int):Prop:=All2 (fun l s=>l≤s∧s≤1000) (least a f) ss
noncomputable def spareF (a:Int) (σ:Int→Int→Int):F→List Int
 | .nil=>[]
 | .node m s k r=>(σ m a-(least a (.node m s k .nil)).headD 0)::spareF a σ r
theorem spareF0 {a σ}:spareF a σ .nil=[]:=rfl
theorem spareF1 {a σ m s k r}:spareF a σ (.node m s k r)=(σ m a-(least a (.node m s k .nil)).headD 0)::spareF a σ r:=rfl
theorem spare_length (a:Int) (σ:Int→Int→Int):∀f:F,(spareF a σ f).length=f.roots.length
 | .nil=>rfl
 | .node _ _ _ r=>by simp[spareF0,spareF1,F.roots0,F.roots1,spare_length a σ r]
noncomputable def Fit (a:Int) (σ:Int→Int→Int):F→Prop
 | .nil=>True
 | .node m s k r=>((least a (.node m s k .nil)).headD 0≤σ m a∧σ m a≤1000)∧Fit a σ k∧Fit a σ r
theorem Fit.spare {a:Int}{σ:Int→Int→Int}:∀{f:F},Full f→Fit a σ f→∀x∈spareF a σ f,0≤x∧x≤1000:=by
 intro J1
 induction J1 with
 | nil=>
  intro J J x hx
  cases hx
 | node m s k r J8 J9=>
  rintro⟨u1,u2,u3⟩ ⟨⟨h1,h2⟩,_,h3⟩ x hx
  simp only[spareF0,spareF1,List.mem_cons]at hx
  rcases hx with rfl | hx
  ·have:2≤(least a (.node m s k .nil)).headD 0:=least_pos (a:=a) (f:=.node m s k .nil) ⟨u1,u2,trivial⟩ _ (by simp[leastE0,leastE1])
   lia
  ·exact J9 u3 h3 x hx
theorem Fit.least_le {a:Int}{σ:Int→Int→Int}:∀{f:F},Fit a σ f→∀x∈least a f,x≤1000:=by
 intro J1
 induction J1 with
 | nil=>
  intro J x hx
  cases hx
 | node m s k r J8 J9=>
  rintro⟨⟨h1,h2⟩,_,h3⟩ x hx
  have e:least a (.node m s k r)=(least a (.node m s k .nil)).headD 0::least a r:=rfl
  rw[e,List.mem_cons]at hx
  rcases hx with rfl | hx
  ·exact Int.le_trans (by assumption) (by assumption)
  ·exact J9 h3 x hx
theorem sh_ok {a:Int}{σ:Int→Int→Int}{f:F}{s:Int}(hf:Full f) (hn:f≠.nil) (hc:f.count≤900) (fit:Fit a σ f) (hs:0≤s∧s≤1000):ShOk s (spareF a σ f) (least a f):=by
 have hl:=least_length a f
 have hr:=F.roots_length f
 have h1:=sum_ge (least_pos (a:=a) hf)
 have h2:=sum_le fit.least_le
 refine⟨by rw[spare_length,hl],by lia,fun z=>?_,?_,fun w hw=>?_⟩
 ·rw[z]at hl;exact F.roots_ne hn (List.length_eq_zero_iff.mp hl.symm)
 ·rw[hl]at h1 h2;lia
 ·have:=fit.spare hf w hw;lia
noncomputable def kidsT (a:Int) (σ:Int→Int→Int) (s:Int) (k:F) (much:Int):List Int:=if along s=a then sharesF much (spareF a σ k) (least a k)else List.replicate k.roots.length much
theorem kidsT_length {a:Int}{σ:Int→Int→Int}{s much:Int}{k:F}(hf:Full k) (hn:k≠.nil) (hc:k.count≤900) (fit:Fit a σ k) (hs:0≤much∧much≤1000):(kidsT a σ s k much).length=k.roots.length:=by
 unfold kidsT
 split
 ·rw[shares_length (sh_ok hf hn hc fit hs),least_length]
 ·simp
theorem Tgt.kids {a:Int}{σ:Int→Int→Int}{m s much:Int}{k:F}(hz:s≠0) (hf:Full k) (hn:k≠.nil) (hc:k.count≤900) (fit:Fit a σ k) (h1:(least a (.node m s k .nil)).headD 0≤much) (h2:much≤1000):Tgt a k (kidsT a σ s k much):=by
 have e:(least a (.node m s k .nil)).headD 0=if along s=a then(least a k).sum else lmax (least a k):=by simp[leastE0,leastE1,hz]
 rw[e]at h1
 have h0:0≤much:=by
  have:2≤(least a (.node m s k .nil)).headD 0:=least_pos (a:=a) (f:=.node m s k .nil) ⟨⟨fun z=>absurd z hz,fun z=>absurd z hn⟩,hf,trivial⟩ _ (by simp[leastE0,leastE1])
  rw[e]at this;lia
 unfold Tgt kidsT
 split
 ·rename_i ha
  rw[if_pos ha]at h1
  have ok:=sh_ok hf hn hc fit ⟨h0,h2⟩
  have hge:=shares_ge ok h1
  have hsum:=shares_sum ok
  refine hge.and fun b hb J=>?_
  have pos:∀x∈sharesF much (spareF a σ k) (least a k),0≤x:=fun x hx=>by
   obtain⟨l,hl,hle⟩:=hge.mem hx
   have:=least_pos hf l hl;lia
  have:=mem_le_sum pos hb
  lia
 ·rename_i ha
  rw[if_neg ha]at h1
  rw[← least_length a k]
  have:∀l:List Int,(∀x∈l,x≤much)→All2 (fun l s=>l≤s∧s≤1000) l (List.replicate l.length much):=by
   intro l
   induction l with
   | nil=>intro J;exact .nil
   | cons x l ih=>intro h;exact .cons ⟨h x (.head _),h2⟩ (ih fun y hy=>h y (.tail _ hy))
  exact this _ fun x hx=>Int.le_trans (lmax_ge hx) h1
noncomputable def SetF (a:Int) (σ σ':Int→Int→Int):F→List Int→Prop
 | .nil,_=>True
 | .node m s k r,ss=>σ' m a=ss.headD 0∧(∀x,x≠a→σ' m x=σ m x)∧(if s=0 then True else SetF a σ σ' k (kidsT a σ s k (ss.headD 0)))∧SetF a σ σ' r ss.tail
end Mine
namespace Mine
section
variable {h h' h₀:Hp}{W:WS}{es:List (Int×V)}{fs:List (Nat×V)}{τ δ:Nat}{r m s p:Int}{ks:List Int}{own:Nat→Prop}{Z:Hp→Prop}{Q:V→Hp→Prop}
theorem Tt.ch (x:Tt h τ δ fs es r) (q:Ch own h h') (h1:¬own τ) (h2:¬own δ):Tt h' τ δ fs es r:=⟨q.keep _ _ x.inst (.inl h1),q.keep _ _ x.dict (.inl h2),x.win,x.root,x.lw,x.lh,x.sel,x.meth,x.len⟩
noncomputable def WS.sz (W:WS) (σ:Int→Int→Int):WS:={ W with σ:=σ }
theorem Wf.sz {σ:Int→Int→Int}{fl:List (Nat×V)}(x:Wf W m s p fl) (e:∀a,σ m a=W.σ m a):Wf (W.sz σ) m s p fl:=
 ⟨x.len,x.num,x.sort,x.par,x.kids,x.left,x.top,by rw[x.wid];show _=some (V.int (σ m 0));rw[e],by rw[x.hgt];show _=some (V.int (σ m 1));rw[e],x.ear,x.more,x.meth⟩
theorem Wn.ch {σ:Int→Int→Int}(x:Wn h es W m s p ks) (q:Ch own h h') (h1:¬own (W.ω m)) (h2:¬own (W.κ m)) (h3:¬own (W.ε m)) (e:∀a,σ m a=W.σ m a):Wn h' es (W.sz σ) m s p ks:=
 ⟨let⟨fl,a,b⟩:=x.inst;⟨fl,q.keep _ _ a (.inl h1),b.sz e⟩,q.keep _ _ x.kids (.inl h2),q.keep _ _ x.ear (.inl h3),x.dk,x.pr⟩
theorem Vw.ch {σ:Int→Int→Int}:∀{f:F},Vw h es W f→Ch own h h'→(∀x∈f.nums,¬own (W.ω x)∧¬own (W.κ x)∧¬own (W.ε x))→(∀x∈f.nums,∀a,σ x a=W.σ x a)→Vw h' es (W.sz σ) f
 | .nil,_,_,_,_=>trivial
 | .node m s k r,⟨⟨p,a⟩,b,c⟩,q,n,e=>by
  simp only[F.nums0,F.nums1,List.mem_cons,List.mem_append]at n e
  obtain⟨n1,n2,n3⟩:=n m (.inl rfl)
  exact⟨⟨p,a.ch q n1 n2 n3 (e m (.inl rfl))⟩,b.ch q (fun x hx=>n x (.inr (.inl hx))) fun x hx=>e x (.inr (.inl hx)),c.ch q (fun x hx=>n x (.inr (.inr hx))) fun x hx=>e x (.inr (.inr hx))⟩
theorem Vw.at:∀{f:F},Vw h es W f→∀{x:Int},x∈f.nums→∃s p ks,Wn h es W x s p ks:=by
 intro J1
 induction J1 with
 | nil=>
  intro J x hx
  contradiction
 | node m s k r J8 J9=>
  rintro⟨⟨p,a⟩,b,c⟩ x hx
  simp only[F.nums0,F.nums1,List.mem_cons,List.mem_append]at hx
  rcases hx with rfl | hx | hx
  ·exact⟨_,_,_,a⟩
  ·exact J8 b hx
  ·exact J9 c hx
theorem Wn.ne_list {j:Nat}{vs:List V}(x:Wn h es W m s p ks) (e:h[j]?=some (.list vs)):W.ω m≠j:=fun z=>by
 obtain⟨fl,a,_⟩:=x.inst
 rw[z,e]at a;cases a
theorem Wn.inj {m' s' p':Int}{ks':List Int}(x:Wn h es W m s p ks) (y:Wn h es W m' s' p' ks') (e:W.ω m=W.ω m'):m=m':=by
 obtain⟨fl,a,b⟩:=x.inst
 obtain⟨fl',a',b'⟩:=y.inst
 rw[e,a']at a;cases a
 have:=b.num.symm.trans b'.num
 cases this;rfl
theorem Wn.kne {m' s' p':Int}{ks':List Int}(x:Wn h es W m s p ks) (y:Wn h es W m' s' p' ks'):W.κ m≠W.ω m'∧W.ε m≠W.ω m':=by
 refine⟨fun z=>y.ne_list x.kids z.symm,fun z=>y.ne_list x.ear z.symm⟩
theorem Tt.tne (x:Tt h τ δ fs es r) (y:Wn h es W m s p ks):τ≠W.ω m∧δ≠W.ω m:=by
 obtain⟨fl,a,b⟩:=y.inst
 refine⟨fun z=>?_,fun z=>?_⟩
 ·have:=x.inst;rw[z,a]at this;cases this
 ·have:=x.dict;rw[z,a]at this;cases this
theorem Tt.ne_list {j:Nat}{vs:List V}(x:Tt h τ δ fs es r) (e:h[j]?=some (.list vs)):τ≠j∧δ≠j:=⟨fun z=>(by have:=x.inst;rw[z,e]at this;cases this),fun z=>(by have:=x.dict;rw[z,e]at this;cases this)⟩
theorem w_get1 {j:Nat}{ds:List (Int×V)}{y:Int}{u v:V}(g:h[j]?=some (.dictI ds)) (q:findK y ds=some v) (x:Q v h):C (objMeth j 5 [.int y,u] h) Q:=w_get g (by rw[q];exact x)
theorem call35 {n:Nat}{a:Int}(x:Wn h es W m s p ks) (ha:a=0∨a=1) (k:Q (.int (W.σ m a)) h):callP prog (n+1) 35 [.ref (W.ω m),.int a] h Q Z:=by
 obtain⟨fl,x1,x2⟩:=x.inst
 refine c35 (w_some (w_by (fun e=>w_attr x1 x2.wid ?_) fun e=>w_attr x1 x2.hgt ?_))
 ·rwa[e]at k
 ·rwa[ha.resolve_left e]at k
theorem call37 {n:Nat}{a:Int}(x:Wn h es W m s p ks) (ha:a=0∨a=1) (k:Q (.int (W.π m a)) h):callP prog (n+1) 37 [.ref (W.ω m),.int a] h Q Z:=by
 obtain⟨fl,x1,x2⟩:=x.inst
 refine c37 (w_some (w_by (fun e=>w_attr x1 x2.left ?_) fun e=>w_attr x1 x2.top ?_))
 ·rwa[e]at k
 ·rwa[ha.resolve_left e]at k
noncomputable def upd (σ:Int→Int→Int) (m a v:Int):Int→Int→Int:=fun x y=>if x=m∧y=a then v else σ x y
theorem fpo {x y:Nat}{w:V}{ds:List (Nat×V)}{o:Option V}(n:Nat.beq x y=false) (e:findF x ds=o):findF x (putF y w ds)=o:=findF_put.trans ((if_neg (Nat.ne_of_beq_eq_false n)).trans e)
theorem fpe {x:Nat}{w:V}{ds:List (Nat×V)}:findF x (putF x w ds)=some w:=findF_put.trans (if_pos rfl)
theorem fph {x y:Nat}{w:V}{ds:List (Nat×V)}{o:Option V}(h:29≤x) (n:Nat.blt y 29=true) (e:findF x ds=o):findF x (putF y w ds)=o:=findF_put.trans ((if_neg fun z=>absurd (z▸h) (Nat.not_le.mpr (Nat.le_of_ble_eq_true n))).trans e)
theorem Wf.put {a v:Int}{fl:List (Nat×V)}(x:Wf W m s p fl) (ha:a=0∨a=1):Wf (W.sz (upd W.σ m a v)) m s p (putF (if a=0 then 27 else 10) (.int v) fl):=by
 obtain⟨v1,v2,v3,v4,q1,q2,q3,q4⟩:=x.more
 rcases ha with rfl | rfl
 ·exact⟨Nat.le_trans (Nat.le_of_eq (putF_same x.wid)) x.len,fpo rfl x.num,fpo rfl x.sort,fpo rfl x.par,fpo rfl x.kids,fpo rfl x.left,fpo rfl x.top,fpe.trans (congrArg (fun z=>some (V.int z)) (if_pos ⟨rfl,rfl⟩).symm),(fpo rfl x.hgt).trans (congrArg (fun z=>some (V.int z)) (if_neg fun z=>absurd z.2 (by decide)).symm),fpo rfl x.ear,⟨v1,v2,v3,v4,fpo rfl q1,fpo rfl q2,fpo rfl q3,fpo rfl q4⟩,fun k hk=>fph hk rfl (x.meth k hk)⟩
 ·exact⟨Nat.le_trans (Nat.le_of_eq (putF_same x.hgt)) x.len,fpo rfl x.num,fpo rfl x.sort,fpo rfl x.par,fpo rfl x.kids,fpo rfl x.left,fpo rfl x.top,(fpo rfl x.wid).trans (congrArg (fun z=>some (V.int z)) (if_neg fun z=>absurd z.2 (by decide)).symm),fpe.trans (congrArg (fun z=>some (V.int z)) (if_pos ⟨rfl,rfl⟩).symm),fpo rfl x.ear,⟨v1,v2,v3,v4,fpo rfl q1,fpo rfl q2,fpo rfl q3,fpo rfl q4⟩,fun k hk=>fph hk rfl (x.meth k hk)⟩
theorem call36 {n i:Nat}{a v:Int}{fl:List (Nat×V)}(x1:h[i]?=some (.inst 0 fl)) (hl:fl.length≤16) (hz:i≠0) (x:∀h',h'[i]?=some (.inst 0 (putF (if a=0 then 27 else 10) (.int v) fl))→Ch (fun j=>j=i) h h'→Q .none h'):callP prog (n+1) 36 [.ref i,.int a,.int v] h Q Z:=
 c36 (w_some (w_by (fun e=>w_set x1 (Nat.lt_of_le_of_lt hl (by decide)) hz fun h' g o=>x h' (by rwa[if_pos e]) o) fun e=>w_set x1 (Nat.lt_of_le_of_lt hl (by decide)) hz fun h' g o=>x h' (by rwa[if_neg e]) o))
theorem call42 {n:Nat}(ht:Tt h τ δ fs es r) (x:Wn h es W m s p ks) (k:Q (.ref (W.ω m)) h):callP prog (n+1) 42 [.ref τ,.int m] h Q Z:=by
 refine c42 ?_
 refine w_attr ht.inst ht.win ?_
 refine w_md ht.dict ?_
 refine w_get1 ht.dict x.dk ?_
 exact w_some (w_ff k)
noncomputable def Its (h:Hp):List Int→List Int→List V→Prop
 | [],[],[]=>True
 | c::cs,s::ss,.ref t::its=>h[t]?=some (.tup [.int c,.int s])∧Its h cs ss its
 | _,_,_=>False
theorem Its.ch:∀{cs ss:List Int}{its:List V},Its h cs ss its→Ch own h h'→Its h' cs ss its
 | [],[],[],_,_=>trivial
 | c::cs,s::ss,.ref t::its,⟨a,b⟩,q=>⟨q.keep _ _ a (.inr ⟨_,rfl⟩),b.ch q⟩
theorem Its.length:∀{cs ss:List Int}{its:List V},Its h cs ss its→its.length=cs.length∧ss.length=cs.length
 | [],[],[],_=>⟨rfl,rfl⟩
 | c::cs,s::ss,.ref t::its,⟨_,b⟩=>by have h1:=b.length.1;have h2:=b.length.2;simp[h1,h2]
theorem push_loop2 {c:Env'}{k:Nat}{kκ q j:Nat}{a0 a1 a2 a3:V}{o5 o6 o7 o9 o10:Option V}{T:V→Hp→Prop}{N:Fr→Hp→Prop}(hj:j≠0) (hkj:kκ≠j) (hqj:q≠j):∀{cs ps:List Int}{pre qre stk:List V}{h:Hp}{o8 o11:Option V},cs.length=ps.length→pre.length=qre.length→
  h[kκ]?=some (.list (pre++cs.map V.int))→h[q]?=some (.list (qre++ps.map V.int))→h[j]?=some (.list stk)→stk.length+cs.length<1000→
  (∀h' its o8 o11,Ch (fun i=>i=j) h h'→h'[j]?=some (.list (stk++its))→Its h' cs ps its→N (fc a0 (fc a1 (fc a2 (fc a3 (fc (.ref j) (fo o5 (fo o6 (fo o7 (fo o8 (fo o9 (fo o10 (fo o11 (fz 0))))))))))))) h')→
  lf2 c 8 11 f8b1 T (k+1+cs.length) (.zip kκ q pre.length) (fc a0 (fc a1 (fc a2 (fc a3 (fc (.ref j) (fo o5 (fo o6 (fo o7 (fo o8 (fo o9 (fo o10 (fo o11 (fz 0))))))))))))) h N:=by
 intro cs
 induction cs with
 | nil=>
  intro ps pre qre stk h o8 o11 hl hp g1 g2 g3 hb x
  cases ps with
  | cons _ _=>contradiction
  | nil=>exact w_f2e (feeds_zip (Inv:=fun H=>H=h) (xs:=[]) (ys:=[]) rfl hp (fun H e=>by subst e;exact⟨g1,g2⟩) h rfl) (x h [] o8 o11 .refl (by rw[List.append_nil];exact g3) trivial)
 | cons x cs ih=>
  intro ps pre qre stk h o8 o11 hl hp g1 g2 g3 hb k'
  cases ps with
  | nil=>contradiction
  | cons y ps=>
   have n1:nextI (.zip kκ q pre.length) h=some (some ([.int x,.int y],.zip kκ q (pre.length+1))):=by
    have e2:(qre++V.int y::ps.map V.int)[pre.length]?=some (.int y):=by rw[hp];simp
    simp[nextI,g1,g2,e2]
   refine w_f2 (n:=k+1+cs.length) n1 rfl ?_
   refine w_ml g3 hj ?_ rfl
   refine w_tup fun t h1 lt gt o1=>?_
   refine w_app (o1.get g3) (by rw[lim_eq];simp at hb;lia) fun h2 g32 o2=>?_
   have:=ih (pre:=pre++[.int x]) (qre:=qre++[.int y]) (o8:=some (.int x)) (o11:=some (.int y)) (Nat.succ.inj hl) (by simp[hp]) (by rw[o2.ne (o1.get g1) hkj];simp) (by rw[o2.ne (o1.get g2) hqj];simp) g32 (by simp at hb ⊢;lia) fun h' its o8 o11 ch gj i=>k' h' (.ref t::its) o8 o11 ((o1.any.trans o2).trans ch) (by rw[gj];simp) ⟨ch.tup (o2.tup gt),i⟩
   rw[List.length_append]at this
   exact this
theorem push_loop1 {c:Env'}{k:Nat}{kκ j:Nat}{a0 a1 a2 a3:V}{o5 o7 o9 o10 o11:Option V}{y:Int}{T:V→Hp→Prop}{N:Fr→Hp→Prop}(hj:j≠0) (hkj:kκ≠j):∀{cs:List Int}{pre stk:List V}{h:Hp}{o8:Option V},
  h[kκ]?=some (.list (pre++cs.map V.int))→h[j]?=some (.list stk)→stk.length+cs.length<1000→
  (∀h' its o8,Ch (fun i=>i=j) h h'→h'[j]?=some (.list (stk++its))→Its h' cs (List.replicate cs.length y) its→N (fc a0 (fc a1 (fc a2 (fc a3 (fc (.ref j) (fo o5 (fc (.int y) (fo o7 (fo o8 (fo o9 (fo o10 (fo o11 (fz 0))))))))))))) h')→
  lf1 c 8 f8b2 T (k+1+cs.length) (.seq kκ pre.length) (fc a0 (fc a1 (fc a2 (fc a3 (fc (.ref j) (fo o5 (fc (.int y) (fo o7 (fo o8 (fo o9 (fo o10 (fo o11 (fz 0))))))))))))) h N:=by
 intro cs
 induction cs with
 | nil=>
  intro pre stk h o8 g1 g3 hb x
  exact w_f1e (end_seq g1 (by simp)) (x h [] o8 .refl (by rw[List.append_nil];exact g3) trivial)
 | cons x cs ih=>
  intro pre stk h o8 g1 g3 hb k'
  refine w_f1 (n:=k+1+cs.length) (next_seq g1 (v:=.int x) (by simp)) ?_
  refine w_ml g3 hj ?_ rfl
  refine w_tup fun t h1 lt gt o1=>?_
  refine w_app (o1.get g3) (by rw[lim_eq];simp at hb;lia) fun h2 g32 o2=>?_
  have:=ih (pre:=pre++[.int x]) (o8:=some (.int x)) (by rw[o2.ne (o1.get g1) hkj];simp) g32 (by simp at hb ⊢;lia) fun h' its o8 ch gj i=>k' h' (.ref t::its) o8 ((o1.any.trans o2).trans ch) (by rw[gj];simp) ⟨ch.tup (o2.tup gt),i⟩
  rw[List.length_append]at this
  exact this
end
end Mine
namespace Mine
section
variable {h h' h₀:Hp}{W:WS}{es:List (Int×V)}{fs:List (Nat×V)}{τ δ:Nat}{r m s p:Int}{ks:List Int}{own:Nat→Prop}{Z:Hp→Prop}{Q:V→Hp→Prop}
theorem memc {α:Type}{a b:α}{l:List α}:a∈b::l↔b=a∨a∈l:=⟨fun h=>(List.mem_cons.mp h).imp Eq.symm id,fun h=>List.mem_cons.mpr (h.imp Eq.symm id)⟩
theorem All2.of_map {α β γ δ:Type}{R:γ→δ→Prop}{f:α→γ}{g:β→δ}{as:List α}{bs:List β}(x:All2 (fun a b=>R (f a) (g b)) as bs):All2 R (as.map f) (bs.map g):=x.map2
theorem SetF.congr {a:Int}{σ σ₁ σ₂ σ₃:Int→Int→Int}:∀{f:F}{ss:List Int},SetF a σ σ₁ f ss→(∀x∈f.nums,∀y,σ₂ x y=σ x y)→(∀x∈f.nums,∀y,σ₃ x y=σ₁ x y)→SetF a σ₂ σ₃ f ss:=by
 intro J1
 induction J1 with
 | nil=>
  intro J J J J
  exact trivial
 | node m s k r J8 J9=>
  rintro ss ⟨h1,h2,h3,h4⟩ e1 e2
  simp only[F.nums0,F.nums1,memc,List.mem_append]at e1 e2
  refine⟨by rw[e2 m (.inl rfl)];exact h1,fun x hx=>by rw[e2 m (.inl rfl),e1 m (.inl rfl)];exact h2 x hx,?_,J9 h4 (fun x hx=>e1 x (.inr (.inr hx))) fun x hx=>e2 x (.inr (.inr hx))⟩
  by_cases hs:s=0
  ·rw[if_pos hs];trivial
  ·rw[if_neg hs]at h3⊢
   have:∀f:F,(∀x∈f.nums,∀y,σ₂ x y=σ x y)→spareF a σ₂ f=spareF a σ f:=by
    intro f
    induction f with
    | nil=>intro J;rfl
    | node m s k r J ih=>
     intro e
     simp only[F.nums0,F.nums1,memc,List.mem_append]at e
     simp only[spareF0,spareF1]
     rw[e m (.inl rfl),ih fun x hx=>e x (.inr (.inr hx))]
   have e3:kidsT a σ₂ s k (ss.headD 0)=kidsT a σ s k (ss.headD 0):=by
    unfold kidsT
    rw[this k fun x hx=>e1 x (.inr (.inl hx))]
   rw[e3]
   exact J8 h3 (fun x hx=>e1 x (.inr (.inl hx))) fun x hx=>e2 x (.inr (.inl hx))
theorem Fit.congr {a:Int}{σ σ':Int→Int→Int}:∀{f:F},Fit a σ f→(∀x∈f.nums,∀y,σ' x y=σ x y)→Fit a σ' f:=by
 intro J1
 induction J1 with
 | nil=>
  intro J J
  exact trivial
 | node m s k r J8 J9=>
  rintro⟨h1,h2,h3⟩ e
  simp only[F.nums0,F.nums1,memc,List.mem_append]at e
  exact⟨by rw[e m (.inl rfl)];exact h1,J8 h2 fun x hx=>e x (.inr (.inl hx)),J9 h3 fun x hx=>e x (.inr (.inr hx))⟩
theorem spare_congr {a:Int}{σ σ':Int→Int→Int}:∀{f:F},(∀x∈f.nums,∀y,σ' x y=σ x y)→spareF a σ' f=spareF a σ f:=by
 intro J1
 induction J1 with
 | nil=>
  intro J
  exact rfl
 | node m s k r J8 J9=>
  intro e
  simp only[F.nums0,F.nums1,memc,List.mem_append]at e
  simp only[spareF0,spareF1]
  rw[e m (.inl rfl),J9 fun x hx=>e x (.inr (.inr hx))]
noncomputable def OwnJ (W:WS) (j:Nat) (A:List Int) (i:Nat):Prop:=i=j∨∃y∈A,i=W.ω y
noncomputable def Wat (h:Hp) (es:List (Int×V)) (W:WS) (j:Nat) (all:List Int):Prop:=∀x∈all,(∃s p ks,Wn h es W x s p ks)∧W.κ x≠j∧W.ε x≠j∧W.ω x≠0
theorem Wat.ap {j:Nat}{all A:List Int}{vs:List V}{x:Int}(q:Wat h es W j all) (gj:h[j]?=some (.list vs)) (hx:x∈all) (hA:∀y∈A,y∈all∧x≠y):¬OwnJ W j A (W.ω x)∧¬OwnJ W j A (W.κ x)∧¬OwnJ W j A (W.ε x):=by
 obtain⟨⟨_,_,_,wx⟩,l1,l2,_⟩:=q x hx
 refine⟨?_,?_,?_⟩<;>(intro z;rcases z with z | ⟨y,hy,z⟩)
 ·exact wx.ne_list gj z
 ·obtain⟨⟨_,_,_,wy⟩,_⟩:=q y (hA y hy).1
  exact(hA y hy).2 (wx.inj wy z)
 ·exact l1 z
 ·obtain⟨⟨_,_,_,wy⟩,_⟩:=q y (hA y hy).1
  exact(wx.kne wy).1 z
 ·exact l2 z
 ·obtain⟨⟨_,_,_,wy⟩,_⟩:=q y (hA y hy).1
  exact(wx.kne wy).2 z
theorem Wat.tt {j:Nat}{all A:List Int}{vs:List V}(q:Wat h es W j all) (gj:h[j]?=some (.list vs)) (ht:Tt h τ δ fs es r) (hA:∀y∈A,y∈all):¬OwnJ W j A τ∧¬OwnJ W j A δ:=by
 constructor<;>(intro z;rcases z with z | ⟨y,hy,z⟩)
 ·exact(ht.ne_list gj).1 z
 ·obtain⟨⟨_,_,_,wy⟩,_⟩:=q y (hA y hy);exact(ht.tne wy).1 z
 ·exact(ht.ne_list gj).2 z
 ·obtain⟨⟨_,_,_,wy⟩,_⟩:=q y (hA y hy);exact(ht.tne wy).2 z
theorem Wat.jw {j:Nat}{all:List Int}{vs:List V}{x:Int}(q:Wat h es W j all) (gj:h[j]?=some (.list vs)) (hx:x∈all):W.ω x≠j∧W.κ x≠j∧W.ε x≠j:=by
 obtain⟨⟨_,_,_,wx⟩,l1,l2,_⟩:=q x hx
 exact⟨wx.ne_list gj,l1,l2⟩
theorem Wat.wx {j:Nat}{all:List Int}{x:Int}(q:Wat h es W j all) (w:Wn h es W m s p ks) (hx:x∈all) (ne:x≠m):W.ω x≠W.ω m∧W.κ x≠W.ω m∧W.ε x≠W.ω m:=by
 obtain⟨⟨_,_,_,wx⟩,_⟩:=q x hx
 exact⟨fun z=>ne (wx.inj w z),(wx.kne w).1,(wx.kne w).2⟩
theorem Vw.wat {j:Nat}{f:F}(v:Vw h es W f) (low:∀x∈f.nums,W.κ x≠j∧W.ε x≠j∧W.ω x≠0):Wat h es W j f.nums:=fun x hx=>⟨v.at hx,low x hx⟩
theorem leasts_all {n:Nat}{a:Int}{h₁:Hp}(ht:Tt h₁ τ δ fs es r):∀{f:F},Vw h₁ es W f→Full f→f.nums.Nodup→f.count<800→All2 (fun x y=>∀H,Ro h₁ H→∀(Z:Hp→Prop) (K:V→Hp→Prop),(∀h',Ro h₁ h'→K y h')→callP prog (n+2) 6 [.ref τ,x,.int a] H K Z) (f.roots.map V.int) ((least a f).map V.int):=by
 intro f
 induction f with
 | nil=>intro J J J J;exact .nil
 | node m s k r J ih=>
  intro hv hf hn hc
  have hn':(F.node m s k .nil).nums.Nodup∧r.nums.Nodup:=by
   simp only[F.nums0,F.nums1,List.nodup_cons,List.mem_append,not_or,List.nodup_append,List.append_nil]at hn⊢
   exact⟨⟨hn.1.1,hn.2.1⟩,hn.2.2.1⟩
  have hc:k.count+r.count+1<800:=hc
  exact .cons (fun H ro Z K x=>call6 (n:=n) (ht.ro ro) (Vw.ro (f:=.node m s k .nil) ⟨hv.1,hv.2.1,trivial⟩ ro) ⟨hf.1,hf.2.1,trivial⟩ hn'.1 (by lia) fun h' q=>x h' (ro.trans q)) (ih hv.2.2 hf.2.2 hn'.2 (by lia))
theorem spares_all {n:Nat}{a:Int}{h₁:Hp}{fr:Fr}(ht:Tt h₁ τ δ fs es r) (ha:a=0∨a=1) (f0:fr[0]?.join=some (.ref τ)) (f2:fr[2]?.join=some (.int a)):∀{f:F},Vw h₁ es W f→
  All2 (fun x y=>∀K:Kt,K fr h₁ [y]→go (cn prog (n+1)) (pC x) K f8e2 fr h₁ []) (List.zipWith (fun x y=>[x,y]) (f.roots.map V.int) ((least a f).map V.int)) ((spareF a W.σ f).map V.int):=by
 intro f
 induction f with
 | nil=>intro J;exact .nil
 | node m s k r J ih=>
  intro hv
  obtain⟨p,w⟩:=hv.1
  obtain⟨ws,w1,w2⟩:=w.inst
  refine .cons (fun K k=>?_) (ih hv.2.2)
  refine w_v f0 ?_
  refine w_attr ht.inst ht.win ?_
  refine w_dk ht.dict w.dk ?_
  refine w_meth w1 (w2.meth 35 (by simp)) rfl ?_
  refine w_v f2 ?_
  exact call35 w ha (w_ok k)
theorem sts_loop {a:Int}{n:Nat}(ha:a=0∨a=1) {a1 a3:V}{T:V→Hp→Prop}{N:Fr→Hp→Prop}{j:Nat}(hj:j≠0):∀(f:F) {W:WS}{h:Hp}{ss:List Int}{st its:List V}{k:Nat}{o5 o6 o7 o8 o9 o10 o11:Option V},
  Tt h τ δ fs es r→Vw h es W f→Full f→f.nums.Nodup→Fit a W.σ f→Tgt a f ss→f.count<700→(∀x∈f.nums,W.κ x≠j∧W.ε x≠j∧W.ω x≠0)→
  h[j]?=some (.list (st++its))→Its h f.roots ss its→st.length+f.count<900→
  (∀h' σ' o5 o6 o7 o8 o9 o10 o11,Ch (OwnJ W j f.nums) h h'→h'[j]?=some (.list st)→Vw h' es (W.sz σ') f→SetF a W.σ σ' f ss→(∀x,x∉f.nums→∀y,σ' x y=W.σ x y)→
   lw (cn prog (n+2)) f8t1 f8b3 T k (fc (.ref τ) (fc a1 (fc (.int a) (fc a3 (fc (.ref j) (fo o5 (fo o6 (fo o7 (fo o8 (fo o9 (fo o10 (fo o11 (fz 0))))))))))))) h' N)→
  lw (cn prog (n+2)) f8t1 f8b3 T (k+f.count) (fc (.ref τ) (fc a1 (fc (.int a) (fc a3 (fc (.ref j) (fo o5 (fo o6 (fo o7 (fo o8 (fo o9 (fo o10 (fo o11 (fz 0))))))))))))) h N:=by
 intro f
 induction f with
 | nil=>
  intro W h ss st its k o5 o6 o7 o8 o9 o10 o11 ht hv hfu hnd fit tgt hc hlow gj hits hb next
  have:its=[]:=List.length_eq_zero_iff.mp hits.length.1
  subst this
  exact next h W.σ o5 o6 o7 o8 o9 o10 o11 .refl (by simpa using gj) trivial trivial fun J J J=>rfl
 | node m s kd rs ihk ihr=>
  intro W h ss st its k o5 o6 o7 o8 o9 o10 o11 ht hv hfu hnd fit tgt hc hlow gj hits hb next
  have q:=hv.wat hlow
  obtain⟨⟨p,w⟩,vk,vr⟩:=hv
  have fu:=hfu.1;have fk:=hfu.2.1;have fr:=hfu.2.2
  have ft:=fit.1;have fitk:=fit.2.1;have fitr:=fit.2.2
  rw[F.nums1,List.nodup_cons,List.nodup_append,List.mem_append,not_or]at hnd
  obtain⟨⟨mk,mr⟩,nk,nr,disj⟩:=hnd
  have hc:kd.count+rs.count+1<700:=hc
  have hb:st.length+(kd.count+rs.count+1)<900:=hb
  have im:m∈(F.node m s kd rs).nums:=.head _
  have ik:∀x∈kd.nums,x∈(F.node m s kd rs).nums:=fun x hx=>.tail _ (List.mem_append_left _ hx)
  have ir:∀x∈rs.nums,x∈(F.node m s kd rs).nums:=fun x hx=>.tail _ (List.mem_append_right _ hx)
  have ne_k:∀x∈kd.nums,x≠m:=fun x hx z=>mk (z▸hx)
  have ne_r:∀x∈rs.nums,x≠m:=fun x hx z=>mr (z▸hx)
  cases its with
  | nil=>cases ss<;>exact False.elim hits
  | cons it0 its=>
  cases ss with
  | nil=>contradiction
  | cons s0 ss=>
  obtain⟨t0,rfl⟩:∃t0,it0=.ref t0:=by cases it0<;>first | exact⟨_,rfl⟩ | exact False.elim hits
  obtain⟨gt,hits'⟩:=hits
  cases tgt with
  | cons tg0 tgr=>
  rw[show k+(F.node m s kd rs).count=(k+kd.count+1)+rs.count by simp[F.count];lia]
  refine ihr (st:=st++[.ref t0]) (its:=its) ht vr fr nr fitr tgr (by lia) (fun x hx=>hlow x (ir x hx)) (by rw[gj];simp) hits' (by simp;lia) fun h1 σ1 p5 p6 p7 p8 p9 p10 p11 ch1 gj1 vr1 set1 out1=>?_
  have apr:∀x,x∈(F.node m s kd rs).nums→x∉rs.nums→¬OwnJ W j rs.nums (W.ω x)∧¬OwnJ W j rs.nums (W.κ x)∧¬OwnJ W j rs.nums (W.ε x):=fun x hx nx=>q.ap gj hx fun y hy=>⟨ir y hy,fun z=>nx (z▸hy)⟩
  have kr:∀x∈kd.nums,x∉rs.nums:=fun x hx q=>disj x hx x q rfl
  have ht1:=ht.ch ch1 (q.tt gj ht ir).1 (q.tt gj ht ir).2
  have e1m:∀y,σ1 m y=W.σ m y:=out1 m mr
  have e1k:∀x∈kd.nums,∀y,σ1 x y=W.σ x y:=fun x hx y=>out1 x (kr x hx) y
  have wm1:=w.ch (σ:=σ1) ch1 (apr m im mr).1 (apr m im mr).2.1 (apr m im mr).2.2 e1m
  have vk1:=vk.ch (σ:=σ1) ch1 (fun x hx=>apr x (ik x hx) (kr x hx)) e1k
  have gt1:=ch1.keep _ _ gt (.inr ⟨_,rfl⟩)
  have hkn:s≠0→kd≠.nil:=fun hs z=>hs (fu.mpr z)
  have fitk1:Fit a σ1 kd:=fitk.congr e1k
  have h0s:0≤s0:=by
   have:=least_pos (a:=a) (f:=.node m s kd .nil) ⟨fu,fk,trivial⟩ _ (show(least a (.node m s kd .nil)).headD 0∈_ by simp[leastE1])
   have e:(least a (.node m s kd .nil)).headD 0≤s0:=tg0.1
   lia
  have jw:∀x∈(F.node m s kd rs).nums,W.ω x≠j∧W.κ x≠j∧W.ε x≠j:=fun x hx=>q.jw gj hx
  have tj:=ht1.ne_list gj1
  have fin:∀h3 h5 itk q8 q9 q10 q11,Ch (fun i=>i=j) h1 h3→Ch (fun i=>i=j) h3 h5→h3[j]?=some (.list st)→h5[j]?=some (.list (st++itk))→(s=0→itk=[])→(s≠0→Its h5 kd.roots (kidsT a σ1 s kd s0) itk)→
    go (cn prog (n+2)) (pL T) (kw (cn prog (n+2)) f8t1 f8b3 T (k+kd.count) N) f8b3r (fc (.ref τ) (fc a1 (fc (.int a) (fc a3 (fc (.ref j) (fc (.int m) (fc (.int s0) (fc (.ref (W.ω m)) (fo q8 (fo q9 (fo q10 (fo q11 (fz 0))))))))))))) h5 []:=by
   intro h3 h5 itk q8 q9 q10 q11 ch3 ch5 gj3 gj5 hz hk
   have ch15:=ch3.trans ch5
   have ht5:=ht1.ch ch15 tj.1 tj.2
   have wm5:=wm1.ch (σ:=σ1) ch15 (jw m im).1 (jw m im).2.1 (jw m im).2.2 fun J=>rfl
   have vk5:=vk1.ch (σ:=σ1) ch15 (fun x hx=>jw x (ik x hx)) fun J J J=>rfl
   have vr5:=vr1.ch (σ:=σ1) ch15 (fun x hx=>jw x (ir x hx)) fun J J J=>rfl
   obtain⟨wl,w1,w2⟩:=wm5.inst
   have w1:h5[W.ω m]?=some (.inst 0 wl):=w1
   refine w_meth w1 (w2.meth 32 (by simp)) rfl ?_
   refine call36 w1 w2.len (hlow m im).2.2 fun h6 gw6 ch6=>?_
   have ht6:=ht5.ch ch6 (ht.tne w).1 (ht.tne w).2
   have eu:∀x,x≠m→∀y,upd σ1 m a s0 x y=σ1 x y:=fun x hx y=>by unfold upd;rw[if_neg fun z=>hx z.1]
   have vk6:=vk5.ch (σ:=upd σ1 m a s0) ch6 (fun x hx=>q.wx w (ik x hx) (ne_k x hx)) fun x hx=>eu x (ne_k x hx)
   have vr6:=vr5.ch (σ:=upd σ1 m a s0) ch6 (fun x hx=>q.wx w (ir x hx) (ne_r x hx)) fun x hx=>eu x (ne_r x hx)
   have gj6:=ch6.ne gj5 (Ne.symm (w.ne_list gj))
   have wm6:Wn h6 es (W.sz (upd σ1 m a s0)) m s p kd.roots:=⟨⟨_,gw6,w2.put ha⟩,ch6.ne wm5.kids (w.kne w).1,ch6.ne wm5.ear (w.kne w).2,w.dk,w.pr⟩
   have kids:∃ssk,Tgt a kd ssk∧Its h6 kd.roots ssk itk∧(s≠0→ssk=kidsT a σ1 s kd s0):=by
    by_cases hs:s=0
    ·exact⟨[],by rw[fu.mp hs];exact .nil,by rw[fu.mp hs,hz hs];trivial,fun z=>absurd hs z⟩
    ·exact⟨_,Tgt.kids (m:=m) hs fk (hkn hs) (by lia) fitk1 tg0.1 tg0.2,(hk hs).ch ch6,fun J=>rfl⟩
   obtain⟨ssk,tk,iik,ek⟩:=kids
   refine ihk (W:=W.sz (upd σ1 m a s0)) (st:=st) (its:=itk) ht6 vk6 fk nk (fitk1.congr fun x hx=>eu x (ne_k x hx)) tk (by lia) (fun x hx=>hlow x (ik x hx)) gj6 iik (by lia) fun h7 σ7 p5 p6 p7 p8 p9 p10 p11 ch7 gj7 vk7 set7 out7=>?_
   have apk:∀x,x∈(F.node m s kd rs).nums→x∉kd.nums→¬OwnJ W j kd.nums (W.ω x)∧¬OwnJ W j kd.nums (W.κ x)∧¬OwnJ W j kd.nums (W.ε x):=fun x hx nx=>q.ap gj hx fun y hy=>⟨ik y hy,fun z=>nx (z▸hy)⟩
   have rk:∀x∈rs.nums,x∉kd.nums:=fun x hx z=>disj x z x hx rfl
   have e7m:∀y,σ7 m y=upd σ1 m a s0 m y:=out7 m mk
   have e7r:∀x∈rs.nums,∀y,σ7 x y=upd σ1 m a s0 x y:=fun x hx=>out7 x (rk x hx)
   refine next h7 σ7 p5 p6 p7 p8 p9 p10 p11 ?_ gj7 ?_ ?_ ?_
   ·exact(Ch.mem ch1 fun i z=>z.imp id fun J3=>J3.elim fun x J4=>J4.elim fun hx e=>⟨x,ir x hx,e⟩).trans ((Ch.mem ch15 fun i z=>.inl z).trans ((Ch.mem ch6 fun i z=>.inr ⟨m,im,z⟩).trans (Ch.mem ch7 fun i z=>z.imp id fun J5=>J5.elim fun x J6=>J6.elim fun hx e=>⟨x,ik x hx,e⟩)))
   ·exact⟨⟨p,wm6.ch (σ:=σ7) ch7 (apk m im mk).1 (apk m im mk).2.1 (apk m im mk).2.2 e7m⟩,vk7,vr6.ch (σ:=σ7) ch7 (fun x hx=>apk x (ir x hx) (rk x hx)) e7r⟩
   ·refine⟨by rw[e7m];unfold upd;simp,fun x hx=>by rw[e7m];unfold upd;rw[if_neg fun z=>hx z.2,e1m],?_,set1.congr (fun J J J=>rfl) fun x hx y=>by rw[e7r x hx,eu x (ne_r x hx)]⟩
    by_cases hs:s=0
    ·rw[if_pos hs];trivial
    ·rw[if_neg hs]
     have e:=ek hs
     subst e
     have e2:kidsT a W.σ s kd s0=kidsT a σ1 s kd s0:=by unfold kidsT;rw[spare_congr e1k]
     show SetF a W.σ σ7 kd (kidsT a W.σ s kd s0)
     rw[e2]
     exact set7.congr (fun x hx y=>by show W.σ x y=upd σ1 m a s0 x y;rw[eu x (ne_k x hx),e1k x hx]) fun J J J=>rfl
   ·intro x hx y
    have nm:x≠m:=fun z=>hx (z▸im)
    exact(out7 x (fun z=>hx (ik x z)) y).trans ((eu x nm y).trans (out1 x (fun z=>hx (ir x z)) y))
  refine w_lw ?_
  refine w_ne1 gj1 (by simp) fun h2 o2=>w_tt ?_
  refine w_ml (o2.get gj1) hj ?_ rfl
  refine w_pop (o2.get gj1) fun h3 gj3 o3=>?_
  have ch3:Ch (fun i=>i=j) h1 h3:=o2.any.trans o3
  refine w_tg (ch3.tup gt1) rfl ?_
  have ht3:=ht1.ch ch3 tj.1 tj.2
  have wm3:=wm1.ch (σ:=σ1) ch3 (jw m im).1 (jw m im).2.1 (jw m im).2.2 fun J=>rfl
  have vk3:=vk1.ch (σ:=σ1) ch3 (fun x hx=>jw x (ik x hx)) fun J J J=>rfl
  obtain⟨wl,w1,w2⟩:=wm3.inst
  have w1:h3[W.ω m]?=some (.inst 0 wl):=w1
  have w7:findF 7 wl=some (.ref (W.κ m)):=w2.kids
  have gk3:h3[W.κ m]?=some (.list (kd.roots.map V.int)):=wm3.kids
  have hrl:=F.roots_length kd
  have hll:=least_length a kd
  refine w_attr ht3.inst ht3.win ?_
  refine w_dk ht3.dict w.dk ?_
  refine w_attr w1 w2.sort ?_
  refine w_some (w_nby (fun hs=>?_) fun hs=>?_)
  rotate_left
  ·exact fin h3 h3 [] _ _ _ _ ch3 .refl gj3 (by simpa using gj3) (fun J=>rfl) (fun z=>absurd hs z)
  ·refine w_attr w1 w2.sort ?_
   refine call0 ?_
   have kj:=(hlow m im).1
   refine w_some (w_by (fun hal=>?_) fun hal=>?_)
   ·refine w_attr w1 w7 ?_
    refine w_it gk3 ?_
    refine comp_map (fun H=>Ro h3 H) ((leasts_all (n:=n) (a:=a) ht3 vk3 fk nk (by lia)).imp fun x y hxy H ro K k=>by exact hxy H ro _ _ k) (pre:=[]) (fun H ro=>ro.get gk3) .refl (by rw[List.length_map,turns_eq];lia) fun h4 ro4=>?_
    refine w_list (by rw[lim_eq];simp;lia) fun i9 h5 l9 g9 o5=>?_
    have ro5:=ro4.and o5
    refine w_attr (ro5.get w1) w7 ?_
    refine w_zip (ro5.get gk3) g9 ?_
    refine comp_here (feeds_zip (pre:=[]) (qre:=[]) (by simp[hll]) rfl fun H hH=>by rw[hH];exact⟨ro5.get gk3,g9⟩) (by simp[hll];rw[turns_eq];lia) (spares_all (n:=n+1) (a:=a) (ht3.ro ro5) ha rfl rfl (vk3.ro ro5)) ?_
    have hsl:=spare_length a σ1 kd
    refine w_list (by rw[lim_eq,List.length_map];show(spareF a σ1 kd).length≤_;lia) fun i10 h6 l10 g10 o6=>?_
    have ro6:=ro5.and o6
    have ok:=sh_ok fk (hkn hs) (by lia) fitk1 (s:=s0) ⟨h0s,tg0.2⟩
    refine w_attr (ro6.get w1) w7 ?_
    refine call7 (n:=n+1) ok g10 (o6.get g9) fun q h7 lq gq ro7=>?_
    have ro37:=ro6.trans ro7
    refine w_zip (ro37.get gk3) gq ?_
    have hshl:=shares_length ok
    have lj:=lt_of_get gj3
    have l36:=ro6.len
    refine lf2_more (1+kd.roots.length) (by rw[turns_eq];lia) ?_
    rw[← Nat.add_assoc]
    refine push_loop2 hj kj (by lia) (cs:=kd.roots) (ps:=sharesF s0 (spareF a σ1 kd) (least a kd)) (pre:=[]) (qre:=[]) (by rw[hshl,hll]) rfl (ro37.get gk3) gq (ro37.get gj3) (by lia) fun h8 itk q8 q11 ch8 gj8 its8=>?_
    exact fin h3 h8 itk _ _ _ _ ch3 ((Ro.any ro37).trans ch8) gj3 gj8 (fun z=>absurd z hs) fun J=>by unfold kidsT;rw[if_pos hal];exact its8
   ·refine w_attr w1 w7 ?_
    refine w_it gk3 ?_
    refine lf1_more (1+kd.roots.length) (by rw[turns_eq];lia) ?_
    rw[← Nat.add_assoc]
    refine push_loop1 hj kj (cs:=kd.roots) (y:=s0) (pre:=[]) gk3 gj3 (by lia) fun h8 itk q8 ch8 gj8 its8=>?_
    exact fin h3 h8 itk _ _ _ _ ch3 ch8 gj3 gj8 (fun z=>absurd z hs) fun J=>by unfold kidsT;rw[if_neg hal];exact its8
end
end Mine
namespace Mine
section
variable {h h' h₀:Hp}{W:WS}{es:List (Int×V)}{fs:List (Nat×V)}{τ δ:Nat}{r m s p:Int}{ks:List Int}{own:Nat→Prop}{Z:Hp→Prop}{Q:V→Hp→Prop}
noncomputable def Own (W:WS) (f:F) (i:Nat):Prop:=∃x∈f.nums,i=W.ω x
theorem own_of {H:Hp}{j:Nat}{f:F}(ro:Ro h H) (lj:h.length≤j) (ch:Ch (OwnJ W j f.nums) H h'):Ch (Own W f) h h':=(Ro.any ro).loc ch fun i hi z=>z.elim (fun e=>absurd (e▸hi) (Nat.not_lt.mpr lj)) id
theorem Vw.low {j:Nat}{f:F}{l0:List V}(hv:Vw h es W f) (lj:h.length≤j) (z0:h[0]?=some (.list l0)):∀x∈f.nums,W.κ x≠j∧W.ε x≠j∧W.ω x≠0:=fun x hx=>by
 obtain⟨_,_,_,wx⟩:=hv.at hx
 exact⟨Nat.ne_of_lt (Nat.lt_of_lt_of_le (lt_of_get wx.kids) lj),Nat.ne_of_lt (Nat.lt_of_lt_of_le (lt_of_get wx.ear) lj),wx.ne_list z0⟩
theorem call8 {n:Nat}{a size:Int}{kd:F}{l0:List V}(ha:a=0∨a=1) (ht:Tt h τ δ fs es r) (hv:Vw h es W (.node m s kd .nil)) (hfu:Full (.node m s kd .nil)) (hnd:(F.node m s kd .nil).nums.Nodup) (fit:Fit a W.σ (.node m s kd .nil)) (h1:least1 a m s kd≤size) (h2:size≤1000) (hc:kd.count<600) (z0:h[0]?=some (.list l0))
  (x:∀h' σ',Ch (Own W (.node m s kd .nil)) h h'→Vw h' es (W.sz σ') (.node m s kd .nil)→SetF a W.σ σ' (.node m s kd .nil) [size]→(∀x,x∉(F.node m s kd .nil).nums→∀y,σ' x y=W.σ x y)→Q .none h') :
  callP prog (n+3) 8 [.ref τ,.int m,.int a,.int size] h Q Z:=by
 have hz:=lt_of_get ht.inst
 have hcc:(F.node m s kd .nil).count=kd.count+1:=rfl
 refine c8 ?_
 refine w_tup fun t h1' lt gt o1=>?_
 refine w_list (by rw[lim_eq];simp) fun j H lj gj o2=>?_
 have ro:=o1.trans o2
 have lj':=Nat.le_trans o1.len lj
 refine lw_more (1+(F.node m s kd .nil).count) (by rw[turns_eq,hcc];lia) ?_
 rw[← Nat.add_assoc]
 refine sts_loop (n:=n) ha (j:=j) (by lia) (.node m s kd .nil) (st:=[]) (its:=[.ref t]) (ss:=[size]) (ht.ro ro) (hv.ro ro) hfu hnd fit (.cons ⟨h1,h2⟩ .nil) (by exact Nat.lt_of_le_of_lt (by assumption) (by simp)) (hv.low lj' z0) gj ⟨o2.get gt,trivial⟩ (by rw[hcc];simp;exact Nat.lt_of_le_of_lt (by assumption) (by simp)) fun h' σ' o5 o6 o7 o8 o9 o10 o11 ch gj' vw set out=>?_
 refine w_lw ?_
 refine w_ne0 gj' fun h3 o3=>w_ff ?_
 exact x h3 σ' ((own_of ro lj' ch).and o3) (vw.ro o3) set out
end
end Mine
namespace Mine
noncomputable def WS.pl (W:WS) (π:Int→Int→Int):WS:={ W with π:=π }
noncomputable def posF (σ:Int→Int→Int) (s:Int):F→Int→Int→List (Int×Int)
 | .nil,_,_=>[]
 | .node m _ _ r,l,t=>(l,t)::posF σ s r (if along s=0 then l+σ m 0 else l) (if along s=0 then t else t+σ m 1)
theorem posF0 {σ s l t}:posF σ s .nil l t=[]:=rfl
theorem posF1 {σ s m q k r l t}:posF σ s (.node m q k r) l t=(l,t)::posF σ s r (if along s=0 then l+σ m 0 else l) (if along s=0 then t else t+σ m 1):=rfl
noncomputable def PlS (σ π:Int→Int→Int):F→List (Int×Int)→Prop
 | .nil,_=>True
 | .node m s k r,ps=>π m 0=(ps.headD (0,0)).1∧π m 1=(ps.headD (0,0)).2∧PlS σ π k (posF σ s k (ps.headD (0,0)).1 (ps.headD (0,0)).2)∧PlS σ π r ps.tail
theorem PlS.congr {σ π π':Int→Int→Int}:∀{f:F}{ps:List (Int×Int)},PlS σ π f ps→(∀x∈f.nums,∀y,π' x y=π x y)→PlS σ π' f ps:=by
 intro J1
 induction J1 with
 | nil=>
  intro J J J
  exact trivial
 | node m s k r J8 J9=>
  rintro ps ⟨h1,h2,h3,h4⟩ e
  simp only[F.nums0,F.nums1,List.mem_cons,List.mem_append]at e
  exact⟨by rw[e m (.inl rfl)];exact h1,by rw[e m (.inl rfl)];exact h2,J8 h3 fun x hx=>e x (.inr (.inl hx)),J9 h4 fun x hx=>e x (.inr (.inr hx))⟩
theorem posF_length (σ:Int→Int→Int) (s:Int):∀(f:F) (l t:Int),(posF σ s f l t).length=f.roots.length:=by
 intro J1
 induction J1 with
 | nil=>
  intro J J
  exact rfl
 | node _ _ _ r J8 J9=>
  intro l t
  simp[posF0,posF1,F.roots0,F.roots1,J9]
noncomputable def ItP (h:Hp):List Int→List (Int×Int)→List V→Prop
 | [],[],[]=>True
 | c::cs,q::qs,.ref t::its=>h[t]?=some (.tup [.int c,.int q.1,.int q.2])∧ItP h cs qs its
 | _,_,_=>False
section
variable {h h' h₀ hB:Hp}{W:WS}{es:List (Int×V)}{fs:List (Nat×V)}{τ δ:Nat}{r m s p:Int}{ks:List Int}{own:Nat→Prop}{Z:Hp→Prop}{Q:V→Hp→Prop}
theorem ItP.ch:∀{cs:List Int}{qs:List (Int×Int)}{its:List V},ItP h cs qs its→Ch own h h'→ItP h' cs qs its
 | [],[],[],_,_=>trivial
 | c::cs,s::ss,.ref t::its,⟨a,b⟩,q=>⟨q.keep _ _ a (.inr ⟨_,rfl⟩),b.ch q⟩
theorem ItP.length:∀{cs:List Int}{qs:List (Int×Int)}{its:List V},ItP h cs qs its→its.length=cs.length
 | [],[],[],_=>rfl
 | c::cs,s::ss,.ref t::its,⟨_,b⟩=>by simp[b.length]
theorem Wf.pl {π:Int→Int→Int}{fl:List (Nat×V)}(x:Wf W m s p fl) (e:∀a,π m a=W.π m a):Wf (W.pl π) m s p fl:=
 ⟨x.len,x.num,x.sort,x.par,x.kids,by rw[x.left];show _=some (V.int (π m 0));rw[e],by rw[x.top];show _=some (V.int (π m 1));rw[e],x.wid,x.hgt,x.ear,x.more,x.meth⟩
theorem Wn.chp {π:Int→Int→Int}(x:Wn h es W m s p ks) (q:Ch own h h') (h1:¬own (W.ω m)) (h2:¬own (W.κ m)) (h3:¬own (W.ε m)) (e:∀a,π m a=W.π m a):Wn h' es (W.pl π) m s p ks:=
 ⟨let⟨fl,a,b⟩:=x.inst;⟨fl,q.keep _ _ a (.inl h1),b.pl e⟩,q.keep _ _ x.kids (.inl h2),q.keep _ _ x.ear (.inl h3),x.dk,x.pr⟩
theorem Vw.chp {π:Int→Int→Int}:∀{f:F},Vw h es W f→Ch own h h'→(∀x∈f.nums,¬own (W.ω x)∧¬own (W.κ x)∧¬own (W.ε x))→(∀x∈f.nums,∀a,π x a=W.π x a)→Vw h' es (W.pl π) f
 | .nil,_,_,_,_=>trivial
 | .node m s k r,⟨⟨p,a⟩,b,c⟩,q,n,e=>by
  simp only[F.nums0,F.nums1,List.mem_cons,List.mem_append]at n e
  obtain⟨n1,n2,n3⟩:=n m (.inl rfl)
  exact⟨⟨p,a.chp q n1 n2 n3 (e m (.inl rfl))⟩,b.chp q (fun x hx=>n x (.inr (.inl hx))) fun x hx=>e x (.inr (.inl hx)),c.chp q (fun x hx=>n x (.inr (.inr hx))) fun x hx=>e x (.inr (.inr hx))⟩
noncomputable def updP (π:Int→Int→Int) (m l t:Int):Int→Int→Int:=fun x y=>if x=m then(if y=0 then l else t)else π x y
theorem Wf.putP {l t:Int}{fl:List (Nat×V)}(x:Wf W m s p fl):Wf (W.pl (updP W.π m l t)) m s p (putF 25 (.int t) (putF 17 (.int l) fl)):=by
 obtain⟨v1,v2,v3,v4,q1,q2,q3,q4⟩:=x.more
 exact⟨Nat.le_trans (Nat.le_of_eq ((putF_same (fpo rfl x.top)).trans (putF_same x.left))) x.len,fpo rfl (fpo rfl x.num),fpo rfl (fpo rfl x.sort),fpo rfl (fpo rfl x.par),fpo rfl (fpo rfl x.kids),(fpo rfl fpe).trans (congrArg (fun z=>some (V.int z)) (if_pos rfl).symm),fpe.trans (congrArg (fun z=>some (V.int z)) (if_pos rfl).symm),fpo rfl (fpo rfl x.wid),fpo rfl (fpo rfl x.hgt),fpo rfl (fpo rfl x.ear),⟨v1,v2,v3,v4,fpo rfl (fpo rfl q1),fpo rfl (fpo rfl q2),fpo rfl (fpo rfl q3),fpo rfl (fpo rfl q4)⟩,fun k hk=>fph hk rfl (fph hk rfl (x.meth k hk))⟩
theorem push_pl {n j k kκ:Nat}{a2:Option V}{wl:List (Nat×V)}{wi:Nat}{T:V→Hp→Prop}{N:Fr→Hp→Prop}(hj:j≠0) (hkj:kκ≠j) (ht:Tt hB τ δ fs es r) (tj:τ≠j∧δ≠j) (w1:hB[wi]?=some (.inst 0 wl)) (w2:findF 23 wl=some (.int s)) (wj:wi≠j) :
  ∀(f:F) {pre:List V} {stk:List V} {h:Hp} {o6:Option V} {l t:Int} {i:Nat},i=pre.length→Vw hB es W f→(∀x∈f.nums,W.ω x≠j)→hB[kκ]?=some (.list (pre++f.roots.map V.int))→Ch (fun i=>i=j) hB h→h[j]?=some (.list stk)→stk.length+f.count<1000→
  (∀h' its o6 l' t',Ch (fun i=>i=j) h h'→h'[j]?=some (.list (stk++its))→ItP h' f.roots (posF W.σ s f l t) its→N (fc (.ref τ) (fc (.ref j) (fo a2 (fc (.int l') (fc (.int t') (fc (.ref wi) (fo o6 (fz 0)))))))) h')→
  lf1 (cn prog (n+1)) 6 f9b1 T (k+1+f.roots.length) (.seq kκ i) (fc (.ref τ) (fc (.ref j) (fo a2 (fc (.int l) (fc (.int t) (fc (.ref wi) (fo o6 (fz 0)))))))) h N:=by
 intro f
 induction f with
 | nil=>
  intro pre stk h o6 l t i hi vw vj g1 ch g3 hb next
  exact w_f1e (end_seq (ch.ne g1 hkj) (by simp[F.roots0,F.roots1,hi])) (next h [] o6 l t .refl (by rw[List.append_nil];exact g3) trivial)
 | node x sx kx rx _ ih=>
  intro pre stk h o6 l t i hi vw vj g1 ch g3 hb next
  obtain⟨⟨px,wx⟩,vk,vr⟩:=vw
  have hb:stk.length+(kx.count+rx.count+1)<1000:=hb
  refine w_f1 (n:=k+1+rx.roots.length) (next_seq (ch.ne g1 hkj) (v:=.int x) (by simp[F.roots0,F.roots1,hi])) ?_
  refine w_ml g3 hj ?_ rfl
  refine w_tup fun u h1 lu gu o1=>?_
  refine w_app (o1.get g3) (by rw[lim_eq];lia) fun h2 g32 o2=>?_
  have chB:=(ch.and o1).trans o2
  have ht1:=ht.ch chB tj.1 tj.2
  obtain⟨xl,x1,x2⟩:=wx.inst
  have x1':=chB.ne x1 (vj x (.head _))
  have g1':hB[kκ]?=some (.list ((pre++[.int x])++rx.roots.map V.int)):=by rw[g1];simp[F.roots0,F.roots1]
  have vj':∀y∈rx.nums,W.ω y≠j:=fun y hy=>vj y (.tail _ (List.mem_append_right _ hy))
  have c12:Ch (fun i=>i=j) h h2:=o1.any.trans o2
  refine w_attr (chB.ne w1 wj) w2 ?_
  refine call0 ?_
  refine w_some (w_by (fun e=>?_) fun e=>?_)
  ·refine w_attr ht1.inst ht1.win ?_
   refine w_dk ht1.dict wx.dk ?_
   refine w_attr x1' x2.wid ?_
   refine w_ok ?_
   exact ih (pre:=pre++[.int x]) (stk:=stk++[.ref u]) (o6:=some (.int x)) (by simp[hi]) vr vj' g1' chB g32 (by simp;lia) fun h' its o6 l' t' c gj it=>next h' (.ref u::its) o6 l' t' (c12.trans c) (by rw[gj];simp) ⟨c.tup (o2.tup gu),by rw[if_pos e,if_pos e];exact it⟩
  ·refine w_attr ht1.inst ht1.win ?_
   refine w_dk ht1.dict wx.dk ?_
   refine w_attr x1' x2.hgt ?_
   refine w_ok ?_
   exact ih (pre:=pre++[.int x]) (stk:=stk++[.ref u]) (o6:=some (.int x)) (by simp[hi]) vr vj' g1' chB g32 (by simp;lia) fun h' its o6 l' t' c gj it=>next h' (.ref u::its) o6 l' t' (c12.trans c) (by rw[gj];simp) ⟨c.tup (o2.tup gu),by rw[if_neg e,if_neg e];exact it⟩
end
end Mine
namespace Mine
section
variable {h h' h₀:Hp}{W:WS}{es:List (Int×V)}{fs:List (Nat×V)}{τ δ:Nat}{r m s p:Int}{ks:List Int}{own:Nat→Prop}{Z:Hp→Prop}{Q:V→Hp→Prop}
theorem pl_loop {n:Nat}{T:V→Hp→Prop}{N:Fr→Hp→Prop}{j:Nat}(hj:j≠0):∀(f:F) {W:WS}{h:Hp}{ps:List (Int×Int)}{st its:List V}{k:Nat}{o2 o3 o4 o5 o6:Option V},
  Tt h τ δ fs es r→Vw h es W f→f.nums.Nodup→f.count<700→(∀x∈f.nums,W.κ x≠j∧W.ε x≠j∧W.ω x≠0)→ps.length=f.roots.length→
  h[j]?=some (.list (st++its))→ItP h f.roots ps its→st.length+f.count<900→
  (∀h' π' o2 o3 o4 o5 o6,Ch (OwnJ W j f.nums) h h'→h'[j]?=some (.list st)→Vw h' es (W.pl π') f→PlS W.σ π' f ps→(∀x,x∉f.nums→∀y,π' x y=W.π x y)→
   lw (cn prog (n+1)) f9t1 f9b2 T k (fc (.ref τ) (fc (.ref j) (fo o2 (fo o3 (fo o4 (fo o5 (fo o6 (fz 0)))))))) h' N)→
  lw (cn prog (n+1)) f9t1 f9b2 T (k+f.count) (fc (.ref τ) (fc (.ref j) (fo o2 (fo o3 (fo o4 (fo o5 (fo o6 (fz 0)))))))) h N:=by
 intro f
 induction f with
 | nil=>
  intro W h ps st its k o2 o3 o4 o5 o6 ht hv hnd hc hlow hpl gj hits hb next
  have:its=[]:=List.length_eq_zero_iff.mp hits.length
  subst this
  exact next h W.π o2 o3 o4 o5 o6 .refl (by simpa using gj) trivial trivial fun J J J=>rfl
 | node m s kd rs ihk ihr=>
  intro W h ps st its k o2 o3 o4 o5 o6 ht hv hnd hc hlow hpl gj hits hb next
  have q:=hv.wat hlow
  obtain⟨⟨p,w⟩,vk,vr⟩:=hv
  rw[F.nums1,List.nodup_cons,List.nodup_append,List.mem_append,not_or]at hnd
  obtain⟨⟨mk,mr⟩,nk,nr,disj⟩:=hnd
  have hc:kd.count+rs.count+1<700:=hc
  have hb:st.length+(kd.count+rs.count+1)<900:=hb
  have im:m∈(F.node m s kd rs).nums:=.head _
  have ik:∀x∈kd.nums,x∈(F.node m s kd rs).nums:=fun x hx=>.tail _ (List.mem_append_left _ hx)
  have ir:∀x∈rs.nums,x∈(F.node m s kd rs).nums:=fun x hx=>.tail _ (List.mem_append_right _ hx)
  have ne_k:∀x∈kd.nums,x≠m:=fun x hx z=>mk (z▸hx)
  have ne_r:∀x∈rs.nums,x≠m:=fun x hx z=>mr (z▸hx)
  cases its with
  | nil=>cases ps<;>exact False.elim hits
  | cons it0 its=>
  cases ps with
  | nil=>contradiction
  | cons p0 ps=>
  obtain⟨t0,rfl⟩:∃t0,it0=.ref t0:=by cases it0<;>first | exact⟨_,rfl⟩ | exact False.elim hits
  obtain⟨gt,hits'⟩:=hits
  rw[show k+(F.node m s kd rs).count=(k+kd.count+1)+rs.count by simp[F.count];lia]
  refine ihr (st:=st++[.ref t0]) (its:=its) ht vr nr (by lia) (fun x hx=>hlow x (ir x hx)) (Nat.succ.inj hpl) (by rw[gj];simp) hits' (by simp;lia) fun h1 π1 q2 q3 q4 q5 q6 ch1 gj1 vr1 set1 out1=>?_
  have apr:∀x,x∈(F.node m s kd rs).nums→x∉rs.nums→¬OwnJ W j rs.nums (W.ω x)∧¬OwnJ W j rs.nums (W.κ x)∧¬OwnJ W j rs.nums (W.ε x):=fun x hx nx=>q.ap gj hx fun y hy=>⟨ir y hy,fun z=>nx (z▸hy)⟩
  have kr:∀x∈kd.nums,x∉rs.nums:=fun x hx q=>disj x hx x q rfl
  have ht1:=ht.ch ch1 (q.tt gj ht ir).1 (q.tt gj ht ir).2
  have wm1:=w.chp (π:=π1) ch1 (apr m im mr).1 (apr m im mr).2.1 (apr m im mr).2.2 (out1 m mr)
  have vk1:=vk.chp (π:=π1) ch1 (fun x hx=>apr x (ik x hx) (kr x hx)) fun x hx y=>out1 x (kr x hx) y
  have gt1:=ch1.tup gt
  have jw:∀x∈(F.node m s kd rs).nums,W.ω x≠j∧W.κ x≠j∧W.ε x≠j:=fun x hx=>q.jw gj hx
  have tj:=ht1.ne_list gj1
  refine w_lw ?_
  refine w_ne1 gj1 (by simp) fun h2 o2=>w_tt ?_
  refine w_ml (o2.get gj1) hj ?_ rfl
  refine w_pop (o2.get gj1) fun h3 gj3 o3=>?_
  have ch3:Ch (fun i=>i=j) h1 h3:=o2.any.trans o3
  refine w_tg (ch3.tup gt1) rfl ?_
  have ht3:=ht1.ch ch3 tj.1 tj.2
  have wm3:=wm1.chp (π:=π1) ch3 (jw m im).1 (jw m im).2.1 (jw m im).2.2 fun J=>rfl
  have vk3:=vk1.chp (π:=π1) ch3 (fun x hx=>jw x (ik x hx)) fun J J J=>rfl
  have vr3:=vr1.chp (π:=π1) ch3 (fun x hx=>jw x (ir x hx)) fun J J J=>rfl
  obtain⟨wl,w1,w2⟩:=wm3.inst
  have w1:h3[W.ω m]?=some (.inst 0 wl):=w1
  have hwz:=(hlow m im).2.2
  have hwl:=Nat.lt_of_le_of_lt w2.len (by simp:16<99)
  refine w_attr ht3.inst ht3.win ?_
  refine w_dk ht3.dict w.dk ?_
  refine w_tup fun u h31 J gu o31=>?_
  refine w_tg gu rfl ?_
  refine w_set (o31.get w1) (Nat.lt_succ_of_lt hwl) hwz fun h32 w32 o32=>?_
  refine w_set w32 (putF_lt hwl) hwz fun h4 w4 o4=>?_
  have ch4:Ch (fun i=>i=W.ω m) h3 h4:=(o31.any.trans o32).trans o4
  have eu:∀x,x≠m→∀y,updP π1 m p0.1 p0.2 x y=π1 x y:=fun x hx y=>if_neg hx
  have ht4:=ht3.ch ch4 (ht.tne w).1 (ht.tne w).2
  have vk4:=vk3.chp (π:=updP π1 m p0.1 p0.2) ch4 (fun x hx=>q.wx w (ik x hx) (ne_k x hx)) fun x hx=>eu x (ne_k x hx)
  have vr4:=vr3.chp (π:=updP π1 m p0.1 p0.2) ch4 (fun x hx=>q.wx w (ir x hx) (ne_r x hx)) fun x hx=>eu x (ne_r x hx)
  have wf4:=w2.putP (l:=p0.1) (t:=p0.2)
  have wm4:Wn h4 es (W.pl (updP π1 m p0.1 p0.2)) m s p kd.roots:=⟨⟨_,w4,wf4⟩,ch4.ne wm3.kids (w.kne w).1,ch4.ne wm3.ear (w.kne w).2,w.dk,w.pr⟩
  have gj4:=ch4.ne gj3 (Ne.symm (w.ne_list gj))
  have hrl:=F.roots_length kd
  refine w_attr w4 wf4.kids ?_
  refine w_it wm4.kids ?_
  refine lf1_more (1+kd.roots.length) (by rw[turns_eq];lia) ?_
  rw[← Nat.add_assoc]
  have tj4:=ht4.ne_list gj4
  refine push_pl (n:=n) (W:=W.pl (updP π1 m p0.1 p0.2)) hj (hlow m im).1 ht4 tj4 w4 wf4.sort (w.ne_list gj) kd (pre:=[]) (stk:=st) rfl vk4 (fun x hx=>(jw x (ik x hx)).1) wm4.kids .refl gj4 (by lia) fun h5 itk p6 l' t' ch5 gj5 its5=>?_
  have ht5:=ht4.ch ch5 tj4.1 tj4.2
  have wm5:=wm4.chp (π:=updP π1 m p0.1 p0.2) ch5 (jw m im).1 (jw m im).2.1 (jw m im).2.2 fun J=>rfl
  have vk5:=vk4.chp (π:=updP π1 m p0.1 p0.2) ch5 (fun x hx=>jw x (ik x hx)) fun J J J=>rfl
  have vr5:=vr4.chp (π:=updP π1 m p0.1 p0.2) ch5 (fun x hx=>jw x (ir x hx)) fun J J J=>rfl
  refine ihk (W:=W.pl (updP π1 m p0.1 p0.2)) (st:=st) (its:=itk) (ps:=posF W.σ s kd p0.1 p0.2) ht5 vk5 nk (by lia) (fun x hx=>hlow x (ik x hx)) (posF_length _ _ _ _ _) gj5 its5 (by lia) fun h7 π7 q2 q3 q4 q5 q6 ch7 gj7 vk7 set7 out7=>?_
  have apk:∀x,x∈(F.node m s kd rs).nums→x∉kd.nums→¬OwnJ W j kd.nums (W.ω x)∧¬OwnJ W j kd.nums (W.κ x)∧¬OwnJ W j kd.nums (W.ε x):=fun x hx nx=>q.ap gj hx fun y hy=>⟨ik y hy,fun z=>nx (z▸hy)⟩
  have rk:∀x∈rs.nums,x∉kd.nums:=fun x hx z=>disj x z x hx rfl
  have e7m:∀y,π7 m y=updP π1 m p0.1 p0.2 m y:=out7 m mk
  have e7r:∀x∈rs.nums,∀y,π7 x y=updP π1 m p0.1 p0.2 x y:=fun x hx=>out7 x (rk x hx)
  refine next h7 π7 q2 q3 q4 q5 q6 ?_ gj7 ?_ ?_ ?_
  ·exact(Ch.mem ch1 fun i z=>z.imp id fun J7=>J7.elim fun x J8=>J8.elim fun hx e=>⟨x,ir x hx,e⟩).trans ((Ch.mem ch3 fun i z=>.inl z).trans ((Ch.mem ch4 fun i z=>.inr ⟨m,im,z⟩).trans ((Ch.mem ch5 fun i z=>.inl z).trans (Ch.mem ch7 fun i z=>z.imp id fun J9=>J9.elim fun x J1=>J1.elim fun hx e=>⟨x,ik x hx,e⟩))))
  ·exact⟨⟨p,wm5.chp (π:=π7) ch7 (apk m im mk).1 (apk m im mk).2.1 (apk m im mk).2.2 e7m⟩,vk7,vr5.chp (π:=π7) ch7 (fun x hx=>apk x (ir x hx) (rk x hx)) e7r⟩
  ·exact⟨(e7m 0).trans (if_pos rfl),(e7m 1).trans (if_pos rfl),set7,set1.congr fun x hx y=>(e7r x hx y).trans (eu x (ne_r x hx) y)⟩
  ·intro x hx y
   have nm:x≠m:=fun z=>hx (z▸im)
   exact(out7 x (fun z=>hx (ik x z)) y).trans ((eu x nm y).trans (out1 x (fun z=>hx (ir x z)) y))
theorem call9 {n:Nat}{kd:F}{l0:List V}(ht:Tt h τ δ fs es m) (hv:Vw h es W (.node m s kd .nil)) (hnd:(F.node m s kd .nil).nums.Nodup) (hc:kd.count<600) (z0:h[0]?=some (.list l0))
  (x:∀h' π',Ch (Own W (.node m s kd .nil)) h h'→Vw h' es (W.pl π') (.node m s kd .nil)→PlS W.σ π' (.node m s kd .nil) [(0,0)]→(∀x,x∉(F.node m s kd .nil).nums→∀y,π' x y=W.π x y)→Q .none h') :
  callP prog (n+2) 9 [.ref τ] h Q Z:=by
 have hz:=lt_of_get ht.inst
 have hcc:(F.node m s kd .nil).count=kd.count+1:=rfl
 refine c9 ?_
 refine w_attr ht.inst ht.root ?_
 refine w_tup fun t h1' lt gt o1=>?_
 refine w_list (by rw[lim_eq];simp) fun j H lj gj o2=>?_
 have ro:=o1.trans o2
 have lj':=Nat.le_trans o1.len lj
 refine lw_more (1+(F.node m s kd .nil).count) (by rw[turns_eq,hcc];lia) ?_
 rw[← Nat.add_assoc]
 refine pl_loop (n:=n) (j:=j) (by lia) (.node m s kd .nil) (st:=[]) (its:=[.ref t]) (ps:=[(0,0)]) (ht.ro ro) (hv.ro ro) hnd (by exact Nat.lt_of_le_of_lt (by assumption) (by simp)) (hv.low lj' z0) rfl gj ⟨o2.get gt,trivial⟩ (by rw[hcc];simp;exact Nat.lt_of_le_of_lt (by assumption) (by simp)) fun h' π' o2 o3 o4 o5 o6 ch gj' vw set out=>?_
 refine w_lw ?_
 refine w_ne0 gj' fun h3 o3=>w_ff ?_
 exact x h3 π' ((own_of ro lj' ch).and o3) (vw.ro o3) set out
end
end Mine
namespace Mine
structure Up where
 m:Int
 s:Int
 kids:F
 nth:Nat
noncomputable def F.trees:F→List F
 | .nil=>[]
 | .node m s k r=>.node m s k .nil::r.trees
theorem F.trees0:F.trees .nil=[]:=rfl
theorem F.trees1 {m s k r}:F.trees (.node m s k r)=.node m s k .nil::r.trees:=rfl
noncomputable def F.head:F→Int
 | .nil=>0
 | .node m _ _ _=>m
theorem F.trees_length:∀f:F,f.trees.length=f.roots.length
 | .nil=>rfl
 | .node _ _ _ r=>by simp[F.trees0,F.trees1,F.roots0,F.roots1,F.trees_length r]
theorem F.trees_roots:∀f:F,f.trees.map F.head=f.roots
 | .nil=>rfl
 | .node _ _ _ r=>by simp[F.trees0,F.trees1,F.roots0,F.roots1,F.head,F.trees_roots r]
noncomputable def giv {α:Type}(l:List α) (n:Nat):List α:=l.drop (n+1)++(l.take n).reverse
theorem giv_map {α β:Type}(f:α→β) (l:List α) (n:Nat):giv (l.map f) n=(giv l n).map f:=by simp[giv,List.map_drop,List.map_take]
theorem All2.giv {α β:Type}{R:α→β→Prop}{as:List α}{bs:List β}(x:All2 R as bs) (n:Nat):All2 R (giv as n) (giv bs n):=(x.drop _).append (x.take n).reverse
theorem giv_mem {α:Type}{l:List α}{n:Nat}{x:α}(h:x∈giv l n):x∈l:=by
 rw[giv,List.mem_append,List.mem_reverse]at h
 exact h.elim List.mem_of_mem_drop List.mem_of_mem_take
theorem giv_length {α:Type}{l:List α}{n:Nat}(h:n<l.length):(giv l n).length+1=l.length:=by
 simp[giv];lia
section
variable {h h' h₀:Hp}{W:WS}{es:List (Int×V)}{fs:List (Nat×V)}{τ δ:Nat}{r m s p:Int}{ks:List Int}{own:Nat→Prop}{Z:Hp→Prop}{Q:V→Hp→Prop}
noncomputable def WayOk (h:Hp) (es:List (Int×V)) (W:WS):Int→Int→List Int→List Up→Prop
 | m,s,ks,[]=>Wn h es W m s 0 ks
 | m,s,ks,u::up=>Wn h es W m s u.m ks∧u.m≠0∧u.kids.roots[u.nth]?=some m∧WayOk h es W u.m u.s u.kids.roots up
noncomputable def mov (a:Int):Int→List Up→Option (Int×Up)
 | _,[]=>none
 | m,u::up=>if along u.s=a then some (m,u)else mov a u.m up
theorem mov0 {a m}:mov a m []=none:=rfl
theorem mov1 {a m u up}:mov a m (u::up)=if along u.s=a then some (m,u)else mov a u.m up:=rfl
noncomputable def movN (a m:Int) (way:List Up):Int:=match mov a m way with
 | some q=>q.1
 | none=>0
theorem WayOk.wn {way:List Up}(x:WayOk h es W m s ks way):∃p,Wn h es W m s p ks:=by
 cases way with
 | nil=>exact⟨0,x⟩
 | cons u up=>exact⟨u.m,x.1⟩
theorem idxOf_nth:∀{l:List Int}{n:Nat}{x:Int},l.Nodup→l[n]?=some x→idxOf (.int x) (l.map V.int)=some n
 | [],n,x,_,h=>by simp at h
 | y::l,0,x,hn,h=>by simp at h;subst h;simp[idxOf0,idxOf1]
 | y::l,n+1,x,hn,h=>by
  rw[List.nodup_cons]at hn
  simp at h
  have ne:x≠y:=fun z=>hn.1 (z▸List.mem_of_getElem? h)
  simp[idxOf0,idxOf1,ne,idxOf_nth hn.2 h]
theorem mv_loop {n:Nat}{a:Int}{k:Nat}{a1:V}(ht:Tt h τ δ fs es r) {N:Fr→Hp→Prop}:∀{way:List Up}{m s:Int}{ks:List Int}{o4:Option V},WayOk h es W m s ks way→
  Q (.int (movN a m way)) h→(movN a m way=0→∀o3 o4,N (fc (.ref τ) (fc a1 (fc (.int a) (fc o3 (fo o4 (fz 0)))))) h)→lw (cn prog (n+1)) f10t1 f10b1 Q (k+1+way.length) (fc (.ref τ) (fc a1 (fc (.int a) (fc (.ref (W.ω m)) (fo o4 (fz 0)))))) h N:=by
 intro way
 induction way with
 | nil=>
  intro m s ks o4 hw hq hn
  obtain⟨wl,w1,w2⟩:=Wn.inst hw
  refine w_lw ?_
  refine w_attr w1 w2.par ?_
  exact w_some (w_nf rfl (hn rfl _ _))
 | cons u up ih=>
  intro m s ks o4 hw hq hn
  obtain⟨hw,hu,hm,hr⟩:=hw
  obtain⟨wl,w1,w2⟩:=hw.inst
  obtain⟨p',hu'⟩:=hr.wn
  obtain⟨ul,u1,u2⟩:=hu'.inst
  refine w_lw (n:=k+1+up.length) ?_
  refine w_attr w1 w2.par ?_
  refine w_some (w_nt hu ?_)
  refine w_attr ht.inst ht.win ?_
  refine w_attr w1 w2.par ?_
  refine w_dk ht.dict hu'.dk ?_
  refine w_attr u1 u2.sort ?_
  refine call0 ?_
  refine w_some (w_by (fun e=>?_) fun e=>?_)
  ·refine w_attr w1 w2.num ?_
   rwa[movN,mov1,if_pos e]at hq
  ·rw[movN,mov1,if_neg e]at hq hn
   exact ih hr hq hn
theorem call10 {n:Nat}{a:Int}{way:List Up}(ht:Tt h τ δ fs es r) (hw:WayOk h es W m s ks way) (hl:way.length<900) (hq:Q (.int (movN a m way)) h):callP prog (n+2) 10 [.ref τ,.int m,.int a] h Q Z:=by
 obtain⟨p',hm⟩:=hw.wn
 refine c10 ?_
 refine w_meth ht.inst (ht.meth 37 (by simp)) rfl ?_
 refine call42 ht hm ?_
 refine lw_more (1+way.length) (by rw[turns_eq];lia) ?_
 rw[← Nat.add_assoc]
 exact mv_loop ht hw hq fun e J J=>by rw[e]at hq;exact hq
theorem call11 {n:Nat}{u:Up}{p' s':Int}(ht:Tt h τ δ fs es r) (hw:Wn h es W m s u.m ks) (hu:Wn h es W u.m s' p' u.kids.roots) (hm:u.kids.roots[u.nth]?=some m) (hn:u.kids.roots.Nodup) (hl:u.kids.count<800) (hz:W.κ u.m≠0)
  (x:∀i h',h.length≤i→h'[i]?=some (.list ((giv u.kids.roots u.nth).map V.int))→Ro h h'→Q (.ref i) h'):callP prog (n+1) 11 [.ref τ,.int m] h Q Z:=by
 obtain⟨wl,w1,w2⟩:=hw.inst
 obtain⟨ul,u1,u2⟩:=hu.inst
 have hrl:=F.roots_length u.kids
 have hnl:=(List.getElem?_eq_some_iff.mp hm).1
 refine c11 ?_
 refine w_attr ht.inst ht.win ?_
 refine w_dk ht.dict hw.dk ?_
 refine w_attr ht.inst ht.win ?_
 refine w_attr w1 w2.par ?_
 refine w_dk ht.dict hu.dk ?_
 refine w_attr u1 u2.kids ?_
 refine w_ml hu.kids hz ?_ rfl
 refine w_idx hu.kids (intsOf_map _) (idxOf_nth hn hm) ?_
 refine w_ok ?_
 refine w_drop (n:=u.nth+1) hu.kids (by rw[lim_eq,List.length_map];lia) (by rw[big_eq];lia) fun i1 h1 l1 g1 o1=>?_
 refine w_take (o1.get hu.kids) (by rw[lim_eq,List.length_map];lia) (by rw[big_eq];lia) fun i2 h2 l2 g2 o2=>?_
 refine w_rev g2 (by rw[lim_eq,List.length_take,List.length_map];lia) fun i3 h3 l3 g3 o3=>?_
 have o13:=(o1.trans o2).trans o3
 refine w_cat ((o2.trans o3).get g1) g3 (by rw[lim_eq];simp;lia) fun i4 h4 l4 g4 o4=>?_
 exact x i4 h4 (Nat.le_trans o13.len l4) (by rw[g4];simp[giv,List.map_drop,List.map_take]) (o13.trans o4)
end
end Mine
namespace Mine
noncomputable def F.nodes:F→List (Int×Int×F)
 | .nil=>[]
 | .node m s k r=>(m,s,k)::(k.nodes++r.nodes)
theorem F.nodes0:F.nodes .nil=[]:=rfl
theorem F.nodes1 {m s k r}:F.nodes (.node m s k r)=(m,s,k)::(k.nodes++r.nodes):=rfl
theorem F.nodes_nums:∀f:F,f.nodes.map (·.1)=f.nums
 | .nil=>rfl
 | .node m s k r=>by simp[F.nodes0,F.nodes1,F.nums0,F.nums1,F.nodes_nums k,F.nodes_nums r]
noncomputable def F.one (x:Int×Int×F):F:=.node x.1 x.2.1 x.2.2 .nil
theorem nodes_num {f:F}{x:Int×Int×F}(h:x∈f.nodes):x.1∈f.nums:=by rw[← F.nodes_nums];exact List.mem_map_of_mem h
theorem num_node {f:F}{m:Int}(h:m∈f.nums):∃s k,(m,s,k)∈f.nodes:=by
 rw[← F.nodes_nums,List.mem_map]at h
 obtain⟨⟨m',s,k⟩,hm,rfl⟩:=h
 exact⟨s,k,hm⟩
theorem node_unique {f:F}(hn:f.nums.Nodup) {m s s':Int}{k k':F}(h:(m,s,k)∈f.nodes) (h':(m,s',k')∈f.nodes):s=s'∧k=k':=by
 rw[← F.nodes_nums]at hn
 have:∀(l:List (Int×Int×F)),(l.map (·.1)).Nodup→(m,s,k)∈l→(m,s',k')∈l→s=s'∧k=k':=by
  intro l
  induction l with
  | nil=>intro J h J;contradiction
  | cons x l ih=>
   intro hn h1 h2
   rw[List.map_cons,List.nodup_cons]at hn
   rcases List.mem_cons.mp h1 with q1 | q1<;>rcases List.mem_cons.mp h2 with q2 | q2
   ·rw[← q1]at q2;cases q2;exact⟨rfl,rfl⟩
   ·exact absurd (List.mem_map_of_mem (f:=(·.1)) q2) (by rw[← q1]at hn;exact hn.1)
   ·exact absurd (List.mem_map_of_mem (f:=(·.1)) q1) (by rw[← q2]at hn;exact hn.1)
   ·exact ih hn.2 q1 q2
 exact this _ hn h h'
section
variable {h h' h₀:Hp}{W:WS}{es:List (Int×V)}{fs:List (Nat×V)}{τ δ:Nat}{r m s p:Int}{ks:List Int}{own:Nat→Prop}{Z:Hp→Prop}{Q:V→Hp→Prop}
theorem Vw_iff:∀{f:F},Vw h es W f↔∀x∈f.nodes,∃p,Wn h es W x.1 x.2.1 p x.2.2.roots:=by
 intro J1
 induction J1 with
 | nil=>
  simp[Vw0,Vw1,F.nodes0,F.nodes1]
 | node m s k r J8 J9=>
  simp only[Vw0,Vw1,F.nodes0,F.nodes1,List.mem_cons,List.mem_append]
  rw[J8,J9]
  constructor
  ·rintro⟨a,b,c⟩ x (rfl | hx | hx)
   ·exact a
   ·exact b x hx
   ·exact c x hx
  ·intro a
   exact⟨a (m,s,k) (.inl rfl),fun x hx=>a x (.inr (.inl hx)),fun x hx=>a x (.inr (.inr hx))⟩
theorem nodes_sub:∀{f:F}{x:Int×Int×F},x∈f.nodes→∀y∈x.2.2.nodes,y∈f.nodes:=by
 intro J1
 induction J1 with
 | nil=>
  intro x hx J J
  cases hx
 | node m s k r J8 J9=>
  intro x hx y hy
  simp only[F.nodes0,F.nodes1,List.mem_cons,List.mem_append]at hx⊢
  rcases hx with rfl | hx | hx
  ·exact .inr (.inl hy)
  ·exact .inr (.inl (J8 hx y hy))
  ·exact .inr (.inr (J9 hx y hy))
theorem Vw.sub {f:F}(x:Vw h es W f) {g:F}(hs:∀y∈g.nodes,y∈f.nodes):Vw h es W g:=by
 rw[Vw_iff]at x⊢
 exact fun y hy=>x y (hs y hy)
theorem one_nodes {f:F}{x:Int×Int×F}(hx:x∈f.nodes):∀y∈(F.one x).nodes,y∈f.nodes:=by
 intro y hy
 simp only[F.one,F.nodes0,F.nodes1,List.append_nil,List.mem_cons]at hy
 rcases hy with rfl | hy
 ·exact hx
 ·exact nodes_sub hx y hy
theorem trees_nodes:∀{f t:F},t∈f.trees→∃x∈f.nodes,t=F.one x:=by
 intro J1
 induction J1 with
 | nil=>
  intro t h
  contradiction
 | node m s k r J8 J9=>
  intro t h
  simp only[F.trees0,F.trees1,List.mem_cons]at h
  rcases h with rfl | h
  ·exact⟨(m,s,k),by simp[F.nodes0,F.nodes1],rfl⟩
  ·obtain⟨x,hx,e⟩:=J9 h
   exact⟨x,by simp[F.nodes0,F.nodes1,hx],e⟩
theorem trees_nums:∀f:F,f.trees.flatMap F.nums=f.nums
 | .nil=>rfl
 | .node m s k r=>by simp[F.trees0,F.trees1,F.nums0,F.nums1,trees_nums r]
theorem Vw.apart {f g:F}(x:Vw h es W f) (y:Vw h es W g) (hd:∀a∈f.nums,a∉g.nums):∀a∈f.nums,¬Own W g (W.ω a)∧¬Own W g (W.κ a)∧¬Own W g (W.ε a):=by
 intro a ha
 obtain⟨_,_,_,wa⟩:=x.at ha
 refine⟨?_,?_,?_⟩
 ·rintro⟨b,hb,e⟩
  obtain⟨_,_,_,wb⟩:=y.at hb
  exact hd a ha (wa.inj wb e▸hb)
 ·rintro⟨b,hb,e⟩
  obtain⟨_,_,_,wb⟩:=y.at hb
  exact(wa.kne wb).1 e
 ·rintro⟨b,hb,e⟩
  obtain⟨_,_,_,wb⟩:=y.at hb
  exact(wa.kne wb).2 e
theorem Tt.apart {g:F}(x:Tt h τ δ fs es r) (y:Vw h es W g):¬Own W g τ∧¬Own W g δ:=by
 refine⟨?_,?_⟩
 ·rintro⟨b,hb,e⟩
  obtain⟨_,_,_,wb⟩:=y.at hb
  exact(x.tne wb).1 e
 ·rintro⟨b,hb,e⟩
  obtain⟨_,_,_,wb⟩:=y.at hb
  exact(x.tne wb).2 e
theorem list_apart {g:F}{j:Nat}{vs:List V}(y:Vw h es W g) (e:h[j]?=some (.list vs)):¬Own W g j:=by
 rintro⟨b,hb,e'⟩
 obtain⟨_,_,_,wb⟩:=y.at hb
 exact wb.ne_list e e'.symm
noncomputable def lead (a:Int) (t:F):Int:=(least a t).headD 0
theorem spare_trees (a:Int) (σ:Int→Int→Int):∀f:F,spareF a σ f=f.trees.map fun t=>σ t.head a-lead a t
 | .nil=>rfl
 | .node m s k r=>by rw[spareF1,F.trees1,List.map_cons,F.head,lead,spare_trees a σ r]
structure TOk (h:Hp) (es:List (Int×V)) (W:WS) (a:Int) (t:F):Prop where
 vw:Vw h es W t
 full:Full t
 nd:t.nums.Nodup
 fit:Fit a W.σ t
 few:t.count<500
 one:∃x,t=F.one x
theorem TOk.ro {a:Int}{t:F}(x:TOk h es W a t) (q:Ro h h'):TOk h' es W a t:=⟨x.vw.ro q,x.full,x.nd,x.fit,x.few,x.one⟩
noncomputable def newS (a:Int) (σ:Int→Int→Int):Int→List F→List Int
 | _,[]=>[]
 | left,t::ts=>(σ t.head a-(if left>0 then min left (σ t.head a-lead a t)else left))::newS a σ (left-(if left>0 then min left (σ t.head a-lead a t)else left)) ts
theorem newS0 {a σ l}:newS a σ l []=[]:=rfl
theorem newS1 {a σ left t ts}:newS a σ left (t::ts)=(σ t.head a-(if left>0 then min left (σ t.head a-lead a t)else left))::newS a σ (left-(if left>0 then min left (σ t.head a-lead a t)else left)) ts:=rfl
theorem newS_congr {a:Int}{σ σ':Int→Int→Int}:∀{ts:List F}{left:Int},(∀t∈ts,σ' t.head a=σ t.head a)→newS a σ' left ts=newS a σ left ts:=by
 intro J1
 induction J1 with
 | nil=>
  intro J J
  exact rfl
 | cons t ts J8=>
  intro left e
  simp only[newS0,newS1]
  rw[e t (.head _),J8 fun t' ht'=>e t' (.tail _ ht')]
theorem TOk.wn {a:Int}{t:F}(x:TOk h es W a t):∃s p ks,Wn h es W t.head s p ks:=by
 obtain⟨y,rfl⟩:=x.one
 obtain⟨p,w⟩:=x.vw.1
 exact⟨_,_,_,w⟩
theorem call6t {n:Nat}{a:Int}{t:F}(ht:Tt h τ δ fs es r) (x:TOk h es W a t) (k:∀h',Ro h h'→Q (.int (lead a t)) h'):callP prog (n+2) 6 [.ref τ,.int t.head,.int a] h Q Z:=by
 obtain⟨y,rfl⟩:=x.one
 exact call6 ht x.vw x.full x.nd (by have:=x.few;simp only[F.one,F.count0,F.count1]at this;lia) k
theorem call8t {n:Nat}{a size:Int}{t:F}{l0:List V}(ha:a=0∨a=1) (ht:Tt h τ δ fs es r) (x:TOk h es W a t) (h1:lead a t≤size) (h2:size≤1000) (z0:h[0]?=some (.list l0))
  (k:∀h' σ',Ch (Own W t) h h'→Vw h' es (W.sz σ') t→SetF a W.σ σ' t [size]→(∀x,x∉t.nums→∀z,σ' x z=W.σ x z)→Q .none h'):callP prog (n+3) 8 [.ref τ,.int t.head,.int a,.int size] h Q Z:=by
 have few:=x.few
 obtain⟨y,rfl⟩:=x.one
 exact call8 (n:=n) ha ht x.vw x.full x.nd x.fit h1 h2 (by simp only[F.one,F.count0,F.count1]at few;lia) z0 k
theorem give_all {n:Nat}{a:Int}{h₁:Hp}{fr:Fr}(ht:Tt h₁ τ δ fs es r) (ha:a=0∨a=1) (f0:fr[0]?.join=some (.ref τ)) (f2:fr[2]?.join=some (.int a)):∀{ts:List F},(∀t∈ts,TOk h₁ es W a t)→
  All2 (fun x y=>∀H,Ro h₁ H→∀K:Kt,(∀h',Ro h₁ h'→K fr h' [y])→go (cn prog (n+2)) (pC [x]) K f12e1 fr H []) (ts.map fun t=>V.int t.head) (ts.map fun t=>V.int (W.σ t.head a-lead a t)):=by
 intro ts
 induction ts with
 | nil=>intro J;exact .nil
 | cons t ts ih=>
  intro ok
  refine .cons (fun H ro K k=>?_) (ih fun t' h'=>ok t' (.tail _ h'))
  have x:=(ok t (.head _)).ro ro
  obtain⟨_,_,_,w⟩:=x.wn
  obtain⟨ws,w1,w2⟩:=w.inst
  have ht':=ht.ro ro
  refine w_v f0 ?_
  refine w_attr ht'.inst ht'.win ?_
  refine w_dk ht'.dict w.dk ?_
  refine w_meth w1 (w2.meth 35 (by decide)) rfl ?_
  refine w_v f2 ?_
  refine call35 w ha ?_
  refine w_v f0 ?_
  refine w_v f2 ?_
  exact call6t (n:=n) ht' x fun h' q=>w_ok (k h' (ro.trans q))
theorem call12 {n:Nat}{a:Int}{u:Up}{p' s':Int}(ha:a=0∨a=1) (ht:Tt h τ δ fs es r) (hw:Wn h es W m s u.m ks) (hu:Wn h es W u.m s' p' u.kids.roots) (hm:u.kids.roots[u.nth]?=some m) (hn:u.kids.roots.Nodup) (hl:u.kids.count<800) (hz:W.κ u.m≠0) (ok:∀t∈u.kids.trees,TOk h es W a t)
  (x:∀h',Ro h h'→Q (.int (giv (spareF a W.σ u.kids) u.nth).sum) h'):callP prog (n+3) 12 [.ref τ,.int m,.int a] h Q Z:=by
 have hrl:=F.roots_length u.kids
 have htl:=F.trees_length u.kids
 have hgl:=giv_length (l:=u.kids.trees) (n:=u.nth) (by rw[htl];exact(List.getElem?_eq_some_iff.mp hm).1)
 refine c12 ?_
 refine call11 (n:=n+1) ht hw hu hm hn hl hz fun i h1 li gi o1=>?_
 refine w_it gi ?_
 have A:=give_all (n:=n) (a:=a) (fr:=(fc (.ref τ) (fc (.int m) (fc (.int a) (fz 0))))) (ht.ro o1) ha rfl rfl (ts:=giv u.kids.trees u.nth) fun t ht'=>(ok t (giv_mem ht')).ro o1
 have e1:(giv u.kids.trees u.nth).map (fun t=>V.int t.head)=(giv u.kids.roots u.nth).map V.int:=by rw[← F.trees_roots,giv_map];simp
 have e2:(giv u.kids.trees u.nth).map (fun t=>V.int (W.σ t.head a-lead a t))=(giv (spareF a W.σ u.kids) u.nth).map V.int:=by rw[spare_trees,giv_map];simp
 have l1:((giv u.kids.roots u.nth).map V.int).length<800:=by rw[← e1,List.length_map];lia
 have l2:((giv (spareF a W.σ u.kids) u.nth).map V.int).length<800:=by rw[← e2,List.length_map];lia
 rw[e1,e2]at A
 refine comp_map (fun H=>Ro h1 H) A (pre:=[]) (fun H ro=>ro.get gi) .refl (by rw[turns_eq];exact Nat.lt_of_lt_of_le (by assumption) (by simp)) fun h2 o2=>?_
 refine w_list (by rw[lim_eq];show List.length _≤_;simp only[List.nil_append];lia) fun j h3 lj gj o3=>?_
 exact w_sum gj (x h3 ((o1.trans o2).trans o3))
theorem rz_loop {n:Nat}{a:Int}{i k:Nat}{a1 a3 a4 a5:V}{l0:List V}{N:Fr→Hp→Prop}{T:V→Hp→Prop}(ha:a=0∨a=1):∀{ts:List F}{W:WS}{pre:List V}{q:Nat}{left:Int}{h:Hp}{o7 o8 o9:Option V},q=pre.length→
  Tt h τ δ fs es r→h[i]?=some (.list (pre++ts.map fun t=>V.int t.head))→(∀t∈ts,TOk h es W a t)→(ts.flatMap F.nums).Nodup→h[0]?=some (.list l0)→(∀t∈ts,W.σ t.head a≤500)→-400≤left→
  (∀h' σ' left' o7 o8 o9,Ch (fun j=>∃t∈ts,Own W t j) h h'→(∀t∈ts,Vw h' es (W.sz σ') t)→All2 (fun t b=>SetF a W.σ σ' t [b]) ts (newS a W.σ left ts)→(∀x,x∉ts.flatMap F.nums→∀y,σ' x y=W.σ x y)→
   lf1 (cn prog (n+3)) 7 f13b1 T k (.seq i (q+ts.length)) (fc (.ref τ) (fc a1 (fc (.int a) (fc a3 (fc a4 (fc a5 (fc (.int left') (fo o7 (fo o8 (fo o9 (fz 0))))))))))) h' N)→
  lf1 (cn prog (n+3)) 7 f13b1 T (k+ts.length) (.seq i q) (fc (.ref τ) (fc a1 (fc (.int a) (fc a3 (fc a4 (fc a5 (fc (.int left) (fo o7 (fo o8 (fo o9 (fz 0))))))))))) h N:=by
 intro ts
 induction ts with
 | nil=>
  intro W pre q left h o7 o8 o9 hq ht gi ok hnd z0 hs hl next
  exact next h W.σ left o7 o8 o9 .refl (fun t h=>(by contradiction)) .nil fun J J J=>rfl
 | cons t ts ih=>
  intro W pre q left h o7 o8 o9 hq ht gi ok hnd z0 hs hl next
  have x:=ok t (.head _)
  obtain⟨_,_,_,w⟩:=x.wn
  obtain⟨ws,w1,w2⟩:=w.inst
  have f1:lead a t≤W.σ t.head a∧W.σ t.head a≤1000:=by
   have fit:=x.fit
   obtain⟨y,rfl⟩:=x.one
   exact fit.1
  have s1:=hs t (.head _)
  rw[List.flatMap_cons,List.nodup_append]at hnd
  have nd1:=hnd.1;have nd2:=hnd.2.1;have disj:=hnd.2.2
  have dj:∀t'∈ts,∀b∈t.nums,b∉t'.nums:=fun t' ht' b hb hb'=>disj b hb b (List.mem_flatMap.mpr ⟨t',ht',hb'⟩) rfl
  refine w_f1 (n:=k+ts.length) (v:=.int t.head) (next_seq gi (by simp[hq])) ?_
  refine w_attr ht.inst ht.win ?_
  refine w_dk ht.dict w.dk ?_
  refine w_meth w1 (w2.meth 35 (by decide)) rfl ?_
  refine call35 w ha ?_
  have tail:∀(part:Int) (h1:Hp),Ro h h1→part=(if left>0 then min left (W.σ t.head a-lead a t)else left)→
   go (cn prog (n+3)) (pL T) (k1 (cn prog (n+3)) 7 f13b1 T (k+ts.length) (.seq i (q+1)) N) f13b1r (fc (.ref τ) (fc a1 (fc (.int a) (fc a3 (fc a4 (fc a5 (fc (.int left) (fc (.int t.head) (fc (.int (W.σ t.head a)) (fc (.int part) (fz 0))))))))))) h1 []:=by
   intro part h1 ro1 hp
   have x1:=x.ro ro1
   have hpart:-400≤left-part∧lead a t≤W.σ t.head a-part∧W.σ t.head a-part≤1000:=by
    rw[hp]
    split<;>lia
   refine w_ok ?_
   refine call8t (n:=n) ha (ht.ro ro1) x1 hpart.2.1 hpart.2.2 (ro1.get z0) fun h2 σ2 ch2 vw2 set2 out2=>?_
   refine w_ok ?_
   have ch02:Ch (Own W t) h h2:=(Ro.any ro1).trans ch2
   have ta:=ht.apart x.vw
   have eq2:∀t'∈ts,∀b∈t'.nums,∀z,σ2 b z=W.σ b z:=fun t' ht' b hb=>out2 b fun hb'=>dj t' ht' b hb' hb
   have ok2:∀t'∈ts,TOk h2 es (W.sz σ2) a t':=fun t' ht'=>by
    have x':=ok t' (.tail _ ht')
    exact⟨x'.vw.ch ch02 (x'.vw.apart x.vw fun b hb hb'=>dj t' ht' b hb' hb) (eq2 t' ht'),x'.full,x'.nd,x'.fit.congr (eq2 t' ht'),x'.few,x'.one⟩
   have hhead:∀t'∈ts,σ2 t'.head a=W.σ t'.head a:=fun t' ht'=>eq2 t' ht' _ (by
    obtain⟨y',hy'⟩:=(ok t' (.tail _ ht')).one
    rw[hy'];exact .head _) a
   refine ih (W:=W.sz σ2) (pre:=pre++[.int t.head]) (left:=left-part) (by simp[hq]) (ht.ch ch02 ta.1 ta.2) (by rw[ch02.keep _ _ gi (.inl (list_apart x.vw gi))];simp) ok2 nd2 (ch02.keep _ _ z0 (.inl (list_apart x.vw z0))) (fun t' ht'=>Int.le_trans (Int.le_of_eq (hhead t' ht')) (hs t' (.tail _ ht'))) hpart.1 fun h3 σ3 left' p7 p8 p9 ch3 vw3 set3 out3=>?_
   have eqt:∀b∈t.nums,∀z,σ3 b z=σ2 b z:=fun b hb=>out3 b fun q=>disj b hb b q rfl
   have vw2':Vw h3 es (W.sz σ3) t:=vw2.ch ch3 (fun b hb=>⟨fun J2=>J2.elim fun t' J3=>J3.elim fun h' e=>(vw2.apart (ok2 t' h').vw (dj t' h') b hb).1 e,fun J4=>J4.elim fun t' J5=>J5.elim fun h' e=>(vw2.apart (ok2 t' h').vw (dj t' h') b hb).2.1 e,fun J6=>J6.elim fun t' J7=>J7.elim fun h' e=>(vw2.apart (ok2 t' h').vw (dj t' h') b hb).2.2 e⟩) eqt
   have nx:=next h3 σ3 left' p7 p8 p9 ((Ch.mem ch02 fun j z=>⟨t,.head _,z⟩).trans (Ch.mem ch3 fun j z=>let⟨t',ht',z⟩:=z;⟨t',.tail _ ht',z⟩)) (fun t' ht'=>(List.mem_cons.mp ht').elim (fun e=>e▸vw2') (vw3 t')) ?_ (fun b hb z=>by
    rw[List.flatMap_cons,List.mem_append,not_or]at hb
    exact(out3 b hb.2 z).trans (out2 b hb.1 z))
   ·rw[List.length_cons,← Nat.add_assoc,Nat.add_right_comm]at nx
    exact nx
   ·show All2 _ _ ((W.σ t.head a-_)::newS a W.σ (left-_) ts)
    rw[← hp]
    refine .cons (set2.congr (fun J J J=>rfl) eqt) ?_
    rw[← newS_congr (σ':=σ2) hhead]
    have:∀(l:List F) (bs:List Int),(∀t'∈l,t'∈ts)→All2 (fun t b=>SetF a (W.sz σ2).σ σ3 t [b]) l bs→All2 (fun t b=>SetF a W.σ σ3 t [b]) l bs:=by
     intro l bs hm q
     induction q with
     | nil=>exact .nil
     | cons q1 J ih=>exact .cons (q1.congr (fun b hb z=>(eq2 _ (hm _ (.head _)) b hb z).symm) fun J J J=>rfl) (ih fun t' h'=>hm t' (.tail _ h'))
    exact this ts _ (fun J h=>h) set3
  refine w_some (w_by (fun e=>?_) fun e=>?_)
  ·refine call6t (n:=n+1) ht x fun h1 o1=>?_
   refine w_ok (w_ok ?_)
   exact tail _ h1 o1 (by rw[if_pos e])
  ·exact tail _ h .refl (by rw[if_neg e])
end
end Mine
namespace Mine
section
variable {h h' h₀:Hp}{W:WS}{es:List (Int×V)}{fs:List (Nat×V)}{τ δ:Nat}{r m s p:Int}{ks:List Int}{own:Nat→Prop}{Z:Hp→Prop}{Q:V→Hp→Prop}
theorem Vw_asm {F0 K:F}{σ':Int→Int→Int}(v:Vw h es W F0) (hn:F0.nums.Nodup) (sub:∀y∈K.nodes,y∈F0.nodes) (ch:Ch (Own W K) h h') (vt:∀t∈K.trees,Vw h' es (W.sz σ') t) (out:∀x,x∉K.nums→∀y,σ' x y=W.σ x y):Vw h' es (W.sz σ') F0:=by
 have vK:Vw h es W K:=v.sub sub
 rw[Vw_iff]at v⊢
 intro y hy
 by_cases hk:y.1∈K.nums
 ·rw[← trees_nums,List.mem_flatMap]at hk
  obtain⟨t,ht,hyt⟩:=hk
  obtain⟨s',k',hsk⟩:=num_node hyt
  obtain⟨x,hx,rfl⟩:=trees_nodes ht
  have h1:=sub _ (one_nodes hx _ hsk)
  have hy':(y.1,y.2.1,y.2.2)∈F0.nodes:=hy
  have J:=node_unique hn hy' h1;have e1:=J.1;have e2:=J.2
  have:=Vw_iff.mp (vt _ ht) _ hsk
  rw[e1,e2]
  exact this
 ·obtain⟨p,w⟩:=v y hy
  refine⟨p,w.ch ch ?_ ?_ ?_ (out y.1 hk)⟩
  ·rintro⟨b,hb,e⟩
   obtain⟨_,_,_,wb⟩:=vK.at hb
   exact hk (w.inj wb e▸hb)
  ·rintro⟨b,hb,e⟩
   obtain⟨_,_,_,wb⟩:=vK.at hb
   exact(w.kne wb).1 e
  ·rintro⟨b,hb,e⟩
   obtain⟨_,_,_,wb⟩:=vK.at hb
   exact(w.kne wb).2 e
noncomputable def Rz (a:Int) (σ σ':Int→Int→Int) (K:F) (nth:Nat) (delta:Int):Prop:=
 All2 (fun t b=>SetF a σ σ' t [b]) (giv K.trees nth) (newS a σ delta (giv K.trees nth))∧∃t0,K.trees[nth]?=some t0∧SetF a σ σ' t0 [σ t0.head a+delta]
theorem mov_ok {a:Int}:∀{way:List Up}{m s:Int}{ks:List Int}{x:Int}{u:Up},WayOk h es W m s ks way→mov a m way=some (x,u)→(∃s' ks',Wn h es W x s' u.m ks')∧u.m≠0∧u.kids.roots[u.nth]?=some x∧(∃p,Wn h es W u.m u.s p u.kids.roots)∧along u.s=a∧u∈way:=by
 intro J1
 induction J1 with
 | nil=>
  intro m s ks x u hw e
  contradiction
 | cons v up J8=>
  rintro m s ks x u ⟨h1,h2,h3,h4⟩ e
  simp only[mov0,mov1]at e
  split at e
  ·cases e
   exact⟨⟨s,ks,h1⟩,h2,h3,h4.wn,by assumption,.head _⟩
  ·have J:=J8 h4 e;have q1:=J.1;have q2:=J.2.1;have q3:=J.2.2.1;have q4:=J.2.2.2.1;have q5:=J.2.2.2.2.1;have q6:=J.2.2.2.2.2
   exact⟨q1,q2,q3,q4,q5,.tail _ q6⟩
theorem giv_perm {α:Type}:∀{l:List α}{n:Nat}{x:α},l[n]?=some x→(x::giv l n).Perm l
 | [],n,x,h=>by simp at h
 | y::l,0,x,h=>by simp at h;subst h;simp[giv]
 | y::l,n+1,x,h=>by
  simp at h
  have ih:=giv_perm h
  have e:giv (y::l) (n+1)=giv l n++[y]:=by simp[giv]
  rw[e]
  have:(x::(giv l n++[y])).Perm (y::x::giv l n):=by
   have h1:(x::(giv l n++[y]))=(x::giv l n)++[y]:=rfl
   rw[h1]
   exact List.perm_append_comm
  exact this.trans (ih.cons y)
theorem roots_trees {K:F}{n:Nat}{x:Int}(h:K.roots[n]?=some x):∃t,K.trees[n]?=some t∧t.head=x:=by
 rw[← F.trees_roots,List.getElem?_map]at h
 cases q:K.trees[n]? with
 | none=>rw[q]at h;contradiction
 | some t=>rw[q]at h;exact⟨t,rfl,by simpa using h⟩
structure Gr (h:Hp) (τ δ:Nat) (fs:List (Nat×V)) (es:List (Int×V)) (W:WS) (a:Int) (F0:F) (m s:Int) (ks:List Int) (way:List Up):Prop where
 tt:Tt h τ δ fs es F0.head
 vw:Vw h es W F0
 one:∃x,F0=F.one x
 full:Full F0
 nd:F0.nums.Nodup
 fit:Fit a W.σ F0
 few:F0.count<100
 low:∀x∈F0.nums,∀y,W.σ x y≤500
 pos:∀x∈F0.nums,x≠0
 wok:WayOk h es W m s ks way
 ups:∀u∈way,(u.m,u.s,u.kids)∈F0.nodes
 ax:a=0∨a=1
 z0:∃l0,h[0]?=some (.list l0)
 kz:∀x∈F0.nums,W.κ x≠0
theorem Full.nodes:∀{f:F},Full f→∀x∈f.nodes,Full (F.one x):=by
 intro J1
 induction J1 with
 | nil=>
  intro J x hx
  contradiction
 | node m s k r J8 J9=>
  rintro⟨a,b,c⟩ x hx
  simp only[F.nodes0,F.nodes1,List.mem_cons,List.mem_append]at hx
  rcases hx with rfl | hx | hx
  ·exact⟨a,b,trivial⟩
  ·exact J8 b x hx
  ·exact J9 c x hx
theorem Fit.nodes {a:Int}{σ:Int→Int→Int}:∀{f:F},Fit a σ f→∀x∈f.nodes,Fit a σ (F.one x):=by
 intro J1
 induction J1 with
 | nil=>
  intro J x hx
  cases hx
 | node m s k r J8 J9=>
  rintro⟨q,b,c⟩ x hx
  simp only[F.nodes0,F.nodes1,List.mem_cons,List.mem_append]at hx
  rcases hx with rfl | hx | hx
  ·exact⟨q,b,trivial⟩
  ·exact J8 b x hx
  ·exact J9 c x hx
theorem F.count_nodes:∀{f:F},∀x∈f.nodes,(F.one x).count≤f.count:=by
 intro J1
 induction J1 with
 | nil=>
  intro x hx
  contradiction
 | node m s k r J8 J9=>
  intro x hx
  simp only[F.nodes0,F.nodes1,List.mem_cons,List.mem_append]at hx
  rcases hx with rfl | hx | hx
  ·simp only[F.one,F.count0,F.count1];lia
  ·have:=J8 x hx;simp only[F.count0,F.count1];lia
  ·have:=J9 x hx;simp only[F.count0,F.count1];lia
theorem F.nd_nodes:∀{f:F},f.nums.Nodup→∀x∈f.nodes,(F.one x).nums.Nodup:=by
 intro J1
 induction J1 with
 | nil=>
  intro J x hx
  contradiction
 | node m s k r J8 J9=>
  intro hn x hx
  rw[F.nums1,List.nodup_cons,List.mem_append,not_or,List.nodup_append]at hn
  simp only[F.nodes0,F.nodes1,List.mem_cons,List.mem_append]at hx
  rcases hx with rfl | hx | hx
  ·simp only[F.one,F.nums0,F.nums1,List.append_nil,List.nodup_cons]
   exact⟨hn.1.1,hn.2.1⟩
  ·exact J8 hn.2.1 x hx
  ·exact J9 hn.2.2.1 x hx
structure Dd (h:Hp) (es:List (Int×V)) (W:WS) (a:Int) (F0:F) (x:Int) (u:Up) (t0:F):Prop where
 wx:∃s' ks',Wn h es W x s' u.m ks'
 ne:u.m≠0
 rt:u.kids.roots[u.nth]?=some x
 wu:∃p,Wn h es W u.m u.s p u.kids.roots
 al:along u.s=a
 sub:∀y∈u.kids.nodes,y∈F0.nodes
 tn:u.kids.trees[u.nth]?=some t0
 hd:t0.head=x
 tok:∀t∈u.kids.trees,TOk h es W a t
 nd:u.kids.nums.Nodup
 nr:u.kids.roots.Nodup
 few:u.kids.count<100
 kz:W.κ u.m≠0
 xz:x≠0
 low:∀t∈u.kids.trees,W.σ t.head a≤500
theorem roots_sub:∀{f:F},f.roots.Sublist f.nums
 | .nil=>List.Sublist.refl _
 | .node m s k r=>by
  simp only[F.roots0,F.roots1,F.nums0,F.nums1]
  exact(roots_sub.trans (List.sublist_append_right _ _)).cons_cons m
theorem Gr.dd {a:Int}{F0:F}{way:List Up}{x:Int}{u:Up}(g:Gr h τ δ fs es W a F0 m s ks way) (e:mov a m way=some (x,u)):∃t0,Dd h es W a F0 x u t0:=by
 obtain⟨q1,q2,q3,q4,q5,q6⟩:=mov_ok g.wok e
 obtain⟨t0,t1,t2⟩:=roots_trees q3
 have hu:=g.ups u q6
 have one:=F.nd_nodes g.nd _ hu
 simp only[F.one,F.nums0,F.nums1,List.append_nil,List.nodup_cons]at one
 have sub:∀y∈u.kids.nodes,y∈F0.nodes:=nodes_sub hu
 have cnt:=F.count_nodes _ hu
 simp only[F.one,F.count0,F.count1]at cnt
 have hx:x∈F0.nums:=by
  have:x∈u.kids.nums:=roots_sub.subset (List.mem_of_getElem? q3)
  obtain⟨s1,k1,h1⟩:=num_node this
  exact nodes_num (sub _ h1)
 have few:=g.few
 refine⟨t0,q1,q2,q3,q4,q5,sub,t1,t2,fun t ht=>?_,one.2,roots_sub.nodup one.2,by exact Nat.lt_trans (by assumption) (by assumption),g.kz _ (nodes_num hu),g.pos _ hx,fun t ht=>?_⟩
 ·obtain⟨y,hy,rfl⟩:=trees_nodes ht
  have hy0:=sub y hy
  have c:=F.count_nodes _ hy0
  exact⟨g.vw.sub (one_nodes hy0),g.full.nodes y hy0,F.nd_nodes g.nd y hy0,g.fit.nodes y hy0,by lia,⟨y,rfl⟩⟩
 ·obtain⟨y,hy,rfl⟩:=trees_nodes ht
  exact g.low _ (nodes_num (sub y hy)) a
theorem Gr.ro {a:Int}{F0:F}{way:List Up}(g:Gr h τ δ fs es W a F0 m s ks way) (q:Ro h h'):Gr h' τ δ fs es W a F0 m s ks way:=
 ⟨g.tt.ro q,g.vw.ro q,g.one,g.full,g.nd,g.fit,g.few,g.low,g.pos,by
  have:∀{way:List Up} {m s:Int} {ks:List Int},WayOk h es W m s ks way→WayOk h' es W m s ks way:=by
   intro way
   induction way with
   | nil=>intro m s ks w;exact Wn.ro w q
   | cons u up ih=>intro m s ks ⟨h1,h2,h3,h4⟩;exact⟨h1.ro q,h2,h3,ih h4⟩
  exact this g.wok,g.ups,g.ax,let⟨l,hl⟩:=g.z0;⟨l,q.get hl⟩,g.kz⟩
theorem Dd.ro {a:Int}{F0 t0:F}{x:Int}{u:Up}(d:Dd h es W a F0 x u t0) (q:Ro h h'):Dd h' es W a F0 x u t0:=
 ⟨let⟨s',ks',w⟩:=d.wx;⟨s',ks',w.ro q⟩,d.ne,d.rt,let⟨p,w⟩:=d.wu;⟨p,w.ro q⟩,d.al,d.sub,d.tn,d.hd,fun t ht=>(d.tok t ht).ro q,d.nd,d.nr,d.few,d.kz,d.xz,d.low⟩
theorem call12d {n:Nat}{a:Int}{F0 t0:F}{x:Int}{u:Up}(ha:a=0∨a=1) (ht:Tt h τ δ fs es r) (d:Dd h es W a F0 x u t0) (k:∀h',Ro h h'→Q (.int (giv (spareF a W.σ u.kids) u.nth).sum) h') :
  callP prog (n+3) 12 [.ref τ,.int x,.int a] h Q Z:=by
 obtain⟨s',ks',w⟩:=d.wx
 obtain⟨p,wu⟩:=d.wu
 exact call12 ha ht w wu d.rt d.nr (by have:=d.few;exact Nat.lt_of_lt_of_le (by assumption) (by decide)) d.kz d.tok k
noncomputable def refused (a:Int) (σ:Int→Int→Int) (u:Up) (t0:F) (x delta:Int):Prop:=delta>(giv (spareF a σ u.kids) u.nth).sum∨σ x a+delta<lead a t0
theorem call13n {n:Nat}{a delta:Int}{F0:F}{way:List Up}(g:Gr h τ δ fs es W a F0 m s ks way) (hl:way.length<900) (e:mov a m way=none) (x:∀h',Ro h h'→Z h'):callP prog (n+4) 13 [.ref τ,.int m,.int a,.int delta] h Q Z:=by
 refine c13 ?_
 refine call10 (n:=n+1) g.tt g.wok hl ?_
 refine w_some (w_t (by rw[movN,e]) ?_)
 exact w_list (by rw[lim_eq];simp) fun J h1 J J o1=>x h1 o1
theorem call13r {n:Nat}{a delta:Int}{F0 t0:F}{way:List Up}{x:Int}{u:Up}(g:Gr h τ δ fs es W a F0 m s ks way) (hl:way.length<900) (e:mov a m way=some (x,u)) (d:Dd h es W a F0 x u t0)
  (hr:refused a W.σ u t0 x delta→∀h',Ro h h'→Z h') (hg:¬refused a W.σ u t0 x delta→-400≤delta∧W.σ x a+delta≤1000∧∀h' σ' π',Vw h' es ((W.sz σ').pl π') F0→Rz a W.σ σ' u.kids u.nth delta→(∀y,y∉u.kids.nums→∀z,σ' y z=W.σ y z)→PlS σ' π' F0 [(0,0)]→Ch (Own W F0) h h'→Q .none h') :
  callP prog (n+4) 13 [.ref τ,.int m,.int a,.int delta] h Q Z:=by
 have ha:=g.ax
 obtain⟨l0,z0⟩:=g.z0
 obtain⟨s',ks',wx⟩:=d.wx
 obtain⟨xl,x1,x2⟩:=wx.inst
 have t0m:=List.mem_of_getElem? d.tn
 have mv:movN a m way=x:=by rw[movN,e]
 have hd:=d.hd
 refine c13 ?_
 refine call10 (n:=n+1) g.tt g.wok hl ?_
 rw[mv]
 refine w_some (w_f d.xz ?_)
 refine w_attr g.tt.inst g.tt.win ?_
 refine w_dk g.tt.dict wx.dk ?_
 refine call12d (n:=n) ha g.tt d fun h1 o1=>?_
 refine w_some (w_by (fun r1=>w_tt ?_) fun r1=>?_)
 ·exact w_list (by rw[lim_eq];simp) fun J h2 J J o2=>hr (.inl r1) h2 (o1.trans o2)
 refine w_meth (o1.get x1) (x2.meth 35 (by decide)) rfl ?_
 refine call35 (wx.ro o1) ha (w_ok ?_)
 have c6:∀{K:V→Hp→Prop} {Z:Hp→Prop},(∀h',Ro h1 h'→K (.int (lead a t0)) h')→callP prog (n+3) 6 [.ref τ,.int x,.int a] h1 K Z:=by
  rw[← hd]
  exact fun k=>call6t (n:=n+1) (g.tt.ro o1) ((d.tok t0 t0m).ro o1) k
 refine c6 fun h2 o2=>?_
 have o12:=o1.trans o2
 refine w_some (w_by (fun r2=>w_tt ?_) fun r2=>w_ff ?_)
 ·exact w_list (by rw[lim_eq];simp) fun J h3 J J o3=>hr (.inr r2) h3 (o12.trans o3)
 obtain⟨h4,hs1,hq⟩:=hg fun q=>q.elim r1 r2
 have d2:=d.ro o12
 have ht2:=g.tt.ro o12
 have hrl:=F.roots_length u.kids
 have htl:=F.trees_length u.kids
 have hgl:=giv_length (l:=u.kids.trees) (n:=u.nth) (by rw[htl];exact(List.getElem?_eq_some_iff.mp d.rt).1)
 have few:=d.few
 obtain⟨p1,wu1⟩:=d2.wu
 refine call11 (n:=n+2) ht2 (wx.ro o12) wu1 d.rt d.nr (by exact Nat.lt_of_lt_of_le (by assumption) (by decide)) d.kz fun i h3 li gi o3=>?_
 refine w_it gi ?_
 have e1:(giv u.kids.roots u.nth).map V.int=(giv u.kids.trees u.nth).map (fun t=>V.int t.head):=by rw[← F.trees_roots,giv_map];simp
 rw[e1]at gi
 have perm:=giv_perm d.tn
 have ndall:((t0::giv u.kids.trees u.nth).flatMap F.nums).Nodup:=by
  rw[(perm.flatMap_right F.nums).nodup_iff,trees_nums];exact d.nd
 rw[List.flatMap_cons,List.nodup_append]at ndall
 have nd0:=ndall.1;have ndg:=ndall.2.1;have disj:=ndall.2.2
 have o13:=o12.trans o3
 have tok3:∀t∈u.kids.trees,TOk h3 es W a t:=fun t ht=>(d.tok t ht).ro o13
 have ht3:=g.tt.ro o13
 have tokg:∀t∈giv u.kids.trees u.nth,TOk h3 es W a t:=fun t ht=>tok3 t (giv_mem ht)
 have dj:∀t∈giv u.kids.trees u.nth,∀b∈t0.nums,b∉t.nums:=fun t ht b hb hb'=>disj b hb b (List.mem_flatMap.mpr ⟨t,ht,hb'⟩) rfl
 refine lf1_more (1+(giv u.kids.trees u.nth).length) (by rw[turns_eq];lia) ?_
 rw[← Nat.add_assoc]
 refine rz_loop (n:=n) (i:=i) ha (ts:=giv u.kids.trees u.nth) (pre:=[]) (left:=delta) rfl ht3 gi tokg ndg (o13.get z0) (fun t ht=>d.low t (giv_mem ht)) h4 fun h5 σ3 left' o7 o8 o9 ch3 vw3 set3 out3=>?_
 have ow3:∀{j:Nat} {vs:List V},h3[j]?=some (.list vs)→h5[j]?=some (.list vs):=fun q=>ch3.keep _ _ q (.inl fun J6=>J6.elim fun t J7=>J7.elim fun ht z=>list_apart (tokg t ht).vw q z)
 refine w_f1e (end_seq (ow3 gi) (by simp)) ?_
 have ht5:=ht3.ch ch3 (fun⟨t,ht,z⟩=>(ht3.apart (tokg t ht).vw).1 z) fun⟨t,ht,z⟩=>(ht3.apart (tokg t ht).vw).2 z
 have eq0:∀b∈t0.nums,∀z,σ3 b z=W.σ b z:=fun b hb=>out3 b fun q=>disj b hb b q rfl
 have tok0:=tok3 t0 t0m
 have tok5:TOk h5 es (W.sz σ3) a t0:=⟨tok0.vw.ch ch3 (fun b hb=>⟨fun J5=>J5.elim fun t J6=>J6.elim fun ht q=>(tok0.vw.apart (tokg t ht).vw (dj t ht) b hb).1 q,fun J7=>J7.elim fun t J8=>J8.elim fun ht q=>(tok0.vw.apart (tokg t ht).vw (dj t ht) b hb).2.1 q,fun J9=>J9.elim fun t J1=>J1.elim fun ht q=>(tok0.vw.apart (tokg t ht).vw (dj t ht) b hb).2.2 q⟩) eq0,tok0.full,tok0.nd,tok0.fit.congr eq0,tok0.few,tok0.one⟩
 have e3:σ3 t0.head a=W.σ t0.head a:=eq0 _ (by
  obtain⟨y,hy⟩:=tok0.one
  rw[hy];exact .head _) a
 rw[← hd]at hs1 r2⊢
 obtain⟨_,_,_,w5⟩:=tok5.wn
 obtain⟨wl,w51,w52⟩:=w5.inst
 refine w_meth w51 (w52.meth 35 (by decide)) rfl ?_
 refine call35 (W:=W.sz σ3) w5 ha (w_ok ?_)
 refine call8t (n:=n) (W:=W.sz σ3) ha ht5 tok5 (Int.not_lt.mp fun q=>r2 (e3▸q)) (Int.le_trans (Int.le_of_eq (congrArg (·+delta) e3)) hs1) (ow3 (o13.get z0)) fun h6 σ5 ch5 vw5 set5 out5=>?_
 have eqg:∀t∈giv u.kids.trees u.nth,∀b∈t.nums,∀z,σ5 b z=σ3 b z:=fun t ht b hb=>out5 b fun q=>dj t ht b q hb
 have vt:∀t∈u.kids.trees,Vw h6 es (W.sz σ5) t:=fun t ht=>(List.mem_cons.mp (perm.symm.subset ht)).elim (fun z=>z▸vw5) fun hg=>(vw3 t hg).ch ch5 ((vw3 t hg).apart (W:=W.sz σ3) tok5.vw fun b hb hb'=>dj t hg b hb' hb) (eqg t hg)
 have outk:∀b,b∉u.kids.nums→∀z,σ5 b z=W.σ b z:=fun b hb z=>by
  have nk:∀t∈u.kids.trees,b∉t.nums:=fun t ht q=>hb (by rw[← trees_nums];exact List.mem_flatMap.mpr ⟨t,ht,q⟩)
  refine(out5 b (nk t0 t0m) z).trans (out3 b (fun q=>?_) z)
  obtain⟨t,ht,q⟩:=List.mem_flatMap.mp q
  exact nk t (giv_mem ht) q
 have ownk:∀t∈u.kids.trees,∀j,Own W t j→Own W u.kids j:=fun t ht j J2=>J2.elim fun b J3=>J3.elim fun hb q=>⟨b,by rw[← trees_nums];exact List.mem_flatMap.mpr ⟨t,ht,hb⟩,q⟩
 have chk:Ch (Own W u.kids) h h6:=(Ro.any o13).trans ((Ch.mem ch3 fun j ⟨t,ht,q⟩=>ownk t (giv_mem ht) j q).trans (Ch.mem ch5 fun j q=>ownk t0 t0m j q))
 have vk:=g.vw.sub d.sub
 have vall:=Vw_asm g.vw g.nd d.sub chk vt outk
 have tk:=g.tt.apart vk
 have ht6:=g.tt.ch chk tk.1 tk.2
 have c9:∀{Q:V→Hp→Prop} {Z:Hp→Prop},(∀h' π',Ch (Own W F0) h6 h'→Vw h' es ((W.sz σ5).pl π') F0→PlS σ5 π' F0 [(0,0)]→Q .none h')→callP prog (n+3) 9 [.ref τ] h6 Q Z:=by
  intro Q Z k
  have nd:=g.nd
  have few:=g.few
  obtain⟨x0,rfl⟩:=g.one
  exact call9 (n:=n+1) ht6 vall nd (by simp only[F.one,F.count0,F.count1]at few;lia) (chk.keep _ _ z0 (.inl (list_apart vk z0))) fun h' π' c v p J=>k h' π' c v p
 refine c9 fun h7 π6 ch6 vw6 pl6=>?_
 refine hq h7 σ5 π6 vw6 ⟨?_,t0,d.tn,?_⟩ outk pl6 ((Ch.mem chk fun j J6=>J6.elim fun b J7=>J7.elim fun hb q=>⟨b,?_,q⟩).trans ch6)
 ·have:∀(l:List F) (bs:List Int),(∀t∈l,t∈giv u.kids.trees u.nth)→All2 (fun t b=>SetF a W.σ σ3 t [b]) l bs→All2 (fun t b=>SetF a W.σ σ5 t [b]) l bs:=by
   intro l bs hm q
   induction q with
   | nil=>exact .nil
   | cons q1 J ih=>exact .cons (q1.congr (fun J J J=>rfl) (eqg _ (hm _ (.head _)))) (ih fun t' h'=>hm t' (.tail _ h'))
  exact this _ _ (fun J h=>h) set3
 ·exact e3▸set5.congr (fun b hb z=>(eq0 b hb z).symm) fun J J J=>rfl
 ·obtain⟨s1,k1,h1⟩:=num_node hb
  exact nodes_num (d.sub _ h1)
end
end Mine
namespace Mine
section
variable {h h' h₀:Hp}{W:WS}{es:List (Int×V)}{fs:List (Nat×V)}{τ δ:Nat}{r m s p:Int}{ks:List Int}{own:Nat→Prop}{Z:Hp→Prop}{Q:V→Hp→Prop}
theorem mov_tail {a:Int}:∀{way:List Up}{m s:Int}{ks:List Int}{x:Int}{u:Up},WayOk h es W m s ks way→mov a m way=some (x,u)→∃s' ks' way',WayOk h es W x s' ks' (u::way')∧(∀v∈way',v∈way)∧way'.length<way.length∧along u.s=a:=by
 intro J1
 induction J1 with
 | nil=>
  intro m s ks x u hw e
  contradiction
 | cons v up J8=>
  intro m s ks x u hw e
  simp only[mov0,mov1]at e
  split at e
  ·cases e
   exact⟨s,ks,up,hw,fun v h=>.tail _ h,by simp,by assumption⟩
  ·obtain⟨s',ks',way',q1,q2,q3,q4⟩:=J8 hw.2.2.2 e
   exact⟨s',ks',way',q1,fun v h=>.tail _ (q2 v h),by simp;exact Nat.lt_succ_of_lt (by assumption),q4⟩
theorem WayOk.ro:∀{way:List Up}{m s:Int}{ks:List Int},WayOk h es W m s ks way→Ro h h'→WayOk h' es W m s ks way:=by
 intro way
 induction way with
 | nil=>intro m s ks w q;exact Wn.ro w q
 | cons u up ih=>intro m s ks w q;exact⟨w.1.ro q,w.2.1,w.2.2.1,ih w.2.2.2 q⟩
theorem en_loop {n:Nat}{a:Int}{k:Nat}{a1 a3:V}{o5:Option V}{N:Fr→Hp→Prop}{T:V→Hp→Prop}(ht:Tt h τ δ fs es r):∀{way:List Up}{m s:Int}{ks:List Int},WayOk h es W m s ks way→
  (∀x s' p' ks',Wn h es W x s' p' ks'→(mov a m way=none→p'=0)→(∀x' u,mov a m way=some (x',u)→x=x'∧p'=u.m)→N (fc (.ref τ) (fc a1 (fc (.int a) (fc a3 (fc (.ref (W.ω x)) (fo o5 (fz 0))))))) h)→
  lw (cn prog (n+1)) f20t1 f20b1 T (k+1+way.length) (fc (.ref τ) (fc a1 (fc (.int a) (fc a3 (fc (.ref (W.ω m)) (fo o5 (fz 0))))))) h N:=by
 intro way
 induction way with
 | nil=>
  intro m s ks hw hN
  obtain⟨wl,w1,w2⟩:=Wn.inst hw
  refine w_lw ?_
  refine w_attr w1 w2.par ?_
  exact w_some (w_nf rfl (w_ff (hN m s 0 ks hw (fun J=>rfl) fun J J q=>(by contradiction))))
 | cons u up ih=>
  intro m s ks hw hN
  obtain⟨hw,hu,hm,hr⟩:=hw
  obtain⟨wl,w1,w2⟩:=hw.inst
  obtain⟨p',hu'⟩:=hr.wn
  obtain⟨ul,u1,u2⟩:=hu'.inst
  refine w_lw (n:=k+1+_) ?_
  refine w_attr w1 w2.par ?_
  refine w_some (w_nt hu ?_)
  refine w_attr ht.inst ht.win ?_
  refine w_attr w1 w2.par ?_
  refine w_dk ht.dict hu'.dk ?_
  refine w_attr u1 u2.sort ?_
  refine call0 ?_
  refine w_some (w_nby (fun e=>w_tt ?_) fun e=>w_ff ?_)
  ·refine w_attr ht.inst ht.win ?_
   refine w_attr w1 w2.par ?_
   refine w_dk ht.dict hu'.dk ?_
   refine ih hr fun x s' p'' ks' w h1 h2=>hN x s' p'' ks' w (fun q=>h1 ?_) fun x' u' q=>h2 x' u' ?_
   ·rwa[mov1,if_neg e]at q
   ·rwa[mov1,if_neg e]at q
  ·refine hN m s u.m ks hw (fun q=>?_) fun x' u' q=>?_
   ·rw[mov1,if_pos e]at q;contradiction
   ·rw[mov1,if_pos e]at q;cases q;exact⟨rfl,rfl⟩
noncomputable def cutAmt (a:Int) (σ:Int→Int→Int) (u:Up) (t0:F) (x delta:Int):Int:=max (min delta (giv (spareF a σ u.kids) u.nth).sum) (lead a t0-σ x a)
theorem Dd.room {a:Int}{F0 t0:F}{x:Int}{u:Up}(d:Dd h es W a F0 x u t0):0≤(giv (spareF a W.σ u.kids) u.nth).sum:=by
 have:∀y∈giv (spareF a W.σ u.kids) u.nth,0≤y:=fun y hy=>by
  have hy':=giv_mem hy
  rw[spare_trees,List.mem_map]at hy'
  obtain⟨t,ht,rfl⟩:=hy'
  have tk:=d.tok t ht
  obtain⟨z,hz⟩:=tk.one
  have fit:=tk.fit
  rw[hz]at fit
  have:=fit.1.1
  have e:lead a t=(least a (.node z.1 z.2.1 z.2.2 .nil)).headD 0:=by rw[hz];rfl
  have e2:t.head=z.1:=by rw[hz];rfl
  rw[e,e2];exact Int.sub_nonneg_of_le (by assumption)
 have:=sum_ge this
 lia
theorem Dd.fit0 {a:Int}{F0 t0:F}{x:Int}{u:Up}(d:Dd h es W a F0 x u t0):lead a t0≤W.σ x a∧2≤lead a t0:=by
 have tk:=d.tok t0 (List.mem_of_getElem? d.tn)
 obtain⟨z,hz⟩:=tk.one
 have fit:=tk.fit
 have full:=tk.full
 rw[hz]at fit full
 have h1:=fit.1.1
 have e:lead a t0=(least a (.node z.1 z.2.1 z.2.2 .nil)).headD 0:=by rw[hz];rfl
 have e2:x=z.1:=by rw[← d.hd,hz];rfl
 rw[e,e2]
 exact⟨h1,least_pos (a:=a) full _ (by simp[F.one,leastE0,leastE1])⟩
theorem Dd.amt {a:Int}{F0 t0:F}{x delta:Int}{u:Up}(d:Dd h es W a F0 x u t0) (h1:-400≤delta) (h2:delta≤400):¬refused a W.σ u t0 x (cutAmt a W.σ u t0 x delta)∧-400≤cutAmt a W.σ u t0 x delta∧cutAmt a W.σ u t0 x delta≤400:=by
 have r:=d.room
 have f:=d.fit0
 unfold refused cutAmt
 refine⟨?_,by lia,by lia⟩
 rintro(q | q)<;>omega
theorem call20n {n:Nat}{a delta:Int}{F0:F}{way:List Up}(g:Gr h τ δ fs es W a F0 m s ks way) (hl:way.length<900) (e:mov a m way=none) (x:∀h',Ro h h'→Z h'):callP prog (n+5) 20 [.ref τ,.int m,.int a,.int delta] h Q Z:=by
 obtain⟨p0,w0⟩:=g.wok.wn
 refine c20 ?_
 refine w_meth g.tt.inst (g.tt.meth 37 (by decide)) rfl ?_
 refine call42 g.tt w0 ?_
 refine lw_more (1+way.length) (by rw[turns_eq];lia) ?_
 rw[← Nat.add_assoc]
 refine en_loop (n:=n+3) g.tt g.wok fun x' s' p' ks' w h1 J=>?_
 obtain⟨wl,w1,w2⟩:=w.inst
 refine w_attr w1 w2.par ?_
 refine w_some (w_t (h1 e) ?_)
 exact w_list (by rw[lim_eq];simp) fun J h1 J J o1=>x h1 o1
theorem call20s {n:Nat}{a delta:Int}{F0 t0:F}{way:List Up}{x:Int}{u:Up}(g:Gr h τ δ fs es W a F0 m s ks way) (hl:way.length<900) (e:mov a m way=some (x,u)) (d:Dd h es W a F0 x u t0) (hd1:-400≤delta) (hd2:delta≤400)
  (q0:cutAmt a W.σ u t0 x delta=0→∀h',Ro h h'→Q (.int (cutAmt a W.σ u t0 x delta)) h')
  (q1:cutAmt a W.σ u t0 x delta≠0→∀h' σ' π',Vw h' es ((W.sz σ').pl π') F0→Rz a W.σ σ' u.kids u.nth (cutAmt a W.σ u t0 x delta)→(∀y,y∉u.kids.nums→∀z,σ' y z=W.σ y z)→PlS σ' π' F0 [(0,0)]→Ch (Own W F0) h h'→Q (.int (cutAmt a W.σ u t0 x delta)) h') :
  callP prog (n+5) 20 [.ref τ,.int m,.int a,.int delta] h Q Z:=by
 obtain⟨p0,w0⟩:=g.wok.wn
 have ha:=g.ax
 have t0m:=List.mem_of_getElem? d.tn
 obtain⟨a1,a2,a3⟩:=d.amt hd1 hd2
 refine c20 ?_
 refine w_meth g.tt.inst (g.tt.meth 37 (by decide)) rfl ?_
 refine call42 g.tt w0 ?_
 refine lw_more (1+way.length) (by rw[turns_eq];lia) ?_
 rw[← Nat.add_assoc]
 refine en_loop (n:=n+3) g.tt g.wok fun x' s' p' ks' w J h2=>?_
 obtain⟨hx,hp⟩:=h2 x u e
 subst hx
 obtain⟨wl,w1,w2⟩:=w.inst
 refine w_attr w1 w2.par ?_
 refine w_some (w_f (by rw[hp];exact d.ne) ?_)
 refine w_attr w1 w2.num ?_
 refine call12d (n:=n+1) ha g.tt d fun h1 o1=>?_
 refine w_ok ?_
 refine w_attr (o1.get w1) w2.num ?_
 have c6:∀{K:V→Hp→Prop} {Z:Hp→Prop},(∀h',Ro h1 h'→K (.int (lead a t0)) h')→callP prog (n+4) 6 [.ref τ,.int x',.int a] h1 K Z:=by
  rw[← d.hd]
  exact fun k=>call6t (n:=n+2) (g.tt.ro o1) ((d.tok t0 t0m).ro o1) k
 refine c6 fun h2 o2=>?_
 have o12:=o1.trans o2
 refine w_meth (o12.get w1) (w2.meth 35 (by simp)) rfl ?_
 refine call35 (w.ro o12) ha ?_
 refine w_ok (w_ok ?_)
 refine w_some (w_nby (fun hz=>?_) fun hz=>q0 hz h2 o12)
 refine w_attr (o12.get w1) w2.num ?_
 obtain⟨s1,ks1,way',k1,k2,k3,k4⟩:=mov_tail g.wok e
 have g2:=g.ro o12
 have g2:Gr h2 τ δ fs es W a F0 x' s1 ks1 (u::way'):=⟨g2.tt,g2.vw,g2.one,g2.full,g2.nd,g2.fit,g2.few,g2.low,g2.pos,k1.ro o12,fun v hv=>(List.mem_cons.mp hv).elim (fun z=>z▸g.ups _ (mov_ok g.wok e).2.2.2.2.2) fun hv=>g.ups v (k2 v hv),g2.ax,g2.z0,g2.kz⟩
 refine call13r (n:=n) (delta:=cutAmt a W.σ u t0 x' delta) g2 (Nat.lt_of_le_of_lt k3 hl) (by rw[mov1,if_pos k4]) (d.ro o12) (fun r=>absurd r a1) fun J=>⟨a2,?_,fun h3 σ' π' k1 k2 k3 k4 k5=>q1 hz h3 σ' π' k1 k2 k3 k4 ((Ro.any o12).trans k5)⟩
 have:=g.low x' (by
  obtain⟨y,hy,e'⟩:=trees_nodes t0m
  have:=nodes_num (d.sub y hy)
  rw[← d.hd,e'];exact this) a
 lia
end
end Mine
namespace Mine
noncomputable def lvs:F→List Int
 | .nil=>[]
 | .node m s k r=>(if s=0 then [m]else lvs k)++lvs r
theorem lvs0:lvs .nil=[]:=rfl
theorem lvs1 {m s k r}:lvs (.node m s k r)=(if s=0 then [m]else lvs k)++lvs r:=rfl
theorem lvs_le:∀f:F,(lvs f).length≤f.count
 | .nil=>Nat.le_refl _
 | .node m s k r=>by
  have h1:=lvs_le k
  have h2:=lvs_le r
  simp only[lvs0,lvs1,F.count0,F.count1,List.length_append]
  split
  ·simp;lia
  ·lia
section
variable {h h' h₀:Hp}{W:WS}{es:List (Int×V)}{fs:List (Nat×V)}{τ δ:Nat}{r m s p:Int}{ks:List Int}{own:Nat→Prop}{Z:Hp→Prop}{Q:V→Hp→Prop}
theorem lv_loop {c:Env'}{a1:V}{i j:Nat}{N:Fr→Hp→Prop}{T:V→Hp→Prop}(ht:Tt h₀ τ δ fs es r) (hi:h₀.length≤i) (hj:h₀.length≤j) (ij:i≠j):∀(f:F) {h:Hp}{acc st:List V}{k:Nat}{here:Option V},Vw h₀ es W f→Full f→Ro h₀ h→
  h[i]?=some (.list acc)→h[j]?=some (.list (st++(f.roots.map V.int).reverse))→acc.length+st.length+f.count<1000→
  (∀h' here',Ro h₀ h'→h'[i]?=some (.list (acc++(lvs f).map V.int))→h'[j]?=some (.list st)→lw c f2t1 f2b1 T k (fc (.ref τ) (fc a1 (fc (.ref i) (fc (.ref j) (fo here' (fz 0)))))) h' N)→
  lw c f2t1 f2b1 T (k+f.count) (fc (.ref τ) (fc a1 (fc (.ref i) (fc (.ref j) (fo here (fz 0)))))) h N:=by
 have hz:=lt_of_get ht.inst
 intro f
 induction f with
 | nil=>
  intro h acc st k here hv hfu ro gi gj hb next
  exact next h here ro (by simpa[lvs0,lvs1]using gi) (by simpa[F.roots0,F.roots1]using gj)
 | node m s kd rs ihk ihr=>
  intro h acc st k here hv hfu ro gi gj hb next
  obtain⟨⟨p,w⟩,vk,vr⟩:=hv
  obtain⟨ws,w1,w2⟩:=w.inst
  have gj:h[j]?=some (.list ((st++(rs.roots.map V.int).reverse)++[.int m])):=by simpa[F.roots0,F.roots1]using gj
  have hrc:=F.roots_length rs
  have hkc:=F.roots_length kd
  have hb:acc.length+st.length+(kd.count+rs.count+1)<1000:=hb
  refine w_lw (n:=k+(kd.count+rs.count)) ?_
  refine w_ne1 gj (by simp) fun h1 o1=>w_tt ?_
  have ro1:=ro.and o1
  refine w_attr (ro1.get ht.inst) ht.win ?_
  refine w_ml (o1.get gj) (by lia) ?_ rfl
  refine w_pop (o1.get gj) fun h2 gj2 o2=>?_
  have ro2:=ro1.at o2 (.inl hj)
  have gi2:=o2.ne (o1.get gi) ij
  refine w_dk (ro2.get ht.dict) w.dk ?_
  refine w_attr (ro2.get w1) w2.sort ?_
  refine w_some (w_by (fun hs=>?_) fun hs=>?_)
  ·refine w_ml gi2 (by lia) ?_ rfl
   refine w_attr (ro2.get w1) w2.num ?_
   refine w_app gi2 (by rw[lim_eq];lia) fun h3 gi3 o3=>?_
   have e:kd.count=0:=by rw[hfu.1.mp hs];rfl
   rw[e,Nat.zero_add]
   refine ihr vr hfu.2.2 (ro2.at o3 (.inl hi)) gi3 (o3.ne gj2 (Ne.symm ij)) (by simp;lia) fun h7 here7 ro7 gi7 gj7=>next h7 here7 ro7 ?_ gj7
   rw[gi7]
   simp[lvs0,lvs1,hs]
  ·refine w_ml gj2 (by lia) ?_ rfl
   refine w_attr (ro2.get w1) w2.kids ?_
   refine w_rev (ro2.get w.kids) (by rw[lim_eq,List.length_map];lia) fun a h4 la ga o4=>?_
   refine w_ext (o4.get gj2) ga (by rw[lim_eq];simp;lia) (by have:=lt_of_get gj2;lia) fun h5 gj5 o5=>?_
   rw[show k+(kd.count+rs.count)=k+rs.count+kd.count by lia]
   refine ihk vk hfu.2.1 ((ro2.and o4).at o5 (.inl hj)) (o5.ne (o4.get gi2) ij) gj5 (by simp;lia) fun h6 here6 ro6 gi6 gj6=>?_
   refine ihr vr hfu.2.2 ro6 gi6 gj6 (by have:=lvs_le kd;simp;lia) fun h7 here7 ro7 gi7 gj7=>next h7 here7 ro7 ?_ gj7
   rw[gi7]
   simp[lvs0,lvs1,hs]
theorem call2 {n:Nat}{kd:F}(ht:Tt h τ δ fs es r) (hv:Vw h es W (.node m s kd .nil)) (hfu:Full (.node m s kd .nil)) (hc:kd.count<900) (x:∀i h',h.length≤i→h'[i]?=some (.list ((lvs (.node m s kd .nil)).map V.int))→Ro h h'→Q (.ref i) h'):callP prog (n+1) 2 [.ref τ,.int m] h Q Z:=by
 have hcc:(F.node m s kd .nil).count=kd.count+1:=rfl
 refine c2 ?_
 refine w_list (by simp) fun i h1 li gi o1=>?_
 refine w_list (by rw[lim_eq];simp) fun j h2 lj gj o2=>?_
 refine lw_more (1+(F.node m s kd .nil).count) (by rw[turns_eq,hcc];lia) ?_
 have:=lt_of_get gi
 have:=o1.len
 rw[← Nat.add_assoc]
 refine lv_loop ht li (by exact Nat.le_trans (by assumption) (by assumption)) (by lia) (.node m s kd .nil) (acc:=[]) (st:=[]) hv hfu (o1.trans o2) (o2.get gi) gj (by rw[hcc];simp;exact Nat.lt_of_le_of_lt (by assumption) (by simp)) fun h' here' ro gi gj=>?_
 refine w_lw ?_
 refine w_ne0 gj fun h3 o3=>w_ff ?_
 exact x i h3 li (o3.get gi) (ro.trans o3)
theorem call3 {n:Nat}{kd:F}(ht:Tt h τ δ fs es m) (hv:Vw h es W (.node m s kd .nil)) (hfu:Full (.node m s kd .nil)) (hc:kd.count<900) (x:∀i h',h.length≤i→h'[i]?=some (.list ((lvs (.node m s kd .nil)).map V.int))→Ro h h'→Q (.ref i) h'):callP prog (n+2) 3 [.ref τ] h Q Z:=by
 refine c3 ?_
 refine w_attr ht.inst ht.root ?_
 exact call2 ht hv hfu hc x
end
end Mine
namespace Mine
noncomputable def KidsOk (σ π:Int→Int→Int) (ρ:Int→Int) (m s:Int):F→Int→Prop
 | .nil,at'=>at'=π m (along s)+σ m (along s)
 | .node c cs _ r,at'=>ρ c=m∧cs≠s∧π c (along s)=at'∧π c (1-along s)=π m (1-along s)∧σ c (1-along s)=σ m (1-along s)∧KidsOk σ π ρ m s r (at'+σ c (along s))
noncomputable def NodeOk (σ π:Int→Int→Int) (ρ:Int→Int) (x:Int×Int×F):Prop:=
 if x.2.1=0 then x.2.2=.nil∧3≤σ x.1 0∧2≤σ x.1 1 else 2≤x.2.2.roots.length∧KidsOk σ π ρ x.1 x.2.1 x.2.2 (π x.1 (along x.2.1))
theorem along_ax (s:Int):along s=0∨along s=1:=by unfold along;split<;>simp
theorem along_ax' (s:Int):1-along s=0∨1-along s=1:=by unfold along;split<;>simp
section
variable {h h' h₀:Hp}{W:WS}{es:List (Int×V)}{fs:List (Nat×V)}{τ δ:Nat}{r m s p:Int}{ks:List Int}{own:Nat→Prop}{Z:Hp→Prop}{Q:V→Hp→Prop}
theorem ww_loop {n k kκ:Nat}{N:Fr→Hp→Prop}{T:V→Hp→Prop}(ht:Tt h τ δ fs es r) (w:Wn h es W m s p ks) (hN:∀o5 o6,N (fc (.ref τ) (fc (.int m) (fc (.ref (W.ω m)) (fc (.int (along s)) (fc (.int (W.π m (along s)+W.σ m (along s))) (fo o5 (fo o6 (fz 0)))))))) h):∀(f:F) {pre:List V}{i:Nat}{at':Int}{o5 o6:Option V},i=pre.length→Vw h es W f→h[kκ]?=some (.list (pre++f.roots.map V.int))→KidsOk W.σ W.π W.ρ m s f at'→
  lf1 (cn prog (n+1)) 5 f14b1 T (k+1+f.roots.length) (.seq kκ i) (fc (.ref τ) (fc (.int m) (fc (.ref (W.ω m)) (fc (.int (along s)) (fc (.int at') (fo o5 (fo o6 (fz 0)))))))) h N:=by
 have a1:=along_ax s
 have a2:=along_ax' s
 obtain⟨wl,w1,w2⟩:=w.inst
 intro f
 induction f with
 | nil=>
  intro pre i at' o5 o6 hi vw gk ok
  refine w_f1e (end_seq gk (by simp[F.roots0,F.roots1,hi])) ?_
  have e:at'=W.π m (along s)+W.σ m (along s):=ok
  rw[e]
  exact hN _ _
 | node c cs kc rc _ ih=>
  intro pre i at' o5 o6 hi vw gk ok
  obtain⟨⟨pc,wc⟩,vk,vr⟩:=vw
  have k1:=ok.1;have k2:=ok.2.1;have k3:=ok.2.2.1;have k4:=ok.2.2.2.1;have k5:=ok.2.2.2.2.1;have k6:=ok.2.2.2.2.2
  obtain⟨cl,c1,c2⟩:=wc.inst
  refine w_f1 (n:=k+1+rc.roots.length) (v:=.int c) (next_seq gk (by simp[F.roots0,F.roots1,hi])) ?_
  refine w_attr ht.inst ht.win ?_
  refine w_md ht.dict ?_
  refine w_get1 ht.dict wc.dk ?_
  refine w_some (w_ff ?_)
  refine w_attr c1 c2.par ?_
  refine w_some (w_nf (wc.pr.trans k1) ?_)
  refine w_attr c1 c2.sort ?_
  refine w_attr w1 w2.sort ?_
  refine w_some (w_f k2 (w_ff ?_))
  refine w_meth c1 (c2.meth 31 (by decide)) rfl ?_
  refine call37 wc a1 ?_
  refine w_some (w_nf k3 ?_)
  refine w_meth c1 (c2.meth 31 (by decide)) rfl ?_
  refine w_ok (call37 wc a2 ?_)
  refine w_meth w1 (w2.meth 31 (by decide)) rfl ?_
  refine w_ok (call37 w a2 ?_)
  refine w_some (w_nf k4 (w_ff ?_))
  refine w_meth c1 (c2.meth 35 (by decide)) rfl ?_
  refine w_ok (call35 wc a2 ?_)
  refine w_meth w1 (w2.meth 35 (by decide)) rfl ?_
  refine w_ok (call35 w a2 ?_)
  refine w_some (w_nf k5 ?_)
  refine w_meth c1 (c2.meth 35 (by decide)) rfl ?_
  refine call35 wc a1 (w_ok ?_)
  exact ih (pre:=pre++[.int c]) (by simp[hi]) vr (by rw[gk];simp[F.roots0,F.roots1]) k6
theorem call14 {n:Nat}{kd:F}(ht:Tt h τ δ fs es r) (hv:Vw h es W (.node m s kd .nil)) (ok:NodeOk W.σ W.π W.ρ (m,s,kd)) (hc:kd.count<900) (x:∀h',Ro h h'→Q .none h'):callP prog (n+2) 14 [.ref τ,.int m] h Q Z:=by
 obtain⟨⟨p,w⟩,vk,_⟩:=hv
 obtain⟨wl,w1,w2⟩:=w.inst
 have hrl:=F.roots_length kd
 have hkk:h[W.κ m]?=some (.list (kd.roots.map V.int)):=w.kids
 refine c14 ?_
 refine w_attr ht.inst ht.win ?_
 refine w_dk ht.dict w.dk ?_
 refine w_attr w1 w2.sort ?_
 unfold NodeOk at ok
 dsimp only at ok
 refine w_some (w_by (fun hs=>?_) fun hs=>?_)
 ·rw[if_pos hs]at ok
  obtain⟨k1,k2,k3⟩:=ok
  rw[k1]at hkk
  refine w_attr w1 w2.kids ?_
  refine w_ne0 hkk fun h1 o1=>w_ff ?_
  have w1':=o1.get w1
  have ht':=ht.ro o1
  refine w_attr w1' w2.wid ?_
  refine w_attr ht'.inst ht'.lw ?_
  refine w_some (w_f (Int.not_lt.mpr k2) ?_)
  refine w_attr w1' w2.hgt ?_
  refine w_attr ht'.inst ht'.lh ?_
  refine w_some (w_f (Int.not_lt.mpr k3) (w_ff ?_))
  exact x h1 o1
 ·rw[if_neg hs]at ok
  obtain⟨k1,k2⟩:=ok
  have a1:=along_ax s
  refine w_attr w1 w2.kids ?_
  refine w_len hkk ?_
  refine w_some (w_f (by rw[List.length_map];lia) ?_)
  refine w_attr w1 w2.sort ?_
  refine call0 ?_
  refine w_meth w1 (w2.meth 31 (by decide)) rfl ?_
  refine w_attr w1 w2.sort ?_
  refine call0 (call37 w a1 ?_)
  refine w_tup fun t h1 lt gt o1=>?_
  refine w_tg gt rfl ?_
  refine w_attr (o1.get w1) w2.kids ?_
  refine w_it (o1.get hkk) ?_
  refine lf1_more (1+kd.roots.length) (by rw[turns_eq];lia) ?_
  rw[← Nat.add_assoc]
  refine ww_loop (n:=n) (ht.ro o1) (w.ro o1) (fun o5 o6=>?_) kd (pre:=[]) rfl (vk.ro o1) (o1.get hkk) k2
  have w1':=o1.get w1
  refine w_meth w1' (w2.meth 31 (by decide)) rfl ?_
  refine call37 (w.ro o1) a1 ?_
  refine w_meth w1' (w2.meth 35 (by decide)) rfl ?_
  refine call35 (w.ro o1) a1 (w_ok ?_)
  exact w_some (w_t rfl (x h1 o1))
end
end Mine
namespace Mine
noncomputable def leI:Int→Int→Bool:=fun a b=>decide (a≤b)
theorem sort_perm {l l':List Int}(p:l.Perm l'):l.mergeSort leI=l'.mergeSort leI:=by
 have tr:∀(a b c:Int),leI a b→leI b c→leI a c:=by
  intro a b c h1 h2
  simp only[leI,decide_eq_true_eq]at*
  exact Int.le_trans (by assumption) (by assumption)
 have tot:∀(a b:Int),leI a b||leI b a:=by
  intro a b
  simp only[leI,Bool.or_eq_true,decide_eq_true_eq]
  lia
 refine List.Perm.eq_of_pairwise (le:=fun a b=>leI a b=true) (fun a b J J h1 h2=>?_) (List.pairwise_mergeSort tr tot l) (List.pairwise_mergeSort tr tot l') ((List.mergeSort_perm l leI).trans (p.trans (List.mergeSort_perm l' leI).symm))
 simp only[leI,decide_eq_true_eq]at h1 h2
 exact Int.le_antisymm (by assumption) (by assumption)
theorem all2_ints (h:Hp):∀l:List Int,all2? (veq1 h) (l.map V.int) (l.map V.int)=some true
 | []=>rfl
 | x::l=>by
  exact all2_1 (a:=true) (congrArg some (decide_eq_true rfl)) (all2_ints h l)
theorem ne_ints {h:Hp}{i j:Nat}{l:List Int}(e1:h[i]?=some (.list (l.map V.int))) (e2:h[j]?=some (.list (l.map V.int))):cmpop .ne (.ref i) (.ref j) h=some false:=by
 show(veq h (.ref i) (.ref j)).map (!·)=_
 show(match h[i]?,h[j]? with | some (.list xs),some (.list ys)=>if xs.length=ys.length then all2? (veq1 h) xs ys else some false | _,_=>none).map (!·)=_
 rw[e1,e2]
 exact congrArg (Option.map (!·)) ((if_pos rfl).trans (all2_ints ..))
section
variable {h h' h₀:Hp}{W:WS}{es:List (Int×V)}{fs:List (Nat×V)}{τ δ:Nat}{r m s p:Int}{ks:List Int}{own:Nat→Prop}{Z:Hp→Prop}{Q:V→Hp→Prop}
theorem w_sortL {j:Nat}{is:List Int}(e:h[j]?=some (.list (is.map V.int))) (hl:is.length<64) (x:∀i h',h.length≤i→h'[i]?=some (.list ((is.mergeSort leI).map V.int))→Ro h h'→Q (.ref i) h'):C (builtin .sorted [.ref j] h) Q:=by
 have q:builtin .sorted [.ref j] h=newL ((is.mergeSort leI).map V.int) h:=by
  show(match h[j]? with | some (.list vs)=>_ | some (.dictI es)=>_ | _=>_)=_
  rw[e]
  dsimp only
  rw[intsOf_map]
  exact if_pos hl
 rw[q]
 exact w_list (by rw[List.length_map,List.length_mergeSort,lim_eq];lia) x
theorem w_sortD {j:Nat}{ds:List (Int×V)}(e:h[j]?=some (.dictI ds)) (hl:ds.length<64) (x:∀i h',h.length≤i→h'[i]?=some (.list (((ds.map (·.1)).mergeSort leI).map V.int))→Ro h h'→Q (.ref i) h'):C (builtin .sorted [.ref j] h) Q:=by
 have q:builtin .sorted [.ref j] h=newL (((ds.map (·.1)).mergeSort leI).map V.int) h:=by
  show(match h[j]? with | some (.list vs)=>_ | some (.dictI es)=>_ | _=>_)=_
  rw[e]
  exact if_pos hl
 rw[q]
 exact w_list (by rw[List.length_map,List.length_mergeSort,List.length_map,lim_eq];lia) x
theorem mem_ints {j:Nat}{is:List Int}{x:Int}(e:h[j]?=some (.list (is.map V.int))) (hx:x∈is):cmpop .mem (.int x) (.ref j) h=some true:=by
 show(match(listOf h (.ref j)).bind intsOf with | some ys=>some (ys.contains x) | none=>none)=_
 rw[listOf_is e,Option.bind_some,intsOf_map]
 exact congrArg some (List.contains_iff_mem.mpr hx)
theorem te_loop {n k q:Nat}{a1:V}{N:Fr→Hp→Prop}{T:V→Hp→Prop}(ht:Tt h₀ τ δ fs es r) {F0:F}(hv:Vw h₀ es W F0) (hc:F0.count<100) (ok:∀x∈F0.nodes,NodeOk W.σ W.π W.ρ x) (hN:∀h' o3 o4,Ro h₀ h'→N (fc (.ref τ) (fc a1 (fc (.ref q) (fo o3 (fo o4 (fz 0)))))) h'):∀{xs:List (Int×Int×F)}{pre:List V}{i:Nat}{h:Hp}{o3 o4:Option V},i=pre.length→(∀x∈xs,x∈F0.nodes)→Ro h₀ h→h[q]?=some (.list (pre++xs.map fun x=>V.int x.1))→
  lf1 (cn prog (n+2)) 3 f15b1 T (k+1+xs.length) (.seq q i) (fc (.ref τ) (fc a1 (fc (.ref q) (fo o3 (fo o4 (fz 0)))))) h N:=by
 intro xs
 induction xs with
 | nil=>
  intro pre i h o3 o4 hi hx ro gq
  exact w_f1e (end_seq gq (by simp[hi])) (hN _ _ _ ro)
 | cons x xs ih=>
  intro pre i h o3 o4 hi hx ro gq
  refine w_f1 (n:=k+1+xs.length) (v:=.int x.1) (next_seq gq (by simp[hi])) ?_
  have hx0:=hx x (.head _)
  have cnt:=F.count_nodes x hx0
  simp only[F.one,F.count0,F.count1]at cnt
  refine call14 (n:=n) (kd:=x.2.2) (ht.ro ro) ((hv.sub (one_nodes hx0)).ro ro) (ok x hx0) (by lia) fun h1 ro1=>?_
  refine w_some (w_ff ?_)
  exact ih (pre:=pre++[.int x.1]) (by simp[hi]) (fun y hy=>hx y (.tail _ hy)) (ro.trans ro1) (by rw[ro1.get gq];simp)
theorem call15 {n:Nat}{x0:Int×Int×F}(ht:Tt h τ δ fs es x0.1) (hv:Vw h es W (F.one x0)) (hfu:Full (F.one x0)) (hc:(F.one x0).count<60) (ok:∀x∈(F.one x0).nodes,NodeOk W.σ W.π W.ρ x) (h0:W.ρ x0.1=0) (h1:W.π x0.1 0=0) (h2:W.π x0.1 1=0)
  (hp:(F.one x0).nums.Perm (es.map (·.1))) (hs:1∈lvs (F.one x0)) (x:∀h',Ro h h'→Q .none h'):callP prog (n+3) 15 [.ref τ] h Q Z:=by
 obtain⟨p,w⟩:=hv.1
 obtain⟨wl,w1,w2⟩:=w.inst
 have hcn:x0.2.2.count<60:=by simp only[F.one,F.count0,F.count1]at hc;exact Nat.le_of_lt (by assumption)
 have e2:(x0.1::x0.2.2.nums)=(F.one x0).nums:=by simp[F.one,F.nums0,F.nums1]
 have hel:es.length<64:=by
  have:=hp.length_eq
  rw[List.length_map,F.nums_length]at this;lia
 refine c15 ?_
 refine w_attr ht.inst ht.win ?_
 refine w_md ht.dict ?_
 refine w_attr ht.inst ht.root ?_
 refine w_get1 ht.dict w.dk ?_
 refine w_some (w_ff ?_)
 refine w_attr w1 w2.par ?_
 refine w_some (w_nf (w.pr.trans h0) ?_)
 refine w_attr w1 w2.left ?_
 refine w_some (w_nf h1 ?_)
 refine w_attr w1 w2.top ?_
 refine w_some (w_nf h2 (w_ff ?_))
 refine w_attr ht.inst ht.root ?_
 refine call4 (n:=n+1) ht hv (by exact Nat.lt_of_lt_of_le (by assumption) (by decide)) fun i ha J gi o1=>?_
 rw[e2]at gi
 refine w_it gi ?_
 have e1:(F.one x0).nums.map V.int=(F.one x0).nodes.map fun x=>V.int x.1:=by rw[← F.nodes_nums];simp
 have nl:(F.one x0).nodes.length=(F.one x0).count:=by rw[← F.nums_length,← F.nodes_nums,List.length_map]
 refine lf1_more (1+(F.one x0).nodes.length) (by rw[turns_eq];lia) ?_
 rw[← Nat.add_assoc]
 refine te_loop (n:=n) (q:=i) (h₀:=ha) (ht.ro o1) (hv.ro o1) (by exact Nat.lt_of_lt_of_le (by assumption) (by simp)) ok (fun hb o3 o4 o2=>?_) (pre:=[]) rfl (fun x hx=>hx) .refl (by rw[gi,e1];rfl)
 have htb:=ht.ro (o1.trans o2)
 refine w_sortL (o2.get gi) (by rw[F.nums_length];exact Nat.lt_of_lt_of_le (by assumption) (by simp)) fun j h3 lj gj o3=>?_
 have ht3:=htb.ro o3
 refine w_attr ht3.inst ht3.win ?_
 refine w_sortD ht3.dict hel fun k h4 lk gk o4=>?_
 rw[← sort_perm hp]at gk
 refine w_o (ne_ints (o4.get gj) gk) (w_ff ?_)
 have ro4:=((o1.trans o2).trans o3).trans o4
 have ht4:=ht.ro ro4
 refine w_attr ht4.inst ht4.sel ?_
 refine w_attr ht4.inst ht4.root ?_
 refine call2 (n:=n+1) ht4 (hv.ro ro4) hfu (by exact Nat.lt_of_lt_of_le (by assumption) (by decide)) fun i5 h5 J g5 o5=>?_
 refine w_o (mem_ints g5 hs) (w_tt ?_)
 exact x h5 (ro4.trans o5)
end
end Mine
namespace Mine
structure BS where
 β:Int→Nat
 ι:Int→Nat
noncomputable def sortS (s:Int):Nat:=if s=0 then 47 else if s=2 then 49 else 43
noncomputable def axS (a:Int):Nat:=if a=0 then 49 else 43
theorem sort_leaf {s:Int}:sortS s=47↔s=0:=by unfold sortS;split<;>simp_all;split<;>simp
theorem sort_ax {s a:Int}(hs:s=0∨s=1∨s=2) (ha:a=0∨a=1):sortS s=axS a↔s≠0∧along s=a:=by
 rcases hs with rfl | rfl | rfl<;>rcases ha with rfl | rfl<;>decide
theorem ax_eq {a:Int}(ha:a=0∨a=1) (e:axS a=49):a=0:=ha.resolve_right fun z=>by subst z;contradiction
noncomputable def Srt:F→Prop
 | .nil=>True
 | .node _ s k r=>(s=0∨s=1∨s=2)∧Srt k∧Srt r
theorem Srt0:Srt .nil=True:=rfl
theorem Srt1 {m s k r}:Srt (.node m s k r)=((s=0∨s=1∨s=2)∧Srt k∧Srt r):=rfl
structure Bf (B:BS) (σ:Int→Int→Int) (m s:Int) (fs:List (Nat×V)):Prop where
 sort:findF 23 fs=some (.str (sortS s))
 kids:findF 46 fs=some (.ref (B.ι m))
 len:fs.length≤10
 wid:s=0→findF 49 fs=some (.int (σ m 0))
 hgt:s=0→findF 43 fs=some (.int (σ m 1))
structure Bn (h:Hp) (B:BS) (σ:Int→Int→Int) (m s:Int) (kd:F):Prop where
 inst:∃fs,h[B.β m]?=some (.dictS fs)∧Bf B σ m s fs
 kids:h[B.ι m]?=some (.list (kd.roots.map fun c=>V.ref (B.β c)))
noncomputable def Bv (h:Hp) (B:BS) (σ:Int→Int→Int):F→Prop
 | .nil=>True
 | .node m s k r=>Bn h B σ m s k∧Bv h B σ k∧Bv h B σ r
theorem Bv0 {h B σ}:Bv h B σ .nil=True:=rfl
theorem Bv1 {h B σ m s k r}:Bv h B σ (.node m s k r)=(Bn h B σ m s k∧Bv h B σ k∧Bv h B σ r):=rfl
noncomputable def SzOk (a:Int) (σ:Int→Int→Int):F→Prop
 | .nil=>True
 | .node m s k r=>(s≠0→if along s=a then σ m a=(k.roots.map fun c=>σ c a).sum else ∀c∈k.roots,σ c a=σ m a)∧SzOk a σ k∧SzOk a σ r
theorem SzOk0 {a σ}:SzOk a σ .nil=True:=rfl
theorem SzOk1 {a σ m s k r}:SzOk a σ (.node m s k r)=((s≠0→if along s=a then σ m a=(k.roots.map fun c=>σ c a).sum else ∀c∈k.roots,σ c a=σ m a)∧SzOk a σ k∧SzOk a σ r):=rfl
noncomputable def BOwn (B:BS) (f:F) (i:Nat):Prop:=∃x∈f.nums,i=B.β x
section
variable {h h' h₀:Hp}{B:BS}{σ σ':Int→Int→Int}{m s a:Int}{own:Nat→Prop}{Z:Hp→Prop}{Q:V→Hp→Prop}{fs:List (Nat×V)}
theorem Bf.same (x:Bf B σ m s fs) (e:∀y,σ' m y=σ m y):Bf B σ' m s fs:=⟨x.sort,x.kids,x.len,fun z=>by rw[e];exact x.wid z,fun z=>by rw[e];exact x.hgt z⟩
theorem Bf.ax (x:Bf B σ m s fs) (ha:a=0∨a=1) (hs:s=0):findF (axS a) fs=some (.int (σ m a)):=by
 rcases ha with rfl | rfl
 ·exact x.wid hs
 ·exact x.hgt hs
theorem Bn.ch {kd:F}(x:Bn h B σ m s kd) (q:Ch own h h') (h1:¬own (B.β m)) (h2:¬own (B.ι m)) (e:∀y,σ' m y=σ m y):Bn h' B σ' m s kd:=
 ⟨let⟨fs,a,b⟩:=x.inst;⟨fs,q.keep _ _ a (.inl h1),b.same e⟩,q.keep _ _ x.kids (.inl h2)⟩
theorem Bv.ch:∀{f:F},Bv h B σ f→Ch own h h'→(∀x∈f.nums,¬own (B.β x)∧¬own (B.ι x))→(∀x∈f.nums,∀y,σ' x y=σ x y)→Bv h' B σ' f
 | .nil,_,_,_,_=>trivial
 | .node m s k r,⟨a,b,c⟩,q,n,e=>by
  simp only[F.nums0,F.nums1,List.mem_cons,List.mem_append]at n e
  exact⟨a.ch q (n m (.inl rfl)).1 (n m (.inl rfl)).2 (e m (.inl rfl)),b.ch q (fun x hx=>n x (.inr (.inl hx))) fun x hx=>e x (.inr (.inl hx)),c.ch q (fun x hx=>n x (.inr (.inr hx))) fun x hx=>e x (.inr (.inr hx))⟩
theorem Bv.ro {f:F}(x:Bv h B σ f) (q:Ro h h'):Bv h' B σ f:=x.ch q (fun J J=>⟨id,id⟩) fun J J J=>rfl
theorem Bn.ro {kd:F}(x:Bn h B σ m s kd) (q:Ro h h'):Bn h' B σ m s kd:=x.ch q id id fun J=>rfl
theorem Bv.at:∀{f:F},Bv h B σ f→∀x∈f.nodes,Bn h B σ x.1 x.2.1 x.2.2:=by
 intro J1
 induction J1 with
 | nil=>
  intro J x hx
  contradiction
 | node m s k r J8 J9=>
  rintro⟨a,b,c⟩ x hx
  simp only[F.nodes0,F.nodes1,List.mem_cons,List.mem_append]at hx
  rcases hx with rfl | hx | hx
  ·exact a
  ·exact J8 b x hx
  ·exact J9 c x hx
theorem Bv_iff:∀{f:F},Bv h B σ f↔∀x∈f.nodes,Bn h B σ x.1 x.2.1 x.2.2:=by
 intro J1
 induction J1 with
 | nil=>
  simp[Bv0,Bv1,F.nodes0,F.nodes1]
 | node m s k r J8 J9=>
  simp only[Bv0,Bv1,F.nodes0,F.nodes1,List.mem_cons,List.mem_append]
  rw[J8,J9]
  constructor
  ·rintro⟨a,b,c⟩ x (rfl | hx | hx)
   ·exact a
   ·exact b x hx
   ·exact c x hx
  ·intro a
   exact⟨a (m,s,k) (.inl rfl),fun x hx=>a x (.inr (.inl hx)),fun x hx=>a x (.inr (.inr hx))⟩
theorem Bv.sub {f g:F}(x:Bv h B σ f) (hs:∀y∈g.nodes,y∈f.nodes):Bv h B σ g:=by
 rw[Bv_iff]at x⊢
 exact fun y hy=>x y (hs y hy)
noncomputable def SzC (k n:Nat) (a:Int) (h:Hp) (x y:V):Prop:=∀H,Ro h H→∀(K:V→Hp→Prop) (Z:Hp→Prop),(∀h',Ro h h'→K y h')→callP prog n k [x,.str (axS a)] H K Z
theorem w_ix0 {j:Nat}{v:V}{vs:List V}{K:V→Prop}(g:h[j]?=some (.list (v::vs))) (x:K v):wO (item (.ref j) (.int 0) h) K:=w_ix (i:=0) g rfl x
theorem size_all (ha:a=0∨a=1) {f:F}:∀{h:Hp},Bv h B σ f→Srt f→Full f→SzOk a σ f→f.count<500→∀(n:Nat),f.count≤n→All2 (SzC 24 n a h) (f.roots.map fun c=>V.ref (B.β c)) (f.roots.map fun c=>V.int (σ c a)):=by
 induction f with
 | nil=>intros;exact .nil
 | node m s k r ihk ihr=>
  intro h b hs hf hz hc n hn
  have hc:k.count+r.count+1<500:=hc
  cases n with
  | zero=>contradiction
  | succ n=>
  have hn:k.count+r.count+1≤n+1:=hn
  have hrl:=F.roots_length k
  refine .cons (fun H ro K Z x=>?_) (ihr b.2.2 hs.2.2 hf.2.2 hz.2.2 (by lia) _ (by lia))
  have x:∀h',Ro h h'→K (.int (σ m a)) h':=x
  obtain⟨fs,g,q⟩:=b.1.inst
  refine c24 ?_
  refine w_dks (ro.get g) q.sort ?_
  refine w_some (w_by (fun e=>?_) fun e=>?_)
  ·refine w_dks (ro.get g) (q.ax ha (sort_leaf.mp e)) ?_
   exact x _ ro
  ·have h0:s≠0:=fun z=>e (sort_leaf.mpr z)
   refine w_dks (ro.get g) q.kids ?_
   refine w_it (ro.get b.1.kids) ?_
   refine comp_map (fun G=>Ro H G) ((ihk (b.2.1.ro ro) hs.2.1 hf.2.1 hz.2.1 (by lia) n (by lia)).imp fun u y c G rg K k=>by exact c G rg _ _ k) (pre:=[]) (fun G rg=>rg.get (ro.get b.1.kids)) .refl (by rw[List.length_map,turns_eq];lia) fun h2 o2=>?_
   refine w_list (by rw[List.nil_append,List.length_map,lim_eq];lia) fun i h3 li gi o3=>?_
   rw[List.nil_append]at gi
   have ro3:=(ro.trans o2).trans o3
   refine w_dks (ro3.get g) q.sort ?_
   have z:=hz.1 h0
   refine w_some (w_by (fun e=>?_) fun e=>?_)
   ·rw[if_pos ((sort_ax hs.1 ha).mp e).2]at z
    rw[z]at x
    exact w_sum (is:=k.roots.map fun c=>σ c a) (by rw[List.map_map];exact gi) (x _ ro3)
   ·rw[if_neg fun y=>e ((sort_ax hs.1 ha).mpr ⟨h0,y⟩)]at z
    have hk:=F.roots_ne fun y=>h0 (hf.1.mpr y)
    generalize k.roots=l at gi z hk
    cases l with
    | nil=>exact absurd rfl hk
    | cons c l=>
     rw[← z c (.head _)]at x
     exact w_ix0 gi (x _ ro3)
theorem least_all (ha:a=0∨a=1) {f:F}:∀{h:Hp},Bv h B σ f→Srt f→Full f→f.count<500→∀(n:Nat),f.count≤n→All2 (SzC 25 n a h) (f.roots.map fun c=>V.ref (B.β c)) ((least a f).map V.int):=by
 induction f with
 | nil=>intros;exact .nil
 | node m s k r ihk ihr=>
  intro h b hs hf hc n hn
  have hc:k.count+r.count+1<500:=hc
  cases n with
  | zero=>contradiction
  | succ n=>
  have hn:k.count+r.count+1≤n+1:=hn
  have hrl:=F.roots_length k
  have hll:=least_length a k
  refine .cons (fun H ro K Z x=>?_) (ihr b.2.2 hs.2.2 hf.2.2 (by lia) _ (by lia))
  have x:∀h',Ro h h'→K (.int (if s=0 then(if a=0 then 3 else 2)else if along s=a then(least a k).sum else lmax (least a k))) h':=x
  obtain⟨fs,g,q⟩:=b.1.inst
  refine c25 ?_
  refine w_dks (ro.get g) q.sort ?_
  refine w_some (w_by (fun e=>?_) fun e=>?_)
  ·rw[if_pos (sort_leaf.mp e)]at x
   refine w_some (w_by (fun e=>?_) fun e=>?_)
   ·rw[if_pos (ax_eq ha e)]at x
    exact x _ ro
   ·rw[if_neg fun z=>e (by rw[z];rfl)]at x
    exact x _ ro
  ·have h0:s≠0:=fun z=>e (sort_leaf.mpr z)
   rw[if_neg h0]at x
   refine w_dks (ro.get g) q.kids ?_
   refine w_it (ro.get b.1.kids) ?_
   refine comp_map (fun G=>Ro H G) ((ihk (b.2.1.ro ro) hs.2.1 hf.2.1 (by lia) n (by lia)).imp fun u y c G rg K k=>by exact c G rg _ _ k) (pre:=[]) (fun G rg=>rg.get (ro.get b.1.kids)) .refl (by rw[List.length_map,turns_eq];lia) fun h2 o2=>?_
   refine w_list (by rw[List.nil_append,List.length_map,lim_eq];lia) fun i h3 li gi o3=>?_
   have ro3:=(ro.trans o2).trans o3
   refine w_dks (ro3.get g) q.sort ?_
   refine w_some (w_by (fun e=>?_) fun e=>?_)
   ·rw[if_pos ((sort_ax hs.1 ha).mp e).2]at x
    exact w_sum gi (x _ ro3)
   ·rw[if_neg fun y=>e ((sort_ax hs.1 ha).mpr ⟨h0,y⟩)]at x
    exact w_max gi (maxI_some fun z=>F.roots_ne (fun y=>h0 (hf.1.mpr y)) (List.length_eq_zero_iff.mp (hll.symm.trans (congrArg List.length z)))) (x _ ro3)
end
end Mine
namespace Mine
section
variable {h h' h₀:Hp}{B:BS}{σ σ':Int→Int→Int}{m s a:Int}{own:Nat→Prop}{Z:Hp→Prop}{Q:V→Hp→Prop}
noncomputable def LSpec (B:BS) (a:Int) (n:Nat) (t:F):Prop:=∀(h:Hp) (σ:Int→Int→Int) (b:Int) (l0:List V),Bv h B σ t→Fit a σ t→SzOk a σ t→lead a t≤b→b≤1000→h[0]?=some (.list l0)→∀(Q:V→Hp→Prop) (Z:Hp→Prop),
 (∀h' σ',Ch (BOwn B t) h h'→Bv h' B σ' t→SetF a σ σ' t [b]→(∀x,x∉t.nums→∀y,σ' x y=σ x y)→Q .none h')→callP prog n 26 [.ref (B.β t.head),.str (axS a),.int b] h Q Z
structure SIn (B:BS) (a:Int) (n:Nat) (h:Hp) (σ:Int→Int→Int) (ts:List F) (bs:List Int):Prop where
 ls:∀t∈ts,LSpec B a n t∧Bv h B σ t∧Fit a σ t∧SzOk a σ t
 nd:(ts.flatMap F.nums).Nodup
 bd:All2 (fun t b=>lead a t≤b∧b≤1000) ts bs
 z0:∃l0,h[0]?=some (.list l0)
 inj:∀x∈ts.flatMap F.nums,∀y∈ts.flatMap F.nums,B.β x=B.β y→x=y
structure SOut (B:BS) (a:Int) (h:Hp) (σ:Int→Int→Int) (h':Hp) (σ':Int→Int→Int) (ts:List F) (bs:List Int):Prop where
 ch:Ch (fun j=>∃t∈ts,BOwn B t j) h h'
 bv:∀t∈ts,Bv h' B σ' t
 set:All2 (fun t b=>SetF a σ σ' t [b]) ts bs
 out:∀x,x∉ts.flatMap F.nums→∀y,σ' x y=σ x y
theorem Bn.tyne {kd kd':F}{m' s':Int}(x:Bn h B σ m s kd) (y:Bn h B σ' m' s' kd'):B.ι m≠B.β m':=fun z=>by
 obtain⟨fs,g,_⟩:=y.inst
 have:=x.kids
 rw[z,g]at this;cases this
theorem Bv.apart {t t':F}(x:Bv h B σ t) (y:Bv h B σ' t') (dj:∀b∈t.nums,b∉t'.nums) (inj:∀b∈t.nums,∀c∈t'.nums,B.β b=B.β c→b=c):∀b∈t.nums,¬BOwn B t' (B.β b)∧¬BOwn B t' (B.ι b):=by
 intro b hb
 obtain⟨sb,kb,hb'⟩:=num_node hb
 have wb:=x.at _ hb'
 refine⟨?_,?_⟩
 ·rintro⟨c,hc,e⟩
  exact dj b hb (inj b hb c hc e▸hc)
 ·rintro⟨c,hc,e⟩
  obtain⟨sc,kc,hc'⟩:=num_node hc
  exact wb.tyne (y.at _ hc') e
theorem blist_apart {t:F}{j:Nat}{vs:List V}(y:Bv h B σ t) (e:h[j]?=some (.list vs)):¬BOwn B t j:=by
 rintro⟨c,hc,e'⟩
 obtain⟨sc,kc,hc'⟩:=num_node hc
 obtain⟨fs,g,_⟩:=(y.at _ hc').inst
 have g':h[B.β c]?=some (.dictS fs):=g
 rw[e',g']at e;cases e
theorem SzOk.congr {a:Int}{σ σ':Int→Int→Int}:∀{f:F},SzOk a σ f→(∀x∈f.nums,∀y,σ' x y=σ x y)→SzOk a σ' f:=by
 intro J1
 induction J1 with
 | nil=>
  intro J J
  exact trivial
 | node m s k r J8 J9=>
  rintro⟨h1,h2,h3⟩ e
  simp only[F.nums0,F.nums1,List.mem_cons,List.mem_append]at e
  refine⟨fun hs=>?_,J8 h2 fun x hx=>e x (.inr (.inl hx)),J9 h3 fun x hx=>e x (.inr (.inr hx))⟩
  have:=h1 hs
  have ek:∀c∈k.roots,σ' c a=σ c a:=fun c hc=>e c (.inr (.inl (roots_sub.subset hc))) a
  split at this
  ·rename_i q
   rw[if_pos q,e m (.inl rfl),this]
   congr 1
   exact List.map_congr_left fun c hc=>(ek c hc).symm
  ·rename_i q
   rw[if_neg q]
   intro c hc
   rw[ek c hc,e m (.inl rfl)]
   exact this c hc
theorem SIn.step {n:Nat}{t:F}{ts:List F}{b:Int}{bs:List Int}{h₂:Hp}{σ₂:Int→Int→Int}(x:SIn B a n h σ (t::ts) (b::bs)) (ch:Ch (BOwn B t) h h₂) (out:∀x,x∉t.nums→∀y,σ₂ x y=σ x y):SIn B a n h₂ σ₂ ts bs:=by
 have nd:=x.nd
 rw[List.flatMap_cons,List.nodup_append]at nd
 obtain⟨nd1,nd2,disj⟩:=nd
 have bt:=(x.ls t (.head _)).2.1
 refine⟨fun t' ht'=>?_,nd2,by cases x.bd;assumption,?_,fun y hy z hz=>x.inj y (by rw[List.flatMap_cons];exact List.mem_append_right _ hy) z (by rw[List.flatMap_cons];exact List.mem_append_right _ hz)⟩
 ·have J:=x.ls t' (.tail _ ht');have l1:=J.1;have l2:=J.2.1;have l3:=J.2.2.1;have l4:=J.2.2.2
  have dj:∀c∈t'.nums,c∉t.nums:=fun c hc hc'=>disj c hc' c (List.mem_flatMap.mpr ⟨t',ht',hc⟩) rfl
  have eq:∀c∈t'.nums,∀y,σ₂ c y=σ c y:=fun c hc=>out c (dj c hc)
  refine⟨l1,l2.ch ch (l2.apart bt dj fun c hc d hd=>x.inj c ?_ d ?_) eq,l3.congr eq,l4.congr eq⟩
  ·exact List.mem_flatMap.mpr ⟨t',.tail _ ht',hc⟩
  ·exact List.mem_flatMap.mpr ⟨t,.head _,hd⟩
 ·obtain⟨l0,z0⟩:=x.z0
  exact⟨l0,ch.keep _ _ z0 (.inl (blist_apart bt z0))⟩
theorem SOut.cons {n:Nat}{t:F}{ts:List F}{b:Int}{bs:List Int}{h₂ h₃:Hp}{σ₂ σ₃:Int→Int→Int}(x:SIn B a n h σ (t::ts) (b::bs)) (ch:Ch (BOwn B t) h h₂) (bv:Bv h₂ B σ₂ t) (set:SetF a σ σ₂ t [b]) (out:∀x,x∉t.nums→∀y,σ₂ x y=σ x y) (y:SOut B a h₂ σ₂ h₃ σ₃ ts bs):SOut B a h σ h₃ σ₃ (t::ts) (b::bs):=by
 have nd:=x.nd
 rw[List.flatMap_cons,List.nodup_append]at nd
 obtain⟨nd1,nd2,disj⟩:=nd
 have x2:=x.step ch out
 have eqt:∀c∈t.nums,∀z,σ₃ c z=σ₂ c z:=fun c hc=>y.out c fun q=>disj c hc c q rfl
 refine⟨(Ch.mem ch fun j q=>⟨t,.head _,q⟩).trans (Ch.mem y.ch fun j J8=>J8.elim fun t' J9=>J9.elim fun ht' q=>⟨t',.tail _ ht',q⟩),fun t' ht'=>?_,.cons (set.congr (fun J J J=>rfl) eqt) ?_,fun c hc z=>?_⟩
 ·rcases List.mem_cons.mp ht' with rfl | ht'
  ·refine bv.ch y.ch (fun c hc=>?_) eqt
   have ap:∀t''∈ts,¬BOwn B t'' (B.β c)∧¬BOwn B t'' (B.ι c):=fun t'' h''=>bv.apart (x2.ls t'' h'').2.1 (fun d hd hd'=>disj d hd d (List.mem_flatMap.mpr ⟨t'',h'',hd'⟩) rfl) (fun d hd e he=>x.inj d (List.mem_flatMap.mpr ⟨t',.head _,hd⟩) e (List.mem_flatMap.mpr ⟨t'',.tail _ h'',he⟩)) c hc
   exact⟨fun J1=>J1.elim fun t'' J2=>J2.elim fun h'' q=>(ap t'' h'').1 q,fun J3=>J3.elim fun t'' J4=>J4.elim fun h'' q=>(ap t'' h'').2 q⟩
  ·exact y.bv t' ht'
 ·have:∀(l:List F) (cs:List Int),(∀t'∈l,t'∈ts)→All2 (fun t b=>SetF a σ₂ σ₃ t [b]) l cs→All2 (fun t b=>SetF a σ σ₃ t [b]) l cs:=by
   intro l
   induction l with
   | nil=>intro cs J q;cases q;exact .nil
   | cons t' l ih=>
    intro cs hm q
    cases q with
    | cons q1 q2=>
     refine .cons (q1.congr (fun d hd z=>?_) fun J J J=>rfl) (ih _ (fun t'' h''=>hm t'' (.tail _ h'')) q2)
     exact(out d (fun hd'=>disj d hd' d (List.mem_flatMap.mpr ⟨t',hm t' (.head _),hd⟩) rfl) z).symm
  exact this ts _ (fun J h=>h) y.set
 ·rw[List.flatMap_cons,List.mem_append,not_or]at hc
  rw[y.out c hc.2,out c hc.1]
theorem lset_for1 {n k q:Nat}{a0:V}{b:Int}{o4 o5 o6 o7 o8:Option V}{N:Fr→Hp→Prop}{T:V→Hp→Prop}{ts:List F}:∀{pre:List V}{i:Nat}{h:Hp}{σ:Int→Int→Int}{o3:Option V},i=pre.length→SIn B a n h σ ts (List.replicate ts.length b)→h[q]?=some (.list (pre++ts.map fun t=>V.ref (B.β t.head)))→
  (∀h' σ' o3,SOut B a h σ h' σ' ts (List.replicate ts.length b)→N (fc a0 (fc (.str (axS a)) (fc (.int b) (fo o3 (fo o4 (fo o5 (fo o6 (fo o7 (fo o8 (fz 0)))))))))) h')→
  lf1 (cn prog n) 3 f26b1 T (k+1+ts.length) (.seq q i) (fc a0 (fc (.str (axS a)) (fc (.int b) (fo o3 (fo o4 (fo o5 (fo o6 (fo o7 (fo o8 (fz 0)))))))))) h N:=by
 induction ts with
 | nil=>
  intro pre i h σ o3 hi x gq hN
  refine w_f1e (end_seq gq (by simp[hi])) ?_
  exact hN h σ o3 ⟨.refl,fun t h=>(by contradiction),.nil,fun J J J=>rfl⟩
 | cons t ts ih=>
  intro pre i h σ o3 hi x gq hN
  have x:SIn B a n h σ (t::ts) (b::List.replicate ts.length b):=x
  have l:=x.ls t (.head _)
  obtain⟨l0,z0⟩:=x.z0
  have bd:=x.bd
  cases bd with
  | cons b1 b2=>
  refine w_f1 (n:=k+1+ts.length) (v:=.ref (B.β t.head)) (next_seq gq (by simp[hi])) ?_
  refine l.1 h σ b l0 l.2.1 l.2.2.1 l.2.2.2 b1.1 b1.2 z0 _ _ fun h2 σ2 ch2 bv2 set2 out2=>?_
  exact ih (pre:=pre++[.ref (B.β t.head)]) (by simp[hi]) (x.step ch2 out2) (by rw[ch2.keep _ _ gq (.inl (blist_apart l.2.1 gq))];simp) fun h3 σ3 o3 y=>hN h3 σ3 o3 (SOut.cons x ch2 bv2 set2 out2 y)
theorem next_enum {q k:Nat}{v:V}{vs:List V}(e:h[q]?=some (.list vs)) (ev:vs[k]?=some v):nextI (.enum q k) h=some (some ([.int k,v],.enum q (k+1))):=by
 unfold nextI;dsimp only;rw[e];dsimp only;rw[ev]
theorem end_enum {q k:Nat}{vs:List V}(e:h[q]?=some (.list vs)) (ev:vs.length≤k):nextI (.enum q k) h=some none:=by
 unfold nextI;dsimp only;rw[e];dsimp only;rw[List.getElem?_eq_none ev]
theorem lset_for2 {n k q g:Nat}{a0 a2:V}{o4 o5:Option V}{rest:Int}{got:List Int}{N:Fr→Hp→Prop}{T:V→Hp→Prop}{ts:List F}:∀{bs:List Int}{pre:List V}{gp:List Int}{i:Nat}{h:Hp}{σ:Int→Int→Int}{o3 o8:Option V},i=pre.length→SIn B a n h σ ts (addRest rest i bs)→got=gp++bs→gp.length=i→h[q]?=some (.list (pre++ts.map fun t=>V.ref (B.β t.head)))→h[g]?=some (.list (got.map V.int))→
  (∀h' σ' o3 o8,SOut B a h σ h' σ' ts (addRest rest i bs)→N (fc a0 (fc (.str (axS a)) (fc a2 (fo o3 (fo o4 (fo o5 (fc (.ref g) (fc (.int rest) (fo o8 (fz 0)))))))))) h')→
  lf2 (cn prog n) 8 3 f26b2 T (k+1+ts.length) (.enum q i) (fc a0 (fc (.str (axS a)) (fc a2 (fo o3 (fo o4 (fo o5 (fc (.ref g) (fc (.int rest) (fo o8 (fz 0)))))))))) h N:=by
 induction ts with
 | nil=>
  intro bs pre gp i h σ o3 o8 hi x he hp gq gg hN
  refine w_f2e (end_enum gq (by simp[hi])) ?_
  cases bs with
  | nil=>exact hN h σ o3 o8 ⟨.refl,fun t h=>(by contradiction),.nil,fun J J J=>rfl⟩
  | cons J J1=>cases x.bd
 | cons t ts ih=>
  intro bs pre gp i h σ o3 o8 hi x he hp gq gg hN
  cases bs with
  | nil=>cases x.bd
  | cons c bs=>
  have l:=x.ls t (.head _)
  obtain⟨l0,z0⟩:=x.z0
  have bd:=x.bd
  cases bd with
  | cons b1 b2=>
  have e2:got=(gp++[c])++bs:=by rw[he];simp
  refine w_f2 (n:=k+1+ts.length) (v:=.int i) (u:=.ref (B.β t.head)) (next_enum gq (by simp[hi])) rfl ?_
  refine w_ix gg (i:=i) (v:=.int c) (by rw[he,← hp];simp) ?_
  have tail:∀{K:V→Hp→Prop} {Z:Hp→Prop} {z:Int},z=c+(if(i:Int)<rest then 1 else 0)→(∀h2,lf2 (cn prog n) 8 3 f26b2 T (k+1+ts.length) (.enum q (i+1)) (fc a0 (fc (.str (axS a)) (fc a2 (fc (.ref (B.β t.head)) (fo o4 (fo o5 (fc (.ref g) (fc (.int rest) (fc (.int i) (fz 0)))))))))) h2 N→K .none h2)→callP prog n 26 [.ref (B.β t.head),.str (axS a),.int z] h K Z:=fun e kk=>by
   rw[e]
   exact l.1 h σ _ l0 l.2.1 l.2.2.1 l.2.2.2 b1.1 b1.2 z0 _ _ fun h2 σ2 ch2 bv2 set2 out2=>kk h2 (ih (pre:=pre++[.ref (B.β t.head)]) (gp:=gp++[c]) (by simp[hi]) (x.step ch2 out2) e2 (by simp[hp]) (by rw[ch2.keep _ _ gq (.inl (blist_apart l.2.1 gq))];simp) (ch2.keep _ _ gg (.inl (blist_apart l.2.1 gg))) fun h3 σ3 o3 o8 y=>hN h3 σ3 o3 o8 (SOut.cons x ch2 bv2 set2 out2 y))
  refine w_some (w_by (fun e=>?_) fun e=>?_)
  ·refine w_ok (tail (by rw[if_pos e]) fun h2 x=>?_)
   exact x
  ·refine w_ok (tail (by rw[if_neg e]) fun h2 x=>?_)
   exact x
end
end Mine
namespace Mine
theorem least_trees (a:Int):∀f:F,least a f=f.trees.map (lead a)
 | .nil=>rfl
 | .node m s k r=>by
  have e:least a (.node m s k r)=(least a (.node m s k .nil)).headD 0::least a r:=rfl
  rw[e,least_trees a r];rfl
theorem All2.of_mapL {α β γ:Type}{R:β→γ→Prop}{f:α→β}:∀{as:List α}{cs:List γ},All2 R (as.map f) cs→All2 (fun a c=>R (f a) c) as cs
 | [],_,.nil=>.nil
 | a::as,_::_,.cons h t=>.cons h t.of_mapL
theorem SetF_trees {a:Int}{σ σ':Int→Int→Int}:∀{f:F}{bs:List Int},All2 (fun t b=>SetF a σ σ' t [b]) f.trees bs→SetF a σ σ' f bs
 | .nil,_,_=>trivial
 | .node m s k r,_::_,.cons ⟨h1,h2,h3,_⟩ t=>⟨h1,h2,h3,SetF_trees t⟩
theorem Tgt.trees {a:Int}{f:F}{bs:List Int}(x:Tgt a f bs):All2 (fun t b=>lead a t≤b∧b≤1000) f.trees bs:=by
 unfold Tgt at x
 rw[least_trees]at x
 exact x.of_mapL
theorem F.count_trees {f t:F}(h:t∈f.trees):t.count≤f.count:=by
 obtain⟨x,hx,rfl⟩:=trees_nodes h
 exact F.count_nodes x hx
theorem Srt.nodes:∀{f:F},Srt f→∀x∈f.nodes,Srt (F.one x):=by
 intro J1
 induction J1 with
 | nil=>
  intro J x hx
  cases hx
 | node m s k r J8 J9=>
  rintro⟨a,b,c⟩ x hx
  simp only[F.nodes0,F.nodes1,List.mem_cons,List.mem_append]at hx
  rcases hx with rfl | hx | hx
  ·exact⟨a,b,trivial⟩
  ·exact J8 b x hx
  ·exact J9 c x hx
theorem SzOk.nodes {a:Int}{σ:Int→Int→Int}:∀{f:F},SzOk a σ f→∀x∈f.nodes,SzOk a σ (F.one x):=by
 intro J1
 induction J1 with
 | nil=>
  intro J x hx
  cases hx
 | node m s k r J8 J9=>
  rintro⟨q,b,c⟩ x hx
  simp only[F.nodes0,F.nodes1,List.mem_cons,List.mem_append]at hx
  rcases hx with rfl | hx | hx
  ·exact⟨q,b,trivial⟩
  ·exact J8 b x hx
  ·exact J9 c x hx
theorem roots_heads (f:F) {γ:Type}(g:Int→γ):f.roots.map g=f.trees.map fun t=>g t.head:=by
 rw[← F.trees_roots,List.map_map];rfl
section
variable {h h' h₀:Hp}{B:BS}{σ σ':Int→Int→Int}{m s a:Int}{own:Nat→Prop}{Z:Hp→Prop}{Q:V→Hp→Prop}
theorem Bn.any {kd:F}(x:Bn h B σ m s kd) (hs:s≠0):Bn h B σ' m s kd:=⟨let⟨fs,a,b⟩:=x.inst;⟨fs,a,b.sort,b.kids,b.len,fun z=>absurd z hs,fun z=>absurd z hs⟩,x.kids⟩
theorem upd_ne {σ:Int→Int→Int}{m a b x:Int}(h:x≠m) (y:Int):upd σ m a b x y=σ x y:=by unfold upd;rw[if_neg fun z=>h z.1]
theorem upd_eq {σ:Int→Int→Int}{m a b:Int}:upd σ m a b m a=b:=by unfold upd;rw[if_pos ⟨rfl,rfl⟩]
theorem upd_other {σ:Int→Int→Int}{m a b y:Int}(h:y≠a):upd σ m a b m y=σ m y:=by unfold upd;rw[if_neg fun z=>h z.2]
theorem spare_zip (a:Int) (σ:Int→Int→Int):∀f:F,spareF a σ f=List.zipWith (fun x l=>x-l) (f.roots.map fun c=>σ c a) (least a f)
 | .nil=>rfl
 | .node m s k r=>by
  have e:least a (.node m s k r)=(least a (.node m s k .nil)).headD 0::least a r:=rfl
  rw[e]
  simp only[spareF0,spareF1,F.roots0,F.roots1,List.map_cons,List.zipWith_cons_cons,spare_zip a σ r]
theorem zipb_all {n:Nat}{fr:Fr}(f1:fr[1]?.join=some (.str (axS a))) {xs:List V}:∀{ys ls:List Int},All2 (SzC 24 n a h) xs (ys.map V.int)→ys.length=ls.length→
  All2 (fun x y=>∀H,Ro h H→∀K:Kt,(∀h',Ro h h'→K fr h' [y])→go (cn prog n) (pC x) K f26e2 fr H []) (List.zipWith (fun x y=>[x,y]) xs (ls.map V.int)) ((List.zipWith (fun x l=>x-l) ys ls).map V.int):=by
 induction xs with
 | nil=>intro ys ls x hl;cases ys with
  | nil=>exact .nil
  | cons J J1=>contradiction
 | cons x xs ih=>intro ys ls q hl;cases ys with
  | nil=>contradiction
  | cons y ys=>cases ls with
   | nil=>contradiction
   | cons l ls=>cases q with
    | cons q1 q2=>
     refine .cons (fun H ro K k=>?_) (ih q2 (Nat.succ.inj hl))
     refine w_v f1 ?_
     refine q1 H ro _ _ fun h' ro'=>?_
     exact w_ok (k h' ro')
theorem cut_all {n:Nat}{H:Hp}{fr:Fr}{j4 j5:Nat}{b:Int}{L sp:List Int}(f2:fr[2]?.join=some (.int b)) (f4:fr[4]?.join=some (.ref j4)) (f5:fr[5]?.join=some (.ref j5)) (g4:H[j4]?=some (.list (L.map V.int))) (g5:H[j5]?=some (.list (sp.map V.int))) (hr:(b-L.sum).natAbs≤1000000) (hw:0<sp.sum) (hw2:sp.sum<1073741824) {ws:List Int}:∀{ls:List Int},ws.length=ls.length→(∀w∈ws,0≤w∧w≤100000)→
  All2 (fun x y=>∀K:Kt,K fr H [y]→go (cn prog n) (pC x) K f26e3 fr H []) (List.zipWith (fun x y=>[x,y]) (ls.map V.int) (ws.map V.int)) ((cutF (b-L.sum) sp.sum ws ls).map V.int):=by
 induction ws with
 | nil=>intro ls hl J;cases ls with
  | nil=>exact .nil
  | cons J J1=>contradiction
 | cons w ws ih=>intro ls hl hb;cases ls with
  | nil=>contradiction
  | cons l ls=>
   refine .cons (fun K k=>?_) (ih (Nat.succ.inj hl) fun x hx=>hb x (.tail _ hx))
   have hx:=hb w (.head _)
   refine w_v f2 (w_v f4 ?_)
   refine w_sum g4 ?_
   refine w_ok ?_
   refine w_mul (by rw[big_eq];exact Nat.le_trans (by assumption) (by simp)) (by rw[big_eq];lia) ?_
   refine w_v f5 ?_
   refine w_sum g5 ?_
   exact w_div hw hw2 (w_ok k)
noncomputable def f26r:List I:=[.var 4,.var 5,.comp .zip 2 f26e3,.st 6,.var 2,.var 6,.bi .sum 1,.bin .sub,.st 7,.var 0,.push (.str 46),.item,.for2 8 3 .enum f26b2]
theorem Bf.put {fs:List (Nat×V)}{b:Int}(x:Bf B σ m s fs) (ha:a=0∨a=1) (hs:s=0):Bf B (upd σ m a b) m s (putF (axS a) (.int b) fs):=by
 have n1:(23:Nat)≠axS a:=by rcases ha with rfl | rfl<;>decide
 have n2:(46:Nat)≠axS a:=by rcases ha with rfl | rfl<;>decide
 refine⟨by rw[findF_put,if_neg n1];exact x.sort,by rw[findF_put,if_neg n2];exact x.kids,Nat.le_trans (Nat.le_of_eq (putF_same (x.ax ha hs))) x.len,fun J=>?_,fun J=>?_⟩
 ·rw[findF_put]
  rcases ha with rfl | rfl
  ·rw[if_pos (show(49:Nat)=axS 0 from rfl),upd_eq]
  ·rw[if_neg (by decide),upd_other (by decide)];exact x.wid hs
 ·rw[findF_put]
  rcases ha with rfl | rfl
  ·rw[if_neg (by decide),upd_other (by decide)];exact x.hgt hs
  ·rw[if_pos (show(43:Nat)=axS 1 from rfl),upd_eq]
theorem lspec (ha:a=0∨a=1) (N:Nat):∀(t:F),t.count≤N→N<400→(∃x,t=F.one x)→Srt t→Full t→t.nums.Nodup→(∀x∈t.nums,∀y∈t.nums,B.β x=B.β y→x=y)→∀n,t.count≤n→LSpec B a n t:=by
 induction N with
 | zero=>rintro t hN _ ⟨x,rfl⟩;contradiction
 | succ N ih=>
  rintro t hN hN4 ⟨⟨m,s,k⟩,rfl⟩ hsr hfu hnd hinj n hn h σ b l0 hb hfit hsz h1 h2 z0 Q Z x
  have hN:k.count+0+1≤N+1:=hN
  have hn:k.count+0+1≤n:=hn
  have h1:lead a (.node m s k .nil)≤b:=h1
  have bn:Bn h B σ m s k:=hb.1
  have bk:Bv h B σ k:=hb.2.1
  have s2:Srt k:=hsr.2.1
  have u1:s=0↔k=.nil:=hfu.1
  have u2:Full k:=hfu.2.1
  have z2:SzOk a σ k:=hsz.2.1
  have f2:Fit a σ k:=hfit.2.1
  have enum:(F.one (m,s,k)).nums=m::k.nums:=by rw[F.one,F.nums1,F.nums0,List.append_nil]
  rw[enum]at hnd hinj
  rw[List.nodup_cons]at hnd
  have hm:∀{y},y∈k.nums→y∈m::k.nums:=.tail _
  cases n with
  | zero=>cases hn
  | succ n=>
  obtain⟨fs,g,q⟩:=bn.inst
  have bz:B.β m≠0:=fun z=>by rw[z,z0]at g;cases g
  have h0b:0≤b:=by
   have:2≤lead a (.node m s k .nil):=least_pos (a:=a) (f:=.node m s k .nil) ⟨u1,u2,trivial⟩ _ (.head _)
   lia
  have hout:∀{σ1:Int→Int→Int},(∀x,x∉k.nums→∀y,σ1 x y=σ x y)→∀x,x∉(F.one (m,s,k)).nums→∀y,upd σ1 m a b x y=σ x y:=fun o x hx y=>by
   rw[enum,List.mem_cons,not_or]at hx
   rw[upd_ne hx.1,o x hx.2]
  refine c26 ?_
  refine w_dks g q.sort ?_
  refine w_some (w_by (fun e=>?_) fun e=>?_)
  ·have hs:=sort_leaf.mp e
   have hk:k=.nil:=u1.mp hs
   refine w_puts g (Nat.lt_of_le_of_lt q.len (by rw[lim_eq];decide)) bz fun h' g' ch=>?_
   have nk:B.ι m≠B.β m:=fun z=>by have:=bn.kids;rw[z,g]at this;cases this
   refine x h' (upd σ m a b) (ch.mem fun i e=>⟨m,by rw[enum];exact .head _,e⟩) ⟨⟨⟨_,g',q.put ha hs⟩,ch.ne bn.kids nk⟩,by rw[hk];trivial,trivial⟩ ⟨upd_eq,fun x hx=>upd_other hx,by rw[if_pos hs];trivial,trivial⟩ (hout fun J J J=>rfl)
  ·have hs:s≠0:=fun z=>e (sort_leaf.mpr z)
   have hk:k≠.nil:=fun z=>hs (u1.mpr z)
   have hrl:=F.roots_length k
   have htl:=F.trees_length k
   have hll:=least_length a k
   have tgt:Tgt a k (kidsT a σ s k b):=Tgt.kids hs u2 hk (by lia) f2 h1 h2
   have sin:∀h1,Ro h h1→SIn B a n h1 σ k.trees (kidsT a σ s k b):=fun h1 ro=>by
    refine⟨fun t ht=>?_,by rw[trees_nums];exact hnd.2,tgt.trees,⟨l0,ro.get z0⟩,fun x hx y hy=>?_⟩
    ·obtain⟨x,hx,rfl⟩:=trees_nodes ht
     have ct:=F.count_nodes x hx
     have sub:∀y∈(F.one x).nums,y∈m::k.nums:=fun y hy=>by
      obtain⟨sy,ky,hy'⟩:=num_node hy
      exact hm (nodes_num (one_nodes hx _ hy'))
     exact⟨ih _ (by lia) (by exact Nat.le_of_lt (by assumption)) ⟨x,rfl⟩ (s2.nodes x hx) (u2.nodes x hx) (F.nd_nodes hnd.2 x hx) (fun y hy z hz=>hinj y (sub y hy) z (sub z hz)) n (by lia),(bk.sub (one_nodes hx)).ro ro,f2.nodes x hx,z2.nodes x hx⟩
    ·rw[trees_nums]at hx hy
     exact hinj x (hm hx) y (hm hy)
   have fin:∀h1 h2 σ1,Ro h h1→SOut B a h1 σ h2 σ1 k.trees (kidsT a σ s k b)→Q .none h2:=by
    intro h1 h2 σ1 ro y
    have out1:∀x,x∉k.nums→∀z,σ1 x z=σ x z:=fun x hx=>y.out x (by rw[trees_nums];exact hx)
    have bk2:Bv h2 B σ1 k:=by
     rw[Bv_iff]
     intro x hx
     have hxn:=nodes_num hx
     rw[← trees_nums,List.mem_flatMap]at hxn
     obtain⟨t,ht,hxt⟩:=hxn
     obtain⟨sx,kx,hsk⟩:=num_node hxt
     obtain⟨z,hz,rfl⟩:=trees_nodes ht
     have hx':(x.1,x.2.1,x.2.2)∈k.nodes:=hx
     obtain⟨e1,e2⟩:=node_unique hnd.2 hx' (one_nodes hz _ hsk)
     have:=(y.bv _ ht).at _ hsk
     rw[e1,e2];exact this
    have kne:∀x∈k.nums,x≠m:=fun x hx z=>hnd.1 (z▸hx)
    have ownk:∀j,(∃t∈k.trees,BOwn B t j)→∃x∈k.nums,j=B.β x:=fun j J5=>J5.elim fun t J6=>J6.elim fun ht J7=>J7.elim fun x J8=>J8.elim fun hx q=>⟨x,by rw[← trees_nums];exact List.mem_flatMap.mpr ⟨t,ht,hx⟩,q⟩
    refine x h2 (upd σ1 m a b) ((Ro.any ro).trans (Ch.mem y.ch fun j q=>?_)) ⟨((bn.ro ro).ch (σ':=σ) y.ch ?_ ?_ fun J=>rfl).any hs,bk2.ch (own:=fun J=>False) .refl (fun J J=>⟨id,id⟩) fun x hx z=>upd_ne (kne x hx) z,trivial⟩ ⟨upd_eq,fun x hx=>by rw[upd_other hx,out1 m hnd.1],by rw[if_neg hs];exact SetF.congr (SetF_trees y.set) (fun J J J=>rfl) fun x hx z=>upd_ne (kne x hx) z,trivial⟩ (hout out1)
    ·obtain⟨x,hx,q⟩:=ownk j q
     exact⟨x,by rw[enum];exact hm hx,q⟩
    ·intro q
     obtain⟨x,hx,q⟩:=ownk _ q
     exact kne x hx (hinj m (.head _) x (hm hx) q).symm
    ·intro q
     obtain⟨x,hx,q⟩:=ownk _ q
     obtain⟨sx,kx,hx'⟩:=num_node hx
     exact bn.tyne (bk.at _ hx') q
   refine w_dks g q.sort ?_
   refine w_some (w_nby (fun e=>?_) fun e=>?_)
   ·have hal:¬along s=a:=fun z=>e ((sort_ax hsr.1 ha).mpr ⟨hs,z⟩)
    refine w_dks g q.kids ?_
    refine w_it bn.kids ?_
    have ek:kidsT a σ s k b=List.replicate k.trees.length b:=by unfold kidsT;rw[if_neg hal,htl]
    rw[ek]at sin fin
    refine lf1_more (1+k.trees.length) (by rw[turns_eq];lia) ?_
    rw[← Nat.add_assoc]
    refine lset_for1 (n:=n) (pre:=[]) rfl (sin h .refl) (by rw[bn.kids,roots_heads k fun c=>V.ref (B.β c)];rfl) fun h2 σ1 o3 y=>?_
    exact fin h h2 σ1 .refl y
   ·have hal:along s=a:=((sort_ax hsr.1 ha).mp e).2
    have ok:=sh_ok u2 hk (by lia) f2 (s:=b) ⟨h0b,h2⟩
    have J:=wts_ok ok;have wk1:=J.1;have wk2:=J.2.1;have wk3:=J.2.2.1;have wk4:=J.2.2.2
    have ek:kidsT a σ s k b=sharesF b (spareF a σ k) (least a k):=by unfold kidsT;rw[if_pos hal]
    refine w_dks g q.kids ?_
    refine w_it bn.kids ?_
    refine comp_map (fun G=>Ro h G) ((least_all ha bk s2 u2 (by lia) n (by exact Nat.le_of_lt_succ (by assumption))).imp fun x y c G rg K k=>by exact c G rg _ _ k) (pre:=[]) (fun G rg=>rg.get bn.kids) .refl (by rw[List.length_map,turns_eq];lia) fun h2 o2=>?_
    refine w_list (by rw[List.nil_append,List.length_map,lim_eq];lia) fun j4 h3 l4 g4 o3=>?_
    rw[List.nil_append]at g4
    have ro3:=o2.trans o3
    refine w_dks (ro3.get g) q.kids ?_
    refine w_zip (ro3.get bn.kids) g4 ?_
    have A2:=zipb_all (n:=n) (a:=a) (h:=h3) (fr:=(fc (.ref (B.β m)) (fc (.str (axS a)) (fc (.int b) (fo none (fc (.ref j4) (fz 4))))))) rfl (xs:=k.roots.map fun c=>V.ref (B.β c)) (ys:=k.roots.map fun c=>σ c a) (ls:=least a k) (by
     have:=size_all ha (bk.ro ro3) s2 u2 z2 (by lia) n (by exact Nat.le_of_lt_succ (by assumption))
     rw[List.map_map];exact this) (by rw[List.length_map,hll])
    rw[← spare_zip]at A2
    have hsl:=spare_length a σ k
    refine comp_feeds (Inv:=fun G=>Ro h3 G) A2 (acc:=[]) (feeds_zip (pre:=[]) (qre:=[]) (by simp[hll]) rfl fun G q=>⟨q.get (ro3.get bn.kids),q.get g4⟩) .refl (by simp[hll];rw[turns_eq];lia) fun h4 o4=>?_
    refine w_list (by rw[List.nil_append,List.length_map,lim_eq];lia) fun j5 h5 l5 g5 o5=>?_
    rw[List.nil_append]at g5
    have ro35:=o4.trans o5
    have ro05:=ro3.trans ro35
    have g45:=ro35.get g4
    have tail:∀{K:Kt} {h6:Hp} {j6:Nat} {o3:Option V},Ro h5 h6→h6[j6]?=some (.list ((wts (spareF a σ k)).map V.int))→(∀fr h',Q .none h'→K fr h' [])→
     go (cn prog n) (pF Q Z) K f26r (fc (.ref (B.β m)) (fc (.str (axS a)) (fc (.int b) (fo o3 (fc (.ref j4) (fc (.ref j6) (fz 3))))))) h6 []:=by
     intro K h6 j6 o3 ro6 g6 kk
     have g46:=ro6.get g45
     have ro06:=ro05.trans ro6
     refine w_zip g46 g6 ?_
     have hcl:=cut_length (r:=b-(least a k).sum) (w:=(wts (spareF a σ k)).sum) wk1
     refine comp_here (feeds_zip (pre:=[]) (qre:=[]) (by simp[wk1]) rfl fun G hG=>by rw[hG];exact⟨g46,g6⟩) (by simp[wk1];rw[turns_eq];lia) (cut_all (n:=n) rfl rfl rfl g46 g6 ok.room wk3 wk4 wk1 wk2) ?_
     generalize hcut:cutF (b-(least a k).sum) (wts (spareF a σ k)).sum (wts (spareF a σ k)) (least a k)=cut at hcl⊢
     refine w_list (by rw[List.length_map,hcl,lim_eq];lia) fun j7 h7 l7 g7 o7=>?_
     have ro7:=ro06.trans o7
     refine w_sum g7 ?_
     refine w_ok ?_
     refine w_dks (ro7.get g) q.kids ?_
     refine w_enum (ro7.get bn.kids) ?_
     have esh:kidsT a σ s k b=addRest (b-cut.sum) 0 cut:=by rw[ek];unfold sharesF;dsimp only;rw[hcut]
     rw[esh]at sin fin
     refine lf2_more (1+k.trees.length) (by rw[turns_eq];lia) ?_
     rw[← Nat.add_assoc]
     exact lset_for2 (n:=n) (pre:=[]) (gp:=[]) (bs:=cut) (σ:=σ) rfl (sin _ ro7) rfl rfl (by rw[ro7.get bn.kids,roots_heads k fun c=>V.ref (B.β c)];rfl) g7 fun h8 σ1 o3 o8 y=>kk _ _ (fin _ h8 σ1 ro7 y)
    refine w_sum g5 ?_
    have sp0:0≤(spareF a σ k).sum:=by
     have:=sum_ge (l:=spareF a σ k) (b:=0) fun w hw=>(ok.wlo w hw).1
     lia
    refine w_some (w_by (fun e=>?_) fun e=>?_)
    ·have ew:wts (spareF a σ k)=spareF a σ k:=by unfold wts;rw[if_neg (by exact Int.ne_of_gt (by assumption))]
     exact tail .refl (by rw[ew];exact g5) fun J J z=>z
    ·have ew:wts (spareF a σ k)=List.replicate (spareF a σ k).length 1:=by unfold wts;rw[if_pos (by lia)]
     refine w_list (by rw[lim_eq];decide) fun i6 h6 l6 g6 o6=>?_
     refine w_len (o6.get g5) ?_
     refine w_rep g6 (by rw[List.length_map,lim_eq];lia) fun i7 h7 l7 g7 o7=>?_
     exact tail (o6.trans o7) (by rw[ew,← map_rep,g7,List.length_map]) fun J J z=>z
end
end Mine
namespace Mine
section
variable {h h' h₀:Hp}{B:BS}{σ σ':Int→Int→Int}{m s a:Int}{own:Nat→Prop}{Z:Hp→Prop}{Q:V→Hp→Prop}
theorem le_lim:1≤lim:=by rw[lim_eq];decide
theorem call21 {n q:Nat}{many:Int}{ds:List Int}(hq:q≠0) (hm:0<many) (g:h[q]?=some (.list (ds.map V.int))) (x:∀(d:Int) (ds':List Int) h',0≤d→d<many→ds'.length≤ds.length→Ch (fun i=>i=q) h h'→h'[q]?=some (.list (ds'.map V.int))→Q (.int d) h'):callP prog (n+1) 21 [.ref q,.int many] h Q Z:=by
 refine c21 ?_
 cases ds with
 | nil=>
  refine w_ne0 g fun h1 o1=>w_ff ?_
  exact x 0 [] h1 (Int.le_refl _) hm (Nat.le_refl _) o1.any (o1.get g)
 | cons d ds=>
  refine w_ne1 g (List.cons_ne_nil _ _) fun h1 o1=>w_tt ?_
  refine w_ml (o1.get g) hq ?_ rfl
  refine w_pop0 (o1.get g) fun h2 g2 o2=>?_
  refine w_mod hm ?_
  exact x (d % many) ds h2 (Int.emod_nonneg _ (Int.ne_of_gt hm)) (Int.emod_lt_of_pos _ hm) (Nat.le_succ _) (o1.any.trans o2) g2
theorem call23 {n:Nat}{u v:V}(x:∀l i h',h.length≤l→l<i→h'[l]?=some (.list [])→h'[i]?=some (.dictS [(23,.str 47),(46,.ref l),(49,u),(43,v)])→Ro h h'→Q (.ref i) h'):callP prog (n+1) 23 [u,v] h Q Z:=by
 refine c23 ?_
 refine w_list (Nat.zero_le _) fun l h1 ll gl o1=>?_
 refine w_dictS fun i h2 li gi o2=>?_
 exact x l i h2 ll (Nat.lt_of_lt_of_le (lt_of_get gl) li) (o2.get gl) gi (o1.trans o2)
noncomputable def cellsF (σ:Int→Int→Int) (s:Int):F→Int→Int→List (List Int)
 | .nil,_,_=>[]
 | .node m s' k r,l,t=>[l,t,σ m 0,σ m 1]::(cellsF σ s' k l t++cellsF σ s r (if s=2 then l+σ m 0 else l) (if s=2 then t else t+σ m 1))
theorem cellsF0 {σ s l t}:cellsF σ s .nil l t=[]:=rfl
theorem cellsF1 {σ s m s' k r l t}:cellsF σ s (.node m s' k r) l t=[l,t,σ m 0,σ m 1]::(cellsF σ s' k l t++cellsF σ s r (if s=2 then l+σ m 0 else l) (if s=2 then t else t+σ m 1)):=rfl
noncomputable def Tps (h:Hp) (cs:List (List Int)) (vs:List V):Prop:=All2 (fun c v=>∃i,v=V.ref i∧h[i]?=some (.tup (c.map V.int))) cs vs
theorem Tps.ch {cs:List (List Int)}{vs:List V}(x:Tps h cs vs) (q:Ch own h h'):Tps h' cs vs:=x.imp fun _ _ J9=>J9.elim fun i J1=>J1.elim fun a b=>⟨i,a,q.keep _ _ b (.inr ⟨_,rfl⟩)⟩
theorem cellsF_length (σ:Int→Int→Int):∀(f:F) (s l t:Int),(cellsF σ s f l t).length=f.count:=by
 intro J1
 induction J1 with
 | nil=>
  intro J J J
  exact rfl
 | node m s' k r J8 J9=>
  intro s l t
  simp[cellsF0,cellsF1,F.count0,F.count1,J8,J9]
theorem size1 {n z:Nat}{k:F}(ha:a=0∨a=1) (b:Bv h B σ (.node m s k .nil)) (hs:Srt (.node m s k .nil)) (hf:Full (.node m s k .nil)) (hz:SzOk a σ (.node m s k .nil)) (hc:k.count<400) (hn:k.count<n) (e:axS a=z) (x:∀h',Ro h h'→Q (.int (σ m a)) h'):callP prog n 24 [.ref (B.β m),.str z] h Q Z:=by
 have hc:k.count+0+1<500:=by lia
 have:=size_all ha b hs hf hz hc n hn
 cases this with
 | cons h1 J=>exact e▸h1 h .refl Q Z x
theorem least1b {n z:Nat}{k:F}(ha:a=0∨a=1) (b:Bv h B σ (.node m s k .nil)) (hs:Srt (.node m s k .nil)) (hf:Full (.node m s k .nil)) (hc:k.count<400) (hn:k.count<n) (e:axS a=z) (x:∀h',Ro h h'→Q (.int (lead a (.node m s k .nil))) h'):callP prog n 25 [.ref (B.β m),.str z] h Q Z:=by
 have hc:k.count+0+1<500:=by lia
 have:=least_all ha b hs hf hc n hn
 cases this with
 | cons h1 J=>exact e▸h1 h .refl Q Z x
noncomputable def CSpec (B:BS) (σ:Int→Int→Int) (n:Nat) (t:F):Prop:=∀(h:Hp) (l tp:Int),Bv h B σ t→∀(Q:V→Hp→Prop) (Z:Hp→Prop),(∀i vs h',h.length≤i→h'[i]?=some (.list vs)→Tps h' (cellsF σ 0 t l tp) vs→Ro h h'→Q (.ref i) h')→callP prog n 27 [.ref (B.β t.head),.int l,.int tp] h Q Z
theorem sort2 (hs:s=1∨s=2):sortS s=49↔s=2:=by rcases hs with rfl | rfl<;>decide
theorem ce_loop {n k q j:Nat}{fs:List (Nat×V)}(hj:h₀.length≤j) (hjz:j≠0) {bm:Nat}(g1:h₀[bm]?=some (.dictS fs)) (g2:findF 23 fs=some (.str (sortS s))) (hs:s=1∨s=2) {N:Fr→Hp→Prop}{T:V→Hp→Prop}{f:F}:∀{pre acc:List V}{i:Nat}{h:Hp}{l t:Int}{cs:List (List Int)}{o4:Option V},i=pre.length→Bv h₀ B σ f→Srt f→Full f→SzOk 0 σ f→SzOk 1 σ f→(∀x∈f.trees,CSpec B σ n x)→f.count<300→f.count<n→Ro h₀ h→h₀[q]?=some (.list (pre++f.roots.map fun c=>V.ref (B.β c)))→h[j]?=some (.list acc)→Tps h cs acc→acc.length+f.count<1000→
  (∀h' acc' l' t' o4,Ro h₀ h'→h'[j]?=some (.list acc')→Tps h' (cs++cellsF σ s f l t) acc'→N (fc (.ref bm) (fc (.int l') (fc (.int t') (fc (.ref j) (fo o4 (fz 0)))))) h')→
  lf1 (cn prog n) 4 f27b1 T (k+1+f.roots.length) (.seq q i) (fc (.ref bm) (fc (.int l) (fc (.int t) (fc (.ref j) (fo o4 (fz 0)))))) h N:=by
 induction f with
 | nil=>
  intro pre acc i h l t cs o4 hi b hsr hfu z0 z1 hcs hc hn ro gq gj tp hb hN
  refine w_f1e (end_seq (ro.get gq) (by simp[F.roots0,F.roots1,hi])) ?_
  exact hN h acc l t o4 ro gj (by rw[cellsF0,List.append_nil];exact tp)
 | node x sx kx rx J ih=>
  intro pre acc i h l t cs o4 hi b hsr hfu z0 z1 hcs hc hn ro gq gj tp hb hN
  have hc:kx.count+rx.count+1<300:=hc
  have hn:kx.count+rx.count+1<n:=hn
  have hb:acc.length+(kx.count+rx.count+1)<1000:=hb
  have b1:Bv h₀ B σ (.node x sx kx .nil):=⟨b.1,b.2.1,trivial⟩
  have gq':h₀[q]?=some (.list ((pre++[.ref (B.β x)])++rx.roots.map fun c=>V.ref (B.β c))):=by rw[gq];simp[F.roots0,F.roots1]
  refine w_f1 (n:=k+1+rx.roots.length) (v:=.ref (B.β x)) (next_seq (ro.get gq) (by simp[F.roots0,F.roots1,hi])) ?_
  refine w_ml gj hjz ?_ rfl
  refine hcs (.node x sx kx .nil) (.head _) h l t (b1.ro ro) _ _ fun i2 vs h2 li gi tp2 ro2=>?_
  have gj2:=ro2.get gj
  have vl:kx.count+0+1=vs.length:=(cellsF_length σ (.node x sx kx .nil) 0 l t).symm.trans tp2.length
  refine w_ext gj2 gi (by rw[lim_eq];lia) (Nat.ne_of_gt (Nat.lt_of_lt_of_le (lt_of_get gj) li)) fun h3 gj3 ch3=>?_
  have ro3:Ro h₀ h3:=(Ch.trans ro ro2).at ch3 (.inl hj)
  have e1:cellsF σ s (.node x sx kx rx) l t=cellsF σ 0 (.node x sx kx .nil) l t++cellsF σ s rx (if s=2 then l+σ x 0 else l) (if s=2 then t else t+σ x 1):=by simp[cellsF0,cellsF1]
  rw[e1,← List.append_assoc]at hN
  have tp3:Tps h3 (cs++cellsF σ 0 (.node x sx kx .nil) l t) (acc++vs):=((tp.ch ro2).ch ch3).append (tp2.ch ch3)
  have acl:(acc++vs).length+rx.count<1000:=by rw[List.length_append];lia
  refine w_dks (ro3.get g1) g2 ?_
  refine w_some (w_by (fun e=>?_) fun e=>?_)
  ·rw[if_pos ((sort2 hs).mp e),if_pos ((sort2 hs).mp e)]at hN
   refine size1 (.inl rfl) (b1.ro ro3) ⟨hsr.1,hsr.2.1,trivial⟩ ⟨hfu.1,hfu.2.1,trivial⟩ ⟨z0.1,z0.2.1,trivial⟩ (by lia) (by lia) rfl fun h4 ro4=>?_
   refine w_ok ?_
   exact ih (by simp[hi]) b.2.2 hsr.2.2 hfu.2.2 z0.2.2 z1.2.2 (fun z hz=>hcs z (.tail _ hz)) (by lia) (by lia) (Ch.trans ro3 ro4) gq' (ro4.get gj3) (tp3.ch ro4) acl hN
  ·rw[if_neg fun z=>e ((sort2 hs).mpr z),if_neg fun z=>e ((sort2 hs).mpr z)]at hN
   refine size1 (.inr rfl) (b1.ro ro3) ⟨hsr.1,hsr.2.1,trivial⟩ ⟨hfu.1,hfu.2.1,trivial⟩ ⟨z1.1,z1.2.1,trivial⟩ (by lia) (by lia) rfl fun h4 ro4=>?_
   refine w_ok ?_
   exact ih (by simp[hi]) b.2.2 hsr.2.2 hfu.2.2 z0.2.2 z1.2.2 (fun z hz=>hcs z (.tail _ hz)) (by lia) (by lia) (Ch.trans ro3 ro4) gq' (ro4.get gj3) (tp3.ch ro4) acl hN
theorem cspec (N:Nat):∀(t:F),t.count≤N→N<300→(∃x,t=F.one x)→Srt t→Full t→SzOk 0 σ t→SzOk 1 σ t→∀n,t.count+1≤n→CSpec B σ n t:=by
 induction N with
 | zero=>rintro t hN _ ⟨x,rfl⟩;contradiction
 | succ N ih=>
  rintro t hN hN4 ⟨⟨m,s,k⟩,rfl⟩ hsr hfu z0 z1 n hn h l tp b Q Z x
  have hN:k.count+0+1≤N+1:=hN
  have hn:k.count+0+1+1≤n:=hn
  cases n with
  | zero=>contradiction
  | succ n=>
  have bn:Bn h B σ m s k:=b.1
  obtain⟨fs,g,q⟩:=bn.inst
  have hrl:=F.roots_length k
  refine c27 ?_
  refine size1 (.inl rfl) b hsr hfu z0 (by lia) (by exact Nat.le_of_lt_succ (by assumption)) rfl fun h1 o1=>?_
  refine size1 (.inr rfl) (b.ro o1) hsr hfu z1 (by lia) (by exact Nat.le_of_lt_succ (by assumption)) rfl fun h2 o2=>?_
  refine w_tup fun t h3 J gt o3=>?_
  refine w_list le_lim fun j h4 lj gj o4=>?_
  have ro:=((o1.trans o2).trans o3).trans o4
  have hj:h.length≤j:=Nat.le_trans ((o1.trans o2).trans o3).len lj
  refine w_dks (ro.get g) q.kids ?_
  refine w_it (ro.get bn.kids) ?_
  have tps:Tps h4 [[l,tp,σ m 0,σ m 1]] [.ref t]:=.cons ⟨_,rfl,o4.get gt⟩ .nil
  have fin:∀h' acc',Ro h h'→h'[j]?=some (.list acc')→Tps h' ([[l,tp,σ m 0,σ m 1]]++cellsF σ s k l tp) acc'→Q (.ref j) h':=fun h' acc' r1 r2 r3=>x j acc' h' hj r2 (by rw[F.one,cellsF1,cellsF0,List.append_nil];exact r3) r1
  by_cases hs:s=0
  ·have hk:k=.nil:=hfu.1.mp hs
   refine lf1_more 1 (by rw[turns_eq];decide) ?_
   refine w_f1e (end_seq (vs:=[]) (by rw[ro.get bn.kids,hk];rfl) (Nat.le_refl 0)) ?_
   exact fin h4 _ ro gj (by rw[hk,cellsF0];exact tps)
  ·have hs':s=1∨s=2:=hsr.1.resolve_left hs
   refine lf1_more (1+k.roots.length) (by rw[turns_eq];lia) ?_
   rw[← Nat.add_assoc]
   refine ce_loop (h₀:=h) (n:=n) (pre:=[]) hj (Nat.ne_of_gt (Nat.lt_of_lt_of_le (Nat.lt_of_le_of_lt (Nat.zero_le _) (lt_of_get g)) hj)) g q.sort hs' rfl b.2.1 hsr.2.1 hfu.2.1 z0.2.1 z1.2.1 (fun x hx=>?_) (by exact Nat.lt_trans (by assumption) (by assumption)) (by exact Nat.le_of_lt_succ (by assumption)) ro bn.kids gj tps (by show 1+k.count<1000;lia) fun h' acc' l' t' o4 r1 r2 r3=>?_
   ·obtain⟨y,hy,rfl⟩:=trees_nodes hx
    have cy:=F.count_nodes y hy
    exact ih _ (by lia) (by exact Nat.le_of_lt (by assumption)) ⟨y,rfl⟩ (hsr.2.1.nodes y hy) (hfu.2.1.nodes y hy) (z0.2.1.nodes y hy) (z1.2.1.nodes y hy) n (by lia)
   ·exact fin h' acc' r1 r2 r3
end
end Mine
namespace Mine
noncomputable def allF (mk:Nat→List Up):Nat→F→List (Int×Int×F×List Up)
 | _,.nil=>[]
 | k,.node m s kd r=>(m,s,kd,mk k)::(allF (fun j=>⟨m,s,kd,j⟩::mk k) 0 kd++allF mk (k+1) r)
theorem allF0 {mk k}:allF mk k .nil=[]:=rfl
theorem allF1 {mk k m s kd r}:allF mk k (.node m s kd r)=(m,s,kd,mk k)::(allF (fun j=>⟨m,s,kd,j⟩::mk k) 0 kd++allF mk (k+1) r):=rfl
noncomputable def rootW (mk:Nat→List Up):Nat→F→List (Int×List Up)
 | _,.nil=>[]
 | k,.node m _ _ r=>(m,mk k)::rootW mk (k+1) r
theorem rootW0 {mk k}:rootW mk k .nil=[]:=rfl
theorem rootW1 {mk k m s f r}:rootW mk k (.node m s f r)=(m,mk k)::rootW mk (k+1) r:=rfl
theorem allF_length:∀(f:F) (mk:Nat→List Up) (k:Nat),(allF mk k f).length=f.count:=by
 intro J1
 induction J1 with
 | nil=>
  intro J J
  exact rfl
 | node m s kd r J8 J9=>
  intro mk k
  simp[allF0,allF1,F.count0,F.count1,J8,J9]
theorem rootW_length:∀(f:F) (mk:Nat→List Up) (k:Nat),(rootW mk k f).length=f.roots.length:=by
 intro J1
 induction J1 with
 | nil=>
  intro J J
  exact rfl
 | node m s kd r J8 J9=>
  intro mk k
  simp[rootW0,rootW1,F.roots0,F.roots1,J9]
theorem rootW_get:∀(f:F) (mk:Nat→List Up) (k i:Nat) (c:Int),f.roots[i]?=some c→(rootW mk k f)[i]?=some (c,mk (k+i))
 | .nil,_,_,i,c,h=>by simp[F.roots0,F.roots1]at h
 | .node m s kd r,mk,k,0,c,h=>by simp[F.roots0,F.roots1]at h;simp[rootW0,rootW1,h]
 | .node m s kd r,mk,k,i+1,c,h=>by
  simp[F.roots0,F.roots1]at h
  have:=rootW_get r mk (k+1) i c h
  simp only[rootW0,rootW1,List.getElem?_cons_succ,this]
  rw[show k+1+i=k+(i+1) by exact Nat.add_right_comm _ _ _]
noncomputable def WayB (h:Hp) (B:BS) (way:List Up) (i:Nat):Prop:=∃ts,h[i]?=some (.list ts)∧All2 (fun v (u:Up)=>∃k,v=V.ref k∧h[k]?=some (.tup [.ref (B.β u.m),.int u.nth])) ts way.reverse
noncomputable def ItA (h:Hp) (B:BS) (P:Nat→Prop) (q:Int×List Up) (v:V):Prop:=∃t w,v=.ref t∧h[t]?=some (.tup [.ref (B.β q.1),.ref w])∧WayB h B q.2 w∧P w
section
variable {h h' h₀:Hp}{B:BS}{σ σ':Int→Int→Int}{m s a:Int}{own:Nat→Prop}{Z:Hp→Prop}{Q:V→Hp→Prop}
theorem WayB.ch {way:List Up}{i:Nat}(x:WayB h B way i) (q:Ch own h h') (n:¬own i):WayB h' B way i:=by
 obtain⟨ts,g,al⟩:=x
 exact⟨ts,q.keep _ _ g (.inl n),al.imp fun _ _ J2=>J2.elim fun k J3=>J3.elim fun a b=>⟨k,a,q.keep _ _ b (.inr ⟨_,rfl⟩)⟩⟩
theorem ItA.ch {P:Nat→Prop}{q:Int×List Up}{v:V}(x:ItA h B P q v) (c:Ch own h h') (n:∀i,P i→¬own i):ItA h' B P q v:=by
 obtain⟨t,w,a,b,d,e⟩:=x
 exact⟨t,w,a,c.keep _ _ b (.inr ⟨_,rfl⟩),d.ch c (n w e),e⟩
noncomputable def NJ (jf jw:Nat) (i:Nat):Prop:=i≠jf∧i≠jw
theorem w_rng3 {n:Nat}{Q:IS→Hp→Prop}(l:n≤lim) (x:Q (.rng ((n:Int)-1) n (-1)) h):C (rng3R (.int ((n:Int)-1)) (.int (-1)) (.int (-1)) h) Q:=by
 have e:((n:Int)-1).natAbs≤lim:=by rw[lim_eq]at *;lia
 have e2:((n:Int)-1+1).toNat=n:=by lia
 exact w_r (if_pos ⟨rfl,rfl,e⟩) (by rw[e2];exact x)
theorem la_push {c:Env'}{k jf jw:Nat}{a0:V}{bi wi:Nat}{fs:List (Nat×V)}{K:List Int}{way:List Up}{mk:Nat→List Up}(hz:jw≠0) (g1:h₀[B.β m]?=some (.dictS fs)) (g3:findF 46 fs=some (.ref bi)) (g4:h₀[bi]?=some (.list (K.map fun c=>V.ref (B.β c)))) (jfl:h₀.length≤jf) (jwl:h₀.length≤jw) (jne:jf≠jw)
  {kd:F} (hmk:∀j,mk j=⟨m,s,kd,j⟩::way) (hwl:way.length<500) (hK:K.length<500) {N:Fr→Hp→Prop} {T:V→Hp→Prop} {n:Nat}:∀{h:Hp} {stk acc:List V} {o5:Option V},n≤K.length→Ro h₀ h→h[jf]?=some (.list acc)→h[jw]?=some (.list stk)→WayB h B way wi→NJ jf jw wi→stk.length+n<1000→
  (∀h' its o5,Ro h₀ h'→Ch (fun i=>i=jw) h h'→h'[jw]?=some (.list (stk++its.reverse))→All2 (fun(q:Int×List Up) v=>ItA h' B (NJ jf jw) q v) ((K.take n).zipIdx.map fun x=>(x.1,mk x.2)) its→N (fc a0 (fc (.ref jf) (fc (.ref jw) (fc (.ref (B.β m)) (fc (.ref wi) (fo o5 (fz 0))))))) h')→
  lf1 c 5 f22b1 T (k+1+n) (.rng ((n:Int)-1) n (-1)) (fc a0 (fc (.ref jf) (fc (.ref jw) (fc (.ref (B.β m)) (fc (.ref wi) (fo o5 (fz 0))))))) h N:=by
 induction n with
 | zero=>
  intro h stk acc o5 hn ro gf gj hw nw hb hN
  exact w_f1e rfl (hN h [] o5 ro .refl (by rw[gj,List.reverse_nil,List.append_nil]) .nil)
 | succ n ih=>
  intro h stk acc o5 hn ro gf gj hw nw hb hN
  have e1:(((n+1:Nat):Int)-1)=(n:Int):=by lia
  rw[e1]
  obtain⟨ts,gw,al⟩:=hw
  have tl:ts.length=way.length:=by rw[al.length,List.length_reverse]
  have hx:n<K.length:=hn
  refine w_f1 (n:=k+1+n) (v:=.int n) (is':=.rng ((n:Int)-1) n (-1)) rfl ?_
  refine w_ml gj hz ?_ rfl
  refine w_dks (ro.get g1) g3 ?_
  refine w_ix (ro.get g4) (v:=.ref (B.β K[n])) (by simp[hx]) ?_
  refine w_tup fun t1 h1 l1 gt1 o1=>?_
  refine w_list le_lim fun i2 h2 l2 g2 o2=>?_
  refine w_cat (o2.get (o1.get gw)) g2 (by rw[lim_eq,tl];show _+1≤_;exact Nat.lt_of_lt_of_le (by assumption) (by simp)) fun w2 h3 l3 gl o3=>?_
  refine w_tup fun t4 h4 l4 gt4 o4=>?_
  have ro2:=o1.trans o2
  have ro3:=ro2.trans o3
  have gj4:=o4.get (ro3.get gj)
  refine w_app gj4 (by rw[lim_eq];lia) fun h5 gj5 ch5=>?_
  have ch03:Ch (fun i=>i=jw) h h5:=(Ro.any (ro3.trans o4)).trans ch5
  have wl:h.length≤w2:=Nat.le_trans ro2.len l3
  have w2n:NJ jf jw w2:=⟨Nat.ne_of_gt (Nat.lt_of_lt_of_le (lt_of_get gf) wl),Nat.ne_of_gt (Nat.lt_of_lt_of_le (lt_of_get gj) wl)⟩
  have wb2:WayB h4 B (mk n) w2:=by
   refine⟨_,o4.get gl,?_⟩
   rw[hmk,List.reverse_cons]
   exact(al.imp fun _ _ J4=>J4.elim fun k J5=>J5.elim fun a b=>⟨k,a,o4.get (ro3.get b)⟩).append (.cons ⟨_,rfl,o4.get (o3.get (o2.get gt1))⟩ .nil)
  have wbi:WayB h5 B way wi:=WayB.ch (own:=fun i=>i=jw) ⟨ts,gw,al⟩ ch03 nw.2
  refine ih (Nat.le_of_lt hx) ((ro.trans (ro3.trans o4)).at ch5 (.inl jwl)) (ch03.keep _ _ gf (.inl jne)) gj5 wbi nw (by rw[List.length_append];show _+1+_<_;lia) fun h' its o5 r1 r2 r3 r4=>?_
  refine hN h' (its++[.ref t4]) o5 r1 (ch03.trans r2) (by rw[r3];simp) ?_
  have e2:(K.take (n+1)).zipIdx.map (fun x=>(x.1,mk x.2))=((K.take n).zipIdx.map fun x=>(x.1,mk x.2))++[(K[n],mk n)]:=by
   have e3:K.take (n+1)=K.take n++[K[n]]:=by rw[List.take_add_one,List.getElem?_eq_getElem hx];rfl
   have e4:(K.take n).length=n:=by rw[List.length_take];lia
   rw[e3,List.zipIdx_append,List.map_append,e4]
   simp
  rw[e2]
  have itn:ItA h4 B (NJ jf jw) (K[n],mk n) (.ref t4):=⟨_,w2,rfl,gt4,wb2,w2n⟩
  exact r4.append (.cons ((itn.ch ch5 fun i q z=>q.2 z).ch r2 fun i q z=>q.2 z) .nil)
theorem rootW_zip (mk:Nat→List Up) (f:F):∀(k:Nat),(f.roots.zipIdx k).map (fun x=>(x.1,mk x.2))=rootW mk k f:=by
 induction f with
 | nil=>intro J;rfl
 | node m s kd r J ih=>intro k;rw[F.roots1,List.zipIdx_cons,List.map_cons,ih,rootW1]
theorem la_loop {c:Env'}{jf jw:Nat}{a0:V}{N:Fr→Hp→Prop}{T:V→Hp→Prop}(jfl:h₀.length≤jf) (jwl:h₀.length≤jw) (jne:jf≠jw) (hz:h₀.length≠0) {f:F}:∀{mk:Nat→List Up}{i0:Nat}{h:Hp}{acc st its:List V}{k:Nat}{o3 o4 o5:Option V},Bv h₀ B σ f→Ro h₀ h→
  h[jf]?=some (.list acc)→h[jw]?=some (.list (st++its.reverse))→All2 (fun(q:Int×List Up) v=>ItA h B (NJ jf jw) q v) (rootW mk i0 f) its→acc.length+st.length+f.count<400→(∀j,(mk j).length+f.count<400)→
  (∀h' outs o3 o4 o5,Ro h₀ h'→Ch (fun i=>i=jf∨i=jw) h h'→h'[jf]?=some (.list (acc++outs))→h'[jw]?=some (.list st)→All2 (fun(x:Int×Int×F×List Up) v=>ItA h' B (NJ jf jw) (x.1,x.2.2.2) v) (allF mk i0 f) outs→lw c f22t1 f22b2 T k (fc a0 (fc (.ref jf) (fc (.ref jw) (fo o3 (fo o4 (fo o5 (fz 0))))))) h' N)→
  lw c f22t1 f22b2 T (k+f.count) (fc a0 (fc (.ref jf) (fc (.ref jw) (fo o3 (fo o4 (fo o5 (fz 0))))))) h N:=by
 induction f with
 | nil=>
  intro mk i0 h acc st its k o3 o4 o5 b ro gf gj hits hb hmk next
  cases hits
  exact next h [] o3 o4 o5 ro .refl (by rw[gf,List.append_nil]) (by rw[gj,List.reverse_nil,List.append_nil]) .nil
 | node m s kd rs ihk ihr=>
  intro mk i0 h acc st its k o3 o4 o5 b ro gf gj hits hb hmk next
  cases its with
  | nil=>contradiction
  | cons v0 its=>
  cases hits with
  | cons it1 its'=>
  obtain⟨t0,w0,ev,gt0,wb0,nw0⟩:=it1
  obtain⟨fs,g1,q⟩:=b.1.inst
  have hb:acc.length+st.length+(kd.count+rs.count+1)<400:=hb
  have hmk:∀j,(mk j).length+(kd.count+rs.count+1)<400:=hmk
  have hrl:=F.roots_length kd
  have hrs:=F.roots_length rs
  have hil:rs.roots.length=its.length:=(rootW_length rs mk (i0+1)).symm.trans its'.length
  have gj:h[jw]?=some (.list ((st++its.reverse)++[V.ref t0])):=by rw[gj,List.reverse_cons,← List.append_assoc,ev]
  have jz:∀{j},h₀.length≤j→j≠0:=fun l=>Nat.ne_of_gt (Nat.lt_of_lt_of_le (Nat.pos_of_ne_zero hz) l)
  have nj:∀i,NJ jf jw i→¬(i=jf∨i=jw):=fun i q z=>z.elim q.1 q.2
  refine w_lw (n:=k+(kd.count+rs.count)) ?_
  refine w_ne1 gj (by simp) fun h1 o1=>w_tt ?_
  refine w_ml (o1.get gj) (jz jwl) ?_ rfl
  refine w_pop (o1.get gj) fun h2 gj2 ch2=>?_
  have gf2:=ch2.ne (o1.get gf) jne
  refine w_tg (ch2.tup (o1.get gt0)) rfl ?_
  refine w_ml gf2 (jz jfl) ?_ rfl
  refine w_tup fun t3 h3 l3 gt3 o3'=>?_
  refine w_app (o3'.get gf2) (by rw[lim_eq];lia) fun h4 gf4 ch4=>?_
  have ro4:=((ro.and o1).at ch2 (.inl jwl)).trans o3' |>.at ch4 (.inl jfl)
  have ch02:Ch (fun i=>i=jf∨i=jw) h h3:=((Ro.any o1).trans (ch2.mem fun J z=>.inr z)).trans (Ro.any o3')
  have ch24:Ch (fun i=>i=jf∨i=jw) h3 h4:=ch4.mem fun J z=>.inl z
  have ch04:=ch02.trans ch24
  have gj4:=ch4.ne (o3'.get gj2) (Ne.symm jne)
  refine w_dks (ro4.get g1) q.kids ?_
  refine w_len (ro4.get b.1.kids) ?_
  refine w_ok ?_
  refine w_rng3 (by rw[List.length_map,lim_eq];lia) ?_
  refine lf1_more (1+kd.roots.length) (by rw[turns_eq];lia) ?_
  rw[← Nat.add_assoc,List.length_map]
  have wb4:=wb0.ch ch04 fun z=>z.elim nw0.1 nw0.2
  have hmk0:=hmk i0
  refine la_push (K:=kd.roots) (way:=mk i0) (mk:=fun j=>⟨m,s,kd,j⟩::mk i0) (jz jwl) g1 q.kids b.1.kids jfl jwl jne (m:=m) (s:=s) (kd:=kd) (fun J=>rfl) (by lia) (by lia) (Nat.le_refl _) ro4 gf4 gj4 wb4 nw0 (by rw[List.length_append,List.length_reverse];lia) fun h5 itk o5 ro5 ch5 gj5 itsk=>?_
  rw[List.take_length,rootW_zip (fun j=>(⟨m,s,kd,j⟩:Up)::mk i0) kd 0]at itsk
  have ch5':Ch (fun i=>i=jf∨i=jw) h4 h5:=ch5.mem fun J z=>.inr z
  show lw c f22t1 f22b2 T (k+(kd.count+rs.count)) _ h5 N
  rw[Nat.add_comm kd.count,← Nat.add_assoc]
  refine ihk (st:=st++its.reverse) (its:=itk) b.2.1 ro5 (ch5.ne gf4 jne) gj5 itsk (by rw[List.length_append,List.length_append,List.length_reverse];show _+1+_+_<_;lia) (fun j=>by show(mk i0).length+1+_<_;lia) fun h6 outs o3 o4 o5 ro6 ch6 gf6 gj6 al6=>?_
  have ch06:=ch04.trans (ch5'.trans ch6)
  have hal:=al6.length
  rw[allF_length]at hal
  refine ihr (st:=st) (its:=its) b.2.2 ro6 gf6 gj6 (its'.imp fun J J q=>q.ch ch06 nj) (by rw[List.length_append,List.length_append];show _+1+_+_+_<_;lia) (fun j=>by have:=hmk j;lia) fun h7 outs2 o3 o4 o5 ro7 ch7 gf7 gj7 al7=>?_
  refine next h7 (V.ref t3::(outs++outs2)) o3 o4 o5 ro7 (ch06.trans ch7) (by rw[gf7];simp) gj7 (.cons ?_ ((al6.imp fun J J q=>q.ch ch7 nj).append al7))
  have it0:ItA h3 B (NJ jf jw) (m,mk i0) (.ref t3):=⟨_,w0,rfl,gt3,wb0.ch ch02 fun z=>z.elim nw0.1 nw0.2,nw0⟩
  exact(((it0.ch ch24 nj).ch ch5' nj).ch ch6 nj).ch ch7 nj
theorem call22 {n:Nat}{k:F}(b:Bv h B σ (.node m s k .nil)) (hc:k.count<100) (x:∀i outs h',h.length≤i→h'[i]?=some (.list outs)→All2 (fun(x:Int×Int×F×List Up) v=>ItA h' B (fun J=>True) (x.1,x.2.2.2) v) (allF (fun J=>[]) 0 (.node m s k .nil)) outs→Ro h h'→Q (.ref i) h'):callP prog (n+1) 22 [.ref (B.β m)] h Q Z:=by
 obtain⟨fs,g1,_⟩:=b.1.inst
 have hz:=Nat.ne_of_gt (Nat.lt_of_le_of_lt (Nat.zero_le _) (lt_of_get g1))
 have cc:(F.node m s k .nil).count=k.count+0+1:=rfl
 refine c22 ?_
 refine w_list (Nat.zero_le _) fun jf h1 lf gf o1=>?_
 refine w_list (Nat.zero_le _) fun w0 h2 l0 gw o2=>?_
 refine w_tup fun t0 h3 J gt o3=>?_
 refine w_list le_lim fun jw h4 lj gj o4=>?_
 refine w_tup fun t5 h5 J gt5 o5=>?_
 refine w_tg gt5 rfl ?_
 have ro13:=o2.trans o3
 have o45:=o4.trans o5
 have ro15:=ro13.trans o45
 have ro:=o1.trans ro15
 have lw1:=Nat.lt_of_lt_of_le (lt_of_get gf) l0
 have ljf:=Nat.lt_of_lt_of_le (lt_of_get gf) (Nat.le_trans ro13.len lj)
 have lj0:=Nat.lt_of_lt_of_le (lt_of_get gw) (Nat.le_trans o3.len lj)
 refine lw_more (1+(F.node m s k .nil).count) (by rw[cc,turns_eq];lia) ?_
 rw[← Nat.add_assoc]
 refine la_loop lf (Nat.le_of_lt (Nat.lt_of_le_of_lt lf ljf)) (Nat.ne_of_lt ljf) hz (mk:=fun J=>[]) (i0:=0) (acc:=[]) (st:=[]) (its:=[.ref t0]) b ro (ro15.get gf) (o5.get gj) (.cons ⟨t0,w0,rfl,o45.get gt,⟨[],o45.get (o3.get gw),.nil⟩,Nat.ne_of_gt lw1,Nat.ne_of_lt lj0⟩ .nil) (by rw[cc];show 0+_<_;lia) (fun j=>by rw[cc];show 0+_<_;lia) fun h' outs o3 o4 o5 ro2 ch gf2 gj2 al=>?_
 refine w_lw ?_
 refine w_ne0 gj2 fun h7 o7=>w_ff ?_
 exact x jf outs h7 lf (o7.get gf2) (al.imp fun x v J6=>J6.elim fun t J7=>J7.elim fun w J8=>J8.elim fun q1 J9=>J9.elim fun q2 J1=>J1.elim fun q3 q4=>⟨t,w,q1,o7.get q2,q3.ch o7 id,trivial⟩) (ro2.trans o7)
end
end Mine
namespace Mine
section
variable {h h' h₀:Hp}{B:BS}{σ σ':Int→Int→Int}{m s a:Int}{own:Nat→Prop}{Z:Hp→Prop}{Q:V→Hp→Prop}
structure UpB (h:Hp) (B:BS) (σ:Int→Int→Int) (u:Up):Prop where
 bn:Bn h B σ u.m u.s u.kids
 srt:u.s=1∨u.s=2
 lt:u.nth<u.kids.roots.length
 few:u.kids.count<300
theorem UpB.ro {u:Up}(x:UpB h B σ u) (q:Ro h h'):UpB h' B σ u:=⟨x.bn.ro q,x.srt,x.lt,x.few⟩
noncomputable def Leads (m:Int):List Up→Prop
 | []=>True
 | u::up=>u.kids.roots[u.nth]?=some m∧Leads u.m up
noncomputable def BesR (h':Hp) (B:BS) (v:V):Option (Int×Up)→Prop
 | none=>∃t l,v=.ref t∧h'[t]?=some (.tup [.none,.ref l])∧h'[l]?=some (.list [])
 | some (x,u)=>∃t l,v=.ref t∧h'[t]?=some (.tup [.ref (B.β x),.ref l])∧h'[l]?=some (.list ((giv u.kids.roots u.nth).map fun c=>V.ref (B.β c)))
theorem giv_map' {α β:Type}(f:α→β) (l:List α) (n:Nat):(l.map f).drop (n+1)++((l.map f).take n).reverse=(giv l n).map f:=by rw[← giv_map];rfl
theorem unp {ws:List V}{t n:Nat}(g:h[t]?=some (.tup ws)) (l:ws.length=n) (n1:1≠n):unpackN n [.ref t] h=some ws:=by
 unfold unpackN
 rw[if_neg (show¬[V.ref t].length=n from n1)]
 dsimp only
 rw[g]
 exact if_pos l
theorem be_loop {c:Env'}{k q:Nat}{a0:V}(ha:a=0∨a=1) {r0:Option (Int×Up)}{T:V→Hp→Prop}{N:Fr→Hp→Prop}(hT:∀v h',Ro h h'→BesR h' B v r0→T v h') (hN:r0=none→∀o2 o3,N (fc a0 (fc (.str (axS a)) (fo o2 (fo o3 (fz 0))))) h) {way:List Up}:∀{m:Int}{pre vs:List V}{i:Nat}{o2 o3:Option V},i=pre.length→(∀u∈way,UpB h B σ u)→Leads m way→All2 (fun v (u:Up)=>∃k,v=V.ref k∧h[k]?=some (.tup [.ref (B.β u.m),.int u.nth])) vs way→h[q]?=some (.list (pre++vs))→r0=mov a m way→
  lf2 c 2 3 f30b1 T (k+1+way.length) (.seq q i) (fc a0 (fc (.str (axS a)) (fo o2 (fo o3 (fz 0))))) h N:=by
 induction way with
 | nil=>
  intro m pre vs i o2 o3 hi hu hl al gq hr
  cases al
  exact w_f2e (end_seq gq (by simp[hi])) (hN hr _ _)
 | cons u up ih=>
  intro m pre vs i o2 o3 hi hu hl al gq hr
  cases vs with
  | nil=>contradiction
  | cons v0 vs=>
  cases al with
  | cons it al=>
  obtain⟨k0,ev,gk⟩:=it
  rw[ev]at gq
  have ub:=hu u (.head _)
  obtain⟨fs,g,w⟩:=ub.bn.inst
  have hs0:u.s≠0:=fun z=>by have:=ub.srt;lia
  have sax:=sort_ax (s:=u.s) (a:=a) (.inr ub.srt) ha
  refine w_f2 (n:=k+1+up.length) (v:=.ref (B.β u.m)) (u:=.int u.nth) (next_seq gq (by simp[hi])) (unp gk rfl (by decide)) ?_
  refine w_dks g w.sort ?_
  refine w_some (w_by (fun e=>?_) fun e=>?_)
  ·have hmv:r0=some (m,u):=by rw[hr,mov1,if_pos (sax.mp e).2]
   have few:=ub.few
   have hrl:=F.roots_length u.kids
   have lt:=ub.lt
   refine w_dks g w.kids ?_
   refine w_ix ub.bn.kids (v:=.ref (B.β m)) (by rw[List.getElem?_map,hl.1];rfl) ?_
   refine w_dks g w.kids ?_
   refine w_ok ?_
   refine w_drop (n:=u.nth+1) ub.bn.kids (by rw[lim_eq,List.length_map];lia) (by rw[big_eq];lia) fun i1 h1 J g1 o1=>?_
   refine w_dks (o1.get g) w.kids ?_
   refine w_take (o1.get ub.bn.kids) (by rw[lim_eq,List.length_map];lia) (by rw[big_eq];lia) fun i2 h2 J g2 o2=>?_
   refine w_rev g2 (by rw[lim_eq,List.length_take,List.length_map];lia) fun i3 h3 J g3 o3=>?_
   refine w_cat (o3.get (o2.get g1)) g3 (by rw[lim_eq];simp;lia) fun i4 h4 J g4 o4=>?_
   rw[giv_map' (fun c=>V.ref (B.β c)) u.kids.roots u.nth]at g4
   refine w_tup fun i5 h5 J g5 o5=>?_
   refine hT _ _ ((((o1.trans o2).trans o3).trans o4).trans o5) ?_
   rw[hmv]
   exact⟨_,_,rfl,g5,o5.get g4⟩
  ·exact ih (pre:=pre++[.ref k0]) (by simp[hi]) (fun w hw=>hu w (.tail _ hw)) hl.2 al (by rw[gq];simp) (by rw[hr,mov1,if_neg fun q=>e (sax.mpr ⟨hs0,q⟩)])
theorem call30 {n i:Nat}{way:List Up}(ha:a=0∨a=1) (hu:∀u∈way,UpB h B σ u) (hl:Leads m way) (hw:WayB h B way i) (hlen:way.length<300) (x:∀v h',Ro h h'→BesR h' B v (mov a m way)→Q v h'):callP prog (n+1) 30 [.ref i,.str (axS a)] h Q Z:=by
 obtain⟨ts,gw,al⟩:=hw
 have tl:ts.length=way.length:=by rw[al.length,List.length_reverse]
 have al':=al.reverse
 rw[List.reverse_reverse]at al'
 refine c30 ?_
 refine w_rev gw (by rw[lim_eq];lia) fun q h1 J gq o1=>?_
 refine w_it gq ?_
 refine lf2_more (1+way.length) (by rw[turns_eq];lia) ?_
 rw[← Nat.add_assoc]
 refine be_loop (h:=h1) ha (r0:=mov a m way) (m:=m) (fun v h' r q=>x v h' (o1.trans r) q) (fun hr o2 o3=>?_) (pre:=[]) rfl (fun u hu'=>(hu u hu').ro o1) hl (al'.imp fun _ _ J2=>J2.elim fun k J3=>J3.elim fun e g=>⟨k,e,o1.get g⟩) gq rfl
 refine w_list (Nat.zero_le _) fun i2 h2 J g2 o2=>?_
 refine w_tup fun i3 h3 J g3 o3=>?_
 refine x _ h3 ((o1.trans o2).trans o3) ?_
 rw[hr]
 exact⟨_,_,rfl,g3,o3.get g2⟩
structure BOk (h:Hp) (B:BS) (a:Int) (σ:Int→Int→Int) (t:F):Prop where
 bv:Bv h B σ t
 srt:Srt t
 full:Full t
 sz:SzOk a σ t
 fit:Fit a σ t
 few:t.count<100
 one:∃x,t=F.one x
theorem BOk.ro {t:F}(x:BOk h B a σ t) (q:Ro h h'):BOk h' B a σ t:=⟨x.bv.ro q,x.srt,x.full,x.sz,x.fit,x.few,x.one⟩
theorem sizeT {n z:Nat}{t:F}(ha:a=0∨a=1) (x:BOk h B a σ t) (hn:t.count≤n) (e:axS a=z) (k:∀h',Ro h h'→Q (.int (σ t.head a)) h'):callP prog n 24 [.ref (B.β t.head),.str z] h Q Z:=by
 have c:=x.few
 obtain⟨y,rfl⟩:=x.one
 have c:y.2.2.count+0+1<100:=c
 exact size1 ha x.bv x.srt x.full x.sz (by lia) hn e k
theorem leastT {n z:Nat}{t:F}(ha:a=0∨a=1) (x:BOk h B a σ t) (hn:t.count≤n) (e:axS a=z) (k:∀h',Ro h h'→Q (.int (lead a t)) h'):callP prog n 25 [.ref (B.β t.head),.str z] h Q Z:=by
 have c:=x.few
 obtain⟨y,rfl⟩:=x.one
 have c:y.2.2.count+0+1<100:=c
 exact least1b ha x.bv x.srt x.full (by lia) hn e k
theorem newS_bd {a:Int}{σ:Int→Int→Int}:∀{ts:List F}{left:Int},(∀t∈ts,lead a t≤σ t.head a∧σ t.head a≤500)→-400≤left→All2 (fun t b=>lead a t≤b∧b≤1000) ts (newS a σ left ts):=by
 intro J1
 induction J1 with
 | nil=>
  intro J J J
  exact .nil
 | cons t ts J8=>
  intro left h hl
  have:=h t (.head _)
  refine .cons ?_ (J8 (fun t' ht'=>h t' (.tail _ ht')) ?_)
  ·split<;>omega
  ·split<;>lia
noncomputable def f31b1r:List I:=[.var 6,.var 1,.var 10,.var 11,.bin .sub,.call 26 3,.pop,.var 9,.var 11,.bin .sub,.st 9]
theorem lr_loop {n k q:Nat}{a0 a2 a3 a4 a5 o7 o8:Option V}{N:Fr→Hp→Prop}{T:V→Hp→Prop}(ha:a=0∨a=1) {ts:List F}:∀{pre:List V}{i:Nat}{h:Hp}{σ:Int→Int→Int}{left:Int}{o6 o10 o11:Option V},i=pre.length→SIn B a n h σ ts (newS a σ left ts)→(∀t∈ts,BOk h B a σ t∧t.count≤n)→h[q]?=some (.list (pre++ts.map fun t=>V.ref (B.β t.head)))→
  (∀h' σ' left' o6 o10 o11,SOut B a h σ h' σ' ts (newS a σ left ts)→N (fo a0 (fc (.str (axS a)) (fo a2 (fo a3 (fo a4 (fo a5 (fo o6 (fo o7 (fo o8 (fc (.int left') (fo o10 (fo o11 (fz 0))))))))))))) h')→
  lf1 (cn prog n) 6 f31b1 T (k+1+ts.length) (.seq q i) (fo a0 (fc (.str (axS a)) (fo a2 (fo a3 (fo a4 (fo a5 (fo o6 (fo o7 (fo o8 (fc (.int left) (fo o10 (fo o11 (fz 0))))))))))))) h N:=by
 induction ts with
 | nil=>
  intro pre i h σ left o6 o10 o11 hi x hb gq hN
  exact w_f1e (end_seq gq (by simp[hi])) (hN h σ left o6 o10 o11 ⟨.refl,fun t h=>(by contradiction),.nil,fun J J J=>rfl⟩)
 | cons t ts ih=>
  intro pre i h σ left o6 o10 o11 hi x hb gq hN
  have bt:=(hb t (.head _)).1
  have bn:=(hb t (.head _)).2
  refine w_f1 (n:=k+1+ts.length) (v:=.ref (B.β t.head)) (next_seq gq (by simp[hi])) ?_
  refine sizeT ha bt bn rfl fun h1 ro1=>?_
  have tail:∀{h2} {part:Int},Ro h h2→part=(if left>0 then min left (σ t.head a-lead a t)else left)→
    go (cn prog n) (pL T) (k1 (cn prog n) 6 f31b1 T (k+1+ts.length) (.seq q (i+1)) N) f31b1r (fo a0 (fc (.str (axS a)) (fo a2 (fo a3 (fo a4 (fo a5 (fc (.ref (B.β t.head)) (fo o7 (fo o8 (fc (.int left) (fc (.int (σ t.head a)) (fc (.int part) (fz 0))))))))))))) h2 []:=by
   intro h2 part ro2 ep
   have x:SIn B a n h σ (t::ts) ((σ t.head a-part)::newS a σ (left-part) ts):=ep▸x
   have hN:∀h' σ' left' o6 o10 o11,SOut B a h σ h' σ' (t::ts) ((σ t.head a-part)::newS a σ (left-part) ts)→N (fo a0 (fc (.str (axS a)) (fo a2 (fo a3 (fo a4 (fo a5 (fo o6 (fo o7 (fo o8 (fc (.int left') (fo o10 (fo o11 (fz 0))))))))))))) h':=ep▸hN
   have l:=x.ls t (.head _)
   obtain⟨l0,z0⟩:=x.z0
   have bd:=x.bd
   cases bd with
   | cons b1 b2=>
   refine w_ok ?_
   refine l.1 h2 σ _ l0 (l.2.1.ro ro2) l.2.2.1 l.2.2.2 b1.1 b1.2 (ro2.get z0) _ _ fun h3 σ3 ch3 bv3 set3 out3=>?_
   refine w_ok ?_
   have ch03:Ch (BOwn B t) h h3:=(Ro.any ro2).trans ch3
   have nd:=x.nd
   rw[List.flatMap_cons,List.nodup_append]at nd
   have dj:∀t'∈ts,∀c∈t'.nums,c∉t.nums:=fun t' ht' c hc hc'=>nd.2.2 c hc' c (List.mem_flatMap.mpr ⟨t',ht',hc⟩) rfl
   have xs:=x.step ch03 out3
   have hh:∀t'∈ts,σ3 t'.head a=σ t'.head a:=fun t' ht'=>by
    obtain⟨y,hy⟩:=(hb t' (.tail _ ht')).1.one
    refine out3 _ (dj t' ht' _ ?_) a
    rw[hy];exact .head _
   have e3:newS a σ3 (left-part) ts=newS a σ (left-part) ts:=newS_congr hh
   refine ih (pre:=pre++[.ref (B.β t.head)]) (by simp[hi]) (σ:=σ3) (e3.symm▸xs) (fun t' ht'=>?_) (by rw[ch03.keep _ _ gq (.inl (blist_apart l.2.1 gq))];simp) fun h' σ' left' o6 o10 o11 y=>hN h' σ' left' o6 o10 o11 (SOut.cons x ch03 bv3 set3 out3 (e3▸y))
   have c:=hb t' (.tail _ ht')
   have q:=xs.ls t' ht'
   exact⟨⟨q.2.1,c.1.srt,c.1.full,q.2.2.2,q.2.2.1,c.1.few,c.1.one⟩,c.2⟩
  refine w_some (w_by (fun e=>?_) fun e=>?_)
  ·refine leastT ha (bt.ro ro1) bn rfl fun h2 ro2=>?_
   refine w_ok (w_ok ?_)
   exact tail (ro1.trans ro2) (if_pos e).symm
  ·exact tail ro1 (if_neg e).symm
end
end Mine
namespace Mine
section
variable {h h' h₀:Hp}{B:BS}{σ σ':Int→Int→Int}{m s a:Int}{own:Nat→Prop}{Z:Hp→Prop}{Q:V→Hp→Prop}
theorem mov_leads {a:Int}:∀{way:List Up}{m x:Int}{u:Up},Leads m way→mov a m way=some (x,u)→u.kids.roots[u.nth]?=some x∧along u.s=a∧u∈way:=by
 intro J1
 induction J1 with
 | nil=>
  intro m x u J e
  contradiction
 | cons v up J8=>
  rintro m x u ⟨h1,h2⟩ e
  simp only[mov0,mov1]at e
  split at e
  ·cases e;exact⟨h1,by assumption,.head _⟩
  ·have J:=J8 h2 e;have q1:=J.1;have q2:=J.2.1;have q3:=J.2.2
   exact⟨q1,q2,.tail _ q3⟩
structure BGr (h:Hp) (B:BS) (σ:Int→Int→Int) (a:Int) (F0:F) (m:Int) (way:List Up):Prop where
 bv:Bv h B σ F0
 one:∃x,F0=F.one x
 srt:Srt F0
 full:Full F0
 nd:F0.nums.Nodup
 fit:Fit a σ F0
 sz:SzOk a σ F0
 few:F0.count<100
 low:∀x∈F0.nums,∀y,σ x y≤500
 inj:∀x∈F0.nums,∀y∈F0.nums,B.β x=B.β y→x=y
 ups:∀u∈way,(u.m,u.s,u.kids)∈F0.nodes∧u.nth<u.kids.roots.length
 leads:Leads m way
 ax:a=0∨a=1
 z0:∃l0,h[0]?=some (.list l0)
theorem Srt.at:∀{f:F},Srt f→∀x∈f.nodes,x.2.1=0∨x.2.1=1∨x.2.1=2:=by
 intro J1
 induction J1 with
 | nil=>
  intro J x hx
  contradiction
 | node m s k r J8 J9=>
  rintro⟨a,b,c⟩ x hx
  simp only[F.nodes0,F.nodes1,List.mem_cons,List.mem_append]at hx
  rcases hx with rfl | hx | hx
  ·exact a
  ·exact J8 b x hx
  ·exact J9 c x hx
theorem Full.at:∀{f:F},Full f→∀x∈f.nodes,(x.2.1=0↔x.2.2=.nil):=by
 intro J1
 induction J1 with
 | nil=>
  intro J x hx
  contradiction
 | node m s k r J8 J9=>
  rintro⟨a,b,c⟩ x hx
  simp only[F.nodes0,F.nodes1,List.mem_cons,List.mem_append]at hx
  rcases hx with rfl | hx | hx
  ·exact a
  ·exact J8 b x hx
  ·exact J9 c x hx
theorem BGr.up {F0:F}{way:List Up}(g:BGr h B σ a F0 m way) {u:Up}(hu:u∈way):UpB h B σ u:=by
 obtain⟨h1,h2⟩:=g.ups u hu
 have c:=F.count_nodes _ h1
 simp only[F.one,F.count0,F.count1]at c
 have few:=g.few
 refine⟨g.bv.at _ h1,?_,h2,by lia⟩
 have s1:=g.srt.at _ h1
 have f1:=g.full.at _ h1
 have:u.s≠0:=fun z=>by
  have:=f1.mp z
  dsimp only at this
  rw[this]at h2
  simp[F.roots0,F.roots1]at h2
 dsimp only at s1
 lia
theorem BGr.bok {F0:F}{way:List Up}(g:BGr h B σ a F0 m way) {u:Up}(hu:u∈way):∀t∈u.kids.trees,BOk h B a σ t∧t.count≤F0.count∧σ t.head a≤500∧(∀y∈t.nums,y∈F0.nums)∧t.nums.Nodup:=by
 intro t ht
 obtain⟨y,hy,rfl⟩:=trees_nodes ht
 have hy0:=nodes_sub (g.ups u hu).1 y hy
 have c:=F.count_nodes _ hy0
 have few:=g.few
 refine⟨⟨g.bv.sub (one_nodes hy0),g.srt.nodes y hy0,g.full.nodes y hy0,g.sz.nodes y hy0,g.fit.nodes y hy0,by exact Nat.lt_of_le_of_lt (by assumption) (by assumption),⟨y,rfl⟩⟩,c,g.low _ (nodes_num hy0) a,fun z hz=>?_,F.nd_nodes g.nd y hy0⟩
 obtain⟨s1,k1,h1⟩:=num_node hz
 exact nodes_num (one_nodes hy0 _ h1)
theorem BOk.fit0 {t:F}(x:BOk h B a σ t):lead a t≤σ t.head a∧2≤lead a t:=by
 obtain⟨z,hz⟩:=x.one
 have fit:=x.fit
 have full:=x.full
 rw[hz]at fit full
 have h1:=fit.1.1
 have e:lead a t=(least a (.node z.1 z.2.1 z.2.2 .nil)).headD 0:=by rw[hz];rfl
 have e2:t.head=z.1:=by rw[hz];rfl
 rw[e,e2]
 exact⟨h1,least_pos (a:=a) full _ (by simp[F.one,leastE0,leastE1])⟩
theorem Bv_asm {F0 K:F}(v:Bv h B σ F0) (hn:F0.nums.Nodup) (sub:∀y∈K.nodes,y∈F0.nodes) (inj:∀x∈F0.nums,∀y∈F0.nums,B.β x=B.β y→x=y) (ch:Ch (BOwn B K) h h') (vt:∀t∈K.trees,Bv h' B σ' t) (out:∀x,x∉K.nums→∀y,σ' x y=σ x y):Bv h' B σ' F0:=by
 have vK:Bv h B σ K:=v.sub sub
 rw[Bv_iff]
 intro y hy
 by_cases hk:y.1∈K.nums
 ·rw[← trees_nums,List.mem_flatMap]at hk
  obtain⟨t,ht,hyt⟩:=hk
  obtain⟨s',k',hsk⟩:=num_node hyt
  obtain⟨x,hx,rfl⟩:=trees_nodes ht
  have h1:=sub _ (one_nodes hx _ hsk)
  have hy':(y.1,y.2.1,y.2.2)∈F0.nodes:=hy
  obtain⟨e1,e2⟩:=node_unique hn hy' h1
  have:=(vt _ ht).at _ hsk
  rw[e1,e2]
  exact this
 ·have w:=v.at y hy
  have subn:∀b∈K.nums,b∈F0.nums:=fun b hb=>by
   obtain⟨s1,k1,h1⟩:=num_node hb
   exact nodes_num (sub _ h1)
  refine w.ch ch ?_ ?_ (out y.1 hk)
  ·rintro⟨b,hb,e⟩
   exact hk (inj _ (nodes_num hy) _ (subn b hb) e▸hb)
  ·rintro⟨b,hb,e⟩
   obtain⟨s1,k1,h1⟩:=num_node hb
   exact w.tyne (vK.at _ h1) e
theorem call31n {n i:Nat}{F0:F}{way:List Up}{delta:Int}{cut:Bool}(g:BGr h B σ a F0 m way) (hw:WayB h B way i) (hl:way.length<300) (e:mov a m way=none) (x:∀h',Ro h h'→Q .none h'):callP prog (n+2) 31 [.ref i,.str (axS a),.int delta,.bool cut] h Q Z:=by
 refine c31 ?_
 refine call30 (n:=n) g.ax (fun u hu=>g.up hu) g.leads hw hl fun v h1 ro1 br=>?_
 rw[e]at br
 obtain⟨t,l,hv,gt,gl⟩:=br
 rw[hv]
 refine w_tg gt rfl ?_
 refine w_some (w_tt ?_)
 exact x h1 ro1
noncomputable def f31r:List I:=[.var 8,.var 2,.var 7,.bi .min 2,.bi .max 2,.st 2,.var 2,.st 9,.var 5,.for1 6 .seq f31b1,.var 4,.var 1,.var 4,.var 1,.call 24 2,.var 2,.bin .add,.call 26 3,.pop,.var 2,.ret]
theorem room_all {n:Nat}{fr:Fr}(ha:a=0∨a=1) (f1:fr[1]?.join=some (.str (axS a))) {ts:List F}:(∀H,Ro h H→∀t∈ts,BOk H B a σ t∧t.count≤n)→
  All2 (fun x y=>∀H,Ro h H→∀K:Kt,(∀h',Ro h h'→K fr h' [y])→go (cn prog n) (pC [x]) K f31e1 fr H []) (ts.map fun t=>V.ref (B.β t.head)) (ts.map fun t=>V.int (σ t.head a-lead a t)):=by
 induction ts with
 | nil=>intro J;exact .nil
 | cons t ts ih=>
  intro hm
  refine .cons (fun H ro K k=>?_) (ih fun H ro t' ht'=>hm H ro t' (.tail _ ht'))
  have b:=hm H ro t (.head _)
  refine w_v f1 ?_
  refine sizeT ha b.1 b.2 rfl fun h2 ro2=>?_
  refine w_v f1 ?_
  refine leastT ha (b.1.ro ro2) b.2 rfl fun h3 ro3=>?_
  exact w_ok (k h3 (ro.trans (ro2.trans ro3)))
theorem call31s {n i:Nat}{F0 t0:F}{way:List Up}{delta x:Int}{u:Up}{cut:Bool}(g:BGr h B σ a F0 m way) (hw:WayB h B way i) (hl:way.length<300) (e:mov a m way=some (x,u)) (ht0:u.kids.trees[u.nth]?=some t0) (hx0:t0.head=x) (hn:F0.count≤n) (hd1:-400≤delta) (hd2:delta≤400)
  (no:cut=false→refused a σ u t0 x delta→∀h',Ro h h'→Q .none h')
  (yes:¬(cut=false∧refused a σ u t0 x delta)→∀h' σ',Ch (BOwn B F0) h h'→Bv h' B σ' F0→Rz a σ σ' u.kids u.nth (cutAmt a σ u t0 x delta)→(∀y,y∉u.kids.nums→∀z,σ' y z=σ y z)→Q (.int (cutAmt a σ u t0 x delta)) h'):callP prog (n+2) 31 [.ref i,.str (axS a),.int delta,.bool cut] h Q Z:=by
 have ha:=g.ax
 obtain⟨l0,z0⟩:=g.z0
 obtain⟨q1,q2,q3⟩:=mov_leads g.leads e
 have bok:=g.bok q3
 have t0m:=List.mem_of_getElem? ht0
 have hu0:=(g.ups u q3).1
 have few:=g.few
 have cu:u.kids.count+0+1≤F0.count:=F.count_nodes _ hu0
 have htl:=F.trees_length u.kids
 have hrl:=F.roots_length u.kids
 have hgl:=giv_length (l:=u.kids.trees) (n:=u.nth) (by rw[htl];exact(g.ups u q3).2)
 have eg:(giv u.kids.roots u.nth).map (fun c=>V.ref (B.β c))=(giv u.kids.trees u.nth).map (fun t=>V.ref (B.β t.head)):=by rw[← F.trees_roots,giv_map,List.map_map];rfl
 have okg:∀H,Ro h H→∀t∈giv u.kids.trees u.nth,BOk H B a σ t∧t.count≤n+1:=fun H ro t ht=>by
  have b:=bok t (giv_mem ht)
  exact⟨b.1.ro ro,Nat.le_succ_of_le (Nat.le_trans b.2.1 hn)⟩
 have ok0:=bok t0 t0m
 have c0:t0.count≤n+1:=Nat.le_succ_of_le (Nat.le_trans ok0.2.1 hn)
 refine c31 ?_
 refine call30 (n:=n) ha (fun u hu=>g.up hu) g.leads hw hl fun v h1 ro1 br=>?_
 rw[e]at br
 obtain⟨t,l,hv,gt,gl⟩:=br
 rw[hv]
 rw[eg]at gl
 refine w_tg gt rfl ?_
 refine w_some (w_ff ?_)
 refine w_it gl ?_
 refine comp_map (fun H=>Ro h1 H) (room_all (n:=n+1) ha rfl fun H ro=>okg H (ro1.trans ro)) (pre:=[]) (fun H ro=>ro.get gl) .refl (by rw[List.length_map,turns_eq];lia) fun h2 ro2=>?_
 have e2:((giv u.kids.trees u.nth).map fun t=>V.int (σ t.head a-lead a t))=(giv (spareF a σ u.kids) u.nth).map V.int:=by rw[spare_trees,giv_map,List.map_map];rfl
 rw[List.nil_append]
 refine w_list (by rw[List.length_map,lim_eq];lia) fun i3 h3 l3 g3 o3=>?_
 rw[e2]at g3
 refine w_sum g3 ?_
 have ro3:=(ro1.trans ro2).trans o3
 subst hx0
 refine leastT (n:=n+1) ha (ok0.1.ro ro3) c0 rfl fun h4 ro4=>?_
 refine sizeT (n:=n+1) ha (ok0.1.ro (ro3.trans ro4)) c0 rfl fun h5 ro5=>?_
 refine w_ok ?_
 have ro35:=ro4.trans ro5
 have ro05:=ro3.trans ro35
 have gl5:=ro35.get (o3.get (ro2.get gl))
 have tail:¬(cut=false∧refused a σ u t0 t0.head delta)→go (cn prog (n+1)) (pF Q Z) (kF Q) f31r (fc (.ref i) (fc (.str (axS a)) (fc (.int delta) (fc (.bool cut) (fc (.ref (B.β t0.head)) (fc (.ref l) (fo none (fc (.int (giv (spareF a σ u.kids) u.nth).sum) (fc (.int (lead a t0-σ t0.head a)) (fz 3)))))))))) h5 []:=by
  intro hr
  have yes:=yes hr
  have ecut:max (lead a t0-σ t0.head a) (min delta (giv (spareF a σ u.kids) u.nth).sum)=cutAmt a σ u t0 t0.head delta:=Int.max_comm _ _
  refine w_ok (w_ok ?_)
  rw[ecut]
  generalize hcc:cutAmt a σ u t0 t0.head delta=cc at yes
  refine w_it gl5 ?_
  have room0:0≤(giv (spareF a σ u.kids) u.nth).sum:=by
   have:∀y∈giv (spareF a σ u.kids) u.nth,0≤y:=fun y hy=>by
    have hy':=giv_mem hy
    rw[spare_trees,List.mem_map]at hy'
    obtain⟨t,ht,rfl⟩:=hy'
    exact Int.sub_nonneg_of_le (bok t ht).1.fit0.1
   have:=sum_ge this
   lia
  have f0:=ok0.1.fit0
  have low0:=ok0.2.2.1
  have amt:-400≤cc∧lead a t0≤σ t0.head a+cc∧cc≤400:=by rw[← hcc];unfold cutAmt;omega
  have perm:=giv_perm ht0
  have ndK:u.kids.nums.Nodup:=by
   have:(u.m::(u.kids.nums++[])).Nodup:=F.nd_nodes g.nd _ hu0
   rw[List.append_nil]at this
   exact(List.nodup_cons.mp this).2
  have ndall:((t0::giv u.kids.trees u.nth).flatMap F.nums).Nodup:=by
   rw[(perm.flatMap_right F.nums).nodup_iff,trees_nums];exact ndK
  rw[List.flatMap_cons,List.nodup_append]at ndall
  have nd0:=ndall.1;have ndg:=ndall.2.1;have disj:=ndall.2.2
  have subK:∀z∈u.kids.nums,z∈F0.nums:=fun z hz=>by
   obtain⟨s1,k1,h1⟩:=num_node hz
   exact nodes_num (nodes_sub hu0 _ h1)
  have lsp:∀t∈u.kids.trees,LSpec B a (n+1) t:=fun t ht=>by
   have b:=bok t ht
   exact lspec ha t.count t (Nat.le_refl _) (Nat.lt_of_le_of_lt b.2.1 (Nat.lt_trans few (by simp))) b.1.one b.1.srt b.1.full b.2.2.2.2 (fun y hy z hz=>g.inj y (b.2.2.2.1 y hy) z (b.2.2.2.1 z hz)) (n+1) (Nat.le_succ_of_le (Nat.le_trans b.2.1 hn))
  have bvg:∀t∈giv u.kids.trees u.nth,Bv h5 B σ t:=fun t ht=>(bok t (giv_mem ht)).1.bv.ro ro05
  have sin:SIn B a (n+1) h5 σ (giv u.kids.trees u.nth) (newS a σ cc (giv u.kids.trees u.nth)):=by
   refine⟨fun t ht=>?_,ndg,newS_bd (fun t ht=>⟨(bok t (giv_mem ht)).1.fit0.1,(bok t (giv_mem ht)).2.2.1⟩) amt.1,⟨l0,ro05.get z0⟩,fun y hy z hz=>?_⟩
   ·have b1:=(bok t (giv_mem ht)).1
    exact⟨lsp t (giv_mem ht),bvg t ht,b1.fit,b1.sz⟩
   ·obtain⟨t1,ht1,hy⟩:=List.mem_flatMap.mp hy
    obtain⟨t2,ht2,hz⟩:=List.mem_flatMap.mp hz
    exact g.inj y ((bok t1 (giv_mem ht1)).2.2.2.1 y hy) z ((bok t2 (giv_mem ht2)).2.2.2.1 z hz)
  refine lf1_more (1+(giv u.kids.trees u.nth).length) (by rw[turns_eq];lia) ?_
  rw[← Nat.add_assoc]
  refine lr_loop (n:=n+1) ha (pre:=[]) rfl sin (okg h5 ro05) gl5 fun h6 σ6 left' o6 o10 o11 y=>?_
  have eq0:∀b∈t0.nums,∀z,σ6 b z=σ b z:=fun b hb=>y.out b fun q=>disj b hb b q rfl
  have bv5:Bv h5 B σ t0:=ok0.1.bv.ro ro05
  have bv0:Bv h6 B σ6 t0:=bv5.ch y.ch (fun b hb=>by
   have ap:∀t∈giv u.kids.trees u.nth,¬BOwn B t (B.β b)∧¬BOwn B t (B.ι b):=fun t ht=>bv5.apart (bvg t ht) (fun d hd hd'=>disj d hd d (List.mem_flatMap.mpr ⟨t,ht,hd'⟩) rfl) (fun d hd e he=>g.inj d (ok0.2.2.2.1 d hd) e ((bok t (giv_mem ht)).2.2.2.1 e he)) b hb
   exact⟨fun J4=>J4.elim fun t J5=>J5.elim fun ht q=>(ap t ht).1 q,fun J6=>J6.elim fun t J7=>J7.elim fun ht q=>(ap t ht).2 q⟩) eq0
  have xm:t0.head∈t0.nums:=by
   obtain⟨z,hz⟩:=ok0.1.one
   rw[hz];exact .head _
  have ok6:BOk h6 B a σ6 t0:=⟨bv0,ok0.1.srt,ok0.1.full,ok0.1.sz.congr eq0,ok0.1.fit.congr eq0,ok0.1.few,ok0.1.one⟩
  have z6:h6[0]?=some (.list l0):=y.ch.keep _ _ (ro05.get z0) (.inl fun J8=>J8.elim fun t J9=>J9.elim fun ht q=>blist_apart (bvg t ht) (ro05.get z0) q)
  refine sizeT (n:=n+1) ha ok6 c0 rfl fun h7 ro7=>?_
  refine w_ok ?_
  rw[eq0 _ xm a]
  refine lsp t0 t0m h7 σ6 (σ t0.head a+cc) l0 (bv0.ro ro7) ok6.fit ok6.sz amt.2.1 (by lia) (ro7.get z6) _ _ fun h8 σ8 ch8 bv8 set8 out8=>?_
  have ch68:Ch (BOwn B t0) h6 h8:=(Ro.any ro7).trans ch8
  have eqg:∀t∈giv u.kids.trees u.nth,∀b∈t.nums,∀z,σ8 b z=σ6 b z:=fun t ht b hb=>out8 b fun q=>disj b q b (List.mem_flatMap.mpr ⟨t,ht,hb⟩) rfl
  have vt:∀t∈u.kids.trees,Bv h8 B σ8 t:=fun t ht=>by
   refine(List.mem_cons.mp (perm.symm.subset ht)).elim (fun e=>e▸bv8) fun hg=>?_
   exact(y.bv t hg).ch ch68 ((y.bv t hg).apart bv0 (fun b hb hb'=>disj b hb' b (List.mem_flatMap.mpr ⟨t,hg,hb⟩) rfl) fun d hd e he=>g.inj d ((bok t ht).2.2.2.1 d hd) e (ok0.2.2.2.1 e he)) (eqg t hg)
  have nk:∀{b},b∉u.kids.nums→∀t∈u.kids.trees,b∉t.nums:=fun hb t ht q=>hb (by rw[← trees_nums];exact List.mem_flatMap.mpr ⟨t,ht,q⟩)
  have outk:∀b,b∉u.kids.nums→∀z,σ8 b z=σ b z:=fun b hb z=>by
   rw[out8 b (nk hb t0 t0m)]
   refine y.out b (fun q=>?_) z
   obtain⟨t,ht,q⟩:=List.mem_flatMap.mp q
   exact nk hb t (giv_mem ht) q
  have ownk:∀t∈u.kids.trees,∀j,BOwn B t j→BOwn B u.kids j:=fun t ht j J1=>J1.elim fun b J2=>J2.elim fun hb q=>⟨b,by rw[← trees_nums];exact List.mem_flatMap.mpr ⟨t,ht,hb⟩,q⟩
  have chk:Ch (BOwn B u.kids) h h8:=(Ro.any ro05).trans ((Ch.mem y.ch fun j J3=>J3.elim fun t J4=>J4.elim fun ht q=>ownk t (giv_mem ht) j q).trans (Ch.mem ch68 fun j q=>ownk t0 t0m j q))
  refine yes h8 σ8 (Ch.mem chk fun j J5=>J5.elim fun b J6=>J6.elim fun hb q=>⟨b,subK b hb,q⟩) (Bv_asm g.bv g.nd (fun z hz=>nodes_sub hu0 z hz) g.inj chk vt outk) ⟨?_,t0,ht0,set8.congr (fun b hb z=>(eq0 b hb z).symm) fun J J J=>rfl⟩ outk
  have:∀(l:List F) (bs:List Int),(∀t∈l,t∈giv u.kids.trees u.nth)→All2 (fun t b=>SetF a σ σ6 t [b]) l bs→All2 (fun t b=>SetF a σ σ8 t [b]) l bs:=by
   intro l bs hm q
   induction q with
   | nil=>exact .nil
   | cons q1 J ih=>exact .cons (q1.congr (fun J J J=>rfl) (eqg _ (hm _ (.head _)))) (ih fun t'' h''=>hm t'' (.tail _ h''))
  exact this _ _ (fun J h=>h) y.set
 have rdef:refused a σ u t0 t0.head delta↔(delta>(giv (spareF a σ u.kids) u.nth).sum∨delta<lead a t0-σ t0.head a):=by unfold refused;constructor<;>(rintro(q | q)<;>lia)
 cases cut with
 | true=>exact w_tt (w_ff (w_ff (tail fun q=>Bool.noConfusion q.1)))
 | false=>
  refine w_ff (w_tt ?_)
  refine w_some (w_by (fun r1=>?_) fun r1=>?_)
  ·exact w_tt (w_tt (no rfl (rdef.mpr (.inl r1)) h5 ro05))
  ·refine w_some (w_by (fun r2=>?_) fun r2=>?_)
   ·exact w_tt (w_tt (no rfl (rdef.mpr (.inr r2)) h5 ro05))
   ·exact w_ff (w_ff (tail fun q=>(rdef.mp q.2).elim r1 r2))
end
end Mine
namespace Mine
theorem SetF.uniq {a:Int}{σ σ1 σ2:Int→Int→Int}:∀{f:F}{ss:List Int},Full f→SetF a σ σ1 f ss→SetF a σ σ2 f ss→∀x∈f.nums,∀y,σ1 x y=σ2 x y:=by
 intro J1
 induction J1 with
 | nil=>
  intro J J J J x hx J
  contradiction
 | node m s k r J8 J9=>
  rintro ss ⟨u1,u2,u3⟩ ⟨a1,a2,a3,a4⟩ ⟨b1,b2,b3,b4⟩ x hx y
  simp only[F.nums0,F.nums1,List.mem_cons,List.mem_append]at hx
  rcases hx with rfl | hx | hx
  ·by_cases e:y=a
   ·rw[e,a1,b1]
   ·rw[a2 y e,b2 y e]
  ·by_cases hs:s=0
   ·rw[u1.mp hs]at hx;contradiction
   ·rw[if_neg hs]at a3 b3
    exact J8 u2 a3 b3 x hx y
  ·exact J9 u3 a4 b4 x hx y
theorem SetF.other {a:Int}{σ σ1:Int→Int→Int}:∀{f:F}{ss:List Int},Full f→SetF a σ σ1 f ss→∀x∈f.nums,∀y,y≠a→σ1 x y=σ x y:=by
 intro J1
 induction J1 with
 | nil=>
  intro J J J x hx J J
  contradiction
 | node m s k r J8 J9=>
  rintro ss ⟨u1,u2,u3⟩ ⟨a1,a2,a3,a4⟩ x hx y hy
  simp only[F.nums0,F.nums1,List.mem_cons,List.mem_append]at hx
  rcases hx with rfl | hx | hx
  ·exact a2 y hy
  ·by_cases hs:s=0
   ·rw[u1.mp hs]at hx;contradiction
   ·rw[if_neg hs]at a3
    exact J8 u2 a3 x hx y hy
  ·exact J9 u3 a4 x hx y hy
theorem SetF.roots {a:Int}{σ σ1:Int→Int→Int}:∀{f:F}{ss:List Int},SetF a σ σ1 f ss→ss.length=f.roots.length→f.roots.map (fun c=>σ1 c a)=ss
 | .nil,[],_,_=>rfl
 | .nil,_::_,_,h=>by simp[F.roots0,F.roots1]at h
 | .node m s k r,[],_,h=>by simp[F.roots0,F.roots1]at h
 | .node m s k r,b::ss,⟨a1,a2,a3,a4⟩,h=>by
  simp only[F.roots0,F.roots1,List.map_cons]
  have a1':σ1 m a=b:=a1
  have a4':SetF a σ σ1 r ss:=a4
  rw[a1',a4'.roots (by simpa[F.roots]using h)]
theorem SetF.good {a:Int}{σ σ1:Int→Int→Int}:∀{f:F}{ss:List Int},SetF a σ σ1 f ss→Full f→Fit a σ f→Tgt a f ss→f.count≤900→Fit a σ1 f∧SzOk a σ1 f
 | .nil,_,_,_,_,_,_=>⟨trivial,trivial⟩
 | .node m s k r,[],_,_,_,t,_=>by contradiction
 | .node m s k r,b::ss,⟨a1,a2,a3,a4⟩,⟨u1,u2,u3⟩,⟨f1,f2,f3⟩,.cons t1 t2,hc=>by
  simp only[F.count0,F.count1]at hc
  have a1':σ1 m a=b:=a1
  have t1':(least a (.node m s k .nil)).headD 0≤b∧b≤1000:=t1
  have J:=SetF.good a4 u3 f3 t2 (by lia);have g3:=J.1;have z3:=J.2
  by_cases hs:s=0
  ·have hk:=u1.mp hs
   subst hk
   exact⟨⟨by rw[a1'];exact t1',trivial,g3⟩,⟨fun z=>absurd hs z,trivial,z3⟩⟩
  ·rw[if_neg hs]at a3
   have hk:k≠.nil:=fun z=>hs (u1.mpr z)
   have h0b:0≤b:=by
    have:=least_pos (a:=a) (f:=.node m s k .nil) ⟨u1,u2,trivial⟩ _ (show(least a (.node m s k .nil)).headD 0∈_ by simp[leastE0,leastE1])
    lia
   have a3':SetF a σ σ1 k (kidsT a σ s k b):=a3
   have kt:=Tgt.kids (m:=m) hs u2 hk (by lia) f2 t1'.1 t1'.2
   have J:=SetF.good a3' u2 f2 kt (by lia);have g2:=J.1;have z2:=J.2
   have kl:=kidsT_length (a:=a) (σ:=σ) (s:=s) (much:=b) u2 hk (by lia) f2 ⟨h0b,t1'.2⟩
   have kr:=a3'.roots kl
   refine⟨⟨by rw[a1'];exact t1',g2,g3⟩,⟨fun _=>?_,z2,z3⟩⟩
   split
   ·rename_i hal
    rw[a1',kr]
    unfold kidsT
    rw[if_pos hal,shares_sum (sh_ok u2 hk (by lia) f2 ⟨h0b,t1'.2⟩)]
   ·rename_i hal
    intro c hc'
    have:σ1 c a∈k.roots.map (fun c=>σ1 c a):=List.mem_map_of_mem hc'
    rw[kr]at this
    unfold kidsT at this
    rw[if_neg hal]at this
    rw[(List.mem_replicate.mp this).2,a1']
theorem cut_same {w:Int}(hw:0<w):∀{ws ls:List Int},ws.length=ls.length→cutF w w ws ls=List.zipWith (fun x l=>l+x) ws ls
 | [],[],_=>rfl
 | [],_::_,h=>by simp at h
 | _::_,[],h=>by simp at h
 | x::ws,l::ls,h=>by
  have e:cutF w w (x::ws) (l::ls)=(l+w*x / w)::cutF w w ws ls:=rfl
  rw[e,cut_same hw (by simpa using h),Int.mul_ediv_cancel_left x (Int.ne_of_gt hw)]
  rfl
theorem addRest_zero:∀(k:Nat) (l:List Int),addRest 0 k l=l
 | _,[]=>rfl
 | k,x::l=>by simp only[addRest0,addRest1,addRest_zero (k+1) l];rw[if_neg (by lia)];simp
theorem shares_same {a:Int}{σ:Int→Int→Int}{k:F}{b:Int}(hf:Full k) (hn:k≠.nil) (hc:k.count≤900) (fit:Fit a σ k) (hb:b=(k.roots.map fun c=>σ c a).sum) (hb2:0≤b∧b≤1000):sharesF b (spareF a σ k) (least a k)=k.roots.map fun c=>σ c a:=by
 have ok:=sh_ok hf hn hc fit hb2
 have zs:∀(xs ls:List Int),xs.length=ls.length→List.zipWith (fun x l=>l+x) (List.zipWith (fun x l=>x-l) xs ls) ls=xs∧(List.zipWith (fun x l=>x-l) xs ls).sum=xs.sum-ls.sum:=by
  intro xs
  induction xs with
  | nil=>intro ls h;cases ls with
   | nil=>exact⟨rfl,rfl⟩
   | cons _ _=>simp at h
  | cons x xs ih=>intro ls h;cases ls with
   | nil=>simp at h
   | cons l ls=>
    obtain⟨i1,i2⟩:=ih ls (by simpa using h)
    refine⟨?_,?_⟩
    ·simp only[List.zipWith_cons_cons,i1];congr 1;lia
    ·simp only[List.zipWith_cons_cons,List.sum_cons,i2];lia
 have hll:(k.roots.map fun c=>σ c a).length=(least a k).length:=by rw[List.length_map,least_length]
 obtain⟨e1,e2⟩:=zs _ _ hll
 have esp:=spare_zip a σ k
 have sp0:0≤(spareF a σ k).sum:=by
  have:=sum_ge (l:=spareF a σ k) (b:=0) fun w hw=>(ok.wlo w hw).1
  lia
 have eroom:b-(least a k).sum=(spareF a σ k).sum:=by rw[esp,e2,hb]
 unfold sharesF
 dsimp only
 have J:=wts_ok ok;have w1:=J.1;have w3:=J.2.2.1
 by_cases hz:(spareF a σ k).sum=0
 ·have all0:∀w∈spareF a σ k,w=0:=fun w hw=>by
   have h1:=(ok.wlo w hw).1
   have h2:=mem_le_sum (fun x hx=>(ok.wlo x hx).1) hw
   lia
  have cut0:∀(w:Int) (ws ls:List Int),ws.length=ls.length→cutF 0 w ws ls=ls:=by
   intro w ws
   induction ws with
   | nil=>intro ls h;cases ls with
    | nil=>rfl
    | cons _ _=>simp at h
   | cons x ws ih=>intro ls h;cases ls with
    | nil=>simp at h
    | cons l ls=>
     have e:cutF 0 w (x::ws) (l::ls)=(l+0*x / w)::cutF 0 w ws ls:=rfl
     rw[e,ih ls (by simpa using h)];simp
  rw[eroom,hz,cut0 _ _ _ w1]
  have:b-(least a k).sum=0:=by rw[eroom,hz]
  rw[this,addRest_zero]
  have:∀(xs ls:List Int),xs.length=ls.length→(∀w∈List.zipWith (fun x l=>x-l) xs ls,w=0)→ls=xs:=by
   intro xs
   induction xs with
   | nil=>intro ls h _;cases ls with
    | nil=>rfl
    | cons _ _=>simp at h
   | cons x xs ih=>intro ls h hw;cases ls with
    | nil=>simp at h
    | cons l ls=>
     have:=hw (x-l) (by simp)
     rw[ih ls (by simpa using h) fun w hw'=>hw w (by simp[hw'])]
     congr 1;lia
  exact this _ _ hll (by rw[← esp];exact all0)
 ·have ew:wts (spareF a σ k)=spareF a σ k:=by unfold wts;rw[if_neg hz]
  rw[ew,eroom,cut_same (by lia) (by rw[spare_length,least_length])]
  have e3:List.zipWith (fun x l=>l+x) (spareF a σ k) (least a k)=k.roots.map fun c=>σ c a:=by rw[esp];exact e1
  rw[e3,← hb]
  have:b-b=0:=by lia
  rw[this,addRest_zero]
theorem SetF.same {a:Int}{σ σ1:Int→Int→Int}:∀{f:F},Full f→Fit a σ f→SzOk a σ f→f.count≤900→SetF a σ σ1 f (f.roots.map fun c=>σ c a)→∀x∈f.nums,∀y,σ1 x y=σ x y:=by
 intro J1
 induction J1 with
 | nil=>
  intro J J J J J x hx J
  contradiction
 | node m s k r J8 J9=>
  rintro⟨u1,u2,u3⟩ ⟨f1,f2,f3⟩ ⟨z1,z2,z3⟩ hc ⟨a1,a2,a3,a4⟩ x hx y
  simp only[F.count0,F.count1]at hc
  simp only[F.nums0,F.nums1,List.mem_cons,List.mem_append]at hx
  have a1':σ1 m a=σ m a:=a1
  rcases hx with rfl | hx | hx
  ·by_cases e:y=a
   ·rw[e,a1']
   ·exact a2 y e
  ·by_cases hs:s=0
   ·rw[u1.mp hs]at hx;contradiction
   ·rw[if_neg hs]at a3
    have hk:k≠.nil:=fun z=>hs (u1.mpr z)
    have a3':SetF a σ σ1 k (kidsT a σ s k (σ m a)):=a3
    have hb:0≤σ m a∧σ m a≤1000:=by
     have:=least_pos (a:=a) (f:=.node m s k .nil) ⟨u1,u2,trivial⟩ _ (show(least a (.node m s k .nil)).headD 0∈_ by simp[leastE0,leastE1])
     lia
    have ek:kidsT a σ s k (σ m a)=k.roots.map fun c=>σ c a:=by
     have z1':=z1 hs
     unfold kidsT
     split
     ·rename_i hal
      rw[if_pos hal]at z1'
      exact shares_same u2 hk (by lia) f2 z1' hb
     ·rename_i hal
      rw[if_neg hal]at z1'
      have:∀l:List Int,(∀c∈l,σ c a=σ m a)→List.replicate l.length (σ m a)=l.map fun c=>σ c a:=by
       intro l
       induction l with
       | nil=>intro _;rfl
       | cons c l ih=>intro h;rw[List.length_cons,List.replicate_succ,List.map_cons,h c (.head _),ih fun d hd=>h d (.tail _ hd)]
      exact this _ z1'
    rw[ek]at a3'
    exact J8 u2 f2 z2 (by lia) a3' x hx y
  ·have a4':SetF a σ σ1 r (r.roots.map fun c=>σ c a):=a4
   exact J9 u3 f3 z3 (by lia) a4' x hx y
end Mine
namespace Mine
theorem All2.self {α:Type}{R:α→α→Prop}:∀{l:List α},(∀x∈l,R x x)→All2 R l l:=by
 intro J1
 induction J1 with
 | nil=>
  intro J
  exact .nil
 | cons x l J8=>
  intro h
  exact .cons (h x (.head _)) (J8 fun y hy=>h y (.tail _ hy))
theorem All2.both {α β:Type}{R S:α→β→Prop}{as:List α}{bs:List β}(x:All2 R as bs) (y:All2 S as bs):All2 (fun a b=>R a b∧S a b) as bs:=by
 induction x with
 | nil=>exact .nil
 | cons h _ ih=>cases y with
  | cons h' t'=>exact .cons ⟨h,h'⟩ (ih t')
theorem newS_length {a:Int}{σ:Int→Int→Int}:∀{ts:List F}{left:Int},(newS a σ left ts).length=ts.length:=by
 intro J1
 induction J1 with
 | nil=>
  intro J
  exact rfl
 | cons t ts J8=>
  intro left
  simp[newS0,newS1,J8]
theorem newS_zero {a:Int}{σ:Int→Int→Int}:∀{ts:List F},newS a σ 0 ts=ts.map fun t=>σ t.head a:=by
 intro J1
 induction J1 with
 | nil=>
  exact rfl
 | cons t ts J8=>
  simp only[newS0,newS1,List.map_cons]
  have e:¬((0:Int)>0):=by lia
  rw[if_neg e]
  have e2:(0:Int)-0=0:=rfl
  have e3:σ t.head a-0=σ t.head a:=by lia
  rw[e2,e3,J8]
theorem newS_sum {a:Int}{σ:Int→Int→Int}:∀{ts:List F}{left:Int},(∀t∈ts,0≤σ t.head a-lead a t)→left≤(ts.map fun t=>σ t.head a-lead a t).sum→(ts≠[]∨left=0)→(newS a σ left ts).sum=(ts.map fun t=>σ t.head a).sum-left:=by
 intro J1
 induction J1 with
 | nil=>
  intro left J J h
  have:left=0:=h.elim (fun z=>absurd rfl z) id
  subst this;rfl
 | cons t ts J8=>
  intro left hp hl h
  simp only[newS0,newS1,List.sum_cons,List.map_cons]at hl⊢
  have h0:=hp t (.head _)
  by_cases e:left>0
  ·simp only[e,if_true]
   by_cases e2:left≤σ t.head a-lead a t
   ·rw[Int.min_eq_left e2]
    have:left-left=0:=by lia
    rw[this,newS_zero]
    lia
   ·rw[Int.min_eq_right (by lia)]
    have hne:ts≠[]:=by
     intro z;rw[z]at hl;simp at hl;contradiction
    rw[J8 (fun t' ht'=>hp t' (.tail _ ht')) (by lia) (.inl hne)]
    lia
  ·simp only[e,if_false]
   have:left-left=0:=by lia
   rw[this,newS_zero]
   lia
theorem Fit_trees {a:Int}{σ:Int→Int→Int}:∀{f:F},(∀t∈f.trees,Fit a σ t)→Fit a σ f:=by
 intro J1
 induction J1 with
 | nil=>
  intro J
  exact trivial
 | node m s k r J8 J9=>
  intro h
  obtain⟨h1,h2,_⟩:=h _ (.head _)
  exact⟨h1,h2,J9 fun t ht=>h t (.tail _ ht)⟩
theorem SzOk_trees {a:Int}{σ:Int→Int→Int}:∀{f:F},(∀t∈f.trees,SzOk a σ t)→SzOk a σ f:=by
 intro J1
 induction J1 with
 | nil=>
  intro J
  exact trivial
 | node m s k r J8 J9=>
  intro h
  obtain⟨h1,h2,_⟩:=h _ (.head _)
  exact⟨h1,h2,J9 fun t ht=>h t (.tail _ ht)⟩
theorem sum_perm {l l':List Int}(p:l.Perm l'):l.sum=l'.sum:=by
 induction p with
 | nil=>rfl
 | cons x _ ih=>simp[ih]
 | swap x y l=>simp only[List.sum_cons];lia
 | trans _ _ i1 i2=>exact i1.trans i2
structure Row (a:Int) (σ:Int→Int→Int) (K:F) (nth:Nat) (t0:F):Prop where
 full:Full K
 nd:K.nums.Nodup
 fit:Fit a σ K
 sz:SzOk a σ K
 few:K.count<300
 low:∀t∈K.trees,σ t.head a≤500
 tn:K.trees[nth]?=some t0
 two:2≤K.roots.length
section
variable {a:Int}{σ σ1 σ2:Int→Int→Int}{K t0:F}{nth:Nat}{d:Int}
theorem Row.tree (x:Row a σ K nth t0) {t:F}(ht:t∈K.trees):Full t∧Fit a σ t∧SzOk a σ t∧t.count≤K.count∧(∃y,t=F.one y)∧lead a t≤σ t.head a:=by
 obtain⟨y,hy,rfl⟩:=trees_nodes ht
 have f:=x.fit.nodes y hy
 exact⟨x.full.nodes y hy,f,x.sz.nodes y hy,F.count_nodes y hy,⟨y,rfl⟩,f.1.1⟩
theorem one_trees {y:Int×Int×F}:(F.one y).roots=[y.1]∧(F.one y).head=y.1:=⟨rfl,rfl⟩
theorem Rz.all (r:Rz a σ σ1 K nth d) {t0:F}(ht:K.trees[nth]?=some t0):All2 (fun t b=>SetF a σ σ1 t [b]) (t0::giv K.trees nth) ((σ t0.head a+d)::newS a σ d (giv K.trees nth)):=by
 obtain⟨r1,t1,e1,s1⟩:=r
 rw[ht]at e1;cases e1
 exact .cons s1 r1
theorem Rz.tree (r:Rz a σ σ1 K nth d) (x:Row a σ K nth t0) {t:F}(ht:t∈K.trees):∃b,SetF a σ σ1 t [b]:=by
 have:=(giv_perm x.tn).symm.subset ht
 obtain⟨b,_,s⟩:=(r.all x.tn).memL this
 exact⟨b,s⟩
theorem Rz.uniq (x:Row a σ K nth t0) (r1:Rz a σ σ1 K nth d) (r2:Rz a σ σ2 K nth d):∀y∈K.nums,∀z,σ1 y z=σ2 y z:=by
 intro y hy z
 rw[← trees_nums,List.mem_flatMap]at hy
 obtain⟨t,ht,hyt⟩:=hy
 have ht':=(giv_perm x.tn).symm.subset ht
 obtain⟨b,_,s1,s2⟩:=((r1.all x.tn).both (r2.all x.tn)).memL ht'
 exact s1.uniq (x.tree ht).1 s2 y hyt z
theorem Rz.zero (x:Row a σ K nth t0) (r:Rz a σ σ1 K nth 0):∀y∈K.nums,∀z,σ1 y z=σ y z:=by
 intro y hy z
 rw[← trees_nums,List.mem_flatMap]at hy
 obtain⟨t,ht,hyt⟩:=hy
 have ht':=(giv_perm x.tn).symm.subset ht
 have al:=r.all x.tn
 rw[newS_zero,show σ t0.head a+0=σ t0.head a by lia]at al
 have al2:All2 (fun t b=>b=σ t.head a) (t0::giv K.trees nth) (σ t0.head a::(giv K.trees nth).map fun t=>σ t.head a):=.cons rfl (by
  have:∀l:List F,All2 (fun t b=>b=σ t.head a) l (l.map fun t=>σ t.head a):=by
   intro l
   induction l with
   | nil=>exact .nil
   | cons _ _ ih=>exact .cons rfl ih
  exact this _)
 obtain⟨b,_,s1,s2⟩:=(al.both al2).memL ht'
 obtain⟨q1,q2,q3,q4,⟨w,hw⟩,_⟩:=x.tree ht
 have few:=x.few
 subst s2
 subst hw
 exact SetF.same q1 q2 q3 (by lia) s1 y hyt z
theorem Rz.good (x:Row a σ K nth t0) (hn:¬(d>(giv (spareF a σ K) nth).sum∨σ t0.head a+d<lead a t0)) (h1:-400≤d) (h2:σ t0.head a+d≤1000) (r:Rz a σ σ1 K nth d):Fit a σ1 K∧SzOk a σ1 K∧(K.roots.map fun c=>σ1 c a).sum=(K.roots.map fun c=>σ c a).sum:=by
 have perm:=giv_perm x.tn
 have few:=x.few
 have t0m:=List.mem_of_getElem? x.tn
 have al:=r.all x.tn
 have bd:All2 (fun t b=>lead a t≤b∧b≤1000) (t0::giv K.trees nth) ((σ t0.head a+d)::newS a σ d (giv K.trees nth)):=.cons ⟨by lia,h2⟩ (newS_bd (fun t ht=>⟨(x.tree (giv_mem ht)).2.2.2.2.2,x.low t (giv_mem ht)⟩) h1)
 have each:∀t∈K.trees,Fit a σ1 t∧SzOk a σ1 t:=fun t ht=>by
  obtain⟨b,_,s,b1,b2⟩:=(al.both bd).memL (perm.symm.subset ht)
  obtain⟨q1,q2,q3,q4,⟨w,hw⟩,_⟩:=x.tree ht
  subst hw
  exact SetF.good s q1 q2 (.cons ⟨b1,b2⟩ .nil) (by lia)
 refine⟨Fit_trees fun t ht=>(each t ht).1,SzOk_trees fun t ht=>(each t ht).2,?_⟩
 have heads:All2 (fun t b=>σ1 t.head a=b) (t0::giv K.trees nth) ((σ t0.head a+d)::newS a σ d (giv K.trees nth)):=by
  have:∀(l:List F) (bs:List Int),(∀t∈l,t∈K.trees)→All2 (fun t b=>SetF a σ σ1 t [b]) l bs→All2 (fun t b=>σ1 t.head a=b) l bs:=by
   intro l
   induction l with
   | nil=>intro bs _ q;cases q;exact .nil
   | cons t l ih=>
    intro bs hm q
    cases q with
    | cons q1 q2=>
     refine .cons ?_ (ih _ (fun t' h'=>hm t' (.tail _ h')) q2)
     obtain⟨_,_,_,_,⟨w,hw⟩,_⟩:=x.tree (hm t (.head _))
     subst hw
     exact q1.1
  exact this _ _ (fun t ht=>perm.subset ht) al
 have e1:(t0::giv K.trees nth).map (fun t=>σ1 t.head a)=(σ t0.head a+d)::newS a σ d (giv K.trees nth):=by
  have:∀(l:List F) (bs:List Int),All2 (fun t b=>σ1 t.head a=b) l bs→l.map (fun t=>σ1 t.head a)=bs:=by
   intro l bs q
   induction q with
   | nil=>rfl
   | cons h _ ih=>rw[List.map_cons,h,ih]
  exact this _ _ heads
 have r1:(K.roots.map fun c=>σ1 c a).sum=((t0::giv K.trees nth).map fun t=>σ1 t.head a).sum:=by
  rw[roots_heads K fun c=>σ1 c a];exact(sum_perm (perm.map _)).symm
 have r2:(K.roots.map fun c=>σ c a).sum=((t0::giv K.trees nth).map fun t=>σ t.head a).sum:=by
  rw[roots_heads K fun c=>σ c a];exact(sum_perm (perm.map _)).symm
 have hsp:(giv (spareF a σ K) nth)=(giv K.trees nth).map fun t=>σ t.head a-lead a t:=by rw[spare_trees,giv_map]
 rw[r1,e1,r2]
 simp only[List.sum_cons,List.map_cons]
 have gl:=giv_length (l:=K.trees) (n:=nth) (List.getElem?_eq_some_iff.mp x.tn).1
 have tl:=F.trees_length K
 have two:=x.two
 rw[newS_sum (fun t ht=>by have:=(x.tree (giv_mem ht)).2.2.2.2.2;exact Int.sub_nonneg_of_le (by assumption)) (by rw[← hsp];lia) (.inl fun z=>by rw[z]at gl;simp at gl;lia)]
 lia
theorem Rz.other (x:Row a σ K nth t0) (r:Rz a σ σ1 K nth d):∀y∈K.nums,∀z,z≠a→σ1 y z=σ y z:=by
 intro y hy z hz
 rw[← trees_nums,List.mem_flatMap]at hy
 obtain⟨t,ht,hyt⟩:=hy
 obtain⟨b,s⟩:=r.tree x ht
 exact s.other (x.tree ht).1 y hyt z hz
end
theorem kids_not_roots:∀{f:F},f.nums.Nodup→∀u∈f.nodes,∀c∈f.roots,c∉u.2.2.nums:=by
 intro J1
 induction J1 with
 | nil=>
  intro J u hu J J
  cases hu
 | node m s k r J8 J9=>
  intro hn u hu c hc
  simp only[F.nums0,F.nums1,List.nodup_cons,List.mem_append,not_or,List.nodup_append]at hn
  obtain⟨⟨mk,mr⟩,nk,nr,dj⟩:=hn
  simp only[F.nodes0,F.nodes1,List.mem_cons,List.mem_append]at hu
  simp only[F.roots0,F.roots1,List.mem_cons]at hc
  have sub:∀{g:F},u∈g.nodes→∀x∈u.2.2.nums,x∈g.nums:=fun hg x hx=>by
   obtain⟨s1,k1,h1⟩:=num_node hx
   exact nodes_num (nodes_sub hg _ h1)
  rcases hu with rfl | hu | hu
  ·rcases hc with rfl | hc
   ·exact mk
   ·exact fun z=>dj c z c (roots_sub.subset hc) rfl
  ·rcases hc with rfl | hc
   ·exact fun z=>mk (sub hu _ z)
   ·exact fun z=>dj c (sub hu _ z) c (roots_sub.subset hc) rfl
  ·rcases hc with rfl | hc
   ·exact fun z=>mr (sub hu _ z)
   ·exact J9 nr u hu c hc
theorem SzOk_upd {a:Int}{σ σ':Int→Int→Int}{u:Int×Int×F}:∀{f:F},f.nums.Nodup→u∈f.nodes→SzOk a σ f→(∀x,x∉u.2.2.nums→∀y,σ' x y=σ x y)→SzOk a σ' u.2.2→along u.2.1=a→u.2.1≠0→(u.2.2.roots.map fun c=>σ' c a).sum=(u.2.2.roots.map fun c=>σ c a).sum→SzOk a σ' f:=by
 intro J1
 induction J1 with
 | nil=>
  intro J hu J J J J J J
  cases hu
 | node m s k r J8 J9=>
  rintro hn hu ⟨z1,z2,z3⟩ out zk al hs0 sm
  have hn':=hn
  simp only[F.nums0,F.nums1,List.nodup_cons,List.mem_append,not_or,List.nodup_append]at hn
  obtain⟨⟨mk,mr⟩,nk,nr,dj⟩:=hn
  simp only[F.nodes0,F.nodes1,List.mem_cons,List.mem_append]at hu
  have sub:∀{g:F},u∈g.nodes→∀x∈u.2.2.nums,x∈g.nums:=fun hg x hx=>by
   obtain⟨s1,k1,h1⟩:=num_node hx
   exact nodes_num (nodes_sub hg _ h1)
  rcases hu with rfl | hu | hu
  ·refine⟨fun hs=>?_,zk,z3.congr fun x hx=>out x fun q=>dj x q x hx rfl⟩
   have:=z1 hs
   dsimp only at al sm
   rw[if_pos al]at this⊢
   rw[out m mk,this,sm]
  ·have rk:∀c∈k.roots,σ' c a=σ c a:=fun c hc=>out c (kids_not_roots nk u hu c hc) a
   have em:σ' m a=σ m a:=out m (fun q=>mk (sub hu _ q)) a
   refine⟨fun hs=>?_,J8 nk hu z2 out zk al hs0 sm,z3.congr fun x hx=>out x fun q=>dj x (sub hu _ q) x hx rfl⟩
   have:=z1 hs
   split
   ·rename_i q
    rw[if_pos q]at this
    rw[em,this]
    congr 1
    exact List.map_congr_left fun c hc=>(rk c hc).symm
   ·rename_i q
    rw[if_neg q]at this
    intro c hc
    rw[rk c hc,em];exact this c hc
  ·refine⟨fun hs=>?_,z2.congr fun x hx=>out x fun q=>dj x hx x (sub hu _ q) rfl,J9 nr hu z3 out zk al hs0 sm⟩
   have rk:∀c∈k.roots,σ' c a=σ c a:=fun c hc=>out c (fun q=>dj c (roots_sub.subset hc) c (sub hu _ q) rfl) a
   have em:σ' m a=σ m a:=out m (fun q=>mr (sub hu _ q)) a
   have:=z1 hs
   split
   ·rename_i q
    rw[if_pos q]at this
    rw[em,this]
    congr 1
    exact List.map_congr_left fun c hc=>(rk c hc).symm
   ·rename_i q
    rw[if_neg q]at this
    intro c hc
    rw[rk c hc,em];exact this c hc
theorem Fit_upd {a:Int}{σ σ':Int→Int→Int}{u:Int×Int×F}:∀{f:F},f.nums.Nodup→u∈f.nodes→Fit a σ f→(∀x,x∉u.2.2.nums→∀y,σ' x y=σ x y)→Fit a σ' u.2.2→Fit a σ' f:=by
 intro J1
 induction J1 with
 | nil=>
  intro J hu J J J
  cases hu
 | node m s k r J8 J9=>
  rintro hn hu ⟨z1,z2,z3⟩ out zk
  simp only[F.nums0,F.nums1,List.nodup_cons,List.mem_append,not_or,List.nodup_append]at hn
  obtain⟨⟨mk,mr⟩,nk,nr,dj⟩:=hn
  simp only[F.nodes0,F.nodes1,List.mem_cons,List.mem_append]at hu
  have sub:∀{g:F},u∈g.nodes→∀x∈u.2.2.nums,x∈g.nums:=fun hg x hx=>by
   obtain⟨s1,k1,h1⟩:=num_node hx
   exact nodes_num (nodes_sub hg _ h1)
  rcases hu with rfl | hu | hu
  ·exact⟨by rw[out m mk];exact z1,zk,z3.congr fun x hx=>out x fun q=>dj x q x hx rfl⟩
  ·exact⟨by rw[out m fun q=>mk (sub hu _ q)];exact z1,J8 nk hu z2 out zk,z3.congr fun x hx=>out x fun q=>dj x (sub hu _ q) x hx rfl⟩
  ·exact⟨by rw[out m fun q=>mr (sub hu _ q)];exact z1,z2.congr fun x hx=>out x fun q=>dj x hx x (sub hu _ q) rfl,J9 nr hu z3 out zk⟩
theorem SzOk.congr1 {a:Int}{σ σ':Int→Int→Int}:∀{f:F},SzOk a σ f→(∀x∈f.nums,σ' x a=σ x a)→SzOk a σ' f:=by
 intro J1
 induction J1 with
 | nil=>
  intro J J
  exact trivial
 | node m s k r J8 J9=>
  rintro⟨h1,h2,h3⟩ e
  simp only[F.nums0,F.nums1,List.mem_cons,List.mem_append]at e
  refine⟨fun hs=>?_,J8 h2 fun x hx=>e x (.inr (.inl hx)),J9 h3 fun x hx=>e x (.inr (.inr hx))⟩
  have:=h1 hs
  have ek:∀c∈k.roots,σ' c a=σ c a:=fun c hc=>e c (.inr (.inl (roots_sub.subset hc)))
  split at this
  ·rename_i q
   rw[if_pos q,e m (.inl rfl),this]
   congr 1
   exact List.map_congr_left fun c hc=>(ek c hc).symm
  ·rename_i q
   rw[if_neg q]
   intro c hc
   rw[ek c hc,e m (.inl rfl)]
   exact this c hc
theorem Fit.congr1 {a:Int}{σ σ':Int→Int→Int}:∀{f:F},Fit a σ f→(∀x∈f.nums,σ' x a=σ x a)→Fit a σ' f:=by
 intro J1
 induction J1 with
 | nil=>
  intro J J
  exact trivial
 | node m s k r J8 J9=>
  rintro⟨h1,h2,h3⟩ e
  simp only[F.nums0,F.nums1,List.mem_cons,List.mem_append]at e
  exact⟨by rw[e m (.inl rfl)];exact h1,J8 h2 fun x hx=>e x (.inr (.inl hx)),J9 h3 fun x hx=>e x (.inr (.inr hx))⟩
end Mine
namespace Mine
noncomputable def Alt:Int→F→Prop
 | _,.nil=>True
 | p,.node _ s k r=>s≠p∧Alt s k∧Alt p r
theorem Alt0 {p}:Alt p .nil=True:=rfl
theorem Alt1 {p m s k r}:Alt p (.node m s k r)=(s≠p∧Alt s k∧Alt p r):=rfl
noncomputable def Two:F→Prop
 | .nil=>True
 | .node _ s k r=>(s≠0→2≤k.roots.length)∧Two k∧Two r
theorem Two0:Two .nil=True:=rfl
theorem Two1 {m s k r}:Two (.node m s k r)=((s≠0→2≤k.roots.length)∧Two k∧Two r):=rfl
noncomputable def Rho (ρ:Int→Int):Int→F→Prop
 | _,.nil=>True
 | p,.node m _ k r=>ρ m=p∧Rho ρ m k∧Rho ρ p r
theorem Rho0 {ρ p}:Rho ρ p .nil=True:=rfl
theorem Rho1 {ρ p m s k r}:Rho ρ p (.node m s k r)=(ρ m=p∧Rho ρ m k∧Rho ρ p r):=rfl
structure Good (σ:Int→Int→Int) (ρ:Int→Int) (F0:F):Prop where
 one:∃x,F0=F.one x∧σ x.1 0≤63∧σ x.1 1≤63
 srt:Srt F0
 full:Full F0
 alt:Alt 9 F0
 two:Two F0
 nd:F0.nums.Nodup
 fit0:Fit 0 σ F0
 fit1:Fit 1 σ F0
 sz0:SzOk 0 σ F0
 sz1:SzOk 1 σ F0
 pos:∀x∈F0.nums,0<x
 rho:Rho ρ 0 F0
 few:F0.count<40
 off:∀x y,y≠0→y≠1→σ x y≤500
theorem low_of {a:Int}{σ:Int→Int→Int}:∀{f:F},Full f→Fit a σ f→SzOk a σ f→∀x∈f.nums,∃c∈f.roots,σ x a≤σ c a:=by
 intro J1
 induction J1 with
 | nil=>
  intro J J J x hx
  contradiction
 | node m s k r J8 J9=>
  rintro⟨u1,u2,u3⟩ ⟨f1,f2,f3⟩ ⟨z1,z2,z3⟩ x hx
  simp only[F.nums0,F.nums1,List.mem_cons,List.mem_append]at hx
  rcases hx with rfl | hx | hx
  ·exact⟨x,by simp[F.roots0,F.roots1],Int.le_refl _⟩
  ·obtain⟨c,hc,hle⟩:=J8 u2 f2 z2 x hx
   refine⟨m,by simp[F.roots0,F.roots1],Int.le_trans hle ?_⟩
   have hs:s≠0:=fun z=>by rw[u1.mp z]at hx;cases hx
   have:=z1 hs
   split at this
   ·rw[this]
    refine mem_le_sum (fun y hy=>?_) (List.mem_map_of_mem hc)
    obtain⟨d,hd,rfl⟩:=List.mem_map.mp hy
    have hdn:=roots_sub.subset hd
    obtain⟨s1,k1,h1⟩:=num_node hdn
    have q:=(f2.nodes _ h1).1.1
    have q2:=least_pos (a:=a) (u2.nodes _ h1) _ (show(least a (F.one (d,s1,k1))).headD 0∈_ by simp[F.one,leastE1])
    simp only[F.one]at q2
    show 0≤σ d a
    have q':(least a (.node d s1 k1 .nil)).headD 0≤σ d a:=q
    lia
   ·rw[this c hc];exact Int.le_refl _
  ·obtain⟨c,hc,hle⟩:=J9 u3 f3 z3 x hx
   exact⟨c,by simp[F.roots0,F.roots1,hc],hle⟩
section
variable {σ π:Int→Int→Int}{ρ:Int→Int}{F0:F}
theorem Good.low (g:Good σ ρ F0):∀x∈F0.nums,∀y,σ x y≤500:=by
 intro x hx y
 obtain⟨w,hw,l0,l1⟩:=g.one
 by_cases e0:y=0
 ·subst e0
  obtain⟨c,hc,hle⟩:=low_of g.full g.fit0 g.sz0 x hx
  rw[hw]at hc
  have:c=w.1:=by simpa[F.one,F.roots0,F.roots1]using hc
  subst this;lia
 ·by_cases e1:y=1
  ·subst e1
   obtain⟨c,hc,hle⟩:=low_of g.full g.fit1 g.sz1 x hx
   rw[hw]at hc
   have:c=w.1:=by simpa[F.one,F.roots0,F.roots1]using hc
   subst this;lia
  ·exact g.off x y e0 e1
theorem Good.fit (g:Good σ ρ F0) {a:Int}(ha:a=0∨a=1):Fit a σ F0:=by rcases ha with rfl | rfl;exact g.fit0;exact g.fit1
theorem Good.sz (g:Good σ ρ F0) {a:Int}(ha:a=0∨a=1):SzOk a σ F0:=by rcases ha with rfl | rfl;exact g.sz0;exact g.sz1
theorem cells_eq:∀{f:F}{s l t:Int},PlS σ π f (posF σ s f l t)→cellsF σ s f l t=f.nodes.map fun x=>[π x.1 0,π x.1 1,σ x.1 0,σ x.1 1]:=by
 intro J1
 induction J1 with
 | nil=>
  intro J J J J
  exact rfl
 | node m s' k r J8 J9=>
  rintro s l t ⟨h1,h2,h3,h4⟩
  have h1':π m 0=l:=h1
  have h2':π m 1=t:=h2
  have h3':PlS σ π k (posF σ s' k l t):=h3
  have h4':PlS σ π r (posF σ s r (if along s=0 then l+σ m 0 else l) (if along s=0 then t else t+σ m 1)):=h4
  have e:(along s=0)=(s=2):=by unfold along;by_cases q:s=2<;>simp[q]
  have ih4:=J9 h4'
  simp only[e]at ih4
  simp only[cellsF0,cellsF1,F.nodes0,F.nodes1,List.map_cons,List.map_append,h1',h2',J8 h3',ih4]
theorem kids_ok {m s:Int}:∀{f:F}{l t:Int},PlS σ π f (posF σ s f l t)→Rho ρ m f→Alt s f→(∀c∈f.roots,σ c (1-along s)=σ m (1-along s))→(if along s=0 then t=π m 1 else l=π m 0)→(if along s=0 then l else t)+(f.roots.map fun c=>σ c (along s)).sum=π m (along s)+σ m (along s)→KidsOk σ π ρ m s f (if along s=0 then l else t):=by
 intro J1
 induction J1 with
 | nil=>
  intro l t J J J J J hs
  show(if along s=0 then l else t)=π m (along s)+σ m (along s)
  simpa[F.roots0,F.roots1]using hs
 | node c cs k r J8 J9=>
  rintro l t ⟨h1,h2,h3,h4⟩ ⟨r1,r2,r3⟩ ⟨a1,a2,a3⟩ hc hp hs
  have h1':π c 0=l:=h1
  have h2':π c 1=t:=h2
  have h4':PlS σ π r (posF σ s r (if along s=0 then l+σ c 0 else l) (if along s=0 then t else t+σ c 1)):=h4
  have ih:=J9 h4' r3 a3 (fun d hd=>hc d (by simp[F.roots0,F.roots1,hd]))
  have hc0:=hc c (by simp[F.roots0,F.roots1])
  simp only[F.roots0,F.roots1,List.map_cons,List.sum_cons]at hs
  rcases along_ax s with e | e
  ·simp only[e,if_true]at ih hp hs hc0⊢
   refine⟨r1,a1,by rw[e];exact h1',by rw[e];show π c 1=π m 1;rw[h2',hp],by rw[e];exact hc0,?_⟩
   have:=ih hp (by lia)
   rw[e];exact this
  ·have e':¬((1:Int)=0):=by decide
   simp only[e,e',if_false]at ih hp hs hc0⊢
   refine⟨r1,a1,by rw[e];exact h2',by rw[e];show π c 0=π m 0;rw[h1',hp],by rw[e];exact hc0,?_⟩
   have:=ih hp (by lia)
   rw[e];exact this
theorem nodes_ok:∀{f:F}{ps:List (Int×Int)}{p q:Int},PlS σ π f ps→Rho ρ p f→Alt q f→Two f→Full f→Srt f→Fit 0 σ f→Fit 1 σ f→SzOk 0 σ f→SzOk 1 σ f→∀x∈f.nodes,NodeOk σ π ρ x:=by
 intro J1
 induction J1 with
 | nil=>
  intro J J J J J J J J J J J J J x hx
  contradiction
 | node m s k r J8 J9=>
  rintro ps p q ⟨h1,h2,h3,h4⟩ ⟨r1,r2,r3⟩ ⟨a1,a2,a3⟩ ⟨t1,t2,t3⟩ ⟨u1,u2,u3⟩ ⟨s1,s2,s3⟩ ⟨f1,f2,f3⟩ ⟨g1,g2,g3⟩ ⟨y1,y2,y3⟩ ⟨z1,z2,z3⟩ x hx
  simp only[F.nodes0,F.nodes1,List.mem_cons,List.mem_append]at hx
  rcases hx with rfl | hx | hx
  ·unfold NodeOk
   dsimp only
   by_cases hs:s=0
   ·rw[if_pos hs]
    refine⟨u1.mp hs,?_,?_⟩
    ·have:=f1.1;simpa[leastE0,leastE1,hs]using this
    ·have:=g1.1;simpa[leastE0,leastE1,hs]using this
   ·rw[if_neg hs]
    refine⟨t1 hs,?_⟩
    have y1':=y1 hs
    have z1':=z1 hs
    rcases along_ax s with e | e
    ·have e1:¬((0:Int)=1):=by decide
     rw[e]at y1' z1'
     simp only[if_true,e1,if_false]at y1' z1'
     have ko:=kids_ok (m:=m) (l:=π m 0) (t:=π m 1) (σ:=σ) (π:=π) (ρ:=ρ) (s:=s) (f:=k) (by rw[h1,h2];exact h3) r2 a2 (by rw[e];exact z1') (by rw[e,if_pos rfl]) (by rw[e,if_pos rfl];lia)
     rw[e,if_pos rfl]at ko
     rw[e];exact ko
    ·have e1:¬((1:Int)=0):=by decide
     rw[e]at y1' z1'
     simp only[if_true,e1,if_false]at y1' z1'
     have ko:=kids_ok (m:=m) (l:=π m 0) (t:=π m 1) (σ:=σ) (π:=π) (ρ:=ρ) (s:=s) (f:=k) (by rw[h1,h2];exact h3) r2 a2 (by rw[e];exact y1') (by rw[e,if_neg e1]) (by rw[e,if_neg e1];lia)
     rw[e,if_neg e1]at ko
     rw[e];exact ko
  ·exact J8 h3 r2 a2 t2 u2 s2 f2 g2 y2 z2 x hx
  ·exact J9 h4 r3 a3 t3 u3 s3 f3 g3 y3 z3 x hx
end
noncomputable def WayTop (h:Hp) (es:List (Int×V)) (W:WS) (p c:Int):List Up→Prop
 | []=>p=0
 | u::up=>u.m=p∧p≠0∧u.kids.roots[u.nth]?=some c∧WayOk h es W u.m u.s u.kids.roots up
section
variable {h:Hp}{es:List (Int×V)}{W:WS}
theorem WayTop.ok {p c s:Int}{ks:List Int}{way:List Up}(x:WayTop h es W p c way) (w:Wn h es W c s p ks):WayOk h es W c s ks way:=by
 cases way with
 | nil=>
  have:p=0:=x
  subst this;exact w
 | cons u up=>
  obtain⟨h1,h2,h3,h4⟩:=x
  subst h1
  exact⟨w,h2,h3,h4⟩
theorem WayOk.leads:∀{way:List Up}{m s:Int}{ks:List Int},WayOk h es W m s ks way→Leads m way:=by
 intro J1
 induction J1 with
 | nil=>
  intro J J J J
  exact trivial
 | cons u up J8=>
  rintro m s ks ⟨_,_,h3,h4⟩
  exact⟨h3,J8 h4⟩
theorem all_ways {F0:F}(pos:∀x∈F0.nums,x≠0):∀{f:F}{mk:Nat→List Up}{k:Nat}{p:Int}{L:Nat},Vw h es W f→Rho W.ρ p f→(∀x∈f.nodes,x∈F0.nodes)→(∀j c,f.roots[j]?=some c→WayTop h es W p c (mk (k+j)))→(∀j,∀u∈mk j,(u.m,u.s,u.kids)∈F0.nodes∧(k≤j→j<k+f.roots.length→u.nth<u.kids.roots.length))→(∀j,(mk j).length≤L)→
  ∀x∈allF mk k f,WayOk h es W x.1 x.2.1 x.2.2.1.roots x.2.2.2∧(∀u∈x.2.2.2,(u.m,u.s,u.kids)∈F0.nodes∧u.nth<u.kids.roots.length)∧(x.1,x.2.1,x.2.2.1)∈F0.nodes∧x.2.2.2.length≤L+f.count
 | .nil,mk,k,p,L,_,_,_,_,_,_,x,hx=>by contradiction
 | .node m s kd r,mk,k,p,L,⟨⟨p',w⟩,vk,vr⟩,⟨r1,r2,r3⟩,sub,top,ups,len,x,hx=>by
  simp only[F.nodes0,F.nodes1,List.mem_cons,List.mem_append]at sub
  have hp:p'=p:=w.pr.trans r1
  subst hp
  have hm:=sub (m,s,kd) (.inl rfl)
  have t0:=(top 0 m (by simp[F.roots0,F.roots1])).ok w
  have u0:∀u∈mk k,(u.m,u.s,u.kids)∈F0.nodes∧u.nth<u.kids.roots.length:=fun u hu=>by
   obtain⟨q1,q2⟩:=ups k u hu
   exact⟨q1,q2 (Nat.le_refl _) (by simp[F.roots0,F.roots1])⟩
  simp only[allF0,allF1,List.mem_cons,List.mem_append]at hx
  rcases hx with rfl | hx | hx
  ·exact⟨t0,u0,hm,by have:=len k;simp only[F.count0];exact Nat.le_trans (by assumption) (Nat.le_add_right _ _)⟩
  ·obtain⟨q1,q2,q3,q4⟩:=all_ways pos (L:=L+1) (f:=kd) (mk:=fun j=>⟨m,s,kd,j⟩::mk k) (k:=0) (p:=m) vk r2 (fun y hy=>sub y (.inr (.inl hy))) (fun j c hc=>⟨rfl,pos m (nodes_num hm),by simpa using hc,t0⟩) (fun j u hu=>by
    rcases List.mem_cons.mp hu with rfl | hu
    ·exact⟨hm,fun J z=>by simpa using z⟩
    ·exact⟨(u0 u hu).1,fun J J=>(u0 u hu).2⟩) (fun j=>by have:=len k;simp;assumption) x hx
   exact⟨q1,q2,q3,by simp only[F.count0,F.count1];lia⟩
  ·obtain⟨q1,q2,q3,q4⟩:=all_ways pos (L:=L) (f:=r) (mk:=mk) (k:=k+1) (p:=p') vr r3 (fun y hy=>sub y (.inr (.inr hy))) (fun j c hc=>by
    have:=top (j+1) c (by simpa[F.roots0,F.roots1]using hc)
    rw[show k+(j+1)=k+1+j by lia]at this
    exact this) (fun j u hu=>by
    obtain⟨q1,q2⟩:=ups j u hu
    exact⟨q1,fun z1 z2=>q2 (by exact Nat.le_of_lt (by assumption)) (by simp[F.roots0,F.roots1];lia)⟩) len x hx
   exact⟨q1,q2,q3,by simp only[F.count0,F.count1];lia⟩
end
theorem allF_nums:∀{f:F}{mk:Nat→List Up}{k:Nat},(allF mk k f).map (·.1)=f.nums:=by
 intro J1
 induction J1 with
 | nil=>
  intro J J
  exact rfl
 | node m s kd r J8 J9=>
  intro mk k
  simp[allF0,allF1,F.nums0,F.nums1,J8,J9]
end Mine
namespace Mine
section
variable {h h' h₀:Hp}{W:WS}{B:BS}{es:List (Int×V)}{fs:List (Nat×V)}{τ δ:Nat}{r m s p a:Int}{ks:List Int}{own:Nat→Prop}{Z:Hp→Prop}{Q:V→Hp→Prop}{σ σ':Int→Int→Int}
theorem not_bown {G:F}{j:Nat}{o:O}(b:Bv h B σ G) (e:h[j]?=some o) (n:∀fs,o≠.dictS fs):¬BOwn B G j:=by
 rintro⟨c,hc,e'⟩
 obtain⟨sc,kc,hc'⟩:=num_node hc
 obtain⟨fs,g,_⟩:=(b.at _ hc').inst
 have g':h[B.β c]?=some (.dictS fs):=g
 rw[e',g']at e
 exact n _ (Option.some.inj e).symm
theorem Wn.chB {G:F}(w:Wn h es W m s p ks) (b:Bv h B σ G) (q:Ch (BOwn B G) h h'):Wn h' es W m s p ks:=by
 obtain⟨fl,w1,_⟩:=w.inst
 exact w.ch (σ:=W.σ) q (not_bown b w1 fun J z=>by contradiction) (not_bown b w.kids fun J z=>by contradiction) (not_bown b w.ear fun J z=>by contradiction) fun J=>rfl
theorem Vw.chB {G:F}{F0:F}(b:Bv h B σ G) (q:Ch (BOwn B G) h h') (x:Vw h es W F0):Vw h' es W F0:=by
 induction F0 with
 | nil=>trivial
 | node m s k r ihk ihr=>exact⟨let⟨p,w⟩:=x.1;⟨p,w.chB b q⟩,ihk x.2.1,ihr x.2.2⟩
theorem Tt.chB {G:F}(x:Tt h τ δ fs es r) (b:Bv h B σ G) (q:Ch (BOwn B G) h h'):Tt h' τ δ fs es r:=x.ch q (not_bown b x.inst fun J z=>by contradiction) (not_bown b x.dict fun J z=>by contradiction)
theorem not_own {G:F}{j:Nat}{o:O}(v:Vw h es W G) (e:h[j]?=some o) (n:∀k fs,o≠.inst k fs):¬Own W G j:=by
 rintro⟨c,hc,e'⟩
 obtain⟨_,_,_,wc⟩:=v.at hc
 obtain⟨fl,g,_⟩:=wc.inst
 rw[e',g]at e
 exact n _ _ (Option.some.inj e).symm
theorem Bv.chW {G:F}(v:Vw h es W G) (q:Ch (Own W G) h h') {F0:F}(x:Bv h B σ F0):Bv h' B σ F0:=by
 induction F0 with
 | nil=>trivial
 | node m s k r ihk ihr=>
  obtain⟨fs,g,_⟩:=x.1.inst
  exact⟨x.1.ch q (not_own v g fun J J z=>by contradiction) (not_own v x.1.kids fun J J z=>by contradiction) fun J=>rfl,ihk x.2.1,ihr x.2.2⟩
structure Wld (h:Hp) (τ δ:Nat) (fs:List (Nat×V)) (es:List (Int×V)) (W:WS) (B:BS) (F0:F) (q:Nat):Prop where
 tt:Tt h τ δ fs es F0.head
 vw:Vw h es W F0
 bv:Bv h B W.σ F0
 good:Good W.σ W.ρ F0
 perm:F0.nums.Perm (es.map (·.1))
 inj:∀x∈F0.nums,∀y∈F0.nums,B.β x=B.β y→x=y
 z0:∃l0,h[0]?=some (.list l0)
 lv1:1∈lvs F0
 deck:∃ds:List Int,h[q]?=some (.list (ds.map V.int))
 sep:q≠0∧∀x∈F0.nums,q≠W.κ x∧q≠W.ε x∧q≠B.ι x
 kz:∀x∈F0.nums,W.κ x≠0
theorem Wld.ro {q:Nat}{F0:F}(x:Wld h τ δ fs es W B F0 q) (r:Ro h h'):Wld h' τ δ fs es W B F0 q:=
 ⟨x.tt.ro r,x.vw.ro r,x.bv.ro r,x.good,x.perm,x.inj,let⟨l,e⟩:=x.z0;⟨l,r.get e⟩,x.lv1,let⟨l,e⟩:=x.deck;⟨l,r.get e⟩,x.sep,x.kz⟩
theorem Good.rowed {F0:F}{u:Up}{t0:F}(g:Good σ W.ρ F0) (ha:a=0∨a=1) (hu:(u.m,u.s,u.kids)∈F0.nodes) (ht:u.kids.trees[u.nth]?=some t0) (hs:u.s≠0):Row a σ u.kids u.nth t0:=by
 have one:=F.nd_nodes g.nd _ hu
 simp only[F.one,F.nums0,F.nums1,List.append_nil,List.nodup_cons]at one
 have c:=F.count_nodes _ hu
 simp only[F.one,F.count0,F.count1]at c
 have few:=g.few
 have two:∀{f:F},Two f→∀x∈f.nodes,x.2.1≠0→2≤x.2.2.roots.length:=by
  intro f
  induction f with
  | nil=>intro J x hx;contradiction
  | node m s k r ik ir=>
   intro⟨t1,t2,t3⟩ x hx hz
   rw[F.nodes1,List.mem_cons,List.mem_append]at hx
   rcases hx with rfl | hx | hx
   ·exact t1 hz
   ·exact ik t2 x hx hz
   ·exact ir t3 x hx hz
 refine⟨(g.full.nodes _ hu).2.1,one.2,((g.fit ha).nodes _ hu).2.1,((g.sz ha).nodes _ hu).2.1,by lia,fun t ht'=>?_,ht,two g.two _ hu hs⟩
 obtain⟨y,hy,rfl⟩:=trees_nodes ht'
 exact g.low _ (nodes_num (nodes_sub hu y hy)) a
theorem Good.deed {F0 t0:F}{u:Up}{d x:Int}{ρ:Int→Int}(g:Good σ ρ F0) (ha:a=0∨a=1) (hu:(u.m,u.s,u.kids)∈F0.nodes) (hs:u.s≠0) (al:along u.s=a) (row:Row a σ u.kids u.nth t0) (hx:t0.head=x) (nr:¬refused a σ u t0 x d) (h1:-400≤d) (h2:d≤400) (rz:Rz a σ σ' u.kids u.nth d) (out:∀y,y∉u.kids.nums→∀z,σ' y z=σ y z):Good σ' ρ F0:=by
 have t0m:=List.mem_of_getElem? row.tn
 have low0:=row.low t0 t0m
 obtain⟨gf,gz,gs⟩:=rz.good row (by rw[hx];exact nr) h1 (by lia)
 have oth:=rz.other row
 have fitA:Fit a σ' F0:=Fit_upd g.nd hu (g.fit ha) out gf
 have szA:SzOk a σ' F0:=SzOk_upd g.nd hu (g.sz ha) out gz al hs gs
 have ob:∀b,b≠a→∀y,σ' y b=σ y b:=fun b hb y=>by
  by_cases q:y∈u.kids.nums
  ·exact oth y q b hb
  ·exact out y q b
 have fitB:∀b,(b=0∨b=1)→Fit b σ' F0:=fun b hb=>by
  by_cases e:b=a
  ·subst e;exact fitA
  ·exact(g.fit hb).congr1 fun y J=>ob b e y
 have szB:∀b,(b=0∨b=1)→SzOk b σ' F0:=fun b hb=>by
  by_cases e:b=a
  ·subst e;exact szA
  ·exact(g.sz hb).congr1 fun y J=>ob b e y
 obtain⟨w,hw,l0,l1⟩:=g.one
 have wr:w.1∈F0.roots:=by rw[hw];simp[F.one,F.roots0,F.roots1]
 have wn:w.1∉u.kids.nums:=kids_not_roots g.nd _ hu _ wr
 refine⟨⟨w,hw,by rw[out _ wn];exact l0,by rw[out _ wn];exact l1⟩,g.srt,g.full,g.alt,g.two,g.nd,fitB 0 (.inl rfl),fitB 1 (.inr rfl),szB 0 (.inl rfl),szB 1 (.inr rfl),g.pos,g.rho,g.few,fun y z z0 z1=>?_⟩
 have:z≠a:=by lia
 rw[ob z this y]
 exact g.off y z z0 z1
theorem told_n {n:Nat}{F0:F}{way:List Up}{delta:Int}{cut:Bool}(g:Gr h τ δ fs es W a F0 m s ks way) (hl:way.length<900) (e:mov a m way=none) (x:∀h',Ro h h'→Q .none h'):callP prog (n+6) 32 [.ref τ,.int m,.int a,.int delta,.bool cut] h Q Z:=by
 refine c32 ?_
 cases cut with
 | true=>exact w_tt (call20n (n:=n) g hl e x)
 | false=>exact w_ff (call13n (n:=n+1) g hl e x)
theorem told_r {n:Nat}{F0 t0:F}{way:List Up}{delta x:Int}{u:Up}(g:Gr h τ δ fs es W a F0 m s ks way) (hl:way.length<900) (e:mov a m way=some (x,u)) (d:Dd h es W a F0 x u t0) (rf:refused a W.σ u t0 x delta) (k:∀h',Ro h h'→Q .none h'):callP prog (n+6) 32 [.ref τ,.int m,.int a,.int delta,.bool false] h Q Z:=
 c32 (w_ff (call13r (n:=n+1) g hl e d (fun J=>k) fun nr=>absurd rf nr))
theorem told_s {n:Nat}{F0 t0:F}{way:List Up}{delta x:Int}{u:Up}{cut:Bool}(g:Gr h τ δ fs es W a F0 m s ks way) (hl:way.length<900) (e:mov a m way=some (x,u)) (d:Dd h es W a F0 x u t0) (h1:-400≤delta) (h2:delta≤400) (h3:W.σ x a≤500)
  (no:cut=false→refused a W.σ u t0 x delta→∀h',Ro h h'→Q .none h')
  (zero:cutAmt a W.σ u t0 x delta=0→∀h',Ro h h'→Q (.int (cutAmt a W.σ u t0 x delta)) h')
  (yes:∀h' σ' π',Vw h' es ((W.sz σ').pl π') F0→Rz a W.σ σ' u.kids u.nth (cutAmt a W.σ u t0 x delta)→(∀y,y∉u.kids.nums→∀z,σ' y z=W.σ y z)→PlS σ' π' F0 [(0,0)]→Ch (Own W F0) h h'→Q (.int (cutAmt a W.σ u t0 x delta)) h'):callP prog (n+6) 32 [.ref τ,.int m,.int a,.int delta,.bool cut] h Q Z:=by
 refine c32 ?_
 cases cut with
 | true=>exact w_tt (call20s (n:=n) g hl e d h1 h2 zero fun J=>yes)
 | false=>
  refine w_ff (call13r (n:=n+1) g hl e d (no rfl) fun nr=>⟨h1,by lia,fun h' σ' π' k1 k2 k3 k4 k5=>?_⟩)
  have ed:cutAmt a W.σ u t0 x delta=delta:=by
   unfold cutAmt
   unfold refused at nr
   lia
  rw[ed]at yes
  exact yes h' σ' π' k1 k2 k3 k4 k5
end
end Mine
namespace Mine
section
variable {h h' h₀:Hp}{W:WS}{B:BS}{es:List (Int×V)}{fs:List (Nat×V)}{τ δ q:Nat}{r m s p a:Int}{ks:List Int}{own:Nat→Prop}{Z:Hp→Prop}{Q:V→Hp→Prop}{σ σ':Int→Int→Int}{F0:F}
theorem Wld.ways (X:Wld h τ δ fs es W B F0 q):∀x∈allF (fun J=>[]) 0 F0,WayOk h es W x.1 x.2.1 x.2.2.1.roots x.2.2.2∧(∀u∈x.2.2.2,(u.m,u.s,u.kids)∈F0.nodes∧u.nth<u.kids.roots.length)∧(x.1,x.2.1,x.2.2.1)∈F0.nodes∧x.2.2.2.length≤0+F0.count:=
 all_ways (F0:=F0) (fun x hx=>by have:=X.good.pos x hx;exact Int.ne_of_gt (by assumption)) X.vw X.good.rho (fun J h=>h) (fun J J J=>rfl) (fun J J hu=>by contradiction) fun J=>Nat.le_refl _
theorem Wld.gr (X:Wld h τ δ fs es W B F0 q) (ha:a=0∨a=1) {x:Int×Int×F×List Up}(hx:x∈allF (fun J=>[]) 0 F0):Gr h τ δ fs es W a F0 x.1 x.2.1 x.2.2.1.roots x.2.2.2:=by
 obtain⟨w1,w2,w3,w4⟩:=X.ways x hx
 obtain⟨y,hy,_⟩:=X.good.one
 have few:=X.good.few
 exact⟨X.tt,X.vw,⟨y,hy⟩,X.good.full,X.good.nd,X.good.fit ha,by exact Nat.lt_of_lt_of_le (by assumption) (by decide),X.good.low,fun z hz=>by have:=X.good.pos z hz;exact Int.ne_of_gt (by assumption),w1,fun u hu=>(w2 u hu).1,ha,X.z0,X.kz⟩
theorem Wld.bgr (X:Wld h τ δ fs es W B F0 q) (ha:a=0∨a=1) {x:Int×Int×F×List Up}(hx:x∈allF (fun J=>[]) 0 F0):BGr h B W.σ a F0 x.1 x.2.2.2:=by
 obtain⟨w1,w2,w3,w4⟩:=X.ways x hx
 obtain⟨y,hy,_⟩:=X.good.one
 have few:=X.good.few
 exact⟨X.bv,⟨y,hy⟩,X.good.srt,X.good.full,X.good.nd,X.good.fit ha,X.good.sz ha,by exact Nat.lt_of_lt_of_le (by assumption) (by decide),X.good.low,X.inj,w2,w1.leads,ha,X.z0⟩
noncomputable def Mid (h h1:Hp) (es:List (Int×V)) (W:WS) (B:BS) (a:Int) (F0:F) (m:Int) (way:List Up) (delta:Int) (cut:Bool) (v1:V):Prop:=
 Ch (BOwn B F0) h h1∧((v1=.none∧Ro h h1∧(mov a m way=none∨∃x u t0,mov a m way=some (x,u)∧u.kids.trees[u.nth]?=some t0∧t0.head=x∧cut=false∧refused a W.σ u t0 x delta))∨
  ∃x u t0 σ1,mov a m way=some (x,u)∧u.kids.trees[u.nth]?=some t0∧t0.head=x∧¬(cut=false∧refused a W.σ u t0 x delta)∧v1=.int (cutAmt a W.σ u t0 x delta)∧Bv h1 B σ1 F0∧Rz a W.σ σ1 u.kids u.nth (cutAmt a W.σ u t0 x delta)∧(∀y,y∉u.kids.nums→∀z,σ1 y z=W.σ y z))
theorem Wld.next {σ1 σ2 π2:Int→Int→Int}{h1 h2:Hp}(X:Wld h τ δ fs es W B F0 q) (c1:Ch (BOwn B F0) h h1) (b1:Bv h1 B σ1 F0) (v2:Vw h2 es ((W.sz σ2).pl π2) F0) (c2:Ch (Own W F0) h1 h2) (eq:∀y z,σ2 y z=σ1 y z) (g2:Good σ2 W.ρ F0):Wld h2 τ δ fs es ((W.sz σ2).pl π2) B F0 q:=by
 have t1:=X.tt.chB X.bv c1
 have v1:=Vw.chB X.bv c1 X.vw
 have ap:=t1.apart v1
 obtain⟨l0,z0⟩:=X.z0
 obtain⟨ds,dk⟩:=X.deck
 have z1:=c1.keep _ _ z0 (.inl (blist_apart X.bv z0))
 have d1:=c1.keep _ _ dk (.inl (blist_apart X.bv dk))
 have b2:=Bv.chW v1 c2 b1
 refine⟨t1.ch c2 ap.1 ap.2,v2,b2.ch (own:=fun J=>False) .refl (fun J J=>⟨id,id⟩) fun y J z=>eq y z,g2,X.perm,X.inj,⟨l0,c2.keep _ _ z1 (.inl (list_apart v1 z1))⟩,X.lv1,⟨ds,c2.keep _ _ d1 (.inl (list_apart v1 d1))⟩,X.sep,X.kz⟩
theorem deed31 {n i:Nat}{delta:Int}{cut:Bool}(X:Wld h τ δ fs es W B F0 q) (ha:a=0∨a=1) {x:Int×Int×F×List Up}(hx:x∈allF (fun J=>[]) 0 F0) (hw:WayB h B x.2.2.2 i) (hd1:-400≤delta) (hd2:delta≤400) (hn:40≤n) (k:∀v h',Mid h h' es W B a F0 x.1 x.2.2.2 delta cut v→Q v h') :
  callP prog (n+2) 31 [.ref i,.str (axS a),.int delta,.bool cut] h Q Z:=by
 have g:=X.bgr ha hx
 have gr:=X.gr ha hx
 have w4:=(X.ways x hx).2.2.2
 have few:=X.good.few
 cases e:mov a x.1 x.2.2.2 with
 | none=>exact call31n (n:=n) g hw (by lia) e fun h1 ro=>k _ h1 ⟨Ro.any ro,.inl ⟨rfl,ro,.inl e⟩⟩
 | some xu=>
  obtain⟨y,u⟩:=xu
  obtain⟨t0,d⟩:=gr.dd e
  exact call31s (n:=n) g hw (by lia) e d.tn d.hd (by lia) hd1 hd2 (fun q1 q2 h1 q4=>k _ h1 ⟨Ro.any q4,.inl ⟨rfl,q4,.inr ⟨y,u,t0,e,d.tn,d.hd,q1,q2⟩⟩⟩) fun q1 h1 σ1 q3 q4 q5 q6=>k _ h1 ⟨q3,.inr ⟨y,u,t0,σ1,e,d.tn,d.hd,q1,rfl,q4,q5,q6⟩⟩
theorem WayOk.chB {G:F}(b:Bv h B σ G) (c:Ch (BOwn B G) h h') {way:List Up}:∀{m s:Int}{ks:List Int},WayOk h es W m s ks way→WayOk h' es W m s ks way:=by
 induction way with
 | nil=>intro m s ks w;exact Wn.chB w b c
 | cons u up ih=>intro m s ks w;exact⟨Wn.chB w.1 b c,w.2.1,w.2.2.1,ih w.2.2.2⟩
theorem deed32 {n:Nat}{delta:Int}{cut:Bool}{h1:Hp}{v1:V}(X:Wld h τ δ fs es W B F0 q) (ha:a=0∨a=1) {x:Int×Int×F×List Up}(hx:x∈allF (fun J=>[]) 0 F0) (hd1:-400≤delta) (hd2:delta≤400) (M:Mid h h1 es W B a F0 x.1 x.2.2.2 delta cut v1)
  (k:∀h2 W',(v1=.none∨∃i,v1=.int i)→Wld h2 τ δ fs es W' B F0 q→(W'.π=W.π∧W'.σ=W.σ∨PlS W'.σ W'.π F0 [(0,0)])→Q v1 h2):callP prog (n+6) 32 [.ref τ,.int x.1,.int a,.int delta,.bool cut] h1 Q Z:=by
 have c1:=M.1;have M:=M.2
 have ways:=X.ways x hx
 have few:=X.good.few
 have wl:x.2.2.2.length<900:=by have:=ways.2.2.2;lia
 rcases M with⟨hv,ro,M⟩ | ⟨y,u,t0,σ1,e,tn,hh,nr,hv,b1,rz1,out1⟩
 ·have X1:=X.ro ro
  have g:=X1.gr ha hx
  rw[hv]at k
  have k:∀h2,Ro h1 h2→Q .none h2:=fun h2 ro2=>k h2 W (.inl rfl) (X1.ro ro2) (.inl ⟨rfl,rfl⟩)
  rcases M with e | ⟨y,u,t0,e,tn,hh,hc,rf⟩
  ·exact told_n (n:=n) g wl e k
  ·obtain⟨t0',d⟩:=g.dd e
   have e0:t0=t0':=Option.some.inj (tn.symm.trans d.tn)
   rw[e0]at rf
   rw[hc]
   exact told_r (n:=n) g wl e d rf k
 ·rw[hv]at k
  have t1:=X.tt.chB X.bv c1
  have v1:=Vw.chB X.bv c1 X.vw
  have g:=X.gr ha hx
  have g1:Gr h1 τ δ fs es W a F0 x.1 x.2.1 x.2.2.1.roots x.2.2.2:=by
   obtain⟨l0,z0⟩:=X.z0
   exact⟨t1,v1,g.one,g.full,g.nd,g.fit,g.few,g.low,g.pos,ways.1.chB X.bv c1,g.ups,ha,⟨l0,c1.keep _ _ z0 (.inl (blist_apart X.bv z0))⟩,g.kz⟩
  obtain⟨t0',d⟩:=g1.dd e
  have e0:t0=t0':=Option.some.inj (tn.symm.trans d.tn)
  rw[← e0]at d
  have J:=mov_ok g1.wok e;have al:=J.2.2.2.2.1;have um:=J.2.2.2.2.2
  have hu:=g1.ups u um
  have us:u.s≠0:=fun z=>by
   have hk:u.kids=.nil:=(X.good.full.at _ hu).mp z
   have:=d.rt
   rw[hk]at this;contradiction
  have row:=X.good.rowed ha hu tn us
  have am:=d.amt hd1 hd2
  have low0:=row.low t0 (List.mem_of_getElem? tn)
  rw[hh]at low0
  refine told_s (n:=n) g1 wl e d hd1 hd2 low0 (fun q1 q2=>absurd ⟨q1,q2⟩ nr) (fun hz h2 ro2=>k h2 W (.inr ⟨_,rfl⟩) ?_ (.inl ⟨rfl,rfl⟩)) fun h2 σ2 π2 k1 k2 k3 k4 k5=>k h2 _ (.inr ⟨_,rfl⟩) (X.next c1 b1 k1 k5 (fun b z=>?_) (X.good.deed ha hu us al row hh am.1 am.2.1 am.2.2 k2 k3)) (.inr k4)
  ·rw[hz]at rz1
   exact X.next (σ2:=W.σ) (π2:=W.π) c1 b1 (v1.ro ro2) (Ro.any ro2) (fun b z=>if hb:b∈u.kids.nums then(Rz.zero row rz1 b hb z).symm else(out1 b hb z).symm) X.good
  ·exact if hb:b∈u.kids.nums then Rz.uniq row k2 rz1 b hb z else(k3 b hb z).trans (out1 b hb z).symm
end
end Mine
namespace Mine
section
variable {h h' h₀:Hp}{W:WS}{B:BS}{es:List (Int×V)}{fs:List (Nat×V)}{τ δ q:Nat}{r m s p a:Int}{ks:List Int}{own:Nat→Prop}{Z:Hp→Prop}{Q:V→Hp→Prop}
noncomputable def newWin (num s p:Int) (κ ε l:Nat):List (Nat×V):=[(18,.int num),(23,.int s),(19,.int p),(7,.ref κ),(17,.int 0),(25,.int 0),(27,.int 0),(10,.int 0),(6,.int 0),(24,.int 1),(20,.int 1),(11,.int 0),(12,.bool false),(26,.int 0),(9,.ref ε),(14,.ref l)]
theorem call34 {n w:Nat}{num s p:Int}(g:h[w]?=some (.inst 0 [])) (hw:w≠0) (x:∀κ ε l h',h'[w]?=some (.inst 0 (newWin num s p κ ε l))→h'[κ]?=some (.list [])→h'[ε]?=some (.list [])→h.length≤κ→κ<ε→Ch (fun i=>i=w) h h'→Q .none h'):callP prog (n+1) 34 [.ref w,.int num,.int s,.int p] h Q Z:=by
 refine c34 ?_
 refine w_set g (show 0<100 by decide) hw fun h1 g1 o1=>?_
 refine w_set g1 (show 1<100 by decide) hw fun h2 g2 o2=>?_
 refine w_set g2 (show 2<100 by decide) hw fun h3 g3 o3=>?_
 have g3:h3[w]?=some (.inst 0 [(18,.int num),(23,.int s),(19,.int p)]):=g3
 refine w_list (Nat.zero_le _) fun κ k4 l4 q4 r4=>?_
 refine w_set (r4.get g3) (show 3<100 by decide) hw fun h4 g4 o4=>?_
 refine w_set g4 (show 4<100 by decide) hw fun h5 g5 o5=>?_
 refine w_set g5 (show 5<100 by decide) hw fun h6 g6 o6=>?_
 have g6:h6[w]?=some (.inst 0 [(18,.int num),(23,.int s),(19,.int p),(7,.ref κ),(17,.int 0),(25,.int 0)]):=g6
 refine w_set g6 (show 6<100 by decide) hw fun h7 g7 o7=>?_
 refine w_set g7 (show 7<100 by decide) hw fun h8 g8 o8=>?_
 refine w_set g8 (show 8<100 by decide) hw fun h9 g9 o9=>?_
 have g9:h9[w]?=some (.inst 0 [(18,.int num),(23,.int s),(19,.int p),(7,.ref κ),(17,.int 0),(25,.int 0),(27,.int 0),(10,.int 0),(6,.int 0)]):=g9
 refine w_set g9 (show 9<100 by decide) hw fun h10 g10 o10=>?_
 refine w_set g10 (show 10<100 by decide) hw fun h11 g11 o11=>?_
 refine w_set g11 (show 11<100 by decide) hw fun h12 g12 o12=>?_
 have g12:h12[w]?=some (.inst 0 [(18,.int num),(23,.int s),(19,.int p),(7,.ref κ),(17,.int 0),(25,.int 0),(27,.int 0),(10,.int 0),(6,.int 0),(24,.int 1),(20,.int 1),(11,.int 0)]):=g12
 refine w_set g12 (show 12<100 by decide) hw fun h13 g13 o13=>?_
 refine w_set g13 (show 13<100 by decide) hw fun h14 g14 o14=>?_
 have g14:h14[w]?=some (.inst 0 [(18,.int num),(23,.int s),(19,.int p),(7,.ref κ),(17,.int 0),(25,.int 0),(27,.int 0),(10,.int 0),(6,.int 0),(24,.int 1),(20,.int 1),(11,.int 0),(12,.bool false),(26,.int 0)]):=g14
 refine w_list (Nat.zero_le _) fun ε k15 l15 q15 r15=>?_
 refine w_set (r15.get g14) (show 14<100 by decide) hw fun h15 g15 o15=>?_
 refine w_list (Nat.zero_le _) fun l k16 l16 q16 r16=>?_
 refine w_set (r16.get g15) (show 15<100 by decide) hw fun h16 g16 o16=>?_
 have c3:=o1.trans (o2.trans o3)
 have c4:=o4.trans (o5.trans (o6.trans (o7.trans (o8.trans (o9.trans (o10.trans (o11.trans (o12.trans (o13.trans o14)))))))))
 have c15:=(Ro.any r15).trans (o15.trans ((Ro.any r16).trans o16))
 have a4:=Nat.lt_of_lt_of_le (lt_of_get g) (Nat.le_trans c3.len l4)
 have a15:=Nat.lt_of_lt_of_le (lt_of_get q4) (Nat.le_trans c4.len l15)
 exact x κ ε l h16 g16 ((c4.trans c15).ne q4 (Nat.ne_of_gt a4)) ((o15.trans ((Ro.any r16).trans o16)).ne q15 (Nat.ne_of_gt (Nat.lt_trans a4 a15))) (Nat.le_trans c3.len l4) a15 ((c3.trans (Ro.any r4)).trans (c4.trans c15))
theorem call41w {n:Nat}{k s p:Int}(g1:h[τ]?=some (.inst 1 fs)) (g2:h[δ]?=some (.dictI es)) (win:findF 28 fs=some (.ref δ)) (ftl:fs.length≤20) (hl:findF 13 fs=some (.int k)) (hz:τ≠0∧δ≠0) (he:es.length<1000) (x:∀w κ ε l h',h.length≤w→w<κ→κ<ε→h'[w]?=some (.inst 0 (newWin (k+1) s p κ ε l))→h'[κ]?=some (.list [])→h'[ε]?=some (.list [])→
  h'[τ]?=some (.inst 1 (putF 13 (.int (k+1)) fs))→h'[δ]?=some (.dictI (putK (k+1) (.ref w) es))→Ch (fun i=>i=τ∨i=δ) h h'→Q (.ref w) h'):callP prog (n+2) 41 [.ref τ,.int s,.int p] h Q Z:=by
 have tδ:τ≠δ:=fun z=>by rw[z,g2]at g1;cases g1
 have f13:findF 13 (putF 13 (.int (k+1)) fs)=some (V.int (k+1)):=by rw[findF_put,if_pos rfl]
 have f28:findF 28 (putF 13 (.int (k+1)) fs)=some (V.ref δ):=by rw[findF_put,if_neg (by decide)];exact win
 refine c41 ?_
 refine w_attr g1 hl ?_
 refine w_ok ?_
 refine w_set g1 (Nat.lt_of_le_of_lt ftl (by decide)) hz.1 fun h1 t1 o1=>?_
 have d1:=o1.ne g2 (Ne.symm tδ)
 refine w_attr t1 f13 ?_
 refine w_inst rfl fun w h2 lw g2 o2=>?_
 have wl:=Nat.le_trans o1.len lw
 have nτ:τ≠w:=Nat.ne_of_lt (Nat.lt_of_lt_of_le (lt_of_get t1) lw)
 have nδ:δ≠w:=Nat.ne_of_lt (Nat.lt_of_lt_of_le (lt_of_get d1) lw)
 refine call34 (n:=n) g2 (Nat.ne_of_gt (Nat.lt_of_le_of_lt (Nat.zero_le _) (Nat.lt_of_lt_of_le (lt_of_get t1) lw))) fun κ ε l h3 w1 w2 w3 w4 w5 o3=>⟨rfl,?_⟩
 have o23:=(Ro.any o2).trans o3
 have t3:=o23.ne t1 nτ
 have d3:=o23.ne d1 nδ
 have wκ:=Nat.lt_of_lt_of_le (lt_of_get g2) w4
 refine w_attr t3 f28 ?_
 refine w_attr t3 f13 ?_
 refine w_put d3 (by rw[lim_eq];exact Nat.lt_of_lt_of_le (by assumption) (Nat.le_of_ble_eq_true rfl)) hz.2 fun h4 d4 o4=>?_
 have c1:Ch (fun i=>i=τ∨i=δ) h h1:=o1.mem fun _ z=>.inl z
 have c12:Ch (fun i=>i=τ∨i=δ) h h3:=c1.loc o23 fun i hi z=>absurd (z▸hi) (Nat.not_lt.mpr wl)
 have lδ:=Nat.lt_of_lt_of_le (lt_of_get d1) lw
 exact x w κ ε l h4 wl wκ w5 (o4.ne w1 (Ne.symm nδ)) (o4.ne w2 (Nat.ne_of_gt (Nat.lt_trans lδ wκ))) (o4.ne w3 (Nat.ne_of_gt (Nat.lt_trans lδ (Nat.lt_trans wκ w5)))) (o4.ne t3 tδ) d4 (c12.trans (o4.mem fun _ z=>.inr z))
theorem call41 {n:Nat}{k s p:Int}(ht:Tt h τ δ fs es r) (hl:findF 13 fs=some (.int k)) (hz:τ≠0∧δ≠0) (he:es.length<1000) (x:∀w κ ε l h',h.length≤w→w<κ→κ<ε→h'[w]?=some (.inst 0 (newWin (k+1) s p κ ε l))→h'[κ]?=some (.list [])→h'[ε]?=some (.list [])→
  h'[τ]?=some (.inst 1 (putF 13 (.int (k+1)) fs))→h'[δ]?=some (.dictI (putK (k+1) (.ref w) es))→Ch (fun i=>i=τ∨i=δ) h h'→Q (.ref w) h'):callP prog (n+2) 41 [.ref τ,.int s,.int p] h Q Z:=
 call41w ht.inst ht.dict ht.win ht.len hl hz he x
end
end Mine
namespace Mine
noncomputable def F.app:F→F→F
 | .nil,g=>g
 | .node m s k r,g=>.node m s k (r.app g)
theorem F.app0 {g}:F.app .nil g=g:=rfl
theorem F.app1 {m s k r g}:F.app (.node m s k r) g=.node m s k (r.app g):=rfl
noncomputable def F.put:F→Int→F→F
 | .nil,_,_=>.nil
 | .node x s k r,m,G=>if x=m then G.app r else .node x s (k.put m G) (r.put m G)
theorem F.put0 {m G}:F.put .nil m G=.nil:=rfl
theorem F.put1 {x s k r m G}:F.put (.node x s k r) m G=if x=m then G.app r else .node x s (k.put m G) (r.put m G):=rfl
theorem app_roots:∀(f g:F),(f.app g).roots=f.roots++g.roots:=by
 intro J1
 induction J1 with
 | nil=>
  intro g
  exact rfl
 | node m s k r J8 J9=>
  intro g
  simp[F.app0,F.app1,F.roots0,F.roots1,J9 g]
theorem app_nums:∀(f g:F),(f.app g).nums=f.nums++g.nums:=by
 intro J1
 induction J1 with
 | nil=>
  intro g
  exact rfl
 | node m s k r J8 J9=>
  intro g
  simp[F.app0,F.app1,F.nums0,F.nums1,J9 g]
theorem app_nodes:∀(f g:F),(f.app g).nodes=f.nodes++g.nodes:=by
 intro J1
 induction J1 with
 | nil=>
  intro g
  exact rfl
 | node m s k r J8 J9=>
  intro g
  simp[F.app0,F.app1,F.nodes0,F.nodes1,J9 g]
theorem app_lvs:∀(f g:F),lvs (f.app g)=lvs f++lvs g:=by
 intro J1
 induction J1 with
 | nil=>
  intro g
  exact rfl
 | node m s k r J8 J9=>
  intro g
  simp[F.app0,F.app1,lvs0,lvs1,J9 g]
theorem app_srt:∀{f g:F},Srt f→Srt g→Srt (f.app g):=by
 intro J1
 induction J1 with
 | nil=>
  intro g J y
  exact y
 | node m s k r J8 J9=>
  rintro g ⟨a,b,c⟩ y
  exact⟨a,b,J9 c y⟩
theorem app_full:∀{f g:F},Full f→Full g→Full (f.app g):=by
 intro J1
 induction J1 with
 | nil=>
  intro g J y
  exact y
 | node m s k r J8 J9=>
  rintro g ⟨a,b,c⟩ y
  exact⟨a,b,J9 c y⟩
theorem app_two:∀{f g:F},Two f→Two g→Two (f.app g):=by
 intro J1
 induction J1 with
 | nil=>
  intro g J y
  exact y
 | node m s k r J8 J9=>
  rintro g ⟨a,b,c⟩ y
  exact⟨a,b,J9 c y⟩
theorem app_alt {q:Int}:∀{f g:F},Alt q f→Alt q g→Alt q (f.app g):=by
 intro J1
 induction J1 with
 | nil=>
  intro g J y
  exact y
 | node m s k r J8 J9=>
  rintro g ⟨a,b,c⟩ y
  exact⟨a,b,J9 c y⟩
theorem app_rho {ρ:Int→Int}{q:Int}:∀{f g:F},Rho ρ q f→Rho ρ q g→Rho ρ q (f.app g):=by
 intro J1
 induction J1 with
 | nil=>
  intro g J y
  exact y
 | node m s k r J8 J9=>
  rintro g ⟨a,b,c⟩ y
  exact⟨a,b,J9 c y⟩
theorem app_sz {a:Int}{σ:Int→Int→Int}:∀{f g:F},SzOk a σ f→SzOk a σ g→SzOk a σ (f.app g):=by
 intro J1
 induction J1 with
 | nil=>
  intro g J y
  exact y
 | node m s k r J8 J9=>
  rintro g ⟨a,b,c⟩ y
  exact⟨a,b,J9 c y⟩
theorem put_out {m:Int}{G:F}:∀{f:F},m∉f.nums→f.put m G=f:=by
 intro J1
 induction J1 with
 | nil=>
  intro J
  exact rfl
 | node x s k r J8 J9=>
  intro h
  simp only[F.nums0,F.nums1,List.mem_cons,List.mem_append,not_or]at h
  rw[F.put1,if_neg (Ne.symm h.1),J8 h.2.1,J9 h.2.2]
theorem put_nil {m:Int}{G:F}(hG:G≠.nil):∀{f:F},(f.put m G=.nil↔f=.nil)
 | .nil=>Iff.rfl
 | .node x s k r=>by
  simp only[F.put0,F.put1]
  split
  ·cases G with
   | nil=>exact absurd rfl hG
   | node _ _ _ _=>simp[F.app0,F.app1]
  ·simp
theorem leaf_split {m x s:Int}{k r:F}(hn:(F.node x s k r).nums.Nodup) (h:(m,(0:Int),F.nil)∈(F.node x s k r).nodes):(x=m∧s=0∧k=.nil∧m∉r.nums)∨(x≠m∧(m,(0:Int),F.nil)∈k.nodes∧m∉r.nums)∨(x≠m∧m∉k.nums∧(m,(0:Int),F.nil)∈r.nodes):=by
 simp only[F.nums0,F.nums1,List.nodup_cons,List.mem_append,not_or,List.nodup_append]at hn
 obtain⟨⟨mk,mr⟩,nk,nr,dj⟩:=hn
 simp only[F.nodes0,F.nodes1,List.mem_cons,List.mem_append,Prod.mk.injEq]at h
 rcases h with⟨e1,e2,e3⟩ | h | h
 ·exact .inl ⟨e1.symm,e2.symm,e3.symm,by rw[e1];exact mr⟩
 ·have:=nodes_num h
  exact .inr (.inl ⟨fun e=>mk (e▸this),h,fun z=>dj _ this _ z rfl⟩)
 ·have:=nodes_num h
  exact .inr (.inr ⟨fun e=>mr (e▸this),fun z=>dj _ z _ this rfl,h⟩)
theorem nd_kids {x s:Int}{k r:F}(hn:(F.node x s k r).nums.Nodup):k.nums.Nodup∧r.nums.Nodup:=by
 simp only[F.nums0,F.nums1,List.nodup_cons,List.mem_append,not_or,List.nodup_append]at hn
 exact⟨hn.2.1,hn.2.2.1⟩
theorem put_perm {m:Int}{G:F}{new:List Int}(hG:G.nums.Perm (m::new)):∀{f:F},f.nums.Nodup→(m,(0:Int),F.nil)∈f.nodes→(f.put m G).nums.Perm (new++f.nums)
 | .nil,_,h=>by contradiction
 | .node x s k r,hn,h=>by
  have J:=nd_kids hn;have nk:=J.1;have nr:=J.2
  rcases leaf_split hn h with⟨rfl,rfl,rfl,hr⟩ | ⟨hx,hk,hr⟩ | ⟨hx,hk,hr⟩
  ·simp only[F.put0,F.put1,if_true,app_nums,F.nums0,F.nums1,List.nil_append]
   exact((hG.append_right r.nums).trans (by simp)).trans List.perm_middle.symm
  ·simp only[F.put0,F.put1,if_neg hx,put_out hr,F.nums0]
   refine List.Perm.trans (.cons x ((put_perm hG nk hk).append_right r.nums)) ?_
   rw[List.append_assoc]
   exact List.perm_middle.symm
  ·simp only[F.put0,F.put1,if_neg hx,put_out hk,F.nums0,F.nums1]
   refine List.Perm.trans (.cons x ((put_perm hG nr hr).append_left k.nums)) ?_
   refine List.Perm.trans (.cons x ?_) List.perm_middle.symm
   rw[← List.append_assoc,← List.append_assoc]
   exact List.perm_append_comm.append_right r.nums
theorem put_nodes {m:Int}{G:F}:∀{f:F},f.nums.Nodup→(m,(0:Int),F.nil)∈f.nodes→∀x∈(f.put m G).nodes,x∈G.nodes∨∃y∈f.nodes,y.1≠m∧x=(y.1,y.2.1,y.2.2.put m G):=by
 intro J1
 induction J1 with
 | nil=>
  intro J h J J
  contradiction
 | node x s k r J8 J9=>
  intro hn h z hz
  have J:=nd_kids hn;have nk:=J.1;have nr:=J.2
  have same:∀{g:F},m∉g.nums→z∈g.nodes→∃y∈g.nodes,y.1≠m∧z=(y.1,y.2.1,y.2.2.put m G):=fun{g} hg hz=>by
   refine⟨z,hz,fun e=>hg (e▸nodes_num hz),?_⟩
   have:m∉z.2.2.nums:=fun q=>by
    obtain⟨s1,k1,h1⟩:=num_node q
    exact hg (nodes_num (nodes_sub hz _ h1))
   rw[put_out this]
  have up:∀{g:F},(∀y∈g.nodes,y∈(F.node x s k r).nodes)→(z∈G.nodes∨∃y∈g.nodes,y.1≠m∧z=(y.1,y.2.1,y.2.2.put m G))→z∈G.nodes∨∃y∈(F.node x s k r).nodes,y.1≠m∧z=(y.1,y.2.1,y.2.2.put m G):=fun{g} hs q=>q.imp id fun J7=>J7.elim fun y J8=>J8.elim fun h1 h2=>⟨y,hs y h1,h2⟩
  have sk:∀y∈k.nodes,y∈(F.node x s k r).nodes:=fun y hy=>by simp[F.nodes0,F.nodes1,hy]
  have sr:∀y∈r.nodes,y∈(F.node x s k r).nodes:=fun y hy=>by simp[F.nodes0,F.nodes1,hy]
  rcases leaf_split hn h with⟨rfl,rfl,rfl,hr⟩ | ⟨hx,hk,hr⟩ | ⟨hx,hk,hr⟩
  ·simp only[F.put0,F.put1,if_true,app_nodes,List.mem_append]at hz
   rcases hz with hz | hz
   ·exact .inl hz
   ·exact up sr (.inr (same hr hz))
  ·simp only[F.put0,F.put1,if_neg hx,F.nodes0,F.nodes1,List.mem_cons,List.mem_append]at hz
   rw[put_out hr]at hz
   rcases hz with rfl | hz | hz
   ·exact .inr ⟨(x,s,k),by simp[F.nodes0,F.nodes1],hx,rfl⟩
   ·exact up sk (J8 nk hk z hz)
   ·exact up sr (.inr (same hr hz))
  ·simp only[F.put0,F.put1,if_neg hx,F.nodes0,F.nodes1,List.mem_cons,List.mem_append]at hz
   rw[put_out hk]at hz
   rcases hz with rfl | hz | hz
   ·exact .inr ⟨(x,s,k),by simp[F.nodes0,F.nodes1],hx,by rw[put_out hk]⟩
   ·exact up sk (.inr (same hk hz))
   ·exact up sr (J9 nr hr z hz)
theorem put_roots {m:Int}{G:F}:∀{f:F}{n:Nat},f.nums.Nodup→f.roots[n]?=some m→(f.put m G).roots=f.roots.take n++(G.roots++f.roots.drop (n+1))
 | .nil,n,_,h=>by simp[F.roots0,F.roots1]at h
 | .node x s k r,0,hn,h=>by
  simp[F.roots0,F.roots1]at h
  simp[F.put0,F.put1,h,app_roots,F.roots0,F.roots1]
 | .node x s k r,n+1,hn,h=>by
  simp[F.roots0,F.roots1]at h
  have hx:x≠m:=fun e=>by
   simp only[F.nums0,F.nums1,List.nodup_cons,List.mem_append,not_or]at hn
   exact hn.1.2 (roots_sub.subset (e▸List.mem_of_getElem? h))
  simp only[F.put0,F.put1,if_neg hx,F.roots0,F.roots1,put_roots (nd_kids hn).2 h,List.take_succ_cons,List.drop_succ_cons,List.cons_append]
theorem put_roots' {m:Int}{G:F}:∀{f:F},m∉f.roots→(f.put m G).roots=f.roots:=by
 intro J1
 induction J1 with
 | nil=>
  intro J
  exact rfl
 | node x s k r J8 J9=>
  intro h
  simp only[F.roots0,F.roots1,List.mem_cons,not_or]at h
  simp only[F.put0,F.put1,if_neg (Ne.symm h.1),F.roots0,F.roots1,J9 h.2]
theorem put_len {m:Int}{G:F}(hG:G≠.nil):∀{f:F},f.roots.length≤(f.put m G).roots.length
 | .nil=>Nat.le_refl _
 | .node x s k r=>by
  simp only[F.put0,F.put1]
  split
  ·rw[app_roots]
   cases G with
   | nil=>exact absurd rfl hG
   | node a b c d=>simp[F.roots0,F.roots1]
  ·simp only[F.roots0,F.roots1,List.length_cons]
   have:=put_len (m:=m) (G:=G) hG (f:=r)
   exact Nat.lt_succ_of_le (by assumption)
theorem put_srt {m:Int}{G:F}(hG:Srt G):∀{f:F},Srt f→Srt (f.put m G):=by
 intro J1
 induction J1 with
 | nil=>
  intro J
  exact trivial
 | node x s k r J8 J9=>
  rintro⟨a,b,c⟩
  simp only[F.put0,F.put1]
  split
  ·exact app_srt hG c
  ·exact⟨a,J8 b,J9 c⟩
theorem put_full {m:Int}{G:F}(hn:G≠.nil) (hG:Full G):∀{f:F},Full f→Full (f.put m G):=by
 intro J1
 induction J1 with
 | nil=>
  intro J
  exact trivial
 | node x s k r J8 J9=>
  rintro⟨a,b,c⟩
  simp only[F.put0,F.put1]
  split
  ·exact app_full hG c
  ·exact⟨by rw[put_nil hn];exact a,J8 b,J9 c⟩
theorem put_two {m:Int}{G:F}(hn:G≠.nil) (hG:Two G):∀{f:F},Two f→Two (f.put m G):=by
 intro J1
 induction J1 with
 | nil=>
  intro J
  exact trivial
 | node x s k r J8 J9=>
  rintro⟨a,b,c⟩
  simp only[F.put0,F.put1]
  split
  ·exact app_two hG c
  ·exact⟨fun z=>Nat.le_trans (a z) (put_len hn),J8 b,J9 c⟩
theorem put_alt {m:Int}{G:F}:∀{f:F}{q:Int},Alt q f→(m∈f.roots→Alt q G)→(∀x∈f.nodes,m∈x.2.2.roots→Alt x.2.1 G)→f.nums.Nodup→Alt q (f.put m G):=by
 intro J1
 induction J1 with
 | nil=>
  intro J J J J J
  exact trivial
 | node x s k r J8 J9=>
  rintro q ⟨a,b,c⟩ h1 h2 hn
  have J:=nd_kids hn;have nk:=J.1;have nr:=J.2
  have hr:Alt q (r.put m G):=J9 c (fun z=>h1 (by simp[F.roots0,F.roots1,z])) (fun y hy=>h2 y (by simp[F.nodes0,F.nodes1,hy])) nr
  simp only[F.put0,F.put1]
  split
  ·rename_i e
   subst e
   refine app_alt (h1 (by simp[F.roots0,F.roots1])) c
  ·exact⟨a,J8 b (h2 (x,s,k) (by simp[F.nodes0,F.nodes1])) (fun y hy=>h2 y (by simp[F.nodes0,F.nodes1,hy])) nk,hr⟩
theorem Rho.congr {ρ ρ':Int→Int}:∀{f:F}{q:Int},Rho ρ q f→(∀x∈f.nums,ρ' x=ρ x)→Rho ρ' q f:=by
 intro J1
 induction J1 with
 | nil=>
  intro J J J
  exact trivial
 | node x s k r J8 J9=>
  rintro q ⟨a,b,c⟩ e
  exact⟨by rw[e x (by simp[F.nums])];exact a,J8 b fun y hy=>e y (by simp[F.nums0,F.nums1,hy]),J9 c fun y hy=>e y (by simp[F.nums0,F.nums1,hy])⟩
theorem put_rho {m:Int}{G:F}{ρ ρ':Int→Int}(hG:Rho ρ' (ρ m) G):∀{f:F}{q:Int},Rho ρ q f→(∀x∈f.nums,x≠m→ρ' x=ρ x)→f.nums.Nodup→Rho ρ' q (f.put m G):=by
 intro J1
 induction J1 with
 | nil=>
  intro J J J J
  exact trivial
 | node x s k r J8 J9=>
  rintro q ⟨a,b,c⟩ e hn
  have J:=nd_kids hn;have nk:=J.1;have nr:=J.2
  have hr:Rho ρ' q (r.put m G):=J9 c (fun y hy=>e y (by simp[F.nums0,F.nums1,hy])) nr
  simp only[F.put0,F.put1]
  split
  ·rename_i z
   subst z
   rw[a]at hG
   simp only[F.nums0,F.nums1,List.nodup_cons,List.mem_append,not_or]at hn
   exact app_rho hG (c.congr fun y hy=>e y (by simp[F.nums0,F.nums1,hy]) fun z=>hn.1.2 (z▸hy))
  ·rename_i z
   exact⟨by rw[e x (by simp[F.nums]) z];exact a,J8 b (fun y hy=>e y (by simp[F.nums0,F.nums1,hy])) nk,hr⟩
theorem put_sz {b m:Int}{G:F}{σ σ':Int→Int→Int}(zG:SzOk b σ' G):∀{f:F},SzOk b σ f→f.nums.Nodup→(∀x∈f.nums,x≠m→σ' x b=σ x b)→(∀x∈f.nodes,m∈x.2.2.roots→if along x.2.1=b then(G.roots.map fun c=>σ' c b).sum=σ m b else ∀c∈G.roots,σ' c b=σ m b)→SzOk b σ' (f.put m G):=by
 intro J1
 induction J1 with
 | nil=>
  intro J J J J
  exact trivial
 | node x s k r J8 J9=>
  rintro⟨z1,z2,z3⟩ hn e hp
  have J:=nd_kids hn;have nk:=J.1;have nr:=J.2
  have hr:SzOk b σ' (r.put m G):=J9 z3 nr (fun y hy=>e y (by simp[F.nums0,F.nums1,hy])) fun y hy=>hp y (by simp[F.nodes0,F.nodes1,hy])
  have hk:SzOk b σ' (k.put m G):=J8 z2 nk (fun y hy=>e y (by simp[F.nums0,F.nums1,hy])) fun y hy=>hp y (by simp[F.nodes0,F.nodes1,hy])
  simp only[F.put0,F.put1]
  split
  ·rename_i z
   subst z
   simp only[F.nums0,F.nums1,List.nodup_cons,List.mem_append,not_or]at hn
   exact app_sz zG (z3.congr1 fun y hy=>e y (by simp[F.nums0,F.nums1,hy]) fun z=>hn.1.2 (z▸hy))
  ·rename_i hx
   refine⟨fun hs=>?_,hk,hr⟩
   have q1:=z1 hs
   have ex:σ' x b=σ x b:=e x (by simp[F.nums0,F.nums1]) hx
   have ek:∀c∈k.roots,c≠m→σ' c b=σ c b:=fun c hc=>e c (by simp[F.nums0,F.nums1,roots_sub.subset hc])
   by_cases hm:m∈k.roots
   ·have q2:=hp (x,s,k) (by simp[F.nodes0,F.nodes1]) hm
    dsimp only at q2
    obtain⟨i,hi,rfl⟩:=List.getElem_of_mem hm
    have hi':k.roots[i]?=some k.roots[i]:=by rw[List.getElem?_eq_getElem hi]
    have nkr:=nk.sublist roots_sub
    generalize k.roots[i]=m at*
    have ps:=put_roots (G:=G) nk hi'
    have dec:k.roots=k.roots.take i++m::k.roots.drop (i+1):=by
     have h1:=(List.take_append_drop i k.roots).symm
     have h2:k.roots.drop i=m::k.roots.drop (i+1):=by
      rw[List.drop_eq_getElem_cons hi]
      congr 1
      rw[List.getElem?_eq_getElem hi]at hi'
      exact Option.some.inj hi'
     rw[h2]at h1;exact h1
    have nt:m∉k.roots.take i∧m∉k.roots.drop (i+1):=by
     rw[dec,List.nodup_append]at nkr
     obtain⟨n1,n2,n3⟩:=nkr
     rw[List.nodup_cons]at n2
     exact⟨fun z=>n3 _ z _ (.head _) rfl,n2.1⟩
    have e1:∀c∈k.roots.take i,σ' c b=σ c b:=fun c hc=>ek c (List.mem_of_mem_take hc) fun z=>nt.1 (z▸hc)
    have e2:∀c∈k.roots.drop (i+1),σ' c b=σ c b:=fun c hc=>ek c (List.mem_of_mem_drop hc) fun z=>nt.2 (z▸hc)
    rw[ps]
    split
    ·rename_i al
     rw[if_pos al]at q1 q2
     rw[ex,q1]
     conv=>lhs;rw[dec]
     simp only[List.map_append,List.sum_append,List.map_cons,List.sum_cons,q2,List.map_congr_left e1,List.map_congr_left e2]
    ·rename_i al
     rw[if_neg al]at q1 q2
     intro c hc
     rw[ex]
     simp only[List.mem_append]at hc
     rcases hc with hc | hc | hc
     ·rw[e1 c hc];exact q1 c (List.mem_of_mem_take hc)
     ·rw[q2 c hc];exact q1 m hm
     ·rw[e2 c hc];exact q1 c (List.mem_of_mem_drop hc)
   ·rw[put_roots' hm]
    have ek':∀c∈k.roots,σ' c b=σ c b:=fun c hc=>ek c hc fun z=>hm (z▸hc)
    split
    ·rename_i al
     rw[if_pos al]at q1
     rw[ex,q1]
     congr 1
     exact List.map_congr_left fun c hc=>(ek' c hc).symm
    ·rename_i al
     rw[if_neg al]at q1
     intro c hc
     rw[ek' c hc,ex];exact q1 c hc
theorem sum_mono {f g:Int→Int}:∀{l:List Int},(∀c∈l,f c≤g c)→(l.map f).sum≤(l.map g).sum:=by
 intro J1
 induction J1 with
 | nil=>
  intro J
  exact Int.le_refl _
 | cons x l J8=>
  intro h
  have h1:=h x (.head _)
  have h2:=J8 fun c hc=>h c (.tail _ hc)
  simp only[List.map_cons,List.sum_cons]
  exact Int.add_le_add (by assumption) (by assumption)
theorem fit_of {a:Int}{σ:Int→Int→Int}:∀{f:F},Full f→SzOk a σ f→(∀x∈f.nodes,x.2.1=0→(if a=0 then 3 else 2)≤σ x.1 a)→(∀x∈f.nums,σ x a≤1000)→Fit a σ f∧All2 (fun l x=>l≤x) (least a f) (f.roots.map fun c=>σ c a):=by
 intro J1
 induction J1 with
 | nil=>
  intro J J J J
  exact⟨trivial,.nil⟩
 | node m s k r J8 J9=>
  rintro⟨u1,u2,u3⟩ ⟨z1,z2,z3⟩ lv bd
  have J:=J8 u2 z2 (fun x hx=>lv x (by simp[F.nodes0,F.nodes1,hx])) fun x hx=>bd x (by simp[F.nums0,F.nums1,hx]);have i1:=J.1;have i2:=J.2
  have J:=J9 u3 z3 (fun x hx=>lv x (by simp[F.nodes0,F.nodes1,hx])) fun x hx=>bd x (by simp[F.nums0,F.nums1,hx]);have j1:=J.1;have j2:=J.2
  have hb:=bd m (by simp[F.nums0,F.nums1])
  have sums:∀{as bs:List Int},All2 (fun l x=>l≤x) as bs→as.sum≤bs.sum:=fun x=>by
   induction x with
   | nil=>exact Int.le_refl _
   | cons h _ ih=>simp only[List.sum_cons];exact Int.add_le_add (by assumption) (by assumption)
  have hl:(least a (.node m s k .nil)).headD 0≤σ m a:=by
   simp only[leastE0,leastE1,List.headD_cons]
   split
   ·rename_i hs
    exact lv (m,s,k) (by simp[F.nodes0,F.nodes1]) hs
   ·rename_i hs
    have q:=z1 hs
    split
    ·rename_i al
     rw[if_pos al]at q
     rw[q];exact sums i2
    ·rename_i al
     rw[if_neg al]at q
     have hk:k≠.nil:=fun z=>hs (u1.mpr z)
     have hne:least a k≠[]:=by
      intro z
      have:=least_length a k
      rw[z]at this
      exact F.roots_ne hk (List.eq_nil_of_length_eq_zero this.symm)
     obtain⟨y,hy,hle⟩:=i2.memL (lmax_mem hne)
     obtain⟨c,hc,rfl⟩:=List.mem_map.mp hy
     rw[q c hc]at hle;exact hle
  refine⟨⟨⟨hl,hb⟩,i1,j1⟩,.cons ?_ j2⟩
  have:least a (.node m s k r)=(least a (.node m s k .nil)).headD 0::least a r:=by simp[leastE0,leastE1]
  simpa[leastE0,leastE1]using hl
theorem put_lvs {m:Int}{G:F}(hG:m∈lvs G):∀{f:F}{c:Int},f.nums.Nodup→(m,(0:Int),F.nil)∈f.nodes→c∈lvs f→c∈lvs (f.put m G):=by
 intro J1
 induction J1 with
 | nil=>
  intro c J J h
  contradiction
 | node x s k r J8 J9=>
  intro c hn hm h
  obtain⟨nk,nr⟩:=nd_kids hn
  simp only[lvs0,lvs1,List.mem_append]at h
  rcases leaf_split hn hm with⟨rfl,rfl,rfl,hr⟩ | ⟨hx,hk,hr⟩ | ⟨hx,hk,hr⟩
  ·simp only[F.put0,F.put1,if_true,app_lvs,List.mem_append]
   rcases h with h | h
   ·simp at h;subst h;exact .inl hG
   ·exact .inr h
  ·simp only[F.put0,F.put1,if_neg hx,put_out hr,lvs0,lvs1,List.mem_append]
   refine h.imp (fun h=>?_) id
   by_cases hs:s=0
   ·rw[if_pos hs]at h ⊢;exact h
   ·rw[if_neg hs]at h ⊢;exact J8 nk hk h
  ·simp only[F.put0,F.put1,if_neg hx,put_out hk,lvs0,lvs1,List.mem_append]
   exact h.imp id fun h=>J9 nr hr h
end Mine
namespace Mine
noncomputable def insS (σ:Int→Int→Int) (m a new f:Int):Int→Int→Int:=fun x y=>if x=f then(if y=a then new else σ m y)else if x=m∧y=a then σ m a-new else σ x y
noncomputable def wrS (σ:Int→Int→Int) (m b:Int):Int→Int→Int:=fun x y=>if x=b then σ m y else σ x y
noncomputable def insR (ρ:Int→Int) (f p:Int):Int→Int:=fun x=>if x=f then p else ρ x
noncomputable def wrR (ρ:Int→Int) (m b:Int):Int→Int:=fun x=>if x=b then ρ m else if x=m then b else ρ x
noncomputable def pairF (hd:Bool) (f m:Int):F:=if hd then .node f 0 .nil (.node m 0 .nil .nil)else .node m 0 .nil (.node f 0 .nil .nil)
noncomputable def wrapF (s b:Int) (G:F):F:=.node b s G .nil
noncomputable def lo (a:Int):Int:=if a=0 then 3 else 2
section
variable {σ σ':Int→Int→Int}{ρ ρ':Int→Int}{F0 G:F}{m a new f b p sp:Int}{K:F}{hd:Bool}
theorem kid_or_root:∀{g:F},m∈g.nums→m∈g.roots∨∃x∈g.nodes,m∈x.2.2.roots:=by
 intro J1
 induction J1 with
 | nil=>
  intro h
  contradiction
 | node x s k r J8 J9=>
  intro h
  simp only[F.nums0,F.nums1,List.mem_cons,List.mem_append]at h
  rcases h with rfl | h | h
  ·exact .inl (by simp[F.roots0,F.roots1])
  ·rcases J8 h with h | ⟨y,hy,h⟩
   ·exact .inr ⟨(x,s,k),by simp[F.nodes0,F.nodes1],h⟩
   ·exact .inr ⟨y,by simp[F.nodes0,F.nodes1,hy],h⟩
  ·rcases J9 h with h | ⟨y,hy,h⟩
   ·exact .inl (by simp[F.roots0,F.roots1,h])
   ·exact .inr ⟨y,by simp[F.nodes0,F.nodes1,hy],h⟩
theorem Rho.at:∀{g:F}{q:Int},Rho ρ q g→(∀c∈g.roots,ρ c=q)∧∀x∈g.nodes,∀c∈x.2.2.roots,ρ c=x.1
 | .nil,_,_=>⟨(fun J h=>by contradiction),(fun J h=>by contradiction)⟩
 | .node x s k r,q,⟨a,b,c⟩=>by
  have i1:=b.at.1;have i2:=b.at.2
  have j1:=c.at.1;have j2:=c.at.2
  refine⟨fun y hy=>?_,fun y hy=>?_⟩
  ·simp only[F.roots0,F.roots1,List.mem_cons]at hy
   rcases hy with rfl | hy
   ·exact a
   ·exact j1 y hy
  ·simp only[F.nodes0,F.nodes1,List.mem_cons,List.mem_append]at hy
   rcases hy with rfl | hy | hy
   ·exact i1
   ·exact i2 y hy
   ·exact j2 y hy
theorem Alt.at:∀{g:F}{q:Int},Alt q g→∀x∈g.nodes,Alt x.2.1 x.2.2:=by
 intro J1
 induction J1 with
 | nil=>
  intro J J J h
  contradiction
 | node x s k r J8 J9=>
  rintro q ⟨a,b,c⟩ y hy
  simp only[F.nodes0,F.nodes1,List.mem_cons,List.mem_append]at hy
  rcases hy with rfl | hy | hy
  ·exact b
  ·exact J8 b y hy
  ·exact J9 c y hy
theorem Good.put (g:Good σ ρ F0) (hm:(m,(0:Int),F.nil)∈F0.nodes) {nw:List Int}(hG:G.nums.Perm (m::nw)) (hnd:nw.Nodup) (hnew:∀x∈nw,x∉F0.nums∧0<x) (ne:G≠.nil) (sG:Srt G) (fG:Full G) (tG:Two G) (aG:(m∈F0.roots→Alt 9 G)∧∀x∈F0.nodes,m∈x.2.2.roots→Alt x.2.1 G) (rG:Rho ρ' (ρ m) G) (rout:∀x∈F0.nums,x≠m→ρ' x=ρ x)
  (zG:∀b,(b=0∨b=1)→SzOk b σ' G) (pG:∀b,(b=0∨b=1)→∀x∈F0.nodes,m∈x.2.2.roots→if along x.2.1=b then(G.roots.map fun c=>σ' c b).sum=σ m b else ∀c∈G.roots,σ' c b=σ m b)
  (sout:∀x∈F0.nums,x≠m→∀y,σ' x y=σ x y) (lG:∀x∈G.nodes,x.2.1=0→∀b,(b=0∨b=1)→(if b=0 then 3 else 2)≤σ' x.1 b) (bd:∀x∈G.nums,∀y,σ' x y≤500) (off:∀x y,y≠0→y≠1→σ' x y≤500)
  (rt:m∈F0.roots→∃x,G=F.one x∧σ' x.1 0=σ m 0∧σ' x.1 1=σ m 1) (few:F0.count+nw.length<40):Good σ' ρ' (F0.put m G):=by
 have pm:=put_perm hG g.nd hm
 have mn:=nodes_num hm
 have nd:(F0.put m G).nums.Nodup:=by
  rw[pm.nodup_iff,List.nodup_append]
  exact⟨hnd,g.nd,fun x hx y hy e=>(hnew x hx).1 (e▸hy)⟩
 have full:=put_full (m:=m) ne fG g.full
 have sz:∀b,(b=0∨b=1)→SzOk b σ' (F0.put m G):=fun b hb=>put_sz (zG b hb) (g.sz hb) g.nd (fun x hx hn=>sout x hx hn b) (pG b hb)
 have inG:∀x∈(F0.put m G).nums,x∈G.nums∨(x∈F0.nums∧x≠m):=fun x hx=>by
  have:=pm.subset hx
  rw[List.mem_append]at this
  rcases this with h | h
  ·exact .inl (hG.symm.subset (.tail _ h))
  ·by_cases e:x=m
   ·subst e;exact .inl (hG.symm.subset (.head _))
   ·exact .inr ⟨h,e⟩
 have low:∀x∈(F0.put m G).nums,∀y,σ' x y≤500:=fun x hx y=>by
  rcases inG x hx with h | ⟨h,e⟩
  ·exact bd x h y
  ·rw[sout x h e];exact g.low x h y
 have fit:∀b,(b=0∨b=1)→Fit b σ' (F0.put m G):=fun b hb=>by
  refine(fit_of full (sz b hb) (fun x hx hs=>?_) fun x hx=>by have:=low x hx b;exact Int.le_trans (by assumption) (by simp)).1
  rcases put_nodes g.nd hm x hx with h | ⟨y,hy,hn,rfl⟩
  ·exact lG x h hs b hb
  ·dsimp only at hs⊢
   rw[sout y.1 (nodes_num hy) hn]
   have q:=(((g.fit hb).nodes y hy).1).1
   simpa[leastE0,leastE1,hs]using q
 obtain⟨x0,e0,l0,l1⟩:=g.one
 have one:∃x,F0.put m G=F.one x∧σ' x.1 0≤63∧σ' x.1 1≤63:=by
  by_cases e:x0.1=m
  ·have hr:m∈F0.roots:=by rw[e0];simp[F.one,F.roots1,e]
   obtain⟨x,h1,h2,h3⟩:=rt hr
   refine⟨x,?_,by rw[h2,← e];exact l0,by rw[h3,← e];exact l1⟩
   rw[e0,h1]
   simp[F.one,F.put0,F.put1,e,F.app0,F.app1]
  ·refine⟨(x0.1,x0.2.1,x0.2.2.put m G),?_,?_,?_⟩
   ·rw[e0];simp[F.one,F.put0,F.put1,e]
   ·have:x0.1∈F0.nums:=by rw[e0];simp[F.one,F.nums0,F.nums1]
    rw[sout _ this e];exact l0
   ·have:x0.1∈F0.nums:=by rw[e0];simp[F.one,F.nums0,F.nums1]
    rw[sout _ this e];exact l1
 have ct:(F0.put m G).count=F0.count+nw.length:=by
  have:=pm.length_eq
  rw[List.length_append,F.nums_length,F.nums_length]at this
  lia
 refine⟨one,put_srt sG g.srt,full,put_alt g.alt aG.1 aG.2 g.nd,put_two ne tG g.two,nd,fit 0 (.inl rfl),fit 1 (.inr rfl),sz 0 (.inl rfl),sz 1 (.inr rfl),fun x hx=>?_,put_rho rG g.rho rout g.nd,by lia,off⟩
 have:=pm.subset hx
 rw[List.mem_append]at this
 rcases this with h | h
 ·exact(hnew x h).2
 ·exact g.pos x h
theorem pair_nums:(pairF hd f m).nums.Perm [m,f]:=by
 cases hd with
 | true=>simp only[pairF,if_true,F.nums0,F.nums1,List.nil_append];exact List.Perm.swap m f []
 | false=>exact .refl _
theorem pair_ne:pairF hd f m≠.nil:=by cases hd<;>simp[pairF]
theorem pair_srt:Srt (pairF hd f m):=by cases hd<;>simp[pairF,Srt0,Srt1]
theorem pair_full:Full (pairF hd f m):=by cases hd<;>simp[pairF,Full0,Full1]
theorem pair_two:Two (pairF hd f m):=by cases hd<;>simp[pairF,Two0,Two1]
theorem pair_alt {q:Int}(h:(0:Int)≠q):Alt q (pairF hd f m):=by cases hd<;>simp[pairF,Alt0,Alt1,h]
theorem pair_rho {q:Int}(h1:ρ m=q) (h2:ρ f=q):Rho ρ q (pairF hd f m):=by cases hd<;>simp[pairF,Rho0,Rho1,h1,h2]
theorem pair_sz:SzOk b σ (pairF hd f m):=by cases hd<;>simp[pairF,SzOk0,SzOk1]
theorem pair_roots:∀c,c∈(pairF hd f m).roots↔c=m∨c=f:=by
 intro c
 cases hd<;>simp[pairF,F.roots0,F.roots1,or_comm]
theorem pair_sum {g:Int→Int}:((pairF hd f m).roots.map g).sum=g m+g f:=by
 cases hd<;>simp[pairF,F.roots0,F.roots1]
 exact Int.add_comm _ _
theorem pair_nodes:∀x,x∈(pairF hd f m).nodes↔x=(m,0,.nil)∨x=(f,0,.nil):=by
 intro x
 cases hd<;>simp[pairF,F.nodes0,F.nodes1,or_comm]
theorem pair_len:(pairF hd f m).roots.length=2:=by cases hd<;>simp[pairF,F.roots0,F.roots1]
theorem insS_f {y:Int}:insS σ m a new f f y=if y=a then new else σ m y:=by simp[insS]
theorem insS_m {y:Int}(h:m≠f):insS σ m a new f m y=if y=a then σ m a-new else σ m y:=by simp[insS,h]
theorem insS_o {x y:Int}(h:x≠f) (h2:x≠m):insS σ m a new f x y=σ x y:=by simp[insS,h,h2]
theorem Good.ins (g:Good σ ρ F0) (ha:a=0∨a=1) (hm:(m,(0:Int),F.nil)∈F0.nodes) (hp:(p,sp,K)∈F0.nodes) (hk:m∈K.roots) (al:along sp=a) (hs:sp≠0) (hf:f∉F0.nums) (fp:0<f) (h1:lo a≤new) (h2:lo a≤σ m a-new) (few:F0.count+1<40):Good (insS σ m a new f) (insR ρ f p) (F0.put m (pairF hd f m)):=by
 have mn:=nodes_num hm
 have mf:m≠f:=fun e=>hf (e▸mn)
 have rm:ρ m=p:=(Rho.at g.rho).2 _ hp m hk
 have par:∀x∈F0.nodes,m∈x.2.2.roots→x.2.1=sp:=fun x hx hmx=>by
  have e:ρ m=x.1:=(Rho.at g.rho).2 _ hx m hmx
  obtain⟨x1,x2,x3⟩:=x
  dsimp only at e hmx⊢
  rw[rm]at e
  subst e
  exact(node_unique g.nd hx hp).1
 have nr:m∉F0.roots:=fun hr=>by
  have:=kids_not_roots g.nd _ hp m hr
  exact this (roots_sub.subset hk)
 have lom:∀b,(b=0∨b=1)→(if b=0 then 3 else 2)≤σ m b:=fun b hb=>by
  have q:=(((g.fit hb).nodes _ hm).1).1
  simpa[leastE0,leastE1]using q
 have h1':(if a=0 then 3 else 2)≤new:=h1
 have h2':(if a=0 then 3 else 2)≤σ m a-new:=h2
 have l0:(2:Int)≤(if a=0 then 3 else 2):=by split<;>lia
 refine g.put hm (nw:=[f]) (pair_nums) (by simp) (fun x hx=>by simp at hx;subst hx;exact⟨hf,fp⟩) pair_ne pair_srt pair_full pair_two ⟨fun z=>absurd z nr,fun x hx hmx=>by rw[par x hx hmx];exact pair_alt (Ne.symm hs)⟩ (by rw[rm];exact pair_rho (by simp[insR,mf,rm]) (by simp[insR])) (fun x hx hn=>by simp[insR,show x≠f from fun e=>hf (e▸hx)]) (fun J J=>pair_sz) (fun b hb x hx hmx=>?_) (fun x hx hn y=>insS_o (fun e=>hf (e▸hx)) hn) (fun x hx J b hb=>?_) (fun x hx y=>?_) (fun x y y0 y1=>?_) (fun z=>absurd z nr) few
 ·rw[par x hx hmx,al]
  split
  ·rename_i e
   subst e
   rw[pair_sum,insS_f,insS_m mf,if_pos rfl,if_pos rfl];lia
  ·rename_i e
   intro c hc
   rcases(pair_roots c).mp hc with rfl | rfl
   ·rw[insS_m mf,if_neg (Ne.symm e)]
   ·rw[insS_f,if_neg (Ne.symm e)]
 ·rcases(pair_nodes x).mp hx with rfl | rfl
  ·dsimp only
   rw[insS_m mf]
   by_cases e:b=a
   ·subst e;rw[if_pos rfl];exact h2'
   ·rw[if_neg e];exact lom b hb
  ·dsimp only
   rw[insS_f]
   by_cases e:b=a
   ·subst e;rw[if_pos rfl];exact h1'
   ·rw[if_neg e];exact lom b hb
 ·have q:=g.low m mn y
  have q':=g.low m mn a
  have hx':=(pair_nums (hd:=hd) (f:=f) (m:=m)).subset hx
  simp only[List.mem_cons,List.not_mem_nil,or_false]at hx'
  rcases hx' with rfl | rfl
  ·rw[insS_m mf];split<;>lia
  ·rw[insS_f];split<;>lia
 ·have q:=g.off m y y0 y1
  have q':=g.off x y y0 y1
  unfold insS
  split
  ·split
   ·lia
   ·exact q
  ·split
   ·lia
   ·exact q'
theorem Good.wr (g:Good σ ρ F0) (ha:a=0∨a=1) (hm:(m,(0:Int),F.nil)∈F0.nodes) (hal:∀x∈F0.nodes,m∈x.2.2.roots→along x.2.1≠a) (hb:b∉F0.nums) (bp:0<b) (hf:f∉F0.nums) (fp:0<f) (bf:b≠f) (h1:lo a≤new) (h2:lo a≤σ m a-new) (few:F0.count+2<40):Good (insS (wrS σ m b) m a new f) (insR (wrR ρ m b) f b) (F0.put m (wrapF (sortAlong a) b (pairF hd f m))):=by
 have mn:=nodes_num hm
 have mf:m≠f:=fun e=>hf (e▸mn)
 have mb:m≠b:=fun e=>hb (e▸mn)
 have lom:∀b,(b=0∨b=1)→(if b=0 then 3 else 2)≤σ m b:=fun b hb=>by
  have q:=(((g.fit hb).nodes _ hm).1).1
  simpa[leastE0,leastE1]using q
 have h1':(if a=0 then 3 else 2)≤new:=h1
 have h2':(if a=0 then 3 else 2)≤σ m a-new:=h2
 have l0:(2:Int)≤(if a=0 then 3 else 2):=by split<;>lia
 have sa:sortAlong a=1∨sortAlong a=2:=by unfold sortAlong;split<;>simp
 have ala:along (sortAlong a)=a:=by rcases ha with rfl | rfl<;>rfl
 have em:∀y,insS (wrS σ m b) m a new f m y=if y=a then σ m a-new else σ m y:=fun y=>by rw[insS_m mf];simp[wrS,mb]
 have ef:∀y,insS (wrS σ m b) m a new f f y=if y=a then new else σ m y:=fun y=>by rw[insS_f];simp[wrS,mb]
 have eb:∀y,insS (wrS σ m b) m a new f b y=σ m y:=fun y=>by rw[insS_o bf (Ne.symm mb)];simp[wrS]
 have nm:(wrapF (sortAlong a) b (pairF hd f m)).nums.Perm (m::[b,f]):=by
  simp only[wrapF,F.nums0,F.nums1,List.append_nil]
  exact(pair_nums.cons b).trans (List.Perm.swap m b [f])
 have gn:∀x,x∈(wrapF (sortAlong a) b (pairF hd f m)).nodes→x=(b,sortAlong a,pairF hd f m)∨x=(m,0,.nil)∨x=(f,0,.nil):=fun x hx=>by
  simp only[wrapF,F.nodes0,F.nodes1,List.append_nil,List.mem_cons]at hx
  exact hx.imp id (pair_nodes x).mp
 refine g.put hm (nw:=[b,f]) nm (by simp[bf]) (fun x hx=>by simp at hx;rcases hx with rfl | rfl;exact⟨hb,bp⟩;exact⟨hf,fp⟩) (by simp[wrapF]) ⟨by lia,pair_srt,trivial⟩ ⟨by simp[pair_ne];lia,pair_full,trivial⟩ ⟨fun J=>by rw[pair_len];exact Nat.le_refl _,pair_two,trivial⟩ ?_ ?_ (fun x hx hn=>?_) (fun b' hb'=>?_) (fun b' hb' x hx hmx=>?_) (fun x hx hn y=>?_) (fun x hx hs b' hb'=>?_) (fun x hx y=>?_) (fun x y y0 y1=>?_) (fun z=>?_) few
 ·have ap:Alt (sortAlong a) (pairF hd f m):=pair_alt (by lia)
  refine⟨fun J=>⟨by lia,ap,trivial⟩,fun x hx hmx=>⟨fun e=>hal x hx hmx (by rw[← e];exact ala),ap,trivial⟩⟩
 ·exact⟨by simp[insR,bf,wrR],pair_rho (by simp[insR,mf,wrR,mb]) (by simp[insR]),trivial⟩
 ·have e1:x≠f:=fun e=>hf (e▸hx)
  have e2:x≠b:=fun e=>hb (e▸hx)
  simp[insR,wrR,e1,e2,hn]
 ·refine⟨fun J=>?_,pair_sz,trivial⟩
  rw[ala]
  split
  ·rename_i e
   subst e
   rw[pair_sum,eb,ef,em,if_pos rfl,if_pos rfl];lia
  ·rename_i e
   intro c hc
   rcases(pair_roots c).mp hc with rfl | rfl
   ·rw[em,eb,if_neg (Ne.symm e)]
   ·rw[ef,eb,if_neg (Ne.symm e)]
 ·split
  ·simp[wrapF,F.roots0,F.roots1,eb]
  ·simp[wrapF,F.roots0,F.roots1,eb]
 ·have e1:x≠f:=fun e=>hf (e▸hx)
  have e2:x≠b:=fun e=>hb (e▸hx)
  rw[insS_o e1 hn];simp[wrS,e2]
 ·rcases gn x hx with rfl | rfl | rfl
  ·dsimp only at hs;lia
  ·dsimp only
   rw[em]
   by_cases e:b'=a
   ·subst e;rw[if_pos rfl];exact h2'
   ·rw[if_neg e];exact lom b' hb'
  ·dsimp only
   rw[ef]
   by_cases e:b'=a
   ·subst e;rw[if_pos rfl];exact h1'
   ·rw[if_neg e];exact lom b' hb'
 ·have q:=g.low m mn y
  have q':=g.low m mn a
  have hx':=nm.subset hx
  simp only[List.mem_cons,List.not_mem_nil,or_false]at hx'
  rcases hx' with rfl | rfl | rfl
  ·rw[em];split<;>lia
  ·rw[eb];exact q
  ·rw[ef];split<;>lia
 ·have q:=g.off m y y0 y1
  have q':=g.off x y y0 y1
  unfold insS wrS
  repeat' split
  all_goals first | lia | exact q | exact q'
 ·exact⟨(b,sortAlong a,pairF hd f m),rfl,by rw[eb],by rw[eb]⟩
theorem put_put {s:Int}{G:F}(mb:b≠m):∀{g:F},g.nums.Nodup→(m,(0:Int),F.nil)∈g.nodes→b∉g.nums→(g.put m (wrapF s b (.node m 0 .nil .nil))).put m G=g.put m (wrapF s b (G.app .nil)):=by
 intro J1
 induction J1 with
 | nil=>
  intro J h J
  contradiction
 | node x t k r J8 J9=>
  intro hn h hb
  have J:=nd_kids hn;have nk:=J.1;have nr:=J.2
  simp only[F.nums0,F.nums1,List.mem_cons,List.mem_append,not_or]at hb
  rcases leaf_split hn h with⟨rfl,rfl,rfl,hr⟩ | ⟨hx,hk,hr⟩ | ⟨hx,hk,hr⟩
  ·simp only[F.put0,F.put1,if_true,wrapF,F.app0,F.app1,if_neg mb,put_out hr]
  ·simp only[F.put0,F.put1,if_neg hx,put_out hr,J8 nk hk hb.2.1]
  ·simp only[F.put0,F.put1,if_neg hx,put_out hk,J9 nr hr hb.2.2]
theorem app_nil:∀f:F,f.app .nil=f
 | .nil=>rfl
 | .node x s k r=>by simp[F.app0,F.app1,app_nil r]
end
end Mine
namespace Mine
noncomputable def amt (w:Int):Option Int→Int
 | none=>w / 2
 | some n=>n
noncomputable def szV:Option Int→V
 | none=>.none
 | some n=>.int (0-n)
section
variable {h h' h₀:Hp}{W:WS}{es:List (Int×V)}{fs:List (Nat×V)}{τ δ:Nat}{r m s p:Int}{ks:List Int}{own:Nat→Prop}{Z:Hp→Prop}{Q:V→Hp→Prop}
theorem putF_id {k:Nat}{v:V}{fs:List (Nat×V)}:findF k fs=some v→putF k v fs=fs:=by
 induction fs with
 | nil=>intro e;contradiction
 | cons x r ih=>
  intro e
  obtain⟨a,w⟩:=x
  simp only[findF0,findF1]at e
  simp only[putF0,putF1]
  by_cases q:a=k
  ·rw[if_pos q]at e⊢
   rw[Option.some.inj e]
  ·rw[if_neg q]at e⊢
   rw[ih e]
theorem w_same {j k m:Nat}{fl:List (Nat×V)}{v:V}{K:Hp→Prop}(g:h[j]?=some (.inst k fl)) (q:findF m fl=some v) (l:fl.length<100) (z:j≠0) (x:K h):wO (setA (.ref j) m v h) K:=
 w_o (a:=h) (by
  unfold setA
  dsimp only
  rw[g]
  dsimp only
  rw[if_pos ⟨l,z⟩,putF_id q]
  obtain⟨b,e⟩:=List.getElem?_eq_some_iff.mp g
  rw[← e,List.set_getElem_self]) x
noncomputable def f16r:List I:=[.var 4,.var 5,.bin .sub,.st 6,.var 6,.var 0,.var 1,.var 3,.call 6 3,.cmp .lt,.br [.push (.bool true)] [.var 5,.var 0,.look 30,.var 3,.meth 30 1,.cmp .lt,.br [.push (.bool true)] [.push (.bool false)]],.br [.push (.str 45),.push (.str 40),.list 1,.raise] [],.var 6,.var 5,.tup 2,.ret]
theorem call16 {n:Nat}{a:Int}{sz:Option Int}(ha:a=0∨a=1) (ht:Tt h τ δ fs es r) (w:Wn h es W m 0 p []) (hsz:∀k,sz=some k→0<k)
  (hQ:∀t h',Ro h h'→lo a≤W.σ m a-amt (W.σ m a) sz→lo a≤amt (W.σ m a) sz→h'[t]?=some (.tup [.int (W.σ m a-amt (W.σ m a) sz),.int (amt (W.σ m a) sz)])→Q (.ref t) h') (hZ:∀h',Ro h h'→(W.σ m a-amt (W.σ m a) sz<lo a∨amt (W.σ m a) sz<lo a)→Z h') :
  callP prog (n+3) 16 [.ref τ,.int m,szV sz,.int a] h Q Z:=by
 obtain⟨fl,w1,w2⟩:=w.inst
 refine c16 ?_
 refine w_meth ht.inst (ht.meth 37 (by simp)) rfl ?_
 refine call42 ht w ?_
 refine w_meth w1 (w2.meth 35 (by simp)) rfl ?_
 refine call35 w ha ?_
 generalize hnw:amt (W.σ m a) sz=nw at hQ hZ
 have rest:∀{sv:V},go (cn prog (n+2)) (pF Q Z) (kF Q) f16r (fc (.ref τ) (fc (.int m) (fc sv (fc (.int a) (fc (.int (W.σ m a)) (fc (.int nw) (fz 1))))))) h []:=by
  intro sv
  refine w_ok ?_
  refine call6 (n:=n) (kd:=.nil) ht ⟨⟨p,w⟩,trivial,trivial⟩ ⟨⟨fun J=>rfl,fun J=>rfl⟩,trivial,trivial⟩ (List.nodup_cons.mpr ⟨List.not_mem_nil,.nil⟩) (by decide) fun h1 ro=>?_
  have t1:=ht.ro ro
  refine w_some (w_by (fun e=>?_) fun e=>?_)
  ·exact w_tt (w_list le_lim fun J h2 J J o2=>hZ _ (ro.trans o2) (.inl e))
  ·refine w_meth t1.inst (t1.meth 30 (by simp)) rfl ?_
   refine call44 t1 ?_
   refine w_some (w_by (fun e2=>?_) fun e2=>?_)
   ·exact w_tt (w_list le_lim fun J h2 J J o2=>hZ _ (ro.trans o2) (.inr e2))
   ·exact w_ff (w_tup fun t h2 J g2 o2=>hQ t h2 (ro.trans o2) (Int.not_lt.mp e) (Int.not_lt.mp e2) g2)
 cases sz with
 | none=>
  refine w_some (w_tt ?_)
  refine w_div (by simp) (by simp) ?_
  rw[show W.σ m a / 2=nw from hnw]
  exact rest
 | some k=>
  have hk:=hsz k rfl
  refine w_some (w_ff ?_)
  refine w_some (w_f (by lia) ?_)
  refine w_ok ?_
  rw[show(0:Int)-(0-k)=nw by rw[← hnw];show _=k;lia]
  exact rest
theorem call5 {n w:Nat}{b p:Int}{flb:List (Nat×V)}{ks:List Int}(ht:Tt h τ δ fs es r) (wm:Wn h es W m s p ks) (hb:findK b es=some (.ref w)) (gb:h[w]?=some (.inst 0 flb)) (lb:flb.length≤20) (pb:findF 19 flb=some (.int p)) (wz:w≠0) (tz:τ≠0)
  (hp:p≠0→∃sp pp ωp fp κp i,∃kp:List Int,(findK p es=some (.ref ωp)∧h[ωp]?=some (.inst 0 fp)∧Wf W p sp pp fp∧W.κ p=κp∧κp≠0)∧h[κp]?=some (.list (kp.map V.int))∧kp.Nodup∧kp[i]?=some m∧∀h',h'[κp]?=some (.list ((kp.set i b).map V.int))→Ch (fun j=>j=κp) h h'→Q .none h') (h0:p=0→∀h',h'[τ]?=some (.inst 1 (putF 21 (.int b) fs))→Ch (fun j=>j=τ) h h'→Q .none h') :
  callP prog (n+1) 5 [.ref τ,.int m,.int b] h Q Z:=by
 obtain⟨fl,w1,w2⟩:=wm.inst
 refine c5 ?_
 refine w_attr ht.inst ht.win ?_
 refine w_dk ht.dict wm.dk ?_
 refine w_attr w1 w2.par ?_
 refine w_attr ht.inst ht.win ?_
 refine w_dk ht.dict hb ?_
 refine w_same gb pb (Nat.lt_of_le_of_lt lb (by decide)) wz ?_
 refine w_some (w_by (fun e=>?_) fun e=>?_)
 ·exact w_set ht.inst (Nat.lt_of_le_of_lt ht.len (by decide)) tz (h0 e)
 ·obtain⟨sp,pp,ωp,fp,κp,i,kp,⟨q1,q2,q3,q4,q5⟩,q6,q7,q8,q9⟩:=hp e
  have q3:=q3.kids
  rw[q4]at q3
  refine w_attr ht.inst ht.win ?_
  refine w_dk ht.dict q1 ?_
  refine w_attr q2 q3 ?_
  refine w_ml q6 q5 ?_ rfl
  refine w_idx q6 (intsOf_map _) (idxOf_nth q7 q8) ?_
  rw[List.map_set]at q9
  exact w_six q6 (by rw[List.length_map];exact(List.getElem?_eq_some_iff.mp q8).1) q5 q9
theorem jn1 {c:Env'}{k q:Nat}{a1:V}{sp pp':Int}(ht:Tt h τ δ fs es r) (wp:Wn h es W p sp pp' ks) (hq:h.length≤q) (hl:ks.length<1000) {N:Fr→Hp→Prop}{T:V→Hp→Prop}(hN:∀H o4 o5,Ro h H→H[q]?=some (.list (ks.map V.int))→N (fc (.ref τ) (fc a1 (fc (.ref (W.ω p)) (fc (.ref q) (fo o4 (fo o5 (fz 0))))))) H) {cs:List Int}:∀{pre:List Int}{i:Nat}{H:Hp}{o4 o5:Option V},i=pre.length→ks=pre++cs→(∀c∈cs,∃sc pc kc,Wn h es W c sc pc kc∧sc≠sp)→Ro h H→H[q]?=some (.list (pre.map V.int))→
  lf1 c 4 f19b1 T (k+1+cs.length) (.seq (W.κ p) i) (fc (.ref τ) (fc a1 (fc (.ref (W.ω p)) (fc (.ref q) (fo o4 (fo o5 (fz 0))))))) H N:=by
 induction cs with
 | nil=>
  intro pre i H o4 o5 hi e hc ro gq
  rw[List.append_nil]at e
  exact w_f1e (end_seq (ro.get wp.kids) (by rw[List.length_map,e,hi];exact Nat.le_refl _)) (hN H _ _ ro (by rw[e];exact gq))
 | cons x cs ih=>
  intro pre i H o4 o5 hi e hc ro gq
  obtain⟨wl,w1,w2⟩:=wp.inst
  obtain⟨sx,px,kx,wx,ne⟩:=hc x (.head _)
  obtain⟨xl,x1,x2⟩:=wx.inst
  have hz:q≠0:=Nat.ne_of_gt (Nat.lt_of_lt_of_le (Nat.lt_of_le_of_lt (Nat.zero_le _) (lt_of_get ht.inst)) hq)
  have el:ks.length=pre.length+(cs.length+1):=by rw[e];simp
  refine w_f1 (n:=k+1+cs.length) (v:=.int x) (next_seq (ro.get wp.kids) (by rw[e,hi];simp)) ?_
  refine w_attr (ro.get ht.inst) ht.win ?_
  refine w_dk (ro.get ht.dict) wx.dk ?_
  refine w_attr (ro.get x1) x2.sort ?_
  refine w_attr (ro.get w1) w2.sort ?_
  refine w_some (w_f ne ?_)
  refine w_ml gq hz ?_ rfl
  refine w_app gq (by rw[lim_eq,List.length_map];lia) fun H2 g2 o2=>?_
  exact ih (pre:=pre++[x]) (by simp[hi]) (by rw[e];simp) (fun c hc'=>hc c (.tail _ hc')) (ro.at o2 (.inl hq)) (by rw[g2];simp)
theorem jn2 {c:Env'}{k q:Nat}{o2 o3 o5:Option V}(ht:Tt h τ δ fs es r) {N:Fr→Hp→Prop}{T:V→Hp→Prop}(gq:h[q]?=some (.list (ks.map V.int))) (hN:∀o4,N (fc (.ref τ) (fc (.int p) (fo o2 (fo o3 (fo o4 (fo o5 (fz 0))))))) h) {cs:List Int}:∀{pre:List Int}{i:Nat}{o4:Option V},i=pre.length→ks=pre++cs→(∀c∈cs,W.ω c≠0∧∃sc kc,Wn h es W c sc p kc)→
  lf1 c 4 f19b2 T (k+1+cs.length) (.seq q i) (fc (.ref τ) (fc (.int p) (fo o2 (fo o3 (fo o4 (fo o5 (fz 0))))))) h N:=by
 induction cs with
 | nil=>
  intro pre i o4 hi e hc
  rw[List.append_nil]at e
  exact w_f1e (end_seq gq (by rw[List.length_map,e,hi];exact Nat.le_refl _)) (hN _)
 | cons x cs ih=>
  intro pre i o4 hi e hc
  obtain⟨wz,sx,kx,wx⟩:=hc x (.head _)
  obtain⟨xl,x1,x2⟩:=wx.inst
  refine w_f1 (n:=k+1+cs.length) (v:=.int x) (next_seq gq (by rw[e,hi];simp)) ?_
  refine w_attr ht.inst ht.win ?_
  refine w_dk ht.dict wx.dk ?_
  refine w_same x1 x2.par (Nat.lt_of_le_of_lt x2.len (by decide)) wz ?_
  exact ih (pre:=pre++[x]) (by simp[hi]) (by rw[e];simp) fun c hc'=>hc c (.tail _ hc')
theorem call19 {n:Nat}{sp pp':Int}{fp:List (Nat×V)}(ht:Tt h τ δ fs es r) (wp:Wn h es W p sp pp' ks) (gp:h[W.ω p]?=some (.inst 0 fp)) (hpz:W.ω p≠0) (hc:∀c∈ks,W.ω c≠0∧∃sc kc,Wn h es W c sc p kc∧sc≠sp) (hl:ks.length<1000) (x:∀q h',h.length≤q→h'[q]?=some (.list (ks.map V.int))→h'[W.ω p]?=some (.inst 0 (putF 7 (.ref q) fp))→Ch (fun i=>i=W.ω p) h h'→Q .none h') :
  callP prog (n+1) 19 [.ref τ,.int p] h Q Z:=by
 obtain⟨wl,w1,w2⟩:=wp.inst
 have wlen:fp.length≤16:=by
  have e:wl=fp:=by rw[gp]at w1;cases w1;rfl
  exact e▸w2.len
 refine c19 ?_
 refine w_attr ht.inst ht.win ?_
 refine w_dk ht.dict wp.dk ?_
 refine w_list (Nat.zero_le _) fun q h1 lq gq o1=>?_
 refine w_attr (o1.get w1) w2.kids ?_
 refine w_it (o1.get wp.kids) ?_
 refine lf1_more (1+ks.length) (by rw[turns_eq];lia) ?_
 rw[← Nat.add_assoc]
 refine jn1 (pre:=[]) (cs:=ks) ht wp lq hl (fun H o4 o5 ro gq=>?_) rfl rfl (fun c hc'=>let⟨_,sc,kc,q1,q2⟩:=hc c hc';⟨sc,_,kc,q1,q2⟩) o1 gq
 refine w_it gq ?_
 refine lf1_more (1+ks.length) (by rw[turns_eq];lia) ?_
 rw[← Nat.add_assoc]
 refine jn2 (pre:=[]) (cs:=ks) (ht.ro ro) gq (fun o4=>?_) rfl rfl fun c hc'=>let⟨z,sc,kc,q1,q2⟩:=hc c hc';⟨z,sc,kc,q1.ro ro⟩
 refine w_set (ro.get gp) (Nat.lt_of_le_of_lt wlen (by decide)) hpz fun h' g' o'=>?_
 exact x q h' lq (o'.ne gq (Nat.ne_of_gt (Nat.lt_of_lt_of_le (lt_of_get gp) lq))) g' ((Ro.any ro).trans o')
end
end Mine
namespace Mine
section
variable {h h' h₀:Hp}{W W1:WS}{es es':List (Int×V)}{fs:List (Nat×V)}{τ δ:Nat}{r m s p x:Int}{ks:List Int}{own:Nat→Prop}{Z:Hp→Prop}{Q:V→Hp→Prop}
theorem putK_new {k:Int}{v:V}:∀{es:List (Int×V)},k∉es.map (·.1)→putK k v es=es++[(k,v)]
 | [],_=>rfl
 | (a,w)::r,h=>by
  rw[List.map_cons,List.mem_cons,not_or]at h
  simp only[putK0,putK1]
  rw[if_neg (Ne.symm h.1),putK_new h.2]
  rfl
structure Ag (W W1:WS) (x:Int):Prop where
 ω:W1.ω x=W.ω x
 κ:W1.κ x=W.κ x
 ε:W1.ε x=W.ε x
 ρ:W1.ρ x=W.ρ x
 σ:∀y,W1.σ x y=W.σ x y
 π:∀y,W1.π x y=W.π x y
theorem Wf.ag {fl:List (Nat×V)}(w:Wf W x s p fl) (g:Ag W W1 x):Wf W1 x s p fl:=
 ⟨w.len,w.num,w.sort,w.par,by rw[g.κ];exact w.kids,by rw[g.π];exact w.left,by rw[g.π];exact w.top,by rw[g.σ];exact w.wid,by rw[g.σ];exact w.hgt,by rw[g.ε];exact w.ear,w.more,w.meth⟩
theorem Wn.to (w:Wn h es W x s p ks) (q:Ch own h h') (h1:¬own (W.ω x)) (h2:¬own (W.κ x)) (h3:¬own (W.ε x)) (hk:findK x es'=findK x es) (g:Ag W W1 x):Wn h' es' W1 x s p ks:=
 ⟨let⟨fl,a,b⟩:=w.inst;⟨fl,by rw[g.ω];exact q.keep _ _ a (.inl h1),b.ag g⟩,by rw[g.κ];exact q.keep _ _ w.kids (.inl h2),by rw[g.ε];exact q.keep _ _ w.ear (.inl h3),by rw[hk,g.ω];exact w.dk,by rw[g.ρ];exact w.pr⟩
theorem Wn.to' {ks':List Int}(w:Wn h es W x s p ks) (q:Ch own h h') (h1:¬own (W.ω x)) (h2:h'[W.κ x]?=some (.list (ks'.map V.int))) (h3:¬own (W.ε x)) (hk:findK x es'=findK x es) (g:Ag W W1 x):Wn h' es' W1 x s p ks':=
 ⟨let⟨fl,a,b⟩:=w.inst;⟨fl,by rw[g.ω];exact q.keep _ _ a (.inl h1),b.ag g⟩,by rw[g.κ];exact h2,by rw[g.ε];exact q.keep _ _ w.ear (.inl h3),by rw[hk,g.ω];exact w.dk,by rw[g.ρ];exact w.pr⟩
structure Wx (h:Hp) (τ δ:Nat) (fs:List (Nat×V)) (es:List (Int×V)) (W:WS) (F0:F) (k:Int):Prop where
 tt:Tt h τ δ fs es F0.head
 vw:Vw h es W F0
 one:∃x,F0=F.one x
 full:Full F0
 nd:F0.nums.Nodup
 alt:Alt 9 F0
 rho:Rho W.ρ 0 F0
 pos:∀x∈F0.nums,0<x∧x≤k
 last:findF 13 fs=some (.int k)
 perm:F0.nums.Perm (es.map (·.1))
 few:F0.count<100
 kk:∀x∈F0.nums,∀y∈F0.nums,W.κ x=W.κ y→x=y
 ke:∀x∈F0.nums,∀y∈F0.nums,W.κ x≠W.ε y
 kz:∀x∈F0.nums,W.κ x≠0
 z0:∃l0,h[0]?=some (.list l0)
section
variable {F0:F}{k:Int}
theorem Wx.ro (X:Wx h τ δ fs es W F0 k) (q:Ro h h'):Wx h' τ δ fs es W F0 k:=
 ⟨X.tt.ro q,X.vw.ro q,X.one,X.full,X.nd,X.alt,X.rho,X.pos,X.last,X.perm,X.few,X.kk,X.ke,X.kz,let⟨l,e⟩:=X.z0;⟨l,q.get e⟩⟩
theorem Wx.wn (X:Wx h τ δ fs es W F0 k) {y:Int×Int×F}(hy:y∈F0.nodes):Wn h es W y.1 y.2.1 (W.ρ y.1) y.2.2.roots:=by
 obtain⟨p,w⟩:=Vw_iff.mp X.vw y hy
 have:=w.pr
 subst this
 exact w
theorem Wx.nk (X:Wx h τ δ fs es W F0 k):k+1∉es.map (·.1):=fun z=>by
 have:=X.pos _ (X.perm.symm.subset z);lia
theorem Wx.nf (X:Wx h τ δ fs es W F0 k):k+1∉F0.nums:=fun z=>by
 have:=X.pos _ z;lia
theorem Wx.tz (X:Wx h τ δ fs es W F0 k):τ≠0∧δ≠0:=by
 obtain⟨l,e⟩:=X.z0
 have h1:=X.tt.inst
 have h2:=X.tt.dict
 exact⟨fun z=>by rw[z,e]at h1;(cases h1),fun z=>by rw[z,e]at h2;(cases h2)⟩
theorem Wx.el (X:Wx h τ δ fs es W F0 k):es.length=F0.count:=by
 have:=X.perm.length_eq
 rw[List.length_map,F.nums_length]at this
 exact Eq.symm (by assumption)
theorem Wn.lts (w:Wn h es W x s p ks):W.ω x<h.length∧W.κ x<h.length∧W.ε x<h.length:=by
 obtain⟨fl,a,b⟩:=w.inst
 exact⟨lt_of_get a,lt_of_get w.kids,lt_of_get w.ear⟩
theorem Wx.nz (X:Wx h τ δ fs es W F0 k) (w:Wn h es W x s p ks):W.ω x≠0:=fun z=>by
 obtain⟨l,e⟩:=X.z0
 obtain⟨fl,a,b⟩:=w.inst
 rw[z,e]at a;(cases a)
theorem Wx.td (X:Wx h τ δ fs es W F0 k) (w:Wn h es W x s p ks):(W.ω x≠τ∧W.ω x≠δ)∧(W.κ x≠τ∧W.κ x≠δ)∧(W.ε x≠τ∧W.ε x≠δ):=by
 have h1:=X.tt.tne w
 have h2:=X.tt.ne_list w.kids
 have h3:=X.tt.ne_list w.ear
 exact⟨⟨Ne.symm h1.1,Ne.symm h1.2⟩,⟨Ne.symm h2.1,Ne.symm h2.2⟩,⟨Ne.symm h3.1,Ne.symm h3.2⟩⟩
end
theorem Tt.fresh {k:Int}{v:V}(t:Tt h τ δ fs es r) (hl:findF 13 fs=some (.int k)) (g1:h'[τ]?=some (.inst 1 (putF 13 v fs))) (g2:h'[δ]?=some (.dictI es')):Tt h' τ δ (putF 13 v fs) es' r:=
 ⟨g1,g2,by rw[findF_put,if_neg (by decide)];exact t.win,by rw[findF_put,if_neg (by decide)];exact t.root,by rw[findF_put,if_neg (by decide)];exact t.lw,by rw[findF_put,if_neg (by decide)];exact t.lh,by rw[findF_put,if_neg (by decide)];exact t.sel,fun j hj=>by rw[findF_put,if_neg (by lia)];exact t.meth j hj,by rw[putF_same hl];exact t.len⟩
theorem Tt.reroot {b:Int}(t:Tt h τ δ fs es r) (g1:h'[τ]?=some (.inst 1 (putF 21 (.int b) fs))) (g2:h'[δ]?=some (.dictI es)):Tt h' τ δ (putF 21 (.int b) fs) es b:=
 ⟨g1,g2,by rw[findF_put,if_neg (by decide)];exact t.win,by rw[findF_put,if_pos rfl],by rw[findF_put,if_neg (by decide)];exact t.lw,by rw[findF_put,if_neg (by decide)];exact t.lh,by rw[findF_put,if_neg (by decide)];exact t.sel,fun j hj=>by rw[findF_put,if_neg (by lia)];exact t.meth j hj,by rw[putF_same t.root];exact t.len⟩
theorem Wf.par' {fl:List (Nat×V)}{q:Int}(w:Wf W x s p fl):Wf W x s q (putF 19 (.int q) fl):=by
 obtain⟨v1,v2,v3,v4,q1,q2,q3,q4⟩:=w.more
 exact⟨Nat.le_trans (Nat.le_of_eq (putF_same w.par)) w.len,fpo rfl w.num,fpo rfl w.sort,fpe,fpo rfl w.kids,fpo rfl w.left,fpo rfl w.top,fpo rfl w.wid,fpo rfl w.hgt,fpo rfl w.ear,⟨v1,v2,v3,v4,fpo rfl q1,fpo rfl q2,fpo rfl q3,fpo rfl q4⟩,fun k hk=>fph hk rfl (w.meth k hk)⟩
theorem Wf.kid' {fl:List (Nat×V)}{j:Nat}{κ':Int→Nat}(w:Wf W x s p fl) (e:κ' x=j):Wf { W with κ:=κ' } x s p (putF 7 (.ref j) fl):=by
 obtain⟨v1,v2,v3,v4,q1,q2,q3,q4⟩:=w.more
 exact⟨Nat.le_trans (Nat.le_of_eq (putF_same w.kids)) w.len,fpo rfl w.num,fpo rfl w.sort,fpo rfl w.par,fpe.trans (congrArg (fun z=>some (V.ref z)) e.symm),fpo rfl w.left,fpo rfl w.top,fpo rfl w.wid,fpo rfl w.hgt,fpo rfl w.ear,⟨v1,v2,v3,v4,fpo rfl q1,fpo rfl q2,fpo rfl q3,fpo rfl q4⟩,fun k hk=>fph hk rfl (w.meth k hk)⟩
end
end Mine
namespace Mine
noncomputable def OwnT (τ δ:Nat) (W:WS) (F0:F) (i:Nat):Prop:=i=τ∨i=δ∨∃x∈F0.nums,i=W.ω x∨i=W.κ x
noncomputable def NewL (h:Hp) (W W':WS) (F0 F1:F):Prop:=∀x∈F1.nums,(x∈F0.nums∧W'.κ x=W.κ x∨h.length≤W'.κ x)∧(x∈F0.nums∧W'.ε x=W.ε x∨h.length≤W'.ε x)∧(x∈F0.nums∧W'.ω x=W.ω x∨h.length≤W'.ω x)
noncomputable def leafF (m:Int):F:=.node m 0 .nil .nil
section
variable {h h' h₀:Hp}{W W1:WS}{es es':List (Int×V)}{fs:List (Nat×V)}{τ δ:Nat}{r m s p x a:Int}{ks:List Int}{own:Nat→Prop}{Z:Hp→Prop}{Q:V→Hp→Prop}{F0:F}{k:Int}
theorem Wf.ag2 {fl:List (Nat×V)}(w:Wf W x s p fl) (h1:W1.κ x=W.κ x) (h2:W1.ε x=W.ε x) (h3:∀y,W1.σ x y=W.σ x y) (h4:∀y,W1.π x y=W.π x y):Wf W1 x s p fl:=
 ⟨w.len,w.num,w.sort,w.par,by rw[h1];exact w.kids,by rw[h4];exact w.left,by rw[h4];exact w.top,by rw[h3];exact w.wid,by rw[h3];exact w.hgt,by rw[h2];exact w.ear,w.more,w.meth⟩
theorem set_take {α:Type}:∀{l:List α}{i:Nat}{b:α},i<l.length→l.set i b=l.take i++([b]++l.drop (i+1))
 | [],i,b,h=>by simp at h
 | x::l,0,b,h=>by simp
 | x::l,i+1,b,h=>by
  rw[List.set_cons_succ,set_take (by simpa using h)]
  rfl
noncomputable def O1 (τ δ:Nat) (W:WS) (m:Int) (i:Nat):Prop:=i=τ∨i=δ∨i=W.ω m∨(W.ρ m≠0∧i=W.κ (W.ρ m))
noncomputable def Top17 (H:Hp) (τ:Nat) (fs:List (Nat×V)) (W:WS) (F0:F) (m a b:Int):Prop:=
 (W.ρ m=0∧H[τ]?=some (.inst 1 (putF 21 (.int b) fs)))∨∃(sp:Int) (K:F) (i:Nat),(W.ρ m,sp,K)∈F0.nodes∧K.roots[i]?=some m∧along sp≠a∧W.ρ m≠0∧H[W.κ (W.ρ m)]?=some (.list ((K.roots.set i b).map V.int))∧H[τ]?=some (.inst 1 fs)
theorem none29 {fs:List (Nat×V)}{i:Nat}(hi:29≤i) (hh:(fs.all fun e=>Nat.blt e.1 29)=true):findF i fs=none:=by
 induction fs with
 | nil=>rfl
 | cons e r ih=>exact(if_neg fun z:e.1=i=>absurd (Nat.le_of_ble_eq_true (Bool.and_eq_true_iff.mp hh).1) (Nat.not_lt.mpr (z▸hi))).trans (ih (Bool.and_eq_true_iff.mp hh).2)
structure S17 (h H:Hp) (τ δ:Nat) (fs:List (Nat×V)) (es:List (Int×V)) (W:WS) (F0:F) (m a b:Int) (w j ε:Nat):Prop where
 box:∃fb,H[w]?=some (.inst 0 fb)∧∀W1:WS,W1.κ b=j→W1.ε b=ε→(∀y,W1.σ b y=W.σ m y)→(∀y,W1.π b y=W.π m y)→Wf W1 b (sortAlong a) (W.ρ m) fb
 kid:H[j]?=some (.list [.int m])
 ear:H[ε]?=some (.list [])
 win:∃fl,H[W.ω m]?=some (.inst 0 (putF 19 (.int b) fl))∧Wf W m 0 (W.ρ m) fl
 dict:H[δ]?=some (.dictI (putK b (.ref w) es))
 top:Top17 H τ (putF 13 (.int b) fs) W F0 m a b
 ch:Ch (O1 τ δ W m) h H
 wl:h.length≤w
 el:h.length≤ε
 ej:ε<j
structure Wr (W:WS) (F0:F) (m a:Int):Prop where
 hm:(m,(0:Int),F.nil)∈F0.nodes
 par:(W.ρ m=0∧F0=leafF m)∨∃(sp:Int) (K:F) (i:Nat),(W.ρ m,sp,K)∈F0.nodes∧K.roots[i]?=some m∧along sp≠a∧W.ρ m≠0
 ax:a=0∨a=1
theorem Wr.κp {k:Int}(Y:Wr W F0 m a) (X:Wx h τ δ fs es W F0 k) (z:W.ρ m≠0):∃sp K,Wn h es W (W.ρ m) sp (W.ρ (W.ρ m)) K∧W.ρ m∈F0.nums:=
 Y.par.elim (fun q=>absurd q.1 z) fun J9=>J9.elim fun J J1=>J1.elim fun J J2=>J2.elim fun J J3=>J3.elim fun q1 J=>⟨_,_,X.wn q1,nodes_num q1⟩
noncomputable def f17e:List I:=[.var 4,.attr 18,.var 3,.sattr 19,.var 1,.list 1,.var 4,.sattr 7,.var 4,.attr 18,.ret]
noncomputable def f17r:List I:=[.var 0,.look 29,.var 2,.call 1 1,.var 3,.attr 19,.meth 29 2,.st 4,.var 3,.attr 27,.var 3,.attr 10,.var 3,.attr 17,.var 3,.attr 25,.tup 4,.unt 4,.var 4,.sattr 27,.var 4,.sattr 10,.var 4,.sattr 17,.var 4,.sattr 25,.var 0,.var 1,.var 4,.attr 18,.call 5 3,.pop,.var 4,.attr 18,.var 3,.sattr 19,.var 1,.list 1,.var 4,.sattr 7,.var 4,.attr 18,.ret]
theorem call17j {n:Nat}{sp:Int}{K:F}(X:Wx h τ δ fs es W F0 k) (hm:(m,(0:Int),F.nil)∈F0.nodes) (hp:(p,sp,K)∈F0.nodes) (hk:m∈K.roots) (al:along sp=a) (hq:Q (.int p) h):callP prog (n+2) 17 [.ref τ,.int m,.int a] h Q Z:=by
 have wm:=X.wn hm
 have wp:=X.wn hp
 have rm:W.ρ m=p:=(Rho.at X.rho).2 _ hp m hk
 have pz:W.ρ m≠0:=fun z=>by have:=X.pos p (nodes_num hp);lia
 obtain⟨fl,w1,w2⟩:=wm.inst
 obtain⟨fp,p1,p2⟩:=wp.inst
 have e2:findF 19 fl=some (.int (W.ρ m)):=w2.par
 have dp:findK (W.ρ m) es=some (.ref (W.ω p)):=by rw[rm];exact wp.dk
 have tt:=X.tt
 refine c17 ?_
 refine w_attr tt.inst tt.win ?_
 refine w_dk tt.dict wm.dk ?_
 refine w_attr w1 e2 ?_
 refine w_some (w_nt pz ?_)
 refine w_attr tt.inst tt.win ?_
 refine w_attr w1 e2 ?_
 refine w_dk tt.dict dp ?_
 refine w_attr p1 p2.sort ?_
 refine call0 ?_
 refine w_some (w_t al (w_tt ?_))
 refine w_attr w1 e2 ?_
 rw[rm]
 exact hq
theorem call17w {n:Nat}(X:Wx h τ δ fs es W F0 k) (Y:Wr W F0 m a) (few:F0.count+2<100) (x:∀H w j ε,S17 h H τ δ fs es W F0 m a (k+1) w j ε→Q (.int (k+1)) H):callP prog (n+3) 17 [.ref τ,.int m,.int a] h Q Z:=by
 have hm:=Y.hm
 have mn:=nodes_num hm
 have wm:Wn h es W m 0 (W.ρ m) []:=X.wn hm
 obtain⟨fl,w1,w2⟩:=wm.inst
 have tt:=X.tt
 have tz:=X.tz
 have mb:m≠k+1:=fun e=>X.nf (e▸mn)
 have wmz:=X.nz wm
 have tdm:=X.td wm
 have el:=X.el
 have lw:=wm.lts
 have lτ:=lt_of_get tt.inst
 have lδ:=lt_of_get tt.dict
 have κl:W.ρ m≠0→W.κ (W.ρ m)<h.length:=fun z=>let⟨_,_,wp,_⟩:=Y.κp X z;wp.lts.2.1
 have tail:go (cn prog (n+2)) (pF Q Z) (kF Q) f17r (fc (.ref τ) (fc (.int m) (fc (.int a) (fc (.ref (W.ω m)) (fz 1))))) h []:=by
  refine w_meth tt.inst (tt.meth 29 (by decide)) rfl ?_
  refine call1 ?_
  refine w_attr w1 w2.par ?_
  refine call41 (n:=n) tt X.last tz (by lia) fun w κb εb l h1 c1 c2 c3 c4 c5 c6 c7 c8 ch1=>?_
  have nw:∀{i},i<h.length→i≠w:=fun hi=>Nat.ne_of_lt (Nat.lt_of_lt_of_le hi c1)
  have wz:w≠0:=Ne.symm (nw (Nat.lt_of_le_of_lt (Nat.zero_le _) lτ))
  have w1':=ch1.keep _ _ w1 (.inl fun z=>z.elim tdm.1.1 tdm.1.2)
  have t1:Tt h1 τ δ (putF 13 (.int (k+1)) fs) (putK (k+1) (.ref w) es) F0.head:=Tt.fresh tt X.last c7 c8
  refine w_attr w1' w2.wid ?_
  refine w_attr w1' w2.hgt ?_
  refine w_attr w1' w2.left ?_
  refine w_attr w1' w2.top ?_
  refine w_tup fun t h2 J gt o2=>?_
  refine w_tg gt rfl ?_
  refine w_set (o2.get c4) (show 16<100 by decide) wz fun h3 g3 o3=>?_
  refine w_set g3 (show 16<100 by decide) wz fun h4 g4 o4=>?_
  refine w_set g4 (show 16<100 by decide) wz fun h5 g5 o5=>?_
  refine w_set g5 (show 16<100 by decide) wz fun h6 g6 o6=>?_
  have ch16:=(Ro.any o2).trans (o3.trans (o4.trans (o5.trans o6)))
  have b19:findF 19 (putF 25 (.int (W.π m 1)) (putF 17 (.int (W.π m 0)) (putF 10 (.int (W.σ m 1)) (putF 27 (.int (W.σ m 0)) (newWin (k+1) (sortAlong a) (W.ρ m) κb εb l)))))=some (.int (W.ρ m)):=rfl
  have b18:findF 18 (putF 25 (.int (W.π m 1)) (putF 17 (.int (W.π m 0)) (putF 10 (.int (W.σ m 1)) (putF 27 (.int (W.σ m 0)) (newWin (k+1) (sortAlong a) (W.ρ m) κb εb l)))))=some (.int (k+1)):=rfl
  have bl:(putF 25 (.int (W.π m 1)) (putF 17 (.int (W.π m 0)) (putF 10 (.int (W.σ m 1)) (putF 27 (.int (W.σ m 0)) (newWin (k+1) (sortAlong a) (W.ρ m) κb εb l))))).length=16:=rfl
  have bw:∀(W1:WS) j,W1.κ (k+1)=j→W1.ε (k+1)=εb→(∀y,W1.σ (k+1) y=W.σ m y)→(∀y,W1.π (k+1) y=W.π m y)→Wf W1 (k+1) (sortAlong a) (W.ρ m) (putF 7 (.ref j) (putF 25 (.int (W.π m 1)) (putF 17 (.int (W.π m 0)) (putF 10 (.int (W.σ m 1)) (putF 27 (.int (W.σ m 0)) (newWin (k+1) (sortAlong a) (W.ρ m) κb εb l)))))):=fun W1 j e1 e2 e3 e4=>
   ⟨Nat.le_refl 16,rfl,rfl,rfl,by rw[e1];rfl,by rw[e4];rfl,by rw[e4];rfl,by rw[e3];rfl,by rw[e3];rfl,by rw[e2];rfl,⟨_,_,_,_,rfl,rfl,rfl,rfl⟩,fun i hi=>none29 hi rfl⟩
  generalize putF 25 (.int (W.π m 1)) (putF 17 (.int (W.π m 0)) (putF 10 (.int (W.σ m 1)) (putF 27 (.int (W.σ m 0)) (newWin (k+1) (sortAlong a) (W.ρ m) κb εb l))))=fb at g6 b19 b18 bl bw
  have ch06:Ch (fun i=>i=τ∨i=δ) h h6:=ch1.loc ch16 fun i hi e=>absurd e (nw hi)
  have t6:Tt h6 τ δ (putF 13 (.int (k+1)) fs) (putK (k+1) (.ref w) es) F0.head:=t1.ch ch16 (nw lτ) (nw lδ)
  have wn6:∀{x s p ks},x∈F0.nums→Wn h es W x s p ks→Wn h6 (putK (k+1) (.ref w) es) W x s p ks:=fun{x s p ks} hx wx=>by
   have td:=X.td wx
   exact wx.to ch06 (fun z=>z.elim td.1.1 td.1.2) (fun z=>z.elim td.2.1.1 td.2.1.2) (fun z=>z.elim td.2.2.1 td.2.2.2) (by rw[findK_put,if_neg fun e:x=k+1=>X.nf (e▸hx)]) ⟨rfl,rfl,rfl,rfl,fun J=>rfl,fun J=>rfl⟩
  have esb:findK (k+1) (putK (k+1) (.ref w) es)=some (.ref w):=by rw[findK_put,if_pos rfl]
  refine w_attr g6 b18 ?_
  have rest:∀h7,Ch (fun i=>i=τ∨(W.ρ m≠0∧i=W.κ (W.ρ m))) h6 h7→Top17 h7 τ (putF 13 (.int (k+1)) fs) W F0 m a (k+1)→
    go (cn prog (n+2)) (pF Q Z) (kF Q) f17e (fc (.ref τ) (fc (.int m) (fc (.int a) (fc (.ref (W.ω m)) (fc (.ref w) (fz 0)))))) h7 []:=by
   intro h7 ch7 top
   have n7:∀{i},h.length≤i→¬(i=τ∨(W.ρ m≠0∧i=W.κ (W.ρ m))):=fun hi z=>z.elim (fun z=>absurd lτ (Nat.not_lt.mpr (z▸hi))) fun z=>absurd (κl z.1) (Nat.not_lt.mpr (z.2▸hi))
   have nκ:∀{i o},h[i]?=some o→(∀vs,o≠.list vs)→¬(W.ρ m≠0∧i=W.κ (W.ρ m)):=fun e ne z=>by
    obtain⟨_,_,wp,_⟩:=Y.κp X z.1
    have:=wp.kids
    rw[← z.2,e]at this
    exact ne _ (Option.some.inj this)
   have g7:=ch7.keep _ _ g6 (.inl (n7 c1))
   have m7:=ch7.keep _ _ (ch16.ne w1' (nw lw.1)) (.inl fun z=>z.elim tdm.1.1 (nκ w1 fun J z=>by contradiction))
   refine w_attr g7 b18 ?_
   refine w_set m7 (Nat.lt_of_le_of_lt w2.len (by decide)) wmz fun h8 m8 o8=>?_
   refine w_list le_lim fun j h9 lj gj o9=>?_
   refine w_set (o9.get (o8.ne g7 (Ne.symm (nw lw.1)))) (by rw[bl];decide) wz fun h10 g10 o10=>?_
   have b18':findF 18 (putF 7 (.ref j) fb)=some (.int (k+1)):=by rw[findF_put,if_neg (by decide)];exact b18
   refine w_attr g10 b18' ?_
   have ch710:Ch (O1 τ δ W m) h8 h9:=Ro.any o9
   have l8:=Nat.le_trans ch16.len (Nat.le_trans ch7.len o8.len)
   have ej:εb<j:=Nat.lt_of_lt_of_le (lt_of_get c6) (Nat.le_trans l8 lj)
   have el:h.length≤εb:=Nat.le_of_lt (Nat.lt_of_le_of_lt c1 (Nat.lt_trans c2 c3))
   have wε:εb≠w:=Nat.ne_of_gt (Nat.lt_trans c2 c3)
   have wj:j≠w:=Nat.ne_of_gt (Nat.lt_trans (Nat.lt_trans c2 c3) ej)
   have chA:Ch (O1 τ δ W m) h h10:=((((ch06.mem fun J z=>z.elim .inl fun z=>.inr (.inl z)).trans (ch7.mem fun J z=>z.elim .inl fun z=>.inr (.inr (.inr z)))).trans (o8.mem fun J z=>.inr (.inr (.inl z)))).trans ch710).loc o10 fun i hi z=>absurd z (nw hi)
   have o810:Ch (fun i=>i=w) h8 h10:=(Ro.any o9).trans o10
   have d7:=ch7.keep _ _ t6.dict (.inl fun z=>z.elim (fun z=>(by have:=tt.inst;rw[← z,tt.dict]at this;cases this)) (nκ tt.dict fun J z=>by contradiction))
   refine x h10 w j εb ⟨⟨_,g10,fun W1 e1=>bw W1 j e1⟩,o10.ne gj wj,o810.ne (o8.ne (ch7.keep _ _ (ch16.ne c6 wε) (.inl (n7 el))) (Ne.symm (Nat.ne_of_lt (Nat.lt_of_lt_of_le lw.1 el)))) wε,⟨fl,o810.ne m8 (nw lw.1),w2⟩,o810.ne (o8.ne d7 (Ne.symm tdm.1.2)) (nw lδ),?_,chA,c1,el,ej⟩
   have up:∀{i o},h7[i]?=some o→i<h.length→i≠W.ω m→h10[i]?=some o:=fun e hi ne=>o810.ne (o8.ne e ne) (nw hi)
   refine top.imp (fun z=>⟨z.1,up z.2 lτ (Ne.symm tdm.1.1)⟩) fun J4=>J4.elim fun sp J5=>J5.elim fun K J6=>J6.elim fun i J7=>J7.elim fun q1 J8=>J8.elim fun q2 J9=>J9.elim fun q3 J1=>J1.elim fun q4 J2=>J2.elim fun q5 q6=>⟨sp,K,i,q1,q2,q3,q4,up q5 (κl q4) ((X.wn q1).kne wm).1,up q6 lτ (Ne.symm tdm.1.1)⟩
  refine call5 (n:=n+1) t6 (wn6 mn wm) esb g6 (by rw[bl];decide) b19 wz tz.1 (fun z=>?_) fun z h7 g7 o7=>rest h7 (o7.mem fun J z=>.inl z) (.inl ⟨z,g7⟩)
  rcases Y.par with⟨q1,_⟩ | ⟨sp,K,i,q1,q2,q3,q4⟩
  ·exact absurd q1 z
  ·have wp3:=wn6 (nodes_num q1) (X.wn q1)
   obtain⟨fp,p1,p2⟩:=wp3.inst
   have ndK:(W.ρ m::(K.nums++[])).Nodup:=F.nd_nodes X.nd _ q1
   rw[List.append_nil]at ndK
   refine⟨sp,_,_,fp,_,i,K.roots,⟨wp3.dk,p1,p2,rfl,X.kz _ (nodes_num q1)⟩,wp3.kids,(List.nodup_cons.mp ndK).2.sublist roots_sub,q2,fun h7 g7 o7=>rest h7 (o7.mem fun J z=>.inr ⟨q4,z⟩) (.inr ⟨sp,K,i,q1,q2,q3,q4,g7,?_⟩)⟩
   have tdp:=X.td (X.wn q1)
   exact o7.ne t6.inst (Ne.symm tdp.2.1.1)
 refine c17 ?_
 refine w_attr tt.inst tt.win ?_
 refine w_dk tt.dict wm.dk ?_
 refine w_attr w1 w2.par ?_
 rcases Y.par with⟨q1,_⟩ | ⟨sp,K,i,q1,q2,q3,q4⟩
 ·exact w_some (w_nf q1 (w_ff tail))
 ·obtain⟨fp,p1,p2⟩:=(X.wn q1).inst
  refine w_some (w_nt q4 ?_)
  refine w_attr tt.inst tt.win ?_
  refine w_attr w1 w2.par ?_
  refine w_dk tt.dict (X.wn q1).dk ?_
  refine w_attr p1 p2.sort ?_
  refine call0 ?_
  exact w_some (w_f q3 (w_ff tail))
end
end Mine
namespace Mine
section
variable {h h' h₀:Hp}{W W1:WS}{es es':List (Int×V)}{fs fs':List (Nat×V)}{τ δ w:Nat}{r m s p x a:Int}{ks:List Int}{own:Nat→Prop}{Z:Hp→Prop}{Q:V→Hp→Prop}{F0 F1:F}{k:Int}
theorem NewL.κ (N:NewL h W W1 F0 F1) {x:Int}(hx:x∈F1.nums):x∈F0.nums∧W1.κ x=W.κ x∨h.length≤W1.κ x:=(N x hx).1
theorem NewL.ε (N:NewL h W W1 F0 F1) {x:Int}(hx:x∈F1.nums):x∈F0.nums∧W1.ε x=W.ε x∨h.length≤W1.ε x:=(N x hx).2.1
theorem Wx.grow (X:Wx h τ δ fs es W F0 k) (pm:F1.nums.Perm ([k+1]++F0.nums)) (few:F0.count+1<100) (tt:Tt h' τ δ fs' (putK (k+1) (.ref w) es) F1.head) (vw:Vw h' (putK (k+1) (.ref w) es) W1 F1) (one:∃x,F1=F.one x) (full:Full F1) (alt:Alt 9 F1) (rho:Rho W1.ρ 0 F1) (last:findF 13 fs'=some (.int (k+1))) (z0:∃l0,h'[0]?=some (.list l0)) (nl:NewL h W W1 F0 F1)
  (hk:∀x∈F1.nums,∀y∈F1.nums,h.length≤W1.κ x→W1.κ x=W1.κ y→x=y) (he:∀x∈F1.nums,∀y∈F1.nums,h.length≤W1.κ x∨h.length≤W1.ε y→W1.κ x≠W1.ε y):Wx h' τ δ fs' (putK (k+1) (.ref w) es) W1 F1 (k+1):=by
 have inF:∀x∈F1.nums,x=k+1∨x∈F0.nums:=fun x hx=>List.mem_cons.mp (pm.subset hx)
 have k0:0≤k:=by
  obtain⟨x0,e0⟩:=X.one
  have:=X.pos x0.1 (by rw[e0];exact .head _)
  lia
 refine⟨tt,vw,one,full,pm.nodup_iff.mpr (List.nodup_cons.mpr ⟨X.nf,X.nd⟩),alt,rho,fun x hx=>?_,last,?_,?_,fun x hx y hy e=>?_,fun x hx y hy=>?_,fun x hx=>?_,z0⟩
 ·rcases inF x hx with e | hx
  ·lia
  ·have:=X.pos x hx;lia
 ·rw[putK_new X.nk,List.map_append]
  exact pm.trans (List.perm_append_comm.trans (X.perm.append_right [k+1]))
 ·have:=pm.length_eq
  rw[List.length_append,F.nums_length,F.nums_length]at this
  rw[this,Nat.add_comm];exact few
 ·rcases nl.κ hx with q | q
  ·rcases nl.κ hy with q' | q'
   ·exact X.kk x q.1 y q'.1 (q.2.symm.trans (e.trans q'.2))
   ·exact(hk y hy x hx q' e.symm).symm
  ·exact hk x hx y hy q e
 ·rcases nl.κ hx with q | q
  ·rcases nl.ε hy with q' | q'
   ·rw[q.2,q'.2];exact X.ke x q.1 y q'.1
   ·exact he x hx y hy (.inr q')
  ·exact he x hx y hy (.inl q)
 ·rcases nl.κ hx with q | q
  ·rw[q.2];exact X.kz x q.1
  ·exact Nat.ne_of_gt (Nat.lt_of_lt_of_le (Nat.lt_of_le_of_lt (Nat.zero_le _) (lt_of_get X.tt.inst)) q)
theorem parent (X:Wx h τ δ fs es W F0 k) {y:Int×Int×F}(hy:y∈F0.nodes) (hm:m∈y.2.2.roots):y.1=W.ρ m:=((Rho.at X.rho).2 y hy m hm).symm
theorem wrap_ok {H:Hp}{j ε:Nat}(X:Wx h τ δ fs es W F0 k) (Y:Wr W F0 m a) (few:F0.count+2<100) (S:S17 h H τ δ fs es W F0 m a (k+1) w j ε):∃fs' es' W',Wx H τ δ fs' es' W' (F0.put m (wrapF (sortAlong a) (k+1) (leafF m))) (k+1)∧W'.σ=wrS W.σ m (k+1)∧W'.ρ=wrR W.ρ m (k+1)∧Ch (OwnT τ δ W F0) h H∧NewL h W W' F0 (F0.put m (wrapF (sortAlong a) (k+1) (leafF m))):=by
 have hm:=Y.hm
 have mn:=nodes_num hm
 have wm:Wn h es W m 0 (W.ρ m) []:=X.wn hm
 have tt:=X.tt
 have tdm:=X.td wm
 have bn:k+1∉F0.nums:=X.nf
 have mb:m≠k+1:=fun e=>bn (e▸mn)
 have lτ:=lt_of_get tt.inst
 have nb:∀{x},x∈F0.nums→x≠k+1:=fun hx e=>bn (e▸hx)
 have jl:h.length≤j:=Nat.le_of_lt (Nat.lt_of_le_of_lt S.el S.ej)
 obtain⟨W1,eW⟩:∃W1:WS,W1={ σ:=wrS W.σ m (k+1),π:=wrS W.π m (k+1),ω:=fun x=>if x=k+1 then w else W.ω x,κ:=fun x=>if x=k+1 then j else W.κ x,ε:=fun x=>if x=k+1 then ε else W.ε x,ρ:=wrR W.ρ m (k+1) }:=⟨_,rfl⟩
 have bω:W1.ω (k+1)=w:=by rw[eW];exact if_pos rfl
 have bκ:W1.κ (k+1)=j:=by rw[eW];exact if_pos rfl
 have bε:W1.ε (k+1)=ε:=by rw[eW];exact if_pos rfl
 have oω:∀{x},x∈F0.nums→W1.ω x=W.ω x:=fun hx=>by rw[eW];exact if_neg (nb hx)
 have oκ:∀{x},x∈F0.nums→W1.κ x=W.κ x:=fun hx=>by rw[eW];exact if_neg (nb hx)
 have oε:∀{x},x∈F0.nums→W1.ε x=W.ε x:=fun hx=>by rw[eW];exact if_neg (nb hx)
 have oσ:∀{x},x∈F0.nums→∀y,W1.σ x y=W.σ x y:=fun hx y=>by rw[eW];exact if_neg (nb hx)
 have oπ:∀{x},x∈F0.nums→∀y,W1.π x y=W.π x y:=fun hx y=>by rw[eW];exact if_neg (nb hx)
 have bρ:W1.ρ (k+1)=W.ρ m:=by rw[eW];exact if_pos rfl
 have mρ:W1.ρ m=k+1:=by rw[eW];exact(if_neg mb).trans (if_pos rfl)
 have oρ:∀{x},x∈F0.nums→x≠m→W1.ρ x=W.ρ x:=fun hx e=>by rw[eW];exact(if_neg (nb hx)).trans (if_neg e)
 have ag:∀{x},x∈F0.nums→x≠m→Ag W W1 x:=fun hx e=>⟨oω hx,oκ hx,oε hx,oρ hx e,oσ hx,oπ hx⟩
 have eF:∀{y},y∈(wrapF (sortAlong a) (k+1) (leafF m)).nodes→y=(k+1,sortAlong a,leafF m)∨y=(m,0,.nil):=fun hy=>by
  simpa[wrapF,leafF,F.nodes0,F.nodes1]using hy
 have pm:(F0.put m (wrapF (sortAlong a) (k+1) (leafF m))).nums.Perm ([k+1]++F0.nums):=put_perm (G:=wrapF (sortAlong a) (k+1) (leafF m)) (new:=[k+1]) (List.Perm.swap _ _ _) X.nd hm
 have inF:∀{x},x∈(F0.put m (wrapF (sortAlong a) (k+1) (leafF m))).nums→x=k+1∨x∈F0.nums:=fun hx=>List.mem_cons.mp (pm.subset hx)
 have mrm:W.ρ m≠m:=by
  rcases Y.par with⟨q1,_⟩ | ⟨sp,K,i,q1,q2,q3,q4⟩
  ·rw[q1];intro e;have:=X.pos m mn;lia
  ·have ndK:(W.ρ m::(K.nums++[])).Nodup:=F.nd_nodes X.nd _ q1
   exact fun e=>(List.nodup_cons.mp ndK).1 (by rw[e,List.append_nil];exact roots_sub.subset (List.mem_of_getElem? q2))
 have ap:∀{x s p ks},x∈F0.nums→Wn h es W x s p ks→(x≠m→¬O1 τ δ W m (W.ω x))∧¬O1 τ δ W m (W.ε x)∧(x≠W.ρ m→¬O1 τ δ W m (W.κ x)):=fun{x s p ks} hx wx=>by
  have tdx:=X.td wx
  have kn:=wx.kne wm
  refine⟨fun ne z=>?_,fun z=>?_,fun ne z=>?_⟩
  ·rcases z with z | z | z | ⟨z1,z2⟩
   ·exact tdx.1.1 z
   ·exact tdx.1.2 z
   ·exact ne (wx.inj wm z)
   ·obtain⟨_,_,wp,_⟩:=Y.κp X z1
    exact wx.ne_list wp.kids z2
  ·rcases z with z | z | z | ⟨z1,z2⟩
   ·exact tdx.2.2.1 z
   ·exact tdx.2.2.2 z
   ·exact kn.2 z
   ·obtain⟨_,_,_,q⟩:=Y.κp X z1
    exact X.ke _ q x hx z2.symm
  ·rcases z with z | z | z | ⟨z1,z2⟩
   ·exact tdx.2.1.1 z
   ·exact tdx.2.1.2 z
   ·exact kn.1 z
   ·obtain⟨_,_,_,q⟩:=Y.κp X z1
    exact ne (X.kk x hx _ q z2)
 have fk:∀{x},x∈F0.nums→findK x (putK (k+1) (.ref w) es)=findK x es:=fun hx=>by rw[findK_put,if_neg (nb hx)]
 have vw:Vw H (putK (k+1) (.ref w) es) W1 (F0.put m (wrapF (sortAlong a) (k+1) (leafF m))):=by
  rw[Vw_iff]
  intro y0 hy0
  rcases put_nodes X.nd hm y0 hy0 with hy | ⟨y,hy,ne,ey0⟩
  ·rcases eF hy with e | e
   ·rw[e]
    obtain⟨fb,g,wf⟩:=S.box
    refine⟨W.ρ m,⟨fb,by rw[bω];exact g,wf W1 bκ bε (fun y=>?_) fun y=>?_⟩,by rw[bκ];exact S.kid,by rw[bε];exact S.ear,by rw[bω,findK_put,if_pos rfl],bρ.symm⟩
    ·rw[eW];exact if_pos rfl
    ·rw[eW];exact if_pos rfl
   ·rw[e]
    obtain⟨fl,g,w2⟩:=S.win
    refine⟨k+1,⟨_,by rw[oω mn];exact g,(w2.par' (q:=k+1)).ag2 (oκ mn) (oε mn) (oσ mn) (oπ mn)⟩,?_,?_,?_,mρ.symm⟩
    ·rw[oκ mn];exact S.ch.keep _ _ wm.kids (.inl ((ap mn wm).2.2 (Ne.symm mrm)))
    ·rw[oε mn];exact S.ch.keep _ _ wm.ear (.inl (ap mn wm).2.1)
    ·rw[oω mn,fk mn];exact wm.dk
  ·have yn:=nodes_num hy
   have wy:=X.wn hy
   have p:=ap yn wy
   have hy':(y.1,y.2.1,y.2.2)∈F0.nodes:=hy
   rw[ey0]
   by_cases hmy:m∈y.2.2.roots
   ·have ey:=parent X hy hmy
    rw[ey]at hy'
    have ndK:(y.1::(y.2.2.nums++[])).Nodup:=F.nd_nodes X.nd _ hy
    rw[List.append_nil,List.nodup_cons]at ndK
    rcases S.top with⟨q1,_⟩ | ⟨sp,K,i,q1,q2,q3,q4,q5,_⟩
    ·exact absurd (ey.trans q1) fun z=>by have:=X.pos _ yn;lia
    ·have eK:=(node_unique X.nd hy' q1).2
     refine⟨_,wy.to' (ks':=(y.2.2.put m (wrapF (sortAlong a) (k+1) (leafF m))).roots) S.ch (p.1 ne) ?_ p.2.1 (fk yn) (ag yn ne)⟩
     rw[← eK]at q2 q5
     rw[ey,q5,put_roots ndK.2 q2,set_take (List.getElem?_eq_some_iff.mp q2).1]
     rfl
   ·refine⟨W.ρ y.1,?_⟩
    show Wn H _ W1 y.1 y.2.1 _ (y.2.2.put m (wrapF (sortAlong a) (k+1) (leafF m))).roots
    rw[put_roots' hmy]
    refine wy.to S.ch (p.1 ne) (p.2.2 fun e=>?_) p.2.1 (fk yn) (ag yn ne)
    rcases Y.par with⟨q1,_⟩ | ⟨sp,K,i,q1,q2,q3,q4⟩
    ·rw[q1]at e;have:=X.pos _ yn;lia
    ·rw[e]at hy'
     rw[(node_unique X.nd hy' q1).2]at hmy
     exact hmy (List.mem_of_getElem? q2)
 obtain⟨x0,e0⟩:=X.one
 have r0:W.ρ x0.1=0:=(Rho.at X.rho).1 x0.1 (by rw[e0];exact .head _)
 have one1:∃x,F0.put m (wrapF (sortAlong a) (k+1) (leafF m))=F.one x∧(x.1=if x0.1=m then k+1 else x0.1):=by
  by_cases e:x0.1=m
  ·exact⟨(k+1,sortAlong a,leafF m),by rw[e0];simp[F.one,F.put0,F.put1,e,F.app0,F.app1,wrapF],(if_pos e).symm⟩
  ·exact⟨(x0.1,x0.2.1,x0.2.2.put m (wrapF (sortAlong a) (k+1) (leafF m))),by rw[e0];simp[F.one,F.put0,F.put1,e],(if_neg e).symm⟩
 obtain⟨x1,e1,hx1⟩:=one1
 have hd1:(F0.put m (wrapF (sortAlong a) (k+1) (leafF m))).head=if x0.1=m then k+1 else x0.1:=by rw[e1];exact hx1
 have hd0:F0.head=x0.1:=by rw[e0];rfl
 have tt7:∃fs',Tt H τ δ fs' (putK (k+1) (.ref w) es) (F0.put m (wrapF (sortAlong a) (k+1) (leafF m))).head∧findF 13 fs'=some (.int (k+1)):=by
  rw[hd1]
  have f13:findF 13 (putF 13 (.int (k+1)) fs)=some (V.int (k+1)):=by rw[findF_put,if_pos rfl]
  rcases S.top with⟨q1,g⟩ | ⟨sp,K,i,q1,q2,q3,q4,q5,g⟩
  ·have e:x0.1=m:=by
    rcases Y.par with⟨_,q⟩ | ⟨_,_,_,_,_,_,q⟩
    ·rw[q]at hd0;exact hd0.symm
    ·exact absurd q1 q
   rw[if_pos e]
   have T:=tt.fresh (h':=H.set τ (.inst 1 (putF 13 (.int (k+1)) fs))) X.last (get_set g) ((ch_set g fun J z=>by contradiction).ne S.dict fun z=>by have:=tt.inst;rw[← z,tt.dict]at this;cases this)
   exact⟨_,T.reroot g S.dict,by rw[findF_put,if_neg (by decide)];exact f13⟩
  ·have e:x0.1≠m:=fun e=>q4 (e▸r0)
   rw[if_neg e,← hd0]
   exact⟨_,tt.fresh X.last g S.dict,f13⟩
 obtain⟨fs',tt7,last7⟩:=tt7
 have ala:along (sortAlong a)=a:=by rcases Y.ax with rfl | rfl<;>rfl
 have sa:sortAlong a=1∨sortAlong a=2:=by unfold sortAlong;split<;>simp
 have s0:sortAlong a≠0:=fun z=>by rw[z]at sa;contradiction<;>contradiction
 have s9:sortAlong a≠9:=fun z=>by rw[z]at sa;contradiction<;>contradiction
 have nl:NewL h W W1 F0 (F0.put m (wrapF (sortAlong a) (k+1) (leafF m))):=fun x hx=>by
  rcases inF hx with e | hx
  ·rw[e,bκ,bε,bω]
   exact⟨.inr jl,.inr S.el,.inr S.wl⟩
  ·exact⟨.inl ⟨hx,oκ hx⟩,.inl ⟨hx,oε hx⟩,.inl ⟨hx,oω hx⟩⟩
 have lts:∀{x},x∈F0.nums→W.κ x<h.length∧W.ε x<h.length:=fun hx=>let⟨_,_,_,wx⟩:=X.vw.at hx;⟨wx.lts.2.1,wx.lts.2.2⟩
 have tz:=X.tz
 have z0:∃l0,H[0]?=some (.list l0):=by
  obtain⟨l0,z0⟩:=X.z0
  refine⟨l0,S.ch.keep _ _ z0 (.inl fun z=>?_)⟩
  rcases z with z | z | z | ⟨z1,z2⟩
  ·exact tz.1 z.symm
  ·exact tz.2 z.symm
  ·exact X.nz wm z.symm
  ·obtain⟨_,_,_,q⟩:=Y.κp X z1
   exact X.kz _ q z2.symm
 refine⟨fs',_,W1,X.grow pm (by exact Nat.le_of_lt (by assumption)) tt7 vw ⟨x1,e1⟩ ?_ ?_ ?_ last7 z0 nl (fun x hx y hy l e=>?_) fun x hx y hy l e=>?_,by rw[eW],by rw[eW],S.ch.mem fun i z=>?_,nl⟩
 ·exact put_full (G:=wrapF (sortAlong a) (k+1) (leafF m)) (fun z=>by contradiction) ⟨⟨fun z=>absurd z s0,fun z=>by contradiction⟩,⟨⟨fun J=>rfl,fun J=>rfl⟩,trivial,trivial⟩,trivial⟩ X.full
 ·refine put_alt X.alt (fun J=>⟨s9,⟨Ne.symm s0,trivial,trivial⟩,trivial⟩) (fun y hy hmy=>⟨fun e=>?_,⟨Ne.symm s0,trivial,trivial⟩,trivial⟩) X.nd
  have ey:=parent X hy hmy
  rcases Y.par with⟨q1,_⟩ | ⟨sp,K,i,q1,q2,q3,q4⟩
  ·rw[q1]at ey;have:=X.pos _ (nodes_num hy);lia
  ·have hy':(y.1,y.2.1,y.2.2)∈F0.nodes:=hy
   rw[ey]at hy'
   rw[← (node_unique X.nd hy' q1).1,← e]at q3
   exact q3 ala
 ·exact put_rho (m:=m) (G:=wrapF (sortAlong a) (k+1) (leafF m)) (ρ:=W.ρ) (ρ':=W1.ρ) ⟨bρ,⟨mρ,trivial,trivial⟩,trivial⟩ X.rho (fun x hx ne=>oρ hx ne) X.nd
 ·rcases inF hx with ex | hx
  ·rcases inF hy with ey | hy
   ·rw[ex,ey]
   ·rw[ex,bκ,oκ hy]at e;exact absurd (lts hy).1 (Nat.not_lt.mpr (e▸jl))
  ·rw[oκ hx]at l;exact absurd (lts hx).1 (Nat.not_lt.mpr l)
 ·rcases inF hx with ex | hx
  ·rw[ex,bκ]at e
   rcases inF hy with ey | hy
   ·rw[ey,bε]at e;exact absurd S.ej (e▸Nat.lt_irrefl _)
   ·rw[oε hy]at e;exact absurd (lts hy).2 (Nat.not_lt.mpr (e▸jl))
  ·rw[oκ hx]at e l
   rcases inF hy with ey | hy
   ·rw[ey,bε]at e;exact absurd (lts hx).1 (Nat.not_lt.mpr (e▸S.el))
   ·rw[oε hy]at l
    exact l.elim (Nat.not_le.mpr (lts hx).1) (Nat.not_le.mpr (lts hy).2)
 ·rcases z with z | z | z | ⟨z1,z2⟩
  ·exact .inl z
  ·exact .inr (.inl z)
  ·exact .inr (.inr ⟨m,mn,.inl z⟩)
  ·obtain⟨_,_,_,q⟩:=Y.κp X z1
   exact .inr (.inr ⟨W.ρ m,q,.inr z2⟩)
end
end Mine
namespace Mine
section
variable {h h' h₀:Hp}{W W1:WS}{es es':List (Int×V)}{fs:List (Nat×V)}{τ δ:Nat}{r m s p x a:Int}{ks:List Int}{own:Nat→Prop}{Z:Hp→Prop}{Q:V→Hp→Prop}{F0:F}{k:Int}
noncomputable def fillW (f p:Int) (κ ε l e':Nat) (a w t s0 s1:Int) (v1 v2 v3 v4:V):List (Nat×V):=
 putF 9 (.ref e') (putF 11 v4 (putF 20 v3 (putF 24 v2 (putF 6 v1 (putF (if 1-a=0 then 27 else 10) (.int t) (putF (if a=0 then 27 else 10) (.int w) (putF 10 (.int s1) (putF 27 (.int s0) (newWin f 0 p κ ε l)))))))))
theorem fill_wf {f:Int}{κ ε l e':Nat}{w t s0 s1:Int}{v1 v2 v3 v4:V}(ha:a=0∨a=1) (hκ:W.κ f=κ) (hε:W.ε f=e') (h0:W.σ f a=w) (h1:W.σ f (1-a)=t) (hπ:∀y,W.π f y=0):Wf W f 0 p (fillW f p κ ε l e' a w t s0 s1 v1 v2 v3 v4):=by
 rcases ha with rfl | rfl
 ·have h1:W.σ f 1=t:=h1
  refine⟨Nat.le_refl 16,rfl,rfl,rfl,by rw[hκ];rfl,by rw[hπ];rfl,by rw[hπ];rfl,by rw[h0];rfl,by rw[h1];rfl,by rw[hε];rfl,⟨v1,v2,v3,v4,rfl,rfl,rfl,rfl⟩,fun i hi=>none29 hi rfl⟩
 ·have h1:W.σ f 0=t:=h1
  refine⟨Nat.le_refl 16,rfl,rfl,rfl,by rw[hκ];rfl,by rw[hπ];rfl,by rw[hπ];rfl,by rw[h1];rfl,by rw[h0];rfl,by rw[hε];rfl,⟨v1,v2,v3,v4,rfl,rfl,rfl,rfl⟩,fun i hi=>none29 hi rfl⟩
theorem call38 {n w:Nat}{fl:List (Nat×V)}{v1 v2 v3 v4:V}(g:h[w]?=some (.inst 0 fl)) (h1:findF 6 fl=some v1) (h2:findF 24 fl=some v2) (h3:findF 20 fl=some v3) (h4:findF 11 fl=some v4) (x:∀t h',h.length≤t→h'[t]?=some (.tup [v1,v2,v3,v4])→Ro h h'→Q (.ref t) h'):callP prog (n+1) 38 [.ref w] h Q Z:=by
 refine c38 ?_
 refine w_attr g h1 ?_
 refine w_attr g h2 ?_
 refine w_attr g h3 ?_
 refine w_attr g h4 ?_
 exact w_tup x
theorem call39 {n w t:Nat}{fl:List (Nat×V)}{v1 v2 v3 v4:V}(g:h[w]?=some (.inst 0 fl)) (hl:fl.length≤20) (hw:w≠0) (gt:h[t]?=some (.tup [v1,v2,v3,v4])) (x:∀h',h'[w]?=some (.inst 0 (putF 11 v4 (putF 20 v3 (putF 24 v2 (putF 6 v1 fl)))))→Ch (fun i=>i=w) h h'→Q .none h'):callP prog (n+1) 39 [.ref w,.ref t] h Q Z:=by
 have l1:fl.length<21:=Nat.lt_succ_of_le hl
 have l2:=putF_lt (y:=6) (w:=v1) l1
 have l3:=putF_lt (y:=24) (w:=v2) l2
 have l4:=putF_lt (y:=20) (w:=v3) l3
 refine c39 ?_
 refine w_tg gt rfl ?_
 refine w_set g (Nat.lt_trans l1 (by simp)) hw fun h1 g1 o1=>?_
 refine w_set g1 (Nat.lt_trans l2 (by decide)) hw fun h2 g2 o2=>?_
 refine w_set g2 (Nat.lt_trans l3 (by simp)) hw fun h3 g3 o3=>?_
 refine w_set g3 (Nat.lt_trans l4 (by simp)) hw fun h4 g4 o4=>?_
 exact x h4 g4 (o1.trans (o2.trans (o3.trans o4)))
noncomputable def f18U:List I:=[.var 0,.attr 28,.var 7,.item,.attr 7,.st 10,.var 10,.look 4,.var 1,.meth 4 1,.st 11,.var 10,.look 3,.var 4,.br [.var 11] [.var 11,.push (.int 1),.bin .add],.var 9,.attr 18,.meth 3 2,.pop,.var 0,.var 1,.var 3,.var 5,.call 8 4,.pop,.var 0,.var 7,.call 19 2,.pop,.var 0,.call 9 1,.pop,.var 9,.attr 18,.ret]
noncomputable def f18T:List I:=.var 0::.attr 28::.var 0::.var 1::.call 2 2::.push (.int 0)::.item::.item::.st 8::.var 0::.look 29::.push (.int 0)::.var 7::.meth 29 2::.st 9::.var 8::.attr 27::.var 8::.attr 10::.tup 2::.unt 2::.var 9::.sattr 27::.var 9::.sattr 10::.var 9::.look 32::.var 3::.var 6::.meth 32 2::.pop::.var 9::.look 32::.push (.int 1)::.var 3::.bin .sub::.var 0::.attr 28::.var 1::.item::.look 35::.push (.int 1)::.var 3::.bin .sub::.meth 35 1::.meth 32 2::.pop::.var 9::.look 33::.var 8::.look 34::.meth 34 0::.meth 33 1::.pop::.var 8::.attr 9::.bi .list 1::.var 9::.sattr 9::f18U
theorem fill18 {n:Nat}{sv:V}{hd:Bool}{old new p:Int}{P:PP}{K:Kt}(X:Wx h τ δ fs es W F0 k) (hm:(m,(0:Int),F.nil)∈F0.nodes) (ha:a=0∨a=1)
  (hN:∀h' w κf εf l e' v1 v2 v3 v4,h.length≤w→w<κf→κf<e'→h'[w]?=some (.inst 0 (fillW (k+1) p κf εf l e' a new (W.σ m (1-a)) (W.σ m 0) (W.σ m 1) v1 v2 v3 v4))→h'[κf]?=some (.list [])→h'[e']?=some (.list [])→h'[τ]?=some (.inst 1 (putF 13 (.int (k+1)) fs))→h'[δ]?=some (.dictI (putK (k+1) (.ref w) es))→Ch (fun i=>i=τ∨i=δ) h h'→
   go (cn prog (n+3)) P K f18U (fc (.ref τ) (fc (.int m) (fc sv (fc (.int a) (fc (.bool hd) (fc (.int old) (fc (.int new) (fc (.int p) (fc (.ref (W.ω m)) (fc (.ref w) (fz 2))))))))))) h' []) :
  go (cn prog (n+3)) P K f18T (fc (.ref τ) (fc (.int m) (fc sv (fc (.int a) (fc (.bool hd) (fc (.int old) (fc (.int new) (fc (.int p) (fz 4))))))))) h []:=by
 have wm:Wn h es W m 0 (W.ρ m) []:=X.wn hm
 have ha':1-a=0∨1-a=1:=by lia
 have tt:=X.tt
 have el:=X.el
 have few:=X.few
 have tdm:=X.td wm
 have mb:m≠k+1:=fun e=>X.nf (e▸nodes_num hm)
 refine w_attr tt.inst tt.win ?_
 refine call2 (n:=n+2) (kd:=.nil) tt ⟨⟨_,wm⟩,trivial,trivial⟩ ⟨⟨fun J=>rfl,fun J=>rfl⟩,trivial,trivial⟩ (by decide) fun i2 h1 J g ro=>?_
 have X1:=X.ro ro
 have tt1:=X1.tt
 have wm1:Wn h1 es W m 0 (W.ρ m) []:=X1.wn hm
 have g:h1[i2]?=some (.list [.int m]):=g
 refine w_ix0 g ?_
 refine w_dk tt1.dict wm1.dk ?_
 refine w_meth tt1.inst (tt1.meth 29 (by decide)) rfl ?_
 refine call41 (n:=n+1) tt1 X.last X.tz (by lia) fun w κf εf l h2 c1 c2 c3 c4 c5 c6 c7 c8 ch2=>?_
 have c1:=Nat.le_trans ro.len c1
 have lw:=wm.lts
 have lτ:=lt_of_get tt.inst
 have lδ:=lt_of_get tt.dict
 have nw:∀{i},i<h.length→i≠w:=fun hi=>Nat.ne_of_lt (Nat.lt_of_lt_of_le hi c1)
 have wz:w≠0:=Ne.symm (nw (Nat.lt_of_le_of_lt (Nat.zero_le _) lτ))
 obtain⟨fl,w1,w2⟩:=wm1.inst
 obtain⟨v1,v2,v3,v4,q1,q2,q3,q4⟩:=w2.more
 have w1_2:=ch2.keep _ _ w1 (.inl fun z=>z.elim tdm.1.1 tdm.1.2)
 have wm2:Wn h2 (putK (k+1) (.ref w) es) W m 0 (W.ρ m) []:=wm1.to ch2 (fun z=>z.elim tdm.1.1 tdm.1.2) (fun z=>z.elim tdm.2.1.1 tdm.2.1.2) (fun z=>z.elim tdm.2.2.1 tdm.2.2.2) (by rw[findK_put,if_neg mb]) ⟨rfl,rfl,rfl,rfl,fun J=>rfl,fun J=>rfl⟩
 have t2:Tt h2 τ δ (putF 13 (.int (k+1)) fs) (putK (k+1) (.ref w) es) F0.head:=Tt.fresh tt1 X.last c7 c8
 refine w_attr w1_2 w2.wid ?_
 refine w_attr w1_2 w2.hgt ?_
 refine w_tup fun t h3 J gt o3=>?_
 refine w_tg gt rfl ?_
 refine w_set (o3.get c4) (show 16<100 by decide) wz fun h4 g4 o4=>?_
 refine w_set g4 (show 16<100 by decide) wz fun h5 g5 o5=>?_
 refine w_meth g5 rfl rfl ?_
 refine call36 g5 (Nat.le_refl 16) wz fun h6 g6 o6=>?_
 have ch26:=(Ro.any o3).trans (o4.trans (o5.trans o6))
 have f32:findF 32 (putF (if a=0 then 27 else 10) (.int new) (putF 10 (.int (W.σ m 1)) (putF 27 (.int (W.σ m 0)) (newWin (k+1) 0 p κf εf l))))=none:=by rcases ha with rfl | rfl<;>rfl
 have l6:(putF (if a=0 then 27 else 10) (.int new) (putF 10 (.int (W.σ m 1)) (putF 27 (.int (W.σ m 0)) (newWin (k+1) 0 p κf εf l)))).length≤16:=by rcases ha with rfl | rfl<;>exact Nat.le_refl 16
 refine w_meth g6 f32 rfl ?_
 refine w_ok ?_
 have t6:Tt h6 τ δ (putF 13 (.int (k+1)) fs) (putK (k+1) (.ref w) es) F0.head:=t2.ch ch26 (nw lτ) (nw lδ)
 have wm6:Wn h6 (putK (k+1) (.ref w) es) W m 0 (W.ρ m) []:=wm2.to ch26 (nw lw.1) (nw lw.2.1) (nw lw.2.2) rfl ⟨rfl,rfl,rfl,rfl,fun J=>rfl,fun J=>rfl⟩
 have x1:=ch26.ne w1_2 (nw lw.1)
 refine w_attr t6.inst t6.win ?_
 refine w_dk t6.dict wm6.dk ?_
 refine w_meth x1 (w2.meth 35 (by simp)) rfl ?_
 refine w_ok ?_
 refine call35 wm6 ha' ?_
 refine call36 g6 l6 wz fun h7 g7 o7=>?_
 have f7:findF 33 (putF (if 1-a=0 then 27 else 10) (.int (W.σ m (1-a))) (putF (if a=0 then 27 else 10) (.int new) (putF 10 (.int (W.σ m 1)) (putF 27 (.int (W.σ m 0)) (newWin (k+1) 0 p κf εf l)))))=none:=by rcases ha with rfl | rfl<;>rfl
 have l7:(putF (if 1-a=0 then 27 else 10) (.int (W.σ m (1-a))) (putF (if a=0 then 27 else 10) (.int new) (putF 10 (.int (W.σ m 1)) (putF 27 (.int (W.σ m 0)) (newWin (k+1) 0 p κf εf l))))).length≤16:=by rcases ha with rfl | rfl<;>exact Nat.le_refl 16
 refine w_meth g7 f7 rfl ?_
 have x7:=o7.ne x1 (nw lw.1)
 refine w_meth x7 (w2.meth 34 (by simp)) rfl ?_
 refine call38 x7 q1 q2 q3 q4 fun t8 h8 J g8 o8=>?_
 refine call39 (o8.get g7) (Nat.le_trans l7 (by simp)) wz g8 fun h9 g9 o9=>?_
 have ch79:=(Ro.any o8).trans o9
 have ch29:=ch26.trans (o7.trans ch79)
 have ear9:h9[W.ε m]?=some (.list []):=ch29.ne wm2.ear (nw lw.2.2)
 refine w_attr (ch79.ne x7 (nw lw.1)) w2.ear ?_
 refine w_tol ear9 (Nat.zero_le _) fun e' h10 le ge o10=>?_
 have l9:=putF_lt (y:=11) (w:=v4) (putF_lt (y:=20) (w:=v3) (putF_lt (y:=24) (w:=v2) (putF_lt (y:=6) (w:=v1) (Nat.lt_succ_of_le l7))))
 refine w_set (o10.get g9) (Nat.lt_trans l9 (by simp)) wz fun h11 g11 o11=>?_
 have ch211:=ch29.trans ((Ro.any o10).trans o11)
 have el8:κf<e':=Nat.lt_of_lt_of_le (lt_of_get c5) (Nat.le_trans ch29.len le)
 exact hN h11 w κf εf l e' v1 v2 v3 v4 c1 c2 el8 g11 (ch211.ne c5 (Nat.ne_of_gt c2)) (o11.ne ge (Nat.ne_of_gt (Nat.lt_trans c2 el8))) (ch211.ne c7 (nw lτ)) (ch211.ne c8 (nw lδ)) (((Ro.any ro).trans ch2).loc ch211 fun i hi e=>absurd e (nw hi))
end
end Mine
namespace Mine
section
variable {h h' h₀:Hp}{W W1:WS}{es es':List (Int×V)}{fs:List (Nat×V)}{τ δ:Nat}{r m s p x a:Int}{ks:List Int}{own:Nat→Prop}{Z:Hp→Prop}{Q:V→Hp→Prop}{F0:F}{k:Int}
theorem put_fwd {m:Int}{G:F}:∀{f:F},f.nums.Nodup→(m,(0:Int),F.nil)∈f.nodes→(∀y∈G.nodes,y∈(f.put m G).nodes)∧∀y∈f.nodes,y.1≠m→(y.1,y.2.1,y.2.2.put m G)∈(f.put m G).nodes:=by
 intro J1
 induction J1 with
 | nil=>
  intro J h
  contradiction
 | node x s k r J8 J9=>
  intro hn h
  have J:=nd_kids hn;have nk:=J.1;have nr:=J.2
  have same:∀{g:F},m∉g.nums→∀z∈g.nodes,(z.1,z.2.1,z.2.2.put m G)∈g.nodes:=fun{g} hg z hz=>by
   have:m∉z.2.2.nums:=fun q=>by
    obtain⟨s1,k1,h1⟩:=num_node q
    exact hg (nodes_num (nodes_sub hz _ h1))
   rw[put_out this];exact hz
  rcases leaf_split hn h with⟨rfl,rfl,rfl,hr⟩ | ⟨hx,hk,hr⟩ | ⟨hx,hk,hr⟩
  ·simp only[F.put0,F.put1,if_true,app_nodes,List.mem_append]
   refine⟨fun y hy=>.inl hy,fun y hy ne=>.inr ?_⟩
   simp only[F.nodes0,F.nodes1,List.nil_append,List.mem_cons]at hy
   rcases hy with rfl | hy
   ·exact absurd rfl ne
   ·exact same hr y hy
  ·obtain⟨i1,i2⟩:=J8 nk hk
   simp only[F.put0,F.put1,if_neg hx,F.nodes0,F.nodes1,List.mem_cons,List.mem_append]
   rw[put_out hr]
   refine⟨fun y hy=>.inr (.inl (i1 y hy)),fun y hy ne=>?_⟩
   rcases hy with rfl | hy | hy
   ·exact .inl rfl
   ·exact .inr (.inl (i2 y hy ne))
   ·exact .inr (.inr (same hr y hy))
  ·obtain⟨i1,i2⟩:=J9 nr hr
   simp only[F.put0,F.put1,if_neg hx,F.nodes0,F.nodes1,List.mem_cons,List.mem_append]
   rw[put_out hk]
   refine⟨fun y hy=>.inr (.inr (i1 y hy)),fun y hy ne=>?_⟩
   rcases hy with rfl | hy | hy
   ·exact .inl (by rw[put_out hk])
   ·exact .inr (.inl (same hk y hy))
   ·exact .inr (.inr (i2 y hy ne))
theorem Alt.root {q:Int}:∀{g:F},Alt q g→∀c∈g.roots,∃s k,(c,s,k)∈g.nodes∧s≠q:=by
 intro J1
 induction J1 with
 | nil=>
  intro J c h
  contradiction
 | node x s k r J8 J9=>
  rintro⟨a,b,d⟩ c h
  simp only[F.roots0,F.roots1,List.mem_cons]at h
  rcases h with rfl | h
  ·exact⟨s,k,by simp[F.nodes0,F.nodes1],a⟩
  ·obtain⟨s1,k1,h1,h2⟩:=J9 d c h
   exact⟨s1,k1,by simp[F.nodes0,F.nodes1,h1],h2⟩
theorem pair_ins {l:List Int}{i:Nat}{f:Int}{hd:Bool}(h:l[i]?=some m):l.take (if hd then i else i+1)++f::l.drop (if hd then i else i+1)=l.take i++((pairF hd f m).roots++l.drop (i+1)):=by
 have hl:=(List.getElem?_eq_some_iff.mp h).1
 have hg:=(List.getElem?_eq_some_iff.mp h).2
 cases hd with
 | true=>
  simp only[if_true,pairF,F.roots0,F.roots1,List.cons_append,List.nil_append]
  rw[List.drop_eq_getElem_cons hl,hg]
 | false=>
  simp only[Bool.false_eq_true,if_false,pairF,F.roots0,F.roots1,List.cons_append,List.nil_append]
  rw[List.take_succ,h]
  simp
noncomputable def insW (W:WS) (w κf e':Nat) (m a new f p:Int):WS:={ σ:=fun x y=>if x=f then(if y=a then new else W.σ m y)else W.σ x y,π:=fun x y=>if x=f then 0 else W.π x y,ω:=fun x=>if x=f then w else W.ω x,κ:=fun x=>if x=f then κf else W.κ x,ε:=fun x=>if x=f then e' else W.ε x,ρ:=insR W.ρ f p }
section
variable {w κf e':Nat}{new f p:Int}
theorem insW_f:(insW W w κf e' m a new f p).ω f=w∧(insW W w κf e' m a new f p).κ f=κf∧(insW W w κf e' m a new f p).ε f=e'∧(insW W w κf e' m a new f p).ρ f=p∧(∀y,(insW W w κf e' m a new f p).σ f y=if y=a then new else W.σ m y)∧∀y,(insW W w κf e' m a new f p).π f y=0:=⟨if_pos rfl,if_pos rfl,if_pos rfl,if_pos rfl,fun J=>if_pos rfl,fun J=>if_pos rfl⟩
theorem insW_o {x:Int}(h:x≠f):Ag W (insW W w κf e' m a new f p) x:=⟨if_neg h,if_neg h,if_neg h,if_neg h,fun J=>if_neg h,fun J=>if_neg h⟩
end
theorem ins_vw {w κf e' i l εf:Nat}{new sp p:Int}{K:F}{hd:Bool}{v1 v2 v3 v4:V}(X:Wx h τ δ fs es W F0 k) (hm:(m,(0:Int),F.nil)∈F0.nodes) (hp:(p,sp,K)∈F0.nodes) (hi:K.roots[i]?=some m) (ha:a=0∨a=1) (rm:W.ρ m=p) (pm:p≠m)
  (g:h'[w]?=some (.inst 0 (fillW (k+1) p κf εf l e' a new (W.σ m (1-a)) (W.σ m 0) (W.σ m 1) v1 v2 v3 v4))) (ck:h'[κf]?=some (.list [])) (ce:h'[e']?=some (.list [])) (k2:h'[W.κ p]?=some (.list ((K.put m (pairF hd (k+1) m)).roots.map V.int))) (ch:Ch (fun i=>i=τ∨i=δ∨i=W.κ p) h h') :
  Vw h' (putK (k+1) (.ref w) es) (insW W w κf e' m a new (k+1) p) (F0.put m (pairF hd (k+1) m)):=by
 have bn:k+1∉F0.nums:=X.nf
 have mn:=nodes_num hm
 have pn:p∈F0.nums:=nodes_num hp
 have nb:∀{x},x∈F0.nums→x≠k+1:=fun hx e=>bn (e▸hx)
 have wp:=X.wn hp
 have fk:∀{x},x∈F0.nums→findK x (putK (k+1) (.ref w) es)=findK x es:=fun hx=>by rw[findK_put,if_neg (nb hx)]
 have ap:∀{y s q ks},y∈F0.nums→Wn h es W y s q ks→¬(W.ω y=τ∨W.ω y=δ∨W.ω y=W.κ p)∧¬(W.ε y=τ∨W.ε y=δ∨W.ε y=W.κ p)∧(y≠p→¬(W.κ y=τ∨W.κ y=δ∨W.κ y=W.κ p)):=fun{y s q ks} hy wy=>by
  have td:=X.td wy
  exact⟨fun z=>z.elim td.1.1 fun z=>z.elim td.1.2 (wy.ne_list wp.kids),fun z=>z.elim td.2.2.1 fun z=>z.elim td.2.2.2 fun z=>X.ke p pn y hy z.symm,fun ne z=>z.elim td.2.1.1 fun z=>z.elim td.2.1.2 fun z=>ne (X.kk y hy p pn z)⟩
 have J:=insW_f (W:=W) (w:=w) (κf:=κf) (e':=e') (m:=m) (a:=a) (new:=new) (f:=k+1) (p:=p);have bω:=J.1;have bκ:=J.2.1;have bε:=J.2.2.1;have bρ:=J.2.2.2.1;have bσ:=J.2.2.2.2.1;have bπ:=J.2.2.2.2.2
 have ag:∀{x},x∈F0.nums→Ag W (insW W w κf e' m a new (k+1) p) x:=fun hx=>insW_o (nb hx)
 generalize insW W w κf e' m a new (k+1) p=W1 at bω bκ bε bρ bσ bπ ag
 rw[Vw_iff]
 intro y0 hy0
 rcases put_nodes X.nd hm y0 hy0 with hy | ⟨y,hy,ne,ey0⟩
 ·rcases(pair_nodes y0).mp hy with e | e
  ·rw[e]
   have wm:Wn h es W m 0 (W.ρ m) []:=X.wn hm
   have q:=ap mn wm
   exact⟨_,wm.to ch q.1 (q.2.2 (Ne.symm pm)) q.2.1 (fk mn) (ag mn)⟩
  ·rw[e]
   refine⟨p,⟨_,by rw[bω];exact g,fill_wf ha bκ bε ((bσ a).trans (if_pos rfl)) ((bσ (1-a)).trans (if_neg (by lia))) bπ⟩,by rw[bκ];exact ck,by rw[bε];exact ce,?_,bρ.symm⟩
   rw[bω,findK_put,if_pos rfl]
 ·have yn:=nodes_num hy
  have wy:=X.wn hy
  have q:=ap yn wy
  have hy':(y.1,y.2.1,y.2.2)∈F0.nodes:=hy
  rw[ey0]
  by_cases hmy:m∈y.2.2.roots
  ·have ey:=(parent X hy hmy).trans rm
   rw[ey]at hy'
   refine⟨_,wy.to' (ks':=(y.2.2.put m (pairF hd (k+1) m)).roots) ch q.1 ?_ q.2.1 (fk yn) (ag yn)⟩
   rw[(node_unique X.nd hy' hp).2,ey]
   exact k2
  ·refine⟨W.ρ y.1,?_⟩
   show Wn h' _ W1 y.1 y.2.1 _ (y.2.2.put m (pairF hd (k+1) m)).roots
   rw[put_roots' hmy]
   refine wy.to ch q.1 (q.2.2 fun e=>?_) q.2.1 (fk yn) (ag yn)
   rw[e]at hy'
   rw[(node_unique X.nd hy' hp).2]at hmy
   exact hmy (List.mem_of_getElem? hi)
noncomputable def WS.kd (W:WS) (p:Int) (j:Nat):WS:={ W with κ:=fun x=>if x=p then j else W.κ x }
theorem Vw.rekid {p sp:Int}{K F1:F}{j:Nat}{fp:List (Nat×V)}(v:Vw h es W F1) (nd:F1.nums.Nodup) (hp:(p,sp,K)∈F1.nodes) (gp:h[W.ω p]?=some (.inst 0 fp)) (p5:h'[W.ω p]?=some (.inst 0 (putF 7 (.ref j) fp))) (j5:h'[j]?=some (.list (K.roots.map V.int))) (ch:Ch (fun i=>i=W.ω p) h h'):Vw h' es (W.kd p j) F1:=by
 obtain⟨q3,wp⟩:=Vw_iff.mp v _ hp
 have wp:Wn h es W p sp q3 K.roots:=wp
 obtain⟨fp',a3,b3⟩:=wp.inst
 have ef:fp'=fp:=by rw[gp]at a3;cases a3;rfl
 rw[ef]at b3
 rw[Vw_iff]
 intro y hy
 obtain⟨q,wy⟩:=Vw_iff.mp v y hy
 have kn:=wy.kne wp
 by_cases e:y.1=p
 ·have hy':(y.1,y.2.1,y.2.2)∈F1.nodes:=hy
  rw[e]at hy'
  have J:=node_unique nd hy' hp;have e1:=J.1;have e2:=J.2
  rw[e1,e2,e]
  refine⟨q3,⟨_,p5,b3.kid' (if_pos rfl)⟩,?_,ch.ne wp.ear (wp.kne wp).2,wp.dk,wp.pr⟩
  show h'[if p=p then j else W.κ p]?=_
  rw[if_pos rfl];exact j5
 ·exact⟨q,wy.to ch (fun z=>e (wy.inj wp z)) kn.1 kn.2 rfl ⟨rfl,if_neg e,rfl,rfl,fun J=>rfl,fun J=>rfl⟩⟩
noncomputable def f18I:List I:=[.var 9,.attr 18,.meth 3 2,.pop,.var 0,.var 1,.var 3,.var 5,.call 8 4,.pop,.var 0,.var 7,.call 19 2,.pop,.var 0,.call 9 1,.pop,.var 9,.attr 18,.ret]
theorem tail18 {n i:Nat}{sv:V}{hd:Bool}{new sp p:Int}{K:F}(X:Wx h τ δ fs es W F0 k) (hm:(m,(0:Int),F.nil)∈F0.nodes) (hp:(p,sp,K)∈F0.nodes) (hi:K.roots[i]?=some m) (hs:sp≠0) (ha:a=0∨a=1) (few:F0.count+1<100) (ft:lo a≤W.σ m a∧W.σ m a≤1000) (h1:lo a≤W.σ m a-new) (h2:0≤new)
  (hT:∀h' fs' es' W',Wx h' τ δ fs' es' W' (F0.put m (pairF hd (k+1) m)) (k+1)→W'.σ=insS W.σ m a new (k+1)→W'.ρ=insR W.ρ (k+1) p→PlS W'.σ W'.π (F0.put m (pairF hd (k+1) m)) [(0,0)]→Ch (OwnT τ δ W F0) h h'→NewL h W W' F0 (F0.put m (pairF hd (k+1) m))→Q (.int (k+1)) h') :
  go (cn prog (n+3)) (pF Q Z) (kF Q) f18T (fc (.ref τ) (fc (.int m) (fc sv (fc (.int a) (fc (.bool hd) (fc (.int (W.σ m a-new)) (fc (.int new) (fc (.int p) (fz 4))))))))) h []:=by
 refine fill18 X hm ha fun h1 w κf εf l e' v1 v2 v3 v4 c1 c2 c3 g ck ce ct cd ch=>?_
 have mn:=nodes_num hm
 have wm:Wn h es W m 0 (W.ρ m) []:=X.wn hm
 have wp:Wn h es W p sp (W.ρ p) K.roots:=X.wn hp
 have pn:p∈F0.nums:=nodes_num hp
 have tz:=X.tz
 have bn:k+1∉F0.nums:=X.nf
 have nb:∀{x},x∈F0.nums→x≠k+1:=fun hx e=>bn (e▸hx)
 have rm:W.ρ m=p:=(Rho.at X.rho).2 _ hp m (List.mem_of_getElem? hi)
 have ndK:(p::(K.nums++[])).Nodup:=F.nd_nodes X.nd _ hp
 rw[List.append_nil,List.nodup_cons]at ndK
 have pm:p≠m:=fun e=>ndK.1 (e▸roots_sub.subset (List.mem_of_getElem? hi))
 have cK:K.count+0+1≤F0.count:=F.count_nodes _ hp
 have rK:=F.roots_length K
 have il:=(List.getElem?_eq_some_iff.mp hi).1
 have lwp:=wp.lts
 have tdp:=X.td wp
 have lτ:=lt_of_get X.tt.inst
 have nw:∀{i},i<h.length→i≠w:=fun hi=>Nat.ne_of_lt (Nat.lt_of_lt_of_le hi c1)
 have t1:Tt h1 τ δ (putF 13 (.int (k+1)) fs) (putK (k+1) (.ref w) es) F0.head:=Tt.fresh X.tt X.last ct cd
 obtain⟨fp,p1,p2⟩:=wp.inst
 have p1':=ch.keep _ _ p1 (.inl fun z=>z.elim tdp.1.1 tdp.1.2)
 have kids1:=ch.keep _ _ wp.kids (.inl fun z=>z.elim tdp.2.1.1 tdp.2.1.2)
 have kz:=X.kz p pn
 have dp:findK p (putK (k+1) (.ref w) es)=some (.ref (W.ω p)):=by rw[findK_put,if_neg (nb pn)];exact wp.dk
 refine w_attr t1.inst t1.win ?_
 refine w_dk t1.dict dp ?_
 refine w_attr p1' p2.kids ?_
 refine w_ml kids1 kz ?_ rfl
 refine w_idx kids1 (intsOf_map _) (idxOf_nth (ndK.2.sublist roots_sub) hi) ?_
 refine w_ml kids1 kz ?_ rfl
 have ins:go (cn prog (n+3)) (pF Q Z) (kF Q) f18I (fc (.ref τ) (fc (.int m) (fc sv (fc (.int a) (fc (.bool hd) (fc (.int (W.σ m a-new)) (fc (.int new) (fc (.int p) (fc (.ref (W.ω m)) (fc (.ref w) (fc (.ref (W.κ p)) (fc (.int i) (fz 0))))))))))))) h1 [.int ((if hd then i else i+1:Nat):Int),.none,.ref (W.κ p)]:=by
  have f18:findF 18 (fillW (k+1) p κf εf l e' a new (W.σ m (1-a)) (W.σ m 0) (W.σ m 1) v1 v2 v3 v4)=some (.int (k+1)):=by rcases ha with rfl | rfl<;>rfl
  refine w_attr g f18 ?_
  refine w_ins kids1 (by rw[List.length_map];split<;>lia) (by rw[lim_eq,List.length_map];lia) fun h2 k2 ch2=>?_
  have lst:List.take (if hd=true then i else i+1) (K.roots.map V.int)++V.int (k+1)::List.drop (if hd=true then i else i+1) (K.roots.map V.int)=((K.put m (pairF hd (k+1) m)).roots).map V.int:=by
   rw[put_roots ndK.2 hi,← pair_ins hi]
   simp[List.map_take,List.map_drop]
  rw[lst]at k2
  have n2:∀{i},h.length≤i→i≠W.κ p:=fun hi=>Nat.ne_of_gt (Nat.lt_of_lt_of_le lwp.2.1 hi)
  have cκ:=Nat.le_trans c1 (Nat.le_of_lt c2)
  have ch02:Ch (fun i=>i=τ∨i=δ∨i=W.κ p) h h2:=(ch.mem fun J z=>z.elim .inl fun z=>.inr (.inl z)).trans (ch2.mem fun J z=>.inr (.inr z))
  have vw2:=ins_vw X hm hp hi ha rm pm (ch2.ne g (n2 c1)) (ch2.ne ck (n2 cκ)) (ch2.ne ce (n2 (Nat.le_trans cκ (Nat.le_of_lt c3)))) k2 ch02
  have t2:Tt h2 τ δ (putF 13 (.int (k+1)) fs) (putK (k+1) (.ref w) es) F0.head:=t1.ch ch2 (Ne.symm tdp.2.1.1) (Ne.symm tdp.2.1.2)
  have J:=insW_f (W:=W) (w:=w) (κf:=κf) (e':=e') (m:=m) (a:=a) (new:=new) (f:=k+1) (p:=p);have bω:=J.1;have bκ:=J.2.1;have bε:=J.2.2.1;have bρ:=J.2.2.2.1;have bσ:=J.2.2.2.2.1;have bπ:=J.2.2.2.2.2
  have ag:∀{x},x∈F0.nums→Ag W (insW W w κf e' m a new (k+1) p) x:=fun hx=>insW_o (nb hx)
  have agσ:∀{x},x≠k+1→∀y,(insW W w κf e' m a new (k+1) p).σ x y=W.σ x y:=fun hx=>(insW_o hx).σ
  have iρ:(insW W w κf e' m a new (k+1) p).ρ=insR W.ρ (k+1) p:=rfl
  generalize insW W w κf e' m a new (k+1) p=W1 at vw2 bω bκ bε bρ bσ bπ ag agσ iρ
  have fw:=put_fwd (G:=pairF hd (k+1) m) X.nd hm
  have pmm:(F0.put m (pairF hd (k+1) m)).nums.Perm ([k+1]++F0.nums):=put_perm (G:=pairF hd (k+1) m) (new:=[k+1]) pair_nums X.nd hm
  have inF:∀{x},x∈(F0.put m (pairF hd (k+1) m)).nums→x=k+1∨x∈F0.nums:=fun hx=>List.mem_cons.mp (pmm.subset hx)
  have nd1:(F0.put m (pairF hd (k+1) m)).nums.Nodup:=pmm.nodup_iff.mpr (List.nodup_cons.mpr ⟨bn,X.nd⟩)
  have alt1:Alt 9 (F0.put m (pairF hd (k+1) m)):=by
   refine put_alt X.alt (fun z=>pair_alt (by decide)) (fun y hy hmy=>?_) X.nd
   have hy':(y.1,y.2.1,y.2.2)∈F0.nodes:=hy
   rw[(parent X hy hmy).trans rm]at hy'
   rw[(node_unique X.nd hy' hp).1]
   exact pair_alt (Ne.symm hs)
  have rho1:Rho W1.ρ 0 (F0.put m (pairF hd (k+1) m)):=put_rho (pair_rho (ag mn).ρ (bρ.trans rm.symm)) X.rho (fun x hx ne=>(ag hx).ρ) X.nd
  have ct1:(F0.put m (pairF hd (k+1) m)).count=F0.count+1:=by
   have:=pmm.length_eq
   rw[List.length_append,F.nums_length,F.nums_length]at this
   rw[this,Nat.add_comm];rfl
  obtain⟨l0,z0⟩:=X.z0
  have z2:h2[0]?=some (.list l0):=ch02.keep _ _ z0 (.inl fun z=>z.elim (fun z=>tz.1 z.symm) fun z=>z.elim (fun z=>tz.2 z.symm) fun z=>kz z.symm)
  have mF1:(m,(0:Int),F.nil)∈(F0.put m (pairF hd (k+1) m)).nodes:=fw.1 _ ((pair_nodes _).mpr (.inl rfl))
  have one:∀y∈(leafF m).nodes,y∈(F0.put m (pairF hd (k+1) m)).nodes:=fun y hy=>(List.mem_singleton.mp hy)▸mF1
  have vm2:Vw h2 (putK (k+1) (.ref w) es) W1 (leafF m):=vw2.sub one
  have lem:least1 a m 0 .nil=lo a:=rfl
  have s1m:W1.σ m a=W.σ m a:=(ag mn).σ a
  refine call8 (n:=n) (kd:=.nil) ha t2 vm2 ⟨⟨fun J=>rfl,fun J=>rfl⟩,trivial,trivial⟩ (List.nodup_cons.mpr ⟨List.not_mem_nil,.nil⟩) ⟨by rw[s1m];exact ft,trivial,trivial⟩ (by rw[lem];exact‹lo a≤W.σ m a-new›) (by lia) (by decide) z2 fun h3 σ3 ch3 vl3 set3 out3=>?_
  have v3:Vw h3 (putK (k+1) (.ref w) es) (W1.sz σ3) (F0.put m (pairF hd (k+1) m)):=Vw_asm (K:=leafF m) vw2 nd1 one ch3 (fun t ht=>(List.mem_singleton.mp ht)▸vl3) out3
  have eσ:σ3=insS W.σ m a new (k+1):=by
   funext x y
   by_cases xm:x=m
   ·rw[xm,insS_m (nb mn)]
    by_cases ya:y=a
    ·rw[if_pos ya,ya];exact set3.1
    ·rw[if_neg ya,set3.2.1 y ya];exact(ag mn).σ y
   ·rw[out3 x (fun z=>xm (List.mem_singleton.mp z)) y]
    by_cases xf:x=k+1
    ·rw[xf,insS_f];exact bσ y
    ·rw[insS_o xf xm]
     exact agσ xf y
  have t3:Tt h3 τ δ (putF 13 (.int (k+1)) fs) (putK (k+1) (.ref w) es) F0.head:=t2.ch ch3 (t2.apart vm2).1 (t2.apart vm2).2
  have pF1:(p,sp,K.put m (pairF hd (k+1) m))∈(F0.put m (pairF hd (k+1) m)).nodes:=fw.2 _ hp pm
  obtain⟨q3,wp3⟩:=Vw_iff.mp v3 _ pF1
  have wp3:Wn h3 (putK (k+1) (.ref w) es) (W1.sz σ3) p sp q3 (K.put m (pairF hd (k+1) m)).roots:=wp3
  obtain⟨fp3,a3,b3⟩:=wp3.inst
  have z3:h3[0]?=some (.list l0):=ch3.keep _ _ z2 (.inl (list_apart vm2 z2))
  have ctK:(K.put m (pairF hd (k+1) m)).count+0+1≤(F0.put m (pairF hd (k+1) m)).count:=F.count_nodes _ pF1
  have rlK:=F.roots_length (K.put m (pairF hd (k+1) m))
  have wp0:=wp3.ne_list z3
  refine call19 (n:=n+2) (fp:=fp3) t3 wp3 a3 wp0 (fun c hc=>?_) (by lia) fun j h5 lj j5 p5 ch35=>?_
  ·obtain⟨sc,kc,c1,c2⟩:=(alt1.at _ pF1).root c hc
   have cF:=nodes_sub pF1 _ c1
   obtain⟨qc,wc⟩:=Vw_iff.mp v3 _ cF
   have eq:qc=p:=wc.pr.trans ((Rho.at rho1).2 _ pF1 c hc)
   exact⟨wc.ne_list z3,sc,_,eq▸wc,c2⟩
  have vw5:=v3.rekid nd1 pF1 a3 p5 j5 ch35
  obtain⟨x0,e0⟩:=X.one
  have x0m:x0.1≠m:=fun e=>by
   have r0:=(Rho.at X.rho).1 x0.1 (by rw[e0];exact .head _)
   rw[e,rm]at r0
   have:=X.pos p pn;lia
  have e1:F0.put m (pairF hd (k+1) m)=F.one (x0.1,x0.2.1,x0.2.2.put m (pairF hd (k+1) m)):=by rw[e0];simp[F.one,F.put0,F.put1,x0m]
  have hd1:(F0.put m (pairF hd (k+1) m)).head=F0.head:=by rw[e1,e0];rfl
  have t5:Tt h5 τ δ (putF 13 (.int (k+1)) fs) (putK (k+1) (.ref w) es) F0.head:=t3.ch ch35 (t3.tne wp3).1 (t3.tne wp3).2
  have hd0:F0.head=x0.1:=by rw[e0];rfl
  have z5:h5[0]?=some (.list l0):=ch35.ne z3 (Ne.symm wp0)
  have lts3:∀{x},x∈(F0.put m (pairF hd (k+1) m)).nums→W1.κ x<j∧W1.ε x<j:=fun hx=>let⟨_,_,_,wx⟩:=v3.at hx;⟨Nat.lt_of_lt_of_le wx.lts.2.1 lj,Nat.lt_of_lt_of_le wx.lts.2.2 lj⟩
  have hj:h.length≤j:=Nat.le_trans ch02.len (Nat.le_trans ch3.len lj)
  have fF1:(k+1,(0:Int),F.nil)∈(F0.put m (pairF hd (k+1) m)).nodes:=fw.1 _ ((pair_nodes _).mpr (.inr rfl))
  have c9:(x0.2.2.put m (pairF hd (k+1) m)).count<600:=by
   have c6:=ct1
   rw[e1]at c6
   have c6:(x0.2.2.put m (pairF hd (k+1) m)).count+0+1=F0.count+1:=c6
   lia
  have last:∀h6 π',Ch (Own ((W1.sz σ3).kd p j) (F0.put m (pairF hd (k+1) m))) h5 h6→Vw h6 (putK (k+1) (.ref w) es) (((W1.sz σ3).kd p j).pl π') (F0.put m (pairF hd (k+1) m))→PlS σ3 π' (F0.put m (pairF hd (k+1) m)) [(0,0)]→∃ff,h6[w]?=some (.inst 0 ff)∧findF 18 ff=some (.int (k+1))∧Q (.int (k+1)) h6:=by
   intro h6 π' ch6 vw6 pls
   have aT:=t5.apart vw5
   obtain⟨qf,wf⟩:=Vw_iff.mp vw6 _ fF1
   obtain⟨ff,af,bf⟩:=wf.inst
   have af:h6[W1.ω (k+1)]?=some (.inst 0 ff):=af
   rw[bω]at af
   refine⟨ff,af,bf.num,?_⟩
   have chT:Ch (OwnT τ δ W F0) h h6:=by
    have a3:Ch (OwnT τ δ W F0) h h3:=(ch02.mem fun i z=>z.elim .inl fun z=>.inr (z.elim .inl fun z=>.inr ⟨p,pn,.inr z⟩)).trans (ch3.mem fun i J3=>J3.elim fun x J4=>J4.elim fun hx z=>by
     rw[List.mem_singleton.mp hx,(ag mn).ω]at z
     exact .inr (.inr ⟨m,mn,.inl z⟩))
    have a5:Ch (OwnT τ δ W F0) h h5:=a3.trans (ch35.mem fun i z=>.inr (.inr ⟨p,pn,.inl (z.trans (ag pn).ω)⟩))
    refine a5.loc ch6 fun i hi J5=>J5.elim fun x J6=>J6.elim fun hx z=>?_
    rcases inF hx with e | hx
    ·rw[e]at z
     exact absurd (z.trans bω) (nw hi)
    ·exact .inr (.inr ⟨x,hx,.inl (z.trans (ag hx).ω)⟩)
   have κ2:∀{x},x≠p→(((W1.sz σ3).kd p j).pl π').κ x=W1.κ x:=fun e=>if_neg e
   have κp:(((W1.sz σ3).kd p j).pl π').κ p=j:=if_pos rfl
   have nl:NewL h W (((W1.sz σ3).kd p j).pl π') F0 (F0.put m (pairF hd (k+1) m)):=fun x hx=>by
    rcases inF hx with e | hx
    ·rw[e,κ2 (Ne.symm (nb pn)),bκ]
     exact⟨.inr cκ,.inr (by show _≤W1.ε (k+1);rw[bε];exact Nat.le_trans cκ (Nat.le_of_lt c3)),.inr (by show _≤W1.ω (k+1);rw[bω];exact c1)⟩
    ·refine⟨?_,.inl ⟨hx,(ag hx).ε⟩,.inl ⟨hx,(ag hx).ω⟩⟩
     by_cases xp:x=p
     ·rw[xp,κp];exact .inr hj
     ·rw[κ2 xp];exact .inl ⟨hx,(ag hx).κ⟩
   have lts:∀{x},x∈F0.nums→W1.κ x<h.length∧W1.ε x<h.length:=fun hx=>let⟨_,_,_,wx⟩:=X.vw.at hx;by rw[(ag hx).κ,(ag hx).ε];exact⟨wx.lts.2.1,wx.lts.2.2⟩
   refine hT h6 _ _ (((W1.sz σ3).kd p j).pl π') (X.grow pmm few (by rw[hd1];exact t5.ch ch6 aT.1 aT.2) vw6 ⟨_,e1⟩ (put_full pair_ne pair_full X.full) alt1 rho1 (by rw[findF_put,if_pos rfl]) ⟨l0,ch6.keep _ _ z5 (.inl (list_apart vw5 z5))⟩ nl (fun x hx y hy l e=>?_) fun x hx y hy l e=>?_) eσ iρ pls chT nl
   ·by_cases xp:x=p
    ·by_cases yp:y=p
     ·exact xp.trans yp.symm
     ·rw[xp,κp,κ2 yp]at e
      exact absurd (lts3 hy).1 (e▸Nat.lt_irrefl _)
    ·rw[κ2 xp]at e l
     by_cases yp:y=p
     ·rw[yp,κp]at e
      exact absurd (lts3 hx).1 (e▸Nat.lt_irrefl _)
     ·rw[κ2 yp]at e
      rcases inF hx with ex | hx
      ·rcases inF hy with ey | hy
       ·exact ex.trans ey.symm
       ·exact absurd (lts hy).1 (Nat.not_lt.mpr (e▸l))
      ·exact absurd (lts hx).1 (Nat.not_lt.mpr l)
   ·have e:(((W1.sz σ3).kd p j).pl π').κ x=W1.ε y:=e
    have l:h.length≤(((W1.sz σ3).kd p j).pl π').κ x∨h.length≤W1.ε y:=l
    by_cases xp:x=p
    ·rw[xp,κp]at e
     exact absurd (lts3 hy).2 (e▸Nat.lt_irrefl _)
    ·rw[κ2 xp]at e l
     rcases inF hx with ex | hx
     ·rw[ex,bκ]at e
      rcases inF hy with ey | hy
      ·rw[ey,bε]at e;exact absurd c3 (e▸Nat.lt_irrefl _)
      ·exact absurd (lts hy).2 (Nat.not_lt.mpr (e▸cκ))
     ·rw[← e]at l
      exact absurd (lts hx).1 (Nat.not_lt.mpr (l.elim id id))
  rw[hd0]at t5
  rw[e1]at vw5 nd1 last
  refine call9 (n:=n+1) t5 vw5 nd1 c9 z5 fun h6 π' ch6 vw6 pls J=>?_
  obtain⟨ff,af,bf,q⟩:=last h6 π' ch6 vw6 pls
  exact w_attr af bf q
 cases hd with
 | true=>exact w_tt ins
 | false=>exact w_ff (w_ok ins)
end
end Mine
namespace Mine
section
variable {h h' h₀ h1:Hp}{W W1 W2:WS}{es es':List (Int×V)}{fs:List (Nat×V)}{τ δ:Nat}{r m s p x a:Int}{ks:List Int}{own:Nat→Prop}{Z:Hp→Prop}{Q:V→Hp→Prop}{F0 F1 F2:F}{k:Int}
theorem NewL.inn (N:NewL h W W1 F0 F1) {i:Nat}(hi:i<h.length) (o:OwnT τ δ W1 F1 i):OwnT τ δ W F0 i:=
 o.imp id fun o=>o.imp id fun J7=>J7.elim fun x J8=>J8.elim fun hx z=>z.elim (fun z=>(N x hx).2.2.elim (fun q=>⟨x,q.1,.inl (z.trans q.2)⟩) fun q=>absurd hi (Nat.not_lt.mpr (z▸q))) fun z=>(N x hx).1.elim (fun q=>⟨x,q.1,.inr (z.trans q.2)⟩) fun q=>absurd hi (Nat.not_lt.mpr (z▸q))
theorem NewL.trans (N:NewL h W W1 F0 F1) (M:NewL h1 W1 W2 F1 F2) (hl:h.length≤h1.length):NewL h W W2 F0 F2:=fun x hx=>
 ⟨(M x hx).1.elim (fun q=>q.2.symm▸(N x q.1).1) fun q=>.inr (Nat.le_trans hl q),(M x hx).2.1.elim (fun q=>q.2.symm▸(N x q.1).2.1) fun q=>.inr (Nat.le_trans hl q),(M x hx).2.2.elim (fun q=>q.2.symm▸(N x q.1).2.2) fun q=>.inr (Nat.le_trans hl q)⟩
theorem NewL.le (N:NewL h1 W W1 F0 F1) (hl:h.length≤h1.length):NewL h W W1 F0 F1:=fun x hx=>⟨(N x hx).1.imp id (Nat.le_trans hl),(N x hx).2.1.imp id (Nat.le_trans hl),(N x hx).2.2.imp id (Nat.le_trans hl)⟩
theorem amt_nn {w:Int}{sz:Option Int}(l:lo a≤amt w sz):0≤amt w sz:=by
 have:(2:Int)≤lo a:=by unfold lo;split<;>decide
 lia
structure Sp (h h':Hp) (τ δ:Nat) (W W':WS) (fs':List (Nat×V)) (es':List (Int×V)) (F0 F1:F) (k':Int):Prop where
 wx:Wx h' τ δ fs' es' W' F1 k'
 pls:PlS W'.σ W'.π F1 [(0,0)]
 ch:Ch (OwnT τ δ W F0) h h'
 nw:NewL h W W' F0 F1
theorem call18j {n i:Nat}{hd:Bool}{sz:Option Int}{sp:Int}{K:F}(X:Wx h τ δ fs es W F0 k) (hm:(m,(0:Int),F.nil)∈F0.nodes) (hp:(p,sp,K)∈F0.nodes) (hi:K.roots[i]?=some m) (hs:sp≠0) (al:along sp=a) (ha:a=0∨a=1) (few:F0.count+1<100) (ft:lo a≤W.σ m a∧W.σ m a≤1000) (hsz:∀k,sz=some k→0<k)
  (hZ:∀h',(W.σ m a-amt (W.σ m a) sz<lo a∨amt (W.σ m a) sz<lo a)→Ro h h'→Z h') (hT:∀h' fs' es' W',lo a≤W.σ m a-amt (W.σ m a) sz→lo a≤amt (W.σ m a) sz→Sp h h' τ δ W W' fs' es' F0 (F0.put m (pairF hd (k+1) m)) (k+1)→W'.σ=insS W.σ m a (amt (W.σ m a) sz) (k+1)→W'.ρ=insR W.ρ (k+1) p→Q (.int (k+1)) h') :
  callP prog (n+4) 18 [.ref τ,.int m,szV sz,.int a,.bool hd] h Q Z:=by
 refine c18 ?_
 refine call16 (n:=n) ha X.tt (X.wn hm) hsz (fun t h1 ro l1 l2 gt=>?_) fun h1 ro bad=>hZ h1 bad ro
 refine w_tg gt rfl ?_
 refine call17j (n:=n+1) (X.ro ro) hm hp (List.mem_of_getElem? hi) al ?_
 exact tail18 (n:=n) (X.ro ro) hm hp hi hs ha few ft l1 (amt_nn l2) fun h' fs' es' W' w1 w2 w3 w4 w5 w6=>hT h' fs' es' W' l1 l2 ⟨w1,w4,(Ro.any ro).trans w5,w6.le ro.len⟩ w2 w3
theorem call18n {n:Nat}{hd:Bool}{sz:Option Int}(X:Wx h τ δ fs es W F0 k) (Y:Wr W F0 m a) (few:F0.count+3<100) (ft:lo a≤W.σ m a∧W.σ m a≤1000) (hsz:∀k,sz=some k→0<k)
  (hZ:∀h',(W.σ m a-amt (W.σ m a) sz<lo a∨amt (W.σ m a) sz<lo a)→Ro h h'→Z h') (hT:∀h' fs' es' W',lo a≤W.σ m a-amt (W.σ m a) sz→lo a≤amt (W.σ m a) sz→Sp h h' τ δ W W' fs' es' F0 (F0.put m (wrapF (sortAlong a) (k+1) (pairF hd (k+1+1) m))) (k+1+1)→W'.σ=insS (wrS W.σ m (k+1)) m a (amt (W.σ m a) sz) (k+1+1)→W'.ρ=insR (wrR W.ρ m (k+1)) (k+1+1) (k+1)→Q (.int (k+1+1)) h') :
  callP prog (n+4) 18 [.ref τ,.int m,szV sz,.int a,.bool hd] h Q Z:=by
 have hm:=Y.hm
 have mn:=nodes_num hm
 have bn:k+1∉F0.nums:=X.nf
 have mb:m≠k+1:=fun e=>bn (e▸mn)
 refine c18 ?_
 refine call16 (n:=n) Y.ax X.tt (X.wn hm) hsz (fun t h1 ro l1 l2 gt=>?_) fun h1 ro bad=>hZ h1 bad ro
 refine w_tg gt rfl ?_
 have X1:=X.ro ro
 refine call17w (n:=n) X1 Y (by exact Nat.le_of_lt (by assumption)) fun h2 w j ε S=>?_
 obtain⟨fs2,es2,W2,X2,eσ,eρ,ch2,nl2⟩:=wrap_ok X1 Y (by exact Nat.le_of_lt (by assumption)) S
 have fw:=put_fwd (G:=wrapF (sortAlong a) (k+1) (leafF m)) X.nd hm
 have hmF:(m,(0:Int),F.nil)∈(F0.put m (wrapF (sortAlong a) (k+1) (leafF m))).nodes:=fw.1 _ (.tail _ (.head _))
 have hbF:(k+1,sortAlong a,leafF m)∈(F0.put m (wrapF (sortAlong a) (k+1) (leafF m))).nodes:=fw.1 _ (.head _)
 have sa:sortAlong a≠0:=by unfold sortAlong;split<;>decide
 have es:W2.σ m a=W.σ m a:=by rw[eσ];exact if_neg mb
 have ct:(F0.put m (wrapF (sortAlong a) (k+1) (leafF m))).count=F0.count+1:=by
  have:=(put_perm (G:=wrapF (sortAlong a) (k+1) (leafF m)) (new:=[k+1]) (List.Perm.swap _ _ _) X.nd hm).length_eq
  rw[List.length_append,F.nums_length,F.nums_length]at this
  rw[this,Nat.add_comm];rfl
 have e2:(F0.put m (wrapF (sortAlong a) (k+1) (leafF m))).put m (pairF hd (k+1+1) m)=F0.put m (wrapF (sortAlong a) (k+1) (pairF hd (k+1+1) m)):=by
  have:=put_put (s:=sortAlong a) (G:=pairF hd (k+1+1) m) (Ne.symm mb) X.nd hm bn
  rw[app_nil]at this
  exact this
 have eold:W.σ m a-amt (W.σ m a) sz=W2.σ m a-amt (W.σ m a) sz:=by rw[es]
 rw[eold]
 refine tail18 (n:=n) (i:=0) X2 hmF hbF rfl sa Y.ax (by lia) (by rw[es];exact ft) (by rw[← eold];exact l1) (amt_nn l2) fun h' fs' es' W' w1 w2 w3 w4 w5 w6=>?_
 rw[e2]at w1 w4 w6
 have nl1:=nl2.le ro.len
 refine hT h' fs' es' W' l1 l2 ⟨w1,w4,((Ro.any ro).trans ch2).loc w5 fun i hi o=>nl1.inn hi o,nl1.trans w6 (Nat.le_trans ro.len ch2.len)⟩ (by rw[w2,eσ]) (by rw[w3,eρ])
end
end Mine
namespace Mine
section
variable {h h' h₀:Hp}{B B':BS}{σ σ':Int→Int→Int}{m s a x:Int}{own:Nat→Prop}{Z:Hp→Prop}{Q:V→Hp→Prop}{F0 F1 F2:F}
theorem comp_filt {α:Type}{c:Env'}{fr:Fr}{b:List I}{i:Nat}{R:α→V→Prop}{p:α→Bool}{Q:List V→Hp→Prop}{qs:List α}:∀{xs pre acc:List V}{n:Nat},All2 (fun q x=>R q x∧∀K:Kt,(p q=true→K fr h [x])→(p q=false→K fr h [])→go c (pC [x]) K b fr h []) qs xs→
  h[i]?=some (.list (pre++xs))→xs.length<n→(∀ys,All2 R (qs.filter p) ys→Q (acc++ys) h)→lc c 1 b fr n (.seq i pre.length) acc h Q:=by
 induction qs with
 | nil=>
  intro xs pre acc n x hs hn k
  cases x
  cases n with
  | zero=>contradiction
  | succ n=>exact w_o (end_seq hs (by simp)) (by simpa using k [] .nil)
 | cons q qs ih=>
  intro xs pre acc n x hs hn k
  cases xs with
  | nil=>contradiction
  | cons v xs=>
  cases x with
  | cons r rs=>
  cases n with
  | zero=>contradiction
  | succ n=>
   have e1:pre.length+1=(pre++[v]).length:=by rw[List.length_append];rfl
   refine w_o (next_seq hs (v:=v) (by simp)) (w_some (a:=[v]) (r.2 _ (fun e=>?_) fun e=>?_))
   ·rw[List.filter_cons_of_pos e]at k
    rw[e1]
    exact ih (pre:=pre++[v]) (acc:=acc++[v]) rs (by rw[hs];simp) (Nat.lt_of_succ_lt_succ hn) fun ys al=>by simpa using k (v::ys) (.cons r.1 al)
   ·rw[List.filter_cons_of_neg (by rw[e];decide)]at k
    rw[e1]
    exact ih (pre:=pre++[v]) rs (by rw[hs];simp) (Nat.lt_of_succ_lt_succ hn) k
theorem allF_lvs:∀{f:F}{mk:Nat→List Up}{k:Nat},Full f→((allF mk k f).filter fun x=>decide (x.2.1=0)).map (·.1)=lvs f:=by
 intro J1
 induction J1 with
 | nil=>
  intro J J J
  exact rfl
 | node m s kd r J8 J9=>
  rintro mk k ⟨u1,u2,u3⟩
  have ih2:=J9 (mk:=mk) (k:=k+1) u3
  by_cases hs:s=0
  ·have hk:=u1.mp hs
   subst hk
   rw[allF1,List.filter_cons_of_pos (by simp[hs])]
   simp only[allF0,allF1,List.nil_append,List.map_cons,ih2,lvs1,hs,if_true,List.singleton_append]
  ·rw[allF1,List.filter_cons_of_neg (by simp[hs])]
   simp only[List.filter_append,List.map_append,J8 u2,ih2,lvs0,lvs1,hs,if_false]
structure Bx (h:Hp) (B:BS) (σ:Int→Int→Int) (F0:F):Prop where
 bv:Bv h B σ F0
 ββ:∀x∈F0.nums,∀y∈F0.nums,B.β x=B.β y→x=y
 ii:∀x∈F0.nums,∀y∈F0.nums,B.ι x=B.ι y→x=y
 iz:∀x∈F0.nums,B.ι x≠0
 z0:∃l0,h[0]?=some (.list l0)
noncomputable def OwnB (B:BS) (F0:F) (i:Nat):Prop:=∃x∈F0.nums,i=B.β x∨i=B.ι x
noncomputable def NewB (h:Hp) (B B':BS) (F0 F1:F):Prop:=∀x∈F1.nums,(x∈F0.nums∧B'.β x=B.β x∨h.length≤B'.β x)∧(x∈F0.nums∧B'.ι x=B.ι x∨h.length≤B'.ι x)
theorem Bn.to {kd kd':F}(w:Bn h B σ x s kd) (q:Ch own h h') (h1:¬own (B.β x)) (h2:¬own (B.ι x)) (e1:B'.β x=B.β x) (e2:B'.ι x=B.ι x) (hr:kd'.roots=kd.roots) (hk:∀c∈kd.roots,B'.β c=B.β c) (hσ:∀y,σ' x y=σ x y):Bn h' B' σ' x s kd':=by
 obtain⟨fs,g,f⟩:=w.inst
 refine⟨⟨fs,by rw[e1];exact q.keep _ _ g (.inl h1),f.sort,by rw[e2];exact f.kids,f.len,fun z=>by rw[hσ];exact f.wid z,fun z=>by rw[hσ];exact f.hgt z⟩,?_⟩
 rw[e2,hr,q.keep _ _ w.kids (.inl h2)]
 exact congrArg (fun l=>some (O.list l)) (List.map_congr_left fun c hc=>by rw[hk c hc])
theorem Bn.to' {kd kd':F}(w:Bn h B σ x s kd) (hs:s≠0) (q:Ch own h h') (h1:¬own (B.β x)) (e1:B'.β x=B.β x) (e2:B'.ι x=B.ι x) (h2:h'[B.ι x]?=some (.list (kd'.roots.map fun c=>V.ref (B'.β c)))):Bn h' B' σ' x s kd':=by
 obtain⟨fs,g,f⟩:=w.inst
 exact⟨⟨fs,by rw[e1];exact q.keep _ _ g (.inl h1),f.sort,by rw[e2];exact f.kids,f.len,fun z=>absurd z hs,fun z=>absurd z hs⟩,by rw[e2];exact h2⟩
theorem Bn.lts {kd:F}(w:Bn h B σ x s kd):B.β x<h.length∧B.ι x<h.length:=by
 obtain⟨fs,g1,_⟩:=w.inst
 exact⟨lt_of_get g1,lt_of_get w.kids⟩
theorem Bx.nz (X:Bx h B σ F0) {kd:F}(w:Bn h B σ x s kd):B.β x≠0:=fun z=>by
 obtain⟨l,e⟩:=X.z0
 obtain⟨fs,g1,_⟩:=w.inst
 rw[z,e]at g1;(cases g1)
end
end Mine
namespace Mine
noncomputable def lszV:Option Int→V
 | none=>.none
 | some n=>.int n
section
variable {h h' h₀:Hp}{B B':BS}{σ σ':Int→Int→Int}{m s a x:Int}{own:Nat→Prop}{Z:Hp→Prop}{Q:V→Hp→Prop}{F0 F1 F2 G:F}
theorem All2.memi {α β:Type}{R S:α→β→Prop}{as:List α}{bs:List β}(x:All2 R as bs) (f:∀a∈as,∀b,R a b→S a b):All2 S as bs:=by
 induction x with
 | nil=>exact .nil
 | cons h J ih=>exact .cons (f _ (.head _) _ h) (ih fun a ha b=>f a (.tail _ ha) b)
noncomputable def OwnP (B:BS) (F0:F) (m:Int) (i:Nat):Prop:=i=B.β m∨∃y∈F0.nodes,m∈y.2.2.roots∧i=B.ι y.1
theorem Bx.put {nw:List Int}(X:Bx h B σ F0) (nd:F0.nums.Nodup) (hm:(m,(0:Int),F.nil)∈F0.nodes) (hG:G.nums.Perm (m::nw)) (hn:∀x∈nw,x∉F0.nums) (ch:Ch (OwnP B F0 m) h h') (Gv:∀y∈G.nodes,Bn h' B' σ' y.1 y.2.1 y.2.2)
  (par:∀y∈F0.nodes,m∈y.2.2.roots→y.2.1≠0∧h'[B.ι y.1]?=some (.list ((y.2.2.put m G).roots.map fun c=>V.ref (B'.β c)))) (ag:∀x∈F0.nums,B'.β x=B.β x∧B'.ι x=B.ι x) (new:∀x∈nw,h.length≤B'.β x∧h.length≤B'.ι x)
  (nβ:∀x∈nw,∀y∈nw,B'.β x=B'.β y→x=y) (nι:∀x∈nw,∀y∈nw,B'.ι x=B'.ι y→x=y) (sσ:∀x∈F0.nums,x≠m→∀y,σ' x y=σ x y):Bx h' B' σ' (F0.put m G)∧NewB h B B' F0 (F0.put m G)∧Ch (OwnB B F0) h h':=by
 have mn:=nodes_num hm
 have pm:=put_perm hG nd hm
 have inF:∀x∈(F0.put m G).nums,x∈nw∨x∈F0.nums:=fun x hx=>by simpa using pm.subset hx
 have bm:∀y∈F0.nodes,Bn h B σ y.1 y.2.1 y.2.2:=X.bv.at
 have lt:∀x∈F0.nums,B.β x<h.length∧B.ι x<h.length:=fun x hx=>by
  obtain⟨s1,k1,h1⟩:=num_node hx
  exact(bm _ h1).lts
 have nb:∀x∈F0.nums,∀y∈F0.nums,B.β x≠B.ι y:=fun x hx y hy=>by
  obtain⟨s1,k1,h1⟩:=num_node hx
  obtain⟨s2,k2,h2⟩:=num_node hy
  exact Ne.symm ((bm _ h2).tyne (bm _ h1))
 have chB:Ch (OwnB B F0) h h':=Ch.mem ch fun i z=>by
  rcases z with z | ⟨y,hy,_,z⟩
  ·exact⟨m,mn,.inl z⟩
  ·exact⟨y.1,nodes_num hy,.inr z⟩
 obtain⟨l0,z0⟩:=X.z0
 have z0':h'[0]?=some (.list l0):=chB.keep _ _ z0 (.inl fun J9=>J9.elim fun x J1=>J1.elim fun hx z=>by
  rcases z with z | z
  ·obtain⟨s1,k1,h1⟩:=num_node hx
   exact X.nz (bm _ h1) z.symm
  ·exact X.iz x hx z.symm)
 refine⟨⟨?_,?_,?_,?_,⟨l0,z0'⟩⟩,?_,chB⟩
 ·rw[Bv_iff]
  intro y0 hy0
  rcases put_nodes nd hm y0 hy0 with hy | ⟨y,hy,ne,ey0⟩
  ·exact Gv _ hy
  ·rw[ey0]
   have yn:=nodes_num hy
   have w:=bm y hy
   have h1:¬OwnP B F0 m (B.β y.1):=fun z=>by
    rcases z with z | ⟨y',hy',_,z⟩
    ·exact ne (X.ββ _ yn _ mn z)
    ·exact nb _ yn _ (nodes_num hy') z
   have ey:=ag _ yn
   by_cases hmy:m∈y.2.2.roots
   ·obtain⟨q1,q2⟩:=par y hy hmy
    exact w.to' q1 ch h1 ey.1 ey.2 q2
   ·refine w.to ch h1 (fun z=>?_) ey.1 ey.2 (put_roots' hmy) (fun c hc=>?_) (sσ _ yn ne)
    ·rcases z with z | ⟨y',hy',hmy',z⟩
     ·exact nb _ mn _ yn z.symm
     ·have:=X.ii _ yn _ (nodes_num hy') z
      have e1:(y.1,y.2.1,y.2.2)∈F0.nodes:=hy
      rw[this]at e1
      rw[(node_unique nd e1 hy').2]at hmy
      exact hmy hmy'
    ·obtain⟨s1,k1,h1⟩:=num_node (roots_sub.subset hc)
     exact(ag c (nodes_num (nodes_sub hy _ h1))).1
 ·intro x hx y hy e
  rcases inF x hx with hx | hx<;>rcases inF y hy with hy | hy
  ·exact nβ x hx y hy e
  ·rw[(ag y hy).1]at e;exact absurd (lt y hy).1 (Nat.not_lt.mpr (e▸(new x hx).1))
  ·rw[(ag x hx).1]at e;exact absurd (lt x hx).1 (Nat.not_lt.mpr (e▸(new y hy).1))
  ·rw[(ag x hx).1,(ag y hy).1]at e;exact X.ββ x hx y hy e
 ·intro x hx y hy e
  rcases inF x hx with hx | hx<;>rcases inF y hy with hy | hy
  ·exact nι x hx y hy e
  ·rw[(ag y hy).2]at e;exact absurd (lt y hy).2 (Nat.not_lt.mpr (e▸(new x hx).2))
  ·rw[(ag x hx).2]at e;exact absurd (lt x hx).2 (Nat.not_lt.mpr (e▸(new y hy).2))
  ·rw[(ag x hx).2,(ag y hy).2]at e;exact X.ii x hx y hy e
 ·intro x hx
  rcases inF x hx with hx | hx
  ·exact Nat.ne_of_gt (Nat.lt_of_lt_of_le (Nat.lt_of_le_of_lt (Nat.zero_le _) (lt_of_get z0)) (new x hx).2)
  ·rw[(ag x hx).2];exact X.iz x hx
 ·intro x hx
  rcases inF x hx with hx | hx
  ·exact⟨.inr (new x hx).1,.inr (new x hx).2⟩
  ·exact⟨.inl ⟨hx,(ag x hx).1⟩,.inl ⟨hx,(ag x hx).2⟩⟩
structure Bq (h h':Hp) (B B':BS) (σ':Int→Int→Int) (F0 F1:F):Prop where
 bx:Bx h' B' σ' F1
 nb:NewB h B B' F0 F1
 ch:Ch (OwnB B F0) h h'
noncomputable def f28T:List I:=f28.drop 8
theorem pick28 {n nth:Nat}{hd:Bool}{sv:V}{x0:Int×Int×F}{P:PP}{K:Kt}(X:Bx h B σ (F.one x0)) (full:Full (F.one x0)) (few:(F.one x0).count<50)
  (hw:∀q∈allF (fun J=>[]) 0 (F.one x0),(q.1,q.2.1,q.2.2.1)∈(F.one x0).nodes) (hm:(lvs (F.one x0))[nth]?=some m)
  (hN:∀h' w way,Ro h h'→(m,(0:Int),F.nil,way)∈allF (fun J=>[]) 0 (F.one x0)→WayB h' B way w→go (cn prog (n+2)) P K f28T (fc (.ref (B.β x0.1)) (fc (.int nth) (fc sv (fc (.str (axS a)) (fc (.bool hd) (fc (.ref (B.β m)) (fc (.ref w) (fz 4)))))))) h' []) :
  go (cn prog (n+2)) P K f28 (fc (.ref (B.β x0.1)) (fc (.int nth) (fc sv (fc (.str (axS a)) (fc (.bool hd) (fz 6)))))) h []:=by
 have few:x0.2.2.count+0+1<50:=few
 refine call22 (n:=n+1) X.bv (by lia) fun i outs h1 hi gi al ro=>?_
 have al:All2 (fun(x:Int×Int×F×List Up) v=>ItA h1 B (fun J=>True) (x.1,x.2.2.2) v) (allF (fun J=>[]) 0 (F.one x0)) outs:=al
 refine w_it gi ?_
 have ol:=al.length
 rw[allF_length]at ol
 have ol:x0.2.2.count+0+1=outs.length:=ol
 refine comp_filt (R:=fun(q:Int×Int×F×List Up) (x:V)=>ItA h1 B (fun J=>True) (q.1,q.2.2.2) x) (p:=fun q=>decide (q.2.1=0)) (pre:=[]) (acc:=[]) (xs:=outs) (al.memi fun q hq v iq=>⟨iq,fun K k1 k2=>?_⟩) gi (by rw[turns_eq];lia) fun ys al3=>?_
 ·obtain⟨t,w,e1,e2,e3,e4⟩:=iq
  rw[e1]at k1⊢
  obtain⟨fs,g,f⟩:=((X.bv.ro ro).at _ (hw q hq)).inst
  refine w_tx (i:=0) e2 rfl ?_
  refine w_dks g f.sort ?_
  exact w_some (w_by (fun e=>k1 (decide_eq_true (sort_leaf.mp e))) fun e=>k2 (decide_eq_false fun z=>e (sort_leaf.mpr z)))
 ·have yl:=al3.length
  have fl:=List.length_filter_le (fun(q:Int×Int×F×List Up)=>decide (q.2.1=0)) (allF (fun J=>[]) 0 (F.one x0))
  rw[al.length]at fl
  refine w_list (by rw[lim_eq,List.nil_append];lia) fun i2 h2 l2 g2 o2=>?_
  rw[← allF_lvs (mk:=fun J=>[]) (k:=0) full,List.getElem?_map]at hm
  cases hq:((allF (fun J=>[]) 0 (F.one x0)).filter fun x=>decide (x.2.1=0))[nth]? with
  | none=>rw[hq]at hm;contradiction
  | some q=>
   rw[hq]at hm
   have hm:q.1=m:=Option.some.inj hm
   have qm:=List.mem_filter.mp (List.mem_of_getElem? hq)
   obtain⟨y,hy,t,w,e1,e2,e3,_⟩:=al3.get hq
   have q0:q.2.1=0:=of_decide_eq_true qm.2
   have hk:q.2.2.1=.nil:=(full.at _ (hw q qm.1)).mp q0
   have qe:q=(m,(0:Int),F.nil,q.2.2.2):=by rw[← hm,← q0,← hk]
   refine w_ix g2 (i:=nth) hy ?_
   rw[e1]
   refine w_tg (o2.get e2) rfl ?_
   obtain⟨ts,k1,k2⟩:=e3
   have:=hN h2 w q.2.2.2 (ro.trans o2) (qe▸qm.1) ⟨ts,o2.get k1,k2.imp fun v u J2=>J2.elim fun k J3=>J3.elim fun z1 z2=>⟨k,z1,o2.get z2⟩⟩
   rw[← hm]at this
   exact this
end
end Mine
namespace Mine
section
variable {h h' h₀:Hp}{B B':BS}{σ σ':Int→Int→Int}{m s a x:Int}{own:Nat→Prop}{Z:Hp→Prop}{Q:V→Hp→Prop}{F0 F1 F2 G:F}
noncomputable def BS.nu (B:BS) (f:Int) (d l:Nat):BS:={ β:=fun x=>if x=f then d else B.β x,ι:=fun x=>if x=f then l else B.ι x }
theorem Bf.bs {fs:List (Nat×V)}(x:Bf B σ m s fs) (e:B'.ι m=B.ι m):Bf B' σ m s fs:=⟨x.sort,by rw[e];exact x.kids,x.len,x.wid,x.hgt⟩
noncomputable def f28V:List I:=f28.drop 13
noncomputable def f28U:List I:=f28.drop 50
theorem mid28 {n nth w:Nat}{hd:Bool}{sz:Option Int}{f:Int}{ro:V}{K:Kt}(X:Bx h B σ F0) (hm:(m,(0:Int),F.nil)∈F0.nodes) (ha:a=0∨a=1) (hf:f≠m)
  (hT:∀h',(σ m a-amt (σ m a) sz<lo a∨amt (σ m a) sz<lo a)→Ro h h'→Q .none h')
  (hN:∀h' d l pl,lo a≤σ m a-amt (σ m a) sz→lo a≤amt (σ m a) sz→h.length≤l→l<d→d<pl→h'[pl]?=some (.list ((pairF hd f m).roots.map fun c=>V.ref ((B.nu f d l).β c)))→Bn h' (B.nu f d l) (insS σ m a (amt (σ m a) sz) f) m 0 .nil→Bn h' (B.nu f d l) (insS σ m a (amt (σ m a) sz) f) f 0 .nil→Ch (fun i=>i=B.β m) h h'→
   go (cn prog (n+2)) (pF Q Z) K f28U (fc ro (fc (.int nth) (fc (lszV sz) (fc (.str (axS a)) (fc (.bool hd) (fc (.ref (B.β m)) (fc (.ref w) (fc (.int (amt (σ m a) sz)) (fc (.ref d) (fc (.ref pl) (fz 1))))))))))) h' []) :
  go (cn prog (n+2)) (pF Q Z) K f28T (fc ro (fc (.int nth) (fc (lszV sz) (fc (.str (axS a)) (fc (.bool hd) (fc (.ref (B.β m)) (fc (.ref w) (fz 4)))))))) h []:=by
 have bm:Bn h B σ m 0 .nil:=X.bv.at _ hm
 have nz:=X.nz bm
 obtain⟨fs,g,q⟩:=bm.inst
 have ffa:=q.ax ha rfl
 have lm:=lt_of_get g
 have lk:=lt_of_get bm.kids
 generalize hnw:amt (σ m a) sz=nw at hT hN
 have rest:go (cn prog (n+2)) (pF Q Z) K f28V (fc ro (fc (.int nth) (fc (lszV sz) (fc (.str (axS a)) (fc (.bool hd) (fc (.ref (B.β m)) (fc (.ref w) (fc (.int nw) (fz 3))))))))) h []:=by
  refine w_dks g ffa ?_
  refine w_ok (w_ok ?_)
  refine least1b (n:=n+2) ha ⟨bm,trivial,trivial⟩ ⟨.inl rfl,trivial,trivial⟩ ⟨⟨fun J=>rfl,fun J=>rfl⟩,trivial,trivial⟩ (by decide) (Nat.succ_pos _) rfl fun h1 o1=>?_
  have hl:lead a (.node m 0 .nil .nil)=lo a:=rfl
  rw[hl]
  refine w_some (w_by (fun bad=>?_) fun bad=>?_)
  ·exact hT _ (by lia) o1
  ·refine w_dks (o1.get g) (q.wid rfl) ?_
   refine w_dks (o1.get g) (q.hgt rfl) ?_
   refine call23 (n:=n+1) fun l d h2 ll ld gl gd o2=>?_
   have o12:=o1.trans o2
   have hl:=Nat.le_trans o1.len ll
   refine w_dks (o12.get g) ffa ?_
   refine w_ok ?_
   refine w_tup fun t h3 J gt o3=>?_
   refine w_tg gt rfl ?_
   have o03:=o12.trans o3
   refine w_puts (o03.get g) (Nat.lt_of_le_of_lt q.len (by rw[lim_eq];decide)) nz fun h4 g4 o4=>?_
   have md:B.β m≠d:=Nat.ne_of_lt (Nat.lt_of_lt_of_le lm (Nat.le_trans hl (Nat.le_of_lt ld)))
   have ml:B.β m≠l:=Nat.ne_of_lt (Nat.lt_of_lt_of_le lm hl)
   refine w_puts (o4.ne (o3.get gd) (Ne.symm md)) (show 4<lim by rw[lim_eq];decide) (Nat.ne_of_gt (Nat.lt_of_le_of_lt (Nat.zero_le _) ld)) fun h5 g5 o5=>?_
   have ch05:Ch (fun i=>i=B.β m) h h5:=((Ro.any o03).trans o4).loc o5 fun i hi z=>absurd hi (Nat.not_lt.mpr (z▸Nat.le_trans hl (Nat.le_of_lt ld)))
   have l5:=o4.ne (o3.get gl) (Ne.symm ml)
   have l5:=o5.ne l5 (Nat.ne_of_lt ld)
   have fin:∀pl h6,h5.length≤pl→h6[pl]?=some (.list ((pairF hd f m).roots.map fun c=>V.ref ((B.nu f d l).β c)))→Ro h5 h6→go (cn prog (n+2)) (pF Q Z) K f28U (fc ro (fc (.int nth) (fc (lszV sz) (fc (.str (axS a)) (fc (.bool hd) (fc (.ref (B.β m)) (fc (.ref w) (fc (.int nw) (fc (.ref d) (fc (.ref pl) (fz 1))))))))))) h6 []:=by
    intro pl h6 lp gp o6
    have em:(B.nu f d l).β m=B.β m:=if_neg (Ne.symm hf)
    have im:(B.nu f d l).ι m=B.ι m:=if_neg (Ne.symm hf)
    have ef:(B.nu f d l).β f=d:=if_pos rfl
    have jf:(B.nu f d l).ι f=l:=if_pos rfl
    have km:B.ι m≠B.β m:=bm.tyne bm
    refine hN h6 d l pl (by lia) (by lia) hl ld (Nat.lt_of_lt_of_le (lt_of_get g5) lp) gp ⟨⟨_,by rw[em];exact o6.get (o5.ne g4 md),?_⟩,by rw[im];exact o6.get (ch05.ne bm.kids km)⟩ ⟨⟨_,by rw[ef];exact o6.get g5,?_⟩,by rw[jf];exact o6.get l5⟩ (ch05.and o6)
    ·refine((q.put (b:=σ m a-nw) ha rfl).same fun y=>?_).bs im
     rw[insS_m (Ne.symm hf)]
     by_cases ya:y=a
     ·rw[if_pos ya,ya,upd_eq]
     ·rw[if_neg ya,upd_other ya]
    ·have e0:insS σ m a nw f f 0=if(0:Int)=a then nw else σ m 0:=insS_f
     have e1:insS σ m a nw f f 1=if(1:Int)=a then nw else σ m 1:=insS_f
     rcases ha with rfl | rfl<;>exact⟨rfl,by rw[jf];rfl,show(4:Nat)≤10 by decide,fun J=>by rw[e0];rfl,fun J=>by rw[e1];rfl⟩
   have em:(B.nu f d l).β m=B.β m:=if_neg (Ne.symm hf)
   have ef:(B.nu f d l).β f=d:=if_pos rfl
   cases hd with
   | true=>exact w_tt (w_list (show 2≤lim by rw[lim_eq];decide) fun pl h6 lp gp o6=>fin pl h6 lp (gp.trans (by show _=some (O.list [V.ref ((B.nu f d l).β f),V.ref ((B.nu f d l).β m)]);rw[em,ef])) o6)
   | false=>exact w_ff (w_list (show 2≤lim by rw[lim_eq];decide) fun pl h6 lp gp o6=>fin pl h6 lp (gp.trans (by show _=some (O.list [V.ref ((B.nu f d l).β m),V.ref ((B.nu f d l).β f)]);rw[em,ef])) o6)
 cases sz with
 | none=>
  refine w_some (w_tt ?_)
  refine w_dks g ffa ?_
  refine w_div (by decide) (by decide) ?_
  rw[show σ m a / 2=nw from hnw]
  exact rest
 | some k=>
  refine w_some (w_ff ?_)
  have e:k=nw:=hnw
  rw[e]
  rw[e]at rest
  exact rest
end
end Mine
namespace Mine
section
variable {h h' h₀ h1:Hp}{B B':BS}{σ σ':Int→Int→Int}{m s a x:Int}{own:Nat→Prop}{Z:Hp→Prop}{Q:V→Hp→Prop}{F0 F1 F2 G:F}
theorem all2_last {α β:Type}{R:α→β→Prop}:∀{as:List α}{bs:List β}{b:β},All2 R as (bs++[b])→∃as' a,as=as'++[a]∧R a b
 | [],[],b,x=>by contradiction
 | [],c::bs,b,x=>by contradiction
 | a::as,[],b,x=>by
  cases x with
  | cons r rs=>
   cases rs
   exact⟨[],a,rfl,r⟩
 | a::as,c::bs,b,.cons r rs=>by
  obtain⟨as',a',e,r'⟩:=all2_last rs
  exact⟨a::as',a',by rw[e];rfl,r'⟩
theorem way_last {u:Up}{up:List Up}{w:Nat}(x:WayB h B (u::up) w):∃ts k,h[w]?=some (.list (ts++[.ref k]))∧h[k]?=some (.tup [.ref (B.β u.m),.int u.nth]):=by
 obtain⟨ts,g,al⟩:=x
 rw[List.reverse_cons]at al
 obtain⟨ts',v,e,k,e2,g2⟩:=all2_last al
 subst e2
 subst e
 exact⟨ts',k,g,g2⟩
theorem w_eq0 {c:Env'}{P:PP}{K:Kt}{fr:Fr}{st:List V}{l:List I}{j:Nat}(g:h[j]?=some (.list [])) (x:∀h',Ro h h'→go c P K l fr h' (.bool true::st)):C (newL [] h) (kq fr (go c P K (.cmp .eq::l)) (.ref j::st)):=
 w_list (Nat.zero_le _) fun i h' J gi ro=>w_o (show cmpop .eq (.ref j) (.ref i) h'=some true by show veq h' (.ref j) (.ref i)=_;unfold veq;dsimp only;rw[ro.get g,gi];rfl) (x h' ro)
theorem w_eq1 {c:Env'}{P:PP}{K:Kt}{fr:Fr}{st:List V}{l:List I}{j:Nat}{v:V}{vs:List V}(g:h[j]?=some (.list (vs++[v]))) (x:∀h',Ro h h'→go c P K l fr h' (.bool false::st)):C (newL [] h) (kq fr (go c P K (.cmp .eq::l)) (.ref j::st)):=
 w_list (Nat.zero_le _) fun i h' J gi ro=>w_o (show cmpop .eq (.ref j) (.ref i) h'=some false by
  show veq h' (.ref j) (.ref i)=_;unfold veq;dsimp only;rw[ro.get g,gi];dsimp only
  exact if_neg (by rw[List.length_append];exact Nat.succ_ne_zero _)) (x h' ro)
structure Lf (h h1:Hp) (B:BS) (σ:Int→Int→Int) (F0:F) (m a new f:Int) (hd:Bool) (d l pl:Nat):Prop where
 ll:h.length≤l
 ld:l<d
 lp:d<pl
 gp:h1[pl]?=some (.list ((pairF hd f m).roots.map fun c=>V.ref ((B.nu f d l).β c)))
 bm:Bn h1 (B.nu f d l) (insS σ m a new f) m 0 .nil
 bf:Bn h1 (B.nu f d l) (insS σ m a new f) f 0 .nil
 ch:Ch (fun i=>i=B.β m) h h1
theorem BS.nuβ {x f:Int}{d l:Nat}(e:x≠f):(B.nu f d l).β x=B.β x∧(B.nu f d l).ι x=B.ι x:=⟨if_neg e,if_neg e⟩
theorem BS.nuf {f:Int}{d l:Nat}:(B.nu f d l).β f=d∧(B.nu f d l).ι f=l:=⟨if_pos rfl,if_pos rfl⟩
theorem Lf.up {n w d l pl:Nat}{hd:Bool}{f new:Int}{u:Up}{up:List Up}{G:Prop}(X:Bx h B σ F0) (nd:F0.nums.Nodup) (hm:(m,(0:Int),F.nil)∈F0.nodes) (L:Lf h h1 B σ F0 m a new f hd d l pl) (hw:WayB h B (u::up) w) (hu:(u.m,u.s,u.kids)∈F0.nodes) (hr:u.kids.roots[u.nth]?=some m)
  (x:∀ts k fs,u.m≠m→h1[w]?=some (.list (ts++[.ref k]))→h1[k]?=some (.tup [.ref (B.β u.m),.int u.nth])→h1[B.β u.m]?=some (.dictS fs)→Bf B σ u.m u.s fs→B.ι u.m≠B.β m→h1[B.ι u.m]?=some (.list (u.kids.roots.map fun c=>V.ref (B.β c)))→B.ι u.m<h.length→u.nth<u.kids.roots.length→G):G:=by
 have mn:=nodes_num hm
 have bm0:Bn h B σ m 0 .nil:=X.bv.at _ hm
 have bu:Bn h B σ u.m u.s u.kids:=X.bv.at _ hu
 obtain⟨ts,k,gw,gk⟩:=way_last hw
 obtain⟨fs0,q1,_⟩:=bm0.inst
 obtain⟨fs,g1,q⟩:=bu.inst
 have um:u.m≠m:=fun e=>by
  have hu':=hu
  rw[e]at hu'
  rw[(node_unique nd hu' hm).2]at hr;contradiction
 have ιne:B.ι u.m≠B.β m:=bu.tyne bm0
 exact x ts k fs um (L.ch.ne gw fun e=>by rw[e,q1]at gw;cases gw) (L.ch.tup gk) (L.ch.ne g1 fun e=>um (X.ββ _ (nodes_num hu) _ mn e)) q ιne (L.ch.ne bu.kids ιne) bu.lts.2 (List.getElem?_eq_some_iff.mp hr).1
theorem par_of {u:Up}(nd:F0.nums.Nodup) (hu:(u.m,u.s,u.kids)∈F0.nodes) (hr:u.kids.roots[u.nth]?=some m) (us:u.s≠0) (uq:∀y∈F0.nodes,m∈y.2.2.roots→y.1=u.m) (nb:∀x∈F0.nums,B'.β x=B.β x∧B'.ι x=B.ι x)
  (g:h'[B.ι u.m]?=some (.list ((u.kids.roots.map fun c=>V.ref (B.β c)).take u.nth++((G.roots.map fun c=>V.ref (B'.β c))++(u.kids.roots.map fun c=>V.ref (B.β c)).drop (u.nth+1))))) :
  ∀y∈F0.nodes,m∈y.2.2.roots→y.2.1≠0∧h'[B.ι y.1]?=some (.list ((y.2.2.put m G).roots.map fun c=>V.ref (B'.β c))):=fun y hy hmy=>by
 have ey:=uq y hy hmy
 have e1:(y.1,y.2.1,y.2.2)∈F0.nodes:=hy
 rw[ey]at e1
 have J:=node_unique nd e1 hu;have q1:=J.1;have q2:=J.2
 rw[q1,q2,ey]
 have ndK:(u.m::(u.kids.nums++[])).Nodup:=F.nd_nodes nd _ hu
 rw[List.append_nil]at ndK
 have em:(u.kids.roots.map fun c=>V.ref (B.β c))=u.kids.roots.map fun c=>V.ref (B'.β c):=List.map_congr_left fun c hc=>by
  obtain⟨s1,k1,h1⟩:=num_node (roots_sub.subset hc)
  rw[(nb c (nodes_num (nodes_sub hu _ h1))).1]
 rw[em]at g
 rw[put_roots (List.nodup_cons.mp ndK).2 hr,List.map_append,List.map_append,List.map_take,List.map_drop]
 exact⟨us,g⟩
theorem end28j {n w d l pl:Nat}{hd:Bool}{sv nt:V}{f new:Int}{x0:Int×Int×F}{u:Up}{up:List Up}{K:Kt}(X:Bx h B σ F0) (nd:F0.nums.Nodup) (hm:(m,(0:Int),F.nil)∈F0.nodes) (ha:a=0∨a=1) (hf:f∉F0.nums) (few:F0.count<50) (L:Lf h h1 B σ F0 m a new f hd d l pl) (hw:WayB h B (u::up) w) (hu:(u.m,u.s,u.kids)∈F0.nodes) (hr:u.kids.roots[u.nth]?=some m) (us:u.s=1∨u.s=2) (al:along u.s=a) (uq:∀y∈F0.nodes,m∈y.2.2.roots→y.1=u.m)
  (hT:∀h',Bq h h' B (B.nu f d l) (insS σ m a new f) F0 (F0.put m (pairF hd f m))→Q (.ref (B.β x0.1)) h') :
  go (cn prog (n+2)) (pF Q Z) K f28U (fc (.ref (B.β x0.1)) (fc nt (fc sv (fc (.str (axS a)) (fc (.bool hd) (fc (.ref (B.β m)) (fc (.ref w) (fc (.int new) (fc (.ref d) (fc (.ref pl) (fz 1))))))))))) h1 []:=by
 have mn:=nodes_num hm
 refine L.up (n:=n) X nd hm hw hu hr fun ts k fs um gw gk g q ιne gl ltu ul=>?_
 have zs:u.s≠0:=us.elim (fun e=>by rw[e];decide) fun e=>by rw[e];decide
 have cK:u.kids.count+0+1≤F0.count:=F.count_nodes _ hu
 have rK:=F.roots_length u.kids
 have lll:=L.ll
 have lld:=L.ld
 have llp:=L.lp
 refine w_ne1 gw (by simp) fun h2 o2=>?_
 refine w_tt ?_
 refine w_last (o2.get gw) ?_
 refine w_tx (i:=0) (o2.get gk) rfl ?_
 refine w_dks (o2.get g) q.sort ?_
 refine w_some (w_t ((sort_ax (.inr us) ha).mpr ⟨zs,al⟩) ?_)
 refine w_tt ?_
 refine w_last (o2.get gw) ?_
 refine w_tx (i:=0) (o2.get gk) rfl ?_
 refine w_dks (o2.get g) q.kids ?_
 refine w_last (o2.get gw) ?_
 refine w_tx (i:=1) (o2.get gk) rfl ?_
 refine w_last (o2.get gw) ?_
 refine w_tx (i:=1) (o2.get gk) rfl ?_
 refine w_ok ?_
 refine w_slc (a:=u.nth) (b:=u.nth+1) (o2.get gl) (o2.get L.gp) (by lia) (Nat.le_succ _) (by rw[List.length_map];exact ul) (by rw[lim_eq,List.length_map,List.length_map,pair_len];lia) (X.iz _ (nodes_num hu)) fun h3 g3 o3=>?_
 have ch13:Ch (fun i=>i=B.ι u.m) h1 h3:=(Ro.any o2).trans o3
 have umk:m∈u.kids.roots:=List.mem_of_getElem? hr
 have nb:∀x∈F0.nums,(B.nu f d l).β x=B.β x∧(B.nu f d l).ι x=B.ι x:=fun x hx=>BS.nuβ fun e=>hf (e▸hx)
 have nf:=BS.nuf (B:=B) (f:=f) (d:=d) (l:=l)
 have lx:∀x∈[f],h.length≤(B.nu f d l).β x∧h.length≤(B.nu f d l).ι x:=fun x hx=>by
  rw[List.mem_singleton.mp hx,nf.1,nf.2];lia
 have one:∀x∈[f],∀y∈[f],x=y:=fun x hx y hy=>(List.mem_singleton.mp hx).trans (List.mem_singleton.mp hy).symm
 have bx:=X.put (G:=pairF hd f m) (nw:=[f]) (σ':=insS σ m a new f) (B':=B.nu f d l) (h':=h3) nd hm pair_nums (fun x hx=>by rw[List.mem_singleton.mp hx];exact hf)
  ((Ch.mem L.ch fun J z=>.inl z).trans (Ch.mem ch13 fun i z=>.inr ⟨_,hu,umk,z⟩))
  (fun y hy=>by
   rcases(pair_nodes y).mp hy with rfl | rfl
   ·exact L.bm.ch ch13 (by rw[(nb m mn).1];exact Ne.symm ιne) (by rw[(nb m mn).2];exact fun z=>um (X.ii _ mn _ (nodes_num hu) z).symm) fun J=>rfl
   ·exact L.bf.ch ch13 (by rw[nf.1];lia) (by rw[nf.2];lia) fun J=>rfl)
  (par_of nd hu hr zs uq nb (by rw[List.append_assoc]at g3;exact g3)) nb lx (fun x hx y hy J=>one x hx y hy) (fun x hx y hy J=>one x hx y hy)
  (fun x hx ne y=>insS_o (fun e=>hf (e▸hx)) ne)
 exact hT _ ⟨bx.1,bx.2.1,bx.2.2⟩
theorem Lf.box {d l pl db:Nat}{hd:Bool}{f b new:Int}{h3:Hp}(L:Lf h h1 B σ F0 m a new f hd d l pl) (mf:m≠f) (mb:m≠b) (bf:b≠f) (ha:a=0∨a=1) {own:Nat→Prop}(ch:Ch own h1 h3) (n1:¬own (B.β m)) (n2:¬own (B.ι m)) (n3:∀i,h.length≤i→¬own i) (gd:h3[db]?=some (.dictS [(23,.str (axS a)),(46,.ref pl)])) :
  ∀y∈(wrapF (sortAlong a) b (pairF hd f m)).nodes,Bn h3 ((B.nu f d l).nu b db pl) (insS (wrS σ m b) m a new f) y.1 y.2.1 y.2.2:=by
 have lll:=L.ll
 have lld:=L.ld
 have llp:=L.lp
 have sa:sortS (sortAlong a)=axS a∧sortAlong a≠0:=by rcases ha with rfl | rfl<;>exact⟨rfl,by decide⟩
 have e1:∀c,c≠b→((B.nu f d l).nu b db pl).β c=(B.nu f d l).β c∧((B.nu f d l).nu b db pl).ι c=(B.nu f d l).ι c:=fun c hc=>BS.nuβ hc
 have eb:=BS.nuf (B:=B.nu f d l) (f:=b) (d:=db) (l:=pl)
 have em:=BS.nuβ (B:=B) (d:=d) (l:=l) mf
 have ef:=BS.nuf (B:=B) (f:=f) (d:=d) (l:=l)
 have wr:∀y,wrS σ m b m y=σ m y:=fun y=>if_neg mb
 intro y hy
 have hy:y∈(b,sortAlong a,pairF hd f m)::((pairF hd f m).nodes++[]):=hy
 rw[List.append_nil]at hy
 rcases List.mem_cons.mp hy with rfl | hy
 ·refine⟨⟨_,by rw[eb.1];exact gd,by rw[sa.1];rfl,by rw[eb.2];rfl,Nat.le_of_ble_eq_true rfl,fun z=>absurd z sa.2,fun z=>absurd z sa.2⟩,?_⟩
  rw[eb.2,ch.keep _ _ L.gp (.inl (n3 _ (by lia)))]
  exact congrArg (fun l=>some (O.list l)) (List.map_congr_left fun c hc=>by
   rw[(e1 c (((pair_roots c).mp hc).elim (fun z=>z▸mb) fun z=>z▸Ne.symm bf)).1])
 ·rcases(pair_nodes y).mp hy with rfl | rfl
  ·refine L.bm.to ch (by rw[em.1];exact n1) (by rw[em.2];exact n2) (e1 m mb).1 (e1 m mb).2 rfl (fun c hc=>by cases hc) fun y=>?_
   rw[insS_m mf,insS_m mf,wr,wr]
  ·refine L.bf.to ch (by rw[ef.1];exact n3 _ (by lia)) (by rw[ef.2];exact n3 _ lll) (e1 f (Ne.symm bf)).1 (e1 f (Ne.symm bf)).2 rfl (fun c hc=>by cases hc) fun y=>?_
   rw[insS_f,insS_f,wr]
theorem mem_two {b f x:Int}{p:Int→Prop}(hb:p b) (hf:p f) (hx:x∈[b,f]):p x:=by
 rcases List.mem_cons.mp hx with rfl | hx
 ·exact hb
 ·exact List.mem_singleton.mp hx▸hf
theorem two_inj {b f:Int}{g:Int→Nat}(n:g b≠g f):∀x∈[b,f],∀y∈[b,f],g x=g y→x=y:=fun x hx y hy=>
 mem_two (p:=fun x=>g x=g y→x=y) (mem_two (p:=fun y=>g b=g y→b=y) (fun J=>rfl) (fun e=>absurd e n) hy) (mem_two (p:=fun y=>g f=g y→f=y) (fun e=>absurd e.symm n) (fun J=>rfl) hy) hx
theorem wrap_nums {hd:Bool}{f b s:Int}:(wrapF s b (pairF hd f m)).nums.Perm (m::[b,f]):=by
 show(b::((pairF hd f m).nums++[])).Perm _
 rw[List.append_nil]
 exact(pair_nums.cons b).trans (List.Perm.swap m b [f])
theorem Lf.put {d l pl db:Nat}{hd:Bool}{f b new:Int}(X:Bx h B σ F0) (nd:F0.nums.Nodup) (hm:(m,(0:Int),F.nil)∈F0.nodes) (hf:f∉F0.nums) (hb:b∉F0.nums) (bf:b≠f) (ha:a=0∨a=1) (L:Lf h h1 B σ F0 m a new f hd d l pl) (ch:Ch own h1 h') (no:∀i,own i→∃y∈F0.nodes,m∈y.2.2.roots∧i=B.ι y.1) (gd:h'[db]?=some (.dictS [(23,.str (axS a)),(46,.ref pl)])) (ld:pl<db)
  (par:(∀x∈F0.nums,((B.nu f d l).nu b db pl).β x=B.β x∧((B.nu f d l).nu b db pl).ι x=B.ι x)→∀y∈F0.nodes,m∈y.2.2.roots→y.2.1≠0∧h'[B.ι y.1]?=some (.list ((y.2.2.put m (wrapF (sortAlong a) b (pairF hd f m))).roots.map fun c=>V.ref (((B.nu f d l).nu b db pl).β c)))) :
  Bq h h' B ((B.nu f d l).nu b db pl) (insS (wrS σ m b) m a new f) F0 (F0.put m (wrapF (sortAlong a) b (pairF hd f m))):=by
 have mn:=nodes_num hm
 have mf:m≠f:=fun e=>hf (e▸mn)
 have mb:m≠b:=fun e=>hb (e▸mn)
 have lll:=L.ll
 have lld:=L.ld
 have llp:=L.lp
 have bm0:Bn h B σ m 0 .nil:=X.bv.at _ hm
 have nb:∀x∈F0.nums,((B.nu f d l).nu b db pl).β x=B.β x∧((B.nu f d l).nu b db pl).ι x=B.ι x:=fun x hx=>by
  have n1:=BS.nuβ (B:=B) (d:=d) (l:=l) (show x≠f from fun e=>hf (e▸hx))
  have n2:=BS.nuβ (B:=B.nu f d l) (d:=db) (l:=pl) (show x≠b from fun e=>hb (e▸hx))
  exact⟨n2.1.trans n1.1,n2.2.trans n1.2⟩
 have eb:=BS.nuf (B:=B.nu f d l) (f:=b) (d:=db) (l:=pl)
 have ef:=BS.nuf (B:=B) (f:=f) (d:=d) (l:=l)
 have e2:=BS.nuβ (B:=B.nu f d l) (d:=db) (l:=pl) (Ne.symm bf)
 rw[ef.1,ef.2]at e2
 have bx:=X.put (G:=wrapF (sortAlong a) b (pairF hd f m)) (nw:=[b,f]) (σ':=insS (wrS σ m b) m a new f) (B':=(B.nu f d l).nu b db pl) (h':=h') nd hm wrap_nums (fun x hx=>mem_two (p:=fun x=>x∉F0.nums) hb hf hx)
  ((Ch.mem L.ch fun J z=>.inl z).trans (Ch.mem ch fun i z=>.inr (no i z)))
  (L.box mf mb bf ha ch
   (fun z=>by obtain⟨y,hy,_,e⟩:=no _ z;exact(X.bv.at _ hy).tyne bm0 e.symm)
   (fun z=>by
    obtain⟨y,hy,hmy,e⟩:=no _ z
    have hy':(y.1,y.2.1,y.2.2)∈F0.nodes:=hy
    rw[← X.ii _ mn _ (nodes_num hy) e]at hy'
    rw[(node_unique nd hy' hm).2]at hmy;cases hmy)
   (fun i hi z=>by
    obtain⟨y,hy,_,e⟩:=no _ z
    have:=(X.bv.at _ hy).lts
    lia) gd)
  (par nb) nb
  (fun x hx=>mem_two (p:=fun x=>h.length≤((B.nu f d l).nu b db pl).β x∧h.length≤((B.nu f d l).nu b db pl).ι x) (by rw[eb.1,eb.2];lia) (by rw[e2.1,e2.2];lia) hx)
  (two_inj (by rw[eb.1,e2.1];lia)) (two_inj (by rw[eb.2,e2.2];lia))
  (fun x hx ne y=>by rw[insS_o (show x≠f from fun e=>hf (e▸hx)) ne];exact if_neg (show x≠b from fun e=>hb (e▸hx)))
 exact⟨bx.1,bx.2.1,bx.2.2⟩
theorem end28r {n w d l pl:Nat}{hd:Bool}{sv nt:V}{f b new:Int}{K:Kt}(X:Bx h B σ (leafF m)) (ha:a=0∨a=1) (hf:f≠m) (hb:b≠m) (bf:b≠f) (L:Lf h h1 B σ (leafF m) m a new f hd d l pl) (hw:WayB h B [] w)
  (hT:∀h' B',Bq h h' B B' (insS (wrS σ m b) m a new f) (leafF m) ((leafF m).put m (wrapF (sortAlong a) b (pairF hd f m)))→Q (.ref (B'.β b)) h') :
  go (cn prog (n+2)) (pF Q Z) K f28U (fc (.ref (B.β m)) (fc nt (fc sv (fc (.str (axS a)) (fc (.bool hd) (fc (.ref (B.β m)) (fc (.ref w) (fc (.int new) (fc (.ref d) (fc (.ref pl) (fz 1))))))))))) h1 []:=by
 obtain⟨ts,gw,al⟩:=hw
 cases al
 have hm:(m,(0:Int),F.nil)∈(leafF m).nodes:=.head _
 have inl:∀x∈(leafF m).nums,x=m:=fun x hx=>List.mem_singleton.mp hx
 have bm0:Bn h B σ m 0 .nil:=X.bv.at _ hm
 obtain⟨fs0,q1,_⟩:=bm0.inst
 have gw:=L.ch.ne gw fun e=>by rw[e,q1]at gw;cases gw
 refine w_ne0 gw fun h2 o2=>?_
 refine w_ff ?_
 refine w_ff ?_
 refine w_dictS fun db h3 lb gd o3=>?_
 refine w_eq0 (o3.get (o2.get gw)) fun h4 o4=>?_
 refine w_tt ?_
 have hT:=hT h4 ((B.nu f d l).nu b db pl) (L.put X (List.pairwise_singleton _ m) hm (fun z=>hf (inl _ z)) (fun z=>hb (inl _ z)) bf ha ((o2.trans o3).trans o4) (fun J z=>z.elim) (o4.get gd) (Nat.lt_of_lt_of_le (lt_of_get L.gp) (Nat.le_trans o2.len lb)) fun J y hy hmy=>by
  rw[List.mem_singleton.mp hy]at hmy;contradiction)
 rw[BS.nuf.1]at hT
 exact hT
theorem end28n {n w d l pl:Nat}{hd:Bool}{sv nt:V}{f b new:Int}{x0:Int×Int×F}{u:Up}{up:List Up}{K:Kt}(X:Bx h B σ F0) (nd:F0.nums.Nodup) (hm:(m,(0:Int),F.nil)∈F0.nodes) (ha:a=0∨a=1) (hf:f∉F0.nums) (hb:b∉F0.nums) (bf:b≠f) (L:Lf h h1 B σ F0 m a new f hd d l pl) (hw:WayB h B (u::up) w) (hu:(u.m,u.s,u.kids)∈F0.nodes) (hr:u.kids.roots[u.nth]?=some m) (us:u.s=1∨u.s=2) (al:along u.s≠a) (uq:∀y∈F0.nodes,m∈y.2.2.roots→y.1=u.m) (hx:x0.1∈F0.nums)
  (hT:∀h' B',B'.β x0.1=B.β x0.1→Bq h h' B B' (insS (wrS σ m b) m a new f) F0 (F0.put m (wrapF (sortAlong a) b (pairF hd f m)))→Q (.ref (B'.β x0.1)) h') :
  go (cn prog (n+2)) (pF Q Z) K f28U (fc (.ref (B.β x0.1)) (fc nt (fc sv (fc (.str (axS a)) (fc (.bool hd) (fc (.ref (B.β m)) (fc (.ref w) (fc (.int new) (fc (.ref d) (fc (.ref pl) (fz 1))))))))))) h1 []:=by
 refine L.up (n:=n) X nd hm hw hu hr fun ts k fs um gw gk g q ιne gl ltu ul=>?_
 have zs:u.s≠0:=us.elim (fun e=>by rw[e];decide) fun e=>by rw[e];decide
 refine w_ne1 gw (by simp) fun h2 o2=>?_
 refine w_tt ?_
 refine w_last (o2.get gw) ?_
 refine w_tx (i:=0) (o2.get gk) rfl ?_
 refine w_dks (o2.get g) q.sort ?_
 refine w_some (w_f (fun z=>al ((sort_ax (.inr us) ha).mp z).2) ?_)
 refine w_ff ?_
 refine w_dictS fun db h3 lb gd o3=>?_
 have o13:=o2.trans o3
 refine w_eq1 (o13.get gw) fun h4 o4=>?_
 have o14:=o13.trans o4
 refine w_ff ?_
 refine w_last (o14.get gw) ?_
 refine w_tx (i:=0) (o14.get gk) rfl ?_
 refine w_dks (o14.get g) q.kids ?_
 refine w_last (o14.get gw) ?_
 refine w_tx (i:=1) (o14.get gk) rfl ?_
 refine w_six (i:=u.nth) (o14.get gl) (by rw[List.length_map];exact ul) (X.iz _ (nodes_num hu)) fun h5 g5 o5=>?_
 have lp:=Nat.lt_of_lt_of_le (lt_of_get L.gp) (Nat.le_trans o2.len lb)
 have lll:=L.ll
 have lld:=L.ld
 have llp:=L.lp
 have e0:((B.nu f d l).nu b db pl).β x0.1=B.β x0.1:=(BS.nuβ (show x0.1≠b from fun e=>hb (e▸hx))).1.trans (BS.nuβ (show x0.1≠f from fun e=>hf (e▸hx))).1
 have hT:=hT h5 ((B.nu f d l).nu b db pl) e0
 rw[e0]at hT
 refine hT (L.put X nd hm hf hb bf ha ((Ro.any o14).trans o5) (fun i z=>⟨_,hu,List.mem_of_getElem? hr,z⟩) (o5.ne (o4.get gd) (by lia)) lp fun nb=>par_of nd hu hr zs uq nb ?_)
 rw[set_take (by rw[List.length_map];exact ul)]at g5
 have eb:=BS.nuf (B:=B.nu f d l) (f:=b) (d:=db) (l:=pl)
 rw[← eb.1]at g5
 exact g5
end
end Mine
namespace Mine
section
variable {h h' h₀ h1 h2:Hp}{W W':WS}{B B':BS}{es es':List (Int×V)}{fs fs':List (Nat×V)}{τ δ q i:Nat}{σ σ':Int→Int→Int}{m s a x:Int}{own:Nat→Prop}{Z:Hp→Prop}{Q:V→Hp→Prop}{F0 F1 F2 G:F}{k k':Int}
structure Bd (h:Hp) (τ δ:Nat) (fs:List (Nat×V)) (es:List (Int×V)) (W:WS) (B:BS) (F0:F) (k:Int) (q i:Nat):Prop where
 wx:Wx h τ δ fs es W F0 k
 bx:Bx h B W.σ F0
 good:Good W.σ W.ρ F0
 lv1:1∈lvs F0
 deck:∃ds:List Int,h[q]?=some (.list (ds.map V.int))
 sq:q≠0∧∀x∈F0.nums,q≠W.κ x∧q≠W.ε x∧q≠B.ι x
 s2:∀x∈F0.nums,∀y∈F0.nums,W.κ x≠B.ι y∧W.ε x≠B.ι y
 pls:PlS W.σ W.π F0 [(0,0)]
 cnt:F0.count≤1+2*i
theorem Bd.ro (D:Bd h τ δ fs es W B F0 k q i) (r:Ro h h'):Bd h' τ δ fs es W B F0 k q i:=
 ⟨D.wx.ro r,⟨D.bx.bv.ro r,D.bx.ββ,D.bx.ii,D.bx.iz,let⟨l,e⟩:=D.bx.z0;⟨l,r.get e⟩⟩,D.good,D.lv1,let⟨l,e⟩:=D.deck;⟨l,r.get e⟩,D.sq,D.s2,D.pls,D.cnt⟩
theorem Wx.chg (X:Wx h τ δ fs es W F0 k) (c:Ch own h h') (n1:¬own τ∧¬own δ) (n2:∀x∈F0.nums,¬own (W.ω x)∧¬own (W.κ x)∧¬own (W.ε x)) (n0:¬own 0):Wx h' τ δ fs es W F0 k:=
 ⟨X.tt.ch c n1.1 n1.2,X.vw.ch (σ:=W.σ) c n2 fun J J J=>rfl,X.one,X.full,X.nd,X.alt,X.rho,X.pos,X.last,X.perm,X.few,X.kk,X.ke,X.kz,let⟨l,e⟩:=X.z0;⟨l,c.keep _ _ e (.inl n0)⟩⟩
theorem Bx.chg (X:Bx h B σ F0) (c:Ch own h h') (n2:∀x∈F0.nums,¬own (B.β x)∧¬own (B.ι x)) (n0:¬own 0):Bx h' B σ F0:=
 ⟨X.bv.ch c n2 fun J J J=>rfl,X.ββ,X.ii,X.iz,let⟨l,e⟩:=X.z0;⟨l,c.keep _ _ e (.inl n0)⟩⟩
theorem Bd.draw {ds:List Int}(D:Bd h τ δ fs es W B F0 k q i) (c:Ch (fun j=>j=q) h h') (g:h'[q]?=some (.list (ds.map V.int))):Bd h' τ δ fs es W B F0 k q i:=by
 obtain⟨ds0,dk⟩:=D.deck
 obtain⟨l0,z0⟩:=D.wx.z0
 have t1:=D.wx.tt.ne_list dk
 refine⟨D.wx.chg c t1 (fun x hx=>?_) (Ne.symm D.sq.1),D.bx.chg c (fun x hx=>?_) (Ne.symm D.sq.1),D.good,D.lv1,⟨ds,g⟩,D.sq,D.s2,D.pls,D.cnt⟩
 ·obtain⟨_,_,_,w⟩:=D.wx.vw.at hx
  have:=D.sq.2 x hx
  exact⟨w.ne_list dk,Ne.symm this.1,Ne.symm this.2.1⟩
 ·obtain⟨s1,k1,h1⟩:=num_node hx
  obtain⟨f,g1,_⟩:=(D.bx.bv.at _ h1).inst
  have:=D.sq.2 x hx
  exact⟨fun e=>by rw[e,dk]at g1;(cases g1),Ne.symm this.2.2⟩
theorem Bd.mid (D:Bd h τ δ fs es W B F0 k q i) (b:Bq h h1 B B' σ' F0 F1):Wx h1 τ δ fs es W F0 k∧∃ds:List Int,h1[q]?=some (.list (ds.map V.int)):=by
 obtain⟨ds0,dk⟩:=D.deck
 have bty:∀x∈F0.nums,∃f,h[B.β x]?=some (.dictS f):=fun x hx=>by
  obtain⟨s1,k1,h1⟩:=num_node hx
  obtain⟨f,g1,_⟩:=(D.bx.bv.at _ h1).inst
  exact⟨f,g1⟩
 have ity:∀x∈F0.nums,∃f,h[B.ι x]?=some (.list f):=fun x hx=>by
  obtain⟨s1,k1,h1⟩:=num_node hx
  exact⟨_,(D.bx.bv.at _ h1).kids⟩
 have no1:∀{j:Nat} {o:O},h[j]?=some o→(∀f,o≠.dictS f)→(∀f,o≠.list f)→¬OwnB B F0 j:=fun{j o} e n1 n2 ⟨x,hx,z⟩=>by
  rcases z with z | z
  ·obtain⟨f,g⟩:=bty x hx
   rw[z,g]at e;cases e;exact n1 _ rfl
  ·obtain⟨f,g⟩:=ity x hx
   rw[z,g]at e;cases e;exact n2 _ rfl
 have no2:∀{j:Nat} {vs:List V},h[j]?=some (.list vs)→(∀x∈F0.nums,j≠B.ι x)→¬OwnB B F0 j:=fun{j vs} e n1 ⟨x,hx,z⟩=>by
  rcases z with z | z
  ·obtain⟨f,g⟩:=bty x hx
   rw[z,g]at e;cases e
  ·exact n1 x hx z
 obtain⟨l0,z0⟩:=D.wx.z0
 refine⟨D.wx.chg b.ch ⟨no1 D.wx.tt.inst (fun J z=>by contradiction) (fun J z=>by contradiction),no1 D.wx.tt.dict (fun J z=>by contradiction) (fun J z=>by contradiction)⟩ (fun x hx=>?_) (no2 z0 fun x hx=>Ne.symm (D.bx.iz x hx)),ds0,b.ch.keep _ _ dk (.inl (no2 dk fun x hx=>(D.sq.2 x hx).2.2))⟩
 obtain⟨_,_,_,w⟩:=D.wx.vw.at hx
 obtain⟨fl,w1,_⟩:=w.inst
 exact⟨no1 w1 (fun J z=>by contradiction) (fun J z=>by contradiction),no2 w.kids fun y hy=>(D.s2 x hx y hy).1,no2 w.ear fun y hy=>(D.s2 x hx y hy).2⟩
theorem Bd.step (D:Bd h τ δ fs es W B F0 k q i) (b:Bq h h1 B B' σ' F0 F1) (s:Sp h1 h2 τ δ W W' fs' es' F0 F1 k') (eσ:W'.σ=σ') (g:Good W'.σ W'.ρ F1) (lv:1∈lvs F1) (ct:F1.count≤1+2*(i+1)):Bd h2 τ δ fs' es' W' B' F1 k' q (i+1):=by
 subst eσ
 obtain⟨X1,ds1,dk1⟩:=D.mid b
 obtain⟨ds0,dk⟩:=D.deck
 have lq:=lt_of_get dk
 have wty:∀x∈F0.nums,∃f,h1[W.ω x]?=some (.inst 0 f):=fun x hx=>by
  obtain⟨_,_,_,w⟩:=X1.vw.at hx
  obtain⟨fl,w1,_⟩:=w.inst
  exact⟨fl,w1⟩
 have kty:∀x∈F0.nums,∃f,h1[W.κ x]?=some (.list f):=fun x hx=>by
  obtain⟨_,_,_,w⟩:=X1.vw.at hx
  exact⟨_,w.kids⟩
 have no1:∀{j:Nat} {f:List (Nat×V)},h1[j]?=some (.dictS f)→¬OwnT τ δ W F0 j:=fun{j f} e z=>by
  rcases z with z | z | ⟨x,hx,z | z⟩
  ·have:=X1.tt.inst;rw[← z,e]at this;cases this
  ·have:=X1.tt.dict;rw[← z,e]at this;cases this
  ·obtain⟨f,g⟩:=wty x hx;rw[← z,e]at g;cases g
  ·obtain⟨f,g⟩:=kty x hx;rw[← z,e]at g;cases g
 have no2:∀{j:Nat} {f:List V},h1[j]?=some (.list f)→(∀x∈F0.nums,j≠W.κ x)→¬OwnT τ δ W F0 j:=fun{j f} e n z=>by
  rcases z with z | z | ⟨x,hx,z | z⟩
  ·have:=X1.tt.inst;rw[← z,e]at this;cases this
  ·have:=X1.tt.dict;rw[← z,e]at this;cases this
  ·obtain⟨f,g⟩:=wty x hx;rw[← z,e]at g;cases g
  ·exact n x hx z
 have kl:∀x∈F0.nums,W.κ x<h.length∧W.ε x<h.length:=fun x hx=>by
  obtain⟨_,_,_,w⟩:=D.wx.vw.at hx
  exact⟨w.lts.2.1,w.lts.2.2⟩
 have il:∀x∈F1.nums,∃f g,h1[B'.β x]?=some (.dictS f)∧h1[B'.ι x]?=some (.list g):=fun x hx=>by
  obtain⟨s1,k1,h1⟩:=num_node hx
  have w:=b.bx.bv.at _ h1
  obtain⟨f,g1,_⟩:=w.inst
  exact⟨f,_,g1,w.kids⟩
 have ki:∀x∈F0.nums,∀y∈F1.nums,W.κ x≠B'.ι y∧W.ε x≠B'.ι y:=fun x hx y hy=>by
  have l1:=kl x hx
  rcases(b.nb y hy).2 with⟨q1,q2⟩ | q1
  ·rw[q2];exact D.s2 x hx y q1
  ·exact⟨fun e=>by lia,fun e=>by lia⟩
 obtain⟨l0,z0⟩:=X1.z0
 refine⟨s.wx,b.bx.chg s.ch (fun x hx=>?_) (no2 z0 fun x hx=>Ne.symm (X1.kz x hx)),g,lv,⟨ds1,s.ch.keep _ _ dk1 (.inl (no2 dk1 fun x hx=>(D.sq.2 x hx).1))⟩,⟨D.sq.1,fun x hx=>?_⟩,fun x hx y hy=>?_,s.pls,ct⟩
 ·obtain⟨f,g,g1,g2⟩:=il x hx
  exact⟨no1 g1,no2 g2 fun y hy=>Ne.symm (ki y hy x hx).1⟩
 ·have l1:=b.ch.len
  obtain⟨n1,n2,n3⟩:=s.nw x hx
  refine⟨?_,?_,?_⟩
  ·rcases n1 with⟨q1,q2⟩ | q1
   ·rw[q2];exact(D.sq.2 x q1).1
   ·lia
  ·rcases n2 with⟨q1,q2⟩ | q1
   ·rw[q2];exact(D.sq.2 x q1).2.1
   ·lia
  ·rcases(b.nb x hx).2 with⟨q1,q2⟩ | q1
   ·rw[q2];exact(D.sq.2 x q1).2.2
   ·lia
 ·obtain⟨n1,n2,n3⟩:=s.nw x hx
  obtain⟨f,g,g1,g2⟩:=il y hy
  have ly:=lt_of_get g2
  refine⟨?_,?_⟩
  ·rcases n1 with⟨q1,q2⟩ | q1
   ·rw[q2];exact(ki x q1 y hy).1
   ·lia
  ·rcases n2 with⟨q1,q2⟩ | q1
   ·rw[q2];exact(ki x q1 y hy).2
   ·lia
end
end Mine
namespace Mine
section
variable {h h' h₀ h1 h2:Hp}{W W':WS}{B B':BS}{es es':List (Int×V)}{fs fs':List (Nat×V)}{τ δ q i:Nat}{σ σ':Int→Int→Int}{m s a x:Int}{own:Nat→Prop}{Z:Hp→Prop}{Q:V→Hp→Prop}{F0 F1 F2 G:F}{k k':Int}
theorem Bd.ways (D:Bd h τ δ fs es W B F0 k q i):∀x∈allF (fun J=>[]) 0 F0,WayOk h es W x.1 x.2.1 x.2.2.1.roots x.2.2.2∧(∀u∈x.2.2.2,(u.m,u.s,u.kids)∈F0.nodes∧u.nth<u.kids.roots.length)∧(x.1,x.2.1,x.2.2.1)∈F0.nodes∧x.2.2.2.length≤0+F0.count:=
 all_ways (F0:=F0) (fun x hx=>by have:=D.good.pos x hx;exact Int.ne_of_gt (by assumption)) D.wx.vw D.good.rho (fun J h=>h) (fun J J J=>rfl) (fun J J hu=>by contradiction) fun J=>Nat.le_refl _
theorem Bq.ro (b:Bq h1 h2 B B' σ' F0 F1) (r:Ro h h1):Bq h h2 B B' σ' F0 F1:=by
 have l:=r.len
 exact⟨b.bx,fun x hx=>⟨(b.nb x hx).1.imp id fun z=>by exact Nat.le_trans (by assumption) (by assumption),(b.nb x hx).2.imp id fun z=>by exact Nat.le_trans (by assumption) (by assumption)⟩,(Ch.mem r fun J z=>z.elim).trans b.ch⟩
theorem root_leaf {x0:Int×Int×F}{ρ:Int→Int}(nd:(F.one x0).nums.Nodup) (hm:(m,(0:Int),F.nil)∈(F.one x0).nodes) (rho:Rho ρ 0 (F.one x0)) (pos:∀x∈(F.one x0).nums,0<x) (h0:ρ m=0):x0=(m,(0:Int),F.nil):=by
 rcases kid_or_root (nodes_num hm)with h | ⟨y,hy,h⟩
 ·simp only[F.one,F.roots0,F.roots1,List.mem_cons,List.not_mem_nil,or_false]at h
  subst h
  have h1:(x0.1,x0.2.1,x0.2.2)∈(F.one x0).nodes:=by simp[F.one,F.nodes1]
  obtain⟨e1,e2⟩:=node_unique nd h1 hm
  obtain⟨a1,a2,a3⟩:=x0
  dsimp only at e1 e2⊢
  rw[e1,e2]
 ·have:=(Rho.at rho).2 y hy m h
  have:=pos _ (nodes_num hy)
  lia
theorem root_not {x0:Int×Int×F}{ρ:Int→Int}{p:Int}(rho:Rho ρ 0 (F.one x0)) (hp:ρ m=p) (pz:p≠0):x0.1≠m:=fun e=>by
 have:=(Rho.at rho).1 x0.1 (by simp[F.one,F.roots1])
 rw[e]at this;lia
theorem put_head {x0:Int×Int×F}(ne:x0.1≠m):((F.one x0).put m G).head=x0.1:=by simp[F.one,F.put0,F.put1,ne,F.head]
theorem call28s {n nth:Nat}{hd:Bool}{sz:Option Int}(D:Bd h τ δ fs es W B F0 k q i) (hm:(lvs F0)[nth]?=some m) (ha:a=0∨a=1) (hc:F0.count<30)
  (xB:(m,(0:Int),F.nil)∈F0.nodes→∀h',(W.σ m a-amt (W.σ m a) sz<lo a∨amt (W.σ m a) sz<lo a)→Ro h h'→Q .none h')
  (xJ:(m,(0:Int),F.nil)∈F0.nodes→lo a≤W.σ m a-amt (W.σ m a) sz→lo a≤amt (W.σ m a) sz→∀h' (p sp:Int) (K:F) (j:Nat) (B':BS),(p,sp,K)∈F0.nodes→K.roots[j]?=some m→along sp=a→sp≠0→Bq h h' B B' (insS W.σ m a (amt (W.σ m a) sz) (k+1)) F0 (F0.put m (pairF hd (k+1) m))→Q (.ref (B'.β (F0.put m (pairF hd (k+1) m)).head)) h')
  (xN:(m,(0:Int),F.nil)∈F0.nodes→lo a≤W.σ m a-amt (W.σ m a) sz→lo a≤amt (W.σ m a) sz→∀h' (B':BS),Wr W F0 m a→Bq h h' B B' (insS (wrS W.σ m (k+1)) m a (amt (W.σ m a) sz) (k+1+1)) F0 (F0.put m (wrapF (sortAlong a) (k+1) (pairF hd (k+1+1) m)))→Q (.ref (B'.β (F0.put m (wrapF (sortAlong a) (k+1) (pairF hd (k+1+1) m))).head)) h') :
  callP prog (n+3) 28 [.ref (B.β F0.head),.int nth,lszV sz,.str (axS a),.bool hd] h Q Z:=by
 have ways:=D.ways
 have g:=D.good
 obtain⟨x0,e0,_⟩:=g.one
 subst e0
 refine c28 ?_
 have bn:=D.wx.nf
 have bn2:k+1+1∉(F.one x0).nums:=fun z=>by have:=D.wx.pos _ z;lia
 have xn:x0.1∈(F.one x0).nums:=.head _
 refine pick28 (n:=n) D.bx g.full (by exact Nat.lt_of_lt_of_le (by assumption) (by decide)) (fun q hq=>(ways q hq).2.2.1) hm fun h1 w way ro hq hwb=>?_
 obtain⟨w1,w2,w3,w4⟩:=ways _ hq
 dsimp only at w1 w2
 have w3:(m,(0:Int),F.nil)∈(F.one x0).nodes:=w3
 have mn:=nodes_num w3
 have D1:=D.ro ro
 have f2:k+1≠m:=fun e=>bn (e▸mn)
 have f1:k+1+1≠m:=fun e=>bn2 (e▸mn)
 have bf:k+1≠k+1+1:=by lia
 cases way with
 | nil=>
  have r0:W.ρ m=0:=(Wn.pr w1).symm
  have ex:=root_leaf g.nd w3 g.rho g.pos r0
  subst ex
  refine mid28 (n:=n) (f:=k+1+1) D1.bx w3 ha f1 (fun h2 bad r2=>xB w3 h2 bad (ro.trans r2)) fun h2 d l pl l1 l2 a1 a2 a3 gp b1 b2 ch=>?_
  refine end28r (n:=n) (b:=k+1) D1.bx ha f1 f2 bf ⟨a1,a2,a3,gp,b1,b2,ch⟩ hwb fun h3 B' bq=>?_
  have eh:((leafF m).put m (wrapF (sortAlong a) (k+1) (pairF hd (k+1+1) m))).head=k+1:=by simp[leafF,F.put0,F.put1,F.app0,F.app1,wrapF,F.head]
  have:=xN w3 l1 l2 h3 B' ⟨w3,.inl ⟨r0,rfl⟩,ha⟩ (Bq.ro bq ro)
  rw[← eh]
  exact this
 | cons u up=>
  have wu1:=w1.1;have wu2:=w1.2.1;have wu3:=w1.2.2.1;have wu4:=w1.2.2.2
  have um:=(w2 u (.head _)).1
  have r0:W.ρ m=u.m:=wu1.pr.symm
  have ne:=root_not g.rho r0 wu2
  have us:u.s=1∨u.s=2:=(g.srt.at _ um).resolve_left fun z=>by
   rw[show u.kids=.nil from(g.full.at _ um).mp z]at wu3;contradiction
  have zs:u.s≠0:=us.elim (fun e=>by rw[e];decide) fun e=>by rw[e];decide
  have uq:∀y∈(F.one x0).nodes,m∈y.2.2.roots→y.1=u.m:=fun y hy hmy=>((Rho.at g.rho).2 y hy m hmy).symm.trans r0
  by_cases al:along u.s=a
  ·refine mid28 (n:=n) (f:=k+1) D1.bx w3 ha f2 (fun h2 bad r2=>xB w3 h2 bad (ro.trans r2)) fun h2 d l pl l1 l2 a1 a2 a3 gp b1 b2 ch=>?_
   refine end28j (n:=n) (x0:=x0) D1.bx g.nd w3 ha bn (by exact Nat.lt_of_lt_of_le (by assumption) (by decide)) ⟨a1,a2,a3,gp,b1,b2,ch⟩ hwb um wu3 us al uq fun h3 bq=>?_
   have:=xJ w3 l1 l2 h3 u.m u.s u.kids u.nth _ um wu3 al zs (Bq.ro bq ro)
   rw[put_head ne,(BS.nuβ (show x0.1≠k+1 from fun e=>bn (e▸xn))).1]at this
   exact this
  ·refine mid28 (n:=n) (f:=k+1+1) D1.bx w3 ha f1 (fun h2 bad r2=>xB w3 h2 bad (ro.trans r2)) fun h2 d l pl l1 l2 a1 a2 a3 gp b1 b2 ch=>?_
   refine end28n (n:=n) (b:=k+1) (x0:=x0) D1.bx g.nd w3 ha bn2 bn bf ⟨a1,a2,a3,gp,b1,b2,ch⟩ hwb um wu3 us al uq xn fun h3 B' eB bq=>?_
   have:=xN w3 l1 l2 h3 B' ⟨w3,.inr ⟨u.s,u.kids,u.nth,by rw[r0];exact um,wu3,al,by rw[r0];exact wu2⟩,ha⟩ (Bq.ro bq ro)
   rw[put_head ne]at this
   exact this
end
end Mine
namespace Mine
section
variable {h h' h₀ h1 h2 h3:Hp}{W W':WS}{B B':BS}{es es':List (Int×V)}{fs fs':List (Nat×V)}{τ δ q i:Nat}{σ σ':Int→Int→Int}{m s a x:Int}{own:Nat→Prop}{Z:Hp→Prop}{Q:V→Hp→Prop}{F0 F1 F2 G:F}{k k':Int}
theorem Sp.ro (b:Sp h1 h2 τ δ W W' fs' es' F0 F1 k') (r:Ro h h1):Sp h h2 τ δ W W' fs' es' F0 F1 k':=⟨b.wx,b.pls,(Ro.any r).trans b.ch,b.nw.le r.len⟩
theorem call18b {n:Nat}{hd:Bool}{sz:Option Int}(X:Wx h τ δ fs es W F0 k) (hm:(m,(0:Int),F.nil)∈F0.nodes) (ha:a=0∨a=1) (hsz:∀k,sz=some k→0<k) (bad:W.σ m a-amt (W.σ m a) sz<lo a∨amt (W.σ m a) sz<lo a) (hZ:∀h',Ro h h'→Z h') :
  callP prog (n+4) 18 [.ref τ,.int m,szV sz,.int a,.bool hd] h Q Z:=
 c18 (call16 (n:=n) ha X.tt (X.wn hm) hsz (fun t h1 ro l1 l2 gt=>bad.elim (fun e=>absurd l1 (Int.not_le.mpr e)) fun e=>absurd l2 (Int.not_le.mpr e)) fun h1 ro J=>hZ h1 ro)
noncomputable def f29T:List I:=f29.drop 45
theorem sz29 {c:Env'}{P:PP}{K:Kt}{l:List I}{v0 v1 v2 v3 v4 v6:V}{sz:Option Int}{o:Option V}(x:go c P K l (fc v0 (fc v1 (fc v2 (fc v3 (fc v4 (fc (lszV sz) (fc v6 (fc (szV sz) (fz 0))))))))) h []) :
  go c P K (.var 5::.push .none::.cmp .isn::.br [.push .none] [.push (.int 0),.var 5,.bin .sub]::.st 7::l) (fc v0 (fc v1 (fc v2 (fc v3 (fc v4 (fc (lszV sz) (fc v6 (fo o (fz 0))))))))) h []:=by
 cases sz with
 | none=>exact w_some (w_tt x)
 | some k=>exact w_some (w_ff (w_ok x))
theorem tail29 {n nth e4:Nat}{v6 v2 ro:V}{sz:Option Int}{K:Kt}(X:Wx h τ δ fs es W F0 k) (hm:(lvs F0)[nth]?=some m) (he:e4<4) (hax:[V.int 1,V.int 0][e4 / 2]?=some (.int a))
  (xx:∀h',Ro h h'→callP prog (n+4) 18 [.ref τ,.int m,szV sz,.int a,.bool (decide ((e4:Int) % 2=1))] h' (fun v h2=>wN v (Q v6 h2)) (wH (.ifNone 6 1) Q (fc (.ref τ) (fc ro (fc v2 (fc (.int nth) (fc (.int e4) (fc (lszV sz) (fc v6 (fc (szV sz) (fz 0))))))))))) :
  go (cn prog (n+4)) (pF Q Z) K f29T (fc (.ref τ) (fc ro (fc v2 (fc (.int nth) (fc (.int e4) (fc (lszV sz) (fz 2))))))) h [v6]:=by
 obtain⟨x0,e0⟩:=X.one
 subst e0
 have few:x0.2.2.count+0+1<100:=X.few
 have e2:((e4:Int) / 2)=((e4 / 2:Nat):Int):=rfl
 refine sz29 (o:=none) ?_
 refine call3 (n:=n+2) (m:=x0.1) (s:=x0.2.1) (kd:=x0.2.2) X.tt X.vw X.full (by omega) fun i1 h1 hi1 g1 ro1=>?_
 refine w_ix (i:=nth) (v:=.int m) g1 (by rw[List.getElem?_map,show(lvs (.node x0.1 x0.2.1 x0.2.2 .nil))[nth]?=some m from hm];rfl) ?_
 refine w_list (show 2≤lim by rw[lim_eq];decide) fun i2 h2 J g2 o2=>?_
 refine w_div (by decide) (by decide) ?_
 refine w_ix (i:=e4 / 2) g2 hax ?_
 refine w_mod (by decide) ?_
 refine w_some ?_
 exact xx h2 (ro1.trans o2)
theorem put_count {G:F}{nw:List Int}(nd:F0.nums.Nodup) (hm:(m,(0:Int),F.nil)∈F0.nodes) (p:G.nums.Perm (m::nw)):(F0.put m G).count=nw.length+F0.count:=by
 have:=(put_perm p nd hm).length_eq
 rwa[List.length_append,F.nums_length,F.nums_length]at this
theorem pair_lvs {hd:Bool}{f:Int}:m∈lvs (pairF hd f m):=by cases hd<;>simp[pairF,lvs1]
theorem wrap_lvs {hd:Bool}{b f:Int}(ha:a=0∨a=1):m∈lvs (wrapF (sortAlong a) b (pairF hd f m)):=by
 have sn:sortAlong a≠0:=by rcases ha with rfl | rfl<;>decide
 cases hd<;>simp[pairF,lvs0,lvs1,wrapF,sn]
theorem call29 {n:Nat}(D:Bd h τ δ fs es W B F0 k q i) (hi:i<6) (x:∀h' fs' es' W' B' F1 k',Bd h' τ δ fs' es' W' B' F1 k' q (i+1)→Q (.ref (B'.β F1.head)) h'):callP prog (n+5) 29 [.ref τ,.ref (B.β F0.head),.ref q] h Q Z:=by
 have cnt:=D.cnt
 refine c29 ?_
 obtain⟨x0,e0,_⟩:=D.good.one
 have tt0:=D.wx.tt
 have vw0:=D.wx.vw
 have fu0:=D.wx.full
 have c0:=D.cnt
 rw[e0]at tt0 vw0 fu0 c0
 have c0:x0.2.2.count+0+1≤1+2*i:=c0
 refine call3 (n:=n+2) (m:=x0.1) (s:=x0.2.1) (kd:=x0.2.2) tt0 vw0 fu0 (by lia) fun i1 h1 hi1 g1 ro1=>?_
 have g1:h1[i1]?=some (.list ((lvs F0).map V.int)):=by rw[e0];exact g1
 refine w_len g1 ?_
 have D1:=D.ro ro1
 obtain⟨ds1,dk1⟩:=D1.deck
 have lpos:0<(lvs F0).length:=List.length_pos_of_mem D.lv1
 refine call21 (n:=n+3) D.sq.1 (by rw[List.length_map];lia) dk1 fun d0 ds2 h2 a1 a2 J c2 dk2=>?_
 rw[List.length_map]at a2
 refine call21 (n:=n+3) D.sq.1 (by simp) dk2 fun d4 ds3 h3 b1 b2 J c3 dk3=>?_
 refine w_tup fun t4 h4 J g4 o4=>?_
 refine w_tg g4 rfl ?_
 have D4:=((D1.draw c2 dk2).draw c3 dk3).ro o4
 refine call21 (n:=n+3) D.sq.1 (by simp) (o4.get dk3) fun e1 ds5 h5 b3 b4 J c5 dk5=>?_
 refine w_ok ?_
 refine call21 (n:=n+3) D.sq.1 (by simp) dk5 fun e2 ds6 h6 b5 b6 J c6 dk6=>?_
 refine w_ok ?_
 refine w_list (show 3≤lim by rw[lim_eq];decide) fun j7 h7 l7 g7 o7=>?_
 have D7:=((D4.draw c5 dk5).draw c6 dk6).ro o7
 refine call21 (n:=n+3) D.sq.1 (by simp) (o7.get dk6) fun e3 ds8 h8 b7 b8 J c8 dk8=>?_
 have D8:=D7.draw c8 dk8
 have g8:=c8.ne g7 (Nat.ne_of_gt (Nat.lt_of_lt_of_le (lt_of_get dk6) l7))
 obtain⟨e3,rfl⟩:=Int.eq_ofNat_of_zero_le b7
 obtain⟨e4,rfl⟩:=Int.eq_ofNat_of_zero_le b1
 obtain⟨nth,rfl⟩:=Int.eq_ofNat_of_zero_le a1
 obtain⟨sz,es1,szp⟩:∃sz:Option Int,[V.none,V.int (3+e1),V.int (2+e2)][e3]?=some (lszV sz)∧∀k,sz=some k→0<k:=by
  have:e3=0∨e3=1∨e3=2:=by lia
  rcases this with rfl | rfl | rfl
  ·exact⟨none,rfl,fun J z=>by contradiction⟩
  ·exact⟨some (3+e1),rfl,fun k z=>by cases z;lia⟩
  ·exact⟨some (2+e2),rfl,fun k z=>by cases z;lia⟩
 refine w_ix (i:=e3) g8 es1 ?_
 refine w_list (show 2≤lim by rw[lim_eq];decide) fun j9 h9 l9 g9 o9=>?_
 obtain⟨a,ha,ax1,ax2⟩:∃a:Int,(a=0∨a=1)∧[V.str 43,V.str 49][e4 / 2]?=some (.str (axS a))∧[V.int 1,V.int 0][e4 / 2]?=some (.int a):=by
  have:e4 / 2=0∨e4 / 2=1:=by lia
  rcases this with z | z
  ·rw[z];exact⟨1,.inr rfl,rfl,rfl⟩
  ·rw[z];exact⟨0,.inl rfl,rfl,rfl⟩
 refine w_div (by decide) (by decide) ?_
 refine w_ix (i:=e4 / 2) g9 ax1 ?_
 refine w_mod (by decide) ?_
 refine w_some ?_
 have D9:=D8.ro o9
 have hm:(lvs F0)[nth]?=some (lvs F0)[nth]:=List.getElem?_eq_getElem (by omega)
 generalize (lvs F0)[nth]=m at hm
 have he:e4<4:=by lia
 have ml:m∈lvs F0:=List.mem_of_getElem? hm
 have kn:=D.wx.nf
 have bd:(m,(0:Int),F.nil)∈F0.nodes→0<k∧lo a≤W.σ m a∧W.σ m a≤1000:=fun w3=>by
  have:=D.wx.pos m (nodes_num w3)
  have:=D.good.low m (nodes_num w3) a
  have qq:lead a (.node m 0 .nil .nil)≤W.σ m a:=(((D.good.fit ha).nodes _ w3).1).1
  have:lead a (.node m 0 .nil .nil)=lo a:=rfl
  lia
 refine call28s (n:=n+1) D9 hm ha (by lia) (fun w3 hA bad roA=>?_) (fun w3 g1 g2 hA p sp K j B' hp hk al hs bq=>?_) fun w3 g1 g2 hA B' Y bq=>?_
 ·have DA:=D9.ro roA
  refine tail29 (n:=n) DA.wx hm he ax2 fun hB roB=>?_
  have DB:=DA.ro roB
  refine call18b (n:=n) DB.wx w3 ha szp bad fun hC roC=>?_
  refine w_o rfl (w_o rfl (w_some (w_tt ?_)))
  have DC:=DB.ro roC
  exact x _ _ _ _ _ _ _ ⟨DC.wx,DC.bx,DC.good,DC.lv1,DC.deck,DC.sq,DC.s2,DC.pls,by lia⟩
 ·have J:=bd w3;have kp:=J.1;have bd:=J.2
  have XA:=(D9.mid bq).1
  refine tail29 (n:=n) XA hm he ax2 fun hB roB=>?_
  refine call18j (n:=n) (XA.ro roB) w3 hp hk hs al ha (by lia) bd szp (fun J b=>by lia) fun hC fs' es' W' l1' l2' sp' eσ eρ=>?_
  have ct:=put_count D.good.nd w3 (pair_nums (hd:=decide ((e4:Int) % 2=1)) (f:=k+1) (m:=m))
  have ct:_=1+F0.count:=ct
  have gd:=D.good.ins (hd:=decide ((e4:Int) % 2=1)) (f:=k+1) ha w3 hp (List.mem_of_getElem? hk) al hs kn (by lia) g2 g1 (by lia)
  rw[← eσ,← eρ]at gd
  exact x _ _ _ _ _ _ _ (D9.step bq (sp'.ro roB) eσ gd (put_lvs pair_lvs D.good.nd w3 D.lv1) (by lia))
 ·have J:=bd w3;have kp:=J.1;have bd:=J.2
  have XA:=(D9.mid bq).1
  refine tail29 (n:=n) XA hm he ax2 fun hB roB=>?_
  refine call18n (n:=n) (XA.ro roB) Y (by lia) bd szp (fun J b=>by lia) fun hC fs' es' W' l1' l2' sp' eσ eρ=>?_
  have ct:=put_count D.good.nd w3 (wrap_nums (m:=m) (hd:=decide ((e4:Int) % 2=1)) (s:=sortAlong a) (b:=k+1) (f:=k+1+1))
  have ct:_=2+F0.count:=ct
  have hal:∀x∈F0.nodes,m∈x.2.2.roots→along x.2.1≠a:=fun x hx hmx=>by
   have ex:W.ρ m=x.1:=(Rho.at D.good.rho).2 x hx m hmx
   rcases Y.par with⟨q1,_⟩ | ⟨sp,K,j,q1,q2,q3,q4⟩
   ·exact absurd (ex.symm.trans q1) (Int.ne_of_gt (D.wx.pos _ (nodes_num hx)).1)
   ·have:(x.1,x.2.1,x.2.2)∈F0.nodes:=hx
    rw[← ex]at this
    rw[(node_unique D.good.nd this q1).1]
    exact q3
  have gd:=D.good.wr (hd:=decide ((e4:Int) % 2=1)) (b:=k+1) (f:=k+1+1) ha w3 hal kn (by lia) (fun z=>by have:=D.wx.pos _ z;lia) (by lia) (by lia) g2 g1 (by lia)
  rw[← eσ,← eρ]at gd
  exact x _ _ _ _ _ _ _ (D9.step bq (sp'.ro roB) eσ gd (put_lvs (wrap_lvs ha) D.good.nd w3 D.lv1) (by lia))
end
end Mine
namespace Mine
section
variable {h h' h₀ h1 h2 h3:Hp}{es es':List (Int×V)}{fs fs':List (Nat×V)}{τ δ q i:Nat}{own:Nat→Prop}{Z:Hp→Prop}{Q:V→Hp→Prop}
noncomputable def treeF (δ:Nat):List (Nat×V):=[(28,.ref δ),(13,.int 1),(8,.int 1),(16,.int 3),(15,.int 2),(21,.int 1),(22,.int 1)]
noncomputable def firstW (wide high:Int) (κ ε l:Nat):List (Nat×V):=putF 26 (.int 1) (putF 6 (.int 1) (putF 10 (.int high) (putF 27 (.int wide) (newWin 1 0 0 κ ε l))))
theorem call40 {n τ:Nat}{wide high:Int}(gt:h[τ]?=some (.inst 1 [])) (hz:τ≠0) (x:∀δ w κ ε l h',h.length≤δ→h.length≤w→w<κ→κ<ε→h'[τ]?=some (.inst 1 (treeF δ))→h'[δ]?=some (.dictI [(1,.ref w)])→h'[w]?=some (.inst 0 (firstW wide high κ ε l))→h'[κ]?=some (.list [])→h'[ε]?=some (.list [])→Ch (fun i=>i=τ) h h'→Q .none h') :
  callP prog (n+3) 40 [.ref τ,.int wide,.int high,.int 1,.int 3,.int 2] h Q Z:=by
 have lτ:=lt_of_get gt
 refine c40 ?_
 refine w_dict fun δ h1 lδ d1 o1=>?_
 have tδ:τ≠δ:=Nat.ne_of_lt (Nat.lt_of_lt_of_le lτ lδ)
 refine w_set (o1.get gt) (show 0<100 by decide) hz fun h2 t2 o2=>?_
 refine w_set t2 (show 1<100 by decide) hz fun h3 t3 o3=>?_
 refine w_set t3 (show 2<100 by decide) hz fun h4 t4 o4=>?_
 refine w_set t4 (show 3<100 by decide) hz fun h5 t5 o5=>?_
 refine w_set t5 (show 4<100 by decide) hz fun h6 t6 o6=>?_
 have t6:h6[τ]?=some (.inst 1 [(28,.ref δ),(13,.int 0),(8,.int 0),(16,.int 3),(15,.int 2)]):=t6
 have o26:=o2.trans (o3.trans (o4.trans (o5.trans o6)))
 have d6:=o26.ne d1 (Ne.symm tδ)
 have l6:=Nat.le_trans o1.len o26.len
 refine w_meth t6 rfl rfl ?_
 refine call41w (n:=n) (k:=0) t6 d6 rfl (show 5≤20 by decide) rfl ⟨hz,Nat.ne_of_gt (Nat.lt_of_le_of_lt (Nat.zero_le _) (Nat.lt_of_lt_of_le lτ lδ))⟩ (show 0<1000 by decide) fun w κ ε l h7 lw lκ lε w7 κ7 ε7 t7 d7 o7=>?_
 have lδ6:=lt_of_get d6
 have wz:w≠0:=Nat.ne_of_gt (Nat.lt_of_le_of_lt (Nat.zero_le _) (Nat.lt_of_lt_of_le lδ6 lw))
 have δw:δ≠w:=Nat.ne_of_lt (Nat.lt_of_lt_of_le lδ6 lw)
 have wτ:τ≠w:=Nat.ne_of_lt (Nat.lt_of_lt_of_le (Nat.lt_of_lt_of_le lτ l6) lw)
 have t7:h7[τ]?=some (.inst 1 [(28,.ref δ),(13,.int 1),(8,.int 0),(16,.int 3),(15,.int 2)]):=t7
 refine w_set w7 (show 16<100 by decide) wz fun h8 w8 o8=>?_
 refine w_set w8 (show 16<100 by decide) wz fun h9 w9 o9=>?_
 refine w_set w9 (show 16<100 by decide) wz fun ha wa oa=>?_
 have o8a:=o8.trans (o9.trans oa)
 refine w_attr (v:=.int 1) wa rfl ?_
 refine w_set (o8a.ne t7 wτ) (show 5<100 by decide) hz fun hb tb ob=>?_
 refine w_attr (v:=.int 1) (ob.ne wa (Ne.symm wτ)) rfl ?_
 refine w_set tb (show 6<100 by decide) hz fun hc tc oc=>?_
 have tc:hc[τ]?=some (.inst 1 [(28,.ref δ),(13,.int 1),(8,.int 0),(16,.int 3),(15,.int 2),(21,.int 1),(22,.int 1)]):=tc
 have obc:=ob.trans oc
 have wc:=obc.ne wa (Ne.symm wτ)
 refine w_meth tc rfl rfl ?_
 refine w_attr (v:=.int 1) wc rfl ?_
 refine c43 ?_
 refine w_attr (v:=.int 0) tc rfl ?_
 refine w_ok ?_
 refine w_set tc (show 7<100 by decide) hz fun hd td od=>?_
 refine w_attr (v:=.int 1) td rfl ?_
 have dd:=od.ne (obc.ne (o8a.ne d7 δw) (Ne.symm tδ)) (Ne.symm tδ)
 refine w_attr (v:=.ref δ) td rfl ?_
 refine w_dk (v:=.ref w) dd rfl ?_
 refine w_set (od.ne wc (Ne.symm wτ)) (show 16<100 by decide) wz fun he we oe=>?_
 have wκ:=Nat.ne_of_gt lκ
 have wε:=Nat.ne_of_gt (Nat.lt_trans lκ lε)
 have τκ:=Nat.ne_of_gt (Nat.lt_trans (Nat.lt_of_lt_of_le (Nat.lt_of_lt_of_le lτ l6) lw) lκ)
 have τε:=Nat.ne_of_gt (Nat.lt_trans (Nat.lt_of_lt_of_le (Nat.lt_of_lt_of_le lτ l6) lw) (Nat.lt_trans lκ lε))
 have c6:Ch (fun i=>i=τ) h h6:=(Ro.any o1).trans o26
 have hw:=Nat.le_trans c6.len lw
 have nw:∀{H H':Hp},Ch (fun i=>i=w) H H'→Ch (fun i=>i=τ) h H→Ch (fun i=>i=τ) h H':=fun x y=>y.loc x fun i hi e=>absurd hi (Nat.not_lt.mpr (e▸hw))
 exact x δ w κ ε l he lδ hw lκ lε (oe.ne td wτ) (oe.ne dd δw) we (oe.ne (od.ne (obc.ne (o8a.ne κ7 wκ) τκ) τκ) wκ) (oe.ne (od.ne (obc.ne (o8a.ne ε7 wε) τε) τε) wε)
  (nw oe ((nw o8a (c6.loc o7 fun i hi z=>z.elim id fun e=>absurd hi (Nat.not_lt.mpr (e▸lδ)))).trans (obc.trans od)))
end
end Mine
namespace Mine
section
variable {h h' h₀ h1 h2 h3:Hp}{W W':WS}{B B':BS}{es es':List (Int×V)}{fs fs':List (Nat×V)}{τ δ q i:Nat}{σ σ':Int→Int→Int}{m s a x:Int}{own:Nat→Prop}{Z:Hp→Prop}{Q:V→Hp→Prop}{F0 F1 F2 G:F}{k k':Int}
noncomputable def iniS (wide high:Int):Int→Int→Int:=fun J y=>if y=0 then wide else if y=1 then high else 0
theorem Bd.init {w κ ε l' d l:Nat}{wide high:Int}{ds:List Int}{l0:List V}(ht:h[τ]?=some (.inst 1 (treeF δ))) (hd:h[δ]?=some (.dictI [(1,.ref w)])) (hw:h[w]?=some (.inst 0 (firstW wide high κ ε l'))) (hκ:h[κ]?=some (.list [])) (hε:h[ε]?=some (.list [])) (hl:h[l]?=some (.list [])) (hdd:h[d]?=some (.dictS [(23,.str 47),(46,.ref l),(49,.int wide),(43,.int high)])) (hq:h[q]?=some (.list (ds.map V.int))) (h0:h[0]?=some (.list l0))
  (z1:q≠0) (z2:κ≠0) (z3:l≠0) (n1:q≠κ) (n2:q≠ε) (n3:q≠l) (n4:κ≠l) (n5:ε≠l) (n6:κ≠ε) (b1:3≤wide) (b2:wide≤63) (b3:2≤high) (b4:high≤63) :
  Bd h τ δ (treeF δ) [(1,.ref w)] ⟨iniS wide high,fun J J=>0,fun J=>w,fun J=>κ,fun J=>ε,fun J=>0⟩ ⟨fun J=>d,fun J=>l⟩ (leafF 1) 1 q 0:=by
 have one:∀x∈(leafF 1).nums,x=1:=fun x hx=>List.mem_singleton.mp hx
 have e1:∀x∈(leafF 1).nums,∀y∈(leafF 1).nums,x=y:=fun x hx y hy=>(one x hx).trans (one y hy).symm
 have nd:(leafF 1).nums.Nodup:=List.pairwise_singleton _ 1
 have pos:∀x∈(leafF 1).nums,0<x∧x≤1:=fun x hx=>by rw[one x hx];decide
 have full:Full (leafF 1):=⟨⟨fun J=>rfl,fun J=>rfl⟩,trivial,trivial⟩
 have alt:Alt 9 (leafF 1):=⟨by decide,trivial,trivial⟩
 have rho:Rho (fun J=>0) 0 (leafF 1):=⟨rfl,trivial,trivial⟩
 have s0:∀x,iniS wide high x 0=wide:=fun J=>rfl
 have s1:∀x,iniS wide high x 1=high:=fun J=>rfl
 have tt:Tt h τ δ (treeF δ) [(1,.ref w)] (leafF 1).head:=⟨ht,hd,rfl,rfl,rfl,rfl,rfl,fun i hi=>none29 hi rfl,show 7≤20 by simp⟩
 have wf:Wf ⟨iniS wide high,fun J J=>0,fun J=>w,fun J=>κ,fun J=>ε,fun J=>0⟩ 1 0 0 (firstW wide high κ ε l'):=⟨Nat.le_refl 16,rfl,rfl,rfl,rfl,rfl,rfl,rfl,rfl,rfl,⟨_,_,_,_,rfl,rfl,rfl,rfl⟩,fun i hi=>none29 hi rfl⟩
 have good:Good (iniS wide high) (fun J=>0) (leafF 1):=
  ⟨⟨(1,0,.nil),rfl,b2,b4⟩,⟨.inl rfl,trivial,trivial⟩,full,alt,⟨fun z=>absurd rfl z,trivial,trivial⟩,nd,⟨⟨show(3:Int)≤_ by rw[s0];exact b1,show iniS wide high 1 0≤1000 by rw[s0];exact Int.le_trans (by assumption) (by decide)⟩,trivial,trivial⟩,⟨⟨show(2:Int)≤_ by rw[s1];exact b3,show iniS wide high 1 1≤1000 by rw[s1];exact Int.le_trans (by assumption) (by decide)⟩,trivial,trivial⟩,⟨fun z=>absurd rfl z,trivial,trivial⟩,⟨fun z=>absurd rfl z,trivial,trivial⟩,fun x hx=>by rw[one x hx];decide,rho,show 1<40 by simp,fun x y h1 h2=>by unfold iniS;rw[if_neg h1,if_neg h2];decide⟩
 exact⟨⟨tt,⟨⟨0,⟨⟨_,hw,wf⟩,hκ,hε,rfl,rfl⟩⟩,trivial,trivial⟩,⟨(1,0,.nil),rfl⟩,full,nd,alt,rho,pos,rfl,.refl _,show 1<100 by simp,fun x hx y hy J=>e1 x hx y hy,fun J J J J=>n6,fun J J=>z2,⟨l0,h0⟩⟩,
  ⟨⟨⟨⟨_,hdd,rfl,rfl,show 4≤10 by simp,fun J=>rfl,fun J=>rfl⟩,hl⟩,trivial,trivial⟩,fun x hx y hy J=>e1 x hx y hy,fun x hx y hy J=>e1 x hx y hy,fun J J=>z3,⟨l0,h0⟩⟩,good,.head _,⟨ds,hq⟩,⟨z1,fun J J=>⟨n1,n2,n3⟩⟩,fun J J J J=>⟨n4,n5⟩,⟨rfl,rfl,trivial,trivial⟩,show 1≤1 by decide⟩
theorem next_rng {c st:Int}{n:Nat}:nextI (.rng c (n+1) st) h=some (some ([.int c],.rng (c+st) n st)):=rfl
theorem end_rng {c st:Int}:nextI (.rng c 0 st) h=some none:=rfl
theorem bl_loop {n t:Nat}{v0 v2 v3:V}{N:Fr→Hp→Prop}{T:V→Hp→Prop}{c:Nat}:∀{i:Nat}{cur:Int}{h:Hp}{fs:List (Nat×V)}{es:List (Int×V)}{W:WS}{B:BS}{F0:F}{k:Int}{o6:Option V},Bd h τ δ fs es W B F0 k q i→i+c≤6→
  (∀h' fs' es' W' B' F1 k' i' o6,Bd h' τ δ fs' es' W' B' F1 k' q i'→N (fc v0 (fc (.ref q) (fc v2 (fc v3 (fc (.ref τ) (fc (.ref (B'.β F1.head)) (fo o6 (fz 8)))))))) h')→
  lf1 (cn prog (n+5)) 6 f33b1 T (t+1+c) (.rng cur c 1) (fc v0 (fc (.ref q) (fc v2 (fc v3 (fc (.ref τ) (fc (.ref (B.β F0.head)) (fo o6 (fz 8)))))))) h N:=by
 induction c with
 | zero=>exact fun D hi hN=>w_f1e end_rng (hN _ _ _ _ _ _ _ _ _ D)
 | succ c ih=>exact fun D hi hN=>w_f1 next_rng (call29 (n:=n) D (by exact Nat.lt_of_le_of_lt (Nat.le_add_right _ _) (by assumption)) fun h' fs' es' W' B' F1 k' D1=>w_some (w_ff (ih D1 (by lia) hN)))
end
end Mine
namespace Mine
section
variable {h h' h₀ h1 h2 h3:Hp}{W W':WS}{B B':BS}{es es':List (Int×V)}{fs fs':List (Nat×V)}{τ δ q i:Nat}{σ σ':Int→Int→Int}{m s a x:Int}{own:Nat→Prop}{Z:Hp→Prop}{Q:V→Hp→Prop}{F0 F1 F2 G:F}{k k':Int}
theorem Bd.wld (D:Bd h τ δ fs es W B F0 k q i):Wld h τ δ fs es W B F0 q:=⟨D.wx.tt,D.wx.vw,D.bx.bv,D.good,D.wx.perm,D.bx.ββ,D.wx.z0,D.lv1,D.deck,D.sq,D.wx.kz⟩
theorem Wld.draw {ds:List Int}(D:Wld h τ δ fs es W B F0 q) (c:Ch (fun j=>j=q) h h') (g:h'[q]?=some (.list (ds.map V.int))):Wld h' τ δ fs es W B F0 q:=by
 obtain⟨ds0,dk⟩:=D.deck
 obtain⟨l0,z0⟩:=D.z0
 have t1:=D.tt.ne_list dk
 refine⟨D.tt.ch c t1.1 t1.2,D.vw.ch (σ:=W.σ) c (fun x hx=>?_) (fun J J J=>rfl),D.bv.ch c (fun x hx=>?_) (fun J J J=>rfl),D.good,D.perm,D.inj,⟨l0,c.keep _ _ z0 (.inl (Ne.symm D.sep.1))⟩,D.lv1,⟨ds,g⟩,D.sep,D.kz⟩
 ·obtain⟨_,_,_,w⟩:=D.vw.at hx
  have:=D.sep.2 x hx
  exact⟨w.ne_list dk,Ne.symm this.1,Ne.symm this.2.1⟩
 ·obtain⟨s1,k1,h1⟩:=num_node hx
  obtain⟨f,g1,_⟩:=(D.bv.at _ h1).inst
  have:=D.sep.2 x hx
  exact⟨fun e=>by rw[e,dk]at g1;(cases g1),Ne.symm this.2.2⟩
theorem Mid.ro {way:List Up}{delta:Int}{cut:Bool}{v1:V}(M:Mid h h1 es W B a F0 m way delta cut v1) (r:Ro h1 h2):Mid h h2 es W B a F0 m way delta cut v1:=by
 have c:=M.1;have M:=M.2
 refine⟨c.trans (Ch.mem r fun J z=>z.elim),?_⟩
 rcases M with⟨e,ro,M⟩ | ⟨x,u,t0,σ1,a1,a2,a3,a4,a5,a6,a7,a8⟩
 ·exact .inl ⟨e,ro.trans r,M⟩
 ·exact .inr ⟨x,u,t0,σ1,a1,a2,a3,a4,a5,a6.ro r,a7,a8⟩
theorem comp_tup {α:Type}{c:Env'}{fr:Fr}{b:List I}{j:Nat}{g:α→V}{f:α→List Int}{Q:List V→Hp→Prop}{ys:List α}:∀{pre acc:List V}{cs:List (List Int)}{n:Nat}{h:Hp},(∀y∈ys,∀H,Ro h₀ H→∀K:Kt,(∀i h',h'[i]?=some (.tup ((f y).map V.int))→Ro H h'→K fr h' [.ref i])→go c (pC [g y]) K b fr H [])→h₀[j]?=some (.list (pre++ys.map g))→Ro h₀ h→Tps h cs acc→ys.length<n→(∀vs h',Ro h₀ h'→Tps h' (cs++ys.map f) vs→Q vs h')→
  lc c 1 b fr n (.seq j pre.length) acc h Q:=by
 induction ys with
 | nil=>
  intro pre acc cs n h he hj ro tp hn x
  cases n with
  | zero=>contradiction
  | succ n=>exact w_o (end_seq (ro.get hj) (by simp)) (x acc h ro (by simpa using tp))
 | cons y ys ih=>
  intro pre acc cs n h he hj ro tp hn x
  cases n with
  | zero=>contradiction
  | succ n=>
   refine w_o (next_seq (ro.get hj) (v:=g y) (by simp)) (w_some (a:=[g y]) (he y (.head _) h ro _ fun i h' gi ro'=>?_))
   have:=ih (pre:=pre++[g y]) (acc:=acc++[.ref i]) (cs:=cs++[f y]) (n:=n) (h:=h') (fun y' hy'=>he y' (.tail _ hy')) (by rw[hj];simp) (ro.trans ro') ((tp.ch ro').append (.cons ⟨_,rfl,gi⟩ .nil)) (Nat.lt_of_succ_lt_succ hn) fun vs h2 r2 t2=>x vs h2 r2 (by simpa using t2)
   rwa[List.length_append]at this
theorem all2_vi (l:List Int):all2? veqI (l.map V.int) (l.map V.int)=some true:=by
 induction l with
 | nil=>rfl
 | cons x l ih=>exact all2_1 (a:=true) (congrArg some (decide_eq_true rfl)) ih
theorem tps_eq {cs:List (List Int)}{vs ws:List V}(x:Tps h cs vs):Tps h cs ws→vs.length=ws.length∧all2? (veq1 h) vs ws=some true:=by
 unfold Tps at*
 induction x generalizing ws with
 | nil=>intro y;cases y;exact⟨rfl,rfl⟩
 | cons r rs ih=>
  intro y
  cases y with
  | cons r2 rs2=>
   obtain⟨l,e⟩:=ih rs2
   obtain⟨i,e1,g1⟩:=r
   obtain⟨j,e2,g2⟩:=r2
   subst e1
   subst e2
   refine⟨congrArg (·+1) l,?_⟩
   refine all2_1 (a:=true) ?_ e
   show(match h[i]?,h[j]? with | some (.tup xs),some (.tup ys)=>if xs.length=ys.length then all2? veqI xs ys else none | _,_=>none)=_
   rw[g1,g2]
   exact(if_pos rfl).trans (all2_vi _)
theorem ne_tps {i j:Nat}{cs:List (List Int)}{vs ws:List V}(g1:h[i]?=some (.list vs)) (g2:h[j]?=some (.list ws)) (t1:Tps h cs vs) (t2:Tps h cs ws):cmpop .ne (.ref i) (.ref j) h=some false:=by
 obtain⟨l,e⟩:=tps_eq t1 t2
 show(veq h (.ref i) (.ref j)).map (!·)=_
 unfold veq
 dsimp only
 rw[g1,g2]
 dsimp only
 rw[if_pos l,e]
 rfl
noncomputable def f33L:List I:=f33b2.drop 60
theorem lap_end {n:Nat}{o0 o1 o2 o3 o6 o7 o8 o9 o10 o11 o12 o13 o14:Option V}{K:Kt}{T:V→Hp→Prop}(X:Wld h τ δ fs es W B F0 q) (pls:PlS W.σ W.π F0 [(0,0)])
  (hN:∀h' o14,Ro h h'→K (fo o0 (fo o1 (fo o2 (fo o3 (fc (.ref τ) (fc (.ref (B.β F0.head)) (fo o6 (fo o7 (fo o8 (fo o9 (fo o10 (fo o11 (fo o12 (fo o13 (fo o14 (fz 0)))))))))))))))) h' []) :
  go (cn prog (n+50)) (pL T) K f33L (fo o0 (fo o1 (fo o2 (fo o3 (fc (.ref τ) (fc (.ref (B.β F0.head)) (fo o6 (fo o7 (fo o8 (fo o9 (fo o10 (fo o11 (fo o12 (fo o13 (fo o14 (fz 0)))))))))))))))) h []:=by
 have g:=X.good
 obtain⟨x0,e0,_⟩:=g.one
 subst e0
 have few:x0.2.2.count+0+1<40:=g.few
 refine w_attr X.tt.inst X.tt.root ?_
 refine call4 (n:=n+49) (m:=x0.1) (s:=x0.2.1) (kd:=x0.2.2) X.tt X.vw (by lia) fun i h1 J gi o1=>?_
 have X1:=X.ro o1
 have nl:(F.one x0).nums=x0.1::x0.2.2.nums:=congrArg (x0.1::·) (List.append_nil _)
 rw[← nl]at gi
 have ll:(F.one x0).nums.length=x0.2.2.count+0+1:=F.nums_length _
 refine w_it gi ?_
 refine comp_pure gi (ys:=(F.one x0).nums.map fun x=>V.ref (W.ω x)) (by rw[List.length_map,ll,turns_eq];exact Nat.lt_of_lt_of_le (by assumption) (by decide)) (All2.of_map (All2.self fun x hx K k=>?_)) ?_
 ·obtain⟨_,_,_,w⟩:=X1.vw.at hx
  refine w_attr X1.tt.inst X1.tt.win ?_
  exact w_dk X1.tt.dict w.dk k
 refine w_list (by rw[List.length_map,ll,lim_eq];lia) fun j h3 J gj o3=>?_
 have X3:=X1.ro o3
 refine w_it gj ?_
 refine comp_tup (h₀:=h3) (g:=fun x=>V.ref (W.ω x)) (f:=fun x=>[W.π x 0,W.π x 1,W.σ x 0,W.σ x 1]) (ys:=(F.one x0).nums) (pre:=[]) (acc:=[]) (cs:=[]) (fun x hx H roH K k=>?_) gj .refl .nil (by rw[ll,turns_eq];exact Nat.lt_of_lt_of_le (by assumption) (by decide)) fun vs h4 o4 tp=>?_
 ·obtain⟨_,_,_,w⟩:=X3.vw.at hx
  obtain⟨fl,a1,a2⟩:=w.inst
  have a1:=roH.get a1
  refine w_attr a1 a2.left ?_
  refine w_attr a1 a2.top ?_
  refine w_attr a1 a2.wid ?_
  refine w_attr a1 a2.hgt ?_
  exact w_tup fun i h' J gi ro=>k i h' gi ro
 have vl:=tp.length
 rw[List.nil_append,List.length_map,ll]at vl
 refine w_list (by rw[← vl,lim_eq];lia) fun j4 h5 J g4 o5=>?_
 have o35:=o4.trans o5
 have X4:=X3.ro o35
 refine cspec (σ:=W.σ) (B:=B) (x0.2.2.count+1) (F.one x0) (Nat.le_refl _) (by exact Nat.lt_of_lt_of_le (by assumption) (by simp)) ⟨x0,rfl⟩ g.srt g.full g.sz0 g.sz1 (n+50) (by show x0.2.2.count+0+1+1≤_;lia) h5 0 0 X4.bv _ _ fun i6 ws h6 J g6 tp6 o6=>?_
 rw[cells_eq (s:=0) (l:=0) (t:=0) (show PlS W.σ W.π (F.one x0) (posF W.σ 0 (F.one x0) 0 0)from pls)]at tp6
 rw[List.nil_append,← F.nodes_nums,List.map_map]at tp
 refine w_o (ne_tps (o6.get g4) g6 (tp.ch (o5.trans o6)) tp6) (w_ff ?_)
 have X6:=X4.ro o6
 refine call15 (n:=n+47) X6.tt X6.vw g.full (by show x0.2.2.count+0+1<60;exact Nat.lt_of_lt_of_le (by assumption) (by simp)) (nodes_ok pls g.rho g.alt g.two g.full g.srt g.fit0 g.fit1 g.sz0 g.sz1) ((Rho.at g.rho).1 x0.1 (.head _)) pls.1 pls.2.1 X6.perm X6.lv1 fun h7 o7=>?_
 refine w_some (w_ff ?_)
 exact hN _ _ (o1.trans (o3.trans (o35.trans (o6.trans o7))))
end
end Mine
namespace Mine
section
variable {h h' h₀ h1 h2 h3:Hp}{W W':WS}{B B':BS}{es es':List (Int×V)}{fs fs':List (Nat×V)}{τ δ q i:Nat}{σ σ':Int→Int→Int}{m s a x:Int}{own:Nat→Prop}{Z:Hp→Prop}{Q:V→Hp→Prop}{F0 F1 F2 G:F}{k k':Int}
theorem dl_loop {n t:Nat}{o0 p2 p3 o6:Option V}{N:Fr→Hp→Prop}{T:V→Hp→Prop}{c:Nat}:∀{cur:Int}{h:Hp}{W:WS}{p7 p8 p9 o10 o11 o12 o13 o14:Option V},Wld h τ δ fs es W B F0 q→PlS W.σ W.π F0 [(0,0)]→(∀fr h',N fr h')→
  lf1 (cn prog (n+50)) 7 f33b2 T (t+1+c) (.rng cur c 1) (fo o0 (fc (.ref q) (fo p2 (fo p3 (fc (.ref τ) (fc (.ref (B.β F0.head)) (fo o6 (fo p7 (fo p8 (fo p9 (fo o10 (fo o11 (fo o12 (fo o13 (fo o14 (fz 0)))))))))))))))) h N:=by
 induction c with
 | zero=>exact fun X pls hN=>w_f1e end_rng (hN _ _)
 | succ c ih=>
  intro cur h W p7 p8 p9 o10 o11 o12 o13 o14 X pls hN
  refine w_f1 next_rng ?_
  have g:=X.good
  obtain⟨x0,e0,_⟩:=g.one
  have few:=g.few
  obtain⟨ds,dk⟩:=X.deck
  have qz:=X.sep.1
  refine call21 (n:=n+49) qz (by decide) dk fun d1 ds1 h1 a1 a2 J c1 dk1=>?_
  have X1:=X.draw c1 dk1
  have vw1:=X1.vw
  have hd0:F0.head=x0.1:=by rw[e0];rfl
  have hc:F0.count=x0.2.2.count+0+1:=by rw[e0];rfl
  have nl:F0.nums=x0.1::x0.2.2.nums:=by rw[e0];exact congrArg (x0.1::·) (List.append_nil _)
  refine w_some ?_
  refine w_attr X1.tt.inst X1.tt.root ?_
  rw[hd0]
  refine call4 (n:=n+49) (m:=x0.1) (s:=x0.2.1) (kd:=x0.2.2) X1.tt (e0▸vw1) (by lia) fun i h2 hi gi o2=>?_
  rw[← nl]at gi
  have iq:i≠q:=Nat.ne_of_gt (Nat.lt_of_lt_of_le (lt_of_get dk1) hi)
  refine w_tup fun tu h3 J gt o3=>?_
  refine w_tg gt rfl ?_
  have o23:=o2.trans o3
  have X3:=X1.ro o23
  have gi3:=o3.get gi
  have len:F0.nums.length=F0.count:=F.nums_length _
  refine w_len gi3 ?_
  refine call21 (n:=n+49) qz (by rw[List.length_map];lia) (o23.get dk1) fun at' ds4 h4 b1 b2 J c4 dk4=>?_
  rw[List.length_map]at b2
  have gi4:=c4.ne gi3 iq
  refine call21 (n:=n+49) qz (by decide) dk4 fun ax ds5 h5 b3 b4 J c5 dk5=>?_
  have gi5:=c5.ne gi4 iq
  refine call21 (n:=n+49) qz (by decide) dk5 fun dl ds6 h6 b5 b6 J c6 dk6=>?_
  have gi6:=c6.ne gi5 iq
  refine w_ok ?_
  refine w_tup fun tu7 h7 J gt7 o7=>?_
  refine w_tg gt7 rfl ?_
  have X7:=(((X3.draw c4 dk4).draw c5 dk5).draw c6 dk6).ro o7
  have gi7:=o7.get gi6
  obtain⟨e,rfl⟩:=Int.eq_ofNat_of_zero_le b1
  obtain⟨ax,rfl⟩:=Int.eq_ofNat_of_zero_le b3
  have bv7:=X7.bv
  refine call22 (n:=n+49) (e0▸bv7) (by lia) fun j outs h8 J gj al o8=>?_
  have al:All2 (fun(x:Int×Int×F×List Up) v=>ItA h8 B (fun J=>True) (x.1,x.2.2.2) v) (allF (fun J=>[]) 0 F0) outs:=e0▸al
  have X8:=X7.ro o8
  obtain⟨xx,hx⟩:∃xx,(allF (fun J=>[]) 0 F0)[e]?=some xx:=⟨_,List.getElem?_eq_getElem (show e<(allF (fun J=>[]) 0 F0).length by rw[allF_length];lia)⟩
  have xm:=List.mem_of_getElem? hx
  have xnum:F0.nums[e]?=some xx.1:=by
   rw[← allF_nums (f:=F0) (mk:=fun J=>[]) (k:=0),List.getElem?_map,hx];rfl
  obtain⟨y,hy,tt',w,ey,gt',gw,_⟩:=al.get hx
  refine w_ix (i:=e) gj hy ?_
  rw[ey]
  refine w_tx (i:=1) gt' rfl ?_
  obtain⟨a,ha,ax1,ax2⟩:∃a:Int,(a=0∨a=1)∧[V.str 49,V.str 43][ax]?=some (.str (axS a))∧[V.int 0,V.int 1][ax]?=some (.int a):=by
   have:ax=0∨ax=1:=by lia
   rcases this with z | z
   ·rw[z];exact⟨0,.inl rfl,rfl,rfl⟩
   ·rw[z];exact⟨1,.inr rfl,rfl,rfl⟩
  refine w_list (show 2≤lim by rw[lim_eq];decide) fun j9 h9 J g9 o9=>?_
  refine w_ix (i:=ax) g9 ax1 ?_
  have X9:=X8.ro o9
  have gi9:=o9.get (o8.get gi7)
  refine deed31 (n:=n+48) (cut:=decide (d1=1)) (delta:=dl-12) X9 ha xm (gw.ch o9 id) (by lia) (by lia) (by exact Nat.le_add_left _ _) fun v hA M=>?_
  have giA:=M.1.keep _ _ gi9 (.inl (blist_apart X9.bv gi9))
  refine w_ix (i:=e) (v:=.int xx.1) giA (by rw[List.getElem?_map,xnum];rfl) ?_
  refine w_list (show 2≤lim by rw[lim_eq];decide) fun jB hB J gB oB=>?_
  refine w_ix (i:=ax) gB ax2 ?_
  refine deed32 (n:=n+44) X9 ha xm (by lia) (by lia) (M.ro oB) fun hC W' iv XC pl=>?_
  have ec:cmpop .ne v v hC=some false:=by
   rcases iv with rfl | ⟨z,rfl⟩
   ·rfl
   ·show some (!decide (z=z))=_
    rw[decide_eq_true rfl];rfl
  refine w_o ec (w_ff ?_)
  have plC:PlS W'.σ W'.π F0 [(0,0)]:=by
   rcases pl with⟨p1,p2⟩ | p
   ·rw[p1,p2];exact pls
   ·exact p
  have le:=lap_end (n:=n) (o0:=o0) (o1:=some (.ref q)) (o2:=p2) (o3:=p3) (o6:=o6) (o7:=some (.int cur)) (o8:=some (.bool (decide (d1=1)))) (o9:=some (.ref i)) (o10:=some (.int e)) (o11:=some (.int ax)) (o12:=some (.int (dl-12))) (o13:=some v) (o14:=o14) (T:=T) XC plC (K:=k1 (cn prog (n+50)) 7 f33b2 T (t+1+c) (.rng (cur+1) c 1) N) fun h' o14' roC=>ih (XC.ro roC) plC hN
  rw[hd0]at le
  exact le
end
end Mine
namespace Mine
section
variable {h:Hp}{Q:V→Hp→Prop}{Z:Hp→Prop}
theorem w_rng {d:Int}{Q:IS→Hp→Prop}(h0:0≤d) (h1:d≤100) (x:Q (.rng 0 d.toNat 1) h):C (rngR (.int d) h) Q:=w_r (if_pos (by rw[lim_eq];lia)) x
theorem law60 {n:Nat}{ns:List Int}(hn:ns.length≤63) (g0:h[0]?=some (.list (ns.map V.int))) (x:∀h',Q (.bool true) h'):callP prog (n+60) 33 [.ref 0] h Q Z:=by
 refine c33 ?_
 refine w_take (n:=63) g0 (by rw[lim_eq,List.length_map];exact Nat.le_trans (by assumption) (by decide)) (show 63≤2^40 by decide) fun i1 h1 J g1 o1=>?_
 rw[← List.map_take]at g1
 have tl:(ns.take 63).length≤63:=by rw[List.length_take];exact Nat.min_le_left ..
 refine w_it g1 ?_
 refine comp_pure g1 (ys:=(ns.take 63).map fun x=>V.int (x.natAbs:Int)) (by rw[List.length_map,turns_eq];exact Nat.lt_of_le_of_lt (by assumption) (by decide)) (All2.of_map (All2.self fun x hx K k=>?_)) ?_
 ·exact w_ok k
 refine w_list (by rw[List.length_map,lim_eq];exact Nat.le_trans (by assumption) (by decide)) fun q h2 l2 g2 o2=>?_
 have z2:=(o1.trans o2).get g0
 have qz:q≠0:=Nat.ne_of_gt (Nat.lt_of_lt_of_le (lt_of_get (o1.get g0)) l2)
 have dk:h2[q]?=some (.list (((ns.take 63).map fun x=>(x.natAbs:Int)).map V.int)):=g2.trans (by rw[List.map_map];rfl)
 refine call21 (n:=n+58) qz (by decide) dk fun d1 ds4 h4 a1 a2 J c4 dk4=>?_
 have z4:=c4.ne z2 (Ne.symm qz)
 refine w_ok ?_
 refine call21 (n:=n+58) qz (by decide) dk4 fun d2 ds5 h5 a3 a4 J c5 dk5=>?_
 have z5:=c5.ne z4 (Ne.symm qz)
 refine w_ok ?_
 refine w_tup fun t6 h6 J g6 o6=>?_
 refine w_tg g6 rfl ?_
 refine w_inst rfl fun τ h7 lτ t7 o7=>?_
 have o67:=o6.trans o7
 have dk7:=o67.get dk5
 have z7:=o67.get z5
 have lq:=lt_of_get (o6.get dk5)
 have τq:q≠τ:=Nat.ne_of_lt (Nat.lt_of_lt_of_le lq lτ)
 have τz:τ≠0:=Nat.ne_of_gt (Nat.lt_of_lt_of_le (Nat.lt_of_le_of_lt (Nat.zero_le _) lq) lτ)
 refine call40 (n:=n+56) t7 τz fun δ w κ ε l' h8 b1 b2 b3 b4 t8 e8 w8 k8 ee8 ch8=>⟨rfl,?_⟩
 have dk8:=ch8.ne dk7 τq
 have z8:=ch8.ne z7 (Ne.symm τz)
 refine call23 (n:=n+58) fun l d h9 ll ld gl gd o9=>?_
 refine w_tup fun t h10 J gt o10=>?_
 refine w_tg gt rfl ?_
 have o810:=o9.trans o10
 have lκ:=lt_of_get k8
 have lε:=lt_of_get ee8
 have lq7:=lt_of_get dk7
 have D:=Bd.init (q:=q) (ds:=ds5) (o810.get t8) (o810.get e8) (o810.get w8) (o810.get k8) (o810.get ee8) (o10.get gl) (o10.get gd) (o810.get dk8) (o810.get z8) qz (by exact Nat.ne_zero_of_lt (by assumption)) (by lia) (by lia) (by lia) (by lia) (by lia) (by lia) (by exact Nat.ne_of_lt (by assumption)) (by lia) (by lia) (by lia) (by lia)
 refine call21 (n:=n+58) qz (by decide) (o810.get dk8) fun d3 ds10 h11 a5 a6 J c11 dk11=>?_
 have D:=D.draw c11 dk11
 refine w_ok ?_
 refine w_rng (by lia) (by lia) ?_
 refine lf1_more (1+(1+d3).toNat) (by rw[turns_eq];lia) ?_
 rw[← Nat.add_assoc]
 refine bl_loop (n:=n+54) (F0:=leafF 1) D (by lia) fun h12 fs' es' W' B' F1 k' i' o6 D12=>?_
 have X12:=D12.wld
 obtain⟨ds12,dk12⟩:=X12.deck
 refine call21 (n:=n+58) qz (by decide) dk12 fun d4 ds13 h13 a7 a8 J c13 dk13=>?_
 refine w_ok ?_
 refine w_rng (by lia) (by lia) ?_
 refine lf1_more (1+(1+d4).toNat) (by rw[turns_eq];lia) ?_
 rw[← Nat.add_assoc]
 exact dl_loop (n:=n+9) (X12.draw c13 dk13) D12.pls fun fr h'=>x h'
theorem law_is (ns:List Int) (hn:ns.length≤63):callP prog 60 33 [.ref 0] [.list (ns.map V.int)] (fun v J=>v=.bool true) no:=law60 (n:=0) hn rfl fun J=>rfl
end
end Mine
namespace Mine
open PySem PySem.W PyProof.Rows PySem.SeqAt PySem.EqNone PySem.MeetsSeq PySem.Calls
theorem ints_vrs {ν:Nu}{vs:List Value}{ns:List Int}(x:IntsAre vs ns):VRs ν (ns.map V.int) vs:=by
 induction x with
 | nil=>exact .nil
 | cons n t J ih=>exact .cons ⟨t,rfl⟩ ih
theorem well_list {P:Params}{h:Heap}{l:Addr}{xs:List PyData}{vs:List Value}(x:Well P h (.ref l) (ofPy (.list xs))) (y:h.IsList l vs.toArray):h.get? l=some { cls:=.type "list",data:=.seq vs.toArray }:=by
 obtain⟨o,ho,hc,n,hd⟩:=y
 have e:ofPy (.list xs)=.list (ofPys xs):=rfl
 rw[e]at x
 cases x with
 | list hg J=>
  cases ho.symm.trans hg
  cases hd
  exact ho
theorem top_of {p:Program}{w:World}{s:Shared}{K:Frag}(ok:kObs K=kVal) (X:K.In s.heap) {mg mb:Str→Option Value}(g:s.heap.Ns mainGlobals mg) (b:s.heap.Ns builtinsNs mb) (nl:s.heap.NoLimit) (bi:∀x:Str,x≠"__name__"→mb x=bootBuiltins x)
  {fa l:Addr} {vs:List Value} {ns:List Int} (hf:mg "law"=some (.ref fa)) (hl:s.heap.get? l=some { cls:=.type "list",data:=.seq vs.toArray }) (hi:IntsAre vs ns) (hn:ns.length≤63) {R:Result→Shared→Prop}
  (hR:∀s',(∀b o,s.heap.get? b=some o→s'.heap.get? b=some o)→s'.os=s.os→s'.gens=s.gens→R (.ok (.ret (.bool true))) s') :
  codeAny (model p w) callerA (.call (.ref fa) ⟨[.ref l],[]⟩) R s:=by
 obtain⟨F,rfl,rfl,hh,rfl,FN⟩:=facts_of p w ok X g b nl bi
 cases(F.defs 33 "law" rfl).symm.trans hf
 have hr:HR F [(l,l)] [.list (ns.map V.int)] s.heap:={
  len:=rfl,
  obj:=fun i o q ho hq=>match i,ho,hq with
   | 0,ho,hq=>Option.some.inj ho▸Option.some.inj hq▸.list rfl (by rw[List.length_map];exact Nat.le_trans hn (Nat.le_of_ble_eq_true rfl)) hl (ints_vrs hi),
  disj:=fun i j q r b hq hr J J=>match i,j,hq,hr with
   | 0,0,_,_=>rfl,
  fresh:=fun i q b hi hq J=>match i,hi,hq with
   | _+1,_,hq=>(by contradiction),
  keep:=fun b o e=>hh▸e }
 exact calls_ok FN 60 callerA [] rfl (by decide) (by decide) rfl (by decide) (by decide) 33 [.ref 0] [.ref l] [.list (ns.map V.int)] ⟨[(l,l)],s⟩ _ _ R (by decide) ⟨hr,trivial,fun b hb=>(by contradiction)⟩ (.cons ⟨(l,l),rfl,rfl⟩ .nil) (law_is ns hn)
  (fun r h' e σ' v S T rv=>by
   rw[e]at rv
   rw[show v=.bool true from rv]
   exact hR σ'.s (fun b o e=>S.hr.keep b o (hh▸e)) T.os T.gens) fun J J J J J J J q=>q.elim
end Mine
namespace Mine
open PySem PySem.W PyProof.Rows
theorem left_of {α:Type}{p q:Program}{loose:List Str}{Xt:Shared→Bool}{f:Shared→α}{v:α}{N:Nat}(h1:∀w,(openEnds treeTable p w N).map f=some v) (h2:LeftO p q loose Xt (fun _=>()) (fun _=>()) N):LeftO p q loose Xt f (fun _=>v) N:=fun w=>by
 have a:=h1 w
 have b:=h2 w
 generalize openEnds treeTable p w N=o at a b⊢
 cases o with
 | none=>cases a
 | some s=>
  have b:=congrArg Prod.fst (Option.some.inj b)
  exact congrArg some (congr (congrArg Prod.mk b) (Option.some.inj a))
theorem hl:LeftO PySem.Challenge.pw_sq0004_01 vq [] (fun s=>xlAt vq [] s&&recOk [] s) hook.obs hook.val 4664:=left_of hb hc
end Mine
set_option maxHeartbeats 8000000
open PySem PySem.W PyProof.Rows Mine
theorem PySem.Challenge.cw_sq0004_01_holds : PySem.Challenge.rw_sq0004_01.Holds := by
 w_on
 refine holds_law said fun h=>?_
 refine holds_open (q:=vq) (loose:=[]) (Xt:=fun s=>xlAt vq [] s&&recOk [] s) (XP:=XL vq []) (Yf:=hook.obs) (Ya:=hook.val) (YP:=hook.says) (N:=4664) hl hook.of hook.keeps (fun s e=>xl_of s (Bool.and_eq_true_iff.mp e).1) XL.keeps (by rfl) (by rfl) (by rfl) (fun s e=>recFacts_of (Bool.and_eq_true_iff.mp e).2) rfl h (by decide +kernel) ⟨rfl,rfl,rfl,rfl,rfl,by decide +kernel⟩ ?hw ?hc
 case hw=>w_witness2
 intro w s₀ s₁ mg mb G Y fa o pm cd doc dV kV ho hd hcd hD hmg hg args vals as hpre hlay hrd hwl hlo
 obtain⟨K,ok,X⟩:=Y
 clear ho hd hcd hD
 refine Ground.open G ?_
 intro T B D TE TW
 wrow_args hpre hlay hrd hwl hlo
 refine enter_call ?_
 refine top_of ok X T.g T.b T.nolimit T.builtins hmg (well_list (by assumption) (by assumption)) (by assumption) (by omega) fun s' k1 k2 k3=>?_
 exact GoodW.toG ⟨.inl ⟨_,.bool true,[],rfl,fun _=>rfl,.bool true,by kernel_rfl,fun _=>⟨List.nodup_nil,fun _ h=>by cases h⟩⟩,k1,k2,k3.trans hg⟩
