import PyProof.Rows.All
import Wide.All
import OpenK.AllK
import Wide.FinOn
import Lean
import PySem.Challenge.RW_nt0201_01
set_option linter.all false
set_option compiler.extract_closed false
set_option autoImplicit false
set_option genInjectivity false
set_option genSizeOf false
set_option bootstrap.genMatcherCode false
set_option maxRecDepth 100000
noncomputable section
namespace Mine
inductive Cls where
 | pair | symbol | alias | special | locName | globName | scope | symtab | names
 deriving DecidableEq
set_option genCtorIdx false
inductive Ty where
 | cls (c:Cls) | macro | tuple | str | bool | int | boolInt
structure Fn where
 c:Nat
 deriving DecidableEq
inductive V where
 | none | empty | unspec
 | bool (b:Bool) | int (i:Int) | str (s:String)
 | ref (i:Nat)
 | tup (xs:List V) | lst (xs:List V)
 | obj (c:Cls) (fs:List V)
inductive Sl where
 | undef | v (x:V) | loc (xs:List V)
set_option genCtorIdx true
inductive AO where
 | list (xs:List V) | dictI (es:List (Int×V)) | dictS (es:List (String×V))
 | inst (c:Cls) (j:Nat) | attrs (fs:List (String×V))
noncomputable abbrev Hp:=List AO
inductive BO where | add | sub | mul | div | mod | pow
inductive CO where | eq | ne | lt | gt | is | isNot | isIn | notIn
inductive B1 where | len | abs | repr | dictS
set_option genCtorIdx false
mutual
inductive E where
 | k (v:V) | g (v:V) | v (i:Nat) | l (i:Nat)
 | bin (q:Bool) (o:BO) (a b:E) | cmp (q:Bool) (o:CO) (a b:E)
 | not (a:E) | and (a b:E) | or (a b:E) | ite (t a b:E)
 | call (f:Fn) (as:Es) (ds:List V)
 | mcall (nm:String) (o:E) (as:Es)
 | new (c:Cls) (as:Es)
 | b1 (q:Bool) (o:B1) (a:E)
 | min (a b:E)
 | isI (q:Bool) (a:E) (t:Ty)
 | append (a b:E) | pop0 (a:E) | get (a b:E)
 | attr (a:E) (nm:String)
 | idx (q:Bool) (a b:E)
 | sl (q:Bool) (a lo hi:E) | rsl (a lo:E)
 | list (heap:Bool) (as:Es) | tup (as:Es) | dict0 (isInts:Bool)
 | comp (heap:Bool) (tg:List Nat) (elt:E) (it:I) (c:E)
inductive Es where
 | nil | cons (e:E) (es:Es)
inductive I where
 | e (a:E) | range1 (a:E) | range3 (a b:E) | zip (a b:E)
end
mutual
inductive S where
 | assign (i:Nat) (e:E) | newl (i:Nat) | compl (i:Nat) (tg:List Nat) (elt:E) (it:I) (c:E)
 | lapp (i:Nat) (e:E) | unp (is:List Nat) (e:E) | unpD (is:List Nat) (es:List (Option E))
 | setattr (o:E) (nm:String) (e:E) | setidx (a b:E) (e:E) | setidx2 (a b c d:E) (e f:E)
 | expr (e:E) | ret (e:E) | ite (t:E) (a b:Ss) | whil (t:E) (b:Ss) | for_ (tg:List Nat) (it:I) (b:Ss)
 | stuck | frz (i:Nat)
inductive Ss where
 | nil | cons (s:S) (ss:Ss)
end
noncomputable def room:Nat:=16000000
mutual
noncomputable def V.size:V→Nat
 | .tup xs=>V.sizes xs+1
 | .lst xs=>V.sizes xs+1
 | .obj _ fs=>V.sizes fs+1
 | _=>1
noncomputable def V.sizes:List V→Nat
 | []=>0
 | v::vs=>v.size+V.sizes vs
end
noncomputable def V.truth:V→Option Bool
 | .bool b=>some b | _=>Option.none
noncomputable def AO.list?:AO→Option (List V)
 | .list xs=>some xs | _=>Option.none
noncomputable def AO.dS?:AO→Option (List (String×V))
 | .dictS es=>some es | _=>Option.none
noncomputable def AO.dct?:AO→Option Unit
 | .dictS _=>some () | .dictI _=>some () | _=>Option.none
noncomputable def items (H:Hp):V→Option (List V)
 | .lst xs=>some xs
 | .ref i=>H[i]?.bind AO.list?
 | _=>Option.none
noncomputable def seqItems (H:Hp):V→Option (List V)
 | .tup xs=>some xs
 | v=>items H v
noncomputable def intsO:List V→Option (List Int)
 | []=>some []
 | .int i::r=>(intsO r).map (i::·)
 | _=>Option.none
noncomputable def strs?:List V→Option (List String)
 | []=>some []
 | .str i::r=>(strs? r).map (i::·)
 | _=>Option.none
noncomputable def eqL (xs ys:List V):Option Bool:=(intsO xs).elim ((strs? xs).bind fun is=>(strs? ys).map fun js=>decide (is=js)) fun is=>(intsO ys).map fun js=>decide (is=js)
noncomputable def V.int?:V→Option Int
 | .int i=>some i | _=>Option.none
noncomputable def V.str?:V→Option String
 | .str i=>some i | _=>Option.none
noncomputable def V.lst?:V→Option (List V)
 | .lst xs=>some xs | _=>Option.none
noncomputable def V.tup?:V→Option (List V)
 | .tup xs=>some xs | _=>Option.none
noncomputable def eqV (H:Hp) (a b:V):Option Bool:=match a with
 | .int i=>b.int?.map (i == ·)
 | .str i=>b.str?.map (i == ·)
 | .bool i=>b.truth.map (i == ·)
 | a=>(items H a).bind fun xs=>(items H b).bind fun ys=>eqL xs ys
noncomputable def isV (a b:V):Option Bool:=match b with
 | .none=>some (match a with | .none=>true | _=>false)
 | .bool b=>some (match a with | .bool c=>c == b | _=>false)
 | .empty=>match a with | .empty=>some true | .tup _=>Option.none | .ref _=>Option.none | _=>some false
 | .obj d gs=>match a with
  | .obj c fs=>if (V.obj c fs).size≠(V.obj d gs).size then some false else Option.none
  | .empty=>some false
  | _=>Option.none
 | _=>Option.none
noncomputable def inV (H:Hp) (x c:V):Option Bool:=(seqItems H c).bind fun ys=>match x with
 | .int i=>(intsO ys).map (·.contains i)
 | .str s=>(strs? ys).map (·.contains s)
 | _=>Option.none
noncomputable def small (i:Int):Bool:=decide (i.natAbs < 4611686018427387904)
noncomputable def addV (H:Hp) (a b:V):Option V:=match a with
 | .int i=>b.int?.map fun j => .int (i+j)
 | .tup a=>b.tup?.bind fun b=>if a.length+b.length≤room∧0 < a.length∧0 < b.length then some (.tup (a++b)) else Option.none
 | a=>(items H a).bind fun xs=>(items H b).bind fun ys=>if xs.length+ys.length≤room then some (.lst (xs++ys)) else Option.none
noncomputable def arV (o:BO) (a b:Int):Option Int:=match o with
 | .sub=>some (a - b)
 | .mul=>if small a then some (a*b) else Option.none
 | .div=>if decide (0 < b∧b < 1073741824) then some (a.fdiv b) else Option.none
 | .mod=>if decide (0 < b) then some (a.fmod b) else Option.none
 | .pow=>if decide (0≤a∧a≤64∧0≤b∧b≤64) then some (a ^ b.toNat) else Option.none
 | .add=>Option.none
noncomputable def binV (H:Hp) (o:BO) (a b:V):Option V:=match o with
 | .add=>addV H a b
 | o=>a.int?.bind fun i=>b.int?.bind fun j=>(arV o i j).map .int
noncomputable def cmpV (H:Hp) (o:CO) (a b:V):Option V:=match o with
 | .eq=>(eqV H a b).map .bool
 | .ne=>(eqV H a b).map fun x => .bool !x
 | .lt=>a.int?.bind fun i=>b.int?.map fun j => .bool (decide (i < j))
 | .gt=>a.int?.bind fun i=>b.int?.map fun j => .bool (decide (j < i))
 | .is=>(isV a b).map .bool
 | .isNot=>(isV a b).map fun x => .bool !x
 | .isIn=>(inV H a b).map .bool
 | .notIn=>(inV H a b).map fun x => .bool !x
noncomputable def Ty.has (t:Ty):V→Option Bool
 | .ref _=>Option.none
 | .obj c _=>some (match t with | .cls d=>decide (c=d) | _=>false)
 | .tup _=>some (match t with | .tuple=>true | _=>false)
 | .str _=>some (match t with | .str=>true | _=>false)
 | .bool _=>some (match t with | .bool=>true | .int=>true | .boolInt=>true | _=>false)
 | .int _=>some (match t with | .int=>true | .boolInt=>true | _=>false)
 | _=>some false
noncomputable def Cls.fields:Cls→List String
 | .pair=>["car", "cdr"]
 | .symbol=>["number", "text"]
 | .alias=>["number", "base", "scope"]
 | .special=>["word"]
 | .locName=>["number", "title"]
 | .globName=>["symbol"]
 | .scope=>["parent", "names"]
 | .symtab=>["rows", "by_text"]
 | .names=>["table", "last", "titles", "ops", "root"]
noncomputable def fieldOf:List String→List V→String→Option V
 | n::ns,v::vs,x=>if n=x then some v else fieldOf ns vs x
 | _,_,_=>Option.none
noncomputable def aput {α:Type} [DecidableEq α] (k:α) (v:V) (es:List (α×V)):List (α×V):=
 if es.any (fun e=>decide (e.1=k)) then es.map (fun e=>if e.1=k then (e.1,v) else e) else es++[(k,v)]
noncomputable def aget {α:Type} [DecidableEq α] (k:α) (es:List (α×V)):Option V:=(es.find? fun e=>decide (e.1=k)).map (·.2)
noncomputable def attrsAt (H:Hp) (i:Nat):Option (Nat×List (String×V)):=H[i]?.bind fun o=>match o with
 | .inst .names j=>H[j]?.bind fun p=>match p with
  | .attrs fs=>some (j,fs)
  | _=>Option.none
 | _=>Option.none
noncomputable def attrV (H:Hp) (nm:String):V→Option V
 | .obj c fs=>fieldOf c.fields fs nm
 | .ref i=>(attrsAt H i).bind fun p=>if nm∈Cls.names.fields then aget nm p.2 else Option.none
 | _=>Option.none
noncomputable def clsOf (H:Hp):V→Option Cls
 | .obj c _=>some c
 | .ref i=>(attrsAt H i).map fun _ => .names
 | _=>Option.none
noncomputable def getI (xs:List V) (i:Int):Option V:=if small i then
  (if 0≤i then xs[i.toNat]? else if 0≤i+xs.length then xs[(i+xs.length).toNat]? else Option.none)
 else Option.none
noncomputable def idxV (H:Hp) (x y:V):Option V:=match x with
 | .ref d=>H[d]?.bind fun o=>match o with
  | .dictS es=>y.str?.bind (aget · es)
  | .dictI es=>y.int?.bind (aget · es)
  | .list xs=>y.int?.bind (getI xs)
  | _=>Option.none
 | .tup xs=>y.int?.bind (getI xs)
 | .lst xs=>y.int?.bind (getI xs)
 | _=>Option.none
noncomputable def dropV (xs:List V):V→Option (List V)
 | .none=>some xs
 | .int i=>some (match i with | .ofNat n=>xs.drop n | .negSucc _=>xs.drop (i+xs.length).toNat)
 | _=>Option.none
noncomputable def takeV (xs:List V):V→Option (List V)
 | .none=>some xs
 | .int i=>some (match i with | .ofNat n=>xs.take n | .negSucc _=>xs.take (i+xs.length).toNat)
 | _=>Option.none
noncomputable def slV (x lo hi:V):Option V:=match x with
 | .tup xs=>match hi with | .none=>lo.int?.bind fun i=>if 1≤i∧i≤xs.length then some (.tup (xs.drop i.toNat)) else Option.none | _=>Option.none
 | .lst xs=>(takeV xs hi).bind fun ys=>(match hi with | .none=>dropV xs lo | _=>match lo with | .int (.negSucc _)=>Option.none | _=>dropV ys lo).map .lst
 | _=>Option.none
noncomputable def rslV (x lo:V):Option V:=match x with
 | .lst xs=>lo.int?.bind fun i=>if i = -2 then some (.lst (xs.take (i+xs.length+1).toNat).reverse) else Option.none
 | _=>Option.none
noncomputable def lenV (H:Hp) (v:V):Option V:=(seqItems H v).map fun xs => .int xs.length
noncomputable def b1V (H:Hp) (o:B1) (v:V):Option (V×Hp):=match o with
 | .len=>(lenV H v).map fun x=>(x,H)
 | .abs=>v.int?.map fun i=>(.int i.natAbs,H)
 | .repr=>match v with
  | .bool b=>some (.str (if b then "True" else "False"),H)
  | .int i=>if small i then some (.str (toString i),H) else Option.none
  | _=>Option.none
 | .dictS=>match v with
  | .ref d=>(H[d]?.bind AO.dS?).bind fun es=>some (.ref H.length,H++[.dictS es])
  | _=>Option.none
noncomputable def setV (H:Hp) (x y v:V):Option Hp:=match x with
 | .ref d=>H[d]?.bind fun o=>match o with
  | .dictS es=>y.str?.bind fun s=>if es.length≤room then some (H.set d (.dictS (aput s v es))) else Option.none
  | .dictI es=>y.int?.bind fun i=>if es.length≤room then some (H.set d (.dictI (aput i v es))) else Option.none
  | .list xs=>y.int?.bind fun i=>if 0≤i∧i.toNat < xs.length∧xs.length≤room then some (H.set d (.list (xs.set i.toNat v))) else Option.none
  | _=>Option.none
 | _=>Option.none
noncomputable def attrPut (H:Hp) (nm:String) (v:V):V→Option Hp
 | .ref i=>(attrsAt H i).bind fun p=>if nm∈Cls.names.fields then some (H.set p.1 (.attrs (aput nm v p.2))) else Option.none
 | _=>Option.none
noncomputable def isDct (H:Hp):V→Bool
 | .ref d=>(H[d]?.bind AO.dct?).isSome
 | _=>false
noncomputable def getV (H:Hp) (x y:V):Option V:=match x with
 | .ref d=>H[d]?.bind fun o=>match o with
  | .dictS es=>y.str?.map fun s=>(aget s es).getD .none
  | .dictI es=>y.int?.map fun i=>(aget i es).getD .none
  | _=>Option.none
 | _=>Option.none
noncomputable def isLst (H:Hp):V→Bool
 | .ref d=>(H[d]?.bind AO.list?).isSome
 | _=>false
noncomputable def appV (H:Hp) (x v:V):Option Hp:=match x with
 | .ref d=>(H[d]?.bind AO.list?).bind fun xs=>if xs.length≤room then some (H.set d (.list (xs++[v]))) else Option.none
 | _=>Option.none
noncomputable def popV (H:Hp):V→Option (V×Hp)
 | .ref d=>(H[d]?.bind AO.list?).bind fun xs=>match xs with
  | x::xs=>some (x,H.set d (.list xs))
  | []=>Option.none
 | _=>Option.none
noncomputable def setAll:List Nat→List Sl→List Sl→List Sl
 | i::is,x::xs,ρ=>setAll is xs (ρ.set i x)
 | _,_,ρ=>ρ
noncomputable def bindTg (tg:List Nat) (x:V) (ρ:List Sl):Option (List Sl):=match tg with
 | [i]=>if Nat.ble (i+1) ρ.length then some (ρ.set i (.v x)) else Option.none
 | tg=>match x with
  | .tup xs=>if Nat.beq xs.length tg.length&&tg.all (fun i=>Nat.ble (i+1) ρ.length) then some (setAll tg (xs.map .v) ρ) else Option.none
  | _=>Option.none
noncomputable def downTo (a:Int):Nat→List V
 | 0=>[]
 | n+1 => .int a::downTo (a - 1) n
noncomputable def upTo (a:Nat):Nat→List V
 | 0=>[]
 | n+1 => .int a::upTo (a+1) n
noncomputable def zipV:List V→List V→List V
 | x::xs,y::ys => .tup [x,y]::zipV xs ys
 | _,_=>[]
inductive Fl where
 | next | ret (v:V)
noncomputable def compV {σ:Type} (f:V→σ→Option (Option V×σ)):List V→σ→Option (List V×σ)
 | [],s=>some ([],s)
 | x::xs,s=>(f x s).bind fun r=>(compV f xs r.2).map fun q=>(r.1.toList++q.1,q.2)
noncomputable def thenF {σ:Type} (q:Option (Fl×σ)) (k:σ→Option (Fl×σ)):Option (Fl×σ):=q.bind fun r=>match r.1 with
 | .next=>k r.2
 | .ret _=>some r
noncomputable def forV {σ:Type} (f:V→σ→Option (Fl×σ)):List V→σ→Option (Fl×σ)
 | [],s=>some (.next,s)
 | x::xs,s=>thenF (f x s) (forV f xs)
noncomputable def whileV {σ τ:Type} (f:σ→Option (σ ⊕ τ)) (x:σ):Option τ:=do
 match ← f x with
 | .inl y=>whileV f y
 | .inr r=>some r
partial_fixpoint
noncomputable def sel {α:Type} (t:Option Bool) (x y:Option α):Option α:=match t with
 | some true=>x | some false=>y | Option.none=>Option.none
noncomputable abbrev Calls:=Fn→List V→Hp→Option (V×Hp)
noncomputable def Fn.new (c:Cls):Fn:=⟨match c with | .pair=>0 | .symbol=>1 | .alias=>2 | .special=>3 | .locName=>4 | .globName=>5 | .scope=>6 | .symtab=>7 | .names=>8⟩
noncomputable def rdV (ρ:List Sl) (i:Nat):Option V:=ρ[i]?.bind fun x=>match x with | .v v=>some v | _=>Option.none
noncomputable def rdL (ρ:List Sl) (i:Nat):Option (List V):=ρ[i]?.bind fun x=>match x with | .loc v=>some v | _=>Option.none
noncomputable def itE:V→Option (List V)
 | .lst xs=>some xs
 | .tup xs=>some xs
 | _=>Option.none
noncomputable def rng1 (n:Int):Option (List V):=if -1≤n∧n≤room then some (upTo 0 n.toNat) else Option.none
noncomputable def rng3 (x y:Int):Option (List V):=if -1≤x∧x≤room ∧ -1≤y∧y≤room then some (downTo x (x - y).toNat) else Option.none
noncomputable def itZ (x y:V):Option (List V):=x.lst?.bind fun xs=>y.lst?.map fun ys=>zipV xs ys
noncomputable def mk' (heap:Bool) (r:List V×Hp):V×Hp:=if heap then (.ref r.2.length,r.2++[.list r.1]) else (.lst r.1,r.2)
noncomputable def mths:List (Cls×String×Nat):=[(.symtab, "symbol",9),(.scope, "bind",14),(.scope, "bound",15),(.scope, "find",16),(.names, "fresh",41)]
noncomputable def mth (c:Cls) (nm:String):Option Fn:=(mths.find? fun m=>decide (m.1=c)&&decide (m.2.1=nm)).map fun m=>⟨m.2.2⟩
mutual
noncomputable def ev (C:Calls) (ρ:List Sl):E→Hp→Option (V×Hp)
 | .k v,H=>some (v,H)
 | .g v,H=>some (v,H)
 | .v i,H=>(rdV ρ i).map fun v=>(v,H)
 | .l i,H=>(rdL ρ i).map fun v=>(.lst v,H)
 | .bin _ o a b,H=>(ev C ρ a H).bind fun r=>(ev C ρ b r.2).bind fun q=>(binV q.2 o r.1 q.1).map fun v=>(v,q.2)
 | .cmp _ o a b,H=>(ev C ρ a H).bind fun r=>(ev C ρ b r.2).bind fun q=>(cmpV q.2 o r.1 q.1).map fun v=>(v,q.2)
 | .not a,H=>(ev C ρ a H).bind fun r=>r.1.truth.map fun b=>(.bool !b,r.2)
 | .and a b,H=>(ev C ρ a H).bind fun r=>sel r.1.truth (ev C ρ b r.2) (some r)
 | .or a b,H=>(ev C ρ a H).bind fun r=>sel r.1.truth (some r) (ev C ρ b r.2)
 | .ite t a b,H=>(ev C ρ t H).bind fun r=>sel r.1.truth (ev C ρ a r.2) (ev C ρ b r.2)
 | .call f as ds,H=>(evs C ρ as H).bind fun r=>C f (r.1++ds) r.2
 | .mcall nm o as,H=>(ev C ρ o H).bind fun r=>((clsOf r.2 r.1).bind (mth · nm)).bind fun f=>(evs C ρ as r.2).bind fun q=>C f (r.1::q.1) q.2
 | .new c as,H=>(evs C ρ as H).bind fun r=>C (.new c) r.1 r.2
 | .b1 _ o a,H=>(ev C ρ a H).bind fun r=>b1V r.2 o r.1
 | .min a b,H=>(ev C ρ a H).bind fun r=>(ev C ρ b r.2).bind fun q=>r.1.int?.bind fun x=>q.1.int?.map fun y=>(.int (if y < x then y else x),q.2)
 | .isI _ a t,H=>(ev C ρ a H).bind fun r=>(t.has r.1).map fun b=>(.bool b,r.2)
 | .append a b,H=>(ev C ρ a H).bind fun r=>if isLst r.2 r.1 then (ev C ρ b r.2).bind fun q=>(appV q.2 r.1 q.1).map fun H=>(.none,H) else Option.none
 | .pop0 a,H=>(ev C ρ a H).bind fun r=>popV r.2 r.1
 | .get a b,H=>(ev C ρ a H).bind fun r=>if isDct r.2 r.1 then (ev C ρ b r.2).bind fun q=>(getV q.2 r.1 q.1).map fun v=>(v,q.2) else Option.none
 | .attr a nm,H=>(ev C ρ a H).bind fun r=>(attrV r.2 nm r.1).map fun v=>(v,r.2)
 | .idx _ a b,H=>(ev C ρ a H).bind fun r=>(ev C ρ b r.2).bind fun q=>(idxV q.2 r.1 q.1).map fun v=>(v,q.2)
 | .sl _ a lo hi,H=>(ev C ρ a H).bind fun r=>(ev C ρ lo r.2).bind fun p=>(ev C ρ hi p.2).bind fun q=>(slV r.1 p.1 q.1).map fun v=>(v,q.2)
 | .rsl a lo,H=>(ev C ρ a H).bind fun r=>(ev C ρ lo r.2).bind fun p=>(rslV r.1 p.1).map fun v=>(v,p.2)
 | .list heap as,H=>(evs C ρ as H).map (mk' heap)
 | .tup as,H=>(evs C ρ as H).map fun r=>(.tup r.1,r.2)
 | .dict0 isInts,H=>some (.ref H.length,H++[if isInts then .dictI [] else .dictS []])
 | .comp heap tg elt it c,H=>(evI C ρ it H).bind fun r=>(compV (fun x H=>(bindTg tg x ρ).bind fun ρ'=>(ev C ρ' c H).bind fun p=>sel p.1.truth ((ev C ρ' elt p.2).map fun q=>(some q.1,q.2)) (some (Option.none,p.2))) r.1 r.2).map (mk' heap)
noncomputable def evs (C:Calls) (ρ:List Sl):Es→Hp→Option (List V×Hp)
 | .nil,H=>some ([],H)
 | .cons e es,H=>(ev C ρ e H).bind fun r=>(evs C ρ es r.2).map fun q=>(r.1::q.1,q.2)
noncomputable def evI (C:Calls) (ρ:List Sl):I→Hp→Option (List V×Hp)
 | .e a,H=>(ev C ρ a H).bind fun r=>(itE r.1).map fun xs=>(xs,r.2)
 | .range1 a,H=>(ev C ρ a H).bind fun r=>(r.1.int?.bind rng1).map fun xs=>(xs,r.2)
 | .range3 a b,H=>(ev C ρ a H).bind fun r=>(ev C ρ b r.2).bind fun q=>(r.1.int?.bind fun x=>q.1.int?.bind fun y=>rng3 x y).map fun xs=>(xs,q.2)
 | .zip a b,H=>(ev C ρ a H).bind fun r=>(ev C ρ b r.2).bind fun q=>(itZ r.1 q.1).map fun xs=>(xs,q.2)
end
noncomputable def evComp (C:Calls) (ρ:List Sl) (tg:List Nat) (elt c:E):List V→Hp→Option (List V×Hp):=
 compV fun x H=>(bindTg tg x ρ).bind fun ρ'=>(ev C ρ' c H).bind fun p=>sel p.1.truth ((ev C ρ' elt p.2).map fun q=>(some q.1,q.2)) (some (Option.none,p.2))
noncomputable def evDs (C:Calls) (ρ:List Sl):List (Option E)→Hp→Option (List Sl×Hp)
 | [],H=>some ([],H)
 | some e::es,H=>(ev C ρ e H).bind fun r=>(evDs C ρ es r.2).map fun q=>(.v r.1::q.1,q.2)
 | Option.none::es,H=>(evDs C ρ es H).map fun q=>(.loc []::q.1,q.2)
noncomputable abbrev St:=List Sl×Hp
noncomputable def put (i:Nat) (v:Sl) (s:St):Option (Fl×St):=if Nat.ble (i+1) s.1.length then some (.next,s.1.set i v,s.2) else Option.none
noncomputable def nodupB:List Nat→Bool
 | []=>true
 | x::xs => !(xs.any (Nat.beq x))&&nodupB xs
noncomputable def puts (is:List Nat) (vs:List Sl) (s:St):Option (Fl×St):=
 if Nat.beq vs.length is.length&&is.all (fun i=>Nat.ble (i+1) s.1.length)&&nodupB is then some (.next,setAll is vs s.1,s.2) else Option.none
mutual
noncomputable def ex (C:Calls):S→St→Option (Fl×St)
 | .assign i e,s=>(ev C s.1 e s.2).bind fun r=>put i (.v r.1) (s.1,r.2)
 | .newl i,s=>put i (.loc []) s
 | .compl i tg elt it c,s=>(evI C s.1 it s.2).bind fun r=>(evComp C s.1 tg elt c r.1 r.2).bind fun q=>put i (.loc q.1) (s.1,q.2)
 | .lapp i e,s=>(ev C s.1 e s.2).bind fun r=>(rdL s.1 i).bind fun xs=>if xs.length≤room then put i (.loc (xs++[r.1])) (s.1,r.2) else Option.none
 | .unp is e,s=>(ev C s.1 e s.2).bind fun r=>r.1.tup?.bind fun xs=>puts is (xs.map .v) (s.1,r.2)
 | .unpD is es,s=>(evDs C s.1 es s.2).bind fun r=>puts is r.1 (s.1,r.2)
 | .setattr o nm e,s=>(ev C s.1 e s.2).bind fun r=>(ev C s.1 o r.2).bind fun q=>(attrPut q.2 nm r.1 q.1).map fun H=>(.next,s.1,H)
 | .setidx a b e,s=>(ev C s.1 e s.2).bind fun r=>(ev C s.1 a r.2).bind fun p=>(ev C s.1 b p.2).bind fun q=>(setV q.2 p.1 q.1 r.1).map fun H=>(.next,s.1,H)
 | .setidx2 a b c d e f,s=>(ev C s.1 e s.2).bind fun r=>(ev C s.1 f r.2).bind fun r2=>
   (ev C s.1 a r2.2).bind fun p=>(ev C s.1 b p.2).bind fun q=>(setV q.2 p.1 q.1 r.1).bind fun H=>
    (ev C s.1 c H).bind fun p=>(ev C s.1 d p.2).bind fun q=>(setV q.2 p.1 q.1 r2.1).map fun H=>(.next,s.1,H)
 | .expr e,s=>(ev C s.1 e s.2).map fun r=>(.next,s.1,r.2)
 | .ret e,s=>(ev C s.1 e s.2).map fun r=>(.ret r.1,s.1,r.2)
 | .ite t a b,s=>(ev C s.1 t s.2).bind fun r=>sel r.1.truth (exs C a (s.1,r.2)) (exs C b (s.1,r.2))
 | .whil t b,s=>whileV (fun (s:St)=>(ev C s.1 t s.2).bind fun r=>sel r.1.truth ((exs C b (s.1,r.2)).map fun q=>match q.1 with
   | .next => .inl q.2
   | .ret _ => .inr q) (some (.inr (.next,s.1,r.2)))) s
 | .for_ tg it b,s=>(evI C s.1 it s.2).bind fun r=>forV (fun x s=>(bindTg tg x s.1).bind fun ρ=>exs C b (ρ,s.2)) r.1 (s.1,r.2)
 | .stuck,_=>Option.none
 | .frz i,s=>(rdL s.1 i).bind fun xs=>put i (.v (.lst xs)) s
noncomputable def exs (C:Calls):Ss→St→Option (Fl×St)
 | .nil,s=>some (.next,s)
 | .cons x r,s=>thenF (ex C x s) (exs C r)
end
structure FnDef where
 np:Nat
 ns:Nat
 body:Ss
noncomputable def finR (r:Option (Fl×St)):Option (V×Hp):=r.map fun r=>match r.1 with
 | .ret v=>(v,r.2.2)
 | .next=>(.none,r.2.2)
noncomputable def ρ0 (d:FnDef) (as:List V):List Sl:=as.map .v++List.replicate (d.ns - d.np) .undef
noncomputable def es:List E→Es
 | [] => .nil
 | x::r => .cons x (es r)
noncomputable def ss:List S→Ss
 | [] => .nil
 | x::r => .cons x (ss r)
noncomputable abbrev Fn.law:Fn:=⟨72⟩
noncomputable abbrev Fn.law_world:Fn:=⟨71⟩
noncomputable abbrev Fn.law_run:Fn:=⟨70⟩
noncomputable abbrev Fn.law_turned:Fn:=⟨69⟩
noncomputable abbrev Fn.law_bind:Fn:=⟨68⟩
noncomputable abbrev Fn.law_entered:Fn:=⟨67⟩
noncomputable abbrev Fn.law_called:Fn:=⟨66⟩
noncomputable abbrev Fn.law_do_datum:Fn:=⟨65⟩
noncomputable abbrev Fn.law_choice_datum:Fn:=⟨64⟩
noncomputable abbrev Fn.law_loop_datum:Fn:=⟨63⟩
noncomputable abbrev Fn.law_datum:Fn:=⟨62⟩
noncomputable abbrev Fn.law_data:Fn:=⟨61⟩
noncomputable abbrev Fn.law_list:Fn:=⟨60⟩
noncomputable abbrev Fn.law_do_value:Fn:=⟨59⟩
noncomputable abbrev Fn.law_cond_value:Fn:=⟨58⟩
noncomputable abbrev Fn.law_wide_value:Fn:=⟨57⟩
noncomputable abbrev Fn.law_value:Fn:=⟨56⟩
noncomputable abbrev Fn.law_seq:Fn:=⟨55⟩
noncomputable abbrev Fn.law_do:Fn:=⟨54⟩
noncomputable abbrev Fn.law_cond:Fn:=⟨53⟩
noncomputable abbrev Fn.law_case:Fn:=⟨52⟩
noncomputable abbrev Fn.law_loop:Fn:=⟨51⟩
noncomputable abbrev Fn.law_bound:Fn:=⟨50⟩
noncomputable abbrev Fn.law_made:Fn:=⟨49⟩
noncomputable abbrev Fn.law_some:Fn:=⟨48⟩
noncomputable abbrev Fn.law_name:Fn:=⟨47⟩
noncomputable abbrev Fn.law_less:Fn:=⟨46⟩
noncomputable abbrev Fn.law_shown:Fn:=⟨45⟩
noncomputable abbrev Fn.law_plus:Fn:=⟨44⟩
noncomputable abbrev Fn.law_draw:Fn:=⟨43⟩
noncomputable abbrev Fn.law_deck:Fn:=⟨42⟩
noncomputable abbrev Fn.names_fresh:Fn:=⟨41⟩
noncomputable abbrev Fn.do_do:Fn:=⟨40⟩
noncomputable abbrev Fn.step_of:Fn:=⟨39⟩
noncomputable abbrev Fn.do_case:Fn:=⟨38⟩
noncomputable abbrev Fn.case_test:Fn:=⟨37⟩
noncomputable abbrev Fn.do_cond:Fn:=⟨36⟩
noncomputable abbrev Fn.cond_clause:Fn:=⟨35⟩
noncomputable abbrev Fn.do_letrec:Fn:=⟨34⟩
noncomputable abbrev Fn.do_let_star:Fn:=⟨33⟩
noncomputable abbrev Fn.do_let:Fn:=⟨32⟩
noncomputable abbrev Fn.do_or:Fn:=⟨31⟩
noncomputable abbrev Fn.do_and:Fn:=⟨30⟩
noncomputable abbrev Fn.kept:Fn:=⟨29⟩
noncomputable abbrev Fn.procedure:Fn:=⟨28⟩
noncomputable abbrev Fn.choice:Fn:=⟨27⟩
noncomputable abbrev Fn.sequence:Fn:=⟨26⟩
noncomputable abbrev Fn.bindings_of:Fn:=⟨25⟩
noncomputable abbrev Fn.is_word:Fn:=⟨24⟩
noncomputable abbrev Fn.inner_list:Fn:=⟨23⟩
noncomputable abbrev Fn.things_of:Fn:=⟨22⟩
noncomputable abbrev Fn.word_of:Fn:=⟨21⟩
noncomputable abbrev Fn.alias_of:Fn:=⟨20⟩
noncomputable abbrev Fn.special_word:Fn:=⟨19⟩
noncomputable abbrev Fn.same:Fn:=⟨18⟩
noncomputable abbrev Fn.same_denotation:Fn:=⟨17⟩
noncomputable abbrev Fn.scope_find:Fn:=⟨16⟩
noncomputable abbrev Fn.scope_bound:Fn:=⟨15⟩
noncomputable abbrev Fn.scope_bind:Fn:=⟨14⟩
noncomputable abbrev Fn.key_of:Fn:=⟨13⟩
noncomputable abbrev Fn.is_identifier:Fn:=⟨12⟩
noncomputable abbrev Fn.split_list:Fn:=⟨11⟩
noncomputable abbrev Fn.list_of:Fn:=⟨10⟩
noncomputable abbrev Fn.symtab_symbol:Fn:=⟨9⟩
noncomputable def derived:V := .tup [.str "and",.str "or",.str "let",.str "let*",.str "letrec",.str "cond",.str "case",.str "do"]
noncomputable def b_symtab_symbol:FnDef:=⟨2,3,(ss [.assign 2 (.get (.attr (.v 0) "by_text") (.v 1)),.ite (.cmp false .is (.v 2) (.k (.none))) (ss [.assign 2 (.new .symbol (es [.b1 false .len (.attr (.v 0) "rows"),.v 1])),.expr (.append (.attr (.v 0) "rows") (.v 2)),.setidx (.attr (.v 0) "by_text") (.v 1) (.v 2)]) (ss []),.ret (.v 2)])⟩
noncomputable def b_list_of:FnDef:=⟨2,4,(ss [.assign 2 (.v 1),.for_ [3] (.range3 (.bin false .sub (.b1 false .len (.v 0)) (.k (.int 1))) (.k (.int (-1)))) (ss [.assign 2 (.new .pair (es [.idx true (.v 0) (.v 3),.v 2]))]),.ret (.v 2)])⟩
noncomputable def b_split_list:FnDef:=⟨1,4,(ss [.newl 1,.assign 2 (.v 0),.assign 3 (.v 0),.whil (.isI false (.v 2) (.cls .pair)) (ss [.lapp 1 (.attr (.v 2) "car"),.assign 2 (.attr (.v 2) "cdr"),.ite (.cmp true .eq (.bin false .mod (.b1 false .len (.l 1)) (.k (.int 2))) (.k (.int 0))) (ss [.assign 3 (.attr (.v 3) "cdr"),.ite (.cmp true .is (.v 2) (.v 3)) (ss [.frz 1,.ret (.tup (es [.v 1,.k (.none)]))]) (ss [])]) (ss [])]),.frz 1,.ret (.tup (es [.v 1,.v 2]))])⟩
noncomputable def b_is_identifier:FnDef:=⟨1,1,(ss [.ret (.or (.isI false (.v 0) (.cls .symbol)) (.isI false (.v 0) (.cls .alias)))])⟩
noncomputable def b_key_of:FnDef:=⟨1,1,(ss [.ite (.isI false (.v 0) (.cls .symbol)) (ss [.ret (.bin false .mul (.k (.int 2)) (.attr (.v 0) "number"))]) (ss []),.ret (.bin false .add (.bin false .mul (.k (.int 2)) (.attr (.v 0) "number")) (.k (.int 1)))])⟩
noncomputable def b_scope_bind:FnDef:=⟨3,3,(ss [.setidx (.attr (.v 0) "names") (.call .key_of (es [.v 1]) []) (.v 2)])⟩
noncomputable def b_scope_bound:FnDef:=⟨2,5,(ss [.assign 2 (.call .key_of (es [.v 1]) []),.assign 3 (.v 0),.whil (.cmp false .isNot (.v 3) (.k (.none))) (ss [.assign 4 (.get (.attr (.v 3) "names") (.v 2)),.ite (.cmp false .isNot (.v 4) (.k (.none))) (ss [.ret (.v 4)]) (ss []),.assign 3 (.attr (.v 3) "parent")]),.ret (.k (.none))])⟩
noncomputable def b_scope_find:FnDef:=⟨2,5,(ss [.assign 2 (.v 0),.assign 3 (.v 1),.assign 4 (.mcall "bound" (.v 2) (es [.v 3])),.whil (.and (.cmp false .is (.v 4) (.k (.none))) (.isI false (.v 3) (.cls .alias))) (ss [.assign 2 (.attr (.v 3) "scope"),.assign 3 (.attr (.v 3) "base"),.assign 4 (.mcall "bound" (.v 2) (es [.v 3]))]),.ite (.cmp false .is (.v 4) (.k (.none))) (ss [.ret (.new .globName (es [.v 3]))]) (ss []),.ret (.v 4)])⟩
noncomputable def b_same_denotation:FnDef:=⟨2,2,(ss [.ite (.and (.isI false (.v 0) (.cls .special)) (.isI false (.v 1) (.cls .special))) (ss [.ret (.cmp false .eq (.attr (.v 0) "word") (.attr (.v 1) "word"))]) (ss []),.ite (.and (.isI false (.v 0) (.cls .locName)) (.isI false (.v 1) (.cls .locName))) (ss [.ret (.cmp false .eq (.attr (.v 0) "number") (.attr (.v 1) "number"))]) (ss []),.ite (.and (.isI false (.v 0) (.cls .globName)) (.isI false (.v 1) (.cls .globName))) (ss [.ret (.cmp false .eq (.attr (.attr (.v 0) "symbol") "number") (.attr (.attr (.v 1) "symbol") "number"))]) (ss []),.ite (.and (.isI false (.v 0) .macro) (.isI false (.v 1) .macro)) (ss [.ret (.cmp false .is (.v 0) (.v 1))]) (ss []),.ret (.k (.bool false))])⟩
noncomputable def b_same:FnDef:=⟨4,4,(ss [.ret (.call .same_denotation (es [.mcall "find" (.v 1) (es [.v 0]),.mcall "find" (.v 3) (es [.v 2])]) [])])⟩
noncomputable def b_special_word:FnDef:=⟨2,3,(ss [.ite (.not (.call .is_identifier (es [.v 0]) [])) (ss [.ret (.k (.str ""))]) (ss []),.assign 2 (.mcall "find" (.v 1) (es [.v 0])),.ite (.isI false (.v 2) (.cls .special)) (ss [.ret (.attr (.v 2) "word")]) (ss []),.ret (.k (.str ""))])⟩
noncomputable def b_alias_of:FnDef:=⟨3,3,(ss [.ret (.new .alias (es [.mcall "fresh" (.v 2) (es []),.v 0,.v 1]))])⟩
noncomputable def b_word_of:FnDef:=⟨2,2,(ss [.ret (.call .alias_of (es [.mcall "symbol" (.attr (.v 0) "table") (es [.v 1]),.attr (.v 0) "root",.v 0]) [])])⟩
noncomputable def b_things_of:FnDef:=⟨2,4,(ss [.unp [2,3] (.call .split_list (es [.v 0]) []),.ite (.or (.cmp false .isNot (.v 3) (.g .empty)) (.cmp true .lt (.bin false .sub (.b1 false .len (.v 2)) (.k (.int 1))) (.v 1))) (ss [.stuck]) (ss []),.ret (.sl false (.v 2) (.k (.int 1)) (.k .none))])⟩
noncomputable def b_inner_list:FnDef:=⟨2,4,(ss [.unp [2,3] (.call .split_list (es [.v 0]) []),.ite (.cmp false .isNot (.v 3) (.g .empty)) (ss [.stuck]) (ss []),.ret (.v 2)])⟩
noncomputable def b_is_word:FnDef:=⟨4,4,(ss [.ret (.and (.call .is_identifier (es [.v 0]) []) (.call .same (es [.v 0,.v 2,.mcall "symbol" (.attr (.v 3) "table") (es [.v 1]),.attr (.v 3) "root"]) []))])⟩
noncomputable def b_bindings_of:FnDef:=⟨2,6,(ss [.newl 2,.newl 3,.for_ [4] (.e (.call .inner_list (es [.v 0,.v 1]) [])) (ss [.assign 5 (.call .inner_list (es [.v 4,.v 1]) []),.ite (.or (.cmp false .ne (.b1 false .len (.v 5)) (.k (.int 2))) (.not (.call .is_identifier (es [.idx false (.v 5) (.k (.int 0))]) []))) (ss [.stuck]) (ss []),.lapp 2 (.idx false (.v 5) (.k (.int 0))),.lapp 3 (.idx false (.v 5) (.k (.int 1)))]),.frz 2,.frz 3,.ret (.tup (es [.v 2,.v 3]))])⟩
noncomputable def b_sequence:FnDef:=⟨2,2,(ss [.ret (.ite (.cmp true .eq (.b1 false .len (.v 1)) (.k (.int 1))) (.idx false (.v 1) (.k (.int 0))) (.new .pair (es [.call .word_of (es [.v 0,.k (.str "begin")]) [],.call .list_of (es [.v 1]) [.empty]])))])⟩
noncomputable def b_choice:FnDef:=⟨4,4,(ss [.ret (.call .list_of (es [.list false (es [.call .word_of (es [.v 0,.k (.str "if")]) [],.v 1,.v 2,.v 3])]) [.empty])])⟩
noncomputable def b_procedure:FnDef:=⟨3,3,(ss [.ret (.new .pair (es [.call .word_of (es [.v 0,.k (.str "lambda")]) [],.new .pair (es [.v 1,.call .list_of (es [.v 2]) [.empty]])]))])⟩
noncomputable def b_kept:FnDef:=⟨4,4,(ss [.ret (.call .list_of (es [.list false (es [.call .procedure (es [.v 0,.call .list_of (es [.list false (es [.v 1])]) [.empty],.list false (es [.v 3])]) [],.v 2])]) [.empty])])⟩
noncomputable def b_do_and:FnDef:=⟨3,6,(ss [.assign 3 (.call .things_of (es [.v 0,.k (.int 0)]) []),.ite (.cmp false .eq (.b1 false .len (.v 3)) (.k (.int 0))) (ss [.ret (.k (.bool true))]) (ss []),.assign 4 (.idx false (.v 3) (.k (.int (-1)))),.for_ [5] (.e (.rsl (.v 3) (.k (.int (-2))))) (ss [.assign 4 (.call .choice (es [.v 2,.v 5,.v 4,.k (.bool false)]) [])]),.ret (.v 4)])⟩
noncomputable def b_do_or:FnDef:=⟨3,7,(ss [.assign 3 (.call .things_of (es [.v 0,.k (.int 0)]) []),.ite (.cmp false .eq (.b1 false .len (.v 3)) (.k (.int 0))) (ss [.ret (.k (.bool false))]) (ss []),.assign 4 (.idx false (.v 3) (.k (.int (-1)))),.for_ [5] (.e (.rsl (.v 3) (.k (.int (-2))))) (ss [.assign 6 (.call .word_of (es [.v 2,.k (.str "kept")]) []),.assign 4 (.call .kept (es [.v 2,.v 6,.v 5,.call .choice (es [.v 2,.v 6,.v 6,.v 4]) []]) [])]),.ret (.v 4)])⟩
noncomputable def b_do_let:FnDef:=⟨3,8,(ss [.assign 3 (.call .things_of (es [.v 0,.k (.int 2)]) []),.ite (.not (.call .is_identifier (es [.idx false (.v 3) (.k (.int 0))]) [])) (ss [.unp [4,5] (.call .bindings_of (es [.idx false (.v 3) (.k (.int 0)),.v 0]) []),.ret (.new .pair (es [.call .procedure (es [.v 2,.call .list_of (es [.v 4]) [.empty],.sl false (.v 3) (.k (.int 1)) (.k .none)]) [],.call .list_of (es [.v 5]) [.empty]]))]) (ss []),.ite (.cmp false .lt (.b1 false .len (.v 3)) (.k (.int 3))) (ss [.stuck]) (ss []),.unp [4,5] (.call .bindings_of (es [.idx false (.v 3) (.k (.int 1)),.v 0]) []),.assign 6 (.call .list_of (es [.list false (es [.idx false (.v 3) (.k (.int 0)),.call .procedure (es [.v 2,.call .list_of (es [.v 4]) [.empty],.sl false (.v 3) (.k (.int 2)) (.k .none)]) []])]) [.empty]),.assign 7 (.call .list_of (es [.list false (es [.call .word_of (es [.v 2,.k (.str "letrec")]) [],.call .list_of (es [.list false (es [.v 6])]) [.empty],.idx false (.v 3) (.k (.int 0))])]) [.empty]),.ret (.new .pair (es [.v 7,.call .list_of (es [.v 5]) [.empty]]))])⟩
noncomputable def b_do_let_star:FnDef:=⟨3,9,(ss [.assign 3 (.call .things_of (es [.v 0,.k (.int 2)]) []),.unp [4,5] (.call .bindings_of (es [.idx false (.v 3) (.k (.int 0)),.v 0]) []),.ite (.cmp false .eq (.b1 false .len (.v 4)) (.k (.int 0))) (ss [.ret (.call .list_of (es [.list false (es [.call .procedure (es [.v 2,.g .empty,.sl false (.v 3) (.k (.int 1)) (.k .none)]) []])]) [.empty])]) (ss []),.assign 6 (.bin false .sub (.b1 false .len (.v 4)) (.k (.int 1))),.assign 7 (.call .list_of (es [.list false (es [.call .procedure (es [.v 2,.call .list_of (es [.list false (es [.idx false (.v 4) (.v 6)])]) [.empty],.sl false (.v 3) (.k (.int 1)) (.k .none)]) [],.idx false (.v 5) (.v 6)])]) [.empty]),.for_ [8] (.range3 (.bin false .sub (.v 6) (.k (.int 1))) (.k (.int (-1)))) (ss [.assign 7 (.call .list_of (es [.list false (es [.call .procedure (es [.v 2,.call .list_of (es [.list false (es [.idx false (.v 4) (.v 8)])]) [.empty],.list false (es [.v 7])]) [],.idx false (.v 5) (.v 8)])]) [.empty])]),.ret (.v 7)])⟩
noncomputable def b_do_letrec:FnDef:=⟨3,10,(ss [.assign 3 (.call .things_of (es [.v 0,.k (.int 2)]) []),.unp [4,5] (.call .bindings_of (es [.idx false (.v 3) (.k (.int 0)),.v 0]) []),.assign 6 (.call .list_of (es [.list false (es [.call .procedure (es [.v 2,.g .empty,.sl false (.v 3) (.k (.int 1)) (.k .none)]) []])]) [.empty]),.ite (.cmp false .eq (.b1 false .len (.v 4)) (.k (.int 0))) (ss [.ret (.v 6)]) (ss []),.assign 7 (.comp false [8,9] (.call .list_of (es [.list false (es [.call .word_of (es [.v 2,.k (.str "define")]) [],.v 8,.v 9])]) [.empty]) (.zip (.v 4) (.v 5)) (.k (.bool true))),.ret (.call .list_of (es [.list false (es [.call .procedure (es [.v 2,.g .empty,.bin false .add (.v 7) (.list false (es [.v 6]))]) []])]) [.empty])])⟩
noncomputable def b_cond_clause:FnDef:=⟨5,8,(ss [.assign 5 (.call .inner_list (es [.v 0,.v 2]) []),.ite (.cmp false .eq (.b1 false .len (.v 5)) (.k (.int 0))) (ss [.stuck]) (ss []),.ite (.cmp false .eq (.b1 false .len (.v 5)) (.k (.int 1))) (ss [.ite (.cmp true .is (.v 1) (.k (.none))) (ss [.ret (.idx false (.v 5) (.k (.int 0)))]) (ss []),.assign 6 (.call .word_of (es [.v 4,.k (.str "kept")]) []),.ret (.call .kept (es [.v 4,.v 6,.idx false (.v 5) (.k (.int 0)),.call .choice (es [.v 4,.v 6,.v 6,.v 1]) []]) [])]) (ss []),.assign 7 (.ite (.cmp true .is (.v 1) (.k (.none))) (.g .unspec) (.v 1)),.ite (.call .is_word (es [.idx false (.v 5) (.k (.int 1)),.k (.str "=>"),.v 3,.v 4]) []) (ss [.ite (.cmp false .ne (.b1 false .len (.v 5)) (.k (.int 3))) (ss [.stuck]) (ss []),.assign 6 (.call .word_of (es [.v 4,.k (.str "kept")]) []),.ret (.call .kept (es [.v 4,.v 6,.idx false (.v 5) (.k (.int 0)),.call .choice (es [.v 4,.v 6,.call .list_of (es [.list false (es [.idx false (.v 5) (.k (.int 2)),.v 6])]) [.empty],.v 7]) []]) [])]) (ss []),.ret (.call .choice (es [.v 4,.idx false (.v 5) (.k (.int 0)),.call .sequence (es [.v 4,.sl false (.v 5) (.k (.int 1)) (.k .none)]) [],.v 7]) [])])⟩
noncomputable def b_do_cond:FnDef:=⟨3,7,(ss [.assign 3 (.call .things_of (es [.v 0,.k (.int 1)]) []),.assign 4 (.k (.none)),.for_ [5] (.range3 (.bin false .sub (.b1 false .len (.v 3)) (.k (.int 1))) (.k (.int (-1)))) (ss [.assign 6 (.call .inner_list (es [.idx true (.v 3) (.v 5),.v 0]) []),.ite (.and (.cmp true .gt (.b1 false .len (.v 6)) (.k (.int 0))) (.call .is_word (es [.idx false (.v 6) (.k (.int 0)),.k (.str "else"),.v 1,.v 2]) [])) (ss [.ite (.or (.cmp true .ne (.v 5) (.bin false .sub (.b1 false .len (.v 3)) (.k (.int 1)))) (.cmp true .lt (.b1 false .len (.v 6)) (.k (.int 2)))) (ss [.stuck]) (ss []),.assign 4 (.call .sequence (es [.v 2,.sl false (.v 6) (.k (.int 1)) (.k .none)]) [])]) (ss [.assign 4 (.call .cond_clause (es [.idx true (.v 3) (.v 5),.v 4,.v 0,.v 1,.v 2]) [])])]),.ret (.v 4)])⟩
noncomputable def b_case_test:FnDef:=⟨3,4,(ss [.assign 3 (.call .list_of (es [.list false (es [.call .word_of (es [.v 2,.k (.str "quote")]) [],.v 1])]) [.empty]),.ret (.call .list_of (es [.list false (es [.call .word_of (es [.v 2,.k (.str "%memv")]) [],.v 0,.v 3])]) [.empty])])⟩
noncomputable def b_do_case:FnDef:=⟨3,9,(ss [.assign 3 (.call .things_of (es [.v 0,.k (.int 2)]) []),.assign 4 (.sl false (.v 3) (.k (.int 1)) (.k .none)),.assign 5 (.call .word_of (es [.v 2,.k (.str "kept")]) []),.assign 6 (.g .unspec),.for_ [7] (.range3 (.bin false .sub (.b1 false .len (.v 4)) (.k (.int 1))) (.k (.int (-1)))) (ss [.assign 8 (.call .inner_list (es [.idx true (.v 4) (.v 7),.v 0]) []),.ite (.cmp true .lt (.b1 false .len (.v 8)) (.k (.int 2))) (ss [.stuck]) (ss []),.ite (.call .is_word (es [.idx false (.v 8) (.k (.int 0)),.k (.str "else"),.v 1,.v 2]) []) (ss [.ite (.cmp true .ne (.v 7) (.bin false .sub (.b1 false .len (.v 4)) (.k (.int 1)))) (ss [.stuck]) (ss []),.assign 6 (.call .sequence (es [.v 2,.sl false (.v 8) (.k (.int 1)) (.k .none)]) [])]) (ss [.expr (.call .inner_list (es [.idx false (.v 8) (.k (.int 0)),.v 0]) []),.assign 6 (.call .choice (es [.v 2,.call .case_test (es [.v 5,.idx false (.v 8) (.k (.int 0)),.v 2]) [],.call .sequence (es [.v 2,.sl false (.v 8) (.k (.int 1)) (.k .none)]) [],.v 6]) [])])]),.ret (.call .kept (es [.v 2,.v 5,.idx false (.v 3) (.k (.int 0)),.v 6]) [])])⟩
noncomputable def b_step_of:FnDef:=⟨2,2,(ss [.ite (.or (.cmp false .notIn (.b1 false .len (.v 0)) (.tup (es [.k (.int 2),.k (.int 3)]))) (.not (.call .is_identifier (es [.idx false (.v 0) (.k (.int 0))]) []))) (ss [.stuck]) (ss []),.ret (.tup (es [.idx false (.v 0) (.k (.int 0)),.idx false (.v 0) (.k (.int 1)),.ite (.cmp false .eq (.b1 false .len (.v 0)) (.k (.int 3))) (.idx false (.v 0) (.k (.int 2))) (.idx false (.v 0) (.k (.int 0)))]))])⟩
noncomputable def b_do_do:FnDef:=⟨3,18,(ss [.assign 3 (.call .things_of (es [.v 0,.k (.int 2)]) []),.newl 4,.newl 5,.newl 6,.for_ [7] (.e (.call .inner_list (es [.idx false (.v 3) (.k (.int 0)),.v 0]) [])) (ss [.unp [8,9,10] (.call .step_of (es [.call .inner_list (es [.v 7,.v 0]) [],.v 0]) []),.lapp 4 (.v 8),.lapp 5 (.v 9),.lapp 6 (.v 10)]),.frz 4,.frz 5,.frz 6,.assign 11 (.call .inner_list (es [.idx false (.v 3) (.k (.int 1)),.v 0]) []),.ite (.cmp false .eq (.b1 false .len (.v 11)) (.k (.int 0))) (ss [.stuck]) (ss []),.assign 12 (.call .word_of (es [.v 2,.k (.str "turn")]) []),.assign 13 (.call .sequence (es [.v 2,.bin true .add (.sl false (.v 3) (.k (.int 2)) (.k .none)) (.list false (es [.new .pair (es [.v 12,.call .list_of (es [.v 6]) [.empty]])]))]) []),.assign 14 (.call .list_of (es [.list false (es [.call .word_of (es [.v 2,.k (.str "if")]) [],.k (.bool false),.k (.bool false)])]) [.empty]),.assign 15 (.call .sequence (es [.v 2,.bin true .add (.list false (es [.v 14])) (.sl false (.v 11) (.k (.int 1)) (.k .none))]) []),.assign 16 (.call .procedure (es [.v 2,.call .list_of (es [.v 4]) [.empty],.list false (es [.call .choice (es [.v 2,.idx false (.v 11) (.k (.int 0)),.v 15,.v 13]) []])]) []),.assign 17 (.call .list_of (es [.list false (es [.call .list_of (es [.list false (es [.v 12,.v 16])]) [.empty]])]) [.empty]),.ret (.call .list_of (es [.list false (es [.call .word_of (es [.v 2,.k (.str "letrec")]) [],.v 17,.new .pair (es [.v 12,.call .list_of (es [.v 5]) [.empty]])])]) [.empty])])⟩
noncomputable def b_names_fresh:FnDef:=⟨1,1,(ss [.setattr (.v 0) "last" (.bin false .add (.attr (.v 0) "last") (.k (.int 1))),.ret (.attr (.v 0) "last")])⟩
noncomputable def b_law_deck:FnDef:=⟨1,2,(ss [.ret (.comp true [1] (.bin false .mod (.b1 false .abs (.v 1)) (.bin false .pow (.k (.int 10)) (.k (.int 16)))) (.e (.sl false (.v 0) (.k .none) (.k (.int 12)))) (.k (.bool true)))])⟩
noncomputable def b_law_draw:FnDef:=⟨2,3,(ss [.whil (.and (.cmp true .ne (.v 0) (.list false (es []))) (.cmp true .eq (.idx false (.v 0) (.k (.int 0))) (.k (.int 0)))) (ss [.expr (.pop0 (.v 0))]),.ite (.cmp true .eq (.v 0) (.list false (es []))) (ss [.ret (.k (.int 0))]) (ss []),.assign 2 (.bin true .mod (.idx false (.v 0) (.k (.int 0))) (.v 1)),.setidx (.v 0) (.k (.int 0)) (.bin true .div (.idx false (.v 0) (.k (.int 0))) (.v 1)),.ret (.v 2)])⟩
noncomputable def b_law_plus:FnDef:=⟨2,3,(ss [.assign 2 (.ite (.or (.isI false (.v 0) .bool) (.not (.isI false (.v 0) .int))) (.k (.int 1)) (.v 0)),.ret (.bin false .mod (.bin false .add (.v 2) (.ite (.or (.isI false (.v 1) .bool) (.not (.isI false (.v 1) .int))) (.k (.int 1)) (.v 1))) (.k (.int 7)))])⟩
noncomputable def b_law_shown:FnDef:=⟨1,1,(ss [.ret (.ite (.isI false (.v 0) .boolInt) (.b1 true .repr (.v 0)) (.k (.str "nothing")))])⟩
noncomputable def b_law_less:FnDef:=⟨2,2,(ss [.ret (.cmp false .lt (.call .law_plus (es [.v 0,.k (.int 0)]) []) (.call .law_plus (es [.v 1,.k (.int 0)]) []))])⟩
noncomputable def b_law_name:FnDef:=⟨1,1,(ss [.ret (.idx true (.list false (es [.k (.str "x"),.k (.str "kept"),.k (.str "turn"),.k (.str "if"),.k (.str "begin"),.k (.str "lambda"),.k (.str "letrec")])) (.call .law_draw (es [.v 0,.k (.int 7)]) []))])⟩
noncomputable def b_law_some:FnDef:=⟨4,5,(ss [.ret (.comp false [4] (.call .law_made (es [.v 0,.v 1,.v 2]) []) (.range1 (.bin false .add (.k (.int 1)) (.call .law_draw (es [.v 0,.v 3]) []))) (.k (.bool true)))])⟩
noncomputable def b_law_made:FnDef:=⟨3,6,(ss [.assign 3 (.call .law_draw (es [.v 0,.k (.int 14)]) []),.ite (.or (.cmp false .eq (.v 2) (.k (.int 0))) (.cmp false .eq (.v 3) (.k (.int 0)))) (ss [.assign 4 (.bin true .add (.list false (es [.k (.int 0),.k (.int 1),.k (.int 2),.k (.int 3),.k (.bool true),.k (.bool false)])) (.comp false [5] (.tup (es [.k (.str "name"),.v 5])) (.e (.sl true (.v 1) (.k (.int (-3))) (.k .none))) (.k (.bool true)))),.ret (.idx true (.v 4) (.bin true .sub (.bin true .sub (.b1 true .len (.v 4)) (.k (.int 1))) (.call .law_draw (es [.v 0,.b1 true .len (.v 4)]) [])))]) (ss []),.ite (.cmp false .eq (.v 3) (.k (.int 1))) (ss [.ret (.tup (es [.k (.str "say"),.call .law_made (es [.v 0,.v 1,.bin true .sub (.v 2) (.k (.int 1))]) []]))]) (ss []),.ite (.cmp false .eq (.v 3) (.k (.int 2))) (ss [.ret (.tup (es [.idx false (.list false (es [.k (.str "plus"),.k (.str "less")])) (.call .law_draw (es [.v 0,.k (.int 2)]) []),.call .law_made (es [.v 0,.v 1,.bin true .sub (.v 2) (.k (.int 1))]) [],.call .law_made (es [.v 0,.v 1,.k (.int 0)]) []]))]) (ss []),.ite (.and (.cmp false .eq (.v 3) (.k (.int 3))) (.cmp true .ne (.v 1) (.list false (es [])))) (ss [.ret (.tup (es [.k (.str "set!"),.idx true (.v 1) (.bin true .sub (.k (.int (-1))) (.call .law_draw (es [.v 0,.min (.k (.int 2)) (.b1 true .len (.v 1))]) [])),.call .law_made (es [.v 0,.v 1,.bin true .sub (.v 2) (.k (.int 1))]) []]))]) (ss []),.ite (.and (.cmp false .eq (.v 3) (.k (.int 4))) (.cmp true .notIn (.k (.str "if")) (.v 1))) (ss [.ret (.tup (es [.k (.str "if"),.call .law_made (es [.v 0,.v 1,.bin true .sub (.v 2) (.k (.int 1))]) [],.call .law_made (es [.v 0,.v 1,.bin true .sub (.v 2) (.k (.int 1))]) [],.call .law_made (es [.v 0,.v 1,.k (.int 0)]) []]))]) (ss []),.ite (.cmp false .isIn (.v 3) (.tup (es [.k (.int 5),.k (.int 6)]))) (ss [.ret (.tup (es [.idx false (.list false (es [.k (.str "and"),.k (.str "or")])) (.bin false .sub (.v 3) (.k (.int 5))),.sl true (.call .law_some (es [.v 0,.v 1,.bin true .sub (.v 2) (.k (.int 1)),.k (.int 3)]) []) (.bin true .div (.call .law_draw (es [.v 0,.k (.int 5)]) []) (.k (.int 4))) (.k .none)]))]) (ss []),.ite (.cmp false .isIn (.v 3) (.tup (es [.k (.int 7),.k (.int 8)]))) (ss [.ret (.call .law_bound (es [.v 0,.v 1,.v 2,.v 3]) [])]) (ss []),.ite (.cmp false .eq (.v 3) (.k (.int 9))) (ss [.ret (.call .law_loop (es [.v 0,.v 1,.v 2]) [])]) (ss []),.ite (.cmp false .eq (.v 3) (.k (.int 10))) (ss [.ret (.call .law_case (es [.v 0,.v 1,.v 2]) [])]) (ss []),.ite (.cmp false .eq (.v 3) (.k (.int 11))) (ss [.ret (.call .law_do (es [.v 0,.v 1,.v 2]) [])]) (ss []),.ret (.call .law_cond (es [.v 0,.v 1,.v 2]) [])])⟩
noncomputable def b_law_bound:FnDef:=⟨4,9,(ss [.unpD [4,5,6] [.some (.idx false (.list false (es [.k (.str "let"),.k (.str "let*")])) (.bin false .sub (.v 3) (.k (.int 7)))),.none,.none],.for_ [7] (.range1 (.call .law_draw (es [.v 0,.k (.int 3)]) [])) (ss [.assign 8 (.call .law_name (es [.v 0]) []),.ite (.or (.cmp false .eq (.v 4) (.k (.str "let*"))) (.cmp true .notIn (.v 8) (.l 5))) (ss [.lapp 6 (.tup (es [.v 8,.call .law_made (es [.v 0,.bin true .add (.v 1) (.ite (.cmp false .eq (.v 4) (.k (.str "let*"))) (.l 5) (.list false (es []))),.bin true .sub (.v 2) (.k (.int 1))]) []])),.lapp 5 (.v 8)]) (ss [])]),.frz 6,.ret (.tup (es [.v 4,.v 6,.call .law_some (es [.v 0,.bin true .add (.v 1) (.l 5),.bin true .sub (.v 2) (.k (.int 1)),.k (.int 2)]) []]))])⟩
noncomputable def b_law_loop:FnDef:=⟨3,8,(ss [.ite (.or (.cmp true .isIn (.k (.str "if")) (.v 1)) (.cmp true .isIn (.k (.str "begin")) (.v 1))) (ss [.ret (.tup (es [.k (.str "say"),.call .law_made (es [.v 0,.v 1,.bin true .sub (.v 2) (.k (.int 1))]) []]))]) (ss []),.assign 3 (.ite (.and (.cmp false .eq (.call .law_draw (es [.v 0,.k (.int 2)]) []) (.k (.int 0))) (.and (.cmp true .notIn (.k (.str "letrec")) (.v 1)) (.cmp true .notIn (.k (.str "lambda")) (.v 1)))) (.k (.str "letrec")) (.k (.str "named"))),.unp [4,5] (.idx true (.list false (es [.tup (es [.k (.str "go"),.k (.str "x")]),.tup (es [.k (.str "turn"),.k (.str "kept")]),.tup (es [.k (.str "kept"),.k (.str "turn")])])) (.call .law_draw (es [.v 0,.k (.int 3)]) [])),.assign 6 (.comp false [7] (.v 7) (.e (.v 1)) (.cmp true .notIn (.v 7) (.tup (es [.v 4,.v 5])))),.ret (.tup (es [.v 3,.v 4,.v 5,.call .law_draw (es [.v 0,.k (.int 3)]) [],.call .law_made (es [.v 0,.v 6,.bin true .sub (.v 2) (.k (.int 1))]) []]))])⟩
noncomputable def b_law_case:FnDef:=⟨3,8,(ss [.newl 3,.for_ [4] (.range1 (.bin false .add (.k (.int 1)) (.call .law_draw (es [.v 0,.k (.int 2)]) []))) (ss [.assign 5 (.comp false [7] (.idx true (.list false (es [.k (.int 0),.k (.int 1),.k (.int 2),.k (.int 3),.k (.bool true),.k (.bool false)])) (.call .law_draw (es [.v 0,.k (.int 6)]) [])) (.range1 (.call .law_draw (es [.v 0,.k (.int 4)]) [])) (.k (.bool true))),.lapp 3 (.tup (es [.v 5,.call .law_some (es [.v 0,.v 1,.bin true .sub (.v 2) (.k (.int 1)),.k (.int 2)]) []]))]),.assign 6 (.ite (.cmp false .eq (.call .law_draw (es [.v 0,.k (.int 2)]) []) (.k (.int 1))) (.call .law_some (es [.v 0,.v 1,.bin true .sub (.v 2) (.k (.int 1)),.k (.int 2)]) []) (.k (.none))),.frz 3,.ret (.tup (es [.k (.str "case"),.call .law_made (es [.v 0,.v 1,.bin true .sub (.v 2) (.k (.int 1))]) [],.v 3,.v 6]))])⟩
noncomputable def b_law_cond:FnDef:=⟨3,8,(ss [.newl 3,.for_ [4] (.range1 (.bin false .add (.k (.int 1)) (.call .law_draw (es [.v 0,.k (.int 3)]) []))) (ss [.unpD [5,6] [.some (.call .law_draw (es [.v 0,.k (.int 3)]) []),.some (.call .law_made (es [.v 0,.v 1,.bin true .sub (.v 2) (.k (.int 1))]) [])],.lapp 3 (.tup (es [.v 5,.v 6,.ite (.cmp false .eq (.v 5) (.k (.int 0))) (.call .law_some (es [.v 0,.v 1,.bin true .sub (.v 2) (.k (.int 1)),.k (.int 2)]) []) (.list false (es []))]))]),.assign 7 (.ite (.cmp false .eq (.call .law_draw (es [.v 0,.k (.int 2)]) []) (.k (.int 1))) (.call .law_some (es [.v 0,.v 1,.bin true .sub (.v 2) (.k (.int 1)),.k (.int 2)]) []) (.k (.none))),.frz 3,.ret (.tup (es [.k (.str "cond"),.v 3,.v 7]))])⟩
noncomputable def b_law_do:FnDef:=⟨3,10,(ss [.unpD [3,4] [.some (.idx true (.list false (es [.k (.str "x"),.k (.str "turn"),.k (.str "kept")])) (.call .law_draw (es [.v 0,.k (.int 3)]) [])),.some (.idx true (.list false (es [.k (.str "y"),.k (.str "begin")])) (.call .law_draw (es [.v 0,.k (.int 2)]) []))],.assign 5 (.bin true .add (.comp false [9] (.v 9) (.e (.v 1)) (.cmp true .ne (.v 9) (.v 3))) (.list false (es [.v 4]))),.assign 6 (.ite (.cmp false .eq (.call .law_draw (es [.v 0,.k (.int 3)]) []) (.k (.int 0))) (.list false (es [])) (.call .law_some (es [.v 0,.v 5,.bin true .sub (.v 2) (.k (.int 1)),.k (.int 2)]) [])),.assign 7 (.ite (.cmp false .eq (.call .law_draw (es [.v 0,.k (.int 2)]) []) (.k (.int 0))) (.list false (es [])) (.call .law_some (es [.v 0,.v 5,.bin true .sub (.v 2) (.k (.int 1)),.k (.int 1)]) [])),.assign 8 (.ite (.cmp false .eq (.call .law_draw (es [.v 0,.k (.int 2)]) []) (.k (.int 0))) (.k (.none)) (.call .law_made (es [.v 0,.v 5,.k (.int 0)]) [])),.ret (.tup (es [.k (.str "do"),.v 3,.bin true .sub (.k (.int 4)) (.call .law_draw (es [.v 0,.k (.int 3)]) []),.v 4,.call .law_made (es [.v 0,.v 1,.k (.int 0)]) [],.v 8,.v 6,.v 7]))])⟩
noncomputable def b_law_seq:FnDef:=⟨3,5,(ss [.assign 3 (.g .unspec),.for_ [4] (.e (.v 0)) (ss [.assign 3 (.call .law_value (es [.v 4,.v 1,.v 2]) [])]),.ret (.v 3)])⟩
noncomputable def b_law_value:FnDef:=⟨3,8,(ss [.ite (.not (.isI false (.v 0) .tuple)) (ss [.ret (.v 0)]) (ss []),.assign 3 (.idx false (.v 0) (.k (.int 0))),.ite (.cmp false .eq (.v 3) (.k (.str "name"))) (ss [.ret (.idx false (.idx false (.v 1) (.idx false (.v 0) (.k (.int 1)))) (.k (.int 0)))]) (ss []),.ite (.cmp false .eq (.v 3) (.k (.str "say"))) (ss [.assign 4 (.call .law_value (es [.idx false (.v 0) (.k (.int 1)),.v 1,.v 2]) []),.expr (.append (.v 2) (.call .law_plus (es [.v 4,.k (.int 0)]) [])),.ret (.v 4)]) (ss []),.ite (.cmp false .isIn (.v 3) (.tup (es [.k (.str "plus"),.k (.str "less")]))) (ss [.assign 5 (.call .law_value (es [.idx false (.v 0) (.k (.int 1)),.v 1,.v 2]) []),.assign 6 (.call .law_value (es [.idx false (.v 0) (.k (.int 2)),.v 1,.v 2]) []),.ret (.ite (.cmp false .eq (.v 3) (.k (.str "plus"))) (.call .law_plus (es [.v 5,.v 6]) []) (.call .law_less (es [.v 5,.v 6]) []))]) (ss []),.ite (.cmp false .eq (.v 3) (.k (.str "set!"))) (ss [.setidx (.idx false (.v 1) (.idx false (.v 0) (.k (.int 1)))) (.k (.int 0)) (.call .law_value (es [.idx false (.v 0) (.k (.int 2)),.v 1,.v 2]) []),.ret (.g .unspec)]) (ss []),.ite (.cmp false .eq (.v 3) (.k (.str "if"))) (ss [.ret (.call .law_value (es [.ite (.cmp true .is (.call .law_value (es [.idx false (.v 0) (.k (.int 1)),.v 1,.v 2]) []) (.k (.bool false))) (.idx false (.v 0) (.k (.int 3))) (.idx false (.v 0) (.k (.int 2))),.v 1,.v 2]) [])]) (ss []),.ite (.cmp false .isIn (.v 3) (.tup (es [.k (.str "and"),.k (.str "or")]))) (ss [.assign 4 (.cmp false .eq (.v 3) (.k (.str "and"))),.for_ [7] (.e (.idx false (.v 0) (.k (.int 1)))) (ss [.assign 4 (.call .law_value (es [.v 7,.v 1,.v 2]) []),.ite (.cmp true .eq (.cmp false .is (.v 4) (.k (.bool false))) (.cmp false .eq (.v 3) (.k (.str "and")))) (ss [.ret (.v 4)]) (ss [])]),.ret (.v 4)]) (ss []),.ret (.call .law_wide_value (es [.v 3,.v 0,.v 1,.v 2]) [])])⟩
noncomputable def b_law_wide_value:FnDef:=⟨4,13,(ss [.ite (.cmp false .isIn (.v 0) (.tup (es [.k (.str "let"),.k (.str "let*")]))) (ss [.assign 4 (.b1 false .dictS (.v 2)),.for_ [5,6] (.e (.idx false (.v 1) (.k (.int 1)))) (ss [.assign 7 (.call .law_value (es [.v 6,.ite (.cmp false .eq (.v 0) (.k (.str "let*"))) (.v 4) (.v 2),.v 3]) []),.setidx (.v 4) (.v 5) (.list true (es [.v 7]))]),.ret (.call .law_seq (es [.idx false (.v 1) (.k (.int 2)),.v 4,.v 3]) [])]) (ss []),.ite (.cmp false .isIn (.v 0) (.tup (es [.k (.str "letrec"),.k (.str "named")]))) (ss [.for_ [8] (.range3 (.idx false (.v 1) (.k (.int 3))) (.k (.int 0))) (ss [.expr (.append (.v 3) (.v 8)),.expr (.call .law_value (es [.idx false (.v 1) (.k (.int 4)),.v 2,.v 3]) [])]),.ret (.k (.int 5))]) (ss []),.ite (.cmp false .eq (.v 0) (.k (.str "case"))) (ss [.assign 9 (.call .law_value (es [.idx false (.v 1) (.k (.int 1)),.v 2,.v 3]) []),.for_ [10,11] (.e (.idx false (.v 1) (.k (.int 2)))) (ss [.ite (.cmp true .ne (.comp false [12] (.k (.int 1)) (.e (.v 10)) (.cmp false .eq (.b1 true .repr (.v 12)) (.call .law_shown (es [.v 9]) []))) (.list false (es []))) (ss [.ret (.call .law_seq (es [.v 11,.v 2,.v 3]) [])]) (ss [])]),.ret (.ite (.cmp false .is (.idx false (.v 1) (.k (.int 3))) (.k (.none))) (.g .unspec) (.call .law_seq (es [.idx false (.v 1) (.k (.int 3)),.v 2,.v 3]) []))]) (ss []),.ret (.ite (.cmp false .eq (.v 0) (.k (.str "cond"))) (.call .law_cond_value (es [.v 1,.v 2,.v 3]) []) (.call .law_do_value (es [.v 1,.v 2,.v 3]) []))])⟩
noncomputable def b_law_cond_value:FnDef:=⟨3,8,(ss [.for_ [3] (.range1 (.b1 false .len (.idx false (.v 0) (.k (.int 1))))) (ss [.unp [4,5,6] (.idx true (.idx false (.v 0) (.k (.int 1))) (.v 3)),.assign 7 (.call .law_value (es [.v 5,.v 1,.v 2]) []),.ite (.or (.cmp true .isNot (.v 7) (.k (.bool false))) (.and (.cmp false .eq (.v 4) (.k (.int 1))) (.and (.cmp true .eq (.v 3) (.bin false .sub (.b1 false .len (.idx false (.v 0) (.k (.int 1)))) (.k (.int 1)))) (.cmp false .is (.idx false (.v 0) (.k (.int 2))) (.k (.none)))))) (ss [.ite (.cmp false .eq (.v 4) (.k (.int 2))) (ss [.expr (.append (.v 2) (.call .law_plus (es [.v 7,.k (.int 0)]) []))]) (ss []),.ret (.ite (.cmp false .eq (.v 4) (.k (.int 0))) (.call .law_seq (es [.v 6,.v 1,.v 2]) []) (.v 7))]) (ss [])]),.ret (.ite (.cmp false .is (.idx false (.v 0) (.k (.int 2))) (.k (.none))) (.g .unspec) (.call .law_seq (es [.idx false (.v 0) (.k (.int 2)),.v 1,.v 2]) []))])⟩
noncomputable def b_law_do_value:FnDef:=⟨3,6,(ss [.unpD [3,4] [.some (.k (.int 0)),.some (.call .law_value (es [.idx false (.v 0) (.k (.int 4)),.v 1,.v 2]) [])],.whil (.k (.bool true)) (ss [.assign 5 (.b1 false .dictS (.v 1)),.setidx2 (.v 5) (.idx false (.v 0) (.k (.int 1))) (.v 5) (.idx false (.v 0) (.k (.int 3))) (.list true (es [.v 3])) (.list true (es [.v 4])),.ite (.not (.call .law_less (es [.v 3,.idx false (.v 0) (.k (.int 2))]) [])) (ss [.ret (.call .law_seq (es [.idx false (.v 0) (.k (.int 6)),.v 5,.v 2]) [])]) (ss []),.expr (.append (.v 2) (.v 3)),.expr (.call .law_seq (es [.idx false (.v 0) (.k (.int 7)),.v 5,.v 2]) []),.unpD [3,4] [.some (.bin false .add (.v 3) (.k (.int 1))),.some (.ite (.cmp true .is (.idx false (.v 0) (.k (.int 5))) (.k (.none))) (.idx false (.idx false (.v 5) (.idx false (.v 0) (.k (.int 3)))) (.k (.int 0))) (.call .law_value (es [.idx false (.v 0) (.k (.int 5)),.v 5,.v 2]) []))]])])⟩
noncomputable def b_law_list:FnDef:=⟨2,3,(ss [.ret (.call .list_of (es [.comp false [2] (.ite (.isI false (.v 2) .str) (.mcall "symbol" (.attr (.v 0) "table") (es [.v 2])) (.v 2)) (.e (.v 1)) (.k (.bool true))]) [.empty])])⟩
noncomputable def b_law_data:FnDef:=⟨2,3,(ss [.ret (.comp false [2] (.call .law_datum (es [.v 0,.v 2]) []) (.e (.v 1)) (.k (.bool true)))])⟩
noncomputable def b_law_datum:FnDef:=⟨2,6,(ss [.ite (.not (.isI false (.v 1) .tuple)) (ss [.ret (.v 1)]) (ss []),.assign 2 (.idx false (.v 1) (.k (.int 0))),.ite (.cmp false .eq (.v 2) (.k (.str "name"))) (ss [.ret (.mcall "symbol" (.attr (.v 0) "table") (es [.idx false (.v 1) (.k (.int 1))]))]) (ss []),.ite (.cmp false .eq (.v 2) (.k (.str "set!"))) (ss [.ret (.call .law_list (es [.v 0,.list false (es [.v 2,.idx false (.v 1) (.k (.int 1)),.call .law_datum (es [.v 0,.idx false (.v 1) (.k (.int 2))]) []])]) [])]) (ss []),.ite (.cmp false .isIn (.v 2) (.tup (es [.k (.str "and"),.k (.str "or")]))) (ss [.ret (.call .law_list (es [.v 0,.bin true .add (.list false (es [.v 2])) (.call .law_data (es [.v 0,.idx false (.v 1) (.k (.int 1))]) [])]) [])]) (ss []),.ite (.cmp false .isIn (.v 2) (.tup (es [.k (.str "let"),.k (.str "let*")]))) (ss [.assign 3 (.comp false [4,5] (.call .law_list (es [.v 0,.list false (es [.v 4,.call .law_datum (es [.v 0,.v 5]) []])]) []) (.e (.idx false (.v 1) (.k (.int 1)))) (.k (.bool true))),.ret (.call .law_list (es [.v 0,.bin true .add (.list false (es [.v 2,.call .list_of (es [.v 3]) [.empty]])) (.call .law_data (es [.v 0,.idx false (.v 1) (.k (.int 2))]) [])]) [])]) (ss []),.ite (.cmp false .isIn (.v 2) (.tup (es [.k (.str "letrec"),.k (.str "named")]))) (ss [.ret (.call .law_loop_datum (es [.v 0,.v 1]) [])]) (ss []),.ite (.cmp false .isIn (.v 2) (.tup (es [.k (.str "case"),.k (.str "cond")]))) (ss [.ret (.call .law_choice_datum (es [.v 0,.v 1]) [])]) (ss []),.ite (.cmp false .eq (.v 2) (.k (.str "do"))) (ss [.ret (.call .law_do_datum (es [.v 0,.v 1]) [])]) (ss []),.ret (.call .law_list (es [.v 0,.bin true .add (.list false (es [.v 2])) (.call .law_data (es [.v 0,.sl false (.v 1) (.k (.int 1)) (.k .none)]) [])]) [])])⟩
noncomputable def b_law_loop_datum:FnDef:=⟨2,8,(ss [.unpD [2,3,4] [.some (.idx false (.v 1) (.k (.int 1))),.some (.idx false (.v 1) (.k (.int 2))),.some (.call .law_list (es [.v 0,.list false (es [.k (.str "plus"),.idx false (.v 1) (.k (.int 2)),.k (.int 6)])]) [])],.assign 5 (.call .law_list (es [.v 0,.list false (es [.k (.str "begin"),.call .law_list (es [.v 0,.list false (es [.k (.str "say"),.v 3])]) [],.call .law_datum (es [.v 0,.idx false (.v 1) (.k (.int 4))]) [],.call .law_list (es [.v 0,.list false (es [.v 2,.v 4])]) []])]) []),.assign 6 (.call .law_list (es [.v 0,.list false (es [.k (.str "if"),.call .law_list (es [.v 0,.list false (es [.k (.str "less"),.k (.int 0),.v 3])]) [],.v 5,.k (.int 5)])]) []),.ite (.cmp false .eq (.idx false (.v 1) (.k (.int 0))) (.k (.str "named"))) (ss [.ret (.call .law_list (es [.v 0,.list false (es [.k (.str "let"),.v 2,.call .list_of (es [.list false (es [.call .law_list (es [.v 0,.list false (es [.v 3,.idx false (.v 1) (.k (.int 3))])]) []])]) [.empty],.v 6])]) [])]) (ss []),.assign 7 (.call .law_list (es [.v 0,.list false (es [.v 2,.call .law_list (es [.v 0,.list false (es [.k (.str "lambda"),.call .law_list (es [.v 0,.list false (es [.v 3])]) [],.v 6])]) []])]) []),.ret (.call .law_list (es [.v 0,.list false (es [.k (.str "letrec"),.call .list_of (es [.list false (es [.v 7])]) [.empty],.call .law_list (es [.v 0,.list false (es [.v 2,.idx false (.v 1) (.k (.int 3))])]) []])]) [])])⟩
noncomputable def b_law_choice_datum:FnDef:=⟨2,9,(ss [.newl 2,.ite (.cmp false .eq (.idx false (.v 1) (.k (.int 0))) (.k (.str "case"))) (ss [.for_ [3,4] (.e (.idx false (.v 1) (.k (.int 2)))) (ss [.lapp 2 (.call .law_list (es [.v 0,.bin true .add (.list false (es [.call .list_of (es [.v 3]) [.empty]])) (.call .law_data (es [.v 0,.v 4]) [])]) [])])]) (ss [.for_ [5,6,4] (.e (.idx false (.v 1) (.k (.int 1)))) (ss [.assign 7 (.ite (.cmp false .eq (.v 5) (.k (.int 0))) (.call .law_data (es [.v 0,.v 4]) []) (.ite (.cmp false .eq (.v 5) (.k (.int 2))) (.list false (es [.k (.str "=>"),.k (.str "say")])) (.list false (es [])))),.lapp 2 (.call .law_list (es [.v 0,.bin true .add (.list false (es [.call .law_datum (es [.v 0,.v 6]) []])) (.v 7)]) [])])]),.ite (.cmp false .isNot (.idx false (.v 1) (.k (.int (-1)))) (.k (.none))) (ss [.lapp 2 (.call .law_list (es [.v 0,.bin true .add (.list false (es [.k (.str "else")])) (.call .law_data (es [.v 0,.idx false (.v 1) (.k (.int (-1)))]) [])]) [])]) (ss []),.assign 8 (.ite (.cmp false .eq (.idx false (.v 1) (.k (.int 0))) (.k (.str "case"))) (.list false (es [.k (.str "case"),.call .law_datum (es [.v 0,.idx false (.v 1) (.k (.int 1))]) []])) (.list false (es [.k (.str "cond")]))),.ret (.call .law_list (es [.v 0,.bin true .add (.v 8) (.l 2)]) [])])⟩
noncomputable def b_law_do_datum:FnDef:=⟨2,7,(ss [.assign 2 (.call .law_list (es [.v 0,.list false (es [.idx false (.v 1) (.k (.int 1)),.k (.int 0),.call .law_list (es [.v 0,.list false (es [.k (.str "plus"),.idx false (.v 1) (.k (.int 1)),.k (.int 1)])]) []])]) []),.assign 3 (.bin false .add (.list false (es [.idx false (.v 1) (.k (.int 3)),.call .law_datum (es [.v 0,.idx false (.v 1) (.k (.int 4))]) []])) (.ite (.cmp true .is (.idx false (.v 1) (.k (.int 5))) (.k (.none))) (.list false (es [])) (.list false (es [.call .law_datum (es [.v 0,.idx false (.v 1) (.k (.int 5))]) []])))),.assign 4 (.list false (es [.call .law_list (es [.v 0,.list false (es [.k (.str "less"),.idx false (.v 1) (.k (.int 1)),.idx false (.v 1) (.k (.int 2))])]) []])),.assign 5 (.bin true .add (.list false (es [.call .law_list (es [.v 0,.list false (es [.k (.str "not"),.idx false (.v 4) (.k (.int 0))])]) []])) (.call .law_data (es [.v 0,.idx false (.v 1) (.k (.int 6))]) [])),.assign 6 (.bin true .add (.list false (es [.call .law_list (es [.v 0,.list false (es [.k (.str "say"),.idx false (.v 1) (.k (.int 1))])]) []])) (.call .law_data (es [.v 0,.idx false (.v 1) (.k (.int 7))]) [])),.ret (.call .law_list (es [.v 0,.bin true .add (.list false (es [.k (.str "do"),.call .list_of (es [.list false (es [.v 2,.call .law_list (es [.v 0,.v 3]) []])]) [.empty],.call .law_list (es [.v 0,.v 5]) []])) (.v 6)]) [])])⟩
noncomputable def b_law_called:FnDef:=⟨3,4,(ss [.ite (.cmp false .eq (.v 0) (.k (.str "say"))) (ss [.expr (.append (.v 2) (.call .law_plus (es [.idx false (.v 1) (.k (.int 0)),.k (.int 0)]) [])),.ret (.idx false (.v 1) (.k (.int 0)))]) (ss []),.ite (.cmp false .eq (.v 0) (.k (.str "plus"))) (ss [.ret (.call .law_plus (es [.idx false (.v 1) (.k (.int 0)),.idx false (.v 1) (.k (.int 1))]) [])]) (ss []),.ite (.cmp false .eq (.v 0) (.k (.str "less"))) (ss [.ret (.call .law_less (es [.idx false (.v 1) (.k (.int 0)),.idx false (.v 1) (.k (.int 1))]) [])]) (ss []),.ite (.cmp false .eq (.v 0) (.k (.str "not"))) (ss [.ret (.cmp false .is (.idx false (.v 1) (.k (.int 0))) (.k (.bool false)))]) (ss []),.ret (.cmp true .ne (.comp false [3] (.k (.int 1)) (.e (.idx false (.call .split_list (es [.idx false (.v 1) (.k (.int 1))]) []) (.k (.int 0)))) (.cmp false .eq (.b1 true .repr (.v 3)) (.call .law_shown (es [.idx false (.v 1) (.k (.int 0))]) []))) (.list false (es [])))])⟩
noncomputable def b_law_entered:FnDef:=⟨5,14,(ss [.unpD [5,6] [.some (.new .scope (es [.idx false (.v 0) (.k (.int 3))])),.some (.idx false (.v 0) (.k (.int 2)))],.for_ [7,8] (.zip (.idx false (.call .split_list (es [.idx false (.v 0) (.k (.int 1))]) []) (.k (.int 0))) (.v 1)) (ss [.expr (.call .law_bind (es [.v 7,.v 8,.v 5,.v 2,.v 3]) [])]),.assign 9 (.new .scope (es [.v 5])),.assign 10 (.comp false [13] (.v 13) (.e (.v 6)) (.and (.isI true (.v 13) (.cls .pair)) (.cmp true .eq (.call .special_word (es [.attr (.v 13) "car",.v 9]) []) (.k (.str "define"))))),.for_ [11] (.e (.v 10)) (ss [.expr (.call .law_bind (es [.attr (.attr (.v 11) "cdr") "car",.g .unspec,.v 9,.v 2,.v 3]) [])]),.for_ [11] (.e (.v 10)) (ss [.setidx (.idx false (.v 2) (.attr (.mcall "find" (.v 9) (es [.attr (.attr (.v 11) "cdr") "car"])) "number")) (.k (.int 0)) (.call .law_run (es [.attr (.attr (.attr (.v 11) "cdr") "cdr") "car",.v 9,.v 2,.v 3,.v 4]) [])]),.assign 12 (.sl false (.v 6) (.b1 false .len (.v 10)) (.k .none)),.for_ [11] (.e (.sl false (.v 12) (.k .none) (.k (.int (-1))))) (ss [.expr (.call .law_run (es [.v 11,.v 9,.v 2,.v 3,.v 4]) [])]),.ret (.tup (es [.idx false (.v 12) (.k (.int (-1))),.v 9]))])⟩
noncomputable def b_law_bind:FnDef:=⟨5,6,(ss [.assign 5 (.mcall "fresh" (.v 4) (es [])),.expr (.mcall "bind" (.v 2) (es [.v 0,.new .locName (es [.v 5,.k (.str "")])])),.setidx (.v 3) (.v 5) (.list true (es [.v 1]))])⟩
noncomputable def b_law_turned:FnDef:=⟨4,4,(ss [.ite (.cmp false .isIn (.v 0) (.tup (es [.k (.str "and"),.k (.str "or")]))) (ss [.ret (.ite (.cmp false .eq (.v 0) (.k (.str "and"))) (.call .do_and (es [.v 1,.v 2,.v 3]) []) (.call .do_or (es [.v 1,.v 2,.v 3]) []))]) (ss []),.ite (.cmp false .isIn (.v 0) (.tup (es [.k (.str "let"),.k (.str "let*")]))) (ss [.ret (.ite (.cmp false .eq (.v 0) (.k (.str "let"))) (.call .do_let (es [.v 1,.v 2,.v 3]) []) (.call .do_let_star (es [.v 1,.v 2,.v 3]) []))]) (ss []),.ite (.cmp false .isIn (.v 0) (.tup (es [.k (.str "cond"),.k (.str "case")]))) (ss [.ret (.ite (.cmp false .eq (.v 0) (.k (.str "cond"))) (.call .do_cond (es [.v 1,.v 2,.v 3]) []) (.call .do_case (es [.v 1,.v 2,.v 3]) []))]) (ss []),.ret (.ite (.cmp false .eq (.v 0) (.k (.str "letrec"))) (.call .do_letrec (es [.v 1,.v 2,.v 3]) []) (.call .do_do (es [.v 1,.v 2,.v 3]) []))])⟩
noncomputable def b_law_run:FnDef:=⟨5,11,(ss [.whil (.k (.bool true)) (ss [.ite (.call .is_identifier (es [.v 0]) []) (ss [.assign 5 (.mcall "find" (.v 1) (es [.v 0])),.ret (.ite (.isI false (.v 5) (.cls .locName)) (.idx false (.idx false (.v 2) (.attr (.v 5) "number")) (.k (.int 0))) (.attr (.attr (.v 5) "symbol") "text"))]) (ss []),.ite (.not (.isI false (.v 0) (.cls .pair))) (ss [.ret (.v 0)]) (ss []),.unpD [6,7] [.some (.call .special_word (es [.attr (.v 0) "car",.v 1]) []),.some (.idx false (.call .split_list (es [.v 0]) []) (.k (.int 0)))],.ite (.cmp false .isIn (.v 6) (.g derived)) (ss [.assign 0 (.call .law_turned (es [.v 6,.v 0,.v 1,.v 3]) [])]) (ss [.ite (.cmp false .eq (.v 6) (.k (.str "quote"))) (ss [.ret (.idx false (.v 7) (.k (.int 1)))]) (ss [.ite (.cmp false .eq (.v 6) (.k (.str "if"))) (ss [.assign 8 (.cmp true .isNot (.call .law_run (es [.idx false (.v 7) (.k (.int 1)),.v 1,.v 2,.v 3,.v 4]) []) (.k (.bool false))),.assign 0 (.ite (.v 8) (.idx false (.v 7) (.k (.int 2))) (.ite (.cmp false .gt (.b1 false .len (.v 7)) (.k (.int 3))) (.idx false (.v 7) (.k (.int 3))) (.g .unspec)))]) (ss [.ite (.cmp false .eq (.v 6) (.k (.str "set!"))) (ss [.setidx (.idx false (.v 2) (.attr (.mcall "find" (.v 1) (es [.idx false (.v 7) (.k (.int 1))])) "number")) (.k (.int 0)) (.call .law_run (es [.idx false (.v 7) (.k (.int 2)),.v 1,.v 2,.v 3,.v 4]) []),.ret (.g .unspec)]) (ss [.ite (.cmp false .eq (.v 6) (.k (.str "lambda"))) (ss [.ret (.tup (es [.k (.str "closure"),.idx false (.v 7) (.k (.int 1)),.sl false (.v 7) (.k (.int 2)) (.k .none),.v 1]))]) (ss [.compl 9 [10] (.call .law_run (es [.v 10,.v 1,.v 2,.v 3,.v 4]) []) (.e (.sl false (.v 7) (.ite (.cmp false .eq (.v 6) (.k (.str "begin"))) (.k (.int 1)) (.k (.int 0))) (.k (.int (-1))))) (.k (.bool true)),.ite (.cmp false .eq (.v 6) (.k (.str "begin"))) (ss [.assign 0 (.idx false (.v 7) (.k (.int (-1))))]) (ss [.lapp 9 (.call .law_run (es [.idx false (.v 7) (.k (.int (-1))),.v 1,.v 2,.v 3,.v 4]) []),.ite (.not (.isI false (.idx false (.l 9) (.k (.int 0))) .tuple)) (ss [.ret (.call .law_called (es [.idx false (.l 9) (.k (.int 0)),.sl false (.l 9) (.k (.int 1)) (.k .none),.v 4]) [])]) (ss []),.unp [0,1] (.call .law_entered (es [.idx false (.l 9) (.k (.int 0)),.sl false (.l 9) (.k (.int 1)) (.k .none),.v 2,.v 3,.v 4]) [])])])])])])])])])⟩
noncomputable def b_law_world:FnDef:=⟨0,2,(ss [.assign 0 (.new .names (es [])),.setattr (.v 0) "root" (.new .scope (es [.k (.none)])),.for_ [1] (.e (.bin false .add (.tup (es [.k (.str "quote"),.k (.str "if"),.k (.str "lambda"),.k (.str "set!"),.k (.str "begin"),.k (.str "define")])) (.g derived))) (ss [.expr (.mcall "bind" (.attr (.v 0) "root") (es [.mcall "symbol" (.attr (.v 0) "table") (es [.v 1]),.new .special (es [.v 1])]))]),.ret (.v 0)])⟩
noncomputable def b_law:FnDef:=⟨1,10,(ss [.unpD [1,2] [.some (.call .law_deck (es [.v 0]) []),.some (.call .law_world (es []) [])],.for_ [3] (.range1 (.k (.int 1))) (ss [.unpD [4,5,6] [.some (.call .law_made (es [.v 1,.list false (es []),.k (.int 2)]) []),.some (.list true (es [])),.some (.list true (es []))],.assign 7 (.call .law_value (es [.v 4,.dict0 false,.v 5]) []),.assign 8 (.call .law_datum (es [.v 2,.v 4]) []),.assign 9 (.call .law_run (es [.v 8,.new .scope (es [.attr (.v 2) "root"]),.dict0 true,.v 2,.v 6]) []),.ite (.or (.cmp true .ne (.call .law_shown (es [.v 9]) []) (.call .law_shown (es [.v 7]) [])) (.cmp true .ne (.v 6) (.v 5))) (ss [.ret (.k (.bool false))]) (ss [])]),.ret (.k (.bool true))])⟩
noncomputable def fnTab:List FnDef:=[b_symtab_symbol,b_list_of,b_split_list,b_is_identifier,b_key_of,b_scope_bind,b_scope_bound,b_scope_find,b_same_denotation,b_same,b_special_word,b_alias_of,b_word_of,b_things_of,b_inner_list,b_is_word,b_bindings_of,b_sequence,b_choice,b_procedure,b_kept,b_do_and,b_do_or,b_do_let,b_do_let_star,b_do_letrec,b_cond_clause,b_do_cond,b_case_test,b_do_case,b_step_of,b_do_do,b_names_fresh,b_law_deck,b_law_draw,b_law_plus,b_law_shown,b_law_less,b_law_name,b_law_some,b_law_made,b_law_bound,b_law_loop,b_law_case,b_law_cond,b_law_do,b_law_seq,b_law_value,b_law_wide_value,b_law_cond_value,b_law_do_value,b_law_list,b_law_data,b_law_datum,b_law_loop_datum,b_law_choice_datum,b_law_do_datum,b_law_called,b_law_entered,b_law_bind,b_law_turned,b_law_run,b_law_world,b_law]
noncomputable def theFn (f:Fn):FnDef:=(fnTab[f.c - 9]?).getD ⟨0,0,.cons .stuck .nil⟩
section
variable {C:Calls}
inductive Key where
 | c (f:Fn) (as:List V) (H:Hp)
 | e (ρ:List Sl) (e:E) (H:Hp)
 | s (ρ:List Sl) (s:S) (H:Hp)
 | bin (o:BO) (x y:V) (H:Hp) | cmp (o:CO) (x y:V) (H:Hp)
 | isI (x:V) (t:Ty) | b1 (o:B1) (x:V) (H:Hp)
 | idx (x y:V) (H:Hp) | sl (x y z:V) | attr (nm:String) (x:V) (H:Hp) | cls (x:V) (H:Hp)
 | get (x y:V) (H H2:Hp) | app (x y:V) (H H2:Hp) | pop (x:V) (H:Hp)
 | ln (xs:List V) | r1 (n:Int) | r3 (x y:Int) | set (x y v:V) (H:Hp) | put (nm:String) (v x:V) (H:Hp)
inductive Res where
 | vh (r:V×Hp) | fs (r:Fl×St) | v (v:V) | b (b:Bool) | c (c:Cls) | h (H:Hp)
noncomputable def Holds (C:Calls):Key→Res→Prop
 | .c f as H,.vh r=>C f as H=some r
 | .e ρ e H,.vh r=>ev C ρ e H=some r
 | .b1 o x H,.vh r=>b1V H o x=some r
 | .pop x H,.vh r=>popV H x=some r
 | .s ρ s H,.fs r=>ex C s (ρ,H)=some r
 | .bin o x y H,.v v=>binV H o x y=some v
 | .cmp o x y H,.v v=>cmpV H o x y=some v
 | .idx x y H,.v v=>idxV H x y=some v
 | .sl x y z,.v v=>slV x y z=some v
 | .attr nm x H,.v v=>attrV H nm x=some v
 | .get x y H H2,.v v=>isDct H x=true∧getV H2 x y=some v
 | .isI x t,.b b=>t.has x=some b
 | .ln xs,.b b=>xs.length≤room∧b=true
 | .r1 n,.b b=>(-1≤n∧n≤room)∧b=true
 | .r3 x y,.b b=>(-1≤x∧x≤room ∧ -1≤y∧y≤room)∧b=true
 | .cls x H,.c c=>clsOf H x=some c
 | .app x y H H2,.h H'=>isLst H x=true∧appV H2 x y=some H'
 | .set x y v H,.h H'=>setV H x y v=some H'
 | .put nm v x H,.h H'=>attrPut H nm v x=some H'
 | _,_=>False
structure Ans (C:Calls) where
 k:Key
 r:Res
 h:Holds C k r
noncomputable abbrev TM (C:Calls) (α:Type):=List (Ans C)→Option (α×List (Ans C)×List (Key×Key))
@[irreducible] noncomputable def tb {α β:Type} (x:TM C α) (f:α→TM C β):TM C β:=fun t=>(x t).bind fun a=>(f a.1 a.2.1).map fun b=>(b.1,b.2.1,a.2.2++b.2.2)
noncomputable def tl {α:Type} (x:Option α):TM C α:=fun t=>x.map fun a=>(a,t,[])
noncomputable def ask {α:Type} (k:Key) (f:Res→Option α):TM C α:=fun t=>match t with
 | a::t=>(f a.r).map fun p=>(p,t,[(k,a.k)])
 | []=>none
noncomputable def ofO {α β:Type} (o:Option α) (f:α→TM C β):TM C β:=match o with
 | some a=>f a
 | none=>fun _=>none
noncomputable def Res.vh?:Res→Option (V×Hp) | .vh r=>some r | _=>none
noncomputable def Res.fs?:Res→Option (Fl×St) | .fs r=>some r | _=>none
noncomputable def Res.v?:Res→Option V | .v r=>some r | _=>none
noncomputable def Res.b?:Res→Option Bool | .b r=>some r | _=>none
noncomputable def Res.c?:Res→Option Cls | .c r=>some r | _=>none
noncomputable def Res.h?:Res→Option Hp | .h r=>some r | _=>none
noncomputable def isR:V→Bool | .ref _=>true | _=>false
noncomputable def qOr {α:Type} (q:Bool) (x y:TM C α):TM C α:=match q with | true=>x | false=>y
noncomputable def newV (c:Cls) (vs:List V) (H:Hp):Option (V×Hp):=match c with
 | .scope=>match vs with | [p]=>some (.obj .scope [p,.ref H.length],H++[.dictI []]) | _=>none
 | .symtab=>none
 | .names=>none
 | c=>if Nat.beq vs.length c.fields.length then some (.obj c vs,H) else none
noncomputable def selT {α:Type} (t:Option Bool) (x y:TM C α):TM C α:=match t with
 | some true=>x | some false=>y | none=>fun _=>none
noncomputable def Key.isE:Key→Bool | .e _ _ _=>true | _=>false
noncomputable def Key.isS:Key→Bool | .s _ _ _=>true | _=>false
noncomputable def hdQ (q:Key→Bool):List (Ans C)→Bool | a::_=>q a.k | []=>false
@[irreducible] noncomputable def pk {α:Type} (q:Key→Bool) (x y:TM C α):TM C α:=fun t=>qOr (hdQ q t) x y t
noncomputable def compT (f:V→Hp→TM C (Option V×Hp)):List V→Hp→TM C (List V×Hp)
 | [],H=>tl (some ([],H))
 | x::xs,H=>tb (f x H) fun r=>tb (compT f xs r.2) fun q=>tl (some (r.1.toList++q.1,q.2))
noncomputable def forT (f:V→St→TM C (Fl×St)):List V→St→TM C (Fl×St)
 | [],s=>tl (some (.next,s))
 | x::xs,s=>tb (f x s) fun q=>match q.1 with
  | .next=>forT f xs q.2
  | .ret _=>tl (some q)
noncomputable def whT (t:St→TM C (V×Hp)) (b:St→TM C (Fl×St)):Nat→St→TM C (Fl×St)
 | 0,_=>fun _=>none
 | n+1,s=>tb (t s) fun r=>selT r.1.truth (tb (b (s.1,r.2)) fun q=>match q.1 with
  | .next=>whT t b n q.2
  | .ret _=>tl (some q)) (tl (some (.next,s.1,r.2)))
mutual
noncomputable def eT (C:Calls) (ρ:List Sl):E→Hp→TM C (V×Hp)
 | .k v,H=>tl (some (v,H))
 | .g v,H=>tl (some (v,H))
 | .v i,H=>tl ((rdV ρ i).map fun v=>(v,H))
 | .l i,H=>tl ((rdL ρ i).map fun v=>(.lst v,H))
 | .bin q o a b,H=>tb (eT C ρ a H) fun r=>tb (eT C ρ b r.2) fun s=>tb (qOr q (ask (.bin o r.1 s.1 s.2) Res.v?) (tl (binV s.2 o r.1 s.1))) fun v=>tl (some (v,s.2))
 | .cmp q o a b,H=>tb (eT C ρ a H) fun r=>tb (eT C ρ b r.2) fun s=>tb (qOr q (ask (.cmp o r.1 s.1 s.2) Res.v?) (tl (cmpV s.2 o r.1 s.1))) fun v=>tl (some (v,s.2))
 | .not a,H=>tb (eT C ρ a H) fun r=>tl (r.1.truth.map fun b=>(.bool !b,r.2))
 | .and a b,H=>tb (eT C ρ a H) fun r=>selT r.1.truth (eT C ρ b r.2) (tl (some r))
 | .or a b,H=>tb (eT C ρ a H) fun r=>selT r.1.truth (tl (some r)) (eT C ρ b r.2)
 | .ite t a b,H=>pk Key.isE (ask (.e ρ (.ite t a b) H) Res.vh?) (tb (eT C ρ t H) fun r=>selT r.1.truth (eT C ρ a r.2) (eT C ρ b r.2))
 | .call f as ds,H=>tb (esT C ρ as H) fun r=>ask (.c f (r.1++ds) r.2) Res.vh?
 | .mcall nm o as,H=>tb (eT C ρ o H) fun r=>tb (qOr (isR r.1) (ask (.cls r.1 r.2) Res.c?) (tl (clsOf r.2 r.1))) fun c=>ofO (mth c nm) fun f=>tb (esT C ρ as r.2) fun s=>ask (.c f (r.1::s.1) s.2) Res.vh?
 | .new c as,H=>tb (esT C ρ as H) fun r=>tl (newV c r.1 r.2)
 | .b1 q o a,H=>tb (eT C ρ a H) fun r=>qOr (q||isR r.1) (ask (.b1 o r.1 r.2) Res.vh?) (tl (b1V r.2 o r.1))
 | .min a b,H=>tb (eT C ρ a H) fun r=>tb (eT C ρ b r.2) fun s=>tl (r.1.int?.bind fun x=>s.1.int?.map fun y=>(.int (if y < x then y else x),s.2))
 | .isI q a t,H=>tb (eT C ρ a H) fun r=>tb (qOr q (ask (.isI r.1 t) Res.b?) (tl (t.has r.1))) fun b=>tl (some (.bool b,r.2))
 | .append a b,H=>tb (eT C ρ a H) fun r=>tb (eT C ρ b r.2) fun s=>tb (ask (.app r.1 s.1 r.2 s.2) Res.h?) fun H=>tl (some (.none,H))
 | .pop0 a,H=>tb (eT C ρ a H) fun r=>ask (.pop r.1 r.2) Res.vh?
 | .get a b,H=>tb (eT C ρ a H) fun r=>tb (eT C ρ b r.2) fun s=>tb (ask (.get r.1 s.1 r.2 s.2) Res.v?) fun v=>tl (some (v,s.2))
 | .attr a nm,H=>tb (eT C ρ a H) fun r=>tb (qOr (isR r.1) (ask (.attr nm r.1 r.2) Res.v?) (tl (attrV r.2 nm r.1))) fun v=>tl (some (v,r.2))
 | .idx q a b,H=>tb (eT C ρ a H) fun r=>tb (eT C ρ b r.2) fun s=>tb (qOr (q||isR r.1) (ask (.idx r.1 s.1 s.2) Res.v?) (tl (idxV s.2 r.1 s.1))) fun v=>tl (some (v,s.2))
 | .sl q a lo hi,H=>tb (eT C ρ a H) fun r=>tb (eT C ρ lo r.2) fun p=>tb (eT C ρ hi p.2) fun s=>tb (qOr q (ask (.sl r.1 p.1 s.1) Res.v?) (tl (slV r.1 p.1 s.1))) fun v=>tl (some (v,s.2))
 | .rsl a lo,H=>tb (eT C ρ a H) fun r=>tb (eT C ρ lo r.2) fun p=>tl ((rslV r.1 p.1).map fun v=>(v,p.2))
 | .list heap as,H=>tb (esT C ρ as H) fun r=>tl (some (mk' heap r))
 | .tup as,H=>tb (esT C ρ as H) fun r=>tl (some (.tup r.1,r.2))
 | .dict0 i,H=>tl (some (.ref H.length,H++[if i then .dictI [] else .dictS []]))
 | .comp heap tg elt it c,H=>pk Key.isE (ask (.e ρ (.comp heap tg elt it c) H) Res.vh?) (tb (iT C ρ it H) fun r=>tb (compT (fun x H=>ofO (bindTg tg x ρ) fun ρ'=>tb (eT C ρ' c H) fun p=>selT p.1.truth (tb (eT C ρ' elt p.2) fun q=>tl (some (some q.1,q.2))) (tl (some (none,p.2)))) r.1 r.2) fun q=>tl (some (mk' heap q)))
noncomputable def esT (C:Calls) (ρ:List Sl):Es→Hp→TM C (List V×Hp)
 | .nil,H=>tl (some ([],H))
 | .cons e es,H=>tb (eT C ρ e H) fun r=>tb (esT C ρ es r.2) fun s=>tl (some (r.1::s.1,s.2))
noncomputable def iT (C:Calls) (ρ:List Sl):I→Hp→TM C (List V×Hp)
 | .e a,H=>tb (eT C ρ a H) fun r=>tl ((itE r.1).map fun xs=>(xs,r.2))
 | .range1 a,H=>tb (eT C ρ a H) fun r=>ofO r.1.int? fun n=>tb (ask (.r1 n) Res.b?) fun _=>tl (some (upTo 0 n.toNat,r.2))
 | .range3 a b,H=>tb (eT C ρ a H) fun r=>tb (eT C ρ b r.2) fun s=>ofO r.1.int? fun x=>ofO s.1.int? fun y=>tb (ask (.r3 x y) Res.b?) fun _=>tl (some (downTo x (x - y).toNat,s.2))
 | .zip a b,H=>tb (eT C ρ a H) fun r=>tb (eT C ρ b r.2) fun s=>tl ((itZ r.1 s.1).map fun xs=>(xs,s.2))
end
noncomputable def dsT (C:Calls) (ρ:List Sl):List (Option E)→Hp→TM C (List Sl×Hp)
 | [],H=>tl (some ([],H))
 | some e::es,H=>tb (eT C ρ e H) fun r=>tb (dsT C ρ es r.2) fun s=>tl (some (.v r.1::s.1,s.2))
 | none::es,H=>tb (dsT C ρ es H) fun s=>tl (some (.loc []::s.1,s.2))
mutual
noncomputable def sT (C:Calls):S→List Sl→Hp→TM C (Fl×St)
 | .assign i e,ρ,H=>tb (eT C ρ e H) fun r=>tl (put i (.v r.1) (ρ,r.2))
 | .newl i,ρ,H=>tl (put i (.loc []) (ρ,H))
 | .lapp i e,ρ,H=>tb (eT C ρ e H) fun r=>ofO (rdL ρ i) fun xs=>tb (ask (.ln xs) Res.b?) fun _=>tl (put i (.loc (xs++[r.1])) (ρ,r.2))
 | .unp is e,ρ,H=>tb (eT C ρ e H) fun r=>tl (r.1.tup?.bind fun xs=>puts is (xs.map .v) (ρ,r.2))
 | .unpD is es,ρ,H=>tb (dsT C ρ es H) fun r=>tl (puts is r.1 (ρ,r.2))
 | .setattr o nm e,ρ,H=>tb (eT C ρ e H) fun r=>tb (eT C ρ o r.2) fun q=>tb (ask (.put nm r.1 q.1 q.2) Res.h?) fun H=>tl (some (.next,ρ,H))
 | .setidx a b e,ρ,H=>tb (eT C ρ e H) fun r=>tb (eT C ρ a r.2) fun p=>tb (eT C ρ b p.2) fun q=>tb (ask (.set p.1 q.1 r.1 q.2) Res.h?) fun H=>tl (some (.next,ρ,H))
 | .setidx2 a b c d e f,ρ,H=>tb (eT C ρ e H) fun r=>tb (eT C ρ f r.2) fun r2=>tb (eT C ρ a r2.2) fun p=>tb (eT C ρ b p.2) fun q=>tb (ask (.set p.1 q.1 r.1 q.2) Res.h?) fun H=>
   tb (eT C ρ c H) fun p=>tb (eT C ρ d p.2) fun q=>tb (ask (.set p.1 q.1 r2.1 q.2) Res.h?) fun H=>tl (some (.next,ρ,H))
 | .expr e,ρ,H=>tb (eT C ρ e H) fun r=>tl (some (.next,ρ,r.2))
 | .ret e,ρ,H=>tb (eT C ρ e H) fun r=>tl (some (.ret r.1,ρ,r.2))
 | .ite t a b,ρ,H=>tb (eT C ρ t H) fun r=>selT r.1.truth (ssT C a ρ r.2) (ssT C b ρ r.2)
 | .stuck,_,_=>fun _=>none
 | .frz i,ρ,H=>tl ((rdL ρ i).bind fun xs=>put i (.v (.lst xs)) (ρ,H))
 | .whil t b,ρ,H=>pk Key.isS (ask (.s ρ (.whil t b) H) Res.fs?) (whT (fun s=>eT C s.1 t s.2) (fun s=>ssT C b s.1 s.2) 3 (ρ,H))
 | .for_ tg it b,ρ,H=>pk Key.isS (ask (.s ρ (.for_ tg it b) H) Res.fs?) (tb (iT C ρ it H) fun r=>forT (fun x s=>ofO (bindTg tg x s.1) fun ρ=>ssT C b ρ s.2) r.1 (ρ,r.2))
 | .compl i tg elt it c,ρ,H=>tb (eT C ρ (.comp false tg elt it c) H) fun r=>tl (r.1.lst?.bind fun xs=>put i (.loc xs) (ρ,r.2))
noncomputable def ssT (C:Calls):Ss→List Sl→Hp→TM C (Fl×St)
 | .nil,ρ,H=>tl (some (.next,ρ,H))
 | .cons x r,ρ,H=>tb (sT C x ρ H) fun q=>match q.1 with
  | .next=>ssT C r q.2.1 q.2.2
  | .ret _=>tl (some q)
end
end
section
variable {C:Calls} {α β:Type} {t t':List (Ans C)} {L:List (Key×Key)} {q:Prop}
noncomputable def Al (L:List (Key×Key)):Prop:=∀ p∈L,p.1=p.2
theorem bs {x:Option α} {f:α→Option β} {r:β} (h:x.bind f=some r) (k:∀ a,x=some a→f a=some r→q):q:=by
 cases x with
 | none=>cases h
 | some a=>exact k a rfl h
theorem ms {x:Option α} {f:α→β} {r:β} (h:x.map f=some r) (k:∀ a,x=some a→f a=r→q):q:=by
 cases x with
 | none=>cases h
 | some a=>exact k a rfl (Option.some.inj h)
theorem bi {x:Option α} {v:α} {f:α→Option β} {y:Option β} (h:x=some v) (k:f v=y):x.bind f=y:=by rw [h]; exact k
theorem mi {x:Option α} {v:α} {f:α→β} (h:x=some v):x.map f=some (f v):=by rw [h]; rfl
theorem tbE {x:TM C α} {f:α→TM C β} {r:β} (h:tb x f t=some (r,t',L)) (l:Al L) (k:∀ a t1 L1 t2 L2,x t=some (a,t1,L1)→Al L1→f a t1=some (r,t2,L2)→Al L2→q):q:=by
 unfold tb at h
 exact bs h fun a h1 h=>ms h fun b h2 e=>by
  cases e
  exact k a.1 a.2.1 a.2.2 b.2.1 b.2.2 h1 (fun p m=>l p (List.mem_append_left _ m)) h2 fun p m=>l p (List.mem_append_right _ m)
theorem tlE {x:Option α} {r:α} (h:tl x t=some (r,t',L)):x=some r:=ms h fun a h1 e=>by cases e; exact h1
theorem askE {k:Key} {f:Res→Option α} {r:α} (h:ask k f t=some (r,t',L)) (l:Al L) (c:∀ s,f s=some r→Holds C k s→q):q:=by
 cases t with
 | nil=>cases h
 | cons a t=>
  refine ms h fun b h1 e=>?_
  cases e
  have e:k=a.k:=l _ (.head _)
  exact c a.r h1 (e▸a.h)
theorem ofOE {o:Option α} {f:α→TM C β} {r:β×List (Ans C)×List (Key×Key)} (h:ofO o f t=some r) (k:∀ a,o=some a→f a t=some r→q):q:=by
 cases o with
 | none=>cases h
 | some a=>exact k a rfl h
theorem vhE {s:Res} {r:V×Hp} (h:s.vh?=some r):s = .vh r:=by cases s <;> cases h; rfl
theorem fsE {s:Res} {r:Fl×St} (h:s.fs?=some r):s = .fs r:=by cases s <;> cases h; rfl
theorem vE {s:Res} {r:V} (h:s.v?=some r):s = .v r:=by cases s <;> cases h; rfl
theorem bE {s:Res} {r:Bool} (h:s.b?=some r):s = .b r:=by cases s <;> cases h; rfl
theorem cE {s:Res} {r:Cls} (h:s.c?=some r):s = .c r:=by cases s <;> cases h; rfl
theorem hE {s:Res} {r:Hp} (h:s.h?=some r):s = .h r:=by cases s <;> cases h; rfl
theorem askVh {k:Key} {r:V×Hp} (h:ask k Res.vh? t=some (r,t',L)) (l:Al L):Holds C k (.vh r):=askE h l fun s e h=>vhE e▸h
theorem askFs {k:Key} {r:Fl×St} (h:ask k Res.fs? t=some (r,t',L)) (l:Al L):Holds C k (.fs r):=askE h l fun s e h=>fsE e▸h
theorem askV {k:Key} {r:V} (h:ask k Res.v? t=some (r,t',L)) (l:Al L):Holds C k (.v r):=askE h l fun s e h=>vE e▸h
theorem askB {k:Key} {r:Bool} (h:ask k Res.b? t=some (r,t',L)) (l:Al L):Holds C k (.b r):=askE h l fun s e h=>bE e▸h
theorem askC {k:Key} {r:Cls} (h:ask k Res.c? t=some (r,t',L)) (l:Al L):Holds C k (.c r):=askE h l fun s e h=>cE e▸h
theorem askH {k:Key} {r:Hp} (h:ask k Res.h? t=some (r,t',L)) (l:Al L):Holds C k (.h r):=askE h l fun s e h=>hE e▸h
theorem qOrE {b:Bool} {x y:TM C α} {r:α×List (Ans C)×List (Key×Key)} {P:Prop} (h:qOr b x y t=some r) (hx:x t=some r→P) (hy:y t=some r→P):P:=by cases b <;> first | exact hx h | exact hy h
theorem qV {b:Bool} {k:Key} {x:Option V} {r:V} (h:qOr b (ask k Res.v?) (tl x) t=some (r,t',L)) (l:Al L) (e:Holds C k (.v r)→x=some r):x=some r:=qOrE h (fun h=>e (askV h l)) tlE
theorem selE {o:Option Bool} {x y:TM C α} {r:α×List (Ans C)×List (Key×Key)} {X Y:Option β} {z:Option β} (h:selT o x y t=some r) (hx:x t=some r→X=z) (hy:y t=some r→Y=z):sel o X Y=z:=by
 cases o with
 | none=>cases h
 | some b=>cases b with
  | true=>exact hx h
  | false=>exact hy h
theorem ifi {b:Bool} {x y:α} (h:b=true):(if b=true then x else y)=x:=if_pos h
theorem al_of:∀ {L:List (Key×Key)},L.map (·.1)=L.map (·.2)→Al L
 | [],_=>fun _ m=>nomatch m
 | p::L,h=>fun q m=>by
  injection h with h1 h2
  rcases List.mem_cons.mp m with e | m
  ·rw [e]; exact h1
  ·exact al_of h2 q m
theorem pkQ {f:Key→Bool} {x y:TM C α} {r:α×List (Ans C)×List (Key×Key)} (h:pk f x y t=some r) (hx:x t=some r→q) (hy:y t=some r→q):q:=by
 unfold pk at h
 exact qOrE h hx hy
theorem compT_ok {f:V→Hp→TM C (Option V×Hp)} {g:V→Hp→Option (Option V×Hp)} (hf:∀ x H t t' L r,f x H t=some (r,t',L)→Al L→g x H=some r):∀ (xs:List V) {H:Hp} {t t':List (Ans C)} {L:List (Key×Key)} {r:List V×Hp},compT f xs H t=some (r,t',L)→Al L→compV g xs H=some r
 | [],_,_,_,_,_,h,_=>tlE h
 | x::xs,_,_,_,_,_,h,l=>tbE h l fun _ _ _ _ _ h1 l1 h l=>tbE h l fun _ _ _ _ _ h2 l2 h _=>bi (hf _ _ _ _ _ _ h1 l1) ((mi (compT_ok hf xs h2 l2)).trans (tlE h))
theorem forT_ok {f:V→St→TM C (Fl×St)} {g:V→St→Option (Fl×St)} (hf:∀ x s t t' L r,f x s t=some (r,t',L)→Al L→g x s=some r):∀ (xs:List V) {s:St} {t t':List (Ans C)} {L:List (Key×Key)} {r:Fl×St},forT f xs s t=some (r,t',L)→Al L→forV g xs s=some r
 | [],_,_,_,_,_,h,_=>tlE h
 | x::xs,_,_,_,_,_,h,l=>by
  refine tbE h l fun p _ _ _ _ h1 l1 h l=>bi (hf _ _ _ _ _ _ h1 l1) ?_
  obtain ⟨fl,s⟩:=p
  cases fl with
  | next=>exact forT_ok hf xs h l
  | ret v=>exact tlE h
noncomputable def whB (C:Calls) (t:E) (b:Ss):St→Option (St ⊕ (Fl×St)):=fun s=>(ev C s.1 t s.2).bind fun r=>sel r.1.truth ((exs C b (s.1,r.2)).map fun q=>match q.1 with
   | .next => .inl q.2
   | .ret _ => .inr q) (some (.inr (.next,s.1,r.2)))
theorem wh {t:E} {b:Ss} {s:St}:ex C (.whil t b) s=(ev C s.1 t s.2).bind fun r=>sel r.1.truth (thenF (exs C b (s.1,r.2)) (ex C (.whil t b))) (some (.next,s.1,r.2)):=by
 show whileV (whB C t b) s=(ev C s.1 t s.2).bind fun r=>sel r.1.truth (thenF (exs C b (s.1,r.2)) (whileV (whB C t b))) (some (.next,s.1,r.2))
 rw [whileV]
 show (((ev C s.1 t s.2).bind _).bind _)=_
 cases ev C s.1 t s.2 with
 | none=>rfl
 | some r=>
  show ((sel r.1.truth _ _).bind _)=sel r.1.truth _ _
  cases r.1.truth with
  | none=>rfl
  | some b'=>
   cases b' with
   | false=>rfl
   | true=>
    show (((exs C b (s.1,r.2)).map _).bind _)=thenF (exs C b (s.1,r.2)) _
    cases exs C b (s.1,r.2) with
    | none=>rfl
    | some q=>
     obtain ⟨fl,s⟩:=q
     cases fl <;> rfl
theorem whT_ok {t:E} {b:Ss} {f:St→TM C (V×Hp)} {g:St→TM C (Fl×St)} (hf:∀ s t1 t' L r,f s t1=some (r,t',L)→Al L→ev C s.1 t s.2=some r) (hg:∀ s t1 t' L r,g s t1=some (r,t',L)→Al L→exs C b s=some r):∀ (n:Nat) {s:St} {t1 t':List (Ans C)} {L:List (Key×Key)} {r:Fl×St},whT f g n s t1=some (r,t',L)→Al L→ex C (.whil t b) s=some r
 | 0,_,_,_,_,_,h,_=>nomatch h
 | n+1,_,_,_,_,_,h,l=>tbE h l fun _ _ _ _ _ h1 l1 h l=>wh.trans (bi (hf _ _ _ _ _ h1 l1) (selE h (fun h=>by
  refine tbE h l fun p _ _ _ _ h2 l2 h l=>bi (hg _ _ _ _ _ h2 l2) ?_
  obtain ⟨fl,s⟩:=p
  cases fl with
  | next=>exact whT_ok hf hg n h l
  | ret v=>exact tlE h) tlE))
end
theorem complE {C:Calls} {ρ:List Sl} {H:Hp} {i:Nat} {tg:List Nat} {x c:E} {it:I} {r:V×Hp} {q:Fl×St} (h:ev C ρ (.comp false tg x it c) H=some r) (h2:(r.1.lst?.bind fun xs=>put i (.loc xs) (ρ,r.2))=some q):ex C (.compl i tg x it c) (ρ,H)=some q:=by
 have h:(evI C ρ it H).bind (fun r=>(evComp C ρ tg x c r.1 r.2).map (mk' false))=some r:=h
 show (evI C ρ it H).bind (fun r=>(evComp C ρ tg x c r.1 r.2).bind fun q=>put i (.loc q.1) (ρ,q.2))=some q
 cases e:evI C ρ it H with
 | none=>rw [e] at h; cases h
 | some a=>
  rw [e] at h
  have h:(evComp C ρ tg x c a.1 a.2).map (mk' false)=some r:=h
  show (evComp C ρ tg x c a.1 a.2).bind _=_
  cases e2:evComp C ρ tg x c a.1 a.2 with
  | none=>rw [e2] at h; cases h
  | some b=>rw [e2] at h; cases h; exact h2
section
variable {C:Calls} (hn:∀ {c as H r},newV c as H=some r→C (.new c) as H=some r)
include hn
mutual
theorem eT_ok:∀ (e:E) {ρ:List Sl} {H:Hp} {t t':List (Ans C)} {L:List (Key×Key)} {r:V×Hp},eT C ρ e H t=some (r,t',L)→Al L→ev C ρ e H=some r
 | .k v,_,_,_,_,_,_,h,_=>tlE h
 | .g v,_,_,_,_,_,_,h,_=>tlE h
 | .v i,_,_,_,_,_,_,h,_=>tlE h
 | .l i,_,_,_,_,_,_,h,_=>tlE h
 | .bin b o x y,_,_,_,_,_,_,h,l=>tbE h l fun _ _ _ _ _ h1 l1 h l=>tbE h l fun _ _ _ _ _ h2 l2 h l=>tbE h l fun _ _ _ _ _ h3 l3 h _=>bi (eT_ok x h1 l1) (bi (eT_ok y h2 l2) ((mi (qV h3 l3 id)).trans (tlE h)))
 | .cmp b o x y,_,_,_,_,_,_,h,l=>tbE h l fun _ _ _ _ _ h1 l1 h l=>tbE h l fun _ _ _ _ _ h2 l2 h l=>tbE h l fun _ _ _ _ _ h3 l3 h _=>bi (eT_ok x h1 l1) (bi (eT_ok y h2 l2) ((mi (qV h3 l3 id)).trans (tlE h)))
 | .not a,_,_,_,_,_,_,h,l=>tbE h l fun _ _ _ _ _ h1 l1 h _=>bi (eT_ok a h1 l1) (tlE h)
 | .and a b,_,_,_,_,_,_,h,l=>tbE h l fun _ _ _ _ _ h1 l1 h l=>bi (eT_ok a h1 l1) (selE h (fun h=>eT_ok b h l) tlE)
 | .or a b,_,_,_,_,_,_,h,l=>tbE h l fun _ _ _ _ _ h1 l1 h l=>bi (eT_ok a h1 l1) (selE h tlE fun h=>eT_ok b h l)
 | .ite c a b,_,_,_,_,_,_,h,l=>pkQ h (fun h=>askVh h l) fun h=>tbE h l fun _ _ _ _ _ h1 l1 h l=>bi (eT_ok c h1 l1) (selE h (fun h=>eT_ok a h l) fun h=>eT_ok b h l)
 | .call f as ds,_,_,_,_,_,_,h,l=>tbE h l fun _ _ _ _ _ h1 l1 h l=>bi (esT_ok as h1 l1) (askVh h l)
 | .mcall nm o as,_,_,_,_,_,_,h,l=>tbE h l fun _ _ _ _ _ h1 l1 h l=>tbE h l fun c _ _ _ _ h2 l2 h l=>bi (eT_ok o h1 l1) (ofOE h fun _ hf h=>tbE h l fun _ _ _ _ _ h3 l3 h l=>bi (bi (qOrE h2 (fun h=>askC h l2) tlE) hf) (bi (esT_ok as h3 l3) (askVh h l)))
 | .new c as,_,_,_,_,_,_,h,l=>tbE h l fun _ _ _ _ _ h1 l1 h _=>bi (esT_ok as h1 l1) (hn (tlE h))
 | .b1 b o a,_,_,_,_,_,_,h,l=>tbE h l fun _ _ _ _ _ h1 l1 h l=>bi (eT_ok a h1 l1) (qOrE h (fun h=>askVh h l) tlE)
 | .min a b,_,_,_,_,_,_,h,l=>tbE h l fun _ _ _ _ _ h1 l1 h l=>tbE h l fun _ _ _ _ _ h2 l2 h _=>bi (eT_ok a h1 l1) (bi (eT_ok b h2 l2) (tlE h))
 | .isI b a y,_,_,_,_,_,_,h,l=>tbE h l fun _ _ _ _ _ h1 l1 h l=>tbE h l fun _ _ _ _ _ h2 l2 h _=>bi (eT_ok a h1 l1) ((mi (qOrE h2 (fun h=>askB h l2) tlE)).trans (tlE h))
 | .append a b,_,_,_,_,_,_,h,l=>tbE h l fun _ _ _ _ _ h1 l1 h l=>tbE h l fun _ _ _ _ _ h2 l2 h l=>tbE h l fun _ _ _ _ _ h3 l3 h _=>bi (eT_ok a h1 l1) ((ifi (askH h3 l3).1).trans (bi (eT_ok b h2 l2) ((mi (askH h3 l3).2).trans (tlE h))))
 | .pop0 a,_,_,_,_,_,_,h,l=>tbE h l fun _ _ _ _ _ h1 l1 h l=>bi (eT_ok a h1 l1) (askVh h l)
 | .get a b,_,_,_,_,_,_,h,l=>tbE h l fun _ _ _ _ _ h1 l1 h l=>tbE h l fun _ _ _ _ _ h2 l2 h l=>tbE h l fun _ _ _ _ _ h3 l3 h _=>bi (eT_ok a h1 l1) ((ifi (askV h3 l3).1).trans (bi (eT_ok b h2 l2) ((mi (askV h3 l3).2).trans (tlE h))))
 | .attr a nm,_,_,_,_,_,_,h,l=>tbE h l fun _ _ _ _ _ h1 l1 h l=>tbE h l fun _ _ _ _ _ h2 l2 h _=>bi (eT_ok a h1 l1) ((mi (qV h2 l2 id)).trans (tlE h))
 | .idx b x y,_,_,_,_,_,_,h,l=>tbE h l fun _ _ _ _ _ h1 l1 h l=>tbE h l fun _ _ _ _ _ h2 l2 h l=>tbE h l fun _ _ _ _ _ h3 l3 h _=>bi (eT_ok x h1 l1) (bi (eT_ok y h2 l2) ((mi (qV h3 l3 id)).trans (tlE h)))
 | .sl b x y z,_,_,_,_,_,_,h,l=>tbE h l fun _ _ _ _ _ h1 l1 h l=>tbE h l fun _ _ _ _ _ h2 l2 h l=>tbE h l fun _ _ _ _ _ h3 l3 h l=>tbE h l fun _ _ _ _ _ h4 l4 h _=>bi (eT_ok x h1 l1) (bi (eT_ok y h2 l2) (bi (eT_ok z h3 l3) ((mi (qV h4 l4 id)).trans (tlE h))))
 | .rsl a b,_,_,_,_,_,_,h,l=>tbE h l fun _ _ _ _ _ h1 l1 h l=>tbE h l fun _ _ _ _ _ h2 l2 h _=>bi (eT_ok a h1 l1) (bi (eT_ok b h2 l2) (tlE h))
 | .list _ as,_,_,_,_,_,_,h,l=>tbE h l fun _ _ _ _ _ h1 l1 h _=>(mi (esT_ok as h1 l1)).trans (tlE h)
 | .tup as,_,_,_,_,_,_,h,l=>tbE h l fun _ _ _ _ _ h1 l1 h _=>(mi (esT_ok as h1 l1)).trans (tlE h)
 | .dict0 i,_,_,_,_,_,_,h,_=>tlE h
 | .comp _ tg x i c,ρ,_,_,_,_,_,h,l=>pkQ h (fun h=>askVh h l) fun h=>tbE h l fun _ _ _ _ _ h1 l1 h l=>tbE h l fun _ _ _ _ _ h2 l2 h _=>bi (iT_ok i h1 l1) ((mi (compT_ok (g:=fun y H=>(bindTg tg y ρ).bind fun ρ'=>(ev C ρ' c H).bind fun p=>sel p.1.truth ((ev C ρ' x p.2).map fun q=>(some q.1,q.2)) (some (none,p.2))) (fun _ _ _ _ _ _ h l=>ofOE h fun _ e h=>bi e (tbE h l fun _ _ _ _ _ h1 l1 h l=>bi (eT_ok c h1 l1) (selE h (fun h=>tbE h l fun _ _ _ _ _ h2 l2 h _=>(mi (eT_ok x h2 l2)).trans (tlE h)) tlE))) _ h2 l2)).trans (tlE h))
theorem esT_ok:∀ (e:Es) {ρ:List Sl} {H:Hp} {t t':List (Ans C)} {L:List (Key×Key)} {r:List V×Hp},esT C ρ e H t=some (r,t',L)→Al L→evs C ρ e H=some r
 | .nil,_,_,_,_,_,_,h,_=>tlE h
 | .cons x y,_,_,_,_,_,_,h,l=>tbE h l fun _ _ _ _ _ h1 l1 h l=>tbE h l fun _ _ _ _ _ h2 l2 h _=>bi (eT_ok x h1 l1) ((mi (esT_ok y h2 l2)).trans (tlE h))
theorem iT_ok:∀ (e:I) {ρ:List Sl} {H:Hp} {t t':List (Ans C)} {L:List (Key×Key)} {r:List V×Hp},iT C ρ e H t=some (r,t',L)→Al L→evI C ρ e H=some r
 | .e a,_,_,_,_,_,_,h,l=>tbE h l fun _ _ _ _ _ h1 l1 h _=>bi (eT_ok a h1 l1) (tlE h)
 | .range1 a,_,_,_,_,_,_,h,l=>tbE h l fun _ _ _ _ _ h1 l1 h l=>bi (eT_ok a h1 l1) (ofOE h fun _ e h=>tbE h l fun _ _ _ _ _ h2 l2 h _=>(mi (bi e (if_pos (askB h2 l2).1))).trans (tlE h))
 | .range3 a b,_,_,_,_,_,_,h,l=>tbE h l fun _ _ _ _ _ h1 l1 h l=>tbE h l fun _ _ _ _ _ h2 l2 h l=>bi (eT_ok a h1 l1) (bi (eT_ok b h2 l2) (ofOE h fun _ e h=>ofOE h fun _ e2 h=>tbE h l fun _ _ _ _ _ h3 l3 h _=>(mi (bi e (bi e2 (if_pos (askB h3 l3).1)))).trans (tlE h)))
 | .zip a b,_,_,_,_,_,_,h,l=>tbE h l fun _ _ _ _ _ h1 l1 h l=>tbE h l fun _ _ _ _ _ h2 l2 h _=>bi (eT_ok a h1 l1) (bi (eT_ok b h2 l2) (tlE h))
end
theorem dsT_ok:∀ (e:List (Option E)) {ρ:List Sl} {H:Hp} {t t':List (Ans C)} {L:List (Key×Key)} {r:List Sl×Hp},dsT C ρ e H t=some (r,t',L)→Al L→evDs C ρ e H=some r
 | [],_,_,_,_,_,_,h,_=>tlE h
 | some x::y,_,_,_,_,_,_,h,l=>tbE h l fun _ _ _ _ _ h1 l1 h l=>tbE h l fun _ _ _ _ _ h2 l2 h _=>bi (eT_ok hn x h1 l1) ((mi (dsT_ok y h2 l2)).trans (tlE h))
 | none::y,_,_,_,_,_,_,h,l=>tbE h l fun _ _ _ _ _ h2 l2 h _=>(mi (dsT_ok y h2 l2)).trans (tlE h)
mutual
theorem sT_ok:∀ (x:S) {ρ:List Sl} {H:Hp} {t t':List (Ans C)} {L:List (Key×Key)} {r:Fl×St},sT C x ρ H t=some (r,t',L)→Al L→ex C x (ρ,H)=some r
 | .assign i e,_,_,_,_,_,_,h,l=>tbE h l fun _ _ _ _ _ h1 l1 h _=>bi (eT_ok hn e h1 l1) (tlE h)
 | .newl _,_,_,_,_,_,_,h,_=>tlE h
 | .lapp i e,_,_,_,_,_,_,h,l=>tbE h l fun _ _ _ _ _ h1 l1 h l=>bi (eT_ok hn e h1 l1) (ofOE h fun _ hx h=>tbE h l fun _ _ _ _ _ h2 l2 h _=>bi hx ((if_pos (askB h2 l2).1).trans (tlE h)))
 | .unp is e,_,_,_,_,_,_,h,l=>tbE h l fun _ _ _ _ _ h1 l1 h _=>bi (eT_ok hn e h1 l1) (tlE h)
 | .unpD is e,_,_,_,_,_,_,h,l=>tbE h l fun _ _ _ _ _ h1 l1 h _=>bi (dsT_ok hn e h1 l1) (tlE h)
 | .setattr o nm e,_,_,_,_,_,_,h,l=>tbE h l fun _ _ _ _ _ h1 l1 h l=>tbE h l fun _ _ _ _ _ h2 l2 h l=>tbE h l fun _ _ _ _ _ h3 l3 h _=>bi (eT_ok hn e h1 l1) (bi (eT_ok hn o h2 l2) ((mi (askH h3 l3)).trans (tlE h)))
 | .setidx a b e,_,_,_,_,_,_,h,l=>tbE h l fun _ _ _ _ _ h1 l1 h l=>tbE h l fun _ _ _ _ _ h2 l2 h l=>tbE h l fun _ _ _ _ _ h3 l3 h l=>tbE h l fun _ _ _ _ _ h4 l4 h _=>bi (eT_ok hn e h1 l1) (bi (eT_ok hn a h2 l2) (bi (eT_ok hn b h3 l3) ((mi (askH h4 l4)).trans (tlE h))))
 | .setidx2 a b c d e f,_,_,_,_,_,_,h,l=>tbE h l fun _ _ _ _ _ h1 l1 h l=>tbE h l fun _ _ _ _ _ h2 l2 h l=>tbE h l fun _ _ _ _ _ h3 l3 h l=>tbE h l fun _ _ _ _ _ h4 l4 h l=>tbE h l fun _ _ _ _ _ h5 l5 h l=>tbE h l fun _ _ _ _ _ h6 l6 h l=>tbE h l fun _ _ _ _ _ h7 l7 h l=>tbE h l fun _ _ _ _ _ h8 l8 h _=>bi (eT_ok hn e h1 l1) (bi (eT_ok hn f h2 l2) (bi (eT_ok hn a h3 l3) (bi (eT_ok hn b h4 l4) (bi (askH h5 l5) (bi (eT_ok hn c h6 l6) (bi (eT_ok hn d h7 l7) ((mi (askH h8 l8)).trans (tlE h))))))))
 | .expr e,_,_,_,_,_,_,h,l=>tbE h l fun _ _ _ _ _ h1 l1 h _=>(mi (eT_ok hn e h1 l1)).trans (tlE h)
 | .ret e,_,_,_,_,_,_,h,l=>tbE h l fun _ _ _ _ _ h1 l1 h _=>(mi (eT_ok hn e h1 l1)).trans (tlE h)
 | .ite c a b,_,_,_,_,_,_,h,l=>tbE h l fun _ _ _ _ _ h1 l1 h l=>bi (eT_ok hn c h1 l1) (selE h (fun h=>ssT_ok a h l) fun h=>ssT_ok b h l)
 | .stuck,_,_,_,_,_,_,h,_=>nomatch h
 | .frz _,_,_,_,_,_,_,h,_=>tlE h
 | .whil t b,_,_,_,_,_,_,h,l=>pkQ h (fun h=>askFs h l) fun h=>whT_ok (fun _ _ _ _ _ h l=>eT_ok hn t h l) (fun _ _ _ _ _ h l=>ssT_ok b h l) 3 h l
 | .for_ tg i b,_,_,_,_,_,_,h,l=>pkQ h (fun h=>askFs h l) fun h=>tbE h l fun _ _ _ _ _ h1 l1 h l=>bi (iT_ok hn i h1 l1) (forT_ok (g:=fun x s=>(bindTg tg x s.1).bind fun ρ=>exs C b (ρ,s.2)) (fun _ _ _ _ _ _ h l=>ofOE h fun _ e h=>bi e (ssT_ok b h l)) _ h l)
 | .compl _ tg x i c,_,_,_,_,_,_,h,l=>tbE h l fun _ _ _ _ _ h1 l1 h _=>complE (eT_ok hn (.comp false tg x i c) h1 l1) (tlE h)
theorem ssT_ok:∀ (x:Ss) {ρ:List Sl} {H:Hp} {t t':List (Ans C)} {L:List (Key×Key)} {r:Fl×St},ssT C x ρ H t=some (r,t',L)→Al L→exs C x (ρ,H)=some r
 | .nil,_,_,_,_,_,_,h,_=>tlE h
 | .cons x y,_,_,_,_,_,_,h,l=>by
  refine tbE h l fun q _ _ _ _ h1 l1 h l=>bi (sT_ok x h1 l1) ?_
  obtain ⟨fl,s⟩:=q
  cases fl with
  | next=>exact ssT_ok y h l
  | ret v=>exact tlE h
end
end
noncomputable def Fn.cls? (f:Fn):Option Cls:=[Cls.pair,.symbol,.alias,.special,.locName,.globName,.scope,.symtab,.names][f.c]?
noncomputable def theInit (c:Cls):Nat×List (String×E):=match c with
 | .symbol=>(2,[("number",.v 1),("text",.v 2)])
 | .symtab=>(0,[("rows",.list true .nil),("by_text",.dict0 false)])
 | .pair=>(2,[("car",.v 1),("cdr",.v 2)])
 | .alias=>(3,[("number",.v 1),("base",.v 2),("scope",.v 3)])
 | .special=>(1,[("word",.v 1)])
 | .locName=>(2,[("number",.v 1),("title",.v 2)])
 | .globName=>(1,[("symbol",.v 1)])
 | .scope=>(1,[("parent",.v 1),("names",.dict0 true)])
 | .names=>(0,[("table",.new .symtab .nil),("last",.k (.int 0)),("titles",.dict0 false),("ops",.dict0 false),("root",.k .none)])
noncomputable def evFs (C:Calls) (ρ:List Sl):List (String×E)→Hp→Option (List (String×V)×Hp)
 | [],H=>some ([],H)
 | (n,e)::es,H=>(ev C ρ e H).bind fun r=>(evFs C ρ es r.2).map fun q=>((n,r.1)::q.1,q.2)
noncomputable def isNames:Cls→Bool | .names=>true | _=>false
noncomputable def initV (C:Calls) (c:Cls) (as:List V) (H:Hp):Option (V×Hp):=
 if Nat.beq as.length (theInit c).1 then (evFs C (.undef::as.map .v) (theInit c).2 H).map fun r=>match isNames c with
  | true=>(.ref (r.2.length+1),r.2++[.attrs r.1,.inst c r.2.length])
  | false=>(.obj c (r.1.map (·.2)),r.2) else none
noncomputable def rn:Nat→Calls
 | 0=>fun _ _ _=>none
 | n+1=>fun f as H=>match f.cls? with
  | some c=>initV (rn n) c as H
  | none=>if Nat.beq as.length (theFn f).np then finR (exs (rn n) (theFn f).body (ρ0 (theFn f) as,H)) else none
noncomputable def R (m:Nat) (f:Fn) (as:List V) (H:Hp) (r:V×Hp):Prop:=∀ n,m≤n→rn n f as H=some r
structure Has (m:Nat) (C:Calls):Prop where
 r:∀ {f:Fn} {as:List V} {H:Hp} {r:V×Hp},R m f as H r→C f as H=some r
 n:∀ {c:Cls} {as:List V} {H:Hp} {r:V×Hp},newV c as H=some r→C (.new c) as H=some r
theorem R.le {m k:Nat} {f:Fn} {as:List V} {H:Hp} {r:V×Hp} (h:R m f as H r) (l:m≤k):R k f as H r:=fun n hn=>h n (Nat.le_trans l hn)
theorem R.up {m j:Nat} {f:Fn} {as:List V} {H:Hp} {r:V×Hp} (h:R m f as H r):R (m+j) f as H r:=fun n l=>h n (Nat.le_of_add_right_le l)
theorem newV_rn {n:Nat} {c:Cls} {as:List V} {H:Hp} {r:V×Hp} (h:newV c as H=some r):rn (n+1) (.new c) as H=some r:=by
 cases c
 case pair=>match as,h with | [_,_],h=>exact h
 case symbol=>match as,h with | [_,_],h=>exact h
 case alias=>match as,h with | [_,_,_],h=>exact h
 case special=>match as,h with | [_],h=>exact h
 case locName=>match as,h with | [_,_],h=>exact h
 case globName=>match as,h with | [_],h=>exact h
 case scope=>match as,h with | [_],h=>exact h
 case symtab=>cases h
 case names=>cases h
theorem has {m n:Nat} (h:m≤n) (h1:1≤n):Has m (rn n):=⟨fun r=>r n h,fun e=>by
 cases n with
 | zero=>exact absurd h1 (Nat.not_succ_le_zero 0)
 | succ n=>exact newV_rn e⟩
noncomputable def finP (r:Fl×St):V×Hp:=match r.1 with
 | .ret v=>(v,r.2.2)
 | .next=>(.none,r.2.2)
noncomputable def runT (C:Calls) (f:Fn) (as:List V) (H:Hp) (t:List (Ans C)):Option ((V×Hp)×List (Key×Key)):=
 match Nat.ble 9 f.c&&Nat.beq as.length (theFn f).np with
 | true=>(ssT C (theFn f).body (ρ0 (theFn f) as) H t).map fun q=>(finP q.1,q.2.2)
 | false=>none
noncomputable def lhs (x:Option ((V×Hp)×List (Key×Key))):Option ((V×Hp)×List Key):=x.elim none fun q=>some (q.1,q.2.map (·.1))
noncomputable def rhs (r:V×Hp) (x:Option ((V×Hp)×List (Key×Key))):Option ((V×Hp)×List Key):=x.elim (some (r,[])) fun q=>some (r,q.2.map (·.2))
theorem cls_none {f:Fn} (h:Nat.ble 9 f.c=true):f.cls?=none:=by
 have:=Nat.le_of_ble_eq_true h
 exact List.getElem?_eq_none this
theorem R.of {m:Nat} {f:Fn} {as:List V} {H:Hp} {r:V×Hp} (t:∀ C,Has (m+1) C→List (Ans C)) (h:∀ C (hC:Has (m+1) C),lhs (runT C f as H (t C hC))=rhs r (runT C f as H (t C hC))):R (m+2) f as H r:=fun n l=>by
 cases n with
 | zero=>exact absurd l (Nat.not_succ_le_zero _)
 | succ n=>
  have hC:Has (m+1) (rn n):=has (Nat.le_of_succ_le_succ l) (Nat.le_trans (Nat.succ_le_succ (Nat.zero_le m)) (Nat.le_of_succ_le_succ l))
  have h:=h _ hC
  generalize t _ hC=t at h
  unfold runT at h
  split at h
  ·rename_i c
   obtain ⟨c1,c2⟩:=Bool.and_eq_true_iff.mp c
   show (match f.cls? with | some c=>initV (rn n) c as H | none=>_)=_
   rw [cls_none c1]
   refine (if_pos c2).trans ?_
   cases e:ssT (rn n) (theFn f).body (ρ0 (theFn f) as) H t with
   | none=>rw [e] at h; cases h
   | some p=>
    rw [e] at h
    injection h with h
    injection h with h1 h2
    rw [ssT_ok hC.n _ e (al_of h2)]
    exact congrArg some h1
  ·cases h
theorem R.ex {m:Nat} {f:Fn} {as:List V} {H:Hp} {r:V×Hp} (h:∀ C,Has (m+1) C→∃ t:List (Ans C),lhs (runT C f as H t)=rhs r (runT C f as H t)):R (m+2) f as H r:=
 R.of (fun C hC=>Classical.choose (h C hC)) fun C hC=>Classical.choose_spec (h C hC)
noncomputable def Ans.cc {C:Calls} {f:Fn} {as:List V} {H:Hp} {r:V×Hp} (h:C f as H=some r):Ans C:=⟨.c f as H,.vh r,h⟩
noncomputable def Ans.ce {C:Calls} {ρ:List Sl} {e:E} {H:Hp} {r:V×Hp} (h:ev C ρ e H=some r):Ans C:=⟨.e ρ e H,.vh r,h⟩
noncomputable def Ans.cs {C:Calls} {ρ:List Sl} {e:S} {H:Hp} {r:Fl×St} (h:ex C e (ρ,H)=some r):Ans C:=⟨.s ρ e H,.fs r,h⟩
noncomputable def Ans.cm {C:Calls} {o:CO} {x y v:V} {H:Hp} (h:cmpV H o x y=some v):Ans C:=⟨.cmp o x y H,.v v,h⟩
noncomputable def Ans.ix {C:Calls} {x y v:V} {H:Hp} (h:idxV H x y=some v):Ans C:=⟨.idx x y H,.v v,h⟩
noncomputable def Ans.st {C:Calls} {x y v:V} {H H':Hp} (h:setV H x y v=some H'):Ans C:=⟨.set x y v H,.h H',h⟩
noncomputable def Ans.at {C:Calls} {nm:String} {x v:V} {H:Hp} (h:attrV H nm x=some v):Ans C:=⟨.attr nm x H,.v v,h⟩
noncomputable def Ans.is {C:Calls} {t:Ty} {x:V} {b:Bool} (h:t.has x=some b):Ans C:=⟨.isI x t,.b b,h⟩
noncomputable def Ans.cl {C:Calls} {x:V} {H:Hp} {c:Cls} (h:clsOf H x=some c):Ans C:=⟨.cls x H,.c c,h⟩
noncomputable def Ans.gt {C:Calls} {x y v:V} {H:Hp} (h:isDct H x=true∧getV H x y=some v):Ans C:=⟨.get x y H H,.v v,h⟩
noncomputable def Ans.ap {C:Calls} {x y:V} {H H':Hp} (h:isLst H x=true∧appV H x y=some H'):Ans C:=⟨.app x y H H,.h H',h⟩
noncomputable def Ans.b1 {C:Calls} {o:B1} {x:V} {H:Hp} {r:V×Hp} (h:b1V H o x=some r):Ans C:=⟨.b1 o x H,.vh r,h⟩
noncomputable def Ans.pt {C:Calls} {nm:String} {v x:V} {H H':Hp} (h:attrPut H nm v x=some H'):Ans C:=⟨.put nm v x H,.h H',h⟩
noncomputable def Ans.pp {C:Calls} {x:V} {H:Hp} {r:V×Hp} (h:popV H x=some r):Ans C:=⟨.pop x H,.vh r,h⟩
noncomputable def Ans.bi {C:Calls} {o:BO} {x y v:V} {H:Hp} (h:binV H o x y=some v):Ans C:=⟨.bin o x y H,.v v,h⟩
noncomputable def Ans.ln {C:Calls} {xs:List V} (h:xs.length≤room):Ans C:=⟨.ln xs,.b true,h,rfl⟩
noncomputable def Ans.r1 {C:Calls} {n:Int} (h : -1≤n∧n≤room):Ans C:=⟨.r1 n,.b true,h,rfl⟩
noncomputable def Ans.r3 {C:Calls} {x y:Int} (h : -1≤x∧x≤room ∧ -1≤y∧y≤room):Ans C:=⟨.r3 x y,.b true,h,rfl⟩
noncomputable def Has.a {m k:Nat} {C:Calls} {f:Fn} {as:List V} {H:Hp} {r:V×Hp} (hC:Has k C) (h:R m f as H r) (l:m≤k:=by decide):Ans C := .cc (hC.r (h.le l))
section
variable {C:Calls} {ρ:List Sl} {H:Hp}
noncomputable def l2 {α:Type} (x:Option (α×List (Ans C)×List (Key×Key))):Option (α×List Key):=x.elim none fun q=>some (q.1,q.2.2.map (·.1))
noncomputable def r2 {α:Type} (r:α) (x:Option (α×List (Ans C)×List (Key×Key))):Option (α×List Key):=x.elim (some (r,[])) fun q=>some (r,q.2.2.map (·.2))
theorem l2E {α:Type} {x:Option (α×List (Ans C)×List (Key×Key))} {r:α} {q:Prop} (h:l2 x=r2 r x) (k:∀ t L,x=some (r,t,L)→Al L→q):q:=by
 cases x with
 | none=>cases h
 | some p=>
  injection h with h
  injection h with h1 h2
  have e:p.1=r:=h1
  subst e
  exact k p.2.1 p.2.2 rfl (al_of h2)
variable {m:Nat} (hC:Has m C)
include hC
theorem Has.s {b:Ss} {r:Fl×St} (t:List (Ans C)) (h:l2 (ssT C b ρ H t)=r2 r (ssT C b ρ H t)):exs C b (ρ,H)=some r:=l2E h fun _ _ h l=>ssT_ok hC.n b h l
theorem Has.e {b:E} {r:V×Hp} (t:List (Ans C)) (h:l2 (eT C ρ b H t)=r2 r (eT C ρ b H t)):ev C ρ b H=some r:=l2E h fun _ _ h l=>eT_ok hC.n b h l
theorem Has.i {b:I} {r:List V×Hp} (t:List (Ans C)) (h:l2 (iT C ρ b H t)=r2 r (iT C ρ b H t)):evI C ρ b H=some r:=l2E h fun _ _ h l=>iT_ok hC.n b h l
end
section
variable {H:Hp} {d:Nat} {xs:List V} {v:V}
theorem h_len (h:H[d]?=some (.list xs)):b1V H .len (.ref d)=some (.int xs.length,H):=by
 show Option.map _ (Option.map _ (H[d]?.bind AO.list?))=_
 rw [h]; rfl
theorem h_app (h:H[d]?=some (.list xs)) (l:xs.length≤room):isLst H (.ref d)=true∧appV H (.ref d) v=some (H.set d (.list (xs++[v]))):=⟨congrArg Option.isSome (bi h rfl),bi (bi h rfl) (if_pos l)⟩
theorem h_gtS {es:List (String×V)} {s:String} (h:H[d]?=some (.dictS es)):isDct H (.ref d)=true∧getV H (.ref d) (.str s)=some ((aget s es).getD .none):=⟨congrArg Option.isSome (bi h rfl),bi h rfl⟩
theorem h_gtI {es:List (Int×V)} {s:Int} (h:H[d]?=some (.dictI es)):isDct H (.ref d)=true∧getV H (.ref d) (.int s)=some ((aget s es).getD .none):=⟨congrArg Option.isSome (bi h rfl),bi h rfl⟩
theorem h_ixS {es:List (String×V)} {s:String} (h:H[d]?=some (.dictS es)) (g:aget s es=some v):idxV H (.ref d) (.str s)=some v:=bi h g
theorem h_ixI {es:List (Int×V)} {s:Int} (h:H[d]?=some (.dictI es)) (g:aget s es=some v):idxV H (.ref d) (.int s)=some v:=bi h g
theorem h_ix0 (h:H[d]?=some (.list (v::xs))):idxV H (.ref d) (.int 0)=some v:=bi h rfl
theorem h_stS {es:List (String×V)} {s:String} (h:H[d]?=some (.dictS es)) (l:es.length≤room):setV H (.ref d) (.str s) v=some (H.set d (.dictS (aput s v es))):=bi h (if_pos l)
theorem h_stI {es:List (Int×V)} {s:Int} (h:H[d]?=some (.dictI es)) (l:es.length≤room):setV H (.ref d) (.int s) v=some (H.set d (.dictI (aput s v es))):=bi h (if_pos l)
theorem h_st0 {u:V} (h:H[d]?=some (.list (u::xs))) (l:(u::xs).length≤room):setV H (.ref d) (.int 0) v=some (H.set d (.list (v::xs))):=bi h (if_pos ⟨Int.le_refl _,Nat.succ_pos _,l⟩)
end
section
variable {C:Calls} {ρ ρ':List Sl} {H H1:Hp} {t:E} {b:Ss} {tg:List Nat} {x v:V} {xs:List V} {s:St} {r:Fl×St}
noncomputable def FB (C:Calls) (tg:List Nat) (b:Ss):List V→St→Option (Fl×St):=forV fun x s=>(bindTg tg x s.1).bind fun ρ=>exs C b (ρ,s.2)
theorem for_i {it:I} (hi:evI C ρ it H=some (xs,H1)) (h:FB C tg b xs (ρ,H1)=some r):ex C (.for_ tg it b) (ρ,H)=some r:=bi hi h
noncomputable def S.it:S→I | .for_ _ i _=>i | .compl _ _ _ i _=>i | _ => .e (.k .none)
noncomputable def S.bd:S→Ss | .for_ _ _ b=>b | .whil _ b=>b | .ite _ b _=>b | _ => .nil
noncomputable def S.tgs:S→List Nat | .for_ t _ _=>t | _=>[]
noncomputable def S.ts:S→E | .whil t _=>t | .ite t _ _=>t | .ret e=>e | .assign _ e=>e | .expr e=>e | .lapp _ e=>e | .unp _ e=>e | _ => .k .none
noncomputable def Ss.at:Ss→Nat→S
 | .cons x _,0=>x
 | .cons _ r,n+1=>r.at n
 | .nil,_ => .stuck
noncomputable abbrev st (f:Fn) (i:Nat):S:=(theFn f).body.at i
theorem for_x {x:S} (hi:evI C ρ x.it H=some (xs,H1)) (h:FB C x.tgs x.bd xs (ρ,H1)=some r) (e:S.for_ x.tgs x.it x.bd=x:=by rfl):ex C x (ρ,H)=some r:=e▸for_i hi h
theorem fb_n:FB C tg b [] s=some (.next,s):=rfl
theorem fb_c (hb:exs C b (ρ',H)=some (.next,s)) (h:FB C tg b xs s=some r) (ht:bindTg tg x ρ=some ρ':=by rfl):FB C tg b (x::xs) (ρ,H)=some r:=bi (bi ht hb) h
theorem fb_r (hb:exs C b (ρ',H)=some (.ret v,s)) (ht:bindTg tg x ρ=some ρ':=by rfl):FB C tg b (x::xs) (ρ,H)=some (.ret v,s):=bi (bi ht hb) rfl
theorem it_1 {a:E} {n:Int} (h:ev C ρ a H=some (.int n,H1)) (l : -1≤n∧n≤room):evI C ρ (.range1 a) H=some (upTo 0 n.toNat,H1):=bi h (mi (if_pos l))
theorem wh_f (ht:ev C ρ t H=some (.bool false,H1)):ex C (.whil t b) (ρ,H)=some (.next,ρ,H1):=wh.trans (bi ht rfl)
theorem wh_t (ht:ev C ρ t H=some (.bool true,H1)) (hb:exs C b (ρ,H1)=some (.next,s)) (h:ex C (.whil t b) s=some r):ex C (.whil t b) (ρ,H)=some r:=wh.trans (bi ht (bi hb h))
theorem wh_r (ht:ev C ρ t H=some (.bool true,H1)) (hb:exs C b (ρ,H1)=some (.ret v,s)):ex C (.whil t b) (ρ,H)=some (.ret v,s):=wh.trans (bi ht (bi hb rfl))
theorem wh_x {x:S} (h:ex C (.whil x.ts x.bd) s=some r) (e:S.whil x.ts x.bd=x:=by rfl):ex C x s=some r:=e▸h
variable {elt c:E} {vs:List V} {H2 H3:Hp}
theorem cp_i {heap:Bool} {it:I} (hi:evI C ρ it H=some (xs,H1)) (h:evComp C ρ tg elt c xs H1=some (vs,H2)):ev C ρ (.comp heap tg elt it c) H=some (mk' heap (vs,H2)):=bi hi (mi h)
theorem cp_c (hc:ev C ρ' c H=some (.bool true,H1)) (he:ev C ρ' elt H1=some (v,H2)) (h:evComp C ρ tg elt c xs H2=some (vs,H3)) (ht:bindTg tg x ρ=some ρ':=by rfl):evComp C ρ tg elt c (x::xs) H=some (v::vs,H3):=
 bi (bi ht (bi hc (mi he))) (mi h)
theorem cp_s (hc:ev C ρ' c H=some (.bool false,H1)) (h:evComp C ρ tg elt c xs H1=some (vs,H3)) (ht:bindTg tg x ρ=some ρ':=by rfl):evComp C ρ tg elt c (x::xs) H=some (vs,H3):=
 bi (bi ht (bi hc rfl)) (mi h)
end
theorem i1s {k:Nat}:((k+1:Nat):Int) - 1=k:=Int.add_sub_cancel k 1
theorem i0s {k:Nat}:((k:Int) - 0).toNat=k:=congrArg Int.toNat (Int.sub_zero k)
theorem r3t {n:Nat}:(((n:Int) - 1) - -1).toNat=n:=congrArg Int.toNat (Int.sub_add_cancel n 1)
theorem r1n {n:Nat} (h:n≤room) : -1≤(n:Int)∧(n:Int)≤room:=⟨Int.le_trans (by decide) (Int.natCast_nonneg n),Int.ofNat_le.mpr h⟩
theorem r3n {n:Nat} (h:n≤room) : -1≤(n:Int) - 1∧(n:Int) - 1≤room∧(-1:Int) ≤ -1∧(-1:Int)≤room:=⟨Int.sub_le_sub_right (Int.natCast_nonneg n) 1,Int.le_trans (Int.sub_le_self _ (by decide)) (Int.ofNat_le.mpr h),Int.le_refl _,Int.le_trans (by decide) (Int.natCast_nonneg room)⟩
noncomputable def mk:List V→V→V
 | [],t=>t
 | x::xs,t => .obj .pair [x,mk xs t]
noncomputable abbrev rootS:V := .obj .scope [.none,.ref 7]
noncomputable abbrev sym (k:Nat) (t:String):V := .obj .symbol [.int k,.str t]
noncomputable abbrev als (m:Nat) (b:V):V := .obj .alias [.int m,b,rootS]
noncomputable abbrev keyS (k:Nat):Int:=2*k
noncomputable abbrev keyA (m:Nat):Int:=2*m+1
theorem R.n {f:Fn} {as:List V} {H:Hp} {r:V×Hp} (h:∀ C,lhs (runT C f as H [])=rhs r (runT C f as H [])):R 2 f as H r:=R.of (m:=0) (fun _ _=>[]) fun C _=>h C
section
variable {H:Hp} {xs ys:List V} {t x:V}
noncomputable def notId:V→Bool
 | .obj .symbol _=>false | .obj .alias _=>false | .ref _=>false | _=>true
theorem isid_not {v:V} (h:notId v=true):R 2 .is_identifier [v] H (.bool false,H):=by
 cases v with
 | ref=>cases h
 | obj c _=>
  cases c
  case symbol=>cases h
  case alias=>cases h
  all_goals exact R.n fun _=>by kernel_rfl
 | _=>exact R.n fun _=>by kernel_rfl
theorem sm_of {i:Int} (h1 : -1000≤i) (h2:i≤16000000):small i=true:=decide_eq_true (by omega)
theorem idx_nat {k:Nat} {c:V} (h:xs[k]?=some c) (hl:xs.length≤room):idxV H (.lst xs) (.int k)=some c:=by
 have hk:=(List.getElem?_eq_some_iff.mp h).1
 show getI xs k=_
 unfold getI
 rw [if_pos (sm_of (Int.le_trans (by decide) (Int.natCast_nonneg k)) (Int.ofNat_le.mpr (Nat.le_trans (Nat.le_of_lt hk) hl))),if_pos (Int.natCast_nonneg k)]
 exact h
noncomputable def lastI (k:Nat) (e:Sl):Sl:=match k with | 0=>e | _+1 => .v (.int 0)
theorem list_loop {m:Nat} {C:Calls} (hC:Has m C) (hl:xs.length≤room):∀ (k:Nat) (e:Sl),k≤xs.length→FB C [3] (st .list_of 1).bd (downTo ((k:Int) - 1) k) ([.v (.lst xs),.v t,.v (mk (xs.drop k) t),e],H)=some (.next,[.v (.lst xs),.v t,.v (mk xs t),lastI k e],H)
 | 0,e,_=>fb_n
 | k+1,e,h=>by
  have hx:=List.getElem?_eq_getElem (l:=xs) (i:=k) h
  have ih:=list_loop hC hl k (.v (.int k)) (Nat.le_of_succ_le h)
  rw [show ((k+1:Nat):Int) - 1=k by omega]
  have e2:lastI k (.v (.int k)) = .v (.int 0):=by cases k <;> rfl
  rw [e2,List.drop_eq_getElem_cons h] at ih
  exact fb_c (hC.s [.ix (idx_nat (H:=H) hx hl)] (by kernel_rfl)) ih
theorem list_for {m:Nat} {C:Calls} (hC:Has m C) (hl:xs.length≤room):ex C (st .list_of 1) ([.v (.lst xs),.v t,.v t,.undef],H)=some (.next,[.v (.lst xs),.v t,.v (mk xs t),lastI xs.length .undef],H):=by
 have lp:=list_loop (H:=H) (t:=t) hC hl xs.length .undef (Nat.le_refl _)
 rw [List.drop_length] at lp
 have hi:evI C [.v (.lst xs),.v t,.v t,.undef] (st .list_of 1).it H=some (downTo ((xs.length:Int) - 1) (((xs.length:Int) - 1) - -1).toNat,H):=hC.i [.r3 (x:=(xs.length:Int) - 1) (y := -1) (r3n hl)] (by kernel_rfl)
 rw [r3t] at hi
 exact for_x hi lp
theorem list_eq (hl:xs.length≤room):R 2 .list_of [.lst xs,t] H (mk xs t,H):=R.of (m:=0) (fun C hC=>[.cs (list_for (H:=H) (t:=t) hC hl)]) fun C hC=>by kernel_rfl
theorem size_lt {us ys:List V} {t:V} (h:us≠[]):(mk ys t).size < (mk (us++ys) t).size:=by
 induction us with
 | nil=>exact absurd rfl h
 | cons u us ih=>
  have e:(mk (u::us++ys) t).size=u.size+((mk (us++ys) t).size+0)+1:=by rw [Nat.add_zero]; rfl
  rw [e]
  cases us with
  | nil=>exact Nat.lt_succ_of_le (Nat.le_add_left _ _)
  | cons u' us'=>exact Nat.lt_succ_of_lt (Nat.lt_of_lt_of_le (ih (List.cons_ne_nil _ _)) (Nat.le_add_left _ _))
theorem odd_e {zs:List V} {y:V} {k:Nat} {b:Bool} (h:zs.length=2*k+b.toNat):cmpV H .eq (.int (((zs++[y]).length:Int).fmod 2)) (.int 0)=some (.bool b):=by
 rw [List.length_append,h,Int.fmod_eq_emod_of_nonneg _ (by decide)]
 show some (V.bool (((((2*k+(b.toNat+1)) % 2:Nat)):Int) == 0))=_
 rw [Nat.mul_add_mod]
 cases b <;> rfl
theorem isnt {y:V} {ys us:List V}:cmpV H .is (mk ys .empty) (mk (us++([y]++ys)) .empty)=some (.bool false):=by
 show (isV _ _).map V.bool=_
 cases ys with
 | nil=>cases us <;> rfl
 | cons z ys=>
  have hs:=size_lt (us:=us++[y]) (ys:=z::ys) (t := .empty) (List.append_ne_nil_of_right_ne_nil us (List.cons_ne_nil _ _))
  rw [List.append_assoc] at hs
  cases us <;> exact congrArg (Option.map V.bool) (if_pos (Nat.ne_of_lt hs))
theorem split_loop {m:Nat} {C:Calls} (hC:Has m C) {a:V} {ys:List V}:∀ {zs us:List V} {k:Nat} {b:Bool},zs.length+ys.length≤room→zs.length=2*k+b.toNat→us.length=k+b.toNat →
  ∃ e,ex C (.whil (st .split_list 3).ts (st .split_list 3).bd) ([.v a,.loc zs,.v (mk ys .empty),.v (mk (us++ys) .empty)],H)=some (.next,[.v a,.loc (zs++ys),.v .empty,.v e],H):=by
 induction ys with
 | nil=>exact fun {zs us k b} _ _ _=>⟨_,by rw [List.append_nil,List.append_nil]; exact wh_f (hC.e [] (by kernel_rfl))⟩
 | cons y ys ih=>
  intro zs us k b hl hz hu
  have hl':(zs++[y]).length+ys.length≤room:=by rw [List.length_append,Nat.add_assoc,Nat.add_comm _ ys.length]; exact hl
  have l1:∀ {xs:List V},(xs++[y]).length=xs.length+1:=List.length_append
  have e1:=odd_e (H:=H) (y:=y) hz
  rw [List.append_cons zs]
  cases b with
  | false=>
   obtain ⟨e,h⟩:=ih (us:=us++[y]) (k:=k) (b:=true) hl' (l1.trans (congrArg (·+1) hz)) (l1.trans (congrArg (·+1) hu))
   rw [List.append_assoc us] at h
   exact ⟨e,wh_t (H1:=H) (hC.e [] (by kernel_rfl)) (hC.s [.ln (xs:=zs) (Nat.le_trans (Nat.le_add_right _ _) hl),.cm e1] (by kernel_rfl)) h⟩
  | true=>
   cases us with
   | nil=>cases hu
   | cons u us=>
    obtain ⟨e,h⟩:=ih (us:=us++[y]) (k:=k+1) (b:=false) hl' (l1.trans (congrArg (·+1) hz)) (l1.trans hu)
    rw [List.append_assoc us] at h
    exact ⟨e,wh_t (H1:=H) (hC.e [] (by kernel_rfl)) (hC.s [.ln (xs:=zs) (Nat.le_trans (Nat.le_add_right _ _) hl),.cm e1,.cm (isnt (H:=H) (y:=y) (ys:=ys) (us:=us))] (by kernel_rfl)) h⟩
theorem split_eq (hl:xs.length≤room):R 2 .split_list [mk xs .empty] H (.tup [.lst xs,.empty],H):=R.of (m:=0) (fun C hC=>[.cs (Classical.choose_spec (split_loop hC (H:=H) (a:=mk xs .empty) (ys:=xs) (zs:=[]) (us:=[]) (k:=0) (b:=false) (Nat.le_trans (Nat.le_of_eq (Nat.zero_add _)) hl) rfl rfl))]) fun C hC=>by kernel_rfl
end
structure W where
 L:Nat
 ns:List String
noncomputable def words:List String:=["quote", "if", "lambda", "set!", "begin", "define", "and", "or", "let", "let*", "letrec", "cond", "case", "do"]
noncomputable abbrev spec (t:String):V := .obj .special [.str t]
noncomputable def rootF:Nat→List String→List (Int×V)
 | _,[]=>[]
 | k,t::ts=>(keyS k,spec t)::rootF (k+1) ts
noncomputable def rootEs:List (Int×V):=rootF 0 words
noncomputable abbrev symtabV:V := .obj .symtab [.ref 1,.ref 2]
noncomputable def attrsL (L:Nat):List (String×V):=[("table",symtabV),("last",.int L),("titles",.ref 3),("ops",.ref 4),("root",rootS)]
noncomputable def tabF:Nat→List String→List (String×V)
 | _,[]=>[]
 | k,t::ts=>(t,sym k t)::tabF (k+1) ts
noncomputable def cell (w:W):Nat→Option AO
 | 1=>some (.list ((tabF 0 w.ns).map (·.2)))
 | 2=>some (.dictS (tabF 0 w.ns))
 | 5=>some (.attrs (attrsL w.L))
 | 6=>some (.inst .names 5)
 | 7=>some (.dictI rootEs)
 | _=>none
structure Wd (H:Hp) (w:W):Prop where
 at_:∀ i a,cell w i=some a→H[i]?=some a
 nd:w.ns.Nodup
 ws:words<+:w.ns
structure St1 (b:Nat) (w:W) (H:Hp) (w':W) (H':Hp):Prop where
 wd:Wd H' w'
 L:w.L≤w'.L
 ns:w.ns<+:w'.ns
 ln:w'.ns.length≤w.ns.length+b
 len:H'.length=H.length
 hw:∀ i,8≤i→H'[i]?=H[i]?
theorem pre_at {α:Type} {l l':List α} {k:Nat} {t:α} (p:l<+:l') (h:l[k]?=some t):l'[k]?=some t:=by
 obtain ⟨r,rfl⟩:=p
 rw [List.getElem?_append_left (List.getElem?_eq_some_iff.mp h).1]; exact h
theorem lt_at {α:Type} {l:List α} {k:Nat} {t:α} (h:l[k]?=some t):k < l.length:=(List.getElem?_eq_some_iff.mp h).1
section
variable {H H' H'':Hp} {w w' w'':W} {a b:Nat} {t:String} {q:Prop}
theorem St1.trans (x:St1 a w H w' H') (y:St1 b w' H' w'' H''):St1 (a+b) w H w'' H'':=
 ⟨y.wd,Nat.le_trans x.L y.L,x.ns.trans y.ns,Nat.le_trans y.ln (Nat.le_trans (Nat.add_le_add_right x.ln b) (Nat.le_of_eq (Nat.add_assoc _ _ _))),y.len.trans x.len,fun i h=>(y.hw i h).trans (x.hw i h)⟩
theorem St1.refl (h:Wd H w):St1 0 w H w H:=⟨h,Nat.le_refl _,List.prefix_refl _,Nat.le_refl _,rfl,fun _ _=>rfl⟩
theorem St1.up (x:St1 a w H w' H') (h:a≤b):St1 b w H w' H':=⟨x.wd,x.L,x.ns,Nat.le_trans x.ln (Nat.add_le_add_left h _),x.len,x.hw⟩
theorem aget_c {α:Type} [DecidableEq α] {k k':α} {v:V} {es:List (α×V)}:aget k' ((k,v)::es)=if k=k' then some v else aget k' es:=by
 unfold aget
 rw [List.find?_cons]
 by_cases h:k=k'
 ·rw [decide_eq_true h,if_pos h]; rfl
 ·rw [decide_eq_false h,if_neg h]
theorem tab_get:∀ {ns:List String} {i k:Nat},ns.Nodup→ns[k]?=some t→aget t (tabF i ns)=some (sym (i+k) t)
 | s::ns,i,0,_,h=>by
  cases h
  exact aget_c.trans (if_pos rfl)
 | s::ns,i,k+1,n,h=>by
  have n:=List.nodup_cons.mp n
  refine aget_c.trans ((if_neg fun e:s=t=>n.1 (e▸List.mem_of_getElem? h)).trans ?_)
  rw [tab_get n.2 h,Nat.add_right_comm]; rfl
theorem tab_none:∀ {ns:List String} {i:Nat},t∉ns→aget t (tabF i ns)=none
 | [],_,_=>rfl
 | s::ns,i,h=>aget_c.trans ((if_neg fun e:s=t=>h (e ▸ .head _)).trans (tab_none fun m=>h (.tail _ m)))
theorem tab_len:∀ {ns:List String} {i:Nat},(tabF i ns).length=ns.length
 | [],_=>rfl
 | _::_,_=>congrArg (·+1) tab_len
theorem tab_app:∀ {ns:List String} {i:Nat},tabF i (ns++[t])=tabF i ns++[(t,sym (i+ns.length) t)]
 | [],_=>rfl
 | s::ns,i=>by
  show (s,sym i s)::tabF (i+1) (ns++[t])=_
  rw [tab_app,Nat.add_right_comm]; rfl
theorem aput_new {α:Type} [DecidableEq α] {k:α} {v:V}:∀ {es:List (α×V)},aget k es=none→aput k v es=es++[(k,v)]:=fun {es} h=>by
 unfold aput
 refine if_neg fun c=>?_
 obtain ⟨x,hx,e⟩:=List.any_eq_true.mp c
 exact List.find?_eq_none.mp (Option.map_eq_none_iff.mp h) x hx e
theorem Wd.of (W':Wd H w) (h:∀ i,0 < i→i < 8→H'[i]?=H[i]?):Wd H' w:=⟨fun i a e=>(h i (by cases i <;> first | cases e | exact Nat.succ_pos _) (by
  match i,e with
  | 1,_=>decide
  | 2,_=>decide
  | 5,_=>decide
  | 6,_=>decide
  | 7,_=>decide)).trans (W'.at_ i a e),W'.nd,W'.ws⟩
theorem sym_old {k:Nat} (W':Wd H w) (h:w.ns[k]?=some t):R 2 .symtab_symbol [symtabV,.str t] H (sym k t,H):=by
 have hb:=W'.at_ 2 _ rfl
 have e:isDct H (.ref 2)=true∧getV H (.ref 2) (.str t)=some (sym k t):=⟨(h_gtS (s:=t) hb).1,(h_gtS hb).2.trans (by rw [tab_get W'.nd h,Nat.zero_add]; rfl)⟩
 exact R.of (m:=0) (fun _ _=>[.gt e]) fun _ _=>by kernel_rfl
theorem set_at {α:Type} {l:List α} {j:Nat} {a b:α} (h:l[j]?=some a):(l.set j b)[j]?=some b:=List.getElem?_set_self (lt_at h)
theorem sym_eq (W':Wd H w) (hb:w.ns.length+1≤room) (c:∀ k w' H',R 2 .symtab_symbol [symtabV,.str t] H (sym k t,H')→St1 1 w H w' H'→w'.ns[k]?=some t→q):q:=by
 by_cases m:t∈w.ns
 ·obtain ⟨k,hk⟩:=List.getElem?_of_mem m
  exact c k w H (sym_old W' hk) ((St1.refl W').up (Nat.zero_le _)) hk
 ·have h1:=W'.at_ 1 _ rfl
  have h2:=W'.at_ 2 _ rfl
  have h3:((tabF 0 w.ns).map (·.2)).length=w.ns.length:=(List.length_map _).trans tab_len
  have n0:=tab_none (i:=0) m
  have hl:w.ns.length≤room:=Nat.le_of_succ_le hb
  have e1:isDct H (.ref 2)=true∧getV H (.ref 2) (.str t)=some .none:=⟨(h_gtS (s:=t) h2).1,(h_gtS h2).2.trans (by rw [n0]; rfl)⟩
  have e2:b1V H .len (.ref 1)=some (.int w.ns.length,H):=h3▸h_len h1
  have e3:isLst H (.ref 1)=true∧appV H (.ref 1) (sym w.ns.length t)=some (H.set 1 (.list ((tabF 0 w.ns).map (·.2)++[sym w.ns.length t]))):=h_app h1 (h3.symm▸hl)
  have h4:(H.set 1 (.list ((tabF 0 w.ns).map (·.2)++[sym w.ns.length t])))[2]?=some (.dictS (tabF 0 w.ns)):=by rw [List.getElem?_set_ne (by decide)]; exact h2
  have e4:setV (H.set 1 (.list ((tabF 0 w.ns).map (·.2)++[sym w.ns.length t]))) (.ref 2) (.str t) (sym w.ns.length t)=some ((H.set 1 (.list ((tabF 0 w.ns).map (·.2)++[sym w.ns.length t]))).set 2 (.dictS (tabF 0 w.ns++[(t,sym w.ns.length t)]))):=aput_new n0▸h_stS h4 (tab_len.symm▸hl)
  refine c w.ns.length ⟨w.L,w.ns++[t]⟩ ((H.set 1 (.list ((tabF 0 w.ns).map (·.2)++[sym w.ns.length t]))).set 2 (.dictS (tabF 0 w.ns++[(t,sym w.ns.length t)]))) (R.of (m:=0) (fun _ _=>[.gt e1,.b1 e2,.ap e3,.st e4]) fun _ _=>by kernel_rfl) ⟨⟨fun i a e=>?_,?_,W'.ws.trans (List.prefix_append _ _)⟩,Nat.le_refl _,List.prefix_append _ _,by rw [List.length_append]; exact Nat.le_refl _,by rw [List.length_set,List.length_set],fun i h=>?_⟩ ?_
  ·have ta:=tab_app (t:=t) (ns:=w.ns) (i:=0)
   rw [Nat.zero_add] at ta
   match i,e with
   | 1,e=>cases e; rw [List.getElem?_set_ne (by decide),set_at h1,ta,List.map_append]; rfl
   | 2,e=>cases e; rw [set_at h4,ta]
   | 5,e=>rw [List.getElem?_set_ne (by decide),List.getElem?_set_ne (by decide)]; exact W'.at_ 5 _ e
   | 6,e=>rw [List.getElem?_set_ne (by decide),List.getElem?_set_ne (by decide)]; exact W'.at_ 6 _ e
   | 7,e=>rw [List.getElem?_set_ne (by decide),List.getElem?_set_ne (by decide)]; exact W'.at_ 7 _ e
  ·exact List.nodup_append.mpr ⟨W'.nd,List.nodup_cons.mpr ⟨List.not_mem_nil,List.nodup_nil⟩,fun x hx y hy e=>m (by rw [← List.mem_singleton.mp hy,← e]; exact hx)⟩
  ·rw [List.getElem?_set_ne (by omega),List.getElem?_set_ne (by omega)]
  ·rw [List.getElem?_append_right (Nat.le_refl _),Nat.sub_self]; rfl
theorem attr5 {nm:String} {v:V} (W':Wd H w) (h:aget nm (attrsL w.L)=some v) (hn:nm∈Cls.names.fields:=by decide):attrV H nm (.ref 6)=some v:=bi (bi (W'.at_ 6 _ rfl) (bi (W'.at_ 5 _ rfl) rfl)) ((if_pos hn).trans h)
theorem a_tab (W':Wd H w):attrV H "table" (.ref 6)=some symtabV:=attr5 W' rfl
theorem a_root (W':Wd H w):attrV H "root" (.ref 6)=some rootS:=attr5 W' rfl
theorem a_last (W':Wd H w):attrV H "last" (.ref 6)=some (.int w.L):=attr5 W' rfl
theorem cls5 (W':Wd H w):clsOf H (.ref 6)=some .names:=mi (bi (W'.at_ 6 _ rfl) (bi (W'.at_ 5 _ rfl) rfl))
theorem fresh_eq (W':Wd H w):R 2 .names_fresh [.ref 6] H (.int (w.L+1:Nat),H.set 5 (.attrs (attrsL (w.L+1))))∧St1 0 w H ⟨w.L+1,w.ns⟩ (H.set 5 (.attrs (attrsL (w.L+1)))):=by
 have h6:=W'.at_ 5 _ rfl
 have s:St1 0 w H ⟨w.L+1,w.ns⟩ (H.set 5 (.attrs (attrsL (w.L+1)))):=by
  refine ⟨⟨fun i a e=>?_,W'.nd,W'.ws⟩,Nat.le_succ _,List.prefix_refl _,Nat.le_refl _,List.length_set,fun i h=>List.getElem?_set_ne (by omega)⟩
  match i,e with
  | 1,e=>rw [List.getElem?_set_ne (by decide)]; exact W'.at_ 1 _ e
  | 2,e=>rw [List.getElem?_set_ne (by decide)]; exact W'.at_ 2 _ e
  | 5,e=>cases e; exact set_at h6
  | 6,e=>rw [List.getElem?_set_ne (by decide)]; exact W'.at_ 6 _ e
  | 7,e=>rw [List.getElem?_set_ne (by decide)]; exact W'.at_ 7 _ e
 have e2:attrPut H "last" (.int (w.L+1:Nat)) (.ref 6)=some (H.set 5 (.attrs (attrsL (w.L+1)))):=bi (bi (W'.at_ 6 _ rfl) (bi h6 rfl)) ((if_pos (by decide)).trans rfl)
 exact ⟨R.of (m:=0) (fun _ _=>[.at (a_last W'),.pt e2,.at (a_last s.wd)]) fun _ _=>by kernel_rfl,s⟩
inductive IsAl (w w':W) (t:String):V→Prop
 | mk {m k:Nat}:w.L < m→m≤w'.L→w'.ns[k]?=some t→w.ns<+:w'.ns→IsAl w w' t (als m (sym k t))
theorem IsAl.mono {w0:W} {v:V} (x:IsAl w w' t v) (l:w0.L≤w.L) (p0:w0.ns<+:w.ns) (l2:w'.L≤w''.L) (p:w'.ns<+:w''.ns):IsAl w0 w'' t v:=by
 cases x with
 | mk a b c d=>exact .mk (Nat.lt_of_le_of_lt l a) (Nat.le_trans b l2) (pre_at p c) (p0.trans (d.trans p))
theorem word_eq (W':Wd H w) (hb:w.ns.length+1≤room) (c:∀ v w' H',R 4 .word_of [.ref 6,.str t] H (v,H')→St1 1 w H w' H'→IsAl w w' t v→q):q:=
 sym_eq W' hb fun k w1 H1 e1 s1 h1=>by
  obtain ⟨e2,s2⟩:=fresh_eq s1.wd
  have e3:R 3 .alias_of [sym k t,rootS,.ref 6] H1 (als (w1.L+1) (sym k t),H1.set 5 (.attrs (attrsL (w1.L+1)))):=R.of (m:=1) (fun C h=>[.cl (cls5 s1.wd),h.a e2]) fun _ _=>by kernel_rfl
  exact c _ _ _ (R.of (m:=2) (fun C h=>[.at (a_tab W'),h.a e1,.at (a_root s1.wd),h.a e3]) fun _ _=>by kernel_rfl) (s1.trans s2) (.mk (Nat.lt_succ_of_le s1.L) (Nat.le_refl _) h1 s1.ns)
end
noncomputable abbrev locN (m:Nat):V := .obj .locName [.int m,.str ""]
noncomputable abbrev glob (v:V):V := .obj .globName [v]
inductive Ch (P:Nat) (H:Hp):V→List (List (Int×V))→Prop
 | root:Ch P H rootS []
 | cons {p:V} {d:Nat} {es:List (Int×V)} {fs:List (List (Int×V))}:H[d]?=some (.dictI es)→9 < d→d≠P→(∀ k v,aget k es=some v→∃ m,v=locN m)→Ch P H p fs→Ch P H (.obj .scope [p,.ref d]) (es::fs)
noncomputable def look:List (List (Int×V))→Int→Option V
 | [],k=>aget k rootEs
 | es::fs,k=>(aget k es).or (look fs k)
noncomputable def flO:Option V→Fl | some v => .ret v | none => .next
inductive keyOf:V→Int→Prop
 | s {j:Nat} {t:String}:keyOf (sym j t) (keyS j)
 | a {m:Nat} {b:V}:keyOf (als m b) (keyA m)
theorem keyS_inj {a b:Nat} (h:keyS a=keyS b):a=b:=Int.ofNat.inj (Int.eq_of_mul_eq_mul_left (by decide) (h:2*(a:Int)=2*(b:Int)))
theorem keyS_A {a b:Nat}:keyS a≠keyA b:=by unfold keyS keyA; omega
theorem root_get:∀ {ts:List String} {i k:Nat},aget (keyS (i+k)) (rootF i ts)=ts[k]?.map spec
 | [],i,k=>rfl
 | t::ts,i,0=>aget_c.trans (if_pos rfl)
 | t::ts,i,k+1=>by
  refine aget_c.trans ((if_neg fun e:keyS i=keyS (i+(k+1))=>Nat.ne_of_lt (Nat.lt_add_of_pos_right (Nat.succ_pos k)) (keyS_inj e)).trans ?_)
  have e:=root_get (ts:=ts) (i:=i+1) (k:=k)
  rw [show i+1+k=i+(k+1) by rw [Nat.add_assoc,Nat.add_comm 1 k]] at e
  exact e
theorem root_odd {m:Nat}:∀ {ts:List String} {i:Nat},aget (keyA m) (rootF i ts)=none
 | [],i=>rfl
 | t::ts,i=>aget_c.trans ((if_neg fun e=>keyS_A e).trans root_odd)
section
variable {P:Nat} {H H':Hp} {w w':W} {sc id:V} {fs:List (List (Int×V))} {key:Int} {k m:Nat} {t:String} {c:Cls} {gs:List V} {q:Prop}
theorem root_look:aget (keyS k) rootEs=words[k]?.map spec:=(congrArg (fun z=>aget (keyS z) rootEs) (Nat.zero_add k).symm).trans (root_get (i:=0))
theorem Ch.obj (h:Ch P H sc fs):∃ p d,sc = .obj .scope [p,.ref d]:=by cases h <;> exact ⟨_,_,rfl⟩
theorem bd_loop {C:Calls} {n:Nat} (hC:Has n C) {a b:V} (W':Wd H w) (h:Ch P H sc fs):∀ e:Sl,∃ ρ,ex C (.whil (st .scope_bound 2).ts (st .scope_bound 2).bd) ([.v a,.v b,.v (.int key),.v sc,e],H)=some (flO (look fs key),ρ,H):=by
 induction h with
 | root=>
  intro e
  have g:=h_gtI (s:=key) (W'.at_ 7 _ rfl)
  by_cases hk:∃ k:Nat,key=keyS k∧k < words.length
  ·obtain ⟨k,rfl,hk⟩:=hk
   have e1:aget (keyS k) rootEs=some (spec words[k]):=by rw [root_look,List.getElem?_eq_getElem hk]; rfl
   rw [e1] at g
   refine ⟨[.v a,.v b,.v (.int (keyS k)),.v rootS,.v (spec words[k])],?_⟩
   show _=some (flO (aget (keyS k) rootEs),_,_)
   rw [e1]
   exact wh_r (H1:=H) (hC.e [] (by kernel_rfl)) (hC.s [.gt g] (by kernel_rfl))
  ·have e1:aget key rootEs=none:=by
    have gen:∀ (ts:List String) (i:Nat),(∀ j:Nat,i≤j→j < i+ts.length→key≠keyS j)→aget key (rootF i ts)=none:=by
     intro ts
     induction ts with
     | nil=>exact fun _ _=>rfl
     | cons t ts ih=>exact fun i hh=>aget_c.trans ((if_neg fun e=>hh i (Nat.le_refl _) (Nat.lt_add_of_pos_right (Nat.succ_pos _)) e.symm).trans (ih (i+1) fun j h1 h2=>hh j (Nat.le_of_succ_le h1) (Nat.lt_of_lt_of_eq h2 (by rw [Nat.add_right_comm]; rfl))))
    exact gen words 0 fun j _ h2 e=>hk ⟨j,e,by rwa [Nat.zero_add] at h2⟩
   rw [e1] at g
   refine ⟨[.v a,.v b,.v (.int key),.v .none,.v .none],?_⟩
   show _=some (flO (aget key rootEs),_,_)
   rw [e1]
   exact wh_t (H1:=H) (s:=([.v a,.v b,.v (.int key),.v .none,.v .none],H)) (hC.e [] (by kernel_rfl)) (hC.s [.gt g] (by kernel_rfl)) (wh_f (hC.e [] (by kernel_rfl)))
 | cons hd h9 hP hv ch ih=>
  rename_i p d es fs
  intro e
  have g:=h_gtI (s:=key) hd
  cases he:aget key es with
  | some v=>
   rw [he] at g
   obtain ⟨m,rfl⟩:=hv _ _ he
   refine ⟨[.v a,.v b,.v (.int key),.v (.obj .scope [p,.ref d]),.v (locN m)],?_⟩
   show _=some (flO ((aget key es).or (look fs key)),_,_)
   rw [he]
   exact wh_r (H1:=H) (hC.e [] (by kernel_rfl)) (hC.s [.gt g] (by kernel_rfl))
  | none=>
   rw [he] at g
   obtain ⟨ρ,ih⟩:=ih (.v .none)
   refine ⟨ρ,?_⟩
   show _=some (flO ((aget key es).or (look fs key)),_,_)
   rw [he]
   exact wh_t (H1:=H) (s:=([.v a,.v b,.v (.int key),.v p,.v .none],H)) (hC.e [] (by kernel_rfl)) (hC.s [.gt g] (by kernel_rfl)) ih
theorem key_eq (h:keyOf id key):R 2 .key_of [id] H (.int key,H):=by cases h <;> exact R.n fun _=>by kernel_rfl
theorem bound_eq (W':Wd H w) (h:Ch P H sc fs) (hk:keyOf id key):R 3 .scope_bound [sc,id] H ((look fs key).getD .none,H):=R.ex (m:=1) fun C hC=>by
 obtain ⟨ρ,e⟩:=bd_loop hC (a:=sc) (b:=id) (key:=key) W' h .undef
 cases hl:look fs key with
 | none=>rw [hl] at e; exact ⟨[hC.a (key_eq (H:=H) hk),.cs (wh_x (x:=st .scope_bound 2) e)],by kernel_rfl⟩
 | some v=>rw [hl] at e; exact ⟨[hC.a (key_eq (H:=H) hk),.cs (wh_x (x:=st .scope_bound 2) e)],by kernel_rfl⟩
theorem find_in (W':Wd H w) (h:Ch P H sc fs) (hk:keyOf id key) (hl:look fs key=some (.obj c gs)):R 4 .scope_find [sc,id] H (.obj c gs,H):=by
 have e:=bound_eq W' h hk
 rw [hl] at e
 obtain ⟨p,d,rfl⟩:=h.obj
 exact R.of (m:=2) (fun C hC=>[hC.a e]) fun _ _=>by kernel_rfl
theorem find_sym (W':Wd H w) (h:Ch P H sc fs) (hl:look fs (keyS k)=none):R 4 .scope_find [sc,sym k t] H (glob (sym k t),H):=by
 have e:=bound_eq W' h (.s (j:=k) (t:=t))
 rw [hl] at e
 obtain ⟨p,d,rfl⟩:=h.obj
 exact R.of (m:=2) (fun C hC=>[hC.a e]) fun _ _=>by kernel_rfl
theorem find_als (W':Wd H w) (h:Ch P H sc fs) (hl:look fs (keyA m)=none) {r:V} (hr:(words[k]?.map spec).getD (glob (sym k t))=r):R 4 .scope_find [sc,als m (sym k t)] H (r,H):=by
 have e:=bound_eq W' h (.a (m:=m) (b:=sym k t))
 have e2:=bound_eq (P:=P) W' .root (.s (j:=k) (t:=t))
 rw [hl] at e
 rw [show look [] (keyS k)=words[k]?.map spec from root_look] at e2
 obtain ⟨p,d,rfl⟩:=h.obj
 subst hr
 cases hw:words[k]? with
 | none=>rw [hw] at e2; exact R.of (m:=2) (fun C hC=>[hC.a e,hC.a e2]) fun _ _=>by kernel_rfl
 | some s=>rw [hw] at e2; exact R.of (m:=2) (fun C hC=>[hC.a e,hC.a e2]) fun _ _=>by kernel_rfl
theorem isid (hk:keyOf id key):R 2 .is_identifier [id] H (.bool true,H):=by cases hk <;> exact R.n fun _=>by kernel_rfl
theorem sw_spec (hk:keyOf id key) (hs:∃ p d,sc = .obj .scope [p,.ref d]) (hf:R 4 .scope_find [sc,id] H (spec t,H)):R 5 .special_word [id,sc] H (.str t,H):=by
 obtain ⟨p,d,rfl⟩:=hs
 exact R.of (m:=3) (fun C hC=>[hC.a (isid (H:=H) hk),hC.a hf]) fun _ _=>by kernel_rfl
theorem sw_loc (hk:keyOf id key) (hs:∃ p d,sc = .obj .scope [p,.ref d]) (hf:R 4 .scope_find [sc,id] H (locN m,H)):R 5 .special_word [id,sc] H (.str "",H):=by
 obtain ⟨p,d,rfl⟩:=hs
 exact R.of (m:=3) (fun C hC=>[hC.a (isid (H:=H) hk),hC.a hf]) fun _ _=>by kernel_rfl
theorem sw_glob {v:V} (hk:keyOf id key) (hs:∃ p d,sc = .obj .scope [p,.ref d]) (hf:R 4 .scope_find [sc,id] H (glob v,H)):R 5 .special_word [id,sc] H (.str "",H):=by
 obtain ⟨p,d,rfl⟩:=hs
 exact R.of (m:=3) (fun C hC=>[hC.a (isid (H:=H) hk),hC.a hf]) fun _ _=>by kernel_rfl
theorem sw_not {v:V} (h:notId v=true):R 5 .special_word [v,sc] H (.str "",H):=R.of (m:=3) (fun C hC=>[hC.a (isid_not (H:=H) h)]) fun _ _=>by kernel_rfl
end
section
variable {P:Nat} {H H':Hp} {w w':W} {sc id x v f t y z:V} {fs:List (List (Int×V))} {key:Int} {k m a b:Nat} {s:String} {q:Prop} {xs ps ns:List V}
theorem rm {k:Nat} (h:Nat.ble k 1000=true):k≤room:=Nat.le_trans (Nat.le_of_ble_eq_true h) (Nat.le_of_ble_eq_true rfl)
theorem St1.bd (x:St1 a w H w' H') (h:w.ns.length+(a+b)≤room):w'.ns.length+b≤room:=Nat.le_trans (Nat.add_le_add_right x.ln b) (Nat.le_trans (Nat.le_of_eq (Nat.add_assoc _ _ _)) h)
theorem bl {n a b:Nat} (h:n+b≤room) (l:Nat.ble a b=true:=by rfl):n+a≤room:=Nat.le_trans (Nat.add_le_add_left (Nat.le_of_ble_eq_true l) n) h
theorem Ch.st (c:Ch P H sc fs) (h:∀ i,8≤i→H'[i]?=H[i]?):Ch P H' sc fs:=by
 induction c with
 | root=>exact .root
 | cons a b c d e ih=>exact .cons ((h _ (Nat.le_of_lt (Nat.lt_trans (by decide) b))).trans a) b c d ih
theorem isw_not (h:notId v=true):R 3 .is_word [v,.str s,sc,.ref 6] H (.bool false,H):=R.of (m:=1) (fun C hC=>[hC.a (isid_not (H:=H) h)]) fun _ _=>by kernel_rfl
theorem isw_eq {r:Bool} {d d2:V} (W':Wd H w) (hb:w.ns.length+1≤room) (hc:Ch P H sc fs) (hk:keyOf v key) (hf:∀ H1,Ch P H1 sc fs→(∀ i,8≤i→H1[i]?=H[i]?)→∀ w1,Wd H1 w1→R 4 .scope_find [sc,v] H1 (d,H1)) (hs:s∉words) (hr:∀ (k:Nat) (w1:W),w.ns<+:w1.ns→w1.ns.Nodup→w1.ns[k]?=some s→∀ H,R 2 .same_denotation [d,glob (sym k s)] H (.bool r,H)) (c:∀ w' H',R 6 .is_word [v,.str s,sc,.ref 6] H (.bool r,H')→St1 1 w H w' H'→q):q:=
 sym_eq (t:=s) W' hb fun k w1 H1 e1 s1 h1=>by
  have hc1:=hc.st s1.hw
  have ew:words[k]?=none:=by
   cases h:words[k]? with
   | none=>rfl
   | some u=>have:=pre_at s1.wd.ws h; rw [h1] at this; cases this; exact absurd (List.mem_of_getElem? h) hs
  have e2:R 4 .scope_find [rootS,sym k s] H1 (glob (sym k s),H1):=find_sym (P:=P) s1.wd .root (by show aget (keyS k) rootEs=none; rw [root_look,ew]; rfl)
  have e3:R 5 .same [v,sc,sym k s,rootS] H1 (.bool r,H1):=by
   obtain ⟨p,d,rfl⟩:=hc.obj
   exact R.of (m:=3) (fun C hC=>[hC.a (hf H1 hc1 s1.hw w1 s1.wd),hC.a e2,hC.a (hr k w1 s1.ns s1.wd.nd h1 H1)]) fun _ _=>by kernel_rfl
  exact c w1 H1 (R.of (m:=4) (fun C hC=>[hC.a (isid (H:=H) hk),.at (a_tab W'),hC.a e1,.at (a_root s1.wd),hC.a e3]) fun _ _=>by kernel_rfl) s1
noncomputable def NW (s:String) (ns:List String) (v:V):Prop:=notId v=true∨∃ k t,v=sym k t∧ns[k]?=some t∧t≠s
theorem nd_eq {l:List String} {i j:Nat} {a:String} (h:l.Nodup) (hi:l[i]?=some a) (hj:l[j]?=some a):i=j:=(List.getElem?_inj (lt_at hi) h).mp (hi.trans hj.symm)
theorem NW.mono {l l':List String} (h:NW s l v) (p:l<+:l'):NW s l' v:=h.imp id fun ⟨k,t,e,g,n⟩=>⟨k,t,e,pre_at p g,n⟩
theorem look_cases (hc:Ch P H sc fs) (h:look fs key=some v):(∃ m,v=locN m)∨∃ t,v=spec t:=by
 induction hc with
 | root=>
  have gen:∀ (ts:List String) (i:Nat),aget key (rootF i ts)=some v→∃ t,v=spec t:=by
   intro ts
   induction ts with
   | nil=>exact fun i h=>nomatch h
   | cons t ts ih=>
    intro i h
    have h:=aget_c.symm.trans h
    by_cases e:keyS i=key
    ·rw [if_pos e] at h; cases h; exact ⟨t,rfl⟩
    ·rw [if_neg e] at h; exact ih _ h
  exact .inr (gen _ _ h)
 | cons a b c d e ih=>
  rename_i es fs
  have h:(aget key es).or (look fs key)=some v:=h
  cases g:aget key es with
  | some u=>rw [g] at h; cases h; exact .inl (d _ _ g)
  | none=>rw [g] at h; exact ih h
theorem isw_f (W':Wd H w) (hb:w.ns.length+1≤room) (hc:Ch P H sc fs) (hs:s∉words) (h:NW s w.ns v) (c:∀ w' H',R 6 .is_word [v,.str s,sc,.ref 6] H (.bool false,H')→St1 1 w H w' H'→q):q:=by
 rcases h with h | ⟨k,t,rfl,g,n⟩
 ·exact c w H ((isw_not h).le (by decide)) ((St1.refl W').up (Nat.zero_le _))
 ·cases hl:look fs (keyS k) with
  | none=>
   refine isw_eq (r:=false) (d2:=sc) W' hb hc .s (fun H1 c1 _ w1 W1=>find_sym W1 c1 hl) hs (fun j w1 p nd hj H=>?_) c
   have e:((k:Int) == (j:Int))=false:=beq_eq_false_iff_ne.mpr fun e=>n (by
    have e:k=j:=Int.ofNat.inj e
    have:=pre_at p g
    rw [e,hj] at this; cases this; rfl)
   exact e▸R.n fun _=>by kernel_rfl
  | some d=>
   rcases look_cases hc hl with ⟨j,rfl⟩ | ⟨j,rfl⟩
   ·exact isw_eq (r:=false) (d2:=sc) W' hb hc .s (fun H1 c1 _ w1 W1=>find_in W1 c1 .s hl) hs (fun j w1 p nd hj H=>R.n fun _=>by kernel_rfl) c
   ·exact isw_eq (r:=false) (d2:=sc) W' hb hc .s (fun H1 c1 _ w1 W1=>find_in W1 c1 .s hl) hs (fun j w1 p nd hj H=>R.n fun _=>by kernel_rfl) c
theorem isw_t (W':Wd H w) (hb:w.ns.length+1≤room) (hc:Ch P H sc fs) (hs:s∉words) (g:w.ns[k]?=some s) (hl:look fs (keyS k)=none) (c:∀ w' H',R 6 .is_word [sym k s,.str s,sc,.ref 6] H (.bool true,H')→St1 1 w H w' H'→q):q:=
 isw_eq (r:=true) (d2:=sc) W' hb hc .s (fun H1 c1 _ w1 W1=>find_sym W1 c1 hl) hs (fun j w1 p nd hj H=>by
  cases nd_eq nd (pre_at p g) hj
  have e:((k:Int) == (k:Int))=true:=beq_self_eq_true _
  exact e▸R.n fun _=>by kernel_rfl) c
theorem lt_len {l:Int} (h:l≤xs.length):cmpV H .lt (.int (((x::xs).length:Int) - 1)) (.int l)=some (.bool false):=congrArg (fun b=>some (V.bool b)) (decide_eq_false (Int.not_lt.mpr (Int.le_trans h (Int.le_of_eq i1s.symm))))
theorem things_eq {l:Int} (hl:(x::xs).length≤room) (h:l≤xs.length):R 3 .things_of [mk (x::xs) .empty,.int l] H (.lst xs,H):=R.of (m:=1) (fun C hC=>[hC.a (split_eq (H:=H) hl),.cm (lt_len (H:=H) (x:=x) h)]) fun _ _=>by kernel_rfl
theorem inner_eq (hl:xs.length≤room):R 3 .inner_list [mk xs .empty,f] H (.lst xs,H):=R.of (m:=1) (fun C hC=>[hC.a (split_eq (H:=H) hl)]) fun _ _=>by kernel_rfl
theorem binds0:R 4 .bindings_of [.empty,f] H (.tup [.lst [],.lst []],H):=R.of (m:=2) (fun C hC=>[hC.a (inner_eq (H:=H) (f:=f) (xs:=[]) (rm rfl))]) fun _ _=>by kernel_rfl
theorem binds1 {n p:V} (hn:keyOf n key):R 4 .bindings_of [mk [mk [n,p] .empty] .empty,f] H (.tup [.lst [n],.lst [p]],H):=R.of (m:=2) (fun C hC=>[hC.a (inner_eq (H:=H) (f:=f) (xs:=[mk [n,p] .empty]) (rm rfl)),hC.a (inner_eq (H:=H) (f:=f) (xs:=[n,p]) (rm rfl)),hC.a (isid (H:=H) hn),.ln (xs:=[]) (rm rfl),.ln (xs:=[]) (rm rfl)]) fun _ _=>by kernel_rfl
theorem binds2 {n p n2 p2:V} {key2:Int} (hn:keyOf n key) (hn2:keyOf n2 key2):R 4 .bindings_of [mk [mk [n,p] .empty,mk [n2,p2] .empty] .empty,f] H (.tup [.lst [n,n2],.lst [p,p2]],H):=R.of (m:=2) (fun C hC=>[hC.a (inner_eq (H:=H) (f:=f) (xs:=[mk [n,p] .empty,mk [n2,p2] .empty]) (rm rfl)),hC.a (inner_eq (H:=H) (f:=f) (xs:=[n,p]) (rm rfl)),hC.a (isid (H:=H) hn),.ln (xs:=[]) (rm rfl),.ln (xs:=[]) (rm rfl),hC.a (inner_eq (H:=H) (f:=f) (xs:=[n2,p2]) (rm rfl)),hC.a (isid (H:=H) hn2),.ln (xs:=[n]) (rm rfl),.ln (xs:=[p]) (rm rfl)]) fun _ _=>by kernel_rfl
theorem choice_eq (W':Wd H w) (hb:w.ns.length+1≤room) (c:∀ a w' H',R 5 .choice [.ref 6,t,y,z] H (mk [a,t,y,z] .empty,H')→St1 1 w H w' H'→IsAl w w' "if" a→q):q:=
 word_eq W' hb fun a w1 H1 e s i=>c a w1 H1 (R.of (m:=3) (fun C hC=>[hC.a e,hC.a (list_eq (H:=H1) (xs:=[a,t,y,z]) (t := .empty) (rm rfl))]) fun _ _=>by kernel_rfl) s i
theorem proc_eq (hl:xs.length≤room) (W':Wd H w) (hb:w.ns.length+1≤room) (c:∀ l w' H',R 5 .procedure [.ref 6,f,.lst xs] H (mk (l::f::xs) .empty,H')→St1 1 w H w' H'→IsAl w w' "lambda" l→q):q:=
 word_eq W' hb fun a w1 H1 e s i=>c a w1 H1 (R.of (m:=3) (fun C hC=>[hC.a e,hC.a (list_eq (H:=H1) (xs:=xs) (t := .empty) hl)]) fun _ _=>by kernel_rfl) s i
theorem kept_eq {n:V} (W':Wd H w) (hb:w.ns.length+1≤room) (c:∀ l w' H',R 6 .kept [.ref 6,n,x,y] H (mk [mk [l,mk [n] .empty,y] .empty,x] .empty,H')→St1 1 w H w' H'→IsAl w w' "lambda" l→q):q:=
 proc_eq (f:=mk [n] .empty) (xs:=[y]) (rm rfl) W' hb fun l w1 H1 e s i=>c l w1 H1 (R.of (m:=4) (fun C hC=>[hC.a (list_eq (H:=H) (xs:=[n]) (t := .empty) (rm rfl)),hC.a e,hC.a (list_eq (H:=H1) (xs:=[mk [l,mk [n] .empty,y] .empty,x]) (t := .empty) (rm rfl))]) fun _ _=>by kernel_rfl) s i
inductive IsSeq (w w':W):List V→V→Prop
 | one {p:V}:w.L≤w'.L→w.ns<+:w'.ns→IsSeq w w' [p] p
 | row {ps:List V} {a:V}:ps.length≠1→IsAl w w' "begin" a→IsSeq w w' ps (mk (a::ps) .empty)
theorem len_is {n:Int} {b:Bool} (h:decide ((xs.length:Int)=n)=b):cmpV H .eq (.int xs.length) (.int n)=some (.bool b):=congrArg (fun b=>some (V.bool b)) h
theorem seq_eq (hl:ps.length≤room) (W':Wd H w) (hb:w.ns.length+1≤room) (c:∀ v w' H',R 5 .sequence [.ref 6,.lst ps] H (v,H')→St1 1 w H w' H'→IsSeq w w' ps v→q):q:=by
 by_cases h:ps.length=1
 ·obtain ⟨p,rfl⟩:=List.length_eq_one_iff.mp h
  exact c p w H (R.of (m:=3) (fun C hC=>[.cm (len_is (H:=H) (xs:=[p]) (n:=1) rfl)]) fun _ _=>by kernel_rfl) ((St1.refl W').up (Nat.zero_le _)) (.one (Nat.le_refl _) (List.prefix_refl _))
 ·have e0:=len_is (H:=H) (xs:=ps) (n:=1) (b:=false) (decide_eq_false fun e=>h (Int.ofNat.inj e))
  exact word_eq W' hb fun a w1 H1 e s i=>c _ w1 H1 (R.of (m:=3) (fun C hC=>[.cm e0,hC.a e,hC.a (list_eq (H:=H1) (xs:=ps) (t := .empty) hl)]) fun _ _=>by kernel_rfl) s (.row h i)
end
inductive AndF (w:W):W→List V→V→Prop
 | one {p:V}:AndF w w [p] p
 | cons {w1 w2:W} {ps:List V} {v a p:V}:AndF w w1 ps v→IsAl w1 w2 "if" a→AndF w w2 (p::ps) (mk [a,p,v,.bool false] .empty)
inductive OrF (w:W):W→List V→V→Prop
 | one {p:V}:OrF w w [p] p
 | cons {w1 w2 w3 w4:W} {ps:List V} {v k a l p:V}:OrF w w1 ps v→IsAl w1 w2 "kept" k→IsAl w2 w3 "if" a→IsAl w3 w4 "lambda" l→OrF w w4 (p::ps) (mk [mk [l,mk [k] .empty,mk [a,k,k,v] .empty] .empty,p] .empty)
section
variable {P:Nat} {H H':Hp} {w w':W} {sc id x v f t y z:V} {fs:List (List (Int×V))} {key:Int} {k m a b:Nat} {s:String} {q:Prop} {xs ps ns:List V}
theorem and_0:R 5 .do_and [mk [x] .empty,sc,.ref 6] H (.bool true,H):=R.of (m:=3) (fun C h=>[h.a (things_eq (H:=H) (x:=x) (xs:=[]) (l:=0) (rm rfl) (Int.natCast_nonneg _))]) fun _ _=>by kernel_rfl
theorem and_eq (W':Wd H w) (hb:w.ns.length+2≤room) (hl:ps.length≤3) (hn:ps≠[]) (c:∀ v w' H',R 6 .do_and [mk (x::ps) .empty,sc,.ref 6] H (v,H')→St1 2 w H w' H'→AndF w w' ps v→q):q:=by
 match ps,hl,hn with
 | [p],_,_=>exact c p w H (R.of (m:=4) (fun C h=>[h.a (things_eq (H:=H) (x:=x) (xs:=[p]) (l:=0) (rm rfl) (Int.natCast_nonneg _))]) fun _ _=>by kernel_rfl) ((St1.refl W').up (by decide)) .one
 | [p,r],_,_=>
  exact choice_eq (t:=p) (y:=r) (z := .bool false) W' (bl hb) fun a w1 H1 e s i=>c _ w1 H1 (R.of (m:=4) (fun C h=>[h.a (things_eq (H:=H) (x:=x) (xs:=[p,r]) (l:=0) (rm rfl) (Int.natCast_nonneg _)),h.a e]) fun _ _=>by kernel_rfl) (s.up (by decide)) (.cons .one i)
 | [p,r,u],_,_=>
  exact choice_eq (t:=r) (y:=u) (z := .bool false) W' (bl hb) fun a w1 H1 e s i=>choice_eq (t:=p) (y:=mk [a,r,u,.bool false] .empty) (z := .bool false) s.wd (s.bd hb) fun a2 w2 H2 e2 s2 i2=>c _ w2 H2 (R.of (m:=4) (fun C h=>[h.a (things_eq (H:=H) (x:=x) (xs:=[p,r,u]) (l:=0) (rm rfl) (Int.natCast_nonneg _)),h.a e,h.a e2]) fun _ _=>by kernel_rfl) (s.trans s2) (.cons (.cons .one i) i2)
 | _::_::_::_::_,hl,_=>simp at hl
theorem or_step {p:V} (W':Wd H w) (hb:w.ns.length+3≤room) (c:∀ k a l w1 w2 w' H1 H2 H',R 4 .word_of [.ref 6,.str "kept"] H (k,H1)→R 5 .choice [.ref 6,k,k,v] H1 (mk [a,k,k,v] .empty,H2)→R 6 .kept [.ref 6,k,p,mk [a,k,k,v] .empty] H2 (mk [mk [l,mk [k] .empty,mk [a,k,k,v] .empty] .empty,p] .empty,H')→IsAl w w1 "kept" k→IsAl w1 w2 "if" a→IsAl w2 w' "lambda" l→St1 3 w H w' H'→q):q:=
 word_eq W' (bl hb) fun k w1 H1 e s i=>choice_eq (t:=k) (y:=k) (z:=v) s.wd (s.bd (b:=1) (bl hb)) fun a w2 H2 e2 s2 i2=>kept_eq (n:=k) (x:=p) (y:=mk [a,k,k,v] .empty) s2.wd ((s.trans s2).bd hb) fun l w3 H3 e3 s3 i3=>c k a l w1 w2 w3 H1 H2 H3 e e2 e3 i i2 i3 ((s.trans s2).trans s3)
theorem or_0:R 5 .do_or [mk [x] .empty,sc,.ref 6] H (.bool false,H):=R.of (m:=3) (fun C h=>[h.a (things_eq (H:=H) (x:=x) (xs:=[]) (l:=0) (rm rfl) (Int.natCast_nonneg _))]) fun _ _=>by kernel_rfl
theorem or_eq (W':Wd H w) (hb:w.ns.length+6≤room) (hl:ps.length≤3) (hn:ps≠[]) (c:∀ v w' H',R 7 .do_or [mk (x::ps) .empty,sc,.ref 6] H (v,H')→St1 6 w H w' H'→OrF w w' ps v→q):q:=by
 match ps,hl,hn with
 | [p],_,_=>exact c p w H (R.of (m:=5) (fun C h=>[h.a (things_eq (H:=H) (x:=x) (xs:=[p]) (l:=0) (rm rfl) (Int.natCast_nonneg _))]) fun _ _=>by kernel_rfl) ((St1.refl W').up (by decide)) .one
 | [p,r],_,_=>
  exact or_step (p:=p) (v:=r) W' (bl hb) fun k a l _ _ w3 H1 H2 H3 e e2 e3 i i2 i3 s=>c _ w3 H3 (R.of (m:=5) (fun C h=>[h.a (things_eq (H:=H) (x:=x) (xs:=[p,r]) (l:=0) (rm rfl) (Int.natCast_nonneg _)),h.a e,h.a e2,h.a e3]) fun _ _=>by kernel_rfl) (s.up (by decide)) (.cons .one i i2 i3)
 | [p,r,u],_,_=>
  exact or_step (p:=r) (v:=u) W' (bl hb) fun k a l _ _ w3 H1 H2 H3 e e2 e3 i i2 i3 s=>or_step (p:=p) (v:=mk [mk [l,mk [k] .empty,mk [a,k,k,u] .empty] .empty,r] .empty) s.wd (s.bd hb) fun k' a' l' _ _ w6 H4 H5 H6 e4 e5 e6 i4 i5 i6 s'=>c _ w6 H6 (R.of (m:=5) (fun C h=>[h.a (things_eq (H:=H) (x:=x) (xs:=[p,r,u]) (l:=0) (rm rfl) (Int.natCast_nonneg _)),h.a e,h.a e2,h.a e3,h.a e4,h.a e5,h.a e6]) fun _ _=>by kernel_rfl) (s.trans s') (.cons (.cons .one i i2 i3) i4 i5 i6)
 | _::_::_::_::_,hl,_=>simp at hl
theorem len2 (h:1≤xs.length):(2:Int)≤(y::xs).length:=Int.ofNat_le.mpr (Nat.succ_le_succ h)
theorem let_eq {bs:V} (W':Wd H w) (hb:w.ns.length+1≤room) (hi:notId bs=true) (hbs:∀ f,R 4 .bindings_of [bs,f] H (.tup [.lst ns,.lst ps],H)) (h2:ns.length≤100∧ps.length≤100) (hl:1≤xs.length) (hl2:xs.length≤100) (c:∀ l w' H',R 6 .do_let [mk (x::bs::xs) .empty,sc,.ref 6] H (mk (mk (l::mk ns .empty::xs) .empty::ps) .empty,H')→St1 1 w H w' H'→IsAl w w' "lambda" l→q):q:=
 proc_eq (f:=mk ns .empty) (xs:=xs) (Nat.le_trans hl2 (rm rfl)) W' hb fun l w1 H1 e s i=>c l w1 H1 (R.of (m:=4) (fun C h=>[h.a (things_eq (H:=H) (x:=x) (xs:=bs::xs) (l:=2) (Nat.le_trans (Nat.add_le_add_right hl2 2) (rm rfl)) (len2 hl)),h.a (isid_not (H:=H) hi),h.a (hbs (mk (x::bs::xs) .empty)),h.a (list_eq (H:=H) (xs:=ns) (t := .empty) (Nat.le_trans h2.1 (rm rfl))),h.a e,h.a (list_eq (H:=H1) (xs:=ps) (t := .empty) (Nat.le_trans h2.2 (rm rfl)))]) fun _ _=>by kernel_rfl) s i
theorem named_eq {tg n p bd:V} {key2:Int} (W':Wd H w) (hb:w.ns.length+2≤room) (ht:keyOf tg key) (hn:keyOf n key2) (c:∀ l r w1 w' H',R 6 .do_let [mk [x,tg,mk [mk [n,p] .empty] .empty,bd] .empty,sc,.ref 6] H (mk [mk [r,mk [mk [tg,mk [l,mk [n] .empty,bd] .empty] .empty] .empty,tg] .empty,p] .empty,H')→St1 2 w H w' H'→IsAl w w1 "lambda" l→IsAl w1 w' "letrec" r→q):q:=
 proc_eq (f:=mk [n] .empty) (xs:=[bd]) (rm rfl) W' (bl hb) fun l w1 H1 e s i=>word_eq (t := "letrec") s.wd (s.bd hb) fun r w2 H2 e2 s2 i2=>c l r w1 w2 H2 (R.of (m:=4) (fun C h=>[h.a (things_eq (H:=H) (x:=x) (xs:=[tg,mk [mk [n,p] .empty] .empty,bd]) (l:=2) (rm rfl) (len2 (Nat.succ_le_succ (Nat.zero_le _)))),h.a (isid (H:=H) ht),h.a (binds1 (H:=H) (p:=p) (f:=mk [x,tg,mk [mk [n,p] .empty] .empty,bd] .empty) hn),h.a (list_eq (H:=H) (xs:=[n]) (t := .empty) (rm rfl)),h.a e,h.a (list_eq (H:=H1) (xs:=[tg,mk [l,mk [n] .empty,bd] .empty]) (t := .empty) (rm rfl)),h.a e2,h.a (list_eq (H:=H2) (xs:=[mk [tg,mk [l,mk [n] .empty,bd] .empty] .empty]) (t := .empty) (rm rfl)),h.a (list_eq (H:=H2) (xs:=[r,mk [mk [tg,mk [l,mk [n] .empty,bd] .empty] .empty] .empty,tg]) (t := .empty) (rm rfl)),h.a (list_eq (H:=H2) (xs:=[p]) (t := .empty) (rm rfl))]) fun _ _=>by kernel_rfl) (s.trans s2) i i2
theorem star0_eq (W':Wd H w) (hb:w.ns.length+1≤room) (hl:1≤xs.length) (hl2:xs.length≤100) (c:∀ l w' H',R 6 .do_let_star [mk (x :: .empty::xs) .empty,sc,.ref 6] H (mk [mk (l :: .empty::xs) .empty] .empty,H')→St1 1 w H w' H'→IsAl w w' "lambda" l→q):q:=
 proc_eq (f := .empty) (xs:=xs) (Nat.le_trans hl2 (rm rfl)) W' hb fun l w1 H1 e s i=>c l w1 H1 (R.of (m:=4) (fun C h=>[h.a (things_eq (H:=H) (x:=x) (xs := .empty::xs) (l:=2) (Nat.le_trans (Nat.add_le_add_right hl2 2) (rm rfl)) (len2 hl)),h.a (binds0 (H:=H) (f:=mk (x :: .empty::xs) .empty)),h.a e,h.a (list_eq (H:=H1) (xs:=[mk (l :: .empty::xs) .empty]) (t := .empty) (rm rfl))]) fun _ _=>by kernel_rfl) s i
theorem star1_eq {n p:V} (W':Wd H w) (hb:w.ns.length+1≤room) (hn:keyOf n key) (hl:1≤xs.length) (hl2:xs.length≤100) (c:∀ l w' H',R 6 .do_let_star [mk (x::mk [mk [n,p] .empty] .empty::xs) .empty,sc,.ref 6] H (mk [mk (l::mk [n] .empty::xs) .empty,p] .empty,H')→St1 1 w H w' H'→IsAl w w' "lambda" l→q):q:=
 proc_eq (f:=mk [n] .empty) (xs:=xs) (Nat.le_trans hl2 (rm rfl)) W' hb fun l w1 H1 e s i=>c l w1 H1 (R.of (m:=4) (fun C h=>[h.a (things_eq (H:=H) (x:=x) (xs:=mk [mk [n,p] .empty] .empty::xs) (l:=2) (Nat.le_trans (Nat.add_le_add_right hl2 2) (rm rfl)) (len2 hl)),h.a (binds1 (H:=H) (p:=p) (f:=mk (x::mk [mk [n,p] .empty] .empty::xs) .empty) hn),h.a (list_eq (H:=H) (xs:=[n]) (t := .empty) (rm rfl)),h.a e,h.a (list_eq (H:=H1) (xs:=[mk (l::mk [n] .empty::xs) .empty,p]) (t := .empty) (rm rfl)),.r3 (x := -1) (y := -1) (by decide)]) fun _ _=>by kernel_rfl) s i
theorem star2_eq {n p n2 p2:V} {key2:Int} (W':Wd H w) (hb:w.ns.length+2≤room) (hn:keyOf n key) (hn2:keyOf n2 key2) (hl:1≤xs.length) (hl2:xs.length≤100) (c:∀ l l2 w1 w' H',R 6 .do_let_star [mk (x::mk [mk [n,p] .empty,mk [n2,p2] .empty] .empty::xs) .empty,sc,.ref 6] H (mk [mk [l2,mk [n] .empty,mk [mk (l::mk [n2] .empty::xs) .empty,p2] .empty] .empty,p] .empty,H')→St1 2 w H w' H'→IsAl w w1 "lambda" l→IsAl w1 w' "lambda" l2→q):q:=
 proc_eq (f:=mk [n2] .empty) (xs:=xs) (Nat.le_trans hl2 (rm rfl)) W' (bl hb) fun l w1 H1 e s i=>proc_eq (f:=mk [n] .empty) (xs:=[mk [mk (l::mk [n2] .empty::xs) .empty,p2] .empty]) (rm rfl) s.wd (s.bd hb) fun l2 w2 H2 e2 s2 i2=>c l l2 w1 w2 H2 (R.of (m:=4) (fun C h=>[h.a (things_eq (H:=H) (x:=x) (xs:=mk [mk [n,p] .empty,mk [n2,p2] .empty] .empty::xs) (l:=2) (Nat.le_trans (Nat.add_le_add_right hl2 2) (rm rfl)) (len2 hl)),h.a (binds2 (H:=H) (p:=p) (p2:=p2) (f:=mk (x::mk [mk [n,p] .empty,mk [n2,p2] .empty] .empty::xs) .empty) hn hn2),h.a (list_eq (H:=H) (xs:=[n2]) (t := .empty) (rm rfl)),h.a e,h.a (list_eq (H:=H1) (xs:=[mk (l::mk [n2] .empty::xs) .empty,p2]) (t := .empty) (rm rfl)),.r3 (x:=0) (y := -1) (by decide),h.a (list_eq (H:=H1) (xs:=[n]) (t := .empty) (rm rfl)),h.a e2,h.a (list_eq (H:=H2) (xs:=[mk [l2,mk [n] .empty,mk [mk (l::mk [n2] .empty::xs) .empty,p2] .empty] .empty,p]) (t := .empty) (rm rfl))]) fun _ _=>by kernel_rfl) (s.trans s2) i i2
theorem rec_eq {tg p b:V} (W':Wd H w) (hb:w.ns.length+3≤room) (ht:keyOf tg key) (c:∀ l d l2 w1 w2 w' H',R 6 .do_letrec [mk [x,mk [mk [tg,p] .empty] .empty,b] .empty,sc,.ref 6] H (mk [mk [l2,.empty,mk [d,tg,p] .empty,mk [mk [l,.empty,b] .empty] .empty] .empty] .empty,H')→St1 3 w H w' H'→IsAl w w1 "lambda" l→IsAl w1 w2 "define" d→IsAl w2 w' "lambda" l2→q):q:=
 proc_eq (f := .empty) (xs:=[b]) (rm rfl) W' (bl hb) fun l w1 H1 e s i=>word_eq (t := "define") s.wd (s.bd (b:=1) (bl hb)) fun d w2 H2 e2 s2 i2=>proc_eq (f := .empty) (xs:=[mk [d,tg,p] .empty,mk [mk [l,.empty,b] .empty] .empty]) (rm rfl) s2.wd ((s.trans s2).bd hb) fun l2 w3 H3 e3 s3 i3=>c l d l2 w1 w2 w3 H3 (R.of (m:=4) (fun C h=>[h.a (things_eq (H:=H) (x:=x) (xs:=[mk [mk [tg,p] .empty] .empty,b]) (l:=2) (rm rfl) (len2 (Nat.succ_le_succ (Nat.zero_le _)))),h.a (binds1 (H:=H) (p:=p) (f:=mk [x,mk [mk [tg,p] .empty] .empty,b] .empty) ht),h.a e,h.a (list_eq (H:=H1) (xs:=[mk [l,.empty,b] .empty]) (t := .empty) (rm rfl)),h.a e2,h.a (list_eq (H:=H2) (xs:=[d,tg,p]) (t := .empty) (rm rfl)),h.a e3,h.a (list_eq (H:=H3) (xs:=[mk [l2,.empty,mk [d,tg,p] .empty,mk [mk [l,.empty,b] .empty] .empty] .empty]) (t := .empty) (rm rfl))]) fun _ _=>by kernel_rfl) ((s.trans s2).trans s3) i i2 i3
end
set_option genCtorIdx true
inductive CK where
 | test (s y:V) (ys:List V) | bare (s:V) | arrow (s:V) (k:Nat) (f:V) | els (k:Nat) (y:V) (ys:List V)
noncomputable def CK.xs:CK→List V
 | .test s y ys=>s::y::ys
 | .bare s=>[s]
 | .arrow s k f=>[s,sym k "=>",f]
 | .els k y ys=>sym k "else"::y::ys
noncomputable def CK.val (c:CK):V:=mk c.xs .empty
noncomputable def isN:V→Bool | .none=>true | _=>false
noncomputable def beh:V→V | .none => .unspec | v=>v
noncomputable def CondF (w w':W) (cs:List CK) (v:V):Prop:=cs.rec (motive:=fun _=>W→V→Prop) (fun w' v=>w'=w∧v = .none) (fun c cs ih w' v=>c.rec (motive:=fun _=>Prop)
 (fun t y ys=>∀ C:V→Prop,(∀ {w1 w2:W} {u s a:V},ih w1 u→IsSeq w1 w2 (y::ys) s→IsAl w2 w' "if" a→C (mk [a,t,s,beh u] .empty))→C v)
 (fun t=>∀ C:V→Prop,(cs=[]→w.L≤w'.L→w.ns<+:w'.ns→C t)→(∀ {w1 w2 w3:W} {u k a l:V},ih w1 u→isN u=false→IsAl w1 w2 "kept" k→IsAl w2 w3 "if" a→IsAl w3 w' "lambda" l→C (mk [mk [l,mk [k] .empty,mk [a,k,k,u] .empty] .empty,t] .empty))→C v)
 (fun t _ f=>∀ C:V→Prop,(∀ {w1 w2 w3:W} {u k a l:V},ih w1 u→IsAl w1 w2 "kept" k→IsAl w2 w3 "if" a→IsAl w3 w' "lambda" l→C (mk [mk [l,mk [k] .empty,mk [a,k,mk [f,k] .empty,beh u] .empty] .empty,t] .empty))→C v)
 (fun _ y ys=>∃ w1,w.L≤w1.L∧w.ns<+:w1.ns∧IsSeq w1 w' (y::ys) v)) w' v
inductive CC (ns:List String) (fs:List (List (Int×V))) (last:Prop):CK→Prop
 | test {s y:V} {ys:List V}:NW "else" ns s→NW "=>" ns y→ys.length≤100→CC ns fs last (.test s y ys)
 | bare {s:V}:NW "else" ns s→isN s=false→CC ns fs last (.bare s)
 | arrow {s f:V} {k:Nat}:NW "else" ns s→ns[k]?=some "=>"→look fs (keyS k)=none→CC ns fs last (.arrow s k f)
 | els {k:Nat} {y:V} {ys:List V}:last→ns[k]?=some "else"→look fs (keyS k)=none→isN y=false→ys.length≤100→CC ns fs last (.els k y ys)
section
variable {P:Nat} {H H':Hp} {w w0 wF w':W} {sc id x v f t y z:V} {fs:List (List (Int×V))} {key:Int} {k m a b:Nat} {s:String} {q:Prop} {xs ps ns ys:List V} {c:CK} {cs:List CK} {last:Prop}
theorem CC.mono {l l':List String} (h:CC l fs last c) (p:l<+:l'):CC l' fs last c:=by
 cases h with
 | test a b c=>exact .test (a.mono p) (b.mono p) c
 | bare a b=>exact .bare (a.mono p) b
 | arrow a b c=>exact .arrow (a.mono p) (pre_at p b) c
 | els a b c d e=>exact .els a (pre_at p b) c d e
theorem isn:cmpV H .is v .none=some (.bool (isN v)):=by cases v <;> rfl
theorem isnF {b:Bool} (h:isN v=b):cmpV H .is v .none=some (.bool b):=h▸isn
theorem beh_or:(isN v=true∧beh v = .unspec)∨(isN v=false∧beh v=v):=by cases v <;> first | exact .inr ⟨rfl,rfl⟩ | exact .inl ⟨rfl,rfl⟩
theorem isN_of (h:isN v=true):v = .none:=by cases v <;> first | rfl | cases h
theorem hun {n:Nat} (h:n≤100) (k:Nat:=3) (l:Nat.ble k 900=true:=by rfl):n+k≤room:=Nat.le_trans (Nat.add_le_add h (Nat.le_of_ble_eq_true l)) (rm rfl)
theorem IsSeq.mono (x:IsSeq w w' ps v) (l:w0.L≤w.L) (p:w0.ns<+:w.ns):IsSeq w0 w' ps v:=by
 cases x with
 | one a b=>exact .one (Nat.le_trans l a) (p.trans b)
 | row h i=>exact .row h (i.mono l p (Nat.le_refl _) (List.prefix_refl _))
theorem IsAl.low (x:IsAl w w' s v) (l:w0.L≤w.L) (p:w0.ns<+:w.ns):IsAl w0 w' s v:=x.mono l p (Nat.le_refl _) (List.prefix_refl _)
theorem clause_eq (F:CondF w0 wF cs v) (hv:cs=[]∨isN v=false) (l:wF.L≤w.L) (p:wF.ns<+:w.ns) (W':Wd H w) (hb:w.ns.length+4≤room) (hc:Ch P H sc fs) (h:CC w.ns fs False c) (g:∀ v' w' H',R 8 .cond_clause [c.val,v,f,sc,.ref 6] H (v',H')→St1 4 w H w' H'→CondF w0 w' (c::cs) v'→isN v'=false→q):q:=by
 cases h with
 | bare h1 h2=>
  rename_i t
  cases hn:isN v with
  | true=>
   cases isN_of hn
   rcases hv with rfl | hv
   ·obtain ⟨rfl,_⟩:=F
    exact g t w H (R.of (m:=6) (fun C h=>[h.a (inner_eq (H:=H) (xs:=[t]) (f:=f) (rm rfl)),.cm (isn (H:=H) (v := .none))]) fun _ _=>by kernel_rfl) ((St1.refl W').up (Nat.zero_le _)) (fun _ c _=>c rfl l p) h2
   ·cases hv
  | false=>
   exact or_step (p:=t) (v:=v) W' (bl hb) fun k a l' w1 w2 w3 H1 H2 H3 e e2 e3 i i2 i3 s=>g _ w3 H3 (R.of (m:=6) (fun C h=>[h.a (inner_eq (H:=H) (xs:=[t]) (f:=f) (rm rfl)),.cm (isnF (H:=H) hn),h.a e,h.a e2,h.a e3]) fun _ _=>by kernel_rfl) (s.up (by decide)) (fun _ _ c=>c F hn (i.low l p) i2 i3) rfl
 | arrow h1 h2 h3=>
  rename_i t f' k
  exact isw_t (s := "=>") W' (bl hb) hc (by decide) h2 h3 fun w1 H1 e1 s1=>word_eq (t := "kept") s1.wd (s1.bd (b:=1) (bl hb)) fun k' w2 H2 e2 s2 i2=>choice_eq (t:=k') (y:=mk [f',k'] .empty) (z:=beh v) s2.wd ((s1.trans s2).bd (b:=1) (bl hb)) fun a w3 H3 e3 s3 i3=>kept_eq (n:=k') (x:=t) (y:=mk [a,k',mk [f',k'] .empty,beh v] .empty) s3.wd (((s1.trans s2).trans s3).bd hb) fun l' w4 H4 e4 s4 i4=>g _ w4 H4 (by
   rcases beh_or (v:=v) with ⟨b1,b2⟩ | ⟨b1,b2⟩ <;> rw [b2] at e3 e4 ⊢ <;> exact R.of (m:=6) (fun C h=>[h.a (inner_eq (H:=H) (xs:=[t,sym k "=>",f']) (f:=f) (rm rfl)),.cm (isnF (H:=H) b1),h.a e1,h.a e2,h.a (list_eq (H:=H2) (xs:=[f',k']) (t := .empty) (rm rfl)),h.a e3,h.a e4]) fun _ _=>by kernel_rfl) (((s1.trans s2).trans s3).trans s4) (fun _ c=>c F (i2.low (Nat.le_trans l s1.L) (p.trans s1.ns)) i3 i4) rfl
 | test h1 h2 h3=>
  rename_i t y ys
  exact isw_f (s := "=>") W' (bl hb) hc (by decide) h2 fun w1 H1 e1 s1=>seq_eq (ps:=y::ys) (hun h3 1) s1.wd (s1.bd (b:=1) (bl hb)) fun r w2 H2 e2 s2 i2=>choice_eq (t:=t) (y:=r) (z:=beh v) s2.wd ((s1.trans s2).bd (b:=1) (bl hb)) fun a w3 H3 e3 s3 i3=>g _ w3 H3 (by
   rcases beh_or (v:=v) with ⟨b1,b2⟩ | ⟨b1,b2⟩ <;> rw [b2] at e3 ⊢ <;> exact R.of (m:=6) (fun C h=>[h.a (inner_eq (H:=H) (xs:=t::y::ys) (f:=f) (hun h3 2)),.cm (isnF (H:=H) b1),h.a e1,h.a e2,h.a e3]) fun _ _=>by kernel_rfl) (((s1.trans s2).trans s3).up (by decide)) (fun _ c=>c F (i2.mono (Nat.le_trans l s1.L) (p.trans s1.ns)) i3) rfl
 | els h=>exact h.elim
theorem gt0:cmpV H .gt (.int (x::xs).length) (.int 0)=some (.bool true):=congrArg (fun b=>some (V.bool b)) (decide_eq_true (Int.ofNat_lt.mpr (Nat.succ_pos _)))
theorem lt2:cmpV H .lt (.int (x::y::xs).length) (.int 2)=some (.bool false):=congrArg (fun b=>some (V.bool b)) (decide_eq_false (Int.not_lt.mpr (Int.ofNat_le.mpr (Nat.le_add_left 2 _))))
theorem nek {n:Nat} (h:k+1=n):cmpV H .ne (.int k) (.int ((n:Int) - 1))=some (.bool false):=by
 subst h
 rw [i1s]
 exact congrArg (fun b=>some (V.bool !b)) (beq_self_eq_true (k:Int))
theorem drop_at {α:Type} {cs:List α} {c:α} (h:cs[k]?=some c):cs.drop k=c::cs.drop (k+1):=by
 have hk:=lt_at h
 rw [List.drop_eq_getElem_cons hk]
 rw [List.getElem?_eq_getElem hk] at h
 cases h; rfl
theorem map_at {α:Type} {g:α→V} {cs:List α} {c:α} (h:cs[k]?=some c):(cs.map g)[k]?=some (g c):=by rw [List.getElem?_map,h]; rfl
theorem cond_step {n:Nat} (W':Wd H w) (hb:w.ns.length+(5+n)≤room) (hc:Ch P H sc fs) (hl:cs.length≤100) (hk:cs[k]?=some c) (h:CC w.ns fs (k+1=cs.length) c) (F:CondF w0 w (cs.drop (k+1)) v) (hv:k+1=cs.length∨isN v=false) (g:∀ v' w' H',(∀ C,Has 8 C→∀ b,exs C (st .do_cond 2).bd ([.v f,.v sc,.v (.ref 6),.v (.lst (cs.map CK.val)),.v v,.v (.int k),b],H)=some (.next,[.v f,.v sc,.v (.ref 6),.v (.lst (cs.map CK.val)),.v v',.v (.int k),.v (.lst c.xs)],H'))→CondF w0 w' (cs.drop k) v'→isN v'=false→St1 5 w H w' H'→q):q:=by
 have ix:=fun H=>idx_nat (H:=H) (map_at (g:=CK.val) hk) ((List.length_map _).symm▸hun hl 0)
 have hb5:w.ns.length+5≤room:=Nat.le_trans (Nat.add_le_add_left (Nat.le_add_right _ _) _) hb
 have dr:=drop_at hk
 rw [dr] at g
 have nil:k+1=cs.length→cs.drop (k+1)=[]:=fun e=>by rw [e,List.drop_length]
 have gen:∀ t' ys',c.xs=t'::ys'→(t'::ys').length≤room→NW "else" w.ns t'→(∀ l,CC l fs (k+1=cs.length) c→CC l fs False c)→q:=fun t' ys' ex hlen nw hC=>
  isw_f (s := "else") W' (bl hb5) hc (by decide) nw fun w1 H1 e1 s1=>clause_eq (f:=f) F (hv.imp nil id) s1.L s1.ns s1.wd (s1.bd hb5) (hc.st s1.hw) (hC _ (h.mono s1.ns)) fun v' w2 H2 e2 s2 F2 n2=>g v' w2 H2 (fun C hC b=>by
   have e2':R 8 .cond_clause [mk c.xs .empty,v,f,sc,.ref 6] H1 (v',H2):=e2
   have ix':∀ H,idxV H (.lst (cs.map CK.val)) (.int k)=some (mk c.xs .empty):=ix
   rw [ex] at ix' e2' ⊢
   exact hC.s [.ix (ix' H),hC.a (inner_eq (H:=H) (xs:=t'::ys') (f:=f) hlen),.cm (gt0 (H:=H) (x:=t') (xs:=ys')),hC.a e1,.ix (ix' H1),hC.a e2'] (by kernel_rfl)) F2 n2 (s1.trans s2)
 cases h with
 | els h1 h2 h3 h4 h5=>
  rename_i j y ys
  rw [nil h1] at F g
  obtain ⟨rfl,rfl⟩:=F
  exact isw_t (s := "else") W' (bl hb5) hc (by decide) h2 h3 fun w1 H1 e1 s1=>seq_eq (ps:=y::ys) (hun h5 1) s1.wd (s1.bd (b:=1) (bl hb5)) fun r w2 H2 e2 s2 i2=>g r w2 H2 (fun C hC b=>hC.s [.ix (ix H),hC.a (inner_eq (H:=H) (xs:=sym j "else"::y::ys) (f:=f) (hun h5 2)),.cm (gt0 (H:=H) (x:=sym j "else") (xs:=y::ys)),hC.a e1,.cm (nek (H:=H1) (n:=(cs.map CK.val).length) (h1.trans (List.length_map _).symm)),.cm (lt2 (H:=H1) (x:=sym j "else") (y:=y) (xs:=ys)),hC.a e2] (by kernel_rfl)) ⟨_,s1.L,s1.ns,i2⟩ (by cases i2 <;> first | exact h4 | rfl) ((s1.trans s2).up (by decide))
 | bare h1 h2=>exact gen _ _ rfl (rm rfl) h1 fun _ h=>by cases h with | bare a b=>exact .bare a b
 | arrow h1 h2 h3=>exact gen _ _ rfl (rm rfl) h1 fun _ h=>by cases h with | arrow a b c=>exact .arrow a b c
 | test h1 h2 h3=>exact gen _ _ rfl (hun h3 2) h1 fun _ h=>by cases h with | test a b c=>exact .test a b c
theorem cond_loop (hl:cs.length≤100):∀ (k:Nat),k≤cs.length→∀ {v:V} {w:W} {H:Hp},(∀ i c,cs[i]?=some c→CC w.ns fs (i+1=cs.length) c)→CondF w0 w (cs.drop k) v→(k=cs.length∨isN v=false)→Wd H w→w.ns.length+5*k≤room→Ch P H sc fs →
  (∀ v' w' H',(∀ C,Has 8 C→∀ a b,∃ a' b',FB C [5] (st .do_cond 2).bd (downTo ((k:Int) - 1) k) ([.v f,.v sc,.v (.ref 6),.v (.lst (cs.map CK.val)),.v v,a,b],H)=some (.next,[.v f,.v sc,.v (.ref 6),.v (.lst (cs.map CK.val)),.v v',a',b'],H'))→CondF w0 w' cs v'→St1 (5*k) w H w' H'→q)→q
 | 0,_,v,w,H,hC,F,hn,W',hb,hc,g=>g v w H (fun C _ a b=>⟨a,b,fb_n⟩) F (St1.refl W')
 | k+1,hk,v,w,H,hC,F,hn,W',hb,hc,g=>by
  have hkc:=List.getElem?_eq_getElem (l:=cs) (i:=k) hk
  have hb':w.ns.length+(5+5*k)≤room:=Nat.add_comm 5 (5*k)▸hb
  exact cond_step (f:=f) W' hb' hc hl hkc (hC _ _ hkc) F hn fun v1 w1 H1 e1 F1 n1 s1=>cond_loop hl k (Nat.le_of_succ_le hk) (fun i c h=>(hC i c h).mono s1.ns) F1 (.inr n1) s1.wd (s1.bd hb') (hc.st s1.hw) fun v' w' H' e F s=>g v' w' H' (fun C hC a b=>by
   obtain ⟨a',b',e⟩:=e C hC (.v (.int k)) (.v (.lst cs[k].xs))
   rw [i1s]
   exact ⟨a',b',fb_c (e1 C hC b) e⟩) F ((s1.trans s).up (Nat.le_of_eq (Nat.add_comm 5 (5*k))))
theorem cond_eq (W':Wd H w) (hb:w.ns.length+5*cs.length≤room) (hc:Ch P H sc fs) (hl:cs.length≤100) (h1:1≤cs.length) (hC:∀ i c,cs[i]?=some c→CC w.ns fs (i+1=cs.length) c) (g:∀ v w' H',R 9 .do_cond [mk (x::cs.map CK.val) .empty,sc,.ref 6] H (v,H')→CondF w w' cs v→St1 (5*cs.length) w H w' H'→q):q:=
 cond_loop (f:=mk (x::cs.map CK.val) .empty) (w0:=w) hl cs.length (Nat.le_refl _) hC (by rw [List.drop_length]; exact ⟨rfl,rfl⟩) (.inl rfl) W' hb hc fun v w' H' e F s=>g v w' H' (R.ex (m:=7) fun C hC=>by
  obtain ⟨a,b,e⟩:=e C hC .undef .undef
  have len:(cs.map CK.val).length=cs.length:=List.length_map _
  have hi:evI C [.v (mk (x::cs.map CK.val) .empty),.v sc,.v (.ref 6),.v (.lst (cs.map CK.val)),.v .none,.undef,.undef] (st .do_cond 2).it H=some (downTo (((cs.map CK.val).length:Int) - 1) ((((cs.map CK.val).length:Int) - 1) - -1).toNat,H):=hC.i [.r3 (x:=((cs.map CK.val).length:Int) - 1) (y := -1) (r3n (by rw [len]; exact hun hl 0))] (by kernel_rfl)
  rw [r3t,len] at hi
  exact ⟨[hC.a (things_eq (H:=H) (x:=x) (xs:=cs.map CK.val) (l:=1) (Nat.le_trans (Nat.succ_le_succ (Nat.le_of_eq len)) (hun hl 1)) (Int.ofNat_le.mpr (Nat.le_trans h1 (Nat.le_of_eq len.symm)))),.cs (for_x hi e)],by kernel_rfl⟩) F s
end
inductive KK where
 | cl (ds:List V) (y:V) (ys:List V) | els (k:Nat) (y:V) (ys:List V)
noncomputable def KK.xs:KK→List V
 | .cl ds y ys=>mk ds .empty::y::ys
 | .els k y ys=>sym k "else"::y::ys
noncomputable def KK.val (c:KK):V:=mk c.xs .empty
noncomputable def CaseF (k:V) (w w':W) (cs:List KK) (v:V):Prop:=cs.rec (motive:=fun _=>W→V→Prop) (fun w' v=>w'=w∧v = .unspec) (fun c _ ih w' v=>c.rec (motive:=fun _=>Prop) (fun ds y ys=>∀ C:V→Prop,(∀ {w1 w2 w3 w4:W} {u o m s a:V},ih w1 u→IsAl w1 w2 "quote" o→IsAl w2 w3 "%memv" m→IsSeq w3 w4 (y::ys) s→IsAl w4 w' "if" a→C (mk [a,mk [m,k,mk [o,mk ds .empty] .empty] .empty,s,u] .empty))→C v) fun _ y ys=>∃ w1,w.L≤w1.L∧w.ns<+:w1.ns∧IsSeq w1 w' (y::ys) v) w' v
inductive KC (ns:List String) (fs:List (List (Int×V))) (last:Prop):KK→Prop
 | cl {ds ys:List V} {y:V}:ds.length≤100→ys.length≤100→KC ns fs last (.cl ds y ys)
 | els {k:Nat} {y:V} {ys:List V}:last→ns[k]?=some "else"→look fs (keyS k)=none→ys.length≤100→KC ns fs last (.els k y ys)
inductive DoF (n1 n2 f1 f2 s1 s2 t:V) (told cmds:List V) (w:W):W→V→Prop
 | mk {w1 w2 w3 w4 w5 w6 w':W} {k ag a1 tl a2 l r:V}:IsAl w w1 "turn" k→IsSeq w1 w2 (cmds++[Mine.mk [k,s1,s2] .empty]) ag→IsAl w2 w3 "if" a1→IsSeq w3 w4 (Mine.mk [a1,.bool false,.bool false] .empty::told) tl→IsAl w4 w5 "if" a2→IsAl w5 w6 "lambda" l→IsAl w6 w' "letrec" r→DoF n1 n2 f1 f2 s1 s2 t told cmds w w' (Mine.mk [r,Mine.mk [Mine.mk [k,Mine.mk [l,Mine.mk [n1,n2] .empty,Mine.mk [a2,t,tl,ag] .empty] .empty] .empty] .empty,Mine.mk [k,f1,f2] .empty] .empty)
noncomputable def bnd (n f:V):Option V→List V | some s=>[n,f,s] | none=>[n,f]
section
variable {P:Nat} {H H':Hp} {w w0 wF w':W} {sc id x v f t y z ky pt:V} {fs:List (List (Int×V))} {key:Int} {k m a b:Nat} {s:String} {q:Prop} {xs ps ns ys:List V} {c:KK} {cs:List KK} {last:Prop}
theorem KC.mono {l l':List String} (h:KC l fs last c) (p:l<+:l'):KC l' fs last c:=by
 cases h with
 | cl a b=>exact .cl a b
 | els a b c d=>exact .els a (pre_at p b) c d
theorem ctest_eq (W':Wd H w) (hb:w.ns.length+2≤room) (c:∀ o m w1 w' H',R 5 .case_test [ky,x,.ref 6] H (mk [m,ky,mk [o,x] .empty] .empty,H')→St1 2 w H w' H'→IsAl w w1 "quote" o→IsAl w1 w' "%memv" m→q):q:=
 word_eq (t := "quote") W' (bl hb) fun o w1 H1 e1 s1 i1=>word_eq (t := "%memv") s1.wd (s1.bd hb) fun m w2 H2 e2 s2 i2=>c o m w1 w2 H2 (R.of (m:=3) (fun C h=>[h.a e1,h.a (list_eq (H:=H1) (xs:=[o,x]) (t := .empty) (rm rfl)),h.a e2,h.a (list_eq (H:=H2) (xs:=[m,ky,mk [o,x] .empty]) (t := .empty) (rm rfl))]) fun _ _=>by kernel_rfl) (s1.trans s2) i1 i2
theorem case_step {n:Nat} (W':Wd H w) (hb:w.ns.length+(5+n)≤room) (hc:Ch P H sc fs) (hl:cs.length≤100) (hk:cs[k]?=some c) (h:KC w.ns fs (k+1=cs.length) c) (F:CaseF ky w0 w (cs.drop (k+1)) v) (g:∀ v' w' H',(∀ C,Has 8 C→∀ b,exs C (st .do_case 4).bd ([.v f,.v sc,.v (.ref 6),.v pt,.v (.lst (cs.map KK.val)),.v ky,.v v,.v (.int k),b],H)=some (.next,[.v f,.v sc,.v (.ref 6),.v pt,.v (.lst (cs.map KK.val)),.v ky,.v v',.v (.int k),.v (.lst c.xs)],H'))→CaseF ky w0 w' (cs.drop k) v'→St1 5 w H w' H'→q):q:=by
 have ix:=idx_nat (H:=H) (map_at (g:=KK.val) hk) ((List.length_map _).symm▸hun hl 0)
 have hb5:w.ns.length+5≤room:=Nat.le_trans (Nat.add_le_add_left (Nat.le_add_right _ _) _) hb
 rw [drop_at hk] at g
 cases h with
 | els h1 h2 h3 h4=>
  rename_i j y ys
  rw [show cs.drop (k+1)=[] by rw [h1,List.drop_length]] at F g
  obtain ⟨rfl,rfl⟩:=F
  exact isw_t (s := "else") W' (bl hb5) hc (by decide) h2 h3 fun w1 H1 e1 s1=>seq_eq (ps:=y::ys) (hun h4 1) s1.wd (s1.bd (b:=1) (bl hb5)) fun r w2 H2 e2 s2 i2=>g r w2 H2 (fun C hC b=>hC.s [.ix ix,hC.a (inner_eq (H:=H) (xs:=sym j "else"::y::ys) (f:=f) (hun h4 2)),.cm (lt2 (H:=H) (x:=sym j "else") (y:=y) (xs:=ys)),hC.a e1,.cm (nek (H:=H1) (n:=(cs.map KK.val).length) (h1.trans (List.length_map _).symm)),hC.a e2] (by kernel_rfl)) ⟨_,s1.L,s1.ns,i2⟩ ((s1.trans s2).up (by decide))
 | cl h1 h2=>
  rename_i ds ys y
  have nm:notId (mk ds .empty)=true:=by cases ds <;> rfl
  exact ctest_eq (ky:=ky) (x:=mk ds .empty) W' (bl hb5) fun o m w1 w2 H2 e2 s2 i1 i2=>seq_eq (ps:=y::ys) (hun h2 1) s2.wd (s2.bd (b:=1) (bl hb5)) fun r w3 H3 e3 s3 i3=>choice_eq (t:=mk [m,ky,mk [o,mk ds .empty] .empty] .empty) (y:=r) (z:=v) s3.wd ((s2.trans s3).bd (b:=1) (bl hb5)) fun a w4 H4 e4 s4 i4=>g _ w4 H4 (fun C hC b=>hC.s [.ix ix,hC.a (inner_eq (H:=H) (xs:=mk ds .empty::y::ys) (f:=f) (hun h2 2)),.cm (lt2 (H:=H) (x:=mk ds .empty) (y:=y) (xs:=ys)),hC.a (isw_not (H:=H) (sc:=sc) (s := "else") nm),hC.a (inner_eq (H:=H) (xs:=ds) (f:=f) (hun h1 0)),hC.a e2,hC.a e3,hC.a e4] (by kernel_rfl)) (fun _ c=>c F i1 i2 i3 i4) (((s2.trans s3).trans s4).up (by decide))
theorem case_loop (hl:cs.length≤100):∀ (k:Nat),k≤cs.length→∀ {v:V} {w:W} {H:Hp},(∀ i c,cs[i]?=some c→KC w.ns fs (i+1=cs.length) c)→CaseF ky w0 w (cs.drop k) v→Wd H w→w.ns.length+5*k≤room→Ch P H sc fs →
  (∀ v' w' H',(∀ C,Has 8 C→∀ a b,∃ a' b',FB C [7] (st .do_case 4).bd (downTo ((k:Int) - 1) k) ([.v f,.v sc,.v (.ref 6),.v pt,.v (.lst (cs.map KK.val)),.v ky,.v v,a,b],H)=some (.next,[.v f,.v sc,.v (.ref 6),.v pt,.v (.lst (cs.map KK.val)),.v ky,.v v',a',b'],H'))→CaseF ky w0 w' cs v'→St1 (5*k) w H w' H'→q)→q
 | 0,_,v,w,H,hC,F,W',hb,hc,g=>g v w H (fun C _ a b=>⟨a,b,fb_n⟩) F (St1.refl W')
 | k+1,hk,v,w,H,hC,F,W',hb,hc,g=>by
  have hkc:=List.getElem?_eq_getElem (l:=cs) (i:=k) hk
  have hb':w.ns.length+(5+5*k)≤room:=Nat.add_comm 5 (5*k)▸hb
  exact case_step (f:=f) (pt:=pt) W' hb' hc hl hkc (hC _ _ hkc) F fun v1 w1 H1 e1 F1 s1=>case_loop hl k (Nat.le_of_succ_le hk) (fun i c h=>(hC i c h).mono s1.ns) F1 s1.wd (s1.bd hb') (hc.st s1.hw) fun v' w' H' e F s=>g v' w' H' (fun C hC a b=>by
   obtain ⟨a',b',e⟩:=e C hC (.v (.int k)) (.v (.lst cs[k].xs))
   rw [i1s]
   exact ⟨a',b',fb_c (e1 C hC b) e⟩) F ((s1.trans s).up (Nat.le_of_eq (Nat.add_comm 5 (5*k))))
theorem case_eq (W':Wd H w) (hb:w.ns.length+(1+(5*cs.length+1))≤room) (hc:Ch P H sc fs) (hl:cs.length≤98) (h1:1≤cs.length) (hC:∀ i c,cs[i]?=some c→KC w.ns fs (i+1=cs.length) c) (g:∀ k v l w1 w2 w' H',R 9 .do_case [mk (x::ky::cs.map KK.val) .empty,sc,.ref 6] H (mk [mk [l,mk [k] .empty,v] .empty,ky] .empty,H')→IsAl w w1 "kept" k→CaseF k w1 w2 cs v→IsAl w2 w' "lambda" l→St1 (1+(5*cs.length+1)) w H w' H'→q):q:=
 word_eq (t := "kept") W' (Nat.le_trans (Nat.add_le_add_left (Nat.le_add_right 1 _) _) hb) fun k w1 H1 e1 s1 i1=>case_loop (f:=mk (x::ky::cs.map KK.val) .empty) (pt := .lst (ky::cs.map KK.val)) (ky:=k) (w0:=w1) (Nat.le_trans hl (by decide)) cs.length (Nat.le_refl _) (fun i c h=>(hC i c h).mono s1.ns) (by rw [List.drop_length]; exact ⟨rfl,rfl⟩) s1.wd (Nat.le_trans (Nat.add_le_add_left (Nat.le_add_right _ 1) _) (s1.bd hb)) (hc.st s1.hw) fun v w2 H2 e2 F s2=>kept_eq (n:=k) (x:=ky) (y:=v) s2.wd (s2.bd (s1.bd hb)) fun l w3 H3 e3 s3 i3=>g k v l w1 w2 w3 H3 (R.ex (m:=7) fun C hC=>by
  obtain ⟨a,b,e⟩:=e2 C hC .undef .undef
  have len:(cs.map KK.val).length=cs.length:=List.length_map _
  have hi:evI C [.v (mk (x::ky::cs.map KK.val) .empty),.v sc,.v (.ref 6),.v (.lst (ky::cs.map KK.val)),.v (.lst (cs.map KK.val)),.v k,.v .unspec,.undef,.undef] (st .do_case 4).it H1=some (downTo (((cs.map KK.val).length:Int) - 1) ((((cs.map KK.val).length:Int) - 1) - -1).toNat,H1):=hC.i [.r3 (x:=((cs.map KK.val).length:Int) - 1) (y := -1) (r3n (by rw [len]; exact Nat.le_trans hl (rm rfl)))] (by kernel_rfl)
  rw [r3t,len] at hi
  exact ⟨[hC.a (things_eq (H:=H) (x:=x) (xs:=ky::cs.map KK.val) (l:=2) (Nat.le_trans (Nat.succ_le_succ (Nat.succ_le_succ (Nat.le_of_eq len))) (hun (Nat.le_trans hl (by decide)) 2)) (len2 (Nat.le_trans h1 (Nat.le_of_eq len.symm)))),hC.a e1,.cs (for_x hi e),hC.a e3],by kernel_rfl⟩) i1 F i3 ((s1.trans (s2.trans s3)))
theorem step_eq {key2:Int} {n fi:V} {o:Option V} (hn:keyOf n key2):R 3 .step_of [.lst (bnd n fi o),f] H (.tup [n,fi,o.getD n],H):=by
 cases o <;> exact R.of (m:=1) (fun C h=>[h.a (isid (H:=H) hn)]) fun _ _=>by kernel_rfl
theorem bnd_len {n fi:V} {o:Option V}:(bnd n fi o).length≤room:=by cases o <;> exact rm rfl
theorem addl (h:ps.length+xs.length≤room):binV H .add (.lst ps) (.lst xs)=some (.lst (ps++xs)):=if_pos h
theorem do_eq {n1 n2 f1 f2 s1:V} {s2:Option V} {key2:Int} {told cmds:List V} (W':Wd H w) (hb:w.ns.length+7≤room) (hn1:keyOf n1 key) (hn2:keyOf n2 key2) (hto:told.length≤90) (hcm:cmds.length≤90) (g:∀ v w' H',R 7 .do_do [mk (x::mk [mk [n1,f1,s1] .empty,mk (bnd n2 f2 s2) .empty] .empty::mk (t::told) .empty::cmds) .empty,sc,.ref 6] H (v,H')→DoF n1 n2 f1 f2 s1 (s2.getD n2) t told cmds w w' v→St1 7 w H w' H'→q):q:=
 word_eq (t := "turn") W' (bl hb) fun k w1 H1 e1 q1 i1=>seq_eq (ps:=cmds++[mk [k,s1,s2.getD n2] .empty]) (by rw [List.length_append]; exact hun (Nat.le_trans hcm (by decide)) 1) q1.wd (q1.bd (b:=1) (bl hb)) fun ag w2 H2 e2 q2 i2=>word_eq (t := "if") q2.wd ((q1.trans q2).bd (b:=1) (bl hb)) fun a1 w3 H3 e3 q3 i3=>seq_eq (ps:=mk [a1,.bool false,.bool false] .empty::told) (hun (Nat.le_trans hto (by decide)) 1) q3.wd (((q1.trans q2).trans q3).bd (b:=1) (bl hb)) fun tl w4 H4 e4 q4 i4=>choice_eq (t:=t) (y:=tl) (z:=ag) q4.wd ((((q1.trans q2).trans q3).trans q4).bd (b:=1) (bl hb)) fun a2 w5 H5 e5 q5 i5=>proc_eq (f:=mk [n1,n2] .empty) (xs:=[mk [a2,t,tl,ag] .empty]) (rm rfl) q5.wd (((((q1.trans q2).trans q3).trans q4).trans q5).bd (b:=1) (bl hb)) fun l w6 H6 e6 q6 i6=>word_eq (t := "letrec") q6.wd ((((((q1.trans q2).trans q3).trans q4).trans q5).trans q6).bd hb) fun r w7 H7 e7 q7 i7=>g _ w7 H7 (R.of (m:=5) (fun C h=>[h.a (things_eq (H:=H) (x:=x) (xs:=mk [mk [n1,f1,s1] .empty,mk (bnd n2 f2 s2) .empty] .empty::mk (t::told) .empty::cmds) (l:=2) (hun (Nat.le_trans hcm (by decide)) 3) (len2 (Nat.succ_le_succ (Nat.zero_le _)))),
  h.a (inner_eq (H:=H) (xs:=[mk [n1,f1,s1] .empty,mk (bnd n2 f2 s2) .empty]) (f:=mk (x::mk [mk [n1,f1,s1] .empty,mk (bnd n2 f2 s2) .empty] .empty::mk (t::told) .empty::cmds) .empty) (rm rfl)),
  h.a (inner_eq (H:=H) (xs:=[n1,f1,s1]) (f:=mk (x::mk [mk [n1,f1,s1] .empty,mk (bnd n2 f2 s2) .empty] .empty::mk (t::told) .empty::cmds) .empty) (rm rfl)),h.a (step_eq (H:=H) (f:=mk (x::mk [mk [n1,f1,s1] .empty,mk (bnd n2 f2 s2) .empty] .empty::mk (t::told) .empty::cmds) .empty) (fi:=f1) (o:=some s1) hn1),.ln (xs:=[]) (rm rfl),.ln (xs:=[]) (rm rfl),.ln (xs:=[]) (rm rfl),
  h.a (inner_eq (H:=H) (xs:=bnd n2 f2 s2) (f:=mk (x::mk [mk [n1,f1,s1] .empty,mk (bnd n2 f2 s2) .empty] .empty::mk (t::told) .empty::cmds) .empty) bnd_len),h.a (step_eq (H:=H) (f:=mk (x::mk [mk [n1,f1,s1] .empty,mk (bnd n2 f2 s2) .empty] .empty::mk (t::told) .empty::cmds) .empty) (fi:=f2) (o:=s2) hn2),.ln (xs:=[n1]) (rm rfl),.ln (xs:=[f1]) (rm rfl),.ln (xs:=[s1]) (rm rfl),
  h.a (inner_eq (H:=H) (xs:=t::told) (f:=mk (x::mk [mk [n1,f1,s1] .empty,mk (bnd n2 f2 s2) .empty] .empty::mk (t::told) .empty::cmds) .empty) (hun (Nat.le_trans hto (by decide)) 1)),h.a e1,h.a (list_eq (H:=H1) (xs:=[s1,s2.getD n2]) (t := .empty) (rm rfl)),.bi (addl (H:=H1) (ps:=cmds) (xs:=[mk [k,s1,s2.getD n2] .empty]) (hun (Nat.le_trans hcm (by decide)) 1)),h.a e2,h.a e3,h.a (list_eq (H:=H3) (xs:=[a1,.bool false,.bool false]) (t := .empty) (rm rfl)),.bi (addl (H:=H3) (ps:=[mk [a1,.bool false,.bool false] .empty]) (xs:=told) (by rw [Nat.add_comm]; exact hun (Nat.le_trans hto (by decide)) 1)),h.a e4,h.a (list_eq (H:=H4) (xs:=[n1,n2]) (t := .empty) (rm rfl)),h.a e5,h.a e6,h.a (list_eq (H:=H6) (xs:=[k,mk [l,mk [n1,n2] .empty,mk [a2,t,tl,ag] .empty] .empty]) (t := .empty) (rm rfl)),h.a (list_eq (H:=H6) (xs:=[mk [k,mk [l,mk [n1,n2] .empty,mk [a2,t,tl,ag] .empty] .empty] .empty]) (t := .empty) (rm rfl)),h.a e7,h.a (list_eq (H:=H7) (xs:=[f1,f2]) (t := .empty) (rm rfl)),h.a (list_eq (H:=H7) (xs:=[r,mk [mk [k,mk [l,mk [n1,n2] .empty,mk [a2,t,tl,ag] .empty] .empty] .empty] .empty,mk [k,f1,f2] .empty]) (t := .empty) (rm rfl))]) fun _ _=>by kernel_rfl) (.mk i1 i2 i3 i4 i5 i6 i7) ((((((q1.trans q2).trans q3).trans q4).trans q5).trans q6).trans q7)
noncomputable def turner:String→Fn
 | "and" => .do_and | "or" => .do_or | "let" => .do_let | "let*" => .do_let_star | "cond" => .do_cond | "case" => .do_case | "letrec" => .do_letrec | _ => .do_do
theorem turned {wd:String} (hw:wd∈["and", "or", "let", "let*", "cond", "case", "letrec", "do"]) {n:Nat} {r:V×Hp} (e:R (n+1) (turner wd) [f,sc,.ref 6] H r):R (n+2) .law_turned [.str wd,f,sc,.ref 6] H r:=by
 simp only [List.mem_cons,List.not_mem_nil,or_false] at hw
 rcases hw with rfl | rfl | rfl | rfl | rfl | rfl | rfl | rfl <;> exact R.of (m:=n) (fun C h=>[.cc (h.r e)]) fun _ _=>by kernel_rfl
end
set_option genCtorIdx false
structure X where
 HL:Hp
 HR:Hp
 w:W
 pes:List (Int×V)
 told:List Int
inductive VOK:V→Prop
 | int {i:Int}:0≤i→i < 7→VOK (.int i)
 | bool {b:Bool}:VOK (.bool b)
 | unspec:VOK .unspec
inductive Bx (P:Nat) (s:X) (p:Nat×Nat):Prop
 | mk {u:V}:VOK u→s.HL[p.1]?=some (.list [u])→s.HR[p.2]?=some (.list [u])→8 < p.1→9 < p.2→p.2≠P→Bx P s p
structure J (P:Nat) (B:List (Nat×Nat)) (s:X) (N:Nat):Prop where
 s8:s.HL[8]?=some (.list (s.told.map .int))
 wd:Wd s.HR s.w
 pl:s.HR[P]?=some (.dictI s.pes)
 pk:∀ (m:Int) v,aget m s.pes=some v→m≤s.w.L
 td:s.HR[9]?=some (.list (s.told.map .int))
 P9:9 < P
 nn:s.w.ns.length≤N
 pn:s.pes.length≤N
 tn:s.told.length≤N
 box:∀ p∈B,Bx P s p
 inj:∀ p∈B,∀ q∈B,p.1=q.1↔p.2=q.2
structure Po (P:Nat) (B:List (Nat×Nat)) (s s':X):Prop where
 ll:s.HL.length≤s'.HL.length
 lr:s.HR.length≤s'.HR.length
 kl:∀ i,i < s.HL.length→i≠8→(∀ p∈B,i≠p.1)→s'.HL[i]?=s.HL[i]?
 kr:∀ i,i < s.HR.length→9 < i→i≠P→(∀ p∈B,i≠p.2)→s'.HR[i]?=s.HR[i]?
 L:s.w.L≤s'.w.L
 ns:s.w.ns<+:s'.w.ns
 pm:∀ (m:Int) v,aget m s.pes=some v→aget m s'.pes=some v
 k8:s'.HR[8]?=s.HR[8]?
noncomputable def X.st (s:X) (w:W) (H:Hp):X:=⟨s.HL,H,w,s.pes,s.told⟩
noncomputable def X.app (s:X):X:=⟨s.HL,s.HR++[.dictI []],s.w,s.pes,s.told⟩
noncomputable abbrev bdH (s:X) (P d:Nat) (key:Int) (es:List (Int×V)) (v:V) (b:Nat):Hp:=((s.HR.set 5 (.attrs (attrsL (s.w.L+1)))).set d (.dictI (aput key (locN (s.w.L+1)) es))++[AO.list [v]]).set P (.dictI (s.pes++[(((s.w.L+1:Nat):Int),V.ref b)]))
noncomputable def X.bd (s:X) (P d:Nat) (key:Int) (es:List (Int×V)) (v:V):X:=
 ⟨s.HL,bdH s P d key es v s.HR.length,⟨s.w.L+1,s.w.ns⟩,s.pes++[(((s.w.L+1:Nat):Int),V.ref s.HR.length)],s.told⟩
theorem at_l {α:Type} {l t:List α} {i:Nat} (h:i < l.length):(l++t)[i]?=l[i]?:=List.getElem?_append_left h
theorem at_n {α:Type} {l:List α} {a:α}:(l++[a])[l.length]?=some a:=by rw [List.getElem?_append_right (Nat.le_refl _),Nat.sub_self]; rfl
theorem at_s {α:Type} {l:List α} {i j:Nat} {a:α} (h:i≠j):(l.set j a)[i]?=l[i]?:=List.getElem?_set_ne (Ne.symm h)
theorem at_a {α:Type} {l t:List α} {i:Nat} {a:α} (h:l[i]?=some a):(l++t)[i]?=some a:=(at_l (lt_at h)).trans h
theorem aget_app {α:Type} [DecidableEq α] {k k':α} {v:V}:∀ {es:List (α×V)},aget k' (es++[(k,v)])=(aget k' es).or (if k=k' then some v else none)
 | []=>aget_c
 | (a,b)::es=>by
  refine aget_c.trans ?_
  rw [aget_c]
  by_cases h:a=k'
  ·rw [if_pos h,if_pos h]; rfl
  ·rw [if_neg h,if_neg h]; exact aget_app
section
variable {P N N' d:Nat} {B B':List (Nat×Nat)} {s s' s2:X} {es:List (Int×V)} {key:Int} {v p id:V} {H':Hp} {w':W} {b:Nat}
theorem J.up (j:J P B s N) (h:N≤N'):J P B s N':=⟨j.s8,j.wd,j.pl,j.pk,j.td,j.P9,Nat.le_trans j.nn h,Nat.le_trans j.pn h,Nat.le_trans j.tn h,j.box,j.inj⟩
theorem Po.refl:Po P B s s:=⟨Nat.le_refl _,Nat.le_refl _,fun _ _ _ _=>rfl,fun _ _ _ _ _=>rfl,Nat.le_refl _,List.prefix_refl _,fun _ _ h=>h,rfl⟩
theorem Po.tr (x:Po P B s s') (y:Po P B' s' s2) (h:∀ p∈B',p∈B∨(s.HL.length≤p.1∧s.HR.length≤p.2)):Po P B s s2:=
 ⟨Nat.le_trans x.ll y.ll,Nat.le_trans x.lr y.lr,fun i a b c=>(y.kl i (Nat.lt_of_lt_of_le a x.ll) b fun p hp=>(h p hp).elim (c p) fun g=>Nat.ne_of_lt (Nat.lt_of_lt_of_le a g.1)).trans (x.kl i a b c),fun i a b c e=>(y.kr i (Nat.lt_of_lt_of_le a x.lr) b c fun p hp=>(h p hp).elim (e p) fun g=>Nat.ne_of_lt (Nat.lt_of_lt_of_le a g.2)).trans (x.kr i a b c e),Nat.le_trans x.L y.L,x.ns.trans y.ns,fun m v h=>y.pm m v (x.pm m v h),y.k8.trans x.k8⟩
theorem Po.trans (x:Po P B s s') (y:Po P B s' s2):Po P B s s2:=x.tr y fun _ h => .inl h
theorem Bx.lt {q:Nat×Nat} (h:Bx P s q):q.1 < s.HL.length∧q.2 < s.HR.length:=by
 cases h with
 | mk _ a b=>exact ⟨lt_at a,lt_at b⟩
theorem Bx.l9 {q:Nat×Nat} (h:Bx P s q):9 < q.2:=h.rec fun _ _ _ _ h _=>h
theorem Bx.at_ {q:Nat×Nat} (h:Bx P s q) (e1:8 < q.1→q.1 < s.HL.length→s'.HL[q.1]?=s.HL[q.1]?) (e2:9 < q.2→q.2≠P→q.2 < s.HR.length→s'.HR[q.2]?=s.HR[q.2]?):Bx P s' q:=by
 cases h with
 | mk a b c d e f=>exact .mk a ((e1 d (lt_at b)).trans b) ((e2 e f (lt_at c)).trans c) d e f
theorem J.l9 (j:J P B s N):9 < s.HR.length:=lt_at j.td
theorem J.l8 (j:J P B s N):8 < s.HR.length:=Nat.lt_trans (by decide) j.l9
theorem J.lP (j:J P B s N):P < s.HR.length:=lt_at j.pl
theorem J.new (j:J P B s N) {i:Nat} (h:s.w.L < i):aget (i:Int) s.pes=none:=by
 cases e:aget (i:Int) s.pes with
 | none=>rfl
 | some u=>exact absurd (Int.ofNat_le.mp (j.pk _ _ e)) (Nat.not_le_of_gt h)
theorem J.st (j:J P B s N) (q:St1 b s.w s.HR w' H'):J P B (s.st w' H') (N+b):=
 ⟨j.s8,q.wd,(q.hw _ (Nat.le_of_lt (Nat.lt_trans (by decide) j.P9))).trans j.pl,fun m v h=>Int.le_trans (j.pk m v h) (Int.ofNat_le.mpr q.L),(q.hw _ (by decide)).trans j.td,j.P9,Nat.le_trans q.ln (Nat.add_le_add_right j.nn _),Nat.le_trans j.pn (Nat.le_add_right _ _),Nat.le_trans j.tn (Nat.le_add_right _ _),fun p hp=>(j.box p hp).at_ (fun _ _=>rfl) fun h _ _=>q.hw _ (Nat.le_of_lt (Nat.lt_trans (by decide) h)),j.inj⟩
theorem Po.st (q:St1 b s.w s.HR w' H'):Po P B s (s.st w' H'):=⟨Nat.le_refl _,Nat.le_of_eq q.len.symm,fun _ _ _ _=>rfl,fun _ _ h _ _=>q.hw _ (Nat.le_of_lt (Nat.lt_trans (by decide) h)),q.L,q.ns,fun _ _ h=>h,q.hw _ (Nat.le_refl _)⟩
theorem J.app (j:J P B s N):J P B s.app N:=
 ⟨j.s8,j.wd.of fun _ _ h=>at_l (Nat.lt_trans h (Nat.lt_trans (by decide) j.l9)),at_a j.pl,j.pk,at_a j.td,j.P9,j.nn,j.pn,j.tn,fun p hp=>(j.box p hp).at_ (fun _ _=>rfl) fun _ _ h=>at_l h,j.inj⟩
theorem Po.app (h8:8 < s.HR.length):Po P B s s.app:=⟨Nat.le_refl _,by show _≤(s.HR++_).length; rw [List.length_append]; exact Nat.le_add_right _ _,fun _ _ _ _=>rfl,fun _ h _ _ _=>at_l h,Nat.le_refl _,List.prefix_refl _,fun _ _ h=>h,at_l h8⟩
theorem app_len:s.app.HR.length=s.HR.length+1:=List.length_append
theorem bd_len:(s.bd P d key es v).HR.length=s.HR.length+1:=by
 show (List.set _ _ _).length=_
 rw [List.length_set,List.length_append,List.length_set,List.length_set]; rfl
theorem bd_at1 {i:Nat} (h:i < s.HR.length) (hd:i≠d) (hP:i≠P):(s.bd P d key es v).HR[i]?=(s.HR.set 5 (.attrs (attrsL (s.w.L+1))))[i]?:=by
 refine (at_s hP).trans ((at_l ?_).trans (at_s hd))
 rw [List.length_set,List.length_set]; exact h
theorem bd_at {i:Nat} (h:i < s.HR.length) (hd:i≠d) (hP:i≠P) (h6:9 < i):(s.bd P d key es v).HR[i]?=s.HR[i]?:=(bd_at1 h hd hP).trans (at_s (Nat.ne_of_gt (Nat.lt_trans (by decide) h6)))
theorem bd_d (h:d < s.HR.length) (hP:d≠P):(s.bd P d key es v).HR[d]?=some (.dictI (aput key (locN (s.w.L+1)) es)):=by
 refine (at_s hP).trans ((at_l ?_).trans (List.getElem?_set_self ?_)) <;> simp only [List.length_set] <;> exact h
theorem bd_n (hP:P < s.HR.length):(s.bd P d key es v).HR[s.HR.length]?=some (.list [v]):=by
 have e:s.HR.length=((s.HR.set 5 (.attrs (attrsL (s.w.L+1)))).set d (.dictI (aput key (locN (s.w.L+1)) es))).length:=by rw [List.length_set,List.length_set]
 refine (at_s (Nat.ne_of_gt hP)).trans ?_
 rw [e]; exact at_n
theorem J.bd (j:J P B s N) (h9:9 < d) (hP:d≠P) (hB:∀ p∈B,p.2≠d):J P B (s.bd P d key es v) (N+1):=by
 have l9:=j.l9
 have hlP:=j.lP
 refine ⟨j.s8,(fresh_eq j.wd).2.wd.of fun i _ h=>bd_at1 (Nat.lt_trans h (Nat.lt_trans (by decide) l9)) (Nat.ne_of_lt (Nat.lt_trans h (Nat.lt_trans (by decide) h9))) (Nat.ne_of_lt (Nat.lt_trans h (Nat.lt_trans (by decide) j.P9))),List.getElem?_set_self ?_,fun m u h=>?_,?_,j.P9,Nat.le_succ_of_le j.nn,?_,Nat.le_succ_of_le j.tn,fun p hp=>(j.box p hp).at_ (fun _ _=>rfl) fun h h' h2=>bd_at h2 (hB p hp) h' h,j.inj⟩
 ·rw [List.length_append,List.length_set,List.length_set]; exact Nat.lt_succ_of_lt hlP
 ·have h:=aget_app.symm.trans h
  cases e:aget m s.pes with
  | some x=>exact Int.le_trans (j.pk m x e) (Int.ofNat_le.mpr (Nat.le_succ _))
  | none=>
   rw [e] at h
   by_cases c:((s.w.L+1:Nat):Int)=m
   ·exact Int.le_of_eq c.symm
   ·have h:(if ((s.w.L+1:Nat):Int)=m then _ else none)=some u:=h
    rw [if_neg c] at h; cases h
 ·exact (bd_at1 l9 (Nat.ne_of_lt h9) (Nat.ne_of_lt j.P9)).trans ((at_s (by decide)).trans j.td)
 ·exact Nat.le_trans (Nat.le_of_eq List.length_append) (Nat.succ_le_succ j.pn)
theorem Po.bd (j:J P B s N) (x:Po P B s2 s) (h:s2.HR.length≤d) (h9:8 < d):Po P B s2 (s.bd P d key es v):=
 ⟨x.ll,Nat.le_trans x.lr (by rw [bd_len]; exact Nat.le_succ _),x.kl,fun i a b c e=>(bd_at (Nat.lt_of_lt_of_le a x.lr) (Nat.ne_of_lt (Nat.lt_of_lt_of_le a h)) c b).trans (x.kr i a b c e),Nat.le_succ_of_le x.L,x.ns,fun m v h=>by
  show aget m (_++_)=_
  rw [aget_app,x.pm m v h]; rfl,(bd_at1 (Nat.lt_trans (by decide) j.l9) (Nat.ne_of_lt h9) (Nat.ne_of_lt (Nat.lt_trans (by decide) j.P9))).trans ((at_s (by decide)).trans x.k8)⟩
theorem sb_eq (hk:keyOf id key) (he:s.HR[d]?=some (.dictI es)) (hl:es.length≤room):R 3 .scope_bind [.obj .scope [p,.ref d],id,v] s.HR (.none,s.HR.set d (.dictI (aput key v es))):=R.of (m:=1) (fun _ h=>[h.a (key_eq (H:=s.HR) hk),.st (h_stI (s:=key) (v:=v) he hl)]) fun _ _=>by kernel_rfl
theorem bd_run (j:J P B s N) (hN:N+1≤room) (hk:keyOf id key) (he:s.HR[d]?=some (.dictI es)) (h9:9 < d) (hP:d≠P) (hl:es.length≤room):R 4 .law_bind [id,v,.obj .scope [p,.ref d],.ref P,.ref 6] s.HR (.none,(s.bd P d key es v).HR):=by
 have f:=(fresh_eq j.wd).1
 have he':(s.HR.set 5 (.attrs (attrsL (s.w.L+1))))[d]?=some (.dictI es):=(at_s (Nat.ne_of_gt (Nat.lt_trans (by decide) h9))).trans he
 have e2:=sb_eq (s:=s.st s.w (s.HR.set 5 (.attrs (attrsL (s.w.L+1))))) (p:=p) (v:=locN (s.w.L+1)) hk he' hl
 have pP:((s.HR.set 5 (.attrs (attrsL (s.w.L+1)))).set d (.dictI (aput key (locN (s.w.L+1)) es))++[AO.list [v]])[P]?=some (.dictI s.pes):=at_a ((at_s (Ne.symm hP)).trans ((at_s (Nat.ne_of_gt (Nat.lt_trans (by decide) j.P9))).trans j.pl))
 have nw:=j.new (Nat.lt_succ_self s.w.L)
 have e3:=h_stI (s:=((s.w.L+1:Nat):Int)) (v := .ref ((s.HR.set 5 (.attrs (attrsL (s.w.L+1)))).set d (.dictI (aput key (locN (s.w.L+1)) es))).length) pP (Nat.le_trans j.pn (Nat.le_of_succ_le hN))
 rw [aput_new nw] at e3
 have q:R 4 .law_bind [id,v,.obj .scope [p,.ref d],.ref P,.ref 6] s.HR (.none,bdH s P d key es v ((s.HR.set 5 (.attrs (attrsL (s.w.L+1)))).set d (.dictI (aput key (locN (s.w.L+1)) es))).length):=R.of (m:=2) (fun _ h=>[.cl (cls5 j.wd),h.a f,h.a e2,.st e3]) fun _ _=>by kernel_rfl
 rw [List.length_set,List.length_set] at q
 exact q
end
noncomputable abbrev rs (P:Nat) (y sc:V) (t:List Sl):List Sl := .v y :: .v sc :: .v (.ref P) :: .v (.ref 6) :: .v (.ref 9)::t
noncomputable def Rn (P n:Nat) (y sc:V) (H:Hp) (r:V×Hp):Prop:=∀ C,Has n C→∀ a b c d e f,finR (ex C (st .law_run 0) (rs P y sc [a,b,c,d,e,f],H))=some r
noncomputable abbrev runA (P:Nat) (y sc:V):List V:=[y,sc,.ref P,.ref 6,.ref 9]
noncomputable abbrev RB:Ss:=(st .law_run 0).bd
noncomputable abbrev RO:=Option V×List Sl×Nat×Hp
noncomputable def ro (q:Fl×St):RO:=match q.1 with
 | .ret v=>(some v,[],0,q.2.2)
 | .next=>(none,q.2.1.take 5,q.2.1.length,q.2.2)
noncomputable def lo {C:Calls} (x:Option ((Fl×St)×List (Ans C)×List (Key×Key))):Option (RO×List Key):=x.elim none fun q=>some (ro q.1,q.2.2.map (·.1))
noncomputable def ro2 {C:Calls} (r:RO) (x:Option ((Fl×St)×List (Ans C)×List (Key×Key))):Option (RO×List Key):=x.elim (some (r,[])) fun q=>some (r,q.2.2.map (·.2))
theorem loE {C:Calls} {x:Option ((Fl×St)×List (Ans C)×List (Key×Key))} {r:RO} {q:Prop} (h:lo x=ro2 r x) (k:∀ g t L,x=some (g,t,L)→Al L→ro g=r→q):q:=by
 cases x with
 | none=>cases h
 | some p=>
  injection h with h
  injection h with h1 h2
  exact k p.1 p.2.1 p.2.2 rfl (al_of h2) h1
section
variable {P n m k:Nat} {H H1 H2 H3:Hp} {y y' sc sc' v c u:V} {as:List V} {r:V×Hp} {wd:String}
theorem Rn.le {n':Nat} (h:Rn P n y sc H r) (l:n≤n'):Rn P n' y sc H r:=fun C hC=>h C ⟨fun r=>hC.r (r.le l),hC.n⟩
theorem Rn.run (h:Rn P (n+1) y sc H r):R (n+2) .law_run (runA P y sc) H r:=fun m l=>by
 cases m with
 | zero=>exact absurd l (Nat.not_succ_le_zero _)
 | succ m=>
  have h:=h (rn m) (has (Nat.le_of_succ_le_succ l) (Nat.le_trans (Nat.succ_le_succ (Nat.zero_le n)) (Nat.le_of_succ_le_succ l))) .undef .undef .undef .undef .undef .undef
  refine Eq.trans ?_ h
  show finR (thenF (ex (rn m) (st .law_run 0) (rs P y sc [.undef,.undef,.undef,.undef,.undef,.undef],H)) fun s=>some (.next,s))=_
  cases ex (rn m) (st .law_run 0) (rs P y sc [.undef,.undef,.undef,.undef,.undef,.undef],H) with
  | none=>rfl
  | some q=>obtain ⟨f,s⟩:=q; cases f <;> rfl
theorem wh1 {C:Calls} {s:St}:ex C (st .law_run 0) s=thenF (exs C RB s) (ex C (st .law_run 0)):=wh.trans rfl
theorem wh2 {C:Calls} {s:St} {g:Fl×St} (h:exs C RB s=some g):finR (ex C (st .law_run 0) s)=finR (thenF (some g) (ex C (st .law_run 0))):=congrArg finR (wh1.trans (congrArg (thenF · _) h))
theorem ro_r {C:Calls} {g:Fl×St} (h:ro g=(some v,[],0,H1)):finR (thenF (some g) (ex C (st .law_run 0)))=some (v,H1):=by
 obtain ⟨fl,s⟩:=g
 cases fl with
 | next=>cases h
 | ret u=>cases h; rfl
theorem cons_of {α:Type} {n:Nat} {l:List α} (h:l.length=n+1):∃ a t,l=a::t∧t.length=n:=by
 cases l with
 | nil=>cases h
 | cons a t=>exact ⟨a,t,rfl,Nat.succ.inj h⟩
theorem ro_n {C:Calls} {g:Fl×St} (h:ro g=(none,rs P y sc [],11,H1)) (hk:∀ t,t.length=6→finR (ex C (st .law_run 0) (rs P y sc t,H1))=some r):finR (thenF (some g) (ex C (st .law_run 0)))=some r:=by
 obtain ⟨fl,ρ,H⟩:=g
 cases fl with
 | ret u=>cases h
 | next=>
  injection h with _ h
  injection h with h1 h
  injection h with h2 h3
  have e:ρ=rs P y sc (ρ.drop 5):=(List.take_append_drop 5 ρ).symm.trans (congrArg (·++ρ.drop 5) h1)
  have e2:=hk (ρ.drop 5) (by rw [List.length_drop]; exact congrArg (· - 5) h2)
  rw [← e] at e2
  exact (congrArg (fun H=>finR (ex C (st .law_run 0) (ρ,H))) h3).trans e2
theorem rn_r (t:∀ C,Has n C→List (Ans C)) (h:∀ C (hC:Has n C) a b c d e f,lo (ssT C RB (rs P y sc [a,b,c,d,e,f]) H (t C hC))=ro2 (some v,[],0,H1) (ssT C RB (rs P y sc [a,b,c,d,e,f]) H (t C hC))):Rn P n y sc H (v,H1):=fun C hC a b c d e f=>loE (h C hC a b c d e f) fun _ _ _ hx l e=>(wh2 (ssT_ok hC.n RB hx l)).trans (ro_r e)
theorem rn_n (t:∀ C,Has n C→List (Ans C)) (h:∀ C (hC:Has n C) a b c d e f,lo (ssT C RB (rs P y sc [a,b,c,d,e,f]) H (t C hC))=ro2 (none,rs P y' sc' [],11,H1) (ssT C RB (rs P y sc [a,b,c,d,e,f]) H (t C hC))) (hk:Rn P n y' sc' H1 r):Rn P n y sc H r:=fun C hC a b c d e f=>loE (h C hC a b c d e f) fun _ _ _ hx l e=>(wh2 (ssT_ok hC.n RB hx l)).trans (ro_n e fun t ht=>by
 obtain ⟨a,t,rfl,h1⟩:=cons_of ht
 obtain ⟨b,t,rfl,h2⟩:=cons_of h1
 obtain ⟨c,t,rfl,h3⟩:=cons_of h2
 obtain ⟨d,t,rfl,h4⟩:=cons_of h3
 obtain ⟨e,t,rfl,h5⟩:=cons_of h4
 obtain ⟨f,t,rfl,h6⟩:=cons_of h5
 cases List.length_eq_zero_iff.mp h6
 exact hk C hC a b c d e f)
theorem lk5 {a:Nat} (h:Nat.ble a 5=true:=by rfl):a≤k+5:=Nat.le_trans (Nat.le_of_ble_eq_true h) (Nat.le_add_left 5 k)
noncomputable def isAt:V→Bool | .int _=>true | .bool _=>true | .unspec=>true | _=>false
theorem rn_at (h:isAt y=true):Rn P (k+5) y sc H (y,H):=by
 cases y with
 | int i=>exact rn_r (fun C hC=>[hC.a (isid_not (H:=H) (v := .int i) rfl) lk5]) fun _ _ _ _ _ _ _ _=>by kernel_rfl
 | bool b=>exact rn_r (fun C hC=>[hC.a (isid_not (H:=H) (v := .bool b) rfl) lk5]) fun _ _ _ _ _ _ _ _=>by kernel_rfl
 | unspec=>exact rn_r (fun C hC=>[hC.a (isid_not (H:=H) (v := .unspec) rfl) lk5]) fun _ _ _ _ _ _ _ _=>by kernel_rfl
 | _=>cases h
theorem rn_loc {key:Int} {b:Nat} {pes:List (Int×V)} (hk:keyOf y key) (hs:∃ p d,sc = .obj .scope [p,.ref d]) (hf:R 4 .scope_find [sc,y] H (locN m,H)) (hP:H[P]?=some (.dictI pes)) (hm:aget (m:Int) pes=some (.ref b)) (hb:H[b]?=some (.list [v])):Rn P (k+5) y sc H (v,H):=by
 obtain ⟨p,d,rfl⟩:=hs
 exact rn_r (fun C hC=>[hC.a (isid (H:=H) hk) lk5,hC.a hf lk5,.ix (h_ixI hP hm),.ix (h_ix0 hb)]) fun _ _ _ _ _ _ _ _=>by kernel_rfl
theorem rn_glob {key:Int} {t:String} (hk:keyOf y key) (hs:∃ p d,sc = .obj .scope [p,.ref d]) (hf:R 4 .scope_find [sc,y] H (glob (sym m t),H)):Rn P (k+5) y sc H (.str t,H):=by
 obtain ⟨p,d,rfl⟩:=hs
 exact rn_r (fun C hC=>[hC.a (isid (H:=H) hk) lk5,hC.a hf lk5]) fun _ _ _ _ _ _ _ _=>by kernel_rfl
noncomputable def pr3 {C:Calls} (hC:Has (k+5) C) (sw:R 5 .special_word [c,sc] H (.str wd,H)) (hl:(c::as).length≤room):List (Ans C):=[hC.a (isid_not (H:=H) (v:=mk (c::as) .empty) rfl) lk5,hC.a sw lk5,hC.a (split_eq (H:=H) hl) lk5]
theorem rn_turn {wd:String} (hw:wd∈["and", "or", "let", "let*", "cond", "case", "letrec", "do"]) (sw:R 5 .special_word [c,sc] H (.str wd,H)) (hl:(c::as).length≤room) {f:V} (e:R (n+1) (turner wd) [mk (c::as) .empty,sc,.ref 6] H (f,H1)) (l:n+2≤k+5) (h:Rn P (k+5) f sc H1 r):Rn P (k+5) (mk (c::as) .empty) sc H r:=by
 have e:=(turned hw e).le l
 simp only [List.mem_cons,List.not_mem_nil,or_false] at hw
 rcases hw with rfl | rfl | rfl | rfl | rfl | rfl | rfl | rfl <;> exact rn_n (fun C hC=>pr3 hC sw hl++[.cc (hC.r e)]) (fun _ _ _ _ _ _ _ _=>by kernel_rfl) h
theorem rn_quote (sw:R 5 .special_word [c,sc] H (.str "quote",H)):Rn P (k+5) (mk [c,v] .empty) sc H (v,H):=rn_r (fun C hC=>pr3 hC sw (as:=[v]) (rm rfl)) fun _ _ _ _ _ _ _ _=>by kernel_rfl
theorem rn_lambda (sw:R 5 .special_word [c,sc] H (.str "lambda",H)) (hl:(c::v::as).length≤room):Rn P (k+5) (mk (c::v::as) .empty) sc H (.tup [.str "closure",v,.lst as,sc],H):=rn_r (fun C hC=>pr3 hC sw hl) fun _ _ _ _ _ _ _ _=>by kernel_rfl
theorem rn_if {t a b:V} (sw:R 5 .special_word [c,sc] H (.str "if",H)) (e:R (k+5) .law_run (runA P t sc) H (u,H1)) {z:Bool} (hu:cmpV H1 .isNot u (.bool false)=some (.bool z)) (h:Rn P (k+5) (match z with | true=>a | false=>b) sc H1 r):Rn P (k+5) (mk [c,t,a,b] .empty) sc H r:=by
 cases z <;> exact rn_n (fun C hC=>pr3 hC sw (as:=[t,a,b]) (rm rfl)++[.cc (hC.r e),.cm hu]) (fun _ _ _ _ _ _ _ _=>by kernel_rfl) h
theorem rn_if2 (sw:R 5 .special_word [c,sc] H (.str "if",H)):Rn P (k+6) (mk [c,.bool false,.bool false] .empty) sc H (.unspec,H):=rn_n (n:=k+6) (y' := .unspec) (sc':=sc) (fun C hC=>pr3 (k:=k+1) hC sw (as:=[.bool false,.bool false]) (rm rfl)++[.cc (hC.r (Rn.run (n:=k+4) (rn_at (P:=P) (sc:=sc) (y := .bool false) (H:=H) rfl))),.cm (H:=H) (o := .isNot) (x := .bool false) (y := .bool false) (v := .bool false) rfl]) (fun _ _ _ _ _ _ _ _=>by kernel_rfl) (rn_at (k:=k+1) rfl)
theorem rn_set {b:Nat} {x z v0:V} {pes:List (Int×V)} (sw:R 5 .special_word [c,sc] H (.str "set!",H)) (hs:∃ p d,sc = .obj .scope [p,.ref d]) (e:R (k+5) .law_run (runA P z sc) H (v,H1)) (hf:R 4 .scope_find [sc,x] H1 (locN m,H1)) (hP:H1[P]?=some (.dictI pes)) (hm:aget (m:Int) pes=some (.ref b)) (hb:H1[b]?=some (.list [v0])):Rn P (k+5) (mk [c,x,z] .empty) sc H (.unspec,H1.set b (.list [v])):=by
 obtain ⟨p,d,rfl⟩:=hs
 exact rn_r (fun C hC=>pr3 hC sw (as:=[x,z]) (rm rfl)++[.cc (hC.r e),hC.a hf lk5,.ix (h_ixI hP hm),.st (h_st0 (v:=v) hb (rm rfl))]) fun _ _ _ _ _ _ _ _=>by kernel_rfl
theorem rn_beg2 {a b:V} (sw:R 5 .special_word [c,sc] H (.str "begin",H)) (e:R (k+5) .law_run (runA P a sc) H (u,H1)) (h:Rn P (k+5) b sc H1 r):Rn P (k+5) (mk [c,a,b] .empty) sc H r:=
 rn_n (fun C hC=>pr3 hC sw (as:=[a,b]) (rm rfl)++[.cc (hC.r e)]) (fun _ _ _ _ _ _ _ _=>by kernel_rfl) h
theorem rn_beg3 {a a2 b u2:V} (sw:R 5 .special_word [c,sc] H (.str "begin",H)) (e:R (k+5) .law_run (runA P a sc) H (u,H1)) (e2:R (k+5) .law_run (runA P a2 sc) H1 (u2,H2)) (h:Rn P (k+5) b sc H2 r):Rn P (k+5) (mk [c,a,a2,b] .empty) sc H r:=
 rn_n (fun C hC=>pr3 hC sw (as:=[a,a2,b]) (rm rfl)++[.cc (hC.r e),.cc (hC.r e2)]) (fun _ _ _ _ _ _ _ _=>by kernel_rfl) h
theorem rn_b1 {a:V} {t:String} (sw:R 5 .special_word [c,sc] H (.str "",H)) (e0:R (k+5) .law_run (runA P c sc) H (.str t,H)) (e:R (k+5) .law_run (runA P a sc) H (u,H1)) (h:R (k+5) .law_called [.str t,.lst [u],.ref 9] H1 r):Rn P (k+5) (mk [c,a] .empty) sc H r:=
 rn_r (v:=r.1) (H1:=r.2) (fun C hC=>pr3 hC sw (as:=[a]) (rm rfl)++[.cc (hC.r e0),.cc (hC.r e),.ln (xs:=[.str t]) (rm rfl),.cc (hC.r h)]) fun _ _ _ _ _ _ _ _=>by kernel_rfl
theorem rn_b2 {a a2 u2:V} {t:String} (sw:R 5 .special_word [c,sc] H (.str "",H)) (e0:R (k+5) .law_run (runA P c sc) H (.str t,H)) (e:R (k+5) .law_run (runA P a sc) H (u,H1)) (e2:R (k+5) .law_run (runA P a2 sc) H1 (u2,H2)) (h:R (k+5) .law_called [.str t,.lst [u,u2],.ref 9] H2 r):Rn P (k+5) (mk [c,a,a2] .empty) sc H r:=
 rn_r (v:=r.1) (H1:=r.2) (fun C hC=>pr3 hC sw (as:=[a,a2]) (rm rfl)++[.cc (hC.r e0),.cc (hC.r e),.cc (hC.r e2),.ln (xs:=[.str t,u]) (rm rfl),.cc (hC.r h)]) fun _ _ _ _ _ _ _ _=>by kernel_rfl
variable {cs:List V} {f:V}
theorem rn_c0 (sw:R 5 .special_word [c,sc] H (.str "",H)) (e0:R (k+5) .law_run (runA P c sc) H (.tup cs,H)) (h:R (k+5) .law_entered [.tup cs,.lst [],.ref P,.ref 6,.ref 9] H (.tup [f,sc'],H2)) (hk:Rn P (k+5) f sc' H2 r):Rn P (k+5) (mk [c] .empty) sc H r:=
 rn_n (fun C hC=>pr3 hC sw (as:=[]) (rm rfl)++[.cc (hC.r e0),.ln (xs:=[]) (rm rfl),.cc (hC.r h)]) (fun _ _ _ _ _ _ _ _=>by kernel_rfl) hk
theorem rn_c1 {a:V} {H0:Hp} (sw:R 5 .special_word [c,sc] H (.str "",H)) (e0:R (k+5) .law_run (runA P c sc) H (.tup cs,H0)) (e:R (k+5) .law_run (runA P a sc) H0 (u,H1)) (h:R (k+5) .law_entered [.tup cs,.lst [u],.ref P,.ref 6,.ref 9] H1 (.tup [f,sc'],H2)) (hk:Rn P (k+5) f sc' H2 r):Rn P (k+5) (mk [c,a] .empty) sc H r:=
 rn_n (fun C hC=>pr3 hC sw (as:=[a]) (rm rfl)++[.cc (hC.r e0),.cc (hC.r e),.ln (xs:=[.tup cs]) (rm rfl),.cc (hC.r h)]) (fun _ _ _ _ _ _ _ _=>by kernel_rfl) hk
theorem rn_c2 {a a2 u2:V} (sw:R 5 .special_word [c,sc] H (.str "",H)) (e0:R (k+5) .law_run (runA P c sc) H (.tup cs,H)) (e:R (k+5) .law_run (runA P a sc) H (u,H1)) (e2:R (k+5) .law_run (runA P a2 sc) H1 (u2,H2)) (h:R (k+5) .law_entered [.tup cs,.lst [u,u2],.ref P,.ref 6,.ref 9] H2 (.tup [f,sc'],H3)) (hk:Rn P (k+5) f sc' H3 r):Rn P (k+5) (mk [c,a,a2] .empty) sc H r:=
 rn_n (fun C hC=>pr3 hC sw (as:=[a,a2]) (rm rfl)++[.cc (hC.r e0),.cc (hC.r e),.cc (hC.r e2),.ln (xs:=[.tup cs,u]) (rm rfl),.cc (hC.r h)]) (fun _ _ _ _ _ _ _ _=>by kernel_rfl) hk
end
noncomputable def numV:V→Int | .int i=>i | _=>1
noncomputable def sayZ (u:V):Int:=(numV u+0).fmod 7
noncomputable def isF (u:V):Bool:=match u with | .bool c=>c == false | _=>false
noncomputable def shw:V→String | .bool b=>if b then "True" else "False" | .int i=>toString i | _ => "nothing"
inductive DOK:V→Prop
 | int {i:Int}:0≤i→i < 7→DOK (.int i)
 | bool {b:Bool}:DOK (.bool b)
noncomputable def hitI (u:V):List V→List Int
 | []=>[]
 | d::ds=>match shw d == shw u with | true=>1::hitI u ds | false=>hitI u ds
noncomputable def hitB (u:V) (ds:List V):Bool := !(decide (hitI u ds=[]))
noncomputable def E.a1:E→E | .cmp _ _ a _=>a | _ => .k .none
section
variable {P n m k:Nat} {C:Calls} {H H1 H2 H3:Hp} {y y' sc sc' v c u a:V} {as ds xs:List V} {r:V×Hp} {wd t:String} {fs:List (List (Int×V))} {w:W} {ρ:List Sl}
theorem VOK.fmod {i:Int}:VOK (.int (i.fmod 7)) := .int (Int.fmod_nonneg_of_pos _ (by decide)) (Int.fmod_lt_of_pos _ (by decide))
theorem plus_eq (hu:VOK u) (hv:VOK v):R 2 .law_plus [u,v] H (.int ((numV u+numV v).fmod 7),H):=by
 cases hu <;> cases hv <;> exact R.n fun _=>by kernel_rfl
theorem v0:VOK (.int 0) := .int (Int.le_refl _) (by decide)
theorem less_eq (hu:VOK u) (hv:VOK v):R 3 .law_less [u,v] H (.bool (decide (sayZ u < sayZ v)),H):=R.of (m:=1) (fun _ h=>[h.a (plus_eq (H:=H) hu v0),h.a (plus_eq (H:=H) hv v0)]) fun _ _=>by kernel_rfl
theorem c_plus (hu:VOK u) (hv:VOK v):R 3 .law_called [.str "plus",.lst [u,v],.ref 9] H (.int ((numV u+numV v).fmod 7),H):=R.of (m:=1) (fun _ h=>[h.a (plus_eq (H:=H) hu hv)]) fun _ _=>by kernel_rfl
theorem c_less (hu:VOK u) (hv:VOK v):R 4 .law_called [.str "less",.lst [u,v],.ref 9] H (.bool (decide (sayZ u < sayZ v)),H):=R.of (m:=2) (fun _ h=>[h.a (less_eq (H:=H) hu hv)]) fun _ _=>by kernel_rfl
theorem c_not:R 2 .law_called [.str "not",.lst [u],.ref 9] H (.bool (isF u),H):=R.n fun _=>by kernel_rfl
theorem c_say {told:List Int} (hu:VOK u) (h9:H[9]?=some (.list (told.map .int))) (hl:told.length≤room):R 3 .law_called [.str "say",.lst [u],.ref 9] H (u,H.set 9 (.list ((told++[sayZ u]).map .int))):=by
 have e:=h_app (v := .int (sayZ u)) h9 ((List.length_map _).symm▸hl)
 rw [show told.map V.int++[.int (sayZ u)]=(told++[sayZ u]).map V.int by rw [List.map_append]; rfl] at e
 exact R.of (m:=1) (fun _ h=>[h.a (plus_eq (H:=H) hu v0),.ap e]) fun _ _=>by kernel_rfl
theorem rp (h:DOK v):b1V H .repr v=some (.str (shw v),H):=by
 cases h with
 | int a b=>exact if_pos (sm_of (Int.le_trans (by decide) a) (Int.le_trans (Int.le_of_lt b) (by decide)))
 | bool=>rfl
theorem shown_eq (hu:VOK u):R 2 .law_shown [u] H (.str (shw u),H):=by
 cases hu with
 | int a b=>exact R.of (m:=0) (fun _ _=>[.b1 (rp (H:=H) (.int a b))]) fun _ _=>by kernel_rfl
 | @bool b=>exact R.of (m:=0) (fun _ _=>[.b1 (rp (H:=H) (.bool (b:=b)))]) fun _ _=>by kernel_rfl
 | unspec=>exact R.n fun _=>by kernel_rfl
theorem ints_map {l:List Int}:intsO (l.map .int)=some l:=by
 induction l with
 | nil=>rfl
 | cons a l ih=>exact mi ih
theorem ne_nil {l:List Int}:cmpV H .ne (.lst (l.map .int)) (.lst [])=some (.bool !(decide (l=[]))):=by
 have e:eqL (l.map .int) []=some (decide (l=[])):=by unfold eqL; rw [ints_map]; rfl
 exact mi e
theorem hit_comp {c:E} {tg:List Nat}:∀ {ds:List V},(∀ d∈ds,∃ ρ',bindTg tg d ρ=some ρ'∧ev C ρ' c H=some (.bool (shw d == shw u),H))→evComp C ρ tg (.k (.int 1)) c ds H=some ((hitI u ds).map .int,H)
 | [],_=>rfl
 | d::ds,h=>by
  obtain ⟨ρ',h1,h2⟩:=h d (.head _)
  have ih:=hit_comp fun d hd=>h d (.tail _ hd)
  unfold hitI
  cases e:shw d == shw u with
  | true=>rw [e] at h2; exact cp_c h2 rfl ih h1
  | false=>rw [e] at h2; exact cp_s h2 ih h1
theorem c_memv (hu:VOK u) (hd:∀ d∈ds,DOK d) (hl:ds.length≤room):R 4 .law_called [.str "%memv",.lst [u,mk ds .empty],.ref 9] H (.bool (hitB u ds),H):=R.of (m:=2) (fun C h=>[.ce (H:=H) (ρ:=[.v (.str "%memv"),.v (.lst [u,mk ds .empty]),.v (.ref 9),.undef]) (e:=(st .law_called 4).ts.a1) (cp_i (heap:=false) (H1:=H) (H2:=H) (xs:=ds) (h.i [h.a (split_eq (H:=H) hl)] (by kernel_rfl)) (hit_comp (u:=u) fun d hm=>⟨[.v (.str "%memv"),.v (.lst [u,mk ds .empty]),.v (.ref 9),.v d],rfl,h.e [.b1 (rp (H:=H) (hd d hm)),h.a (shown_eq (H:=H) hu)] (by kernel_rfl)⟩)),.cm (ne_nil (H:=H) (l:=hitI u ds))]) fun _ _=>by kernel_rfl
theorem Ch.keep (c:Ch P H sc fs) (h:∀ i es,H[i]?=some (.dictI es)→9 < i→i≠P→H1[i]?=H[i]?):Ch P H1 sc fs:=by
 induction c with
 | root=>exact .root
 | cons a b c d e ih=>exact .cons ((h _ _ a b c).trans a) b c d ih
inductive Wa (ns:List String) (fs:List (List (Int×V))) (t:String):V→Prop
 | mk {m k:Nat}:ns[k]?=some t→look fs (keyA m)=none→Wa ns fs t (als m (sym k t))
theorem w_k (W':Wd H w) (h:w.ns[k]?=some t) (ht:t∈words):words[k]?=some t:=by
 obtain ⟨j,hj⟩:=List.getElem?_of_mem ht
 exact nd_eq W'.nd h (pre_at W'.ws hj)▸hj
theorem w_n (W':Wd H w) (h:w.ns[k]?=some t) (ht:t∉words):words[k]?=none:=by
 cases e:words[k]? with
 | none=>rfl
 | some u=>have:=pre_at W'.ws e; rw [h] at this; cases this; exact absurd (List.mem_of_getElem? e) ht
theorem al_sw (W':Wd H w) (ch:Ch P H sc fs) (h:Wa w.ns fs t a) (ht:t∈words):R 5 .special_word [a,sc] H (.str t,H):=by
 cases h with
 | mk g l=>exact sw_spec .a ch.obj (find_als W' ch l (by rw [w_k W' g ht]; rfl))
theorem al_gl (W':Wd H w) (ch:Ch P H sc fs) (h:Wa w.ns fs t a) (ht:t∉words):R 5 .special_word [a,sc] H (.str "",H)∧Rn P (n+5) a sc H (.str t,H):=by
 cases h with
 | mk g l=>
  have f:=find_als (t:=t) W' ch l (r:=glob (sym _ t)) (by rw [w_n W' g ht]; rfl)
  exact ⟨sw_glob .a ch.obj f,rn_glob .a ch.obj f⟩
theorem sy_sw (W':Wd H w) (ch:Ch P H sc fs) (g:w.ns[k]?=some t) (l:look fs (keyS k)=aget (keyS k) rootEs) (ht:t∈words):R 5 .special_word [sym k t,sc] H (.str t,H):=sw_spec .s ch.obj (find_in W' ch .s (l.trans (by rw [root_look,w_k W' g ht]; rfl)))
theorem sy_gl (W':Wd H w) (ch:Ch P H sc fs) (g:w.ns[k]?=some t) (l:look fs (keyS k)=aget (keyS k) rootEs) (ht:t∉words):R 5 .special_word [sym k t,sc] H (.str "",H)∧Rn P (n+5) (sym k t) sc H (.str t,H):=by
 have f:=find_sym (t:=t) W' ch (l.trans (by rw [root_look,w_n W' g ht]; rfl))
 exact ⟨sw_glob .s ch.obj f,rn_glob .s ch.obj f⟩
inductive ND (H:Hp) (sc:V):V→Prop
 | no {y:V}:(Ty.cls .pair).has y=some false→ND H sc y
 | pr {c:V} {as:List V} {wd:String}:R 5 .special_word [c,sc] H (.str wd,H)→(wd == "define")=false→ND H sc (mk (c::as) .empty)
theorem str_eq {a b:String} {q:Bool} (h:(a == b)=q):cmpV H .eq (.str a) (.str b)=some (.bool q):=congrArg (fun q=>some (V.bool q)) h
theorem nd_el {s0 s1 s2 s3 s4 s5 s6 s7 s8 s10 s11 s12:Sl} (hC:Has m C) (hm:5≤m) (h:ND H sc y):ev C [s0,s1,s2,s3,s4,s5,s6,s7,s8,.v sc,s10,s11,s12,.v y] (.and (.isI true (.v 13) (.cls .pair)) (.cmp true .eq (.call .special_word (es [.attr (.v 13) "car",.v 9]) []) (.k (.str "define")))) H=some (.bool false,H):=by
 cases h with
 | no h=>exact hC.e [.is h] (by kernel_rfl)
 | @pr c as _ sw e=>exact hC.e [.is (t := .cls .pair) (x:=mk (c::as) .empty) (b:=true) rfl,hC.a sw hm,.cm (str_eq (H:=H) e)] (by kernel_rfl)
theorem nd_all {s0 s1 s2 s3 s4 s5 s7 s8 s10 s11 s12 s13:Sl} (hC:Has m C) (hm:5≤m) {ys:List V} (h:∀ y∈ys,ND H sc y):ev C [s0,s1,s2,s3,s4,s5,.v (.lst ys),s7,s8,.v sc,s10,s11,s12,s13] (st .law_entered 3).ts H=some (.lst [],H):=by
 have lp:∀ zs,(∀ y∈zs,ND H sc y)→evComp C [s0,s1,s2,s3,s4,s5,.v (.lst ys),s7,s8,.v sc,s10,s11,s12,s13] [13] (.v 13) (.and (.isI true (.v 13) (.cls .pair)) (.cmp true .eq (.call .special_word (es [.attr (.v 13) "car",.v 9]) []) (.k (.str "define")))) zs H=some ([],H):=fun zs=>by
  induction zs with
  | nil=>exact fun _=>rfl
  | cons z zs ih=>exact fun hz=>cp_s (nd_el hC hm (hz z (.head _))) (ih fun y hy=>hz y (.tail _ hy))
 exact cp_i (heap:=false) (hC.i (r:=(ys,H)) [] (by kernel_rfl)) (lp ys h)
noncomputable abbrev inS (sc:V) (n:Nat):V := .obj .scope [sc,.ref n]
inductive Bdy (P n:Nat) (sc:V):List V→Hp→V→Hp→Prop
 | one {y:V} {H:Hp}:Bdy P n sc [y] H y H
 | two {y y2 u:V} {H H1:Hp}:R n .law_run (runA P y sc) H (u,H1)→Bdy P n sc [y,y2] H y2 H1
noncomputable abbrev clo (ids:List V) (ys:List V) (sc:V):List V:=[.str "closure",mk ids .empty,.lst ys,sc]
noncomputable abbrev entA (P:Nat) (ids ys:List V) (sc:V) (us:List V):List V:=[.tup (clo ids ys sc),.lst us,.ref P,.ref 6,.ref 9]
variable {s:X} {ys:List V} {f:V} {i1 i2 u1 u2:V} {k1 k2:Int} {N:Nat} {B:List (Nat×Nat)}
noncomputable abbrev X.e0 (s:X):X:=s.app.app
noncomputable abbrev X.e1 (s:X) (P:Nat) (k1:Int) (u1:V):X:=(s.app.bd P s.HR.length k1 [] u1).app
noncomputable abbrev X.e2 (s:X) (P:Nat) (k1 k2:Int) (u1 u2:V):X:=((s.app.bd P s.HR.length k1 [] u1).bd P s.HR.length k2 [(k1,locN (s.w.L+1))] u2).app
noncomputable abbrev X.nsc (s:X) (sc:V) (n:Nat):V:=inS (inS sc n) s.HR.length
theorem ent0 (hm:5≤m) (hn:∀ y∈ys,ND s.e0.HR (s.app.nsc sc s.HR.length) y) (h:Bdy P (m+1) (s.app.nsc sc s.HR.length) ys s.e0.HR f H1):R (m+2) .law_entered (entA P [] ys sc []) s.HR (.tup [f,s.app.nsc sc s.HR.length],H1):=by
 have nd:∀ C,Has (m+1) C→ev C [.v (.tup (clo [] ys sc)),.v (.lst []),.v (.ref P),.v (.ref 6),.v (.ref 9),.v (inS sc s.HR.length),.v (.lst ys),.undef,.undef,.v (s.app.nsc sc s.HR.length),.undef,.undef,.undef,.undef] (st .law_entered 3).ts s.e0.HR=some (.lst [],s.e0.HR):=fun C hC=>nd_all hC (Nat.le_succ_of_le hm) hn
 cases h with
 | one=>exact R.of (fun C hC=>[hC.a (split_eq (H:=s.app.HR) (xs:=[]) (rm rfl)) (Nat.le_trans (by decide) (Nat.le_succ_of_le hm)),.ce (nd C hC)]) fun _ _=>by kernel_rfl
 | two r=>exact R.of (fun C hC=>[hC.a (split_eq (H:=s.app.HR) (xs:=[]) (rm rfl)) (Nat.le_trans (by decide) (Nat.le_succ_of_le hm)),.ce (nd C hC),.cc (hC.r r)]) fun _ _=>by kernel_rfl
theorem ent1 (hm:5≤m) (b1:R 4 .law_bind [i1,u1,inS sc s.HR.length,.ref P,.ref 6] s.app.HR (.none,(s.app.bd P s.HR.length k1 [] u1).HR)) (hn:∀ y∈ys,ND (s.e1 P k1 u1).HR ((s.app.bd P s.HR.length k1 [] u1).nsc sc s.HR.length) y) (h:Bdy P (m+1) ((s.app.bd P s.HR.length k1 [] u1).nsc sc s.HR.length) ys (s.e1 P k1 u1).HR f H1):R (m+2) .law_entered (entA P [i1] ys sc [u1]) s.HR (.tup [f,(s.app.bd P s.HR.length k1 [] u1).nsc sc s.HR.length],H1):=by
 have nd:∀ C,Has (m+1) C→ev C [.v (.tup (clo [i1] ys sc)),.v (.lst [u1]),.v (.ref P),.v (.ref 6),.v (.ref 9),.v (inS sc s.HR.length),.v (.lst ys),.v i1,.v u1,.v ((s.app.bd P s.HR.length k1 [] u1).nsc sc s.HR.length),.undef,.undef,.undef,.undef] (st .law_entered 3).ts (s.e1 P k1 u1).HR=some (.lst [],(s.e1 P k1 u1).HR):=fun C hC=>nd_all hC (Nat.le_succ_of_le hm) hn
 cases h with
 | one=>exact R.of (fun C hC=>[hC.a (split_eq (H:=s.app.HR) (xs:=[i1]) (rm rfl)) (Nat.le_trans (by decide) (Nat.le_succ_of_le hm)),hC.a b1 (Nat.le_trans (by decide) (Nat.le_succ_of_le hm)),.ce (nd C hC)]) fun _ _=>by kernel_rfl
 | two r=>exact R.of (fun C hC=>[hC.a (split_eq (H:=s.app.HR) (xs:=[i1]) (rm rfl)) (Nat.le_trans (by decide) (Nat.le_succ_of_le hm)),hC.a b1 (Nat.le_trans (by decide) (Nat.le_succ_of_le hm)),.ce (nd C hC),.cc (hC.r r)]) fun _ _=>by kernel_rfl
theorem ent2 (hm:5≤m) (b1:R 4 .law_bind [i1,u1,inS sc s.HR.length,.ref P,.ref 6] s.app.HR (.none,(s.app.bd P s.HR.length k1 [] u1).HR)) (b2:R 4 .law_bind [i2,u2,inS sc s.HR.length,.ref P,.ref 6] (s.app.bd P s.HR.length k1 [] u1).HR (.none,((s.app.bd P s.HR.length k1 [] u1).bd P s.HR.length k2 [(k1,locN (s.w.L+1))] u2).HR)) (hn:∀ y∈ys,ND (s.e2 P k1 k2 u1 u2).HR (((s.app.bd P s.HR.length k1 [] u1).bd P s.HR.length k2 [(k1,locN (s.w.L+1))] u2).nsc sc s.HR.length) y) (h:Bdy P (m+1) (((s.app.bd P s.HR.length k1 [] u1).bd P s.HR.length k2 [(k1,locN (s.w.L+1))] u2).nsc sc s.HR.length) ys (s.e2 P k1 k2 u1 u2).HR f H1):R (m+2) .law_entered (entA P [i1,i2] ys sc [u1,u2]) s.HR (.tup [f,((s.app.bd P s.HR.length k1 [] u1).bd P s.HR.length k2 [(k1,locN (s.w.L+1))] u2).nsc sc s.HR.length],H1):=by
 have nd:∀ C,Has (m+1) C→ev C [.v (.tup (clo [i1,i2] ys sc)),.v (.lst [u1,u2]),.v (.ref P),.v (.ref 6),.v (.ref 9),.v (inS sc s.HR.length),.v (.lst ys),.v i2,.v u2,.v (((s.app.bd P s.HR.length k1 [] u1).bd P s.HR.length k2 [(k1,locN (s.w.L+1))] u2).nsc sc s.HR.length),.undef,.undef,.undef,.undef] (st .law_entered 3).ts (s.e2 P k1 k2 u1 u2).HR=some (.lst [],(s.e2 P k1 k2 u1 u2).HR):=fun C hC=>nd_all hC (Nat.le_succ_of_le hm) hn
 cases h with
 | one=>exact R.of (fun C hC=>[hC.a (split_eq (H:=s.app.HR) (xs:=[i1,i2]) (rm rfl)) (Nat.le_trans (by decide) (Nat.le_succ_of_le hm)),hC.a b1 (Nat.le_trans (by decide) (Nat.le_succ_of_le hm)),hC.a b2 (Nat.le_trans (by decide) (Nat.le_succ_of_le hm)),.ce (nd C hC)]) fun _ _=>by kernel_rfl
 | two r=>exact R.of (fun C hC=>[hC.a (split_eq (H:=s.app.HR) (xs:=[i1,i2]) (rm rfl)) (Nat.le_trans (by decide) (Nat.le_succ_of_le hm)),hC.a b1 (Nat.le_trans (by decide) (Nat.le_succ_of_le hm)),hC.a b2 (Nat.le_trans (by decide) (Nat.le_succ_of_le hm)),.ce (nd C hC),.cc (hC.r r)]) fun _ _=>by kernel_rfl
end
noncomputable abbrev LV (n k:Nat) (x:V) (H:Hp) (r:V×Hp):Prop:=R n .law_value [x,.ref k,.ref 8] H r
inductive AndOr (n k:Nat) (d:Bool):List V→V→Hp→V→Hp→Prop
 | nil {f:V} {H:Hp}:AndOr n k d [] f H f H
 | stop {x f u:V} {xs:List V} {H H1:Hp}:LV n k x H (u,H1)→(isF u == d)=true→AndOr n k d (x::xs) f H u H1
 | go {x f u v:V} {xs:List V} {H H1 H2:Hp}:LV n k x H (u,H1)→(isF u == d)=false→AndOr n k d xs u H1 v H2→AndOr n k d (x::xs) f H v H2
inductive Sq (n k:Nat):List V→Hp→V→Hp→Prop
 | nil {H:Hp}:Sq n k [] H .unspec H
 | one {x u:V} {H H1:Hp}:LV n k x H (u,H1)→Sq n k [x] H u H1
 | two {x x2 u u2:V} {H H1 H2:Hp}:LV n k x H (u,H1)→LV n k x2 H1 (u2,H2)→Sq n k [x,x2] H u2 H2
inductive Ls (n k:Nat):Option (List V)→Hp→V→Hp→Prop
 | none {H:Hp}:Ls n k Option.none H .unspec H
 | some {xs:List V} {H H1:Hp} {v:V}:Sq n k xs H v H1→Ls n k (Option.some xs) H v H1
noncomputable def lastV:Option (List V)→V | none => .none | some ps => .lst ps
inductive Lp (n k:Nat) (x:V):Nat→Hp→Hp→Prop
 | nil {H:Hp}:Lp n k x 0 H H
 | succ {j:Nat} {u:V} {told:List Int} {H H1 H2:Hp}:H[8]?=some (.list (told.map .int))→told.length≤room→LV n k x (H.set 8 (.list ((told++[((j+1:Nat):Int)]).map .int))) (u,H1)→Lp n k x j H1 H2→Lp n k x (j+1) H H2
inductive Cs (n k:Nat) (key:V) (last:Option (List V)):List V→Hp→V→Hp→Prop
 | nil {H H1:Hp} {v:V}:Ls n k last H v H1→Cs n k key last [] H v H1
 | hit {ds ps cs:List V} {H H1:Hp} {v:V}:(∀ d∈ds,DOK d)→hitB key ds=true→Sq n k ps H v H1→Cs n k key last (.tup [.lst ds,.lst ps]::cs) H v H1
 | miss {ds ps cs:List V} {H H1:Hp} {v:V}:(∀ d∈ds,DOK d)→hitB key ds=false→Cs n k key last cs H v H1→Cs n k key last (.tup [.lst ds,.lst ps]::cs) H v H1
inductive Cd (n k:Nat) (last:Option (List V)):List V→Hp→V→Hp→Prop
 | nil {H H1:Hp} {v:V}:Ls n k last H v H1→Cd n k last [] H v H1
 | seq {t u v:V} {ps cs:List V} {H H1 H2:Hp}:LV n k t H (u,H1)→isF u=false→Sq n k ps H1 v H2→Cd n k last (.tup [.int 0,t,.lst ps]::cs) H v H2
 | own {t u:V} {ps cs:List V} {H H1:Hp}:LV n k t H (u,H1)→(isF u=false∨(cs=[]∧last=none))→Cd n k last (.tup [.int 1,t,.lst ps]::cs) H u H1
 | tell {t u:V} {ps cs:List V} {told:List Int} {H H1:Hp}:LV n k t H (u,H1)→isF u=false→VOK u→H1[8]?=some (.list (told.map .int))→told.length≤room→Cd n k last (.tup [.int 2,t,.lst ps]::cs) H u (H1.set 8 (.list ((told++[sayZ u]).map .int)))
 | skip {i:Int} {t u v:V} {ps cs:List V} {H H1 H2:Hp}:i=0∨i=1∨i=2→(i=1→¬ (cs=[]∧last=none))→LV n k t H (u,H1)→isF u=true→Cd n k last cs H1 v H2→Cd n k last (.tup [.int i,t,.lst ps]::cs) H v H2
noncomputable abbrev lbH (H:Hp) (K:Nat) (es:List (String×V)) (t:String) (u:V):Hp:=(H++[AO.list [u]]).set K (.dictS (aput t (.ref H.length) es))
section
variable {P n m k K b:Nat} {C:Calls} {H H0 H1 H2 H3:Hp} {x x2 y sc v c u u2 a:V} {as ds xs ps:List V} {r:V×Hp} {wd t t2:String} {es:List (String×V)} {told:List Int} {last:Option (List V)}
noncomputable abbrev aoF:S:=(st .law_value 7).bd.at 1
theorem lv_at (h:isAt x=true):LV 2 k x H (x,H):=by
 cases x with
 | int i=>exact R.n fun _=>by kernel_rfl
 | bool b=>exact R.n fun _=>by kernel_rfl
 | unspec=>exact R.n fun _=>by kernel_rfl
 | _=>cases h
theorem lv_name (hk:H[k]?=some (.dictS es)) (ht:aget t es=some (.ref b)) (hb:H[b]?=some (.list [v])):LV 2 k (.tup [.str "name",.str t]) H (v,H):=R.of (m:=0) (fun _ _=>[.ix (h_ixS hk ht),.ix (h_ix0 hb)]) fun _ _=>by kernel_rfl
theorem lv_say (h:LV n k x H (u,H1)) (hu:VOK u) (h8:H1[8]?=some (.list (told.map .int))) (hl:told.length≤room):LV (n+6) k (.tup [.str "say",x]) H (u,H1.set 8 (.list ((told++[sayZ u]).map .int))):=by
 have e:=h_app (v := .int (sayZ u)) h8 ((List.length_map _).symm▸hl)
 rw [show told.map V.int++[.int (sayZ u)]=(told++[sayZ u]).map V.int by rw [List.map_append]; rfl] at e
 exact R.of (m:=n+4) (fun _ hC=>[.cc (hC.r (h.up (j:=5))),hC.a (plus_eq (H:=H1) hu v0) lk5,.ap e]) fun _ _=>by kernel_rfl
theorem lv_plus (h:LV n k x H (u,H1)) (h2:LV n k x2 H1 (u2,H2)) (hu:VOK u) (hu2:VOK u2):LV (n+6) k (.tup [.str "plus",x,x2]) H (.int ((numV u+numV u2).fmod 7),H2):=R.of (m:=n+4) (fun _ hC=>[.cc (hC.r (h.up (j:=5))),.cc (hC.r (h2.up (j:=5))),hC.a (plus_eq (H:=H2) hu hu2) lk5]) fun _ _=>by kernel_rfl
theorem lv_less (h:LV n k x H (u,H1)) (h2:LV n k x2 H1 (u2,H2)) (hu:VOK u) (hu2:VOK u2):LV (n+6) k (.tup [.str "less",x,x2]) H (.bool (decide (sayZ u < sayZ u2)),H2):=R.of (m:=n+4) (fun _ hC=>[.cc (hC.r (h.up (j:=5))),.cc (hC.r (h2.up (j:=5))),hC.a (less_eq (H:=H2) hu hu2) lk5]) fun _ _=>by kernel_rfl
theorem lv_set (h:LV n k x H (u,H1)) (hk:H1[k]?=some (.dictS es)) (ht:aget t es=some (.ref b)) (hb:H1[b]?=some (.list [v])):LV (n+6) k (.tup [.str "set!",.str t,x]) H (.unspec,H1.set b (.list [u])):=R.of (m:=n+4) (fun _ hC=>[.cc (hC.r (h.up (j:=5))),.ix (h_ixS hk ht),.st (h_st0 (v:=u) hb (rm rfl))]) fun _ _=>by kernel_rfl
theorem lv_if {x3:V} {z:Bool} (h:LV n k x H (u,H1)) (e:isF u=z) (h2:LV n k (match z with | true=>x3 | false=>x2) H1 r):LV (n+6) k (.tup [.str "if",x,x2,x3]) H r:=by
 have e':cmpV H1 .is u (.bool false)=some (.bool z):=congrArg (fun z=>some (V.bool z)) e
 cases z <;> exact R.of (m:=n+4) (fun _ hC=>[.cc (hC.r (h.up (j:=5))),.cm e',.cc (hC.r (h2.up (j:=5)))]) fun _ _=>by kernel_rfl
theorem ao_loop (hC:Has (n+5) C) {a0 s5 s6:Sl} {f:V} {d:Bool} (hd:(wd == "and")=d) (h:AndOr n k d xs f H v H1):∀ s7,(∃ ρ,FB C [7] aoF.bd xs ([a0,.v (.ref k),.v (.ref 8),.v (.str wd),.v f,s5,s6,s7],H)=some (.ret v,ρ,H1))∨∃ s7',FB C [7] aoF.bd xs ([a0,.v (.ref k),.v (.ref 8),.v (.str wd),.v f,s5,s6,s7],H)=some (.next,[a0,.v (.ref k),.v (.ref 8),.v (.str wd),.v v,s5,s6,s7'],H1):=by
 have cm:∀ {u H z},(isF u == d)=z→cmpV H .eq (.bool (isF u)) (.bool (wd == "and"))=some (.bool z):=fun e=>by rw [hd]; exact congrArg (fun z=>some (V.bool z)) e
 induction h with
 | nil=>exact fun s7 => .inr ⟨s7,fb_n⟩
 | @stop x f u xs H H1 h e=>exact fun s7 => .inl ⟨[a0,.v (.ref k),.v (.ref 8),.v (.str wd),.v u,s5,s6,.v x],fb_r (hC.s [.cc (hC.r (h.up (j:=5))),.cm (cm (H:=H1) e)] (by kernel_rfl))⟩
 | @go x f u v xs H H1 H2 h e _ ih=>
  intro s7
  have one:exs C aoF.bd ([a0,.v (.ref k),.v (.ref 8),.v (.str wd),.v f,s5,s6,.v x],H)=some (.next,[a0,.v (.ref k),.v (.ref 8),.v (.str wd),.v u,s5,s6,.v x],H1):=hC.s [.cc (hC.r (h.up (j:=5))),.cm (cm (H:=H1) e)] (by kernel_rfl)
  exact (ih (.v x)).imp (fun ⟨ρ,g⟩=>⟨ρ,fb_c one g⟩) fun ⟨s,g⟩=>⟨s,fb_c one g⟩
theorem lv_ao (hw:wd = "and"∨wd = "or") (h:AndOr n k (wd == "and") xs (.bool (wd == "and")) H v H1):LV (n+6) k (.tup [.str wd,.lst xs]) H (v,H1):=R.ex (m:=n+4) fun C hC=>by
 have hi:evI C [.v (.tup [.str wd,.lst xs]),.v (.ref k),.v (.ref 8),.v (.str wd),.v (.bool (wd == "and")),.undef,.undef,.undef] aoF.it H=some (xs,H):=hC.i [] (by kernel_rfl)
 rcases ao_loop hC rfl h .undef (s5 := .undef) (s6 := .undef) (a0 := .v (.tup [.str wd,.lst xs])) with ⟨ρ,e⟩ | ⟨s,e⟩ <;> rcases hw with rfl | rfl <;> exact ⟨[.cs (for_x (x:=aoF) hi e)],by kernel_rfl⟩
theorem sq_eq (h:Sq n k xs H v H1):R (n+2) .law_seq [.lst xs,.ref k,.ref 8] H (v,H1):=by
 cases h with
 | nil=>exact (R.n fun _=>by kernel_rfl:R 2 _ _ _ _).le (Nat.le_add_left 2 n)
 | one h=>exact R.of (m:=n) (fun _ hC=>[.cc (hC.r (h.up (j:=1)))]) fun _ _=>by kernel_rfl
 | two h h2=>exact R.of (m:=n) (fun _ hC=>[.cc (hC.r (h.up (j:=1))),.cc (hC.r (h2.up (j:=1)))]) fun _ _=>by kernel_rfl
theorem lv_wide {as:List V} (hw:wd∈["let", "let*", "letrec", "named", "case", "cond", "do"]) (h:R (n+8) .law_wide_value [.str wd,.tup (.str wd::as),.ref k,.ref 8] H r):LV (n+10) k (.tup (.str wd::as)) H r:=by
 simp only [List.mem_cons,List.not_mem_nil,or_false] at hw
 rcases hw with rfl | rfl | rfl | rfl | rfl | rfl | rfl <;> exact R.of (m:=n+8) (fun _ hC=>[.cc (hC.r (h.up (j:=1)))]) fun _ _=>by kernel_rfl
theorem dict_of (hk:H[k]?=some (.dictS es)):b1V H .dictS (.ref k)=some (.ref H.length,H++[.dictS es]):=bi (bi hk rfl) rfl
theorem lb_st (h:H[K]?=some (.dictS es)) (hl:es.length≤room):setV (H++[AO.list [u]]) (.ref K) (.str t) (.ref H.length)=some (lbH H K es t u):=h_stS (at_a h) hl
inductive Sees (k K:Nat):String→Nat→Prop
 | a:Sees k K "let" k
 | b:Sees k K "let*" K
variable {k':Nat} {es2:List (String×V)}
theorem Sees.hw (h:Sees k K wd k'):wd∈["let", "let*", "letrec", "named", "case", "cond", "do"]:=by cases h <;> decide
theorem lv_let0 (hw:Sees k H.length wd k') (hk:H[k]?=some (.dictS es)) (h:Sq n H.length xs (H++[.dictS es]) v H1):LV (n+10) k (.tup [.str wd,.lst [],.lst xs]) H (v,H1):=lv_wide hw.hw (by
 cases hw <;> exact R.of (m:=n+6) (fun _ hC=>[.b1 (dict_of hk),.cc (hC.r ((sq_eq h).up (j:=5)))]) fun _ _=>by kernel_rfl)
theorem lv_let1 (hw:Sees k H.length wd k') (hk:H[k]?=some (.dictS es)) (hx:LV n k' x (H++[.dictS es]) (u,H1)) (hd:H1[H.length]?=some (.dictS es)) (hl:es.length≤room) (h:Sq n H.length xs (lbH H1 H.length es t u) v H2):LV (n+10) k (.tup [.str wd,.lst [.tup [.str t,x]],.lst xs]) H (v,H2):=lv_wide hw.hw (by
 cases hw <;> exact R.of (m:=n+6) (fun _ hC=>[.b1 (dict_of hk),.cc (hC.r (hx.up (j:=7))),.st (lb_st (t:=t) (u:=u) hd hl),.cc (hC.r ((sq_eq h).up (j:=5)))]) fun _ _=>by kernel_rfl)
theorem lv_let2 (hw:Sees k H.length wd k') (hk:H[k]?=some (.dictS es)) (hx:LV n k' x (H++[.dictS es]) (u,H1)) (hd:H1[H.length]?=some (.dictS es)) (hl:es.length≤room) (hx2:LV n k' x2 (lbH H1 H.length es t u) (u2,H2)) (hd2:H2[H.length]?=some (.dictS es2)) (hl2:es2.length≤room) (h:Sq n H.length xs (lbH H2 H.length es2 t2 u2) v H3):LV (n+10) k (.tup [.str wd,.lst [.tup [.str t,x],.tup [.str t2,x2]],.lst xs]) H (v,H3):=lv_wide hw.hw (by
 cases hw <;> exact R.of (m:=n+6) (fun _ hC=>[.b1 (dict_of hk),.cc (hC.r (hx.up (j:=7))),.st (lb_st (t:=t) (u:=u) hd hl),.cc (hC.r (hx2.up (j:=7))),.st (lb_st (t:=t2) (u:=u2) hd2 hl2),.cc (hC.r ((sq_eq h).up (j:=5)))]) fun _ _=>by kernel_rfl)
noncomputable abbrev lpF:S:=(st .law_wide_value 1).bd.at 0
theorem lp_loop (hC:Has (n+7) C) {a b c w:V} {s4 s5 s6 s7 s9 s10 s11 s12:Sl} {j:Nat} (h:Lp n k x j H H1):∀ s8,∃ s8',FB C [8] lpF.bd (downTo j j) ([.v w,.v (.tup [a,b,c,y,x]),.v (.ref k),.v (.ref 8),s4,s5,s6,s7,s8,s9,s10,s11,s12],H)=some (.next,[.v w,.v (.tup [a,b,c,y,x]),.v (.ref k),.v (.ref 8),s4,s5,s6,s7,s8',s9,s10,s11,s12],H1):=by
 induction h with
 | nil=>exact fun s8=>⟨s8,fb_n⟩
 | @succ j u told H H1 H2 h8 hl hx _ ih=>
  intro s8
  obtain ⟨s,g⟩:=ih (.v (.int (j+1:Nat)))
  have e:=h_app (v := .int (j+1:Nat)) h8 ((List.length_map _).symm▸hl)
  rw [show told.map V.int++[.int (j+1:Nat)]=(told++[((j+1:Nat):Int)]).map V.int by rw [List.map_append]; rfl] at e
  refine ⟨s,fb_c (s:=([.v w,.v (.tup [a,b,c,y,x]),.v (.ref k),.v (.ref 8),s4,s5,s6,s7,.v (.int (j+1:Nat)),s9,s10,s11,s12],H1)) (hC.s [.ap e,.cc (hC.r (hx.up (j:=7)))] (by kernel_rfl)) ?_⟩
  rw [i1s]
  exact g
theorem lv_loop {j:Nat} {a b:V} (hw:wd = "letrec"∨wd = "named") (h:Lp n k x j H H1) (hj:j≤100):LV (n+10) k (.tup [.str wd,a,b,.int j,x]) H (.int 5,H1):=by
 have go:R (n+8) .law_wide_value [.str wd,.tup [.str wd,a,b,.int j,x],.ref k,.ref 8] H (.int 5,H1):=R.ex (m:=n+6) fun C hC=>by
  obtain ⟨s,e⟩:=lp_loop hC (w := .str wd) (a := .str wd) (b:=a) (c:=b) (y := .int j) (s4 := .undef) (s5 := .undef) (s6 := .undef) (s7 := .undef) (s9 := .undef) (s10 := .undef) (s11 := .undef) (s12 := .undef) h .undef
  have hi:evI C [.v (.str wd),.v (.tup [.str wd,a,b,.int j,x]),.v (.ref k),.v (.ref 8),.undef,.undef,.undef,.undef,.undef,.undef,.undef,.undef,.undef] lpF.it H=some (downTo j ((j:Int) - 0).toNat,H):=hC.i [.r3 (x:=(j:Int)) (y:=0) ⟨(r1n (hun hj 0)).1,(r1n (hun hj 0)).2,by decide,Int.natCast_nonneg room⟩] (by kernel_rfl)
  rw [i0s] at hi
  rcases hw with rfl | rfl <;> exact ⟨[.cs (for_x (x:=lpF) hi e)],by kernel_rfl⟩
 exact lv_wide (by rcases hw with rfl | rfl <;> decide) go
end
section
variable {P n m k K b i:Nat} {C:Calls} {H H0 H1 H2 H3:Hp} {x x2 y sc v c u u2 a b' key:V} {as ds xs ps cs all:List V} {r:V×Hp} {wd t t2:String} {es:List (String×V)} {told:List Int} {last:Option (List V)}
noncomputable abbrev caF:S:=(st .law_wide_value 2).bd.at 1
noncomputable abbrev caR (a b key:V) (k:Nat) (s10 s11:Sl):List Sl:=[.v a,.v b,.v (.ref k),.v (.ref 8),.undef,.undef,.undef,.undef,.undef,.v key,s10,s11,.undef]
theorem ca_hit (hC:Has (n+7) C) (hu:VOK key) (hd:∀ d∈ds,DOK d):ev C (caR a b' key k (.v (.lst ds)) (.v y)) (caF.bd.at 0).ts.a1 H=some (.lst ((hitI key ds).map .int),H):=
 cp_i (heap:=false) (H1:=H) (H2:=H) (xs:=ds) (hC.i [] (by kernel_rfl)) (hit_comp (u:=key) fun d hm=>⟨[.v a,.v b',.v (.ref k),.v (.ref 8),.undef,.undef,.undef,.undef,.undef,.v key,.v (.lst ds),.v y,.v d],rfl,hC.e [.b1 (rp (H:=H) (hd d hm)),hC.a (shown_eq (H:=H) hu) (lk5 (k:=n+2))] (by kernel_rfl)⟩)
theorem cs_loop (hC:Has (n+7) C) (hu:VOK key) (h:Cs n k key last cs H v H1):∀ s10 s11,(∃ ρ,FB C [10,11] caF.bd cs (caR a b' key k s10 s11,H)=some (.ret v,ρ,H1))∨∃ t10 t11 Hm,FB C [10,11] caF.bd cs (caR a b' key k s10 s11,H)=some (.next,caR a b' key k t10 t11,Hm)∧Ls n k last Hm v H1:=by
 induction h with
 | nil h=>exact fun s t => .inr ⟨s,t,_,fb_n,h⟩
 | @hit ds ps cs H H1 v hd e h=>exact fun _ _ => .inl ⟨caR a b' key k (.v (.lst ds)) (.v (.lst ps)),fb_r (hC.s [.ce (ca_hit (a:=a) (b':=b') (k:=k) (y := .lst ps) (H:=H) hC hu hd),.cm ((ne_nil (H:=H)).trans (congrArg (fun z=>some (V.bool z)) e)),.cc (hC.r ((sq_eq h).up (j:=5)))] (by kernel_rfl))⟩
 | @miss ds ps cs H H1 v hd e _ ih=>
  intro _ _
  have one:exs C caF.bd (caR a b' key k (.v (.lst ds)) (.v (.lst ps)),H)=some (.next,caR a b' key k (.v (.lst ds)) (.v (.lst ps)),H):=hC.s [.ce (ca_hit (a:=a) (b':=b') (k:=k) (y := .lst ps) (H:=H) hC hu hd),.cm ((ne_nil (H:=H)).trans (congrArg (fun z=>some (V.bool z)) e))] (by kernel_rfl)
  exact (ih (.v (.lst ds)) (.v (.lst ps))).imp (fun ⟨ρ,g⟩=>⟨ρ,fb_c one g⟩) fun ⟨t,t',Hm,g,h⟩=>⟨t,t',Hm,fb_c one g,h⟩
theorem lv_case (hx:LV n k x H (key,H1)) (hu:VOK key) (h:Cs n k key last cs H1 v H2):LV (n+10) k (.tup [.str "case",x,.lst cs,lastV last]) H (v,H2):=lv_wide (by decide) (R.ex (m:=n+6) fun C hC=>by
 have hi:evI C (caR (.str "case") (.tup [.str "case",x,.lst cs,lastV last]) key k .undef .undef) caF.it H1=some (cs,H1):=hC.i [] (by kernel_rfl)
 rcases cs_loop (a := .str "case") (b' := .tup [.str "case",x,.lst cs,lastV last]) hC hu h .undef .undef with ⟨ρ,e⟩ | ⟨s,t,Hm,e,hl⟩
 ·exact ⟨[.cc (hC.r (hx.up (j:=7))),.cs (for_x (x:=caF) hi e)],by kernel_rfl⟩
 ·cases hl with
  | none=>exact ⟨[.cc (hC.r (hx.up (j:=7))),.cs (for_x (x:=caF) hi e)],by kernel_rfl⟩
  | some hs=>exact ⟨[.cc (hC.r (hx.up (j:=7))),.cs (for_x (x:=caF) hi e),.cc (hC.r ((sq_eq hs).up (j:=5)))],by kernel_rfl⟩)
theorem isnot {z:Bool} (h:isF u=z):cmpV H .isNot u (.bool false)=some (.bool !z):=congrArg (fun z=>some (V.bool !z)) h
theorem eq_i {z:Bool} {j:Nat} (h:decide (i+1=j)=z):cmpV H .eq (.int i) (.int ((j:Int) - 1))=some (.bool z):=by
 refine congrArg (fun z=>some (V.bool z)) (Eq.trans ?_ h)
 by_cases c:i+1=j
 ·rw [decide_eq_true c]; exact beq_iff_eq.mpr (c▸i1s.symm)
 ·rw [decide_eq_false c]; exact beq_eq_false_iff_ne.mpr fun e=>c (Int.ofNat.inj ((congrArg (·+(1:Int)) e).trans (Int.sub_add_cancel _ _)))
noncomputable abbrev cdR (a:V) (k:Nat) (s3 s4 s5 s6 s7:Sl):List Sl:=[.v a,.v (.ref k),.v (.ref 8),s3,s4,s5,s6,s7]
noncomputable abbrev cdT (all:List V) (last:Option (List V)):V := .tup [.str "cond",.lst all,lastV last]
noncomputable abbrev cdF:S:=st .law_cond_value 0
theorem cd_loop (hC:Has (n+6) C) (hl:all.length≤room) (h:Cd n k last cs H v H1):∀ i,all.drop i=cs→∀ s3 s4 s5 s6 s7,(∃ ρ,FB C [3] cdF.bd (upTo i cs.length) (cdR (cdT all last) k s3 s4 s5 s6 s7,H)=some (.ret v,ρ,H1))∨∃ t3 t4 t5 t6 t7 Hm,FB C [3] cdF.bd (upTo i cs.length) (cdR (cdT all last) k s3 s4 s5 s6 s7,H)=some (.next,cdR (cdT all last) k t3 t4 t5 t6 t7,Hm)∧Ls n k last Hm v H1:=by
 have hd:∀ {i c cs},all.drop i=c::cs→(∀ H,idxV H (.lst all) (.int i)=some c)∧all.drop (i+1)=cs∧decide (i+1=all.length)=decide (cs=[]):=fun {i c cs} h=>by
  have hi:i < all.length:=Nat.lt_of_not_le fun c=>by rw [List.drop_eq_nil_of_le c] at h; cases h
  have h2:=(List.drop_eq_getElem_cons hi).symm.trans h
  injection h2 with h3 h4
  refine ⟨fun H=>idx_nat (by rw [List.getElem?_eq_getElem hi,h3]) hl,h4,?_⟩
  have h5:=congrArg List.length h4
  rw [List.length_drop] at h5
  exact decide_eq_decide.mpr ⟨fun c=>List.length_eq_zero_iff.mp (h5.symm.trans (by rw [c,Nat.sub_self])),fun c=>Nat.le_antisymm hi (Nat.le_of_sub_eq_zero (h5.trans (congrArg List.length c)))⟩
 induction h with
 | nil h=>exact fun i _ s3 s4 s5 s6 s7 => .inr ⟨s3,s4,s5,s6,s7,_,fb_n,h⟩
 | @seq t u v ps cs H H1 H2 ht e hs=>exact fun i h _ _ _ _ _ => .inl ⟨cdR (cdT all last) k (.v (.int i)) (.v (.int 0)) (.v t) (.v (.lst ps)) (.v u),fb_r (hC.s [.ix ((hd h).1 H),.cc (hC.r (ht.up (j:=6))),.cm (isnot (H:=H1) e),.cc (hC.r ((sq_eq hs).up (j:=4)))] (by kernel_rfl))⟩
 | @own t u ps cs H H1 ht e=>
  intro i h _ _ _ _ _
  refine .inl ⟨cdR (cdT all last) k (.v (.int i)) (.v (.int 1)) (.v t) (.v (.lst ps)) (.v u),fb_r (?_:exs C cdF.bd (cdR (cdT all last) k (.v (.int i)) _ _ _ _,H)=_)⟩
  cases q:isF u with
  | false=>exact hC.s [.ix ((hd h).1 H),.cc (hC.r (ht.up (j:=6))),.cm (isnot (H:=H1) q)] (by kernel_rfl)
  | true=>
   obtain ⟨e1,e2⟩:=e.resolve_left (by rw [q]; decide)
   subst e2
   exact hC.s [.ix ((hd h).1 H),.cc (hC.r (ht.up (j:=6))),.cm (isnot (H:=H1) q),.cm (eq_i (H:=H1) ((hd h).2.2.trans (decide_eq_true e1)))] (by kernel_rfl)
 | @tell t u ps cs told H H1 ht e hu h8 hl8=>
  intro i h _ _ _ _ _
  have e2:=h_app (v := .int (sayZ u)) h8 ((List.length_map _).symm▸hl8)
  rw [show told.map V.int++[.int (sayZ u)]=(told++[sayZ u]).map V.int by rw [List.map_append]; rfl] at e2
  exact .inl ⟨cdR (cdT all last) k (.v (.int i)) (.v (.int 2)) (.v t) (.v (.lst ps)) (.v u),fb_r (hC.s [.ix ((hd h).1 H),.cc (hC.r (ht.up (j:=6))),.cm (isnot (H:=H1) e),hC.a (plus_eq (H:=H1) hu v0) (lk5 (k:=n+1)),.ap e2] (by kernel_rfl))⟩
 | @skip j t u v ps cs H H1 H2 hj hn ht e _ ih=>
  intro i h s3 s4 s5 s6 s7
  have one:exs C cdF.bd (cdR (cdT all last) k (.v (.int i)) s4 s5 s6 s7,H)=some (.next,cdR (cdT all last) k (.v (.int i)) (.v (.int j)) (.v t) (.v (.lst ps)) (.v u),H1):=by
   rcases hj with rfl | rfl | rfl
   ·exact hC.s [.ix ((hd h).1 H),.cc (hC.r (ht.up (j:=6))),.cm (isnot (H:=H1) e)] (by kernel_rfl)
   ·by_cases c:cs=[]
    ·cases last with
     | none=>exact (hn rfl ⟨c,rfl⟩).elim
     | some l=>exact hC.s [.ix ((hd h).1 H),.cc (hC.r (ht.up (j:=6))),.cm (isnot (H:=H1) e),.cm (eq_i (H:=H1) ((hd h).2.2.trans (decide_eq_true c)))] (by kernel_rfl)
    ·exact hC.s [.ix ((hd h).1 H),.cc (hC.r (ht.up (j:=6))),.cm (isnot (H:=H1) e),.cm (eq_i (H:=H1) ((hd h).2.2.trans (decide_eq_false c)))] (by kernel_rfl)
   ·exact hC.s [.ix ((hd h).1 H),.cc (hC.r (ht.up (j:=6))),.cm (isnot (H:=H1) e)] (by kernel_rfl)
  exact (ih (i+1) (hd h).2.1 (.v (.int i)) (.v (.int j)) (.v t) (.v (.lst ps)) (.v u)).imp (fun ⟨ρ,g⟩=>⟨ρ,fb_c one g⟩) fun ⟨t3,t4,t5,t6,t7,Hm,g,h⟩=>⟨t3,t4,t5,t6,t7,Hm,fb_c one g,h⟩
theorem cv_eq (hl:cs.length≤100) (h:Cd n k last cs H v H1):R (n+7) .law_cond_value [cdT cs last,.ref k,.ref 8] H (v,H1):=R.ex (m:=n+5) fun C hC=>by
 have hi:evI C (cdR (cdT cs last) k .undef .undef .undef .undef .undef) cdF.it H=some (upTo 0 (cs.length:Int).toNat,H):=hC.i [.r1 (n:=cs.length) (r1n (hun hl 0))] (by kernel_rfl)
 rcases cd_loop hC (hun hl 0) h 0 rfl .undef .undef .undef .undef .undef with ⟨ρ,e⟩ | ⟨t3,t4,t5,t6,t7,Hm,e,hs⟩
 ·exact ⟨[.cs (for_x (x:=cdF) hi e)],by kernel_rfl⟩
 ·cases hs with
  | none=>exact ⟨[.cs (for_x (x:=cdF) hi e)],by kernel_rfl⟩
  | some hs=>exact ⟨[.cs (for_x (x:=cdF) hi e),.cc (hC.r ((sq_eq hs).up (j:=4)))],by kernel_rfl⟩
theorem lv_cond (hl:cs.length≤100) (h:Cd n k last cs H v H1):LV (n+10) k (cdT cs last) H (v,H1):=lv_wide (by decide) (R.of (m:=n+6) (fun _ hC=>[.cc (hC.r (cv_eq hl h))]) fun _ _=>by kernel_rfl)
noncomputable abbrev doA (H:Hp) (es:List (String×V)):Hp:=H++[AO.dictS es]
noncomputable abbrev doB (H:Hp) (es:List (String×V)) (i:Nat):Hp:=doA H es++[AO.list [.int i]]
noncomputable abbrev doC (H:Hp) (es:List (String×V)) (i:Nat) (b:V):Hp:=doB H es i++[AO.list [b]]
noncomputable abbrev doE1 (H:Hp) (es:List (String×V)) (nm:String):List (String×V):=aput nm (.ref (doA H es).length) es
noncomputable abbrev doE (H:Hp) (es:List (String×V)) (nm bs:String) (i:Nat):List (String×V):=aput bs (.ref (doB H es i).length) (doE1 H es nm)
noncomputable abbrev doH (H:Hp) (es:List (String×V)) (nm bs:String) (i:Nat) (b:V):Hp:=((doC H es i b).set H.length (.dictS (doE1 H es nm))).set H.length (.dictS (doE H es nm bs i))
inductive Dw (n k:Nat) (nm bs:String) (lim:Nat) (step:Option V) (told cmds:List V):Nat→V→Hp→V→Hp→Prop
 | stop {i:Nat} {b v:V} {H H1:Hp} {es:List (String×V)}:lim≤i→i < 7→H[k]?=some (.dictS es)→es.length+1≤room→Sq n H.length told (doH H es nm bs i b) v H1→Dw n k nm bs lim step told cmds i b H v H1
 | same {i j:Nat} {b b2 u v:V} {H H1 H2:Hp} {es es2:List (String×V)} {said:List Int}:step=none→i < lim→H[k]?=some (.dictS es)→es.length+1≤room→(doH H es nm bs i b)[8]?=some (.list (said.map .int))→said.length≤room→Sq n H.length cmds ((doH H es nm bs i b).set 8 (.list ((said++[(i:Int)]).map .int))) u H1→H1[H.length]?=some (.dictS es2)→aget bs es2=some (.ref j)→H1[j]?=some (.list [b2])→Dw n k nm bs lim step told cmds (i+1) b2 H1 v H2→Dw n k nm bs lim step told cmds i b H v H2
 | step {i:Nat} {x b b2 u v:V} {H H1 H2 H3:Hp} {es:List (String×V)} {said:List Int}:step=some x→isN x=false→i < lim→H[k]?=some (.dictS es)→es.length+1≤room→(doH H es nm bs i b)[8]?=some (.list (said.map .int))→said.length≤room→Sq n H.length cmds ((doH H es nm bs i b).set 8 (.list ((said++[(i:Int)]).map .int))) u H1→LV n H.length x H1 (b2,H2)→Dw n k nm bs lim step told cmds (i+1) b2 H2 v H3→Dw n k nm bs lim step told cmds i b H v H3
noncomputable abbrev doT (nm bs:String) (lim:Nat) (init:V) (step:Option V) (told cmds:List V):V := .tup [.str "do",.str nm,.int lim,.str bs,init,step.getD .none,.lst told,.lst cmds]
theorem aput_len {α:Type} [DecidableEq α] {k:α} {v:V} {es:List (α×V)}:(aput k v es).length≤es.length+1:=by
 unfold aput
 split
 ·rw [List.length_map]; exact Nat.le_succ _
 ·rw [List.length_append]; exact Nat.le_refl _
theorem sayZ_n (h:i < 7):sayZ (.int i)=i:=by
 show ((i:Int)+0).fmod 7=i
 rw [Int.add_zero,Int.fmod_eq_emod_of_nonneg _ (by decide)]
 exact Int.emod_eq_of_lt (Int.natCast_nonneg i) (Int.ofNat_lt.mpr h)
theorem vok_n (h:i < 7):VOK (.int i) := .int (Int.natCast_nonneg i) (Int.ofNat_lt.mpr h)
theorem less_at {j:Nat} {z:Bool} (hi:i < 7) (hj:j < 7) (h:decide (i < j)=z):R 3 .law_less [.int i,.int j] H (.bool z,H):=by
 have e:=less_eq (H:=H) (vok_n hi) (vok_n hj)
 rw [sayZ_n hi,sayZ_n hj] at e
 rwa [show decide ((i:Int) < j)=z from (decide_eq_decide.mpr Int.ofNat_lt).trans h] at e
theorem dw_loop {nm bs:String} {lim:Nat} {init:V} {step:Option V} {told cmds:List V} (hC:Has (n+6) C) (hlim:lim < 7) {i:Nat} {b:V} (h:Dw n k nm bs lim step told cmds i b H v H1):∀ s5,∃ ρ,ex C (.whil (st .law_do_value 1).ts (st .law_do_value 1).bd) ([.v (doT nm bs lim init step told cmds),.v (.ref k),.v (.ref 8),.v (.int i),.v b,s5],H)=some (.ret v,ρ,H1):=by
 have hd1:∀ {H i b es},(doC H es i b)[H.length]?=some (.dictS es):=fun {H i b es}=>at_a (at_a at_n)
 have st1:∀ {H i b es},es.length+1≤room→setV (doC H es i b) (.ref H.length) (.str nm) (.ref (doA H es).length)=some ((doC H es i b).set H.length (.dictS (doE1 H es nm))):=fun h=>h_stS hd1 (Nat.le_of_succ_le h)
 have st2:∀ {H i b es},es.length+1≤room→setV ((doC H es i b).set H.length (.dictS (doE1 H es nm))) (.ref H.length) (.str bs) (.ref (doB H es i).length)=some (doH H es nm bs i b):=fun h=>h_stS (set_at hd1) (Nat.le_trans aput_len h)
 induction h with
 | @stop i b v H H1 es hi h7 hk hl hs=>exact fun s5=>⟨[.v (doT nm bs lim init step told cmds),.v (.ref k),.v (.ref 8),.v (.int i),.v b,.v (.ref H.length)],wh_r (H1:=H) (hC.e [] (by kernel_rfl)) (hC.s [.b1 (dict_of hk),.st (st1 (H:=H) (i:=i) (b:=b) hl),.st (st2 (H:=H) (i:=i) (b:=b) hl),hC.a (less_at (H:=doH H es nm bs i b) h7 hlim (decide_eq_false (Nat.not_lt_of_le hi))) (lk5 (k:=n+1)),.cc (hC.r ((sq_eq hs).up (j:=4)))] (by kernel_rfl))⟩
 | @same i j b b2 u v H H1 H2 es es2 said hn hi hk hl h8 hl8 hs hK hg hb _ ih=>
  subst hn
  intro s5
  obtain ⟨ρ,g⟩:=ih (.v (.ref H.length))
  have e:=h_app (v := .int i) h8 ((List.length_map _).symm▸hl8)
  rw [show said.map V.int++[.int i]=(said++[(i:Int)]).map V.int by rw [List.map_append]; rfl] at e
  exact ⟨ρ,wh_t (H1:=H) (s:=([.v (doT nm bs lim init none told cmds),.v (.ref k),.v (.ref 8),.v (.int (i+1:Nat)),.v b2,.v (.ref H.length)],H1)) (hC.e [] (by kernel_rfl)) (hC.s [.b1 (dict_of hk),.st (st1 (H:=H) (i:=i) (b:=b) hl),.st (st2 (H:=H) (i:=i) (b:=b) hl),hC.a (less_at (H:=doH H es nm bs i b) (Nat.lt_trans hi hlim) hlim (decide_eq_true hi)) (lk5 (k:=n+1)),.ap e,.cc (hC.r ((sq_eq hs).up (j:=4))),.cm (isn (H:=H1) (v := .none)),.ix (h_ixS hK hg),.ix (h_ix0 hb)] (by kernel_rfl)) g⟩
 | @step i x b b2 u v H H1 H2 H3 es said hn nx hi hk hl h8 hl8 hs hx _ ih=>
  subst hn
  intro s5
  obtain ⟨ρ,g⟩:=ih (.v (.ref H.length))
  have e:=h_app (v := .int i) h8 ((List.length_map _).symm▸hl8)
  rw [show said.map V.int++[.int i]=(said++[(i:Int)]).map V.int by rw [List.map_append]; rfl] at e
  exact ⟨ρ,wh_t (H1:=H) (s:=([.v (doT nm bs lim init (some x) told cmds),.v (.ref k),.v (.ref 8),.v (.int (i+1:Nat)),.v b2,.v (.ref H.length)],H2)) (hC.e [] (by kernel_rfl)) (hC.s [.b1 (dict_of hk),.st (st1 (H:=H) (i:=i) (b:=b) hl),.st (st2 (H:=H) (i:=i) (b:=b) hl),hC.a (less_at (H:=doH H es nm bs i b) (Nat.lt_trans hi hlim) hlim (decide_eq_true hi)) (lk5 (k:=n+1)),.ap e,.cc (hC.r ((sq_eq hs).up (j:=4))),.cm (isnF (H:=H1) nx),.cc (hC.r (hx.up (j:=6)))] (by kernel_rfl)) g⟩
theorem lv_do {nm bs:String} {lim:Nat} {init b:V} {step:Option V} {told cmds:List V} (hlim:lim < 7) (hx:LV n k init H (b,H1)) (h:Dw n k nm bs lim step told cmds 0 b H1 v H2):LV (n+10) k (doT nm bs lim init step told cmds) H (v,H2):=by
 have e:R (n+7) .law_do_value [doT nm bs lim init step told cmds,.ref k,.ref 8] H (v,H2):=R.ex (m:=n+5) fun C hC=>by
  obtain ⟨ρ,e⟩:=dw_loop (init:=init) hC hlim h .undef
  exact ⟨[.cc (hC.r (hx.up (j:=6))),.cs (wh_x (x:=st .law_do_value 1) e)],by kernel_rfl⟩
 exact lv_wide (by decide) (R.of (m:=n+6) (fun _ hC=>[.cc (hC.r e)]) fun _ _=>by kernel_rfl)
end
noncomputable def X0:List String:=["go", "x", "turn", "kept"]
noncomputable def NS0:List String:=["x", "kept", "turn", "if", "begin", "lambda", "letrec", "y"]
structure Ev where
 ns:List String
 k:Nat
 es:List (String×V)
 sc:V
 fs:List (List (Int×V))
 B:List (Nat×Nat)
inductive Nm (B:List (Nat×Nat)) (es:List (String×V)) (lk:Int→Option V) (pes:List (Int×V)) (t:String) (k:Nat):Prop
 | mk {m b b':Nat}:lk (keyS k)=some (locN m)→aget (m:Int) pes=some (.ref b')→aget t es=some (.ref b)→(b,b')∈B→Nm B es lk pes t k
structure En (T:List String) (B:List (Nat×Nat)) (ns:List String) (es:List (String×V)) (lk:Int→Option V) (pes:List (Int×V)):Prop where
 nm:∀ t∈ns,∀ k,T[k]?=some t→Nm B es lk pes t k
 fr:∀ t k,T[k]?=some t→t∉ns→t∉X0→lk (keyS k)=aget (keyS k) rootEs
structure Am (P:Nat) (T:List String) (e:Ev) (s:X) (N:Nat):Prop where
 j:J P e.B s N
 kd:s.HL[e.k]?=some (.dictS e.es)
 ch:Ch P s.HR e.sc e.fs
 fa:∀ m,s.w.L < m→look e.fs (keyA m)=none
 en:En T e.B e.ns e.es (look e.fs) s.pes
 tb:T<+:s.w.ns
 sub:∀ t∈e.ns,t∈NS0
theorem keyA_inj {a b:Nat} (h:keyA a=keyA b):a=b:=keyS_inj ((Int.add_left_inj 1).mp (h:keyS a+1=keyS b+1))
theorem aget_aput {α:Type} [DecidableEq α] {k s:α} {v:V} {es:List (α×V)}:aget s (aput k v es)=if k=s then some v else aget s es:=by
 unfold aput
 split
 ·rename_i h
  unfold aget
  rw [List.find?_map]
  have e:((fun e:α×V=>decide (e.1=s))∘fun e=>if e.1=k then (e.1,v) else e)=fun e=>decide (e.1=s):=funext fun e=>by
   show decide ((if e.1=k then (e.1,v) else e).1=s)=_
   split <;> rfl
  rw [e]
  cases f:es.find? fun e=>decide (e.1=s) with
  | none=>
   rw [if_neg]; rfl
   intro c
   obtain ⟨x,hx,e⟩:=List.any_eq_true.mp h
   exact List.find?_eq_none.mp f x hx (decide_eq_true ((of_decide_eq_true e).trans c))
  | some x=>
   have hx:x.1=s:=of_decide_eq_true (List.find?_some f :)
   show some (if x.1=k then (x.1,v) else x).2=_
   by_cases c:k=s
   ·rw [if_pos c,if_pos (hx.trans c.symm)]
   ·rw [if_neg c,if_neg fun e=>c (e.symm.trans hx)]; rfl
 ·rename_i h
  rw [aget_app]
  by_cases c:k=s
  ·rw [if_pos c,if_pos c]
   have:aget s es=none:=Option.map_eq_none_iff.mpr (List.find?_eq_none.mpr fun x hx e=>h (List.any_eq_true.mpr ⟨x,hx,decide_eq_true ((of_decide_eq_true e).trans c.symm)⟩))
   rw [this]; rfl
  ·rw [if_neg c,if_neg c]; exact Option.or_none
theorem look_f {es:List (Int×V)} {fs:List (List (Int×V))} {b:Int}:look ([]::es::fs) b=(aget b es).or (look fs b):=rfl
theorem look_1 {fs:List (List (Int×V))} {a b:Int} {v:V}:look ([]::aput a v []::fs) b=if a=b then some v else look fs b:=by
 rw [look_f,aget_aput]
 by_cases c:a=b
 ·rw [if_pos c,if_pos c]; rfl
 ·rw [if_neg c,if_neg c]; rfl
section
variable {P N N' b b':Nat} {T:List String} {e e':Ev} {s s':X} {B:List (Nat×Nat)} {t u:String} {k m:Nat} {v:V} {ns:List String} {key:Int} {H':Hp} {w':W}
theorem T_inj (a:Am P T e s N) {k':Nat} (h:T[k]?=some t) (h':T[k']?=some t):k=k':=nd_eq a.j.wd.nd (pre_at a.tb h) (pre_at a.tb h')
theorem Ch.po {sc:V} {fs:List (List (Int×V))} (c:Ch P s.HR sc fs) (j:J P B s N) (p:Po P B s s'):Ch P s'.HR sc fs:=c.keep fun i es h h9 hP=>p.kr i (lt_at h) h9 hP fun q hq c=>by
 cases j.box q hq with
 | mk _ _ x=>rw [← c,h] at x; cases x
theorem Am.nx (a:Am P T e s N) (p:Po P e.B s s') (j:J P e.B s' N'):Am P T e s' N':=⟨j,(p.kl _ (lt_at a.kd) (fun c=>by have:=a.kd; rw [c,a.j.s8] at this; cases this) fun q hq c=>by
  cases a.j.box q hq with
  | mk _ x _=>rw [← c,a.kd] at x; cases x).trans a.kd,a.ch.po a.j p,fun m h=>a.fa m (Nat.lt_of_le_of_lt p.L h),⟨fun t ht k g=>by
  cases a.en.nm t ht k g with
  | mk x y z u=>exact .mk x (p.pm _ _ y) z u,a.en.fr⟩,a.tb.trans p.ns,a.sub⟩
theorem Am.st (a:Am P T e s N) (q:St1 b s.w s.HR w' H'):Am P T e (s.st w' H') (N+b):=a.nx (.st q) (a.j.st q)
theorem Am.up (a:Am P T e s N) (h:N≤N'):Am P T e s N':=a.nx .refl (a.j.up h)
theorem en_push {lk lk':Int→Option V} {es es':List (String×V)} {ns ns':List String} {B B':List (Nat×Nat)} {pes pes':List (Int×V)} (en:En T B ns es lk pes) (hT:∀ {k'},T[k']?=some t→k'=k) (g:T[k]?=some t) (hB:∀ p∈B,p∈B') (hp:∀ (m:Int) v,aget m pes=some v→aget m pes'=some v) (l1:∀ q,q≠k→lk' (keyS q)=lk (keyS q)) (hn:t∈ns'→Nm B' es' lk' pes' t k) (hs:∀ u∈ns',u≠t→u∈ns∧aget u es'=aget u es) (hf:∀ u∈ns,u∈ns'∨u∈X0) (ht:t∈ns'∨t∈X0):En T B' ns' es' lk' pes':=
 ⟨fun u hu q gq=>by
  by_cases c:u=t
  ·subst c
   cases hT gq
   exact hn hu
  ·have h:=hs u hu c
   have hq:q≠k:=fun c2=>c (by rw [c2,g] at gq; cases gq; rfl)
   cases en.nm u h.1 q gq with
   | mk a1 a2 a3 a4=>exact .mk ((l1 q hq).trans a1) (hp _ _ a2) (h.2.trans a3) (hB _ a4),fun u q gq h1 h2=>by
  have hut:u≠t:=fun c=>ht.elim (fun h=>h1 (c▸h)) fun h=>h2 (c▸h)
  have hq:q≠k:=fun c2=>hut (by rw [c2,g] at gq; cases gq; rfl)
  exact (l1 q hq).trans (en.fr u q gq (fun c=>(hf u c).elim h1 h2) h2)⟩
theorem Ch.e0 (c:Ch P s.HR e.sc e.fs) (j:J P B s N):Ch P s.e0.HR (s.app.nsc e.sc s.HR.length) ([]::[]::e.fs):=by
 have l9:=j.l9
 have lP:=j.lP
 have l1:s.app.HR.length=s.HR.length+1:=app_len
 refine .cons (at_n (l:=s.app.HR)) (by rw [l1]; exact Nat.lt_succ_of_lt l9) (by rw [l1]; exact Nat.ne_of_gt (Nat.lt_succ_of_lt lP)) (fun _ _ h=>nomatch h) (.cons (at_a at_n) l9 (Nat.ne_of_gt lP) (fun _ _ h=>nomatch h) ?_)
 exact c.keep fun i es h _ _=>(at_a (at_a h)).trans h.symm
theorem J.e1 (j:J P B s N):J P B (s.e1 P key v) (N+1):=(j.app.bd j.l9 (Nat.ne_of_gt j.lP) fun p hp=>Nat.ne_of_lt (j.box p hp).lt.2).app
theorem Po.e1 (j:J P B s N):Po P B s (s.e1 P key v):=(Po.bd j.app (.app j.l8) (Nat.le_refl _) j.l8).trans (.app (Nat.lt_of_lt_of_le j.l8 (Po.bd (key:=key) (es:=[]) (v:=v) j.app (.app j.l8) (Nat.le_refl _) j.l8).lr))
theorem Ch.e1 (c:Ch P s.HR e.sc e.fs) (j:J P B s N):Ch P (s.e1 P key v).HR ((s.app.bd P s.HR.length key [] v).nsc e.sc s.HR.length) ([]::aput key (locN (s.w.L+1)) []::e.fs):=by
 have l9:=j.l9
 have lP:=j.lP
 have l1:s.app.HR.length=s.HR.length+1:=app_len
 have l2:(s.app.bd P s.HR.length key [] v).HR.length=s.app.HR.length+1:=bd_len
 refine .cons (at_n (l:=(s.app.bd P s.HR.length key [] v).HR)) (by rw [l2,l1]; exact Nat.lt_succ_of_lt (Nat.lt_succ_of_lt l9)) (by rw [l2,l1]; exact Nat.ne_of_gt (Nat.lt_succ_of_lt (Nat.lt_succ_of_lt lP))) (fun _ _ h=>nomatch h) (.cons (at_a (bd_d (by rw [l1]; exact Nat.lt_succ_self _) (Nat.ne_of_gt lP))) l9 (Nat.ne_of_gt lP) (fun q u h=>?_) ?_)
 ·rw [aget_aput] at h
  by_cases x:key=q
  ·rw [if_pos x] at h; cases h; exact ⟨_,rfl⟩
  ·rw [if_neg x] at h; cases h
 ·exact c.po j (.e1 j)
theorem e1_box (j:J P B s N):(s.e1 P key v).HR[s.HR.length+1]?=some (.list [v])∧aget ((s.w.L+1:Nat):Int) (s.e1 P key v).pes=some (.ref (s.HR.length+1)):=by
 have l1:s.app.HR.length=s.HR.length+1:=app_len
 refine ⟨?_,?_⟩
 ·have:=bd_n (s:=s.app) (key:=key) (es:=[]) (v:=v) (d:=s.HR.length) (P:=P) (by rw [l1]; exact Nat.lt_succ_of_lt j.lP)
  rw [l1] at this
  exact at_a this
 ·have nw:=j.new (Nat.lt_succ_self s.w.L)
  show aget _ (s.pes++[(((s.w.L+1:Nat):Int),V.ref s.app.HR.length)])=_
  rw [aget_app,nw,if_pos rfl,l1]; rfl
noncomputable abbrev Ev.hid (e:Ev) (ns:List String) (P:Nat) (s:X) (key:Int) (v:V):Ev:=⟨ns,e.k,e.es,(s.app.bd P s.HR.length key [] v).nsc e.sc s.HR.length,[]::aput key (locN (s.w.L+1)) []::e.fs,e.B⟩
theorem Am.hid (a:Am P T e s N) (hs:∀ u∈ns,u∈e.ns) (hf:∀ u∈e.ns,u∈ns∨u∈X0) (hk:∀ u q,T[q]?=some u→u∈ns∨u∉X0→key≠keyS q) (hm:∀ m,s.w.L < m→key≠keyA m):Am P T (e.hid ns P s key v) (s.e1 P key v) (N+1):=
 ⟨a.j.e1,a.kd,a.ch.e1 a.j,fun m h=>look_1.trans ((if_neg (hm m (Nat.lt_of_succ_lt h))).trans (a.fa m (Nat.lt_of_succ_lt h))),⟨fun u hu q g=>by
  cases a.en.nm u (hs u hu) q g with
  | mk x y z w=>exact .mk (look_1.trans ((if_neg (hk u q g (.inl hu))).trans x)) ((Po.e1 a.j).pm _ _ y) z w,fun u q g h1 h2=>look_1.trans ((if_neg (hk u q g (.inr h2))).trans (a.en.fr u q g (fun c=>(hf u c).elim h1 h2) h2))⟩,a.tb,fun u h=>a.sub u (hs u h)⟩
end
inductive Sy (T:List String) (t:String):V→Prop
 | mk {k:Nat}:T[k]?=some t→Sy T t (sym k t)
noncomputable def binds:List String:=["x", "kept", "turn", "if", "begin", "lambda", "letrec"]
noncomputable def pairs:List (String×String):=[("go", "x"),("turn", "kept"),("kept", "turn")]
inductive At2 (T ns:List String):V→V→Prop
 | int {i:Int}:0≤i→i < 7→At2 T ns (.int i) (.int i)
 | bool {b:Bool}:At2 T ns (.bool b) (.bool b)
 | name {t:String} {y:V}:t∈ns→Sy T t y→At2 T ns (.tup [.str "name",.str t]) y
inductive L2 (R:V→V→Prop):List V→List V→Prop
 | nil:L2 R [] []
 | cons {x y:V} {xs ys:List V}:R x y→L2 R xs ys→L2 R (x::xs) (y::ys)
inductive R12 (R:V→V→Prop):List V→List V→Prop
 | one {x y:V}:R x y→R12 R [x] [y]
 | two {x y x2 y2:V}:R x y→R x2 y2→R12 R [x,x2] [y,y2]
inductive LoopB (T:List String) (tag name:String) (y:V):V→Prop
 | mk {i1 i2 i3 i4 i5 i6 i7:V}:Sy T "if" i1→Sy T "less" i2→Sy T name i3→Sy T "begin" i4→Sy T "say" i5→Sy T tag i6→Sy T "plus" i7→LoopB T tag name y (Mine.mk [i1,Mine.mk [i2,.int 0,i3] .empty,Mine.mk [i4,Mine.mk [i5,i3] .empty,y,Mine.mk [i6,Mine.mk [i7,i3,.int 6] .empty] .empty] .empty,.int 5] .empty)
inductive KL (T:List String) (R:V→V→Prop) (last:Option (List V)):List V→List KK→Prop
 | nil:last=none→KL T R last [] []
 | els {k:Nat} {y:V} {ps ys:List V}:last=some ps→T[k]?=some "else"→R12 R ps (y::ys)→KL T R last [] [.els k y ys]
 | cons {y:V} {ds ps ys cs:List V} {ks:List KK}:(∀ d∈ds,DOK d)→ds.length≤3→R12 R ps (y::ys)→KL T R last cs ks→KL T R last (.tup [.lst ds,.lst ps]::cs) (.cl ds y ys::ks)
noncomputable def CL (T:List String) (R:V→V→Prop) (last:Option (List V)) (cs:List V) (ks:List CK):Prop:=ks.rec (motive:=fun _=>List V→Prop) (fun cs=>cs=[]∧last=none) (fun c ks ih cs=>c.rec (motive:=fun _=>Prop)
 (fun s y ys=>∀ C:List V→Prop,(∀ {t:V} {ps cs:List V},R t s→R12 R ps (y::ys)→ih cs→C (.tup [.int 0,t,.lst ps]::cs))→C cs)
 (fun s=>∀ C:List V→Prop,(∀ {t:V} {ps cs:List V},R t s→ih cs→C (.tup [.int 1,t,.lst ps]::cs))→C cs)
 (fun s k f=>∀ C:List V→Prop,(∀ {t:V} {ps cs:List V},R t s→T[k]?=some "=>"→Sy T "say" f→ih cs→C (.tup [.int 2,t,.lst ps]::cs))→C cs)
 fun k y ys=>∃ ps,(cs=[]∧ks=[]∧last=some ps)∧T[k]?=some "else"∧R12 R ps (y::ys)) cs
inductive St2 (A:V→V→Prop):Option V→Option V→Prop
 | none:St2 A Option.none Option.none
 | some {x y:V}:A x y→St2 A (Option.some x) (Option.some y)
inductive Out (P:Nat) (e:Ev) (x y:V) (s:X) (n N':Nat):Prop
 | mk {u:V} {s':X}:LV n e.k x s.HL (u,s'.HL)→Rn P n y e.sc s.HR (u,s'.HR)→VOK u→J P e.B s' N'→Po P e.B s s'→Out P e x y s n N'
noncomputable def bg (N c:Nat):Nat→Nat
 | 0=>N
 | i+1=>bg N c i+c
theorem bg_le {N c:Nat}:∀ {j i:Nat},i≤j→bg N c i≤bg N c j
 | 0,i,h=>by cases Nat.le_zero.mp h; exact Nat.le_refl _
 | j+1,i,h=>by
  rcases Nat.lt_or_eq_of_le h with h | h
  ·exact Nat.le_trans (bg_le (Nat.le_of_lt_succ h)) (Nat.le_add_right _ _)
  ·rw [h]; exact Nat.le_refl _
theorem fit {N c:Nat} (h:bg N c 100≤room) (i:Nat) (l:Nat.ble i 100=true:=by rfl):bg N c i≤room:=Nat.le_trans (bg_le (Nat.le_of_ble_eq_true l)) h
noncomputable def Sm (T:List String) (R:List String→V→V→Prop) (n c L:Nat):Prop:=∀ {P:Nat} {e:Ev} {s:X} {N:Nat} {x y:V},Am P T e s N→R e.ns x y→e.es.length+L≤100→N+c≤room→Out P e x y s n (N+c)
section
variable {P N N' c q L n:Nat} {T:List String} {e:Ev} {s:X} {x y x2 y2 a:V} {t:String} {G:List String→V→V→Prop} {i:Nat}
theorem Out.up (o:Out P e x y s n N) (h:N≤N'):Out P e x y s n N':=by
 cases o with
 | mk a b c d e=>exact .mk a b c (d.up h) e
theorem Out.len {m:Nat} (o:Out P e x y s n N) (h:n≤m):Out P e x y s m N:=by
 cases o with
 | mk a b c d e=>exact .mk (a.le h) (b.le h) c d e
theorem am_sw (am:Am P T e s N) (h:Sy T t a) (hw:t∈words) (h1:t∉e.ns) (h2:t∉X0):R 5 .special_word [a,e.sc] s.HR (.str t,s.HR):=by
 cases h with
 | mk g=>exact sy_sw am.j.wd am.ch (pre_at am.tb g) (am.en.fr t _ g h1 h2) hw
theorem am_ns (am:Am P T e s N) (h:t∉NS0):t∉e.ns:=fun m=>h (am.sub t m)
theorem am_gl (am:Am P T e s N) (h:Sy T t a) (hw:t∉words∧t∉NS0∧t∉X0):R 5 .special_word [a,e.sc] s.HR (.str "",s.HR)∧Rn P (n+5) a e.sc s.HR (.str t,s.HR):=by
 cases h with
 | mk g=>exact sy_gl am.j.wd am.ch (pre_at am.tb g) (am.en.fr t _ g (am_ns am hw.2.1) hw.2.2) hw.1
theorem am_nm (am:Am P T e s N) {k:Nat} (ht:t∈e.ns) (g:T[k]?=some t) {Q:Prop} (c:∀ m b b' u,R 4 .scope_find [e.sc,sym k t] s.HR (locN m,s.HR)→aget (m:Int) s.pes=some (.ref b')→aget t e.es=some (.ref b)→(b,b')∈e.B→VOK u→s.HL[b]?=some (.list [u])→s.HR[b']?=some (.list [u])→Q):Q:=by
 cases am.en.nm t ht k g with
 | mk x1 x2 x3 x4=>
  cases am.j.box _ x4 with
  | mk h1 h2 h3=>exact c _ _ _ _ (find_in am.j.wd am.ch .s x1) x2 x3 x4 h1 h2 h3
theorem sm_at (h:At2 T e.ns x y) (am:Am P T e s N):Out P e x y s (q+5) N:=by
 cases h with
 | int a b=>exact .mk ((lv_at rfl).le (Nat.le_add_left_of_le (by decide))) (rn_at rfl) (.int a b) am.j .refl
 | bool=>exact .mk ((lv_at rfl).le (Nat.le_add_left_of_le (by decide))) (rn_at rfl) .bool am.j .refl
 | name ht hy=>
  cases hy with
  | mk g=>exact am_nm am ht g fun m b b' u f hm hb _ vo hl hr => .mk ((lv_name am.kd hb hl).le (Nat.le_add_left_of_le (by decide))) (rn_loc .s am.ch.obj f am.j.pl hm hr) vo am.j .refl
noncomputable def X.say (s:X) (z:Int):X:=⟨s.HL.set 8 (.list ((s.told++[z]).map .int)),s.HR.set 9 (.list ((s.told++[z]).map .int)),s.w,s.pes,s.told++[z]⟩
theorem J.say {B:List (Nat×Nat)} {z:Int} (j:J P B s N):J P B (s.say z) (N+1):=
 ⟨set_at j.s8,j.wd.of fun i _ h=>at_s (Nat.ne_of_lt (Nat.lt_trans h (by decide))),(at_s (Nat.ne_of_gt j.P9)).trans j.pl,j.pk,set_at j.td,j.P9,Nat.le_succ_of_le j.nn,Nat.le_succ_of_le j.pn,Nat.le_trans (Nat.le_of_eq List.length_append) (Nat.succ_le_succ j.tn),fun p hp=>(j.box p hp).at_ (fun h _=>at_s (Nat.ne_of_gt h)) fun h _ _=>at_s (Nat.ne_of_gt h),j.inj⟩
theorem Po.say {B:List (Nat×Nat)} {z:Int}:Po P B s (s.say z):=⟨Nat.le_of_eq List.length_set.symm,Nat.le_of_eq List.length_set.symm,fun _ _ h _=>at_s h,fun _ _ h _ _=>at_s (Nat.ne_of_gt h),Nat.le_refl _,List.prefix_refl _,fun _ _ h=>h,at_s (by decide)⟩
noncomputable def X.setb (s:X) (b b':Nat) (u:V):X:=⟨s.HL.set b (.list [u]),s.HR.set b' (.list [u]),s.w,s.pes,s.told⟩
theorem J.setb {B:List (Nat×Nat)} {b b':Nat} {u:V} (j:J P B s N) (h:(b,b')∈B) (hu:VOK u):J P B (s.setb b b' u) N:=by
 cases j.box _ h with
 | mk g1 g2 g3 g4 g5 g6=>
  refine ⟨(at_s (Nat.ne_of_lt g4)).trans j.s8,j.wd.of fun i _ h=>at_s (Nat.ne_of_lt (Nat.lt_trans h (Nat.lt_trans (by decide) g5))),(at_s (Ne.symm g6)).trans j.pl,j.pk,(at_s (Nat.ne_of_lt g5)).trans j.td,j.P9,j.nn,j.pn,j.tn,fun p hp=>?_,j.inj⟩
  by_cases c:b=p.1
  ·have c':b'=p.2:=(j.inj _ h p hp).mp c
   subst c; subst c'
   exact .mk hu (set_at g2) (set_at g3) g4 g5 g6
  ·have c':¬ b'=p.2:=fun x=>c ((j.inj _ h p hp).mpr x)
   exact (j.box p hp).at_ (fun _ _=>at_s (Ne.symm c)) fun _ _ _=>at_s (Ne.symm c')
theorem Po.setb {B:List (Nat×Nat)} {b b':Nat} {u:V} (j:J P B s N) (h:(b,b')∈B):Po P B s (s.setb b b' u):=⟨Nat.le_of_eq List.length_set.symm,Nat.le_of_eq List.length_set.symm,fun _ _ _ g=>at_s (g _ h),fun _ _ _ _ g=>at_s (g _ h),Nat.le_refl _,List.prefix_refl _,fun _ _ h=>h,at_s (Nat.ne_of_lt (Nat.lt_trans (by decide) (j.box _ h).l9))⟩
end
section
variable {P N N' c q L n m:Nat} {T:List String} {e:Ev} {s:X} {x y x2 y2 x3 y3 a z v:V} {t:String} {G:List String→V→V→Prop} {i:Nat} {H:Hp} {sc:V} {r:V×Hp}
theorem ru (h:Rn P (q+5) y sc H r):R (q+25) .law_run (runA P y sc) H r:=(Rn.run (n:=q+4) h).up (j:=19)
theorem up20:q+5≤q+25:=Nat.add_le_add_left (by decide) q
theorem lk25 {a:Nat} (h:Nat.ble a 25=true:=by rfl):a≤q+25:=Nat.le_trans (Nat.le_of_ble_eq_true h) (Nat.le_add_left 25 q)
variable (S:Sm T G (q+5) c L) (hc:32≤c) (am:Am P T e s N) (hL:e.es.length+L≤100) (hN:bg N c 100≤room)
include S am hL hN
theorem sm_plus (h:Sy T "plus" a) (hx:G e.ns x y) (h2:At2 T e.ns x2 y2):Out P e (.tup [.str "plus",x,x2]) (mk [a,y,y2] .empty) s (q+25) (bg N c 1):=by
 cases S am hx hL (fit hN 1) with
 | mk lv r vo j p=>
  cases sm_at (q:=q) h2 (am.nx p j) with
  | mk lv2 r2 vo2 j2 p2=>
   have g:=am_gl (n:=q) am h (by decide)
   exact .mk ((lv_plus lv lv2 vo vo2).up (j:=14)) (rn_b2 (k:=q+20) g.1 (ru g.2) (ru r) (ru r2) ((c_plus vo vo2).le lk25)) .fmod j2 (p.trans p2)
theorem sm_less (h:Sy T "less" a) (hx:G e.ns x y) (h2:At2 T e.ns x2 y2):Out P e (.tup [.str "less",x,x2]) (mk [a,y,y2] .empty) s (q+25) (bg N c 1):=by
 cases S am hx hL (fit hN 1) with
 | mk lv r vo j p=>
  cases sm_at (q:=q) h2 (am.nx p j) with
  | mk lv2 r2 vo2 j2 p2=>
   have g:=am_gl (n:=q) am h (by decide)
   exact .mk ((lv_less lv lv2 vo vo2).up (j:=14)) (rn_b2 (k:=q+20) g.1 (ru g.2) (ru r) (ru r2) ((c_less vo vo2).le lk25)) .bool j2 (p.trans p2)
theorem sm_set (h:Sy T "set!" a) (ht:t∈e.ns) (hz:Sy T t z) (hx:G e.ns x y):Out P e (.tup [.str "set!",.str t,x]) (mk [a,z,y] .empty) s (q+25) (bg N c 1):=by
 cases S am hx hL (fit hN 1) with
 | mk lv r vo j p=>
  cases hz with
  | mk g=>exact am_nm (am.nx p j) ht g fun mm b b' u f hm hb hB _ hl hr => .mk ((lv_set lv (am.nx p j).kd hb hl).up (j:=14)) (rn_set (k:=q+20) (am_sw am h (by decide) (am_ns am (by decide)) (by decide)) am.ch.obj (ru r) f j.pl hm hr) .unspec (j.setb hB vo) (p.trans (.setb j hB))
theorem sm_if (h:Sy T "if" a) (hi : "if"∉e.ns) (hx:G e.ns x y) (hx2:G e.ns x2 y2) (h3:At2 T e.ns x3 y3):Out P e (.tup [.str "if",x,x2,x3]) (mk [a,y,y2,y3] .empty) s (q+25) (bg N c 2):=by
 cases S am hx hL (fit hN 1) with
 | @mk u s' lv r vo j p=>
  have am2:=am.nx p j
  have sw:=am_sw am h (by decide) hi (by decide)
  cases f:isF u with
  | true=>
   cases sm_at (q:=q) h3 am2 with
   | mk lv2 r2 vo2 j2 p2=>exact .mk ((lv_if (z:=true) lv f lv2).up (j:=14)) (rn_if (k:=q+20) (z:=false) sw (ru r) (isnot f) (r2.le up20)) vo2 (j2.up (Nat.le_add_right _ _)) (p.trans p2)
  | false=>
   cases S am2 hx2 hL (fit hN 2) with
   | mk lv2 r2 vo2 j2 p2=>exact .mk ((lv_if (z:=false) lv f lv2).up (j:=14)) (rn_if (k:=q+20) (z:=true) sw (ru r) (isnot f) (r2.le up20)) vo2 j2 (p.trans p2)
include hc
theorem sm_say (h:Sy T "say" a) (hx:G e.ns x y):Out P e (.tup [.str "say",x]) (mk [a,y] .empty) s (q+25) (bg N c 2):=by
 cases S am hx hL (fit hN 1) with
 | mk lv r vo j p=>
  have g:=am_gl (n:=q) am h (by decide)
  exact .mk ((lv_say lv vo j.s8 (Nat.le_trans j.tn (fit hN 1))).up (j:=14)) (rn_b1 (k:=q+20) g.1 (ru g.2) (ru r) ((c_say vo j.td (Nat.le_trans j.tn (fit hN 1))).le lk25)) vo (j.say.up (Nat.add_le_add_left (Nat.le_trans (by decide) hc) _)) (p.trans .say)
end
noncomputable def Rg (fs:List (List (Int×V))) (lo hi:Nat):Prop:=∀ m,lo < m→m≤hi→look fs (keyA m)=none
inductive OutA (P:Nat) (e:Ev) (d:Bool) (xs:List V) (f v:V) (s:X) (n m N':Nat):Prop
 | mk {u:V} {s':X}:AndOr n e.k d xs f s.HL u s'.HL→Rn P m v e.sc s.HR (u,s'.HR)→VOK u→J P e.B s' N'→Po P e.B s s'→OutA P e d xs f v s n m N'
section
variable {P N N' c q L n m:Nat} {T:List String} {e:Ev} {s:X} {x y x2 y2 x3 y3 a z v u f:V} {t wd:String} {G:List String→V→V→Prop} {i:Nat} {H:Hp} {sc:V} {r:V×Hp} {w w0 w1:W} {ys xs:List V} {d:Bool}
theorem IsAl.wa {w1 w2:W} {fs:List (List (Int×V))} {ns:List String} (h:IsAl w1 w2 t a) (hr:Rg fs w1.L w2.L) (p:w2.ns<+:ns):Wa ns fs t a:=by
 cases h with
 | mk x y z=>exact .mk (pre_at p z) (hr _ x y)
theorem IsAl.le {w1 w2:W} (h:IsAl w1 w2 t a):w1.L≤w2.L∧w1.ns<+:w2.ns:=by
 cases h with
 | mk x y _ z=>exact ⟨Nat.le_of_lt (Nat.lt_of_lt_of_le x y),z⟩
theorem AndF.le (h:AndF w0 w1 ys v):w0.L≤w1.L:=by
 induction h with
 | one=>exact Nat.le_refl _
 | cons _ i ih=>exact Nat.le_trans ih i.le.1
theorem OrF.le (h:OrF w0 w1 ys v):w0.L≤w1.L:=by
 induction h with
 | one=>exact Nat.le_refl _
 | cons _ i j k ih=>exact Nat.le_trans ih (Nat.le_trans i.le.1 (Nat.le_trans j.le.1 k.le.1))
theorem bg_s:∀ {k:Nat},bg (N+c) c k=bg N c (k+1)
 | 0=>rfl
 | _+1=>congrArg (·+c) bg_s
theorem isF_of (h:isF u=true):u = .bool false:=by
 cases u with
 | bool b=>cases b <;> first | rfl | cases h
 | _=>cases h
theorem ao_one {n k:Nat} {H1:Hp} (h:LV n k x H (u,H1)):AndOr n k d [x] f H u H1:=by
 cases c:isF u == d with
 | true=>exact .stop h c
 | false=>exact .go h c .nil
variable (S:Sm T G (q+5) c L)
include S
theorem and_sim (hA:AndF w0 w1 ys v):∀ {xs:List V} {s:X} {N:Nat} {f:V},L2 (G e.ns) xs ys→Am P T e s N→e.es.length+L≤100→Rg e.fs w0.L w1.L→w1.ns<+:s.w.ns→bg N c xs.length≤room→OutA P e true xs f v s (q+5) (q+25) (bg N c xs.length):=by
 induction hA with
 | one=>
  intro xs s N f h am hL hr hp hN
  cases h with
  | cons h t=>
   cases t
   cases S am h hL hN with
   | mk lv r vo j p=>exact .mk (ao_one lv) (r.le up20) vo j p
 | cons hA ia ih=>
  intro xs s N f h am hL hr hp hN
  cases h with
  | @cons x _ xs _ h t=>
   have hN':bg (N+c) c xs.length≤room:=bg_s▸hN
   cases S am h hL (Nat.le_trans (bg_le (Nat.succ_le_succ (Nat.zero_le xs.length))) hN) with
   | @mk u s1 lv r vo j p=>
    have sw:=al_sw am.j.wd am.ch (ia.wa (fun m h=>hr m (Nat.lt_of_le_of_lt hA.le h)) hp) (by decide)
    cases g:isF u with
    | true=>
     cases isF_of g
     exact .mk (.stop lv rfl) (rn_if (k:=q+20) (z:=false) sw (ru r) (isnot g) (rn_at rfl)) .bool (j.up (bg_le (i:=1) (Nat.succ_le_succ (Nat.zero_le _)))) p
    | false=>
     cases ih (f:=u) t (am.nx p j) hL (fun m h h2=>hr m h (Nat.le_trans h2 ia.le.1)) (ia.le.2.trans (hp.trans p.ns)) hN' with
     | mk ao r2 vo2 j2 p2=>exact .mk (.go lv (by rw [g]; rfl) ao) (rn_if (k:=q+20) (z:=true) sw (ru r) (isnot g) r2) vo2 (bg_s▸j2) (p.trans p2)
omit S in
theorem am_own {mk':Nat} (am:Am P T e s N) (hm:mk'≤s.w.L):Am P T (e.hid e.ns P s (keyA mk') u) (s.e1 P (keyA mk') u) (N+1):=
 am.hid (fun _ h=>h) (fun _ h => .inl h) (fun _ _ _ _=>keyS_A.symm) fun m h c=>Nat.lt_irrefl _ (Nat.lt_of_lt_of_le h (keyA_inj c▸hm))
omit S in
theorem rd_own {j:Nat} {b:V} {mk':Nat} (am:Am P T (e.hid e.ns P s (keyA mk') u) (s.e1 P (keyA mk') u) (N+1)) (hj:J P e.B s N):Rn P (j+5) (als mk' b) ((s.app.bd P s.HR.length (keyA mk') [] u).nsc e.sc s.HR.length) (s.e1 P (keyA mk') u).HR (u,(s.e1 P (keyA mk') u).HR):=
 rn_loc .a am.ch.obj (find_in am.j.wd am.ch .a (look_1.trans (if_pos rfl))) am.j.pl (e1_box hj).2 (e1_box hj).1
omit S in
theorem rn_let1 {i1 la v1:V} {k1:Int} {H0:Hp} {ys:List V} {f:V} {H1:Hp} (sw:R 5 .special_word [la,sc] H0 (.str "lambda",H0)) (hl:(la::mk [i1] .empty::ys).length≤room) (e:R (q+25) .law_run (runA P a sc) H0 (v1,s.HR)) (b1:R 4 .law_bind [i1,v1,inS sc s.HR.length,.ref P,.ref 6] s.app.HR (.none,(s.app.bd P s.HR.length k1 [] v1).HR)) (hn:∀ y∈ys,ND (s.e1 P k1 v1).HR ((s.app.bd P s.HR.length k1 [] v1).nsc sc s.HR.length) y) (h:Bdy P (q+6) ((s.app.bd P s.HR.length k1 [] v1).nsc sc s.HR.length) ys (s.e1 P k1 v1).HR f H1) (hk:Rn P (q+25) f ((s.app.bd P s.HR.length k1 [] v1).nsc sc s.HR.length) H1 r):Rn P (q+25) (mk [mk (la::mk [i1] .empty::ys) .empty,a] .empty) sc H0 r:=
 rn_c1 (k:=q+20) ((sw_not rfl).le (by decide)) (ru (q:=q) (rn_lambda (k:=q) sw hl)) e ((ent1 (m:=q+5) (Nat.le_add_left 5 q) b1 hn h).up (j:=18)) hk
omit S in
inductive Kp (q P:Nat) (T:List String) (e:Ev) (s s1:X) (u:V) (N:Nat) (w0 w1:W) (a l k p:V):Prop
 | mk {key:Int}:Am P T (e.hid e.ns P s1 key u) (s1.e1 P key u) (N+1)→Rg (e.hid e.ns P s1 key u).fs w0.L w1.L→w1.L≤s1.w.L→w1.ns<+:s1.w.ns→R 5 .special_word [a,(e.hid e.ns P s1 key u).sc] (s1.e1 P key u).HR (.str "if",(s1.e1 P key u).HR)→(∀ m,Rn P (m+5) k (e.hid e.ns P s1 key u).sc (s1.e1 P key u).HR (u,(s1.e1 P key u).HR))→(∀ {b:List V} {r:V×Hp},Rn P (q+25) (Mine.mk (a::b) .empty) (e.hid e.ns P s1 key u).sc (s1.e1 P key u).HR r→Rn P (q+25) (Mine.mk [Mine.mk [l,Mine.mk [k] .empty,Mine.mk (a::b) .empty] .empty,p] .empty) e.sc s.HR r)→Kp q P T e s s1 u N w0 w1 a l k p
omit S in
theorem kept_sim {s1:X} {wa wb wc:W} {k l p:V} (am:Am P T e s N') (hr:Rg e.fs w0.L w1.L) (hw:w1.L≤s.w.L) (hp:w1.ns<+:s.w.ns) (h0:w0.L≤wa.L) (ik:IsAl wa wb "kept" k) (ia:IsAl wb wc "if" a) (il:IsAl wc w1 "lambda" l) (r:Rn P (q+5) p e.sc s.HR (u,s1.HR)) (j:J P e.B s1 N) (po:Po P e.B s s1) (hN:N+1≤room):Kp q P T e s s1 u N w0 wa a l k p:=by
 cases ik with
 | @mk mk' kb g1 g2 g3 g4=>
  have l3:=Nat.le_trans ia.le.1 il.le.1
  have ab:=Nat.le_of_lt (Nat.lt_of_lt_of_le g1 g2)
  have mw:=Nat.le_trans g2 (Nat.le_trans l3 (Nat.le_trans hw po.L))
  have am2:=am_own (u:=u) (am.nx po j) mw
  have pw:=ia.le.2.trans (il.le.2.trans (hp.trans po.ns))
  have lk:∀ m,m≠mk'→look ([]::aput (keyA mk') (locN (s1.w.L+1)) []::e.fs) (keyA m)=look e.fs (keyA m):=fun m h=>look_1.trans (if_neg fun c=>h (keyA_inj c).symm)
  have si:=al_sw am2.j.wd am2.ch (ia.wa (fun m h h2=>(lk m fun c=>Nat.not_le_of_lt h (c▸g2)).trans (hr m (Nat.lt_of_le_of_lt (Nat.le_trans h0 ab) h) (Nat.le_trans h2 il.le.1))) (il.le.2.trans (hp.trans po.ns))) (t := "if") (by decide)
  exact .mk am2 (fun m h h2=>(lk m fun c=>Nat.not_le_of_lt g1 (c▸h2)).trans (hr m h (Nat.le_trans h2 (Nat.le_trans ab l3)))) (Nat.le_trans ab (Nat.le_trans l3 (Nat.le_trans hw po.L))) (g4.trans pw) si (fun m=>rd_own am2 j) fun hh=>rn_let1 (s:=s1) (al_sw am.j.wd am.ch (il.wa (fun m h=>hr m (Nat.lt_of_le_of_lt (Nat.le_trans h0 (Nat.le_trans ab ia.le.1)) h)) hp) (by decide)) (rm rfl) (ru r) (bd_run j.app hN .a at_n j.l9 (Nat.ne_of_gt j.lP) (rm rfl)) (fun y hy=>List.mem_singleton.mp hy ▸ .pr si (by decide)) .one hh
theorem or_sim (hc:32≤c) (hA:OrF w0 w1 ys v):∀ {xs:List V} {e:Ev} {s:X} {N:Nat} {f:V},L2 (G e.ns) xs ys→Am P T e s N→e.es.length+L≤100→Rg e.fs w0.L w1.L→w1.L≤s.w.L→w1.ns<+:s.w.ns→bg N c (2*xs.length)≤room→OutA P e false xs f v s (q+5) (q+25) (bg N c (2*xs.length)):=by
 induction hA with
 | one=>
  intro xs e s N f h am hL hr hw hp hN
  cases h with
  | cons h t=>
   cases t
   cases S am h hL (Nat.le_trans (bg_le (i:=1) (j:=2) (Nat.le_succ 1)) hN) with
   | mk lv r vo j p=>exact .mk (ao_one lv) (r.le up20) vo (j.up (Nat.le_add_right _ _)) p
 | @cons w1 w2 w3 w4 ps v k a l p hA ik ia il ih=>
  intro xs e s N f h am hL hr hw hp hN
  cases h with
  | @cons x _ xs _ h t=>
   have hN':bg (N+c+c) c (2*xs.length)≤room:=by rw [bg_s,bg_s]; exact hN
   have lc:∀ i,i≤2→bg N c i≤bg N c (2*(xs.length+1)):=fun i h=>bg_le (Nat.le_trans h (Nat.mul_le_mul_left 2 (Nat.succ_le_succ (Nat.zero_le xs.length))))
   have jj:N+c+1≤N+c+c:=Nat.add_le_add_left (Nat.le_trans (by decide) hc) _
   cases S am h hL (Nat.le_trans (lc 1 (by decide)) hN) with
   | @mk u s1 lv r vo j po=>
    cases kept_sim am hr hw hp hA.le ik ia il r j po (Nat.le_trans jj (Nat.le_trans (lc 2 (Nat.le_refl _)) hN)) with
    | @mk key am2 hr2 hw2 hp2 si rk whole=>
     have p2:=po.trans (.e1 (P:=P) (key:=key) (v:=u) j)
     cases g:isF u with
     | false=>exact .mk (s':=s1.e1 P key u) (.stop lv (by rw [g]; rfl)) (whole (rn_if (k:=q+20) (z:=true) si (ru (rk q)) (isnot g) (rk (q+20)))) vo (am2.j.up (Nat.le_trans jj (lc 2 (Nat.le_refl _)))) p2
     | true=>
      cases ih (e:=e.hid e.ns P s1 key u) (f:=u) t (am2.up jj) hL hr2 (Nat.le_succ_of_le hw2) hp2 hN' with
      | mk ao r3 vo3 j3 p3=>exact .mk (.go lv (by rw [g]; rfl) ao) (whole (rn_if (k:=q+20) (z:=false) si (ru (rk q)) (isnot g) r3)) vo3 (by rw [bg_s,bg_s] at j3; exact j3) (p2.trans p3)
omit S in
theorem L2.len {Q:V→V→Prop}:∀ {xs ys:List V},L2 Q xs ys→xs.length=ys.length
 | _,_,.nil=>rfl
 | _,_,.cons _ t=>congrArg (·+1) t.len
theorem sm_ao (hc:32≤c) (am:Am P T e s N) (hL:e.es.length+L≤100) (hN:bg N c 100≤room) (hw:wd = "and"∨wd = "or") (h:Sy T wd a) (hx:L2 (G e.ns) xs ys) (hl:xs.length≤3):Out P e (.tup [.str wd,.lst xs]) (mk (a::ys) .empty) s (q+25) (bg N c 7):=by
 have hlen:=hx.len
 have hl2:ys.length≤3:=hlen▸hl
 have hr:(a::ys).length≤room:=Nat.le_trans (Nat.succ_le_succ hl2) (rm rfl)
 have hN1:N+7≤room:=Nat.le_trans (Nat.add_le_add_left (Nat.le_trans (by decide) hc) N) (fit hN 1)
 have hb:s.w.ns.length+7≤room:=Nat.le_trans (Nat.add_le_add_right am.j.nn 7) hN1
 have rg:∀ w':W,Rg e.fs s.w.L w'.L:=fun _ m h _=>am.fa m h
 have b1:∀ {b},b≤7→N+b≤bg N c 1:=fun h=>Nat.add_le_add_left (Nat.le_trans h (Nat.le_trans (by decide) hc)) N
 rcases hw with rfl | rfl
 ·have sw:=am_sw am h (by decide) (am_ns am (by decide)) (by decide)
  cases hx with
  | nil=>exact .mk ((lv_ao (n:=q+5) (.inl rfl) .nil).up (j:=14)) (rn_turn (k:=q+20) (by decide) sw hr and_0 lk25 (rn_at rfl)) .bool (am.j.up (bg_le (i:=0) (Nat.zero_le _))) .refl
  | cons hx t=>
   exact and_eq (sc:=e.sc) (x:=a) am.j.wd (bl hb) hl2 (List.cons_ne_nil _ _) fun v w' H' ee st A=>by
    cases and_sim S A (f := .bool true) (.cons hx t) ((am.st st).up (b1 (by decide))) hL (rg _) (List.prefix_refl _) (Nat.le_trans (Nat.le_of_eq (bg_s (N:=N))) (Nat.le_trans (bg_le (j:=100) (Nat.le_trans (Nat.succ_le_succ hl) (by decide))) hN)) with
    | mk ao r vo j p=>exact .mk ((lv_ao (.inl rfl) ao).up (j:=14)) (rn_turn (k:=q+20) (by decide) sw hr ee lk25 r) vo (j.up (Nat.le_trans (Nat.le_of_eq (bg_s (N:=N))) (bg_le (Nat.succ_le_succ (Nat.le_trans hl (by decide)))))) (.trans (.st st) p)
 ·have sw:=am_sw am h (by decide) (am_ns am (by decide)) (by decide)
  cases hx with
  | nil=>exact .mk ((lv_ao (n:=q+5) (.inr rfl) .nil).up (j:=14)) (rn_turn (k:=q+20) (by decide) sw hr or_0 lk25 (rn_at rfl)) .bool (am.j.up (bg_le (i:=0) (Nat.zero_le _))) .refl
  | cons hx t=>
   exact or_eq (sc:=e.sc) (x:=a) am.j.wd (bl hb) hl2 (List.cons_ne_nil _ _) fun v w' H' ee st A=>by
    cases or_sim S hc A (f := .bool false) (.cons hx t) ((am.st st).up (b1 (by decide))) hL (rg _) (Nat.le_refl _) (List.prefix_refl _) (Nat.le_trans (Nat.le_of_eq (bg_s (N:=N))) (Nat.le_trans (bg_le (j:=100) (Nat.le_trans (Nat.succ_le_succ (Nat.mul_le_mul_left 2 hl)) (by decide))) hN)) with
    | mk ao r vo j p=>exact .mk ((lv_ao (.inr rfl) ao).up (j:=14)) (rn_turn (k:=q+20) (by decide) sw hr ee lk25 r) vo (j.up (Nat.le_trans (Nat.le_of_eq (bg_s (N:=N))) (bg_le (Nat.succ_le_succ (Nat.mul_le_mul_left 2 hl))))) (.trans (.st st) p)
end
noncomputable abbrev X.lf (s:X) (H:Hp):X:=⟨H,s.HR,s.w,s.pes,s.told⟩
inductive Hd (T ns:List String):V→Prop
 | at {y:V}:isAt y=true→Hd T ns y
 | nm {k:Nat} {t:String}:T[k]?=some t→t∈NS0→Hd T ns (sym k t)
 | pr {a:V} {as:List V} {t:String}:Sy T t a→t∉ns∨t∉NS0→t∉X0→(t == "define")=false→Hd T ns (mk (a::as) .empty)
theorem at_np {y:V} (h:isAt y=true):(Ty.cls .pair).has y=some false:=by cases y <;> first | rfl | cases h
inductive OutB (P:Nat) (e:Ev) (xs ys:List V) (s:X) (n m N':Nat):Prop
 | mk {u f:V} {s':X} {H1:Hp}:Sq n e.k xs s.HL u s'.HL→Bdy P (n+1) e.sc ys s.HR f H1→Rn P m f e.sc H1 (u,s'.HR)→VOK u→J P e.B s' N'→Po P e.B s s'→OutB P e xs ys s n m N'
section
variable {P N N' c q L n m K b b2 kt kt2:Nat} {T:List String} {e:Ev} {s s' s2:X} {x y x2 y2 x3 y3 a z v u u2 f:V} {t t2 wd:String} {G:List String→V→V→Prop} {i:Nat} {H H':Hp} {sc:V} {r:V×Hp} {w w0 w1:W} {ys xs:List V} {d:Bool} {B B':List (Nat×Nat)} {es es':List (String×V)} {ns1:List String} {key k2:Int}
theorem nd_of (am:Am P T e s N) (h:Hd T e.ns y):ND s.HR e.sc y:=by
 cases h with
 | «at» h=>exact .no (at_np h)
 | nm=>exact .no rfl
 | @pr a as t h h1 h2 h3=>
  have h1':=h1.elim id (am_ns am)
  by_cases hw:t∈words
  ·exact .pr (am_sw am h hw h1' h2) h3
  ·cases h with
   | mk g=>exact .pr (sy_gl (n:=0) am.j.wd am.ch (pre_at am.tb g) (am.en.fr t _ g h1' h2) hw).1 (by decide)
theorem body_sim (S:Sm T G (q+5) c L) (am:Am P T e s N) (hL:e.es.length+L≤100) (hN:bg N c 2≤room) (hx:R12 (G e.ns) xs ys):OutB P e xs ys s (q+5) (q+25) (bg N c 2):=by
 cases hx with
 | one hx=>
  cases S am hx hL (Nat.le_trans (bg_le (i:=1) (by decide)) hN) with
  | mk lv r vo j p=>exact .mk (.one lv) .one (r.le up20) vo (j.up (bg_le (i:=1) (by decide))) p
 | two hx hx2=>
  cases S am hx hL (Nat.le_trans (bg_le (i:=1) (by decide)) hN) with
  | mk lv r vo j p=>
   cases S (am.nx p j) hx2 hL hN with
   | mk lv2 r2 vo2 j2 p2=>exact .mk (.two lv lv2) (.two (Rn.run (n:=q+4) r)) (r2.le up20) vo2 j2 (p.trans p2)
theorem R12.nd (hG:∀ {ns x y},G ns x y→Hd T ns y) (am:Am P T e s N) (hx:R12 (G e.ns) xs ys):∀ y∈ys,ND s.HR e.sc y:=by
 cases hx with
 | one h=>exact fun y hy=>List.mem_singleton.mp hy▸nd_of am (hG h)
 | two h h2=>exact fun y hy=>(List.mem_cons.mp hy).elim (fun e=>e▸nd_of am (hG h)) fun hy=>List.mem_singleton.mp hy▸nd_of am (hG h2)
theorem R12.len {Q:V→V→Prop} (hx:R12 Q xs ys):ys.length≤2∧1≤ys.length:=by cases hx <;> exact ⟨Nat.le_of_ble_eq_true rfl,Nat.le_of_ble_eq_true rfl⟩
theorem J.lf (j:J P B s N) (hk:∀ i,i < s.HL.length→i≠K→H[i]?=s.HL[i]?) (h8:8≠K) (hB:∀ p∈B,p.1≠K):J P B (s.lf H) N:=⟨(hk 8 (lt_at j.s8) h8).trans j.s8,j.wd,j.pl,j.pk,j.td,j.P9,j.nn,j.pn,j.tn,fun p hp=>(j.box p hp).at_ (fun _ h=>hk _ h (hB p hp)) fun _ _ _=>rfl,j.inj⟩
theorem J.pop (j:J P B' s N) (h:∀ p∈B,p∈B'):J P B s N:=⟨j.s8,j.wd,j.pl,j.pk,j.td,j.P9,j.nn,j.pn,j.tn,fun p hp=>j.box p (h p hp),fun p hp q hq=>j.inj p (h p hp) q (h q hq)⟩
theorem J.ext (j:J P B s N) (x:Bx P s (b,b2)) (h1:∀ p∈B,p.1≠b) (h2:∀ p∈B,p.2≠b2):J P ((b,b2)::B) s N:=by
 refine ⟨j.s8,j.wd,j.pl,j.pk,j.td,j.P9,j.nn,j.pn,j.tn,fun p hp=>?_,fun p hp q hq=>?_⟩
 ·cases hp with
  | head=>exact x
  | tail _ hp=>exact j.box p hp
 ·cases hp with
  | head=>
   cases hq with
   | head=>exact ⟨fun _=>rfl,fun _=>rfl⟩
   | tail _ hq=>exact ⟨fun e=>absurd e.symm (h1 q hq),fun e=>absurd e.symm (h2 q hq)⟩
  | tail _ hp=>
   cases hq with
   | head=>exact ⟨fun e=>absurd e (h1 p hp),fun e=>absurd e (h2 p hp)⟩
   | tail _ hq=>exact j.inj p hp q hq
theorem Po.lf (x:Po P B s s') (hl:s'.HL.length≤H.length) (hk:∀ i,i < s'.HL.length→i≠K→H[i]?=s'.HL[i]?) (h:s.HL.length≤K):Po P B s (s'.lf H):=⟨Nat.le_trans x.ll hl,x.lr,fun i a b c=>(hk i (Nat.lt_of_lt_of_le a x.ll) (Nat.ne_of_lt (Nat.lt_of_lt_of_le a h))).trans (x.kl i a b c),x.kr,x.L,x.ns,x.pm,x.k8⟩
theorem am_dict (a:Am P T e s N):Am P T e (s.lf (s.HL++[.dictS e.es])) N∧Am P T ⟨e.ns,s.HL.length,e.es,e.sc,e.fs,e.B⟩ (s.lf (s.HL++[.dictS e.es])) N∧Po P e.B s (s.lf (s.HL++[.dictS e.es])):=by
 have g:∀ i,i < s.HL.length→i≠s.HL.length→(s.HL++[AO.dictS e.es])[i]?=s.HL[i]?:=fun i h _=>at_l h
 have p:Po P e.B s (s.lf (s.HL++[.dictS e.es])):=Po.refl.lf (by rw [List.length_append]; exact Nat.le_add_right _ _) g (Nat.le_refl _)
 have j:=a.j.lf g (Nat.ne_of_lt (lt_at a.j.s8)) fun p hp=>Nat.ne_of_lt (a.j.box p hp).lt.1
 exact ⟨a.nx p j,⟨j,at_n,a.ch,a.fa,a.en,a.tb,a.sub⟩,p⟩
theorem lb_at (i:Nat) (h:i < H.length) (hK:i≠K):(lbH H K es t u)[i]?=H[i]?:=(at_s hK).trans (at_l h)
theorem lb_K (h:K < H.length):(lbH H K es t u)[K]?=some (.dictS (aput t (.ref H.length) es)):=List.getElem?_set_self (by rw [List.length_append]; exact Nat.lt_add_right _ h)
theorem lb_n (h:K < H.length):(lbH H K es t u)[H.length]?=some (.list [u]):=(at_s (Nat.ne_of_gt h)).trans at_n
theorem lb_len:(lbH H K es t u).length=H.length+1:=by rw [List.length_set,List.length_append]; rfl
noncomputable abbrev Ev.nam (e:Ev) (P:Nat) (s:X) (K:Nat) (es:List (String×V)) (t:String) (kt b:Nat) (u:V):Ev:=⟨e.ns++[t],K,es,(s.app.bd P s.HR.length (keyS kt) [] u).nsc e.sc s.HR.length,[]::aput (keyS kt) (locN (s.w.L+1)) []::e.fs,(b,s.HR.length+1)::e.B⟩
theorem Am.nam (a:Am P T e s N) (j:J P e.B (s.lf H) N) (hK:H[K]?=some (.dictS es)) (e1:aget t es=some (.ref b)) (e2:∀ o,o≠t→aget o es=aget o e.es) (hb:H[b]?=some (.list [u])) (h8:8 < b) (hB:∀ p∈e.B,p.1≠b) (g:T[kt]?=some t) (ht:t∈NS0) (vo:VOK u):Am P T (e.nam P s K es t kt b u) ((s.lf H).e1 P (keyS kt) u) (N+1):=by
 have bx:=e1_box (key:=keyS kt) (v:=u) j
 have l9:=a.j.l9
 have lP:=a.j.lP
 refine ⟨j.e1.ext (.mk vo hb bx.1 h8 (Nat.lt_succ_of_lt l9) (Nat.ne_of_gt (Nat.lt_succ_of_lt lP))) hB fun p hp=>Nat.ne_of_lt (Nat.lt_succ_of_lt (a.j.box p hp).lt.2),hK,a.ch.e1 (s:=s.lf H) j,fun m h=>look_1.trans ((if_neg keyS_A).trans (a.fa m (Nat.lt_of_succ_lt h))),en_push a.en (fun g'=>T_inj a g' g) g (fun _ h => .tail _ h) (Po.e1 (key:=keyS kt) (v:=u) j).pm (fun q h=>look_1.trans (if_neg fun c=>h (keyS_inj c).symm)) (fun _ => .mk (look_1.trans (if_pos rfl)) bx.2 e1 (.head _)) (fun o ho hne=>⟨(List.mem_append.mp ho).elim id fun h=>absurd (List.mem_singleton.mp h) hne,e2 o hne⟩) (fun o ho => .inl (List.mem_append_left _ ho)) (.inl (List.mem_append_right _ (.head _))),a.tb,fun o ho=>(List.mem_append.mp ho).elim (a.sub o) fun h=>List.mem_singleton.mp h▸ht⟩
end
theorem l14 {a L:Nat} (h:a+(L+4)≤100):a+1+L≤100:=Nat.le_trans (Nat.le_trans (Nat.le_of_eq (by rw [Nat.add_assoc,Nat.add_comm 1])) (Nat.add_le_add_left (Nat.add_le_add_left (by decide:1≤4) L) a)) h
section
variable {P N N' c q L n m K b b2 kt kt2:Nat} {T:List String} {e:Ev} {s s' s2:X} {x y x2 y2 x3 y3 a z v u u2 f la:V} {t t2 wd:String} {G:List String→V→V→Prop} {i:Nat} {H H' H1:Hp} {sc:V} {r:V×Hp} {w w0 w1:W} {ys xs:List V} {d:Bool} {B B':List (Nat×Nat)} {es es':List (String×V)} {ns1:List String} {key k2:Int}
noncomputable abbrev Ev.ze (e:Ev) (s:X):Ev:=⟨e.ns,e.k,e.es,s.app.nsc e.sc s.HR.length,[]::[]::e.fs,e.B⟩
theorem Am.ze (a:Am P T e s N):Am P T (e.ze s) s.e0 N:=⟨a.j.app.app,a.kd,a.ch.e0 a.j,a.fa,a.en,a.tb,a.sub⟩
theorem Po.ze (j:J P B s N):Po P B s s.e0:=(Po.app j.l8).trans (.app j.app.l8)
theorem rn_let0 (sw:R 5 .special_word [la,sc] s.HR (.str "lambda",s.HR)) (hl:(la :: .empty::ys).length≤room) (hn:∀ y∈ys,ND s.e0.HR (s.app.nsc sc s.HR.length) y) (h:Bdy P (q+6) (s.app.nsc sc s.HR.length) ys s.e0.HR f H1) (hk:Rn P (q+25) f (s.app.nsc sc s.HR.length) H1 r):Rn P (q+25) (mk [mk (la :: .empty::ys) .empty] .empty) sc s.HR r:=
 rn_c0 (k:=q+20) ((sw_not rfl).le (by decide)) (ru (q:=q) (rn_lambda (k:=q) sw hl)) ((ent0 (m:=q+5) (Nat.le_add_left 5 q) hn h).up (j:=18)) hk
theorem let_sw (am:Am P T e s N) (hw:wd = "let"∨wd = "let*") (h:Sy T wd a):R 5 .special_word [a,e.sc] s.HR (.str wd,s.HR):=by
 rcases hw with rfl | rfl <;> exact am_sw am h (by decide) (am_ns am (by decide)) (by decide)
theorem let_mem (hw:wd = "let"∨wd = "let*"):wd∈["and", "or", "let", "let*", "cond", "case", "letrec", "do"]:=by
 rcases hw with rfl | rfl <;> decide
theorem fa_wa (am:Am P T e s N) {w':W} (i:IsAl s.w w' t a) (p:w'.ns<+:s'.w.ns):Wa s'.w.ns e.fs t a:=i.wa (fun m h _=>am.fa m h) p
theorem binds_NS0:∀ t∈binds,t∈NS0:=by decide
theorem sees (hw:wd = "let"∨wd = "let*"):Sees e.k K wd (if wd = "let*" then K else e.k):=by
 rcases hw with rfl | rfl
 ·exact .a
 ·exact .b
variable (S:Sm T G (q+5) c L) (hG:∀ {ns x y},G ns x y→Hd T ns y) (hc:32≤c) (am:Am P T e s N) (hL:e.es.length+(L+4)≤100) (hN:bg N c 100≤room)
include S hG hc am hL hN
theorem sm_let0 (hw:wd = "let"∨wd = "let*") (h:Sy T wd a) (hx:R12 (G e.ns) xs ys):Out P e (.tup [.str wd,.lst [],.lst xs]) (mk (a :: .empty::ys) .empty) s (q+25) (bg N c 3):=by
 have hl:=hx.len
 have hl100:ys.length≤100:=Nat.le_trans hl.1 (by decide)
 have c1:N+1≤bg N c 1:=Nat.add_le_add_left (Nat.le_trans (by decide) hc) N
 have hb:s.w.ns.length+1≤room:=Nat.le_trans (Nat.add_le_add_right am.j.nn 1) (Nat.le_trans c1 (fit hN 1))
 have go:∀ (la:V) (w':W) (H':Hp),R 6 (turner wd) [mk (a :: .empty::ys) .empty,e.sc,.ref 6] s.HR (mk [mk (la :: .empty::ys) .empty] .empty,H')→St1 1 s.w s.HR w' H'→IsAl s.w w' "lambda" la→Out P e (.tup [.str wd,.lst [],.lst xs]) (mk (a :: .empty::ys) .empty) s (q+25) (bg N c 3):=fun la w' H' ee st il=>by
  have am1:=(am.st st).up c1
  have sl:=al_sw am1.j.wd am1.ch (fa_wa (s':=s.st w' H') am il (List.prefix_refl _)) (by decide)
  obtain ⟨_,amK,pK⟩:=am_dict am1
  have am2:=amK.ze
  cases body_sim S am2 (Nat.le_trans (Nat.add_le_add_left (Nat.le_add_right L 4) _) hL) (Nat.le_trans (Nat.le_of_eq (bg_s (N:=N) (k:=2))) (fit hN 3)) hx with
  | mk sq bd rr vo j p=>exact .mk ((lv_let0 (sees hw) am.kd sq).up (j:=10)) (rn_turn (k:=q+20) (let_mem hw) (let_sw am hw h) (hun hl100 2) ee lk25 (rn_let0 (s:=s.st w' H') sl (hun hl100 2) (R12.nd (G:=G) hG am2 hx) bd rr)) vo (j.up (Nat.le_of_eq (bg_s (N:=N) (k:=2)))) ((Po.st st).trans (pK.trans ((Po.ze amK.j).trans p)))
 rcases hw with rfl | rfl
 ·exact let_eq (sc:=e.sc) (x:=a) (ns:=[]) (ps:=[]) am.j.wd hb rfl (fun _=>binds0) ⟨by decide,by decide⟩ hl.2 hl100 go
 ·exact star0_eq (sc:=e.sc) (x:=a) am.j.wd hb hl.2 hl100 go
theorem sm_let1 (hw:wd = "let"∨wd = "let*") (h:Sy T wd a) (ht:t∈binds) (hz:Sy T t z) (hxy:G e.ns x y) (hx:R12 (G (e.ns++[t])) xs ys):Out P e (.tup [.str wd,.lst [.tup [.str t,x]],.lst xs]) (mk (a::mk [mk [z,y] .empty] .empty::ys) .empty) s (q+25) (bg N c 5):=by
 cases hz with
 | @mk kt g=>
 have hl:=hx.len
 have hl100:ys.length≤100:=Nat.le_trans hl.1 (by decide)
 have c1:∀ {M},M+1≤M+c:=Nat.add_le_add_left (Nat.le_trans (by decide) hc) _
 have hb:s.w.ns.length+1≤room:=Nat.le_trans (Nat.add_le_add_right am.j.nn 1) (Nat.le_trans c1 (fit hN 1))
 have go:∀ (la:V) (w':W) (H':Hp),R 6 (turner wd) [mk (a::mk [mk [sym kt t,y] .empty] .empty::ys) .empty,e.sc,.ref 6] s.HR (mk [mk (la::mk [sym kt t] .empty::ys) .empty,y] .empty,H')→St1 1 s.w s.HR w' H'→IsAl s.w w' "lambda" la→Out P e (.tup [.str wd,.lst [.tup [.str t,x]],.lst xs]) (mk (a::mk [mk [sym kt t,y] .empty] .empty::ys) .empty) s (q+25) (bg N c 5):=fun la w' H' ee st il=>by
  have am1:=(am.st st).up (N':=bg N c 1) c1
  have sl:=al_sw am1.j.wd am1.ch (fa_wa (s':=s.st w' H') am il (List.prefix_refl _)) (by decide)
  obtain ⟨amk,amK,pK⟩:=am_dict am1
  have am':Am P T ⟨e.ns,if wd = "let*" then s.HL.length else e.k,e.es,e.sc,e.fs,e.B⟩ ((s.st w' H').lf (s.HL++[.dictS e.es])) (bg N c 1):=by
   rcases hw with rfl | rfl
   ·exact amk
   ·exact amK
  cases S am' hxy (Nat.le_trans (Nat.add_le_add_left (Nat.le_add_right L 4) _) hL) (fit hN 2) with
  | @mk u s3 lv r vo j p=>
   have amA:=amk.nx p j
   have kdK:=(amK.nx p j).kd
   have lK:=lt_at kdK
   have hB:∀ p∈e.B,p.1≠s.HL.length:=fun p hp=>Nat.ne_of_lt (am.j.box p hp).lt.1
   have jl:=j.lf (H:=lbH s3.HL s.HL.length e.es t u) (K:=s.HL.length) (fun i a b=>lb_at i a b) (Nat.ne_of_lt (lt_at am.j.s8)) hB
   have am4:=amA.nam jl (lb_K lK) (aget_aput.trans (if_pos rfl)) (fun o ho=>aget_aput.trans (if_neg (Ne.symm ho))) (lb_n lK) (lt_at j.s8) (fun p hp=>Nat.ne_of_lt (j.box p hp).lt.1) g (binds_NS0 t ht) vo
   have hl0:e.es.length≤100:=Nat.le_trans (Nat.le_add_right _ _) hL
   cases body_sim S (am4.up (N':=bg N c 3) c1) (Nat.le_trans (Nat.add_le_add_right aput_len L) (l14 hL)) (Nat.le_trans (Nat.le_of_eq ((bg_s (N:=bg N c 2) (k:=2)).trans ((bg_s (N:=bg N c 1) (k:=3)).trans (bg_s (N:=N) (k:=4))))) (fit hN 5)) hx with
   | mk sq bd rr vo5 j5 p5=>
    exact .mk ((lv_let1 (sees hw) am.kd lv kdK (hun hl0 0) sq).up (j:=10)) (rn_turn (k:=q+20) (let_mem hw) (let_sw am hw h) (hun hl100 2) ee lk25 (rn_let1 (s:=s3.lf (lbH s3.HL s.HL.length e.es t u)) sl (hun hl100 2) (ru r) (bd_run jl.app (Nat.le_trans c1 (fit hN 3)) .s at_n j.l9 (Nat.ne_of_gt j.lP) (rm rfl)) (R12.nd (G:=G) hG am4 hx) bd rr)) vo5 ((j5.pop fun p hp => .tail _ hp).up (Nat.le_of_eq ((bg_s (N:=bg N c 2) (k:=2)).trans ((bg_s (N:=bg N c 1) (k:=3)).trans (bg_s (N:=N) (k:=4)))))) (Po.tr (((Po.lf ((Po.st st).trans (pK.trans p)) (by rw [lb_len]; exact Nat.le_succ _) (fun i a b=>lb_at i a b) (Nat.le_refl _)).trans (.e1 jl))) p5 fun p hp=>by
     cases hp with
     | head=>exact .inr ⟨(pK.trans p).ll,Nat.le_succ_of_le ((Po.st (B:=e.B) st).trans (pK.trans p)).lr⟩
     | tail _ hp=>exact .inl hp)
 rcases hw with rfl | rfl
 ·exact let_eq (sc:=e.sc) (x:=a) (ns:=[sym kt t]) (ps:=[y]) am.j.wd hb rfl (fun _=>binds1 .s) ⟨Nat.le_of_ble_eq_true rfl,Nat.le_of_ble_eq_true rfl⟩ hl.2 hl100 go
 ·exact star1_eq (sc:=e.sc) (x:=a) am.j.wd hb .s hl.2 hl100 go
end
theorem l24 {a b L:Nat} (h:a+(L+4)≤100) (l:b≤a+1):b+1+L≤100:=Nat.le_trans (Nat.add_le_add_right (Nat.succ_le_succ l) L) (Nat.le_trans (Nat.le_trans (Nat.le_of_eq (show a+2+L=a+(L+2) by rw [Nat.add_assoc,Nat.add_comm 2])) (Nat.add_le_add_left (Nat.add_le_add_left (by decide:2≤4) L) a)) h)
section
variable {P N N' c q L n m K b b2 kt kt2:Nat} {T:List String} {e:Ev} {s s' s2:X} {x y x2 y2 x3 y3 a z z2 v u u2 f la:V} {t t2 wd:String} {G:List String→V→V→Prop} {i:Nat} {H H' H1:Hp} {sc:V} {r:V×Hp} {w w0 w1:W} {ys xs:List V} {d:Bool} {B B':List (Nat×Nat)} {es es':List (String×V)} {ns1:List String} {key k2:Int}
theorem bg_5:bg (bg N c 3) c 2=bg N c 5:=(bg_s (N:=bg N c 2) (k:=2)).trans ((bg_s (N:=bg N c 1) (k:=3)).trans (bg_s (N:=N) (k:=4)))
theorem bg_a {k:Nat}:∀ {j:Nat},bg (bg N c k) c j=bg N c (k+j)
 | 0=>rfl
 | _+1=>congrArg (·+c) bg_a
variable (S:Sm T G (q+5) c L) (hG:∀ {ns x y},G ns x y→Hd T ns y) (hc:32≤c) (am:Am P T e s N) (hL:e.es.length+(L+4)≤100) (hN:bg N c 100≤room)
include S hG hc am hL hN
theorem sm_star2 (h:Sy T "let*" a) (ht:t∈binds) (ht2:t2∈binds) (hz:Sy T t z) (hz2:Sy T t2 z2) (hxy:G e.ns x y) (hxy2:G (e.ns++[t]) x2 y2) (hx:R12 (G (e.ns++[t]++[t2])) xs ys):Out P e (.tup [.str "let*",.lst [.tup [.str t,x],.tup [.str t2,x2]],.lst xs]) (mk (a::mk [mk [z,y] .empty,mk [z2,y2] .empty] .empty::ys) .empty) s (q+25) (bg N c 7):=by
 cases hz with
 | @mk kt g=>
 cases hz2 with
 | @mk kt2 g2=>
 have hl:=hx.len
 have hl100:ys.length≤100:=Nat.le_trans hl.1 (by decide)
 have c1:∀ {M},M+1≤M+c:=Nat.add_le_add_left (Nat.le_trans (by decide) hc) _
 have c2:∀ {M},M+2≤M+c:=Nat.add_le_add_left (Nat.le_trans (by decide) hc) _
 have hb:s.w.ns.length+2≤room:=Nat.le_trans (Nat.add_le_add_right am.j.nn 2) (Nat.le_trans c2 (fit hN 1))
 have hl0:e.es.length≤100:=Nat.le_trans (Nat.le_add_right _ _) hL
 have hLL:e.es.length+L≤100:=Nat.le_trans (Nat.add_le_add_left (Nat.le_add_right L 4) _) hL
 exact star2_eq (sc:=e.sc) (x:=a) (n:=sym kt t) (p:=y) (n2:=sym kt2 t2) (p2:=y2) am.j.wd hb .s .s hl.2 hl100 fun l l2 w1 w' H' ee st il il2=>by
  have am1:=(am.st st).up (N':=bg N c 1) c2
  have sl:=al_sw am1.j.wd am1.ch (il2.wa (fun m h _=>am.fa m (Nat.lt_of_le_of_lt il.le.1 h)) (List.prefix_refl _)) (by decide)
  obtain ⟨_,amK,pK⟩:=am_dict am1
  cases S amK hxy hLL (fit hN 2) with
  | @mk u s3 lv r vo j p=>
   have kdK:=(amK.nx p j).kd
   have lK:=lt_at kdK
   have hB:∀ p∈e.B,p.1≠s.HL.length:=fun p hp=>Nat.ne_of_lt (am.j.box p hp).lt.1
   have h8:8≠s.HL.length:=Nat.ne_of_lt (lt_at am.j.s8)
   have jl:=j.lf (H:=lbH s3.HL s.HL.length e.es t u) (K:=s.HL.length) (fun i a b=>lb_at i a b) h8 hB
   have am4:=(amK.nx p j).nam jl (lb_K lK) (aget_aput.trans (if_pos rfl)) (fun o ho=>aget_aput.trans (if_neg (Ne.symm ho))) (lb_n lK) (lt_at j.s8) (fun p hp=>Nat.ne_of_lt (j.box p hp).lt.1) g (binds_NS0 t ht) vo
   have po:=(Po.lf (H:=lbH s3.HL s.HL.length e.es t u) (K:=s.HL.length) ((Po.st st).trans (pK.trans p)) (by rw [lb_len]; exact Nat.le_succ _) (fun i a b=>lb_at i a b) (Nat.le_refl _)).trans (.e1 (key:=keyS kt) (v:=u) jl)
   have sl2:=al_sw am4.j.wd am4.ch (t := "lambda") (a:=l) (il.wa (fun m h h2=>look_1.trans ((if_neg keyS_A).trans (am.fa m h))) (il2.le.2.trans ((pK.trans p).ns.trans (Po.e1 (key:=keyS kt) (v:=u) jl).ns))) (by decide)
   cases S (am4.up (N':=bg N c 3) c1) hxy2 (Nat.le_trans (Nat.add_le_add_right aput_len L) (l14 hL)) (fit hN 4) with
   | @mk u2 s5 lv2 r2 vo2 j2 p2=>
    have am5:=(am4.up (N':=bg N c 3) c1).nx p2 j2
    have kd5:=am5.kd
    have lK5:=lt_at kd5
    have hB5:∀ p∈(s3.HL.length,s3.HR.length+1)::e.B,p.1≠s.HL.length:=fun p hp=>by
     cases hp with
     | head=>exact Nat.ne_of_gt lK
     | tail _ hp=>exact hB p hp
    have jl2:=j2.lf (H:=lbH s5.HL s.HL.length (aput t (.ref s3.HL.length) e.es) t2 u2) (K:=s.HL.length) (fun i a b=>lb_at i a b) h8 hB5
    have am6:=am5.nam jl2 (lb_K lK5) (aget_aput.trans (if_pos rfl)) (fun o ho=>aget_aput.trans (if_neg (Ne.symm ho))) (lb_n lK5) (lt_at j2.s8) (fun p hp=>Nat.ne_of_lt (j2.box p hp).lt.1) g2 (binds_NS0 t2 ht2) vo2
    have hal:(aput t (.ref s3.HL.length) e.es).length≤e.es.length+1:=aput_len
    have ls:s.HL.length≤s3.HL.length:=(pK.trans p).ll
    have rs':s.HR.length≤s3.HR.length+1:=Nat.le_succ_of_le ((Po.st (B:=e.B) st).trans (pK.trans p)).lr
    have nw:∀ p∈(s3.HL.length,s3.HR.length+1)::e.B,p∈e.B∨(s.HL.length≤p.1∧s.HR.length≤p.2):=fun p hp=>by
     cases hp with
     | head=>exact .inr ⟨ls,rs'⟩
     | tail _ hp=>exact .inl hp
    have po2:=po.tr p2 nw
    have po3:=(Po.lf (H:=lbH s5.HL s.HL.length (aput t (.ref s3.HL.length) e.es) t2 u2) (K:=s.HL.length) po2 (by rw [lb_len]; exact Nat.le_succ _) (fun i a b=>lb_at i a b) (Nat.le_refl _)).trans (.e1 (key:=keyS kt2) (v:=u2) (jl2.pop fun p hp => .tail _ hp))
    cases body_sim S (am6.up (N':=bg N c 5) c1) (Nat.le_trans (Nat.add_le_add_right aput_len L) (l24 hL aput_len)) (Nat.le_trans (Nat.le_of_eq bg_a) (fit hN 7)) hx with
    | mk sq bd rr vo5 j5 p5=>
     exact .mk ((lv_let2 .b am.kd lv kdK (hun hl0 0) lv2 kd5 (Nat.le_trans hal (hun hl0 1)) sq).up (j:=10)) (rn_turn (k:=q+20) (by decide) (let_sw am (.inr rfl) h) (hun hl100 2) ee lk25 (rn_let1 (s:=s3.lf (lbH s3.HL s.HL.length e.es t u)) sl (rm rfl) (ru r) (bd_run jl.app (Nat.le_trans c1 (fit hN 3)) .s at_n j.l9 (Nat.ne_of_gt j.lP) (rm rfl)) (fun y hy=>List.mem_singleton.mp hy ▸ .pr (sw_not rfl) (by decide)) .one (rn_let1 (s:=s5.lf (lbH s5.HL s.HL.length (aput t (.ref s3.HL.length) e.es) t2 u2)) sl2 (hun hl100 2) (ru r2) (bd_run jl2.app (Nat.le_trans c1 (fit hN 5)) .s at_n j2.l9 (Nat.ne_of_gt j2.lP) (rm rfl)) (R12.nd (G:=G) hG am6 hx) bd rr))) vo5 ((j5.pop fun p hp => .tail _ (.tail _ hp)).up (Nat.le_of_eq bg_a)) (po3.tr p5 fun p hp=>by
      cases hp with
      | head=>exact .inr ⟨Nat.le_trans ls (Nat.le_trans (Nat.le_of_lt (Nat.lt_of_lt_of_eq (Nat.lt_succ_self _) lb_len.symm)) p2.ll),Nat.le_succ_of_le po2.lr⟩
      | tail _ hp=>exact nw p hp)
end
section
variable {P n m k:Nat} {C:Calls} {H H1 H2 H3:Hp} {sc u:V} {s:X} {d nm lm l cl:V} {i bb:Nat}
theorem df_el {c:V} {as:List V} {s0 s1 s2 s3 s4 s5 s6 s7 s8 s10 s11 s12:Sl} (hC:Has m C) (hm:5≤m) (sw:R 5 .special_word [c,sc] H (.str "define",H)):ev C [s0,s1,s2,s3,s4,s5,s6,s7,s8,.v sc,s10,s11,s12,.v (mk (c::as) .empty)] (.and (.isI true (.v 13) (.cls .pair)) (.cmp true .eq (.call .special_word (es [.attr (.v 13) "car",.v 9]) []) (.k (.str "define")))) H=some (.bool true,H):=
 hC.e [.is (t := .cls .pair) (x:=mk (c::as) .empty) (b:=true) rfl,hC.a sw hm,.cm (str_eq (H:=H) (a := "define") (b := "define") rfl)] (by kernel_rfl)
theorem entD (hm:5≤m) (hd:R 5 .special_word [d,s.app.nsc sc s.HR.length] s.e0.HR (.str "define",s.e0.HR)) (hl:ND s.e0.HR (s.app.nsc sc s.HR.length) l) (b1:R 4 .law_bind [nm,.unspec,s.app.nsc sc s.HR.length,.ref P,.ref 6] s.e0.HR (.none,H1)) (hr:R 6 .law_run (runA P lm (s.app.nsc sc s.HR.length)) H1 (cl,H1))
  (hf:R 4 .scope_find [s.app.nsc sc s.HR.length,nm] H1 (locN i,H1)) (hP:idxV H1 (.ref P) (.int i)=some (.ref bb)) (hs:setV H1 (.ref bb) (.int 0) cl=some H3):R (m+2) .law_entered (entA P [] [mk [d,nm,lm] .empty,l] sc []) s.HR (.tup [l,s.app.nsc sc s.HR.length],H3):=
 R.of (fun C hC=>[hC.a (split_eq (H:=s.app.HR) (xs:=[]) (rm rfl)) (Nat.le_trans (by decide) (Nat.le_succ_of_le hm)),.ce (show ev C [.v (.tup (clo [] [mk [d,nm,lm] .empty,l] sc)),.v (.lst []),.v (.ref P),.v (.ref 6),.v (.ref 9),.v (inS sc s.HR.length),.v (.lst [mk [d,nm,lm] .empty,l]),.undef,.undef,.v (s.app.nsc sc s.HR.length),.undef,.undef,.undef,.undef] (st .law_entered 3).ts s.e0.HR=some (.lst [mk [d,nm,lm] .empty],s.e0.HR) from
   cp_i (heap:=false) (hC.i (r:=([mk [d,nm,lm] .empty,l],s.e0.HR)) [] (by kernel_rfl)) (cp_c (df_el hC (Nat.le_succ_of_le hm) hd) (hC.e (r:=(mk [d,nm,lm] .empty,s.e0.HR)) [] (by kernel_rfl)) (cp_s (nd_el hC (Nat.le_succ_of_le hm) hl) rfl))),
  hC.a b1 (Nat.le_trans (by decide) (Nat.le_succ_of_le hm)),hC.a hr (Nat.succ_le_succ hm),hC.a hf (Nat.le_trans (by decide) (Nat.le_succ_of_le hm)),.ix hP,.st hs]) fun _ _=>by kernel_rfl
end
section
variable {P N N' q n m k c L:Nat} {T:List String} {e:Ev} {s s':X} {key k2:Int} {v u id clo sc a:V} {B B':List (Nat×Nat)} {lk lk':Int→Option V} {fs:List (List (Int×V))} {ns:List String} {r:V×Hp}
theorem look_2 {a b:Int}:look (aput a v []::[]::fs) b=if a=b then some v else look fs b:=by
 refine (show _=(aget b (aput a v [])).or (look fs b) from rfl).trans ?_
 rw [aget_aput]
 by_cases c:a=b
 ·rw [if_pos c,if_pos c]; rfl
 ·rw [if_neg c,if_neg c]; rfl
inductive Lc (P:Nat) (B:List (Nat×Nat)) (lk:Int→Option V) (s:X) (key:Int) (v:V):Prop
 | mk {m b:Nat}:lk key=some (locN m)→aget (m:Int) s.pes=some (.ref b)→s.HR[b]?=some (.list [v])→9 < b→b≠P→(∀ p∈B,p.2≠b)→Lc P B lk s key v
theorem Lc.po (l:Lc P B lk s key v) (p:Po P B s s'):Lc P B lk s' key v:=by
 cases l with
 | mk a b c d e f=>exact .mk a (p.pm _ _ b) ((p.kr _ (lt_at c) d e fun q hq x=>f q hq x.symm).trans c) d e f
theorem Lc.tl (l:Lc P B lk s key v) (h:lk' key=lk key):Lc P B lk' s key v:=by
 cases l with
 | mk a b c d e f=>exact .mk (h.trans a) b c d e f
theorem Lc.sw (l:Lc P B (look e.fs) s key v) (am:Am P T e s N) (h:keyOf id key):R 5 .special_word [id,e.sc] s.HR (.str "",s.HR):=by
 cases l with
 | mk a=>exact sw_loc h am.ch.obj (find_in am.j.wd am.ch h a)
theorem Lc.rn (l:Lc P B (look e.fs) s key v) (am:Am P T e s N) (h:keyOf id key):Rn P (k+5) id e.sc s.HR (v,s.HR):=by
 cases l with
 | mk a b c=>exact rn_loc h am.ch.obj (find_in am.j.wd am.ch h a) am.j.pl b c
theorem rul {i j:Nat} {y:V} {H:Hp} (h:Rn P (q+(i+1)) y sc H r) (l:Nat.ble (i+2) j=true):R (q+j) .law_run (runA P y sc) H r:=(Rn.run (n:=q+i) h).le (Nat.add_le_add_left (Nat.le_of_ble_eq_true l) q)
theorem e1_lc (j:J P B s N):Lc P B (look ([]::aput key (locN (s.w.L+1)) []::fs)) (s.e1 P key v) key v := .mk (look_1.trans (if_pos rfl)) (e1_box j).2 (e1_box j).1 (Nat.lt_succ_of_lt j.l9) (Nat.ne_of_gt (Nat.lt_succ_of_lt j.lP)) fun p hp=>Nat.ne_of_lt (Nat.lt_succ_of_lt (j.box p hp).lt.2)
noncomputable abbrev X.df (s:X) (P:Nat) (key:Int) (v:V):X:=s.e0.bd P s.app.HR.length key [] v
noncomputable abbrev Ev.df (e:Ev) (ns:List String) (s:X) (key:Int):Ev:=⟨ns,e.k,e.es,s.app.nsc e.sc s.HR.length,aput key (locN (s.w.L+1)) []::[]::e.fs,e.B⟩
theorem J.df (j:J P B s N):J P B (s.df P key v) (N+1):=j.app.app.bd j.app.l9 (Nat.ne_of_gt j.app.lP) fun p hp=>Nat.ne_of_lt (j.app.box p hp).lt.2
theorem Po.df (j:J P B s N):Po P B s (s.df P key v):=Po.bd j.app.app ((Po.app j.l8).trans (.app j.app.l8)) (by rw [app_len]; exact Nat.le_succ _) j.app.l8
theorem df_lc (j:J P B s N):Lc P B (look (aput key (locN (s.w.L+1)) []::[]::fs)) (s.df P key v) key v:=by
 have l1:s.e0.HR.length=s.HR.length+1+1:=app_len.trans (congrArg (·+1) app_len)
 have l9:=j.l9
 have lP:=j.lP
 refine .mk (b:=s.e0.HR.length) (look_2.trans (if_pos rfl)) ?_ (bd_n (by rw [l1]; exact Nat.lt_succ_of_lt (Nat.lt_succ_of_lt lP))) (by rw [l1]; exact Nat.lt_succ_of_lt (Nat.lt_succ_of_lt l9)) (by rw [l1]; exact Nat.ne_of_gt (Nat.lt_succ_of_lt (Nat.lt_succ_of_lt lP))) fun p hp=>Nat.ne_of_lt (by rw [l1]; exact Nat.lt_succ_of_lt (Nat.lt_succ_of_lt (j.box p hp).lt.2))
 have nw:=j.new (Nat.lt_succ_self s.w.L)
 show aget _ (s.pes++[(((s.w.L+1:Nat):Int),V.ref s.e0.HR.length)])=_
 rw [aget_app,nw,if_pos rfl]; rfl
theorem Ch.df {sc:V} (c:Ch P s.HR sc fs) (j:J P B s N):Ch P (s.df P key v).HR (s.app.nsc sc s.HR.length) (aput key (locN (s.w.L+1)) []::[]::fs):=by
 have l1:s.e0.HR.length=s.app.HR.length+1:=app_len
 have l0:s.app.HR.length=s.HR.length+1:=app_len
 have l9:=j.l9
 have lP:=j.lP
 refine .cons (bd_d (by rw [l1]; exact Nat.lt_succ_self _) (by rw [l0]; exact Nat.ne_of_gt (Nat.lt_succ_of_lt lP))) (by rw [l0]; exact Nat.lt_succ_of_lt l9) (by rw [l0]; exact Nat.ne_of_gt (Nat.lt_succ_of_lt lP)) (fun q u h=>?_) (.cons ((bd_at (by rw [l1,l0]; exact Nat.lt_succ_of_lt (Nat.lt_succ_self _)) (by rw [l0]; exact Nat.ne_of_lt (Nat.lt_succ_self _)) (Nat.ne_of_gt lP) l9).trans (at_a at_n)) l9 (Nat.ne_of_gt lP) (fun _ _ h=>nomatch h) (c.po j (.df j)))
 rw [aget_aput] at h
 by_cases x:key=q
 ·rw [if_pos x] at h; cases h; exact ⟨_,rfl⟩
 ·rw [if_neg x] at h; cases h
theorem Am.df (a:Am P T e s N) (hs:∀ u∈ns,u∈e.ns) (hf:∀ u∈e.ns,u∈ns∨u∈X0) (hk:∀ u q,T[q]?=some u→u∈ns∨u∉X0→key≠keyS q) (hm:∀ m,s.w.L < m→key≠keyA m):Am P T (e.df ns s key) (s.df P key v) (N+1):=
 ⟨a.j.df,a.kd,a.ch.df a.j,fun m h=>look_2.trans ((if_neg (hm m (Nat.lt_of_succ_lt h))).trans (a.fa m (Nat.lt_of_succ_lt h))),⟨fun u hu q g=>by
  cases a.en.nm u (hs u hu) q g with
  | mk x y z w=>exact .mk (look_2.trans ((if_neg (hk u q g (.inl hu))).trans x)) ((Po.df a.j).pm _ _ y) z w,fun u q g h1 h2=>look_2.trans ((if_neg (hk u q g (.inr h2))).trans (a.en.fr u q g (fun c=>(hf u c).elim h1 h2) h2))⟩,a.tb,fun u h=>a.sub u (hs u h)⟩
theorem df_set (lP:P < s.HR.length):((s.df P key u).HR).set s.e0.HR.length (.list [v])=(s.df P key v).HR:=by
 have l1:s.e0.HR.length=s.HR.length+1+1:=app_len.trans (congrArg (·+1) app_len)
 have g:∀ {l:Hp} {x a b:AO},l.length=s.e0.HR.length→((l++[a]).set P x).set s.e0.HR.length b=(l++[b]).set P x:=fun {l x a b} h=>by
  rw [List.set_comm _ _ (by rw [l1]; exact Nat.ne_of_lt (Nat.lt_succ_of_lt (Nat.lt_succ_of_lt lP))),List.set_append_right _ _ (Nat.le_of_eq h),h,Nat.sub_self]; rfl
 exact g (by rw [List.length_set,List.length_set])
theorem def_run {lm dd ll lx ids bd b:V} (am:Am P T e s N) (hk:keyOf id key) (hN:N+1≤room) (hlm:R 5 .special_word [lm,e.sc] s.HR (.str "lambda",s.HR)) (hdd:Wa s.w.ns e.fs "define" dd)
  (hlx:R 5 .special_word [lx,s.app.nsc e.sc s.HR.length] (s.df P key .unspec).HR (.str "lambda",(s.df P key .unspec).HR)) (hll:R 5 .special_word [ll,s.app.nsc e.sc s.HR.length] (s.df P key (.tup (.str "closure"::ids :: .lst [bd]::[s.app.nsc e.sc s.HR.length]))).HR (.str "lambda",(s.df P key (.tup (.str "closure"::ids :: .lst [bd]::[s.app.nsc e.sc s.HR.length]))).HR))
  (hb:ND (s.df P key (.tup (.str "closure"::ids :: .lst [bd]::[s.app.nsc e.sc s.HR.length]))).e0.HR ((s.df P key (.tup (.str "closure"::ids :: .lst [bd]::[s.app.nsc e.sc s.HR.length]))).app.nsc (s.app.nsc e.sc s.HR.length) (s.df P key (.tup (.str "closure"::ids :: .lst [bd]::[s.app.nsc e.sc s.HR.length]))).HR.length) b)
  (h:Rn P (q+25) b ((s.df P key (.tup (.str "closure"::ids :: .lst [bd]::[s.app.nsc e.sc s.HR.length]))).app.nsc (s.app.nsc e.sc s.HR.length) (s.df P key (.tup (.str "closure"::ids :: .lst [bd]::[s.app.nsc e.sc s.HR.length]))).HR.length) (s.df P key (.tup (.str "closure"::ids :: .lst [bd]::[s.app.nsc e.sc s.HR.length]))).e0.HR r) :
  Rn P (q+25) (mk [mk [lm,.empty,mk [dd,id,mk [lx,ids,bd] .empty] .empty,mk [mk [ll,.empty,b] .empty] .empty] .empty] .empty) e.sc s.HR r:=by
 have jd:=am.j.df (key:=key) (v := .unspec)
 have cd:=am.ch.df (key:=key) (v := .unspec) am.j
 have lc:=df_lc (fs:=e.fs) (key:=key) (v := .unspec) am.j
 have l1:s.e0.HR.length=s.HR.length+1+1:=app_len.trans (congrArg (·+1) app_len)
 have st:setV (s.df P key .unspec).HR (.ref s.e0.HR.length) (.int 0) (.tup (.str "closure"::ids :: .lst [bd]::[s.app.nsc e.sc s.HR.length]))=some (s.df P key (.tup (.str "closure"::ids :: .lst [bd]::[s.app.nsc e.sc s.HR.length]))).HR:=(h_st0 (u := .unspec) (bd_n (by rw [l1]; exact Nat.lt_succ_of_lt (Nat.lt_succ_of_lt am.j.lP))) (rm rfl)).trans (congrArg some (df_set am.j.lP))
 have ix:idxV (s.df P key .unspec).HR (.ref P) (.int (s.w.L+1:Nat))=some (.ref s.e0.HR.length):=h_ixI jd.pl (by
  have nw:=am.j.new (Nat.lt_succ_self s.w.L)
  show aget _ (s.pes++[(((s.w.L+1:Nat):Int),V.ref s.e0.HR.length)])=_
  rw [aget_app,nw,if_pos rfl]; rfl)
 exact rn_c0 (k:=q+20) ((sw_not rfl).le (by decide)) (ru (q:=q) (rn_lambda (k:=q) hlm (as:=[mk [dd,id,mk [lx,ids,bd] .empty] .empty,mk [mk [ll,.empty,b] .empty] .empty]) (rm rfl))) ((entD (m:=q+5) (Nat.le_add_left 5 q) (al_sw (w:=s.w) am.j.app.app.wd (am.ch.e0 am.j) (by
   cases hdd with
   | mk a b=>exact .mk a b) (by decide)) (.pr ((sw_not rfl).le (by decide)) (by decide)) (bd_run am.j.app.app hN hk at_n am.j.app.l9 (Nat.ne_of_gt am.j.app.lP) (rm rfl)) ((Rn.run (n:=4) (rn_lambda (k:=0) hlx (as:=[bd]) (rm rfl)))) (find_in jd.wd cd hk (look_2.trans (if_pos rfl))) ix st).up (j:=18)) (rn_let0 (s:=s.df P key (.tup (.str "closure"::ids :: .lst [bd]::[s.app.nsc e.sc s.HR.length]))) hll (rm rfl) (fun y hy=>List.mem_singleton.mp hy▸hb) .one h)
end
section
variable {P N N' q n m k c L kt kn j:Nat} {T:List String} {e:Ev} {s s':X} {key k2:Int} {v u id x y b i1 i2 i4 i5 i7 zn a zt:V} {ns:List String} {r:V×Hp} {tag name t:String} {G:List String→V→V→Prop}
noncomputable abbrev lbd (i1 i2 i4 i5 i7 zn zt y:V):V:=mk [i1,mk [i2,.int 0,zn] .empty,mk [i4,mk [i5,zn] .empty,y,mk [zt,mk [i7,zn,.int 6] .empty] .empty] .empty,.int 5] .empty
theorem hidk (g:T[k]?=some t) (h1:t∉ns) (h2:t∈X0):∀ u q,T[q]?=some u→u∈ns∨u∉X0→keyS k≠keyS q:=fun u q gq h c=>
 have e:u=t:=Option.some.inj (gq.symm.trans ((congrArg (fun x=>T[x]?) (keyS_inj c).symm).trans g))
 h.elim (fun m=>h1 (e▸m)) fun m=>m (e▸h2)
theorem kne (g:T[kt]?=some tag) (g2:T[kn]?=some name) (h:tag≠name):kt≠kn:=fun c=>h (Option.some.inj (g.symm.trans ((congrArg (fun x=>T[x]?) c).trans g2)))
theorem call1 (am:Am P T e s N) (hN:N+1≤room) (hk:keyOf id key) (nd:ND (s.e1 P key v).HR ((s.app.bd P s.HR.length key [] v).nsc e.sc s.HR.length) b):R (q+25) .law_entered (entA P [id] [b] e.sc [v]) s.HR (.tup [b,(s.app.bd P s.HR.length key [] v).nsc e.sc s.HR.length],(s.e1 P key v).HR):=
 (ent1 (m:=q+5) (Nat.le_add_left 5 q) (bd_run am.j.app hN hk at_n am.j.l9 (Nat.ne_of_gt am.j.lP) (rm rfl)) (fun y hy=>List.mem_singleton.mp hy▸nd) .one).up (j:=18)
theorem gl1 (am:Am P T e s N) (h:Sy T t a) (hw:t∉words∧t∉NS0∧t∉X0) (r1:Rn P (q+5) x e.sc s.HR (u,s.HR)) (cl:R 4 .law_called [.str t,.lst [u],.ref 9] s.HR r):Rn P (q+10) (mk [a,x] .empty) e.sc s.HR r:=
 rn_b1 (k:=q+5) (am_gl (n:=q) am h hw).1 (rul (q:=q) (i:=4) (j:=10) (am_gl (n:=q) am h hw).2 rfl) (rul (q:=q) (i:=4) (j:=10) r1 rfl) (cl.le (Nat.le_trans (by decide) (Nat.le_add_left 10 q)))
theorem gl2 (am:Am P T e s N) (h:Sy T t a) (hw:t∉words∧t∉NS0∧t∉X0) (r1:Rn P (q+5) x e.sc s.HR (u,s.HR)) (r2:Rn P (q+5) y e.sc s.HR (v,s.HR)) (cl:R 4 .law_called [.str t,.lst [u,v],.ref 9] s.HR r):Rn P (q+10) (mk [a,x,y] .empty) e.sc s.HR r:=
 rn_b2 (k:=q+5) (am_gl (n:=q) am h hw).1 (rul (q:=q) (i:=4) (j:=10) (am_gl (n:=q) am h hw).2 rfl) (rul (q:=q) (i:=4) (j:=10) r1 rfl) (rul (q:=q) (i:=4) (j:=10) r2 rfl) (cl.le (Nat.le_trans (by decide) (Nat.le_add_left 10 q)))
theorem lp_lt:∀ i,i < 3→decide (sayZ (.int 0) < sayZ (.int (i:Nat)))=decide (0 < i):=by decide
theorem lp_dn:∀ i,i < 2→(numV (.int (i+1:Nat))+numV (.int 6)).fmod 7=(i:Nat):=by decide
theorem v6:VOK (.int 6) := .int (by decide) (by decide)
inductive OutL (P:Nat) (e:Ev) (x b zn:V) (j:Nat) (s:X) (n m N':Nat):Prop
 | mk {s':X} {sc:V} {H:Hp}:Lp n e.k x j s.HL s'.HL→R m .law_entered (entA P [zn] [b] e.sc [.int j]) s.HR (.tup [b,sc],H)→Rn P m b sc H (.int 5,s'.HR)→J P e.B s' N'→Po P e.B s s'→OutL P e x b zn j s n m N'
theorem Sy.uq (am:Am P T e s N) (h:Sy T t a) (h':Sy T t b):a=b:=h.rec (motive:=fun a _=>a=b) fun g=>h'.rec (motive:=fun b _=>sym _ t=b) fun g'=>congrArg (fun k=>sym k t) (T_inj am g g')
theorem LoopB.as {C:V→Prop} (U:∀ {t:String} {a b:V},Sy T t a→Sy T t b→a=b) (h:LoopB T tag name y b) (hz:Sy T tag zt) (hn:Sy T name zn) (c:∀ i1 i2 i4 i5 i7,Sy T "if" i1→Sy T "less" i2→Sy T "begin" i4→Sy T "say" i5→Sy T "plus" i7→C (lbd i1 i2 i4 i5 i7 zn zt y)):C b:=h.rec (motive:=fun b _=>C b) fun {i1 i2 i3 i4 i5 i6 i7} b1 b2 b3 b4 b5 b6 b7=>Eq.rec (motive:=fun x _=>C (lbd i1 i2 i4 i5 i7 x i6 y)) (Eq.rec (motive:=fun x _=>C (lbd i1 i2 i4 i5 i7 zn x y)) (c _ _ _ _ _ b1 b2 b4 b5 b7) (U hz b6)) (U hn b3)
theorem loop_sim0 (S:Sm T G (q+5) c L) (hc:32≤c) (g:T[kt]?=some tag) (g2:T[kn]?=some name) (hne:kt≠kn) (hn:name∈X0) (hif : "if"∉e.ns) (hbe : "begin"∉e.ns) (hnn:name∉e.ns) (b1:Sy T "if" i1) (b2:Sy T "less" i2) (b4:Sy T "begin" i4) (b5:Sy T "say" i5) (b7:Sy T "plus" i7) (hxy:G e.ns x y) (hL:e.es.length+L≤100):∀ (j:Nat),j≤2→∀ {s:X} {N:Nat},Am P T e s N→Lc P e.B (look e.fs) s (keyS kt) (.tup (clo [sym kn name] [lbd i1 i2 i4 i5 i7 (sym kn name) (sym kt tag) y] e.sc))→bg N c (2*j+1)≤room→OutL P e x (lbd i1 i2 i4 i5 i7 (sym kn name) (sym kt tag) y) (sym kn name) j s (q+5) (q+25) (bg N c (2*j+1)):=fun j=>by
 have c1:∀ {M},M+1≤M+c:=Nat.add_le_add_left (Nat.le_trans (by decide) hc) _
 have hb:∀ {s:X} {N} (u:V),Am P T e s N→Am P T (e.hid e.ns P s (keyS kn) u) (s.e1 P (keyS kn) u) (N+1):=fun u am=>am.hid (fun _ h=>h) (fun _ h => .inl h) (hidk g2 hnn hn) fun _ _=>keyS_A
 have tst:∀ {s:X} {N} {j:Nat},j < 3→Am P T e s N→R (q+25) .law_run (runA P (mk [i2,.int 0,sym kn name] .empty) ((s.app.bd P s.HR.length (keyS kn) [] (.int j)).nsc e.sc s.HR.length)) (s.e1 P (keyS kn) (.int j)).HR (.bool (decide (0 < j)),(s.e1 P (keyS kn) (.int j)).HR):=fun {s N j} hj am=>rul (i:=9) (gl2 (hb _ am) b2 (by decide) (rn_at rfl) ((e1_lc am.j).rn (hb _ am) .s) (lp_lt j hj▸c_less v0 (vok_n (Nat.lt_trans hj (by decide))))) rfl
 have sw:∀ {s:X} {N} (u:V),Am P T e s N→R 5 .special_word [i1,(s.app.bd P s.HR.length (keyS kn) [] u).nsc e.sc s.HR.length] (s.e1 P (keyS kn) u).HR (.str "if",(s.e1 P (keyS kn) u).HR):=fun u am=>am_sw (hb u am) b1 (by decide) hif (by decide)
 induction j with
 | zero=>
  intro _ s N am _ hN
  exact .mk (s':=s.e1 P (keyS kn) (.int (0:Nat))) .nil (call1 am (Nat.le_trans c1 hN) .s (.pr (sw _ am) (by decide))) (rn_if (k:=q+20) (z:=false) (sw _ am) (tst (by decide) am) (isnot (z:=true) rfl) (rn_at rfl)) ((hb _ am).j.up c1) (.e1 am.j)
 | succ j ih=>
  intro hj s N am lc hN
  have hN:bg N c (2*j+3)≤room:=hN
  have am4:=hb (.int (j+1:Nat)) am
  have vo:VOK (.int (j+1:Nat)):=vok_n (Nat.lt_of_le_of_lt hj (by decide))
  have l0:=e1_lc (key:=keyS kn) (v := .int (j+1:Nat)) (fs:=e.fs) am.j
  have h1:N+1≤bg N c 1:=c1
  have f:∀ {i},i≤2*j+3→bg N c i≤room:=fun h=>Nat.le_trans (bg_le h) hN
  have say:=gl1 (q:=q) (x:=sym kn name) am4 b5 (by decide) (l0.rn am4 .s) ((c_say vo am4.j.td (Nat.le_trans am4.j.tn (Nat.le_trans h1 (f (Nat.le_add_left 1 _))))).up (j:=1))
  have p5:=(Po.e1 (key:=keyS kn) (v := .int (j+1:Nat)) am.j).trans (Po.say (z:=sayZ (.int (j+1:Nat))))
  have am5:=(am4.nx .say (am4.j.say (z:=sayZ (.int (j+1:Nat))))).up (N':=bg N c 1) (Nat.add_le_add_left (Nat.le_trans (show 2≤32 by decide) hc) N)
  cases S am5 hxy hL (f (i:=2) (Nat.le_add_left 2 _)) with
  | @mk u s6 lv r6 _ j6 p6=>
   have am6:=am5.nx p6 j6
   have lt:=lc.po (p5.trans p6)
   have l6:=l0.po (Po.say.trans p6)
   have am7:=am.nx (p5.trans p6) j6
   have lt4:=lt.tl (lk':=look (e.hid e.ns P s (keyS kn) (.int (j+1:Nat))).fs) (look_1.trans (if_neg fun c=>hne (keyS_inj c).symm))
   have plus:=gl2 (q:=q) (x:=sym kn name) am6 b7 (by decide) (l6.rn am6 .s) (rn_at rfl) (lp_dn j (Nat.lt_of_succ_le hj)▸(c_plus vo v6).up (j:=1))
   have e2:bg (bg N c 2) c (2*j+1)=bg N c (2*j+3):=by rw [← bg_s (k:=2*j+2),← bg_s (k:=2*j+1)]; rfl
   cases ih (Nat.le_of_succ_le hj) am7 lt (e2▸hN) with
   | mk lp en r7 j7 p7=>
    refine .mk (.succ am.j.s8 (Nat.le_trans am.j.tn (f (i:=0) (Nat.zero_le _))) (sayZ_n (Nat.lt_of_le_of_lt hj (by decide))▸lv) lp) (call1 am (Nat.le_trans h1 (f (Nat.le_add_left 1 _))) .s (.pr (sw _ am) (by decide))) (rn_if (k:=q+20) (z:=true) (sw _ am) (tst (Nat.lt_succ_of_le hj) am) (isnot (z:=false) rfl) ?_) (j7.up (Nat.le_of_eq e2)) ((p5.trans p6).trans p7)
    exact rn_beg3 (k:=q+20) (am_sw am4 b4 (by decide) hbe (by decide)) (rul (q:=q) (i:=9) (j:=25) say rfl) (ru r6) (rn_c1 (k:=q+20) ((lt4.sw am6 .s)) (ru (lt4.rn am6 .s)) (rul (q:=q) (i:=9) (j:=25) plus rfl) en r7)
theorem loop_sim (S:Sm T G (q+5) c L) (hc:32≤c) (g:T[kt]?=some tag) (g2:T[kn]?=some name) (hne:kt≠kn) (hn:name∈X0) (hif : "if"∉e.ns) (hbe : "begin"∉e.ns) (hnn:name∉e.ns) (hb:LoopB T tag name y b) (hxy:G e.ns x y) (hL:e.es.length+L≤100) (am:Am P T e s N) (hj:j≤2) (lc:Lc P e.B (look e.fs) s (keyS kt) (.tup (clo [sym kn name] [b] e.sc))) (hN:bg N c (2*j+1)≤room):OutL P e x b (sym kn name) j s (q+5) (q+25) (bg N c (2*j+1)):=
 LoopB.as (C:=fun b=>Lc P e.B (look e.fs) s (keyS kt) (.tup (clo [sym kn name] [b] e.sc))→OutL P e x b (sym kn name) j s (q+5) (q+25) (bg N c (2*j+1))) (Sy.uq am) hb (.mk g) (.mk g2) (fun _ _ _ _ _ b1 b2 b4 b5 b7 lc=>loop_sim0 S hc g g2 hne hn hif hbe hnn b1 b2 b4 b5 b7 hxy hL j hj am lc hN) lc
end
section
variable {P N N' q n m k c L kt kn j:Nat} {T:List String} {e:Ev} {s s':X} {key k2:Int} {v u id x y b zn lx a:V} {ns:List String} {r:V×Hp} {tag name t:String} {G:List String→V→V→Prop}
theorem lkq {a b:Nat} (h:Nat.ble a b=true):a≤q+b:=Nat.le_trans (Nat.le_of_ble_eq_true h) (Nat.le_add_left b q)
theorem upq {a b:Nat} (h:Nat.ble a b=true):q+a≤q+b:=Nat.add_le_add_left (Nat.le_of_ble_eq_true h) q
theorem pair_x:∀ p∈pairs,p.1∈X0∧p.2∈X0∧p.1≠p.2:=by decide
noncomputable abbrev filt (ns:List String) (tag name:String):List String:=ns.filter fun o => !(o == tag||o == name)
theorem not_t {b:Bool} (h:(!b)=true) (e:b=true):False:=by cases e; cases h
theorem filt1:tag∉filt ns tag name:=fun h=>not_t (List.mem_filter.mp h).2 (Bool.or_eq_true_iff.mpr (.inl (beq_self_eq_true _)))
theorem filt2:name∉filt ns tag name:=fun h=>not_t (List.mem_filter.mp h).2 (Bool.or_eq_true_iff.mpr (.inr (beq_self_eq_true _)))
theorem filt3:∀ u∈filt ns tag name,u∈ns:=fun _ h=>(List.mem_filter.mp h).1
theorem filt4 (h1:tag∈X0) (h2:name∈X0):∀ u∈ns,u∈filt ns tag name∨u∈X0:=fun u h=>by
 by_cases c:u=tag
 ·exact .inr (c▸h1)
 ·by_cases c2:u=name
  ·exact .inr (c2▸h2)
  ·exact .inl (List.mem_filter.mpr ⟨h,by rw [beq_false_of_ne c,beq_false_of_ne c2]; rfl⟩)
theorem look_e0 {fs:List (List (Int×V))} {b:Int}:look ([]::[]::fs) b=look fs b:=rfl
inductive OutD (P:Nat) (e:Ev) (key:Int) (cl x b zn:V) (j:Nat) (s:X) (n m N':Nat):Prop
 | mk {s':X} {sc:V} {H:Hp}:Lp n e.k x j s.HL s'.HL→Rn P n b ((s.df P key cl).app.nsc (s.app.nsc e.sc s.HR.length) (s.df P key cl).HR.length) (s.df P key cl).e0.HR (cl,(s.df P key cl).e0.HR)→R 5 .special_word [b,(s.df P key cl).app.nsc (s.app.nsc e.sc s.HR.length) (s.df P key cl).HR.length] (s.df P key cl).e0.HR (.str "",(s.df P key cl).e0.HR)→R m .law_entered [cl,.lst [.int j],.ref P,.ref 6,.ref 9] (s.df P key cl).e0.HR (.tup [zn,sc],H)→Rn P m zn sc H (.int 5,s'.HR)→J P e.B s' N'→Po P e.B s s'→OutD P e key cl x b zn j s n m N'
noncomputable abbrev ccl (s:X) (sc zn b:V):V := .tup (.str "closure"::mk [zn] .empty :: .lst [b]::[s.app.nsc sc s.HR.length])
theorem def_sim (S:Sm T G (q+5) c L) (hc:32≤c) (am:Am P T e s N) (hL:e.es.length+L≤100) (hN:bg N c 6≤room) (g:T[kt]?=some tag) (g2:T[kn]?=some name) (hp:(tag,name)∈pairs) (hj:j≤2) (h1 : "if"∉e.ns) (h2 : "begin"∉e.ns) (hxy:G (filt e.ns tag name) x y) (hb:LoopB T tag name y b):OutD P e (keyS kt) (ccl s e.sc (sym kn name) b) x (sym kt tag) b j s (q+5) (q+25) (bg N c 6):=by
 obtain ⟨pX,pX2,pne⟩:=pair_x _ hp
 have am2:=am.df (v:=ccl s e.sc (sym kn name) b) (filt3 (name:=name)) (filt4 pX pX2) (hidk g filt1 pX) fun _ _=>keyS_A
 have am3:=am2.ze
 have lc:=(df_lc (key:=keyS kt) (v:=ccl s e.sc (sym kn name) b) (fs:=e.fs) am.j).po (.ze am2.j)
 have c1:N+1≤bg N c 1:=Nat.add_le_add_left (Nat.le_trans (by decide) hc) N
 have lb:bg (bg N c 1) c (2*j+1)≤bg N c 6:=Nat.le_trans (bg_le (Nat.succ_le_succ (Nat.mul_le_mul_left 2 hj))) (Nat.le_of_eq ((bg_s (N:=N) (k:=5))))
 have lc3:=lc.tl (lk':=look ((e.df (filt e.ns tag name) s (keyS kt)).ze (s.df P (keyS kt) (ccl s e.sc (sym kn name) b))).fs) look_e0
 cases loop_sim (e:=e.df (filt e.ns tag name) s (keyS kt)) S hc g g2 (kne g g2 pne) pX2 (fun h=>h1 (filt3 _ h)) (fun h=>h2 (filt3 _ h)) filt2 hb hxy hL ((am2.nx (.ze am2.j) am3.j).up c1) hj lc (Nat.le_trans lb hN) with
 | mk lp en r7 j7 p7=>exact .mk lp (lc3.rn am3 .s) (lc3.sw am3 .s) en r7 (j7.up lb) ((Po.df am.j).trans ((Po.ze am2.j).trans p7))
variable (S:Sm T G (q+5) c L) (hc:32≤c) (am:Am P T e s N) (hL:e.es.length+L≤100) (hN:bg N c 100≤room) (g:T[kt]?=some tag) (g2:T[kn]?=some name) (hp:(tag,name)∈pairs) (hj:j≤2) (h1 : "if"∉e.ns) (h2 : "begin"∉e.ns) (hxy:G (filt e.ns tag name) x y) (hb:LoopB T tag name y b)
include S hc am hL hN g g2 hp hj h1 h2 hxy hb
theorem sm_lrec (h3 : "letrec"∉e.ns) (h4 : "lambda"∉e.ns) (hs:Sy T "letrec" a) (hlx:Sy T "lambda" lx):Out P e (.tup [.str "letrec",.str tag,.str name,.int j,x]) (mk [a,mk [mk [sym kt tag,mk [lx,mk [sym kn name] .empty,b] .empty] .empty] .empty,mk [sym kt tag,.int j] .empty] .empty) s (q+45) (bg N c 7):=by
 have c3:∀ {M},M+3≤M+c:=Nat.add_le_add_left (Nat.le_trans (by decide) hc) _
 exact rec_eq (sc:=e.sc) (x:=a) (tg:=sym kt tag) (p:=mk [lx,mk [sym kn name] .empty,b] .empty) (b:=mk [sym kt tag,.int j] .empty) am.j.wd (Nat.le_trans (Nat.add_le_add_right am.j.nn 3) (Nat.le_trans c3 (fit hN 1))) .s fun l d l2 w1 w2 w' H' ee st il id il2=>by
  have am1:=(am.st st).up (N':=bg N c 1) c3
  have pX:=(pair_x _ hp).1
  have pX2:=(pair_x _ hp).2.1
  have ad:∀ v,Am P T (e.df (filt e.ns tag name) (s.st w' H') (keyS kt)) ((s.st w' H').df P (keyS kt) v) (bg N c 1+1):=fun v=>am1.df (v:=v) (filt3 (name:=name)) (filt4 pX pX2) (hidk g filt1 pX) fun _ _=>keyS_A
  have ld:=id.low il.le.1 il.le.2
  cases def_sim S hc am1 hL (Nat.le_trans (Nat.le_of_eq (bg_s (N:=N) (k:=6))) (fit hN 7)) g g2 hp hj h1 h2 hxy hb with
  | mk lp rt wt en r7 j7 p7=>
   exact .mk ((lv_loop (.inl rfl) lp (Nat.le_trans hj (by decide))).up (j:=30)) (rn_turn (k:=q+40) (by decide) (am_sw am hs (by decide) h3 (by decide)) (rm rfl) ee (lkq (q:=q) (b:=45) rfl) (Rn.le (def_run am1 .s (Nat.le_trans (Nat.add_le_add_left (Nat.le_trans (by decide) hc) _) (fit hN 2)) (al_sw am1.j.wd am1.ch (fa_wa (s':=s.st w' H') am (il2.low ld.le.1 ld.le.2) (List.prefix_refl _)) (by decide)) (fa_wa (s':=s.st w' H') am ld il2.le.2) (am_sw (ad _) hlx (by decide) (fun h=>h4 (filt3 _ h)) (by decide)) (al_sw (ad _).j.wd (ad _).ch (il.wa (fun m h _=>look_2.trans ((if_neg keyS_A).trans (am.fa m h))) (id.le.2.trans il2.le.2)) (by decide)) (.pr wt (by decide)) (rn_c1 (k:=q+20) wt (ru rt) (ru (rn_at rfl)) en r7)) (upq (q:=q) (a:=25) (b:=45) rfl))) (vok_n (by decide)) (j7.up (Nat.le_of_eq (bg_s (N:=N) (k:=6)))) ((Po.st st).trans p7)
theorem sm_named (hs:Sy T "let" a):Out P e (.tup [.str "named",.str tag,.str name,.int j,x]) (mk [a,sym kt tag,mk [mk [sym kn name,.int j] .empty] .empty,b] .empty) s (q+45) (bg N c 8):=by
 have c3:∀ {M},M+3≤M+c:=Nat.add_le_add_left (Nat.le_trans (by decide) hc) _
 have hb3:s.w.ns.length+3≤room:=Nat.le_trans (Nat.add_le_add_right am.j.nn 3) (Nat.le_trans c3 (fit hN 1))
 exact named_eq (sc:=e.sc) (x:=a) (tg:=sym kt tag) (n:=sym kn name) (p := .int j) (bd:=b) am.j.wd (bl hb3) .s .s fun lx rr w1 w0 H0 ee0 st0 ilx ir=>by
  have am0:=(am.st st0).up (N':=bg N c 1) (Nat.le_trans (Nat.le_succ _) c3)
  exact rec_eq (sc:=e.sc) (x:=rr) (tg:=sym kt tag) (p:=mk [lx,mk [sym kn name] .empty,b] .empty) (b:=sym kt tag) am0.j.wd (Nat.le_trans (Nat.add_le_add_right am0.j.nn 3) (Nat.le_trans c3 (fit hN 2))) .s fun l d l2 w1 w2 w' H' ee st il id il2=>by
   have am1:=(am0.st st).up (N':=bg N c 2) c3
   have pX:=(pair_x _ hp).1
   have pX2:=(pair_x _ hp).2.1
   have ad:∀ v,Am P T (e.df (filt e.ns tag name) ((s.st w0 H0).st w' H') (keyS kt)) (((s.st w0 H0).st w' H').df P (keyS kt) v) (bg N c 2+1):=fun v=>am1.df (v:=v) (filt3 (name:=name)) (filt4 pX pX2) (hidk g filt1 pX) fun _ _=>keyS_A
   have ld:=id.low il.le.1 il.le.2
   cases def_sim S hc am1 hL (Nat.le_trans (Nat.le_of_eq bg_a) (fit hN 8)) g g2 hp hj h1 h2 hxy hb with
   | mk lp rt wt en r7 j7 p7=>
    have hd:=def_run (id:=sym kt tag) am1 .s (Nat.le_trans (Nat.add_le_add_left (Nat.le_trans (by decide) hc) _) (fit hN 3)) (al_sw am1.j.wd am1.ch (fa_wa (s':=(s.st w0 H0).st w' H') am0 (il2.low ld.le.1 ld.le.2) (List.prefix_refl _)) (by decide)) (fa_wa (s':=(s.st w0 H0).st w' H') am0 ld il2.le.2) (al_sw (ad _).j.wd (ad _).ch (ilx.wa (fun m h _=>look_2.trans ((if_neg keyS_A).trans (am.fa m h))) (ir.le.2.trans st.ns)) (by decide)) (al_sw (ad _).j.wd (ad _).ch (il.wa (fun m h _=>look_2.trans ((if_neg keyS_A).trans (am0.fa m h))) (id.le.2.trans il2.le.2)) (by decide)) (.no rfl) (rt.le up20)
    exact .mk ((lv_loop (.inr rfl) lp (Nat.le_trans hj (by decide))).up (j:=30)) (rn_turn (k:=q+40) (by decide) (let_sw am (.inl rfl) hs) (rm rfl) ee0 (lkq (q:=q) (b:=45) rfl) (rn_c1 (k:=q+40) ((sw_not rfl).le (by decide)) (rul (q:=q) (i:=24) (j:=45) (rn_turn (k:=q+20) (by decide) (al_sw am0.j.wd am0.ch (ir.wa (fun m h _=>am.fa m (Nat.lt_of_le_of_lt ilx.le.1 h)) (List.prefix_refl _)) (by decide)) (rm rfl) ee (lkq (q:=q) (b:=25) rfl) hd) rfl) (rul (q:=q) (i:=4) (j:=45) (rn_at rfl) rfl) (en.le (upq (q:=q) (a:=25) (b:=45) rfl)) (r7.le (upq (q:=q) (a:=25) (b:=45) rfl)))) (vok_n (by decide)) (j7.up (Nat.le_of_eq bg_a)) ((Po.st st0).trans ((Po.st st).trans p7))
end
section
variable {P N N' q n m k c L mk':Nat} {T:List String} {e:Ev} {s s':X} {v u x y a kb ky:V} {G:List String→V→V→Prop} {w w0 w1 w':W} {xs ys cs:List V} {ks:List KK} {last:Option (List V)}
inductive OutS (P:Nat) (e:Ev) (xs:List V) (v:V) (s:X) (n m N':Nat):Prop
 | mk {u:V} {s':X}:Sq n e.k xs s.HL u s'.HL→Rn P m v e.sc s.HR (u,s'.HR)→ND s.HR e.sc v→VOK u→J P e.B s' N'→Po P e.B s s'→OutS P e xs v s n m N'
inductive OutC (P:Nat) (e:Ev) (key:V) (last:Option (List V)) (cs:List V) (v:V) (s:X) (n m N':Nat):Prop
 | mk {u:V} {s':X}:Cs n e.k key last cs s.HL u s'.HL→Rn P m v e.sc s.HR (u,s'.HR)→ND s.HR e.sc v→VOK u→J P e.B s' N'→Po P e.B s s'→OutC P e key last cs v s n m N'
noncomputable def Alv {α:Type} (F:Prop→α→Prop) (cs:List α):Prop:=∀ i c,cs[i]?=some c→∀ p:Prop,(i+1=cs.length→p)→F p c
theorem Alv.nil {α:Type} {F:Prop→α→Prop}:Alv F []:=fun _ _ h=>nomatch h
theorem Alv.cons {α:Type} {F:Prop→α→Prop} {c:α} {cs:List α} (h:∀ p,(cs=[]→p)→F p c) (t:Alv F cs):Alv F (c::cs):=Nat.rec (motive:=fun i=>∀ c',(c::cs)[i]?=some c'→∀ p:Prop,(i+1=(c::cs).length→p)→F p c') (fun c' e p hp=>Option.some.inj e▸h p fun e=>hp (e▸rfl)) fun i _ c' e p hp=>t i c' e p fun e=>hp (congrArg (·+1) e)
theorem IsSeq.le (h:IsSeq w w' xs v):w.L≤w'.L∧w.ns<+:w'.ns:=by
 cases h with
 | one a b=>exact ⟨a,b⟩
 | row _ i=>exact i.le
theorem CaseF.le:∀ {ks:List KK} {w1:W} {v:V},CaseF ky w0 w1 ks v→w0.L≤w1.L
 | [],_,_,h=>Nat.le_of_eq (congrArg W.L h.1).symm
 | .els _ _ _::_,_,_,⟨_,a,_,i⟩=>Nat.le_trans a i.le.1
 | .cl _ _ _::_,_,_,h=>h (fun _=>_) fun (h:CaseF ky w0 _ _ _) a b c d=>Nat.le_trans (CaseF.le h) (Nat.le_trans a.le.1 (Nat.le_trans b.le.1 (Nat.le_trans c.le.1 d.le.1)))
theorem KL.len (hk:KL T (G e.ns) last cs ks):ks.length≤cs.length+1∧cs.length≤ks.length:=by
 induction hk with
 | nil=>exact ⟨Nat.le_of_ble_eq_true rfl,Nat.le_refl _⟩
 | els=>exact ⟨Nat.le_of_ble_eq_true rfl,Nat.le_of_ble_eq_true rfl⟩
 | cons _ _ _ _ ih=>exact ⟨Nat.succ_le_succ ih.1,Nat.succ_le_succ ih.2⟩
theorem gl_none {t:String} (am:Am P T e s N) (g:T[k]?=some t) (hw:t∉words∧t∉NS0∧t∉X0):look e.fs (keyS k)=none:=(am.en.fr _ _ g (am_ns am hw.2.1) hw.2.2).trans (root_look.trans (congrArg (Option.map spec) (w_n am.j.wd (pre_at am.tb g) hw.1)))
theorem IsSeq.inv1 {C:V→Prop} (h:IsSeq w w' [x] v) (c:C x):C v:=by
 cases h with
 | one=>exact c
 | row h=>exact absurd rfl h
theorem IsSeq.inv2 {C:V→Prop} (h:IsSeq w w' [x,y] v) (c:∀ a,IsAl w w' "begin" a→C (mk [a,x,y] .empty)):C v:=by
 cases h with
 | row _ i=>exact c _ i
variable (S:Sm T G (q+5) c L) (hG:∀ {ns x y},G ns x y→Hd T ns y) (am:Am P T e s N) (hL:e.es.length+L≤100)
include S hG am hL
theorem seq_run (hN:bg N c 2≤room) (hx:R12 (G e.ns) xs ys) (hq:IsSeq w0 w1 ys v) (hr:Rg e.fs w0.L w1.L) (hp:w1.ns<+:s.w.ns):OutS P e xs v s (q+5) (q+25) (bg N c 2):=by
 cases hx with
 | one hx=>
  cases S am hx hL (Nat.le_trans (bg_le (i:=1) (by decide)) hN) with
  | @mk u s1 lv r vo j p=>exact hq.inv1 (C:=fun v=>OutS P e _ v s (q+5) (q+25) (bg N c 2)) (.mk (.one lv) (r.le up20) (nd_of am (hG hx)) vo (j.up (bg_le (i:=1) (by decide))) p)
 | two hx hx2=>
  cases S am hx hL (Nat.le_trans (bg_le (i:=1) (by decide)) hN) with
  | mk lv r vo j p=>
   cases S (am.nx p j) hx2 hL hN with
   | mk lv2 r2 vo2 j2 p2=>
    exact hq.inv2 (C:=fun v=>OutS P e _ v s (q+5) (q+25) (bg N c 2)) fun a i=>
     have sw:=al_sw am.j.wd am.ch (i.wa hr hp) (by decide)
     .mk (.two lv lv2) (rn_beg2 (k:=q+20) sw (ru r) (r2.le up20)) (.pr sw (by decide)) vo2 j2 (p.trans p2)
theorem case_sim (hN:bg N c 2≤room) (hkey:VOK ky) (rk:Rn P (q+5) kb e.sc s.HR (ky,s.HR)) (hk:KL T (G e.ns) last cs ks):∀ {w0 w1:W} {v:V},CaseF kb w0 w1 ks v→Rg e.fs w0.L w1.L→w1.ns<+:s.w.ns→OutC P e ky last cs v s (q+5) (q+25) (bg N c 2):=by
 induction hk with
 | nil h=>
  intro w0 w1 v hC _ _
  obtain ⟨_,rfl⟩:=hC
  exact .mk (.nil (h ▸ .none)) (rn_at rfl) (.no rfl) .unspec (am.j.up (bg_le (i:=0) (Nat.zero_le _))) .refl
 | els h g hx=>
  intro w0 w1 v hC hr hp
  obtain ⟨_,a,_,i⟩:=hC
  cases seq_run S hG am hL hN hx i (fun m h=>hr m (Nat.lt_of_le_of_lt a h)) hp with
  | mk sq r nd vo j p=>exact .mk (.nil (h ▸ .some sq)) r nd vo j p
 | cons hd hl hx _ ih=>
  intro w0 w1 v hC hr hp
  refine hC (fun v=>OutC P e ky last _ v s (q+5) (q+25) (bg N c 2)) fun (hC:CaseF kb w0 _ _ _) io im iq ia=>?_
  have l3:=Nat.le_trans im.le.1 (Nat.le_trans iq.le.1 ia.le.1)
  have p3:=ia.le.2.trans hp
  have p2:=iq.le.2.trans p3
  have l0:=CaseF.le hC
  have o:=ih hC (fun m h h2=>hr m h (Nat.le_trans h2 (Nat.le_trans io.le.1 l3))) (io.le.2.trans (im.le.2.trans p2))
  have l1:=Nat.le_trans l0 io.le.1
  have gm:=al_gl (P:=P) (n:=q) am.j.wd am.ch (im.wa (fun m h h2=>hr m (Nat.lt_of_le_of_lt l1 h) (Nat.le_trans h2 (Nat.le_trans iq.le.1 ia.le.1))) p2) (by decide)
  have tst:=rn_b2 (k:=q+5) gm.1 (rul (q:=q) (i:=4) (j:=10) gm.2 rfl) (rul (q:=q) (i:=4) (j:=10) rk rfl) (rul (q:=q) (i:=4) (j:=10) (rn_quote (al_sw am.j.wd am.ch (io.wa (fun m h h2=>hr m (Nat.lt_of_le_of_lt l0 h) (Nat.le_trans h2 l3)) (im.le.2.trans p2)) (by decide))) rfl) ((c_memv hkey hd (Nat.le_trans hl (rm rfl))).le (lkq (q:=q) (b:=10) rfl))
  have sw:=al_sw am.j.wd am.ch (ia.wa (fun m h=>hr m (Nat.lt_of_le_of_lt (Nat.le_trans l1 (Nat.le_trans im.le.1 iq.le.1)) h)) hp) (by decide)
  cases hb:hitB ky _ with
  | true=>
   rw [hb] at tst
   cases seq_run S hG am hL hN hx iq (fun m h h2=>hr m (Nat.lt_of_le_of_lt (Nat.le_trans l1 im.le.1) h) (Nat.le_trans h2 ia.le.1)) p3 with
   | mk sq r nd vo j p=>exact .mk (.hit hd hb sq) (rn_if (k:=q+20) (z:=true) sw (rul (q:=q) (i:=9) (j:=25) tst rfl) (isnot (z:=false) rfl) r) (.pr sw (by decide)) vo j p
  | false=>
   rw [hb] at tst
   cases o with
   | mk cc r nd vo j p=>exact .mk (.miss hd hb cc) (rn_if (k:=q+20) (z:=false) sw (rul (q:=q) (i:=9) (j:=25) tst rfl) (isnot (z:=true) rfl) r) (.pr sw (by decide)) vo j p
omit S hG hL
theorem kc_of (hk:KL T (G e.ns) last cs ks):Alv (KC s.w.ns e.fs) ks:=by
 induction hk with
 | nil=>exact .nil
 | els _ g hx=>exact .cons (fun _ hp => .els (hp rfl) (pre_at am.tb g) (gl_none am g (by decide)) (Nat.le_trans (Nat.le_of_succ_le hx.len.1) (by decide))) .nil
 | cons _ hl hx _ ih=>exact .cons (fun _ _ => .cl (Nat.le_trans hl (by decide)) (Nat.le_trans (Nat.le_of_succ_le hx.len.1) (by decide))) ih
include S hG hL
theorem sm_case {cs:List V} (hc:32≤c) (hN:bg N c 100≤room) (h:Sy T "case" a) (hx:G e.ns x y) (hk:KL T (G e.ns) last cs ks) (h1:1≤cs.length) (h2:cs.length≤2):Out P e (.tup [.str "case",x,.lst cs,lastV last]) (mk (a::y::ks.map KK.val) .empty) s (q+25) (bg N c 5):=by
 have hl:=hk.len
 have hl3:ks.length≤3:=Nat.le_trans hl.1 (Nat.succ_le_succ h2)
 have c1:∀ {M},M+1≤M+c:=Nat.add_le_add_left (Nat.le_trans (by decide) hc) _
 have c2:N+(1+(5*ks.length+1))≤bg N c 1:=Nat.add_le_add_left (Nat.le_trans (Nat.add_le_add_left (Nat.add_le_add_right (Nat.mul_le_mul_left 5 hl3) 1) 1) (Nat.le_trans (by decide) hc)) N
 exact case_eq (sc:=e.sc) (x:=a) (ky:=y) (cs:=ks) am.j.wd (Nat.le_trans (Nat.add_le_add_right am.j.nn _) (Nat.le_trans c2 (fit hN 1))) am.ch (Nat.le_trans hl3 (by decide)) (Nat.le_trans h1 hl.2) (fun i c h=>kc_of am hk i c h _ id) fun kk v la w1 w2 w' H' ee ik F il st=>by
  have am1:=(am.st st).up c2
  cases S am1 hx hL (fit hN 2) with
  | @mk u s2 lv r vo j p=>
   have am2:=am1.nx p j
   cases ik with
   | @mk mk' kb g1 g2 g3 g4=>
    have mw:=Nat.le_trans g2 (Nat.le_trans (CaseF.le F) (Nat.le_trans il.le.1 p.L))
    have am4:=(am_own (u:=u) am2 mw).up (N':=bg N c 3) c1
    cases case_sim S hG am4 hL (Nat.le_trans (Nat.le_of_eq bg_5) (fit hN 5)) vo (rd_own (b:=sym kb "kept") (am_own (u:=u) am2 mw) j) hk F (fun m h _=>look_1.trans ((if_neg fun c=>Nat.not_le_of_lt h (Nat.le_trans (Nat.le_of_eq (keyA_inj c).symm) g2)).trans (am.fa m (Nat.lt_trans (Nat.lt_of_lt_of_le g1 g2) h)))) (il.le.2.trans (p.ns.trans (Po.e1 (P:=P) (key:=keyA mk') (v:=u) j).ns)) with
    | mk cc r3 nd vo3 j3 p3=>exact .mk ((lv_case lv vo cc).up (j:=10)) (rn_turn (k:=q+20) (by decide) (am_sw am h (by decide) (am_ns am (by decide)) (by decide)) (by rw [List.length_cons,List.length_cons,List.length_map]; exact hun (Nat.le_trans hl3 (by decide)) 2) ee (lkq (q:=q) (b:=25) rfl) (rn_let1 (al_sw am1.j.wd am1.ch (il.wa (fun m h _=>am.fa m (Nat.lt_trans (Nat.lt_of_lt_of_le g1 g2) (Nat.lt_of_le_of_lt (CaseF.le F) h))) (List.prefix_refl _)) (by decide)) (rm rfl) (ru r) (bd_run j.app (Nat.le_trans c1 (fit hN 3)) .a at_n j.l9 (Nat.ne_of_gt j.lP) (rm rfl)) (fun y hy=>List.mem_singleton.mp hy▸nd) .one r3)) vo3 (j3.up (Nat.le_of_eq bg_5)) ((Po.st st).trans (p.trans ((Po.e1 j).trans p3)))
end
section
variable {P N N' q n m k c L mk':Nat} {T:List String} {e:Ev} {s s':X} {v u x y a kb ky:V} {G:List String→V→V→Prop} {w w0 w1 w':W} {xs ys cs:List V} {ks:List CK} {last:Option (List V)} {R:V→V→Prop} {ns xs':List String}
inductive OutK (P:Nat) (e:Ev) (last:Option (List V)) (cs:List V) (v:V) (s:X) (n m N':Nat):Prop
 | mk {u:V} {s':X}:Cd n e.k last cs s.HL u s'.HL→Rn P m v e.sc s.HR (u,s'.HR)→VOK u→J P e.B s' N'→Po P e.B s s'→OutK P e last cs v s n m N'
theorem OutK.of {n m:Nat} (h:∀ {Z:Prop},(∀ {u:V} {s':X},Cd n e.k last cs s.HL u s'.HL→Rn P m v e.sc s.HR (u,s'.HR)→VOK u→J P e.B s' N'→Po P e.B s s'→Z)→Z):OutK P e last cs v s n m N':=h .mk
theorem at_nn (h:isAt y=true):isN y=false:=by cases y <;> first | rfl | cases h
theorem at_ni (h:isAt y=true):notId y=true:=by cases y <;> first | rfl | cases h
theorem Hd.nn (h:Hd T ns y):isN y=false:=h.rec (fun h=>at_nn h) (fun _ _=>rfl) fun _ _ _ _=>rfl
theorem seq_beh (hG:∀ {ns x y},G ns x y→Hd T ns y) (hx:R12 (G ns) xs ys) (hq:IsSeq w0 w1 ys v):beh v=v:=by
 cases hx with
 | one h=>exact hq.inv1 (C:=fun v=>beh v=v) (beh_or.resolve_left fun x=>by have:=x.1; rw [(hG h).nn] at this; cases this).2
 | two=>exact hq.inv2 (C:=fun v=>beh v=v) fun _ _=>rfl
theorem CondF.le:∀ {ks:List CK} {w1:W} {v:V},CondF w0 w1 ks v→w0.L≤w1.L:=fun {ks}=>by
 induction ks with
 | nil=>exact fun h=>Nat.le_of_eq (congrArg W.L h.1).symm
 | cons c ks ih=>
  cases c with
  | test=>exact fun h=>h (fun _=>_) fun (h:CondF w0 _ _ _) b c=>Nat.le_trans (ih h) (Nat.le_trans b.le.1 c.le.1)
  | bare=>exact fun h=>h (fun _=>_) (fun _ a _=>a) fun (h:CondF w0 _ _ _) _ b c d=>Nat.le_trans (ih h) (Nat.le_trans b.le.1 (Nat.le_trans c.le.1 d.le.1))
  | arrow=>exact fun h=>h (fun _=>_) fun (h:CondF w0 _ _ _) b c d=>Nat.le_trans (ih h) (Nat.le_trans b.le.1 (Nat.le_trans c.le.1 d.le.1))
  | els=>exact fun ⟨_,a,_,i⟩=>Nat.le_trans a i.le.1
theorem CL.nn (hk:CL T R last cs ks) (F:CondF w0 w1 ks v) (h:isN v=false):¬ (cs=[]∧last=none):=by
 cases ks with
 | nil=>exact absurd (h.symm.trans (congrArg isN F.2)) (by decide)
 | cons c ks=>
  cases c with
  | els=>exact fun h2=>hk.rec fun _ h=>nomatch h.1.2.2.symm.trans h2.2
  | test=>exact hk (fun cs=>¬ (cs=[]∧last=none)) fun _ _ (_:CL T R last _ ks) h=>nomatch h.1
  | bare=>exact hk (fun cs=>¬ (cs=[]∧last=none)) fun _ (_:CL T R last _ ks) h=>nomatch h.1
  | arrow=>exact hk (fun cs=>¬ (cs=[]∧last=none)) fun _ _ _ (_:CL T R last _ ks) h=>nomatch h.1
theorem cond_sim (S:Sm T G (q+5) c L) (hG:∀ {ns x y},G ns x y→Hd T ns y) (hc:32≤c) (ks:List CK):∀ {cs:List V} {e:Ev} {s:X} {N:Nat} {w0 w1:W} {v:V},CL T (G e.ns) last cs ks→CondF w0 w1 ks v→Am P T e s N→e.es.length+L≤100→Rg e.fs w0.L w1.L→w1.L≤s.w.L→w1.ns<+:s.w.ns→bg N c (2*ks.length+2)≤room→OutK P e last cs (beh v) s (q+5) (q+25) (bg N c (2*ks.length+2)):=by
 induction ks with
 | nil=>
  intro cs e s N w0 w1 v hk hF am hL hr hw hp hN
  obtain ⟨rfl,rfl⟩:=hk
  obtain ⟨_,rfl⟩:=hF
  exact .mk (.nil .none) (rn_at rfl) .unspec (am.j.up (bg_le (i:=0) (Nat.zero_le _))) .refl
 | cons ck ks ih=>
  intro cs e s N w0 w1 v hk hF am hL hr hw hp hN
  have hN:bg N c (2*ks.length+4)≤room:=hN
  have lc:∀ {i},i≤4→bg N c i≤bg N c (2*ks.length+4):=fun h=>bg_le (Nat.le_trans h (Nat.le_add_left 4 _))
  have f1:=Nat.le_trans (lc (i:=1) (by decide)) hN
  have b2:bg (N+c+c) c (2*ks.length+2)=bg N c (2*ks.length+4):=by rw [bg_s,bg_s]
  have jj:N+c+1≤N+c+c:=Nat.add_le_add_left (Nat.le_trans (by decide) hc) _
  cases ck with
  | els k y ys=>
   obtain ⟨ps,⟨rfl,_,rfl⟩,_,hx⟩:=hk
   obtain ⟨_,a,_,i⟩:=hF
   refine .of fun {Z} k'=>?_
   cases seq_run S hG am hL (Nat.le_trans (lc (by decide)) hN) hx i (fun m h=>hr m (Nat.lt_of_le_of_lt a h)) hp with
   | mk sq r nd vo j p=>exact k' (.nil (.some sq)) ((seq_beh (G:=G) hG hx i).symm▸r) vo (j.up (lc (by decide))) p
  | test t y ys=>
   refine hk (fun cs=>OutK P e last cs (beh v) s (q+5) (q+25) _) fun {tx ps cs} gs gq (hk:CL T (G e.ns) last cs ks)=>?_
   refine hF (fun v=>OutK P e last _ (beh v) s (q+5) (q+25) _) fun (hF:CondF w0 _ ks _) is' ia=>?_
   refine .of fun {Z} k'=>?_
   have sw:=al_sw am.j.wd am.ch (ia.wa (fun m h=>hr m (Nat.lt_of_le_of_lt (Nat.le_trans (CondF.le hF) is'.le.1) h)) hp) (by decide)
   cases S am gs hL f1 with
   | @mk u s1 lv r vo j po=>
    have am1:=am.nx po j
    have p1:=ia.le.2.trans (hp.trans po.ns)
    cases g:isF u with
    | false=>
     cases seq_run S hG am1 hL (Nat.le_trans (lc (i:=3) (by decide)) hN |> Nat.le_trans (Nat.le_of_eq (bg_s (N:=N) (k:=2)))) gq is' (fun m h h2=>hr m (Nat.lt_of_le_of_lt (CondF.le hF) h) (Nat.le_trans h2 ia.le.1)) p1 with
     | mk sq r2 nd vo2 j2 p2=>exact k' (.seq lv g sq) (rn_if (k:=q+20) (z:=true) sw (ru r) (isnot g) r2) vo2 (j2.up (Nat.le_trans (Nat.le_of_eq (bg_s (N:=N) (k:=2))) (lc (by decide)))) (po.trans p2)
    | true=>
     cases ih hk hF (am1.up (Nat.le_trans (Nat.le_succ _) jj)) hL (fun m h h2=>hr m h (Nat.le_trans h2 (Nat.le_trans is'.le.1 ia.le.1))) (Nat.le_trans (Nat.le_trans is'.le.1 ia.le.1) (Nat.le_trans hw po.L)) (is'.le.2.trans p1) (b2▸hN) with
     | mk cd r2 vo2 j2 p2=>exact k' (.skip (.inl rfl) (fun h=>nomatch h) lv g cd) (rn_if (k:=q+20) (z:=false) sw (ru r) (isnot g) r2) vo2 (j2.up (Nat.le_of_eq b2)) (po.trans p2)
  | bare t=>
   refine hk (fun cs=>OutK P e last cs (beh v) s (q+5) (q+25) _) fun {tx ps cs} gs (hk:CL T (G e.ns) last cs ks)=>?_
   cases S am gs hL f1 with
   | @mk u s1 lv r vo j po=>
    refine hF (fun v=>OutK P e last _ (beh v) s (q+5) (q+25) _) (fun hn _ _=>?_) fun (hF:CondF w0 _ ks _) hv ik ia il=>?_
    ·cases hn
     refine .of fun {Z} k'=>?_
     exact k' (.own lv (.inr hk)) ((beh_or.resolve_left fun x=>by have:=x.1; rw [(hG gs).nn] at this; cases this).2.symm▸r.le up20) vo (j.up (lc (i:=1) (by decide))) po
    ·refine .of fun {Z} k'=>?_
     cases kept_sim am hr hw hp (CondF.le hF) ik ia il r j po (Nat.le_trans jj (Nat.le_trans (lc (i:=2) (by decide)) hN)) with
     | @mk key am2 hr2 hw2 hp2 si rk whole=>
      have p2:=po.trans (.e1 (P:=P) (key:=key) (v:=u) j)
      cases g:isF u with
      | false=>exact k' (s':=s1.e1 P key u) (.own lv (.inl g)) (whole (rn_if (k:=q+20) (z:=true) si (ru (rk q)) (isnot g) (rk (q+20)))) vo (am2.j.up (Nat.le_trans jj (lc (i:=2) (by decide)))) p2
      | true=>
       cases ih (e:=e.hid e.ns P s1 key u) hk hF (am2.up jj) hL hr2 (Nat.le_succ_of_le hw2) hp2 (b2▸hN) with
       | mk cd r3 vo3 j3 p3=>exact k' (.skip (.inr (.inl rfl)) (fun _=>CL.nn hk hF hv) lv g cd) (whole (rn_if (k:=q+20) (z:=false) si (ru (rk q)) (isnot g) ((beh_or.resolve_left fun x=>by have:=x.1; rw [hv] at this; cases this).2▸r3))) vo3 (j3.up (Nat.le_of_eq b2)) (p2.trans p3)
  | arrow t k f=>
   refine hk (fun cs=>OutK P e last cs (beh v) s (q+5) (q+25) _) fun {tx ps cs} gs _ hf (hk:CL T (G e.ns) last cs ks)=>?_
   refine hF (fun v=>OutK P e last _ (beh v) s (q+5) (q+25) _) fun (hF:CondF w0 _ ks _) ik ia il=>?_
   refine .of fun {Z} k'=>?_
   cases S am gs hL f1 with
   | @mk u s1 lv r vo j po=>
    cases kept_sim am hr hw hp (CondF.le hF) ik ia il r j po (Nat.le_trans jj (Nat.le_trans (lc (i:=2) (by decide)) hN)) with
    | @mk key am2 hr2 hw2 hp2 si rk whole=>
     have p2:=po.trans (.e1 (P:=P) (key:=key) (v:=u) j)
     have am2:=am2.up jj
     cases g:isF u with
     | false=>exact k' (s':=(s1.e1 P key u).say (sayZ u)) (.tell lv g vo j.s8 (Nat.le_trans j.tn f1)) (whole (rn_if (k:=q+20) (z:=true) si (ru (rk q)) (isnot g) ((gl1 (q:=q) am2 hf (by decide) (rk q) ((c_say vo am2.j.td (Nat.le_trans am2.j.tn (Nat.le_trans (lc (i:=2) (by decide)) hN))).up (j:=1))).le (upq (q:=q) (a:=10) (b:=25) rfl)))) vo (am2.j.say.up (Nat.le_trans (Nat.add_le_add_left (Nat.le_trans (by decide) hc) _) (lc (i:=3) (by decide)))) (p2.trans .say)
     | true=>
      cases ih (e:=e.hid e.ns P s1 key u) hk hF am2 hL hr2 (Nat.le_succ_of_le hw2) hp2 (b2▸hN) with
      | mk cd r3 vo3 j3 p3=>exact k' (.skip (.inr (.inr rfl)) (fun h=>nomatch h) lv g cd) (whole (rn_if (k:=q+20) (z:=false) si (ru (rk q)) (isnot g) r3)) vo3 (j3.up (Nat.le_of_eq b2)) (p2.trans p3)
theorem Hd.nw {t:String} (h:Hd T ns y) (ht:t∉NS0) (p:T<+:xs'):NW t xs' y:=h.rec (motive:=fun y _=>NW t xs' y) (fun h => .inl (at_ni h)) (fun g m => .inr ⟨_,_,rfl,pre_at p g,fun c=>ht (c▸m)⟩) fun _ _ _ _ => .inl rfl
theorem CL.len (ks:List CK):∀ {cs:List V},CL T R last cs ks→ks.length≤cs.length+1∧cs.length≤ks.length:=by
 induction ks with
 | nil=>exact fun h=>h.1▸⟨Nat.le_of_ble_eq_true rfl,Nat.le_refl _⟩
 | cons c ks ih=>
  intro cs h
  cases c with
  | els=>obtain ⟨_,⟨rfl,rfl,_⟩,_⟩:=h; exact ⟨Nat.le_of_ble_eq_true rfl,Nat.le_of_ble_eq_true rfl⟩
  | test=>exact h (fun cs=>ks.length+1≤cs.length+1∧cs.length≤ks.length+1) fun _ _ (h:CL T R last _ ks)=>⟨Nat.succ_le_succ (ih h).1,Nat.succ_le_succ (ih h).2⟩
  | bare=>exact h (fun cs=>ks.length+1≤cs.length+1∧cs.length≤ks.length+1) fun _ (h:CL T R last _ ks)=>⟨Nat.succ_le_succ (ih h).1,Nat.succ_le_succ (ih h).2⟩
  | arrow=>exact h (fun cs=>ks.length+1≤cs.length+1∧cs.length≤ks.length+1) fun _ _ _ (h:CL T R last _ ks)=>⟨Nat.succ_le_succ (ih h).1,Nat.succ_le_succ (ih h).2⟩
theorem R12.hd {Z:Prop} (h:R12 R xs (y::ys)) (k:∀ {x},R x y→Z):Z:=by
 cases h with
 | one h=>exact k h
 | two h=>exact k h
theorem cc_of (hG:∀ {ns x y},G ns x y→Hd T ns y) (am:Am P T e s N) (ks:List CK):∀ {cs:List V},CL T (G e.ns) last cs ks→Alv (CC s.w.ns e.fs) ks:=by
 have nw:∀ {x y},G e.ns x y→NW "else" s.w.ns y:=fun h=>(hG h).nw (by decide) am.tb
 have l2:∀ {ps y ys},R12 (G e.ns) ps (y::ys)→ys.length≤100:=fun hx=>Nat.le_trans (Nat.le_of_succ_le hx.len.1) (by decide)
 induction ks with
 | nil=>exact fun _ => .nil
 | cons c ks ih=>
  intro cs hk
  cases c with
  | els=>
   obtain ⟨_,⟨_,rfl,_⟩,g,hx⟩:=hk
   exact .cons (fun _ hp=>hx.hd fun h => .els (hp rfl) (pre_at am.tb g) (gl_none am g (by decide)) (hG h).nn (l2 hx)) .nil
  | test s y ys=>exact hk (fun _=>Alv (CC _ e.fs) (.test s y ys::ks)) fun gs hx (hk:CL T (G e.ns) last _ ks) => .cons (fun _ _=>hx.hd fun h => .test (nw gs) ((hG h).nw (by decide) am.tb) (l2 hx)) (ih hk)
  | bare s=>exact hk (fun _=>Alv (CC _ e.fs) (.bare s::ks)) fun gs (hk:CL T (G e.ns) last _ ks) => .cons (fun _ _ => .bare (nw gs) (hG gs).nn) (ih hk)
  | arrow s k f=>exact hk (fun _=>Alv (CC _ e.fs) (.arrow s k f::ks)) fun gs g _ (hk:CL T (G e.ns) last _ ks) => .cons (fun _ _ => .arrow (nw gs) (pre_at am.tb g) (gl_none am g (by decide))) (ih hk)
theorem cond_beh (hG:∀ {ns x y},G ns x y→Hd T ns y) (hk:CL T (G ns) last cs ks) (F:CondF w0 w1 ks v) (h:1≤ks.length):beh v=v:=by
 cases ks with
 | nil=>exact absurd h (by decide)
 | cons c ks=>
  cases c with
  | els=>
   obtain ⟨_,_,_,hx⟩:=hk
   obtain ⟨_,_,_,i⟩:=F
   exact seq_beh (G:=G) hG hx i
  | test=>exact F (fun v=>beh v=v) fun (_:CondF w0 _ ks _) _ _=>rfl
  | bare=>exact hk (fun _=>_) fun gs (_:CL T (G ns) last _ ks)=>F (fun v=>beh v=v) (fun _ _ _=>(beh_or.resolve_left fun x=>by have:=x.1; rw [(hG gs).nn] at this; cases this).2) fun (_:CondF w0 _ ks _) _ _ _ _=>rfl
  | arrow=>exact F (fun v=>beh v=v) fun (_:CondF w0 _ ks _) _ _ _=>rfl
theorem sm_cond (S:Sm T G (q+5) c L) (hG:∀ {ns x y},G ns x y→Hd T ns y) (hc:32≤c) (am:Am P T e s N) (hL:e.es.length+L≤100) (hN:bg N c 100≤room) (h:Sy T "cond" a) (hk:CL T (G e.ns) last cs ks) (h1:1≤cs.length) (h2:cs.length≤3):Out P e (cdT cs last) (mk (a::ks.map CK.val) .empty) s (q+25) (bg N c 11):=by
 have hl:=CL.len ks hk
 have hl4:ks.length≤4:=Nat.le_trans hl.1 (Nat.succ_le_succ h2)
 have c2:N+5*ks.length≤bg N c 1:=Nat.add_le_add_left (Nat.le_trans (Nat.mul_le_mul_left 5 hl4) (Nat.le_trans (by decide) hc)) N
 have lb:bg (bg N c 1) c (2*ks.length+2)≤bg N c 11:=Nat.le_trans (Nat.le_of_eq bg_a) (bg_le (Nat.le_trans (Nat.add_le_add_left (Nat.add_le_add_right (Nat.mul_le_mul_left 2 hl4) 2) 1) (by decide)))
 exact cond_eq (sc:=e.sc) (x:=a) (cs:=ks) am.j.wd (Nat.le_trans (Nat.add_le_add_right am.j.nn _) (Nat.le_trans c2 (fit hN 1))) am.ch (Nat.le_trans hl4 (by decide)) (Nat.le_trans h1 hl.2) (fun i c h=>cc_of (G:=G) hG am ks hk i c h _ id) fun v w' H' ee F st=>by
  cases cond_sim S hG hc ks hk F ((am.st st).up c2) hL (fun m h _=>am.fa m h) (Nat.le_refl _) (List.prefix_refl _) (Nat.le_trans lb (fit hN 11)) with
  | mk cd r vo j p=>exact .mk ((lv_cond (Nat.le_trans h2 (by decide)) cd).up (j:=10)) (rn_turn (k:=q+20) (by decide) (am_sw am h (by decide) (am_ns am (by decide)) (by decide)) (by rw [List.length_cons,List.length_map]; exact hun (Nat.le_trans hl4 (by decide)) 1) ee (lkq (q:=q) (b:=25) rfl) (cond_beh (G:=G) hG hk F (Nat.le_trans h1 hl.2)▸r)) vo (j.up lb) ((Po.st st).trans p)
end
section
variable {P N N' q n m k c L kt kt2 K ba bb:Nat} {T:List String} {e:Ev} {s s':X} {v u u2 x y x2 y2 a z z2 la id id2 sc:V} {G:List String→V→V→Prop} {w w0 w1 w':W} {xs ys:List V} {ns ns1:List String} {t t2 wd:String} {k1 k2:Int} {fs:List (List (Int×V))} {B:List (Nat×Nat)} {H:Hp} {es es1:List (String×V)}
theorem look_3 {a:Int} {m m2:Nat}:look ([]::aput k2 (locN m2) [(k1,locN m)]::fs) a=if k2=a then some (locN m2) else if k1=a then some (locN m) else look fs a:=by
 rw [look_f,aget_aput]
 by_cases c:k2=a
 ·rw [if_pos c,if_pos c]; rfl
 ·rw [if_neg c,if_neg c,aget_c]
  by_cases c:k1=a
  ·rw [if_pos c,if_pos c]; rfl
  ·rw [if_neg c,if_neg c]; rfl
noncomputable abbrev X.b1 (s:X) (P:Nat) (k1:Int) (u:V):X:=s.app.bd P s.HR.length k1 [] u
noncomputable abbrev X.b2 (s:X) (P:Nat) (k1 k2:Int) (u u2:V):X:=(s.b1 P k1 u).bd P s.HR.length k2 [(k1,locN (s.w.L+1))] u2
theorem J.b1 (j:J P B s N):J P B (s.b1 P k1 u) (N+1):=j.app.bd j.l9 (Nat.ne_of_gt j.lP) fun p hp=>Nat.ne_of_lt (j.box p hp).lt.2
theorem J.b2 (j:J P B s N):J P B (s.b2 P k1 k2 u u2) (N+2):=j.b1.bd j.l9 (Nat.ne_of_gt j.lP) fun p hp=>Nat.ne_of_lt (j.box p hp).lt.2
theorem b1_len:(s.b1 P k1 u).HR.length=s.HR.length+2:=bd_len.trans (congrArg (·+1) app_len)
theorem b1_d (j:J P B s N):(s.b1 P k1 u).HR[s.HR.length]?=some (.dictI [(k1,locN (s.w.L+1))]):=bd_d (es:=[]) (by rw [app_len]; exact Nat.lt_succ_self _) (Nat.ne_of_gt j.lP)
theorem Po.b2 (j:J P B s N):Po P B s (s.b2 P k1 k2 u u2):=Po.bd j.b1 (Po.bd j.app (.app j.l8) (Nat.le_refl _) j.l8) (Nat.le_refl _) j.l8
theorem Po.e2 (j:J P B s N):Po P B s (s.e2 P k1 k2 u u2):=(Po.b2 j).trans (.app j.b2.l8)
theorem b2_run (j:J P B s N) (hN:N+2≤room) (h1:keyOf id k1) (h2:keyOf id2 k2):R 4 .law_bind [id,u,inS sc s.HR.length,.ref P,.ref 6] s.app.HR (.none,(s.b1 P k1 u).HR)∧R 4 .law_bind [id2,u2,inS sc s.HR.length,.ref P,.ref 6] (s.b1 P k1 u).HR (.none,(s.b2 P k1 k2 u u2).HR):=
 ⟨bd_run j.app (Nat.le_of_succ_le hN) h1 at_n j.l9 (Nat.ne_of_gt j.lP) (rm rfl),bd_run j.b1 hN h2 (b1_d j) j.l9 (Nat.ne_of_gt j.lP) (rm rfl)⟩
theorem b2_x (j:J P B s N):((s.b2 P k1 k2 u u2).HR[s.HR.length+1]?=some (.list [u])∧aget ((s.w.L+1:Nat):Int) (s.b2 P k1 k2 u u2).pes=some (.ref (s.HR.length+1)))∧(s.b2 P k1 k2 u u2).HR[s.HR.length+2]?=some (.list [u2])∧aget ((s.w.L+2:Nat):Int) (s.b2 P k1 k2 u u2).pes=some (.ref (s.HR.length+2)):=by
 have l9:=j.l9
 have lP:=j.lP
 have l1:s.app.HR.length=s.HR.length+1:=app_len
 have l2:(s.b1 P k1 u).HR.length=s.HR.length+2:=b1_len
 have nw:∀ i,s.w.L < i→aget (i:Int) s.pes=none:=fun i h=>j.new h
 have n1:(s.b1 P k1 u).HR[s.HR.length+1]?=some (.list [u]):=l1▸bd_n (by rw [l1]; exact Nat.lt_succ_of_lt lP)
 have p2:∀ i,aget i (s.b2 P k1 k2 u u2).pes=((aget i s.pes).or (if ((s.w.L+1:Nat):Int)=i then some (V.ref (s.HR.length+1)) else none)).or (if ((s.w.L+2:Nat):Int)=i then some (V.ref (s.HR.length+2)) else none):=fun i=>by
  show aget i ((s.pes++[(((s.w.L+1:Nat):Int),V.ref s.app.HR.length)])++[(((s.w.L+2:Nat):Int),V.ref (s.b1 P k1 u).HR.length)])=_
  rw [aget_app,aget_app,l1,l2]
 refine ⟨⟨(bd_at (by rw [l2]; exact Nat.lt_succ_self _) (Nat.succ_ne_self _) (Nat.ne_of_gt (Nat.lt_succ_of_lt lP)) (Nat.lt_succ_of_lt l9)).trans n1,?_⟩,l2▸bd_n (by rw [l2]; exact Nat.lt_succ_of_lt (Nat.lt_succ_of_lt lP)),?_⟩
 ·rw [p2,nw _ (Nat.lt_succ_self _),if_pos rfl]; rfl
 ·rw [p2,nw _ (Nat.lt_succ_of_lt (Nat.lt_succ_self _)),if_pos rfl,if_neg (fun e:((s.w.L+1:Nat):Int)=((s.w.L+2:Nat):Int)=>Nat.ne_of_lt (Nat.lt_succ_self _) (Int.ofNat.inj e))]; rfl
theorem Ch.e2 (c:Ch P s.HR sc fs) (j:J P B s N):Ch P (s.e2 P k1 k2 u u2).HR ((s.b2 P k1 k2 u u2).nsc sc s.HR.length) ([]::aput k2 (locN (s.w.L+2)) [(k1,locN (s.w.L+1))]::fs):=by
 have l9:=j.l9
 have lP:=j.lP
 have l2:(s.b1 P k1 u).HR.length=s.HR.length+2:=b1_len
 have l3:(s.b2 P k1 k2 u u2).HR.length=(s.b1 P k1 u).HR.length+1:=bd_len
 refine .cons (at_n (l:=(s.b2 P k1 k2 u u2).HR)) (by rw [l3,l2]; exact Nat.lt_succ_of_lt (Nat.lt_succ_of_lt (Nat.lt_succ_of_lt l9))) (by rw [l3,l2]; exact Nat.ne_of_gt (Nat.lt_succ_of_lt (Nat.lt_succ_of_lt (Nat.lt_succ_of_lt lP)))) (fun _ _ h=>nomatch h) (.cons (at_a (bd_d (by rw [l2]; exact Nat.lt_succ_of_lt (Nat.lt_succ_self _)) (Nat.ne_of_gt lP))) l9 (Nat.ne_of_gt lP) (fun q v h=>?_) (c.po j (.e2 j)))
 rw [aget_aput] at h
 by_cases x:k2=q
 ·rw [if_pos x] at h; cases h; exact ⟨_,rfl⟩
 ·rw [if_neg x,aget_c] at h
  by_cases x:k1=q
  ·rw [if_pos x] at h; cases h; exact ⟨_,rfl⟩
  ·rw [if_neg x] at h; cases h
noncomputable abbrev Ev.two (e:Ev) (ns:List String) (B:List (Nat×Nat)) (P:Nat) (s:X) (K:Nat) (es:List (String×V)) (t:String) (kt kt2 b2:Nat) (u u2:V):Ev:=⟨ns++[t],K,es,(s.b2 P (keyS kt) (keyS kt2) u u2).nsc e.sc s.HR.length,[]::aput (keyS kt2) (locN (s.w.L+2)) [(keyS kt,locN (s.w.L+1))]::e.fs,(b2,s.HR.length+2)::B⟩
theorem Am.two (a:Am P T e s N) (j:J P e.B (s.lf H) N) (hK:H[K]?=some (.dictS es)) (g:T[kt]?=some t) (g2:T[kt2]?=some t2) (hne:t≠t2) (vo:VOK u2) (hb:H[bb]?=some (.list [u2])) (h8:8 < bb) (hB:∀ p∈B,p.1≠bb) (ht2:t2∈NS0)
  (jB:J P B ((s.lf H).e2 P (keyS kt) (keyS kt2) u u2) (N+2)) (hBB:∀ p∈e.B,p∈B) (hR:∀ p∈B,p.2 < s.HR.length+2) (e2:∀ o,o≠t2→aget o es=aget o es1) (e1:aget t2 es=some (.ref bb)) (hn:t∈ns1→∃ b,aget t es1=some (.ref b)∧(b,s.HR.length+1)∈B) (hs:∀ o∈ns1,o≠t→o∈e.ns∧aget o es1=aget o e.es) (hf:∀ o∈e.ns,o∈ns1∨o∈X0) (ht:t∈ns1∨t∈X0) (hS:∀ o∈ns1,o∈NS0):Am P T (e.two ns1 B P s K es t2 kt kt2 bb u u2) ((s.lf H).e2 P (keyS kt) (keyS kt2) u u2) (N+2):=by
 have l9:=a.j.l9
 have lP:=a.j.lP
 have hk:kt2≠kt:=kne g2 g (Ne.symm hne)
 obtain ⟨⟨_,y1⟩,x2,y2⟩:=b2_x (k1:=keyS kt) (k2:=keyS kt2) (u:=u) (u2:=u2) j
 have p:=Po.e2 (k1:=keyS kt) (k2:=keyS kt2) (u:=u) (u2:=u2) j
 have en1:En T ((bb,s.HR.length+2)::B) ns1 es1 (fun q=>if keyS kt=q then some (locN (s.w.L+1)) else look e.fs q) ((s.lf H).e2 P (keyS kt) (keyS kt2) u u2).pes:=
  en_push a.en (fun g'=>T_inj a g' g) g (fun q hq => .tail _ (hBB q hq)) p.pm (fun q h=>if_neg fun c=>h (keyS_inj c).symm) (fun h=>(hn h).elim fun b hb => .mk (if_pos rfl) y1 hb.1 (.tail _ hb.2)) hs hf ht
 exact ⟨jB.ext (.mk vo hb (at_a x2) h8 (Nat.lt_succ_of_lt (Nat.lt_succ_of_lt l9)) (Nat.ne_of_gt (Nat.lt_succ_of_lt (Nat.lt_succ_of_lt lP)))) hB fun q hq=>Nat.ne_of_lt (hR q hq),hK,Ch.e2 (s:=s.lf H) a.ch j,fun m h=>look_3.trans ((if_neg keyS_A).trans ((if_neg keyS_A).trans (a.fa m (Nat.lt_of_succ_lt (Nat.lt_of_succ_lt h))))),en_push en1 (fun g'=>T_inj a g' g2) g2 (fun _ h=>h) (fun _ _ h=>h) (fun q h=>(look_3 (a:=keyS q)).trans (if_neg fun c=>h (keyS_inj c).symm)) (fun _ => .mk (look_3.trans (if_pos rfl)) y2 e1 (.head _)) (fun o ho hne=>⟨(List.mem_append.mp ho).elim (fun h=>h) fun h=>absurd (List.mem_singleton.mp h) hne,e2 o hne⟩) (fun o ho => .inl (List.mem_append_left _ ho)) (.inl (List.mem_append_right _ (.head _))),a.tb,fun o ho=>(List.mem_append.mp ho).elim (hS o) fun h=>List.mem_singleton.mp h▸ht2⟩
end
section
variable {P N N' q n m k c L kt kt2 K ba bb:Nat} {T:List String} {e:Ev} {s s':X} {v u u2 x y x2 y2 a z z2 la i1 i2 sc f a2 v1 v2:V} {G:List String→V→V→Prop} {w w0 w1 w':W} {xs ys:List V} {ns ns1:List String} {t t2 wd:String} {k1 k2:Int} {fs:List (List (Int×V))} {B:List (Nat×Nat)} {H H0 H1:Hp} {r:V×Hp}
theorem call2 (j:J P B s N) (hN:N+2≤room) (h1:keyOf i1 k1) (h2:keyOf i2 k2) (hn:∀ y∈ys,ND (s.e2 P k1 k2 u u2).HR ((s.b2 P k1 k2 u u2).nsc sc s.HR.length) y) (h:Bdy P (q+6) ((s.b2 P k1 k2 u u2).nsc sc s.HR.length) ys (s.e2 P k1 k2 u u2).HR f H1):R (q+25) .law_entered (entA P [i1,i2] ys sc [u,u2]) s.HR (.tup [f,(s.b2 P k1 k2 u u2).nsc sc s.HR.length],H1):=
 (ent2 (m:=q+5) (Nat.le_add_left 5 q) (b2_run (u2:=u2) j hN h1 h2).1 (b2_run j hN h1 h2).2 hn h).up (j:=18)
theorem Out.of {n:Nat} (h:∀ {Z:Prop},(∀ {u:V} {s':X},LV n e.k x s.HL (u,s'.HL)→Rn P n y e.sc s.HR (u,s'.HR)→VOK u→J P e.B s' N'→Po P e.B s s'→Z)→Z):Out P e x y s n N':=h .mk
theorem ap_l {t t2:String} {v v2:V} {es:List (String×V)} (h:es.length+(L+4)≤100):(aput t2 v2 (aput t v es)).length+L≤100:=
 Nat.le_trans (Nat.add_le_add_right (Nat.le_trans aput_len (Nat.succ_le_succ aput_len)) L) (Nat.le_trans (Nat.le_trans (Nat.le_of_eq (Nat.add_assoc _ 2 L)) (Nat.add_le_add_left (Nat.le_trans (Nat.le_of_eq (Nat.add_comm 2 L)) (Nat.add_le_add_left (by decide) L)) _)) h)
theorem ap_o {t o:String} {v:V} {es:List (String×V)} (h:o≠t):aget o (aput t v es)=aget o es:=aget_aput.trans (if_neg (Ne.symm h))
theorem ap_s {t:String} {v:V} {es:List (String×V)}:aget t (aput t v es)=some v:=aget_aput.trans (if_pos rfl)
variable (S:Sm T G (q+5) c L) (hG:∀ {ns x y},G ns x y→Hd T ns y) (hc:32≤c) (am:Am P T e s N) (hL:e.es.length+(L+4)≤100) (hN:bg N c 100≤room)
include S hG hc am hL hN
theorem sm_let2 (h:Sy T "let" a) (ht:t∈binds) (ht2:t2∈binds) (hne:t≠t2) (g:T[kt]?=some t) (g2:T[kt2]?=some t2) (hxy:G e.ns x y) (hxy2:G e.ns x2 y2) (hx:R12 (G (e.ns++[t]++[t2])) xs ys):Out P e (.tup [.str "let",.lst [.tup [.str t,x],.tup [.str t2,x2]],.lst xs]) (mk (a::mk [mk [sym kt t,y] .empty,mk [sym kt2 t2,y2] .empty] .empty::ys) .empty) s (q+25) (bg N c 6):=by
 have hl:=hx.len
 have hl100:ys.length≤100:=Nat.le_trans hl.1 (by decide)
 have c1:∀ {M},M+1≤M+c:=Nat.add_le_add_left (Nat.le_trans (by decide) hc) _
 have c2:∀ {M},M+2≤M+c:=Nat.add_le_add_left (Nat.le_trans (by decide) hc) _
 have hLL:e.es.length+L≤100:=Nat.le_trans (Nat.add_le_add_left (Nat.le_add_right L 4) _) hL
 have hl0:e.es.length≤100:=Nat.le_trans (Nat.le_add_right _ _) hL
 exact let_eq (sc:=e.sc) (x:=a) (ns:=[sym kt t,sym kt2 t2]) (ps:=[y,y2]) am.j.wd (Nat.le_trans (Nat.add_le_add_right am.j.nn 1) (Nat.le_trans c1 (fit hN 1))) rfl (fun _=>binds2 .s .s) ⟨Nat.le_of_ble_eq_true rfl,Nat.le_of_ble_eq_true rfl⟩ hl.2 hl100 fun la w' H' ee st il => .of fun {Z} kz=>by
  have am1:=(am.st st).up (N':=bg N c 1) c1
  obtain ⟨amk,amK,pK⟩:=am_dict am1
  cases S amk hxy hLL (fit hN 2) with
  | @mk u s3 lv r vo j p=>
   have kdK:=(amK.nx p j).kd
   have lK:=lt_at kdK
   have h8:8≠s.HL.length:=Nat.ne_of_lt (lt_at am.j.s8)
   have hB:∀ p∈e.B,p.1≠s.HL.length:=fun p hp=>Nat.ne_of_lt (am.j.box p hp).lt.1
   have jl:=j.lf (H:=lbH s3.HL s.HL.length e.es t u) (K:=s.HL.length) (fun i a b=>lb_at i a b) h8 hB
   have p3:=Po.lf (H:=lbH s3.HL s.HL.length e.es t u) (K:=s.HL.length) ((Po.st st).trans (pK.trans p)) (by rw [lb_len]; exact Nat.le_succ _) (fun i a b=>lb_at i a b) (Nat.le_refl _)
   have ln:s3.HL.length < (lbH s3.HL s.HL.length e.es t u).length:=Nat.lt_of_lt_of_eq (Nat.lt_succ_self _) lb_len.symm
   have hB3:∀ p∈e.B,s3.HL.length≠p.1:=fun p hp=>Nat.ne_of_gt (j.box p hp).lt.1
   cases S (am.nx p3 jl) hxy2 hLL (fit hN 3) with
   | @mk u2 s5 lv2 r2 vo2 j2 p2=>
    have kd5:=(p2.kl _ (Nat.lt_trans lK ln) (Ne.symm h8) fun p hp=>Ne.symm (hB p hp)).trans (lb_K lK)
    have bx:=(p2.kl _ ln (Nat.ne_of_gt (lt_at j.s8)) hB3).trans (lb_n lK)
    have lK5:=lt_at kd5
    have jl2:=j2.lf (H:=lbH s5.HL s.HL.length (aput t (.ref s3.HL.length) e.es) t2 u2) (K:=s.HL.length) (fun i a b=>lb_at i a b) h8 hB
    have xx:=b2_x (k1:=keyS kt) (k2:=keyS kt2) (u:=u) (u2:=u2) jl2
    have l9:=j2.l9
    have lP:=j2.lP
    have al:(aput t (.ref s3.HL.length) e.es).length≤e.es.length+1:=aput_len
    have am6:=Am.two (ns1:=e.ns++[t]) (B:=(s3.HL.length,s5.HR.length+1)::e.B) (es1:=aput t (.ref s3.HL.length) e.es) (u:=u) ((am.nx p3 jl).nx p2 j2) jl2 (lb_K lK5) g g2 hne vo2 (lb_n lK5) (lt_at j2.s8) (List.forall_mem_cons.mpr ⟨Nat.ne_of_lt (lt_at bx),fun p hp=>Nat.ne_of_lt (j2.box p hp).lt.1⟩) (binds_NS0 t2 ht2) (jl2.b2.app.ext (.mk vo ((lb_at _ (lt_at bx) (Nat.ne_of_gt lK)).trans bx) (at_a xx.1.1) (lt_at j.s8) (Nat.lt_succ_of_lt l9) (Nat.ne_of_gt (Nat.lt_succ_of_lt lP))) (fun p hp=>Ne.symm (hB3 p hp)) fun p hp=>Nat.ne_of_lt (Nat.lt_succ_of_lt (j2.box p hp).lt.2)) (fun _ h => .tail _ h) (List.forall_mem_cons.mpr ⟨Nat.lt_succ_self _,fun p hp=>Nat.lt_of_lt_of_le (j2.box p hp).lt.2 (Nat.le_add_right _ 2)⟩) (fun o h=>ap_o h) ap_s (fun _=>⟨_,ap_s,.head _⟩) (fun o ho hne=>⟨(List.mem_append.mp ho).elim id fun h=>absurd (List.mem_singleton.mp h) hne,ap_o hne⟩) (fun o ho => .inl (List.mem_append_left _ ho)) (.inl (List.mem_append_right _ (.head _))) (fun o ho=>(List.mem_append.mp ho).elim (am.sub o) fun h=>List.mem_singleton.mp h▸binds_NS0 t ht)
    have pe:=Po.e2 (k1:=keyS kt) (k2:=keyS kt2) (u:=u) (u2:=u2) jl2
    have p5:=Po.lf (H:=lbH s5.HL s.HL.length (aput t (.ref s3.HL.length) e.es) t2 u2) (K:=s.HL.length) (p3.trans p2) (by rw [lb_len]; exact Nat.le_succ _) (fun i a b=>lb_at i a b) (Nat.le_refl _)
    cases body_sim S (am6.up (N':=bg N c 4) c2) (ap_l hL) (Nat.le_trans (Nat.le_of_eq bg_a) (fit hN 6)) hx with
    | mk sq bd rr vo5 j5 p6=>
     exact kz ((lv_let2 .a am.kd lv kdK (hun hl0 0) lv2 kd5 (Nat.le_trans al (hun hl0 1)) sq).up (j:=10)) (rn_turn (k:=q+20) (by decide) (let_sw am (.inl rfl) h) (hun hl100 2) ee lk25 (rn_c2 (k:=q+20) ((sw_not rfl).le (by decide)) (ru (q:=q) (rn_lambda (k:=q) (al_sw am1.j.wd am1.ch (fa_wa (s':=s.st w' H') am il (List.prefix_refl _)) (by decide)) (hun hl100 2))) (ru r) (ru r2) (call2 (s:=s5.lf (lbH s5.HL s.HL.length (aput t (.ref s3.HL.length) e.es) t2 u2)) jl2 (Nat.le_trans c2 (fit hN 4)) .s .s (R12.nd (G:=G) hG am6 hx) bd) rr)) vo5 ((j5.pop fun p hp => .tail _ (.tail _ hp)).up (Nat.le_of_eq bg_a)) ((p5.trans pe).tr p6 (List.forall_mem_cons.mpr ⟨.inr ⟨(p3.trans p2).ll,Nat.le_trans (p3.trans p2).lr (Nat.le_add_right _ 2)⟩,List.forall_mem_cons.mpr ⟨.inr ⟨(pK.trans p).ll,Nat.le_trans (p3.trans p2).lr (Nat.le_succ _)⟩,fun _ => .inl⟩⟩))
end
section
variable {P N N' q n m k c L kt kb K ba bb i lim:Nat} {T:List String} {e:Ev} {s s':X} {v u u2 x y x2 y2 a z a1 sc f b sy us:V} {G:List String→V→V→Prop} {w w0 w1 w':W} {xs ys cds cdy:List V} {ns:List String} {nm bs:String} {key:Int} {fs:List (List (Int×V))} {B:List (Nat×Nat)} {H H0 H1:Hp} {r:V×Hp} {R0:V→V→Prop}
theorem L2.le1 {C:List V→List V→Prop} (h:L2 R0 xs ys) (hl:xs.length≤1) (h0:C [] []) (h1:∀ {x y},R0 x y→C [x] [y]):C xs ys:=by
 cases h with
 | nil=>exact h0
 | cons h t=>
  cases t with
  | nil=>exact h1 h
  | cons=>exact absurd hl (Nat.not_succ_le_zero _∘Nat.le_of_succ_le_succ)
theorem L2.le2 {C:List V→List V→Prop} (h:L2 R0 xs ys) (hl:xs.length≤2) (h0:C [] []) (h1:∀ {x y},R0 x y→C [x] [y]) (h2:∀ {x y x2 y2},R0 x y→R0 x2 y2→C [x,x2] [y,y2]):C xs ys:=by
 cases h with
 | nil=>exact h0
 | cons h t=>exact t.le1 (C:=fun xs ys=>C (_::xs) (_::ys)) (Nat.le_of_succ_le_succ hl) (h1 h) fun h'=>h2 h h'
theorem IsSeq.inv3 {C:V→Prop} (h:IsSeq w w' [x,y,z] v) (c:∀ a,IsAl w w' "begin" a→C (mk [a,x,y,z] .empty)):C v:=by
 cases h with
 | row _ i=>exact c _ i
theorem told_sim (S:Sm T G (q+5) c L) (hL:e.es.length+L≤100) (am:Am P T e s N) (hN:bg N c 2≤room) (hx:L2 (G e.ns) xs ys) (hl:xs.length≤2) (hi:R 5 .special_word [a1,e.sc] s.HR (.str "if",s.HR)) (hq:IsSeq w0 w1 (mk [a1,.bool false,.bool false] .empty::ys) v) (hb:∀ a,IsAl w0 w1 "begin" a→R 5 .special_word [a,e.sc] s.HR (.str "begin",s.HR)) {Z:Prop} (kz:∀ {u:V} {s':X},Sq (q+5) e.k xs s.HL u s'.HL→Rn P (q+25) v e.sc s.HR (u,s'.HR)→VOK u→J P e.B s' (bg N c 2)→Po P e.B s s'→Z):Z:=by
 have i1:=rn_if2 (k:=q) (P:=P) hi
 have n1:bg N c 1≤room:=Nat.le_trans (bg_le (i:=1) (by decide)) hN
 refine hx.le2 (C:=fun xs ys=>IsSeq w0 w1 (mk [a1,.bool false,.bool false] .empty::ys) v→(∀ {u:V} {s':X},Sq (q+5) e.k xs s.HL u s'.HL→Rn P (q+25) v e.sc s.HR (u,s'.HR)→VOK u→J P e.B s' (bg N c 2)→Po P e.B s s'→Z)→Z) hl (fun hq kz=>?_) (fun h hq kz=>?_) (fun h h2 hq kz=>?_) hq kz
 ·exact kz .nil (hq.inv1 (C:=fun v=>Rn P (q+25) v e.sc s.HR (.unspec,s.HR)) (i1.le (upq (q:=q) (a:=6) (b:=25) rfl))) .unspec (am.j.up (bg_le (i:=0) (Nat.zero_le _))) .refl
 ·cases S am h hL n1 with
  | @mk u s1 lv r vo j p=>exact kz (.one lv) (hq.inv2 (C:=fun v=>Rn P (q+25) v e.sc s.HR (u,s1.HR)) fun a i=>rn_beg2 (k:=q+20) (hb a i) (rul (q:=q) (i:=5) (j:=25) i1 rfl) (r.le up20)) vo (j.up (bg_le (i:=1) (by decide))) p
 ·cases S am h hL n1 with
  | mk lv r vo j p=>
   cases S (am.nx p j) h2 hL hN with
   | @mk u s2 lv2 r2 vo2 j2 p2=>exact kz (.two lv lv2) (hq.inv3 (C:=fun v=>Rn P (q+25) v e.sc s.HR (u,s2.HR)) fun a i=>rn_beg3 (k:=q+20) (hb a i) (rul (q:=q) (i:=5) (j:=25) i1 rfl) (ru r) (r2.le up20)) vo2 j2 (p.trans p2)
theorem cmd_sim (S:Sm T G (q+5) c L) (hL:e.es.length+L≤100) (am:Am P T e s' N) (hN:bg N c 1≤room) (hx:L2 (G e.ns) cds cdy) (hl:cds.length≤1) (say:R (q+25) .law_run (runA P sy e.sc) s.HR (us,s'.HR)) (hq:IsSeq w0 w1 (sy::cdy++[b]) v) (hb:∀ a,IsAl w0 w1 "begin" a→R 5 .special_word [a,e.sc] s.HR (.str "begin",s.HR)) {Z:Prop} (kz:∀ {u:V} {s2:X},Sq (q+5) e.k cds s'.HL u s2.HL→(∀ {r:V×Hp},Rn P (q+25) b e.sc s2.HR r→Rn P (q+25) v e.sc s.HR r)→J P e.B s2 (bg N c 1)→Po P e.B s' s2→Z):Z:=by
 refine hx.le1 (C:=fun cds cdy=>IsSeq w0 w1 (sy::cdy++[b]) v→(∀ {u:V} {s2:X},Sq (q+5) e.k cds s'.HL u s2.HL→(∀ {r:V×Hp},Rn P (q+25) b e.sc s2.HR r→Rn P (q+25) v e.sc s.HR r)→J P e.B s2 (bg N c 1)→Po P e.B s' s2→Z)→Z) hl (fun hq kz=>?_) (fun h hq kz=>?_) hq kz
 ·exact kz (s2:=s') .nil (fun {r} hr=>hq.inv2 (C:=fun v=>Rn P (q+25) v e.sc s.HR r) fun a i=>rn_beg2 (k:=q+20) (hb a i) say hr) (am.j.up (bg_le (i:=0) (Nat.zero_le _))) .refl
 ·cases S am h hL hN with
  | mk lv r vo j p=>exact kz (.one lv) (fun {r'} hr=>hq.inv3 (C:=fun v=>Rn P (q+25) v e.sc s.HR r') fun a i=>rn_beg3 (k:=q+20) (hb a i) say (ru r) hr) j p
theorem doB_len {es:List (String×V)}:(doB H es i).length=H.length+2:=List.length_append.trans (congrArg (·+1) List.length_append)
theorem doC_at {es:List (String×V)} {b:V} {j:Nat} (h:j≠H.length):(doH H es nm bs i b)[j]?=(doC H es i b)[j]?:=(at_s h).trans (at_s h)
theorem doH_at {es:List (String×V)} {b:V} (j:Nat) (h:j < H.length) (_:j≠H.length):(doH H es nm bs i b)[j]?=H[j]?:=(doC_at (Nat.ne_of_lt h)).trans ((at_l (Nat.lt_of_lt_of_le h (by rw [doB_len]; exact Nat.le_add_right _ _))).trans ((at_l (Nat.lt_of_lt_of_le h (Nat.le_trans (Nat.le_add_right _ 1) (Nat.le_of_eq (List.length_append (as:=H) (bs:=[.dictS es])).symm)))).trans (at_l h)))
theorem doH_K {es:List (String×V)} {b:V}:(doH H es nm bs i b)[H.length]?=some (.dictS (doE H es nm bs i)):=set_at (set_at (at_a (at_a at_n)))
theorem doH_b {es:List (String×V)} {b:V}:(doH H es nm bs i b)[(doB H es i).length]?=some (.list [b]):=(doC_at (by rw [doB_len]; exact Nat.ne_of_gt (Nat.lt_add_of_pos_right (by decide)))).trans at_n
theorem doH_len {es:List (String×V)} {b:V}:H.length≤(doH H es nm bs i b).length:=Nat.le_trans (Nat.le_add_right _ 3) (Nat.le_of_eq (List.length_set.trans (List.length_set.trans (List.length_append.trans (congrArg (·+1) doB_len)))).symm)
noncomputable abbrev Ev.doo (e:Ev) (P:Nat) (s:X) (nm bs:String) (i:Nat) (b:V) (kt kb:Nat):Ev:=(e.two (e.ns.filter fun o => !(o == nm)) e.B P s s.HL.length (doE s.HL e.es nm bs i) bs kt kb (doB s.HL e.es i).length (.int i) b)
noncomputable abbrev X.doo (s:X) (P:Nat) (es:List (String×V)) (nm bs:String) (i:Nat) (b:V) (kt kb:Nat):X:=(s.lf (doH s.HL es nm bs i b)).e2 P (keyS kt) (keyS kb) (.int i) b
theorem do_in (am:Am P T e s N) (g:T[kt]?=some nm) (g2:T[kb]?=some bs) (hne:nm≠bs) (nX:nm∈X0) (bN:bs∈NS0) (vb:VOK b):Am P T (e.doo P s nm bs i b kt kb) (s.doo P e.es nm bs i b kt kb) (N+2)∧Po P e.B s (s.doo P e.es nm bs i b kt kb)∧Lc P (e.doo P s nm bs i b kt kb).B (look (e.doo P s nm bs i b kt kb).fs) (s.doo P e.es nm bs i b kt kb) (keyS kt) (.int i):=by
 have h8:=lt_at am.j.s8
 have hB:∀ p∈e.B,p.1 < s.HL.length:=fun p hp=>(am.j.box p hp).lt.1
 have hR:∀ p∈e.B,p.2 < s.HR.length:=fun p hp=>(am.j.box p hp).lt.2
 have j:=am.j.lf (H:=doH s.HL e.es nm bs i b) (K:=s.HL.length) doH_at (Nat.ne_of_lt h8) fun p hp=>Nat.ne_of_lt (hB p hp)
 have xx:=b2_x (k1:=keyS kt) (k2:=keyS kb) (u := .int i) (u2:=b) j
 have l9:=am.j.l9
 have lP:=am.j.lP
 have bl:s.HL.length≤(doB s.HL e.es i).length:=by rw [doB_len]; exact Nat.le_add_right _ 2
 refine ⟨Am.two am j doH_K g g2 hne vb doH_b (Nat.lt_of_lt_of_le h8 bl) (fun p hp=>Nat.ne_of_lt (Nat.lt_of_lt_of_le (hB p hp) bl)) bN j.b2.app (fun _ h=>h) (fun p hp=>Nat.lt_of_lt_of_le (hR p hp) (Nat.le_add_right _ 2)) (fun o h=>ap_o h) ap_s (fun h=>?_) (fun o h hn=>⟨(List.mem_filter.mp h).1,ap_o hn⟩) (fun o h=>?_) (.inr nX) (fun o h=>am.sub o (List.mem_filter.mp h).1),(Po.refl.lf (s:=s) (K:=s.HL.length) doH_len doH_at (Nat.le_refl _)).trans (.e2 j),.mk (look_3.trans ((if_neg fun c=>kne g g2 hne (keyS_inj c).symm).trans (if_pos rfl))) xx.1.2 (at_a xx.1.1) (Nat.lt_succ_of_lt l9) (Nat.ne_of_gt (Nat.lt_succ_of_lt lP)) (List.forall_mem_cons.mpr ⟨Nat.succ_ne_self _,fun p hp=>Nat.ne_of_lt (Nat.lt_succ_of_lt (hR p hp))⟩)⟩
 ·exact (not_t (List.mem_filter.mp h).2 (beq_self_eq_true _)).elim
 ·by_cases c:o=nm
  ·exact .inr (c▸nX)
  ·exact .inl (List.mem_filter.mpr ⟨h,by rw [beq_false_of_ne c]; rfl⟩)
end
section
variable {P N N' q n m k c L kt kb i lim mk':Nat} {T:List String} {e:Ev} {s s':X} {v u u2 x y a a1 a2 f b b2 tl ag lp lp2 lp3 nt kv iy sy2:V} {G:List String→V→V→Prop} {w w0 w1 w2 w3 w4 w5:W} {tds tdy cds cdy told cmds:List V} {nm bs:String} {H H1 H2:Hp} {st sty:Option V} {es:List (String×V)} {said:List Int}
inductive Bs (n k:Nat) (bs:String) (st:Option V) (H:Hp) (b2:V) (H2:Hp):Prop
 | same {es2:List (String×V)} {j:Nat}:st=none→H[k]?=some (.dictS es2)→aget bs es2=some (.ref j)→H[j]?=some (.list [b2])→H2=H→Bs n k bs st H b2 H2
 | step {x:V}:st=some x→isN x=false→LV n k x H (b2,H2)→Bs n k bs st H b2 H2
theorem Dw.go (h1:i < lim) (h2:H[k]?=some (.dictS es)) (h3:es.length+1≤room) (h4:(doH H es nm bs i b)[8]?=some (.list (said.map .int))) (h5:said.length≤room) (h6:Sq n H.length cmds ((doH H es nm bs i b).set 8 (.list ((said++[(i:Int)]).map .int))) u H1) (h7:Bs n H.length bs st H1 b2 H2) {H3:Hp} (h8:Dw n k nm bs lim st told cmds (i+1) b2 H2 v H3):Dw n k nm bs lim st told cmds i b H v H3:=by
 cases h7 with
 | same a b c d e=>subst e; exact .same a h1 h2 h3 h4 h5 h6 b c d h8
 | step a b c=>exact .step a b h1 h2 h3 h4 h5 h6 c h8
theorem At2.nn {ns:List String} (h:At2 T ns x y):isN x=false:=by cases h <;> rfl
theorem step_sim (am:Am P T e s N) (hst:St2 (At2 T e.ns) st sty) (hb:bs∈e.ns) (g2:T[kb]?=some bs) {Z:Prop} (kz:∀ {b2:V} {s':X},Bs (q+5) e.k bs st s.HL b2 s'.HL→Rn P (q+5) (sty.getD (sym kb bs)) e.sc s.HR (b2,s'.HR)→VOK b2→J P e.B s' N→Po P e.B s s'→Z):Z:=by
 cases hst with
 | none=>exact am_nm am hb g2 fun m b b' u f hm hb _ vo hl hr=>kz (s':=s) (.same rfl am.kd hb hl rfl) (rn_loc .s am.ch.obj f am.j.pl hm hr) vo am.j .refl
 | some h=>
  cases sm_at (q:=q) h am with
  | mk lv r vo j p=>exact kz (.step rfl h.nn lv) r vo j p
theorem dn_up:∀ i,i < 4→(numV (.int (i:Nat))+numV (.int 1)).fmod 7=((i+1:Nat):Int):=by decide
noncomputable abbrev dobd (a2 nt lp2 zn:V) (lim:Nat) (tl ag:V):V:=mk [a2,mk [nt,mk [lp2,zn,.int lim] .empty] .empty,tl,ag] .empty
inductive OutW (P:Nat) (e:Ev) (nm bs:String) (lim:Nat) (st:Option V) (tds cds:List V) (zn zb bd:V) (i:Nat) (b:V) (s:X) (n m N':Nat):Prop
 | mk {u:V} {s':X} {sc:V} {H:Hp}:Dw n e.k nm bs lim st tds cds i b s.HL u s'.HL→R m .law_entered (entA P [zn,zb] [bd] e.sc [.int i,b]) s.HR (.tup [bd,sc],H)→Rn P m bd sc H (u,s'.HR)→VOK u→J P e.B s' N'→Po P e.B s s'→OutW P e nm bs lim st tds cds zn zb bd i b s n m N'
variable (S:Sm T G (q+5) c L) (hc:32≤c) (hL:e.es.length+(L+4)≤100) (g:T[kt]?=some nm) (g2:T[kb]?=some bs) (hne:nm≠bs) (nX:nm∈X0) (bN:bs∈NS0) (hlim:lim≤4) (h2:Sy T "less" lp2) (h3:Sy T "not" nt)
include g g2 hne nX bN hlim h2 h3
theorem turn_in (vb:VOK b) (am:Am P T e s N) (hN:N+2≤room) (hi:i≤4) (ia:IsAl w4 w5 "if" a2) (hr:Rg e.fs w4.L w5.L) (hp:w5.ns<+:s.w.ns) {Z:Prop} (kz:∀ {sc:V},sc=(e.doo P s nm bs i b kt kb).sc→R (q+25) .law_entered (entA P [sym kt nm,sym kb bs] [dobd a2 nt lp2 (sym kt nm) lim tl ag] e.sc [.int i,b]) s.HR (.tup [dobd a2 nt lp2 (sym kt nm) lim tl ag,sc],(s.doo P e.es nm bs i b kt kb).HR)→(∀ {z:Bool} {r:V×Hp},decide (i < lim)=z→Rn P (q+25) (match z with | true=>ag | false=>tl) sc (s.doo P e.es nm bs i b kt kb).HR r→Rn P (q+25) (dobd a2 nt lp2 (sym kt nm) lim tl ag) sc (s.doo P e.es nm bs i b kt kb).HR r)→Z):Z:=by
 obtain ⟨am4,p4,lcn⟩:=do_in (i:=i) am g g2 hne nX bN vb
 have sw:=al_sw am4.j.wd am4.ch (ia.wa (fun m h h2=>look_3.trans ((if_neg keyS_A).trans ((if_neg keyS_A).trans (hr m h h2)))) (hp.trans p4.ns)) (by decide)
 have ls:=c_less (H:=(s.doo P e.es nm bs i b kt kb).HR) (vok_n (i:=i) (Nat.lt_of_le_of_lt hi (by decide))) (vok_n (i:=lim) (Nat.lt_of_le_of_lt hlim (by decide)))
 rw [sayZ_n (Nat.lt_of_le_of_lt hi (by decide)),sayZ_n (Nat.lt_of_le_of_lt hlim (by decide)),decide_eq_decide.mpr Int.ofNat_lt] at ls
 have tst:=gl1 (q:=q+5) am4 h3 (by decide) (gl2 (q:=q) (x:=sym kt nm) am4 h2 (by decide) (lcn.rn am4 .s) (rn_at rfl) ls) (c_not.up (j:=2))
 refine kz rfl (call2 (s:=s.lf (doH s.HL e.es nm bs i b)) (am.j.lf doH_at (Nat.ne_of_lt (lt_at am.j.s8)) fun p hp=>Nat.ne_of_lt (am.j.box p hp).lt.1) hN .s .s (fun y hy=>List.mem_singleton.mp hy ▸ .pr sw (by decide)) .one) fun {z r} hz hr=>?_
 rw [hz] at tst
 cases z with
 | true=>exact rn_if (k:=q+20) (z:=false) sw (rul (q:=q) (i:=14) (j:=25) tst rfl) (isnot (z:=true) rfl) hr
 | false=>exact rn_if (k:=q+20) (z:=true) sw (rul (q:=q) (i:=14) (j:=25) tst rfl) (isnot (z:=false) rfl) hr
include S hc hL
theorem turn_sim (h1:Sy T "plus" lp) (h4:Sy T "say" lp3) (hst:St2 (At2 T ((e.ns.filter fun o => !(o == nm))++[bs])) st sty) (htd:L2 (G ((e.ns.filter fun o => !(o == nm))++[bs])) tds tdy) (htl:tds.length≤2) (hcd:L2 (G ((e.ns.filter fun o => !(o == nm))++[bs])) cds cdy) (hcl:cds.length≤1)
  (iag:IsSeq w1 w2 (mk [lp3,sym kt nm] .empty::cdy++[mk [als mk' kv,mk [lp,sym kt nm,.int 1] .empty,sty.getD (sym kb bs)] .empty]) ag) (ia1:IsAl w2 w3 "if" a1) (itl:IsSeq w3 w4 (mk [a1,.bool false,.bool false] .empty::tdy) tl) (ia2:IsAl w4 w5 "if" a2) (hr:Rg e.fs w1.L w5.L):∀ (j i:Nat),i+j=lim→∀ {b:V} {s:X} {N:Nat},VOK b→Am P T e s N→w5.ns<+:s.w.ns→Lc P e.B (look e.fs) s (keyA mk') (.tup (clo [sym kt nm,sym kb bs] [dobd a2 nt lp2 (sym kt nm) lim tl ag] e.sc))→bg N c (2*j+3)≤room →
  OutW P e nm bs lim st tds cds (sym kt nm) (sym kb bs) (dobd a2 nt lp2 (sym kt nm) lim tl ag) i b s (q+5) (q+25) (bg N c (2*j+3)):=fun j=>by
 have hL4:∀ {H:Hp} {i:Nat},(doE H e.es nm bs i).length+L≤100:=ap_l hL
 have l0:e.es.length+1≤room:=hun (Nat.le_trans (Nat.le_add_right _ _) hL) 1
 have lA:∀ {s:X} {i:Nat} {b:V} {m:Nat},look (e.doo P s nm bs i b kt kb).fs (keyA m)=look e.fs (keyA m):=look_3.trans ((if_neg keyS_A).trans (if_neg keyS_A))
 have jj:∀ {M},M+2≤M+c:=Nat.add_le_add_left (Nat.le_trans (by decide) hc) _
 have l12:=iag.le.1
 have l23:=ia1.le.1
 have l34:=itl.le.1
 have l45:=ia2.le.1
 have r4:Rg e.fs w4.L w5.L:=fun m h=>hr m (Nat.lt_of_le_of_lt (Nat.le_trans l12 (Nat.le_trans l23 l34)) h)
 induction j with
 | zero=>
  intro i hi b s N vb am hp lc hN
  have hi:i=lim:=hi
  obtain ⟨am4,p4,lcn⟩:=do_in (i:=i) am g g2 hne nX bN vb
  refine turn_in (q:=q) (tl:=tl) (ag:=ag) g g2 hne nX bN hlim h2 h3 vb am (Nat.le_trans jj (Nat.le_trans (bg_le (i:=1) (by decide)) hN)) (hi▸hlim) ia2 r4 hp fun es en go=>?_
  subst es
  have pw:=ia2.le.2.trans (hp.trans p4.ns)
  refine told_sim S hL4 (am4.up (N':=bg N c 1) jj) (Nat.le_trans (Nat.le_of_eq bg_a) hN) htd htl (al_sw am4.j.wd am4.ch (ia1.wa (fun m h h2=>lA.trans (hr m (Nat.lt_of_le_of_lt l12 h) (Nat.le_trans h2 (Nat.le_trans l34 l45)))) (itl.le.2.trans pw)) (by decide)) itl (fun a i=>al_sw am4.j.wd am4.ch (i.wa (fun m h h2=>lA.trans (hr m (Nat.lt_of_le_of_lt (Nat.le_trans l12 l23) h) (Nat.le_trans h2 l45))) pw) (by decide)) fun {u s'} sq r vo j p=>?_
  exact .mk (.stop (Nat.le_of_eq hi.symm) (Nat.lt_of_le_of_lt (hi▸hlim) (by decide)) am.kd l0 sq) en (go (z:=false) (decide_eq_false (hi▸Nat.lt_irrefl _)) r) vo ((j.pop fun p hp => .tail _ hp).up (Nat.le_of_eq bg_a)) (p4.tr p (List.forall_mem_cons.mpr ⟨.inr ⟨Nat.le_trans (Nat.le_add_right _ 2) (Nat.le_of_eq doB_len.symm),Nat.le_add_right _ 2⟩,fun _ => .inl⟩))
 | succ j ih=>
  intro i hi b s N vb am hp lc hN
  have hil:i < lim:=hi▸Nat.lt_add_of_pos_right (Nat.succ_pos j)
  have hi4:i < 4:=Nat.lt_of_lt_of_le hil hlim
  have eb:bg (bg N c 2) c (2*j+3)=bg N c (2*(j+1)+3):=bg_a.trans (congrArg (bg N c) (Nat.add_comm 2 (2*j+3)))
  have f:∀ {i},i≤2→bg N c i≤room:=fun h=>Nat.le_trans (bg_le (Nat.le_trans h (Nat.le_add_left 2 _))) hN
  obtain ⟨am4,p4,lcn⟩:=do_in (i:=i) am g g2 hne nX bN vb
  refine turn_in (q:=q) (tl:=tl) (ag:=ag) g g2 hne nX bN hlim h2 h3 vb am (Nat.le_trans jj (f (i:=1) (by decide))) (Nat.le_of_lt hi4) ia2 r4 hp fun es en go=>?_
  subst es
  have vi:=vok_n (i:=i) (Nat.lt_trans hi4 (by decide))
  have j3:N+2+1≤bg N c 1:=Nat.add_le_add_left (Nat.le_trans (show 3≤32 by decide) hc) N
  have say:=gl1 (q:=q) (x:=sym kt nm) am4 h4 (by decide) (lcn.rn am4 .s) ((c_say vi am4.j.td (Nat.le_trans am4.j.tn (Nat.le_trans (Nat.le_of_succ_le j3) (f (i:=1) (by decide))))).up (j:=1))
  have am5:=(am4.nx .say (am4.j.say (z:=sayZ (.int i)))).up (N':=bg N c 1) j3
  have pw:=hp.trans p4.ns
  refine cmd_sim S hL4 am5 (f (i:=2) (by decide)) hcd hcl (rul (q:=q) (i:=9) (j:=25) say rfl) iag (fun a i=>al_sw am4.j.wd am4.ch (i.wa (fun m h h2=>lA.trans (hr m h (Nat.le_trans h2 (Nat.le_trans l23 (Nat.le_trans l34 l45))))) (ia1.le.2.trans (itl.le.2.trans (ia2.le.2.trans pw)))) (by decide)) fun {u s6} sq wr j6 p6=>?_
  have am6:=am5.nx p6 j6
  refine step_sim (q:=q) am6 hst (List.mem_append_right _ (.head _)) g2 fun {b2 s7} bs' r7 v7 j7 p7=>?_
  have ps:=Po.say (z:=sayZ (.int i)) |>.trans p6
  have tr:∀ {s2:X},Po P (e.doo P s nm bs i b kt kb).B (s.doo P e.es nm bs i b kt kb) s2→Po P e.B s s2:=fun p=>p4.tr p (List.forall_mem_cons.mpr ⟨.inr ⟨Nat.le_trans (Nat.le_add_right _ 2) (Nat.le_of_eq doB_len.symm),Nat.le_add_right _ 2⟩,fun _ => .inl⟩)
  have lct:=(lc.po (tr ps)).tl (lk':=look (e.doo P s nm bs i b kt kb).fs) lA
  have pt:=tr (ps.trans p7)
  have plus:=gl2 (q:=q) (x:=sym kt nm) am6 h1 (by decide) ((lcn.po ps).rn am6 .s) (rn_at rfl) (dn_up i hi4▸(c_plus vi (.int (i:=1) (by decide) (by decide))).up (j:=1))
  cases ih (i+1) ((Nat.add_right_comm i 1 j).trans hi) v7 (am.nx pt (j7.pop fun p hp => .tail _ hp)) (hp.trans pt.ns) (lc.po pt) (eb▸hN) with
  | mk dw en8 r8 vo8 j8 p8=>
   exact .mk (.go hil am.kd l0 am4.j.s8 (Nat.le_trans am4.j.tn (Nat.le_trans (Nat.le_of_succ_le j3) (f (i:=1) (by decide)))) (sayZ_n (Nat.lt_trans hi4 (by decide))▸sq) bs' dw) en (go (z:=true) (decide_eq_true hil) (wr (rn_c2 (k:=q+20) (lct.sw am6 .a) (ru (lct.rn am6 .a)) (rul (q:=q) (i:=9) (j:=25) plus rfl) (ru r7) en8 r8))) vo8 (j8.up (Nat.le_of_eq eb)) (pt.trans p8)
end
section
variable {P N q c L kt kb lim:Nat} {T:List String} {e:Ev} {s:X} {x a lp lp2 lp3 nt iy:V} {G:List String→V→V→Prop} {tds tdy cds cdy:List V} {nm bs:String} {st sty:Option V}
theorem at_sm {y:V} (am:Am P T e s N) (h:At2 T e.ns x y):Out P e x y s (q+5) N:=sm_at h am
theorem sm_do (S:Sm T G (q+5) c L) (hc:32≤c) (hL:e.es.length+(L+4)≤100) (g:T[kt]?=some nm) (g2:T[kb]?=some bs) (hne:nm≠bs) (nX:nm∈X0) (bN:bs∈NS0) (hlim:lim≤4) (h2:Sy T "less" lp2) (h3:Sy T "not" nt) (h1:Sy T "plus" lp) (h4:Sy T "say" lp3) (hst:St2 (At2 T ((e.ns.filter fun o => !(o == nm))++[bs])) st sty) (htd:L2 (G ((e.ns.filter fun o => !(o == nm))++[bs])) tds tdy) (htl:tds.length≤2) (hcd:L2 (G ((e.ns.filter fun o => !(o == nm))++[bs])) cds cdy) (hcl:cds.length≤1) (am:Am P T e s N) (hN:bg N c 100≤room) (hs:Sy T "do" a) (hi:At2 T e.ns x iy) :
  Out P e (doT nm bs lim x st tds cds) (mk (a::mk [mk [sym kt nm,.int 0,mk [lp,sym kt nm,.int 1] .empty] .empty,mk (bnd (sym kb bs) iy sty) .empty] .empty::mk (mk [nt,mk [lp2,sym kt nm,.int lim] .empty] .empty::tdy) .empty::mk [lp3,sym kt nm] .empty::cdy) .empty) s (q+25) (bg N c 14):=by
 have c3:∀ {M},M+3≤M+c:=Nat.add_le_add_left (Nat.le_trans (by decide) hc) _
 have c7:∀ {M},M+7≤M+c:=Nat.add_le_add_left (Nat.le_trans (by decide) hc) _
 have lt:tdy.length≤2:=htd.len▸htl
 have lc1:cdy.length≤1:=hcd.len▸hcl
 have lb:bg (bg N c 3) c (2*lim+3)≤bg N c 14:=Nat.le_trans (Nat.le_of_eq bg_a) (bg_le (Nat.add_le_add_left (Nat.add_le_add_right (Nat.mul_le_mul_left 2 hlim) 3) 3))
 refine .of fun {Z} kz=>?_
 refine do_eq (sc:=e.sc) (x:=a) (n1:=sym kt nm) (n2:=sym kb bs) (f1 := .int 0) (f2:=iy) (s1:=mk [lp,sym kt nm,.int 1] .empty) (s2:=sty) (t:=mk [nt,mk [lp2,sym kt nm,.int lim] .empty] .empty) (told:=tdy) (cmds:=mk [lp3,sym kt nm] .empty::cdy) am.j.wd (Nat.le_trans (Nat.add_le_add_right am.j.nn 7) (Nat.le_trans c7 (fit hN 1))) .s .s (Nat.le_trans lt (by decide)) (Nat.le_trans (Nat.succ_le_succ lc1) (by decide)) fun v w' H' ee D st1=>?_
 cases D with
 | @mk w1 w2 w3 w4 w5 w6 _ k ag a1 tl a2 l r i1 i2 i3 i4 i5 i6 i7=>
  cases i1 with
  | @mk mk' kv m1 m2 m3 m4=>
   have am1:=(am.st st1).up (N':=bg N c 1) c7
   have l15:=Nat.le_trans i2.le.1 (Nat.le_trans i3.le.1 (Nat.le_trans i4.le.1 i5.le.1))
   have l16:=Nat.le_trans l15 i6.le.1
   have m0:=Nat.lt_of_lt_of_le m1 m2
   refine rec_eq (sc:=e.sc) (x:=r) (tg:=als mk' (sym kv "turn")) (p:=mk [l,mk [sym kt nm,sym kb bs] .empty,dobd a2 nt lp2 (sym kt nm) lim tl ag] .empty) (b:=mk [als mk' (sym kv "turn"),.int 0,iy] .empty) am1.j.wd (Nat.le_trans (Nat.add_le_add_right am1.j.nn 3) (Nat.le_trans c3 (fit hN 2))) .a fun la dd lm wa wb w0 H0 ee2 st2 ila idd ilm=>?_
   have am2:=(am1.st st2).up (N':=bg N c 2) c3
   have mw:mk'≤w0.L:=Nat.le_trans m2 (Nat.le_trans l16 (Nat.le_trans i7.le.1 st2.L))
   have ad:∀ v,Am P T (e.df e.ns ((s.st w' H').st w0 H0) (keyA mk')) (((s.st w' H').st w0 H0).df P (keyA mk') v) (bg N c 2+1):=fun v=>am2.df (v:=v) (fun _ h=>h) (fun _ h => .inl h) (fun _ _ _ _=>keyS_A.symm) fun m h c=>Nat.not_le_of_lt h (Nat.le_trans (Nat.le_of_eq (keyA_inj c).symm) mw)
   have lk:∀ m,mk' < m→s.w.L < m→look (aput (keyA mk') (locN (w0.L+1)) []::[]::e.fs) (keyA m)=none:=fun m h h2=>look_2.trans ((if_neg fun c=>Nat.ne_of_lt h (keyA_inj c)).trans (am.fa m h2))
   have amD:=ad (.tup (.str "closure"::mk [sym kt nm,sym kb bs] .empty :: .lst [dobd a2 nt lp2 (sym kt nm) lim tl ag]::[((s.st w' H').st w0 H0).app.nsc e.sc H0.length]))
   have am3:=amD.ze
   have lc:=(df_lc (fs:=e.fs) (key:=keyA mk') (v := .tup (.str "closure"::mk [sym kt nm,sym kb bs] .empty :: .lst [dobd a2 nt lp2 (sym kt nm) lim tl ag]::[((s.st w' H').st w0 H0).app.nsc e.sc H0.length])) am2.j).po (.ze amD.j)
   have lc3:=lc.tl (lk':=look ((e.df e.ns ((s.st w' H').st w0 H0) (keyA mk')).ze (((s.st w' H').st w0 H0).df P (keyA mk') (.tup (.str "closure"::mk [sym kt nm,sym kb bs] .empty :: .lst [dobd a2 nt lp2 (sym kt nm) lim tl ag]::[((s.st w' H').st w0 H0).app.nsc e.sc H0.length])))).fs) look_e0
   have ld:=idd.low ila.le.1 ila.le.2
   have fw:∀ {t:String} {x:V} {wx wy:W},IsAl wx wy t x→(s.w.L≤wx.L)→wy.ns<+:w0.ns→Wa w0.ns e.fs t x:=fun i h p=>i.wa (fun m h2 _=>am.fa m (Nat.lt_of_le_of_lt h h2)) p
   have l7:s.w.L≤w'.L:=st1.L
   cases at_sm (q:=q) am3 hi with
   | @mk b s4 lv r4 vb j4 p4=>
    cases turn_sim (e:=e.df e.ns ((s.st w' H').st w0 H0) (keyA mk')) S hc hL g g2 hne nX bN hlim h2 h3 h1 h4 hst htd htl hcd hcl i2 i3 i4 i5 (fun m h _=>lk m (Nat.lt_of_le_of_lt m2 h) (Nat.lt_trans m0 h)) lim 0 (Nat.zero_add _) vb ((amD.nx ((Po.ze amD.j).trans p4) j4).up (N':=bg N c 3) (Nat.le_trans (Nat.add_le_add_left (by decide) _) c3)) (i6.le.2.trans (i7.le.2.trans (st2.ns.trans p4.ns))) (lc.po p4) (Nat.le_trans lb (fit hN 14)) with
    | mk dw en r5 vo j5 p5=>
     exact kz ((lv_do (Nat.lt_of_le_of_lt hlim (by decide)) lv dw).up (j:=10)) (rn_turn (k:=q+20) (by decide) (am_sw am hs (by decide) (am_ns am (by decide)) (by decide)) (hun (Nat.le_trans lc1 (by decide)) 4) ee (lkq (q:=q) (b:=25) rfl) (rn_turn (k:=q+20) (by decide) (al_sw am1.j.wd am1.ch (i7.wa (fun m h _=>am.fa m (Nat.lt_trans m0 (Nat.lt_of_le_of_lt l16 h))) (List.prefix_refl _)) (by decide)) (rm rfl) ee2 (lkq (q:=q) (b:=25) rfl) (def_run (id:=als mk' (sym kv "turn")) am2 .a (Nat.le_trans (Nat.le_trans (Nat.add_le_add_left (by decide) _) c3) (fit hN 3)) (al_sw am2.j.wd am2.ch (fw (ilm.low ld.le.1 ld.le.2) l7 (List.prefix_refl _)) (by decide)) (fw ld l7 ilm.le.2) (al_sw (ad _).j.wd (ad _).ch (i6.wa (fun m h _=>lk m (Nat.lt_of_le_of_lt m2 (Nat.lt_of_le_of_lt l15 h)) (Nat.lt_trans m0 (Nat.lt_of_le_of_lt l15 h))) (i7.le.2.trans st2.ns)) (by decide)) (al_sw (ad _).j.wd (ad _).ch (ila.wa (fun m h _=>lk m (Nat.lt_of_le_of_lt (Nat.le_trans m2 (Nat.le_trans l16 i7.le.1)) h) (Nat.lt_of_le_of_lt l7 h)) (idd.le.2.trans ilm.le.2)) (by decide)) (.pr (lc3.sw am3 .a) (by decide)) (rn_c2 (k:=q+20) (lc3.sw am3 .a) (ru (lc3.rn am3 .a)) (ru (rn_at rfl)) (ru r4) en r5)))) vo (j5.up lb) ((Po.st st1).trans ((Po.st st2).trans ((Po.df am2.j).trans ((Po.ze amD.j).trans (p4.trans p5)))))
end
inductive PT where
 | s (t:String) | v (y:V)
noncomputable def PT.val (p:PT):V:=p.rec (fun t => .str t) fun y=>y
noncomputable abbrev nS (y:V):Prop:=Ty.str.has y=some false
noncomputable def PT.ok (p:PT):Prop:=p.rec (fun _=>True) nS
noncomputable def PT.sy (T:List String) (p:PT) (y:V):Prop:=p.rec (fun t=>Sy T t y) fun x=>y=x
noncomputable def Lr (T:List String) (vs:List V) (ps:List PT):List V→Prop:=ps.rec (fun ys=>ys=vs) fun p _ ih ys=>∀ C:List V→Prop,(∀ {y:V} {ys:List V},p.sy T y→ih ys→C (y::ys))→C ys
noncomputable def Wf (n b:Nat) (F:List String→V→V→Prop) (x:V):Prop:=∀ {H:Hp} {w:W},Wd H w→w.ns.length+b≤room→∀ {Z:Prop},(∀ {y:V} {w':W} {H':Hp},R n .law_datum [.ref 6,x] H (y,H')→nS y→St1 b w H w' H'→(∀ {T:List String},w'.ns<+:T→T.Nodup→F T x y)→Z)→Z
section
variable {n b m:Nat} {C:Calls} {H H':Hp} {w w':W} {xs ys vs zs:List V} {ps:List PT} {p:PT} {F:List String→V→V→Prop} {T:List String} {ρ:List Sl} {Z:Prop} {x y:V} {t:String}
theorem nS_mk:nS (mk xs .empty):=by cases xs <;> rfl
theorem sy_of {k:Nat} (h:w.ns[k]?=some t) (p:w.ns<+:T):Sy T t (sym k t) := .mk (pre_at p h)
noncomputable abbrev lE:E := .ite (.isI false (.v 2) .str) (.mcall "symbol" (.attr (.v 0) "table") (es [.v 2])) (.v 2)
theorem el_v (hC:Has 4 C) (h:nS y):ev C [.v (.ref 6),.v (.lst zs),.v y] lE H=some (y,H):=by
 have e:ev C [.v (.ref 6),.v (.lst zs),.v y] (.isI false (.v 2) .str) H=some (.bool false,H):=(congrArg (Option.map fun b=>(V.bool b,H)) h:_)
 exact bi e rfl
theorem row_v (hC:Has 4 C):∀ {vs:List V},(∀ v∈vs,nS v)→evComp C [.v (.ref 6),.v (.lst zs),.undef] [2] lE (.k (.bool true)) vs H=some (vs,H)
 | [],_=>rfl
 | v::vs,h=>cp_c (ρ':=[.v (.ref 6),.v (.lst zs),.v v]) rfl (el_v hC (h v (.head _))) (row_v hC fun v hv=>h v (.tail _ hv)) rfl
theorem row_w (hv:∀ v∈vs,nS v):∀ {ps:List PT} {H:Hp} {w:W},(∀ p∈ps,p.ok)→Wd H w→w.ns.length+ps.length≤room→(∀ {ys:List V} {w':W} {H':Hp},(∀ {C:Calls},Has 4 C→evComp C [.v (.ref 6),.v (.lst zs),.undef] [2] lE (.k (.bool true)) (ps.map PT.val++vs) H=some (ys,H'))→St1 ps.length w H w' H'→(∀ {T:List String},w'.ns<+:T→T.Nodup→Lr T vs ps ys)→Z)→Z:=fun {ps}=>by
 induction ps with
 | nil=>exact fun _ W' _ k=>k (fun hC=>row_v hC hv) (St1.refl W') fun _ _=>rfl
 | cons p ps ih=>
  intro H w hp W' hb k
  have hp':=fun p h=>hp p (.tail _ h)
  cases p with
  | v y=>exact ih hp' W' (Nat.le_trans (Nat.add_le_add_left (Nat.le_succ _) _) hb) fun e s l=>k (fun hC=>cp_c (ρ':=[.v (.ref 6),.v (.lst zs),.v y]) rfl (el_v hC (hp _ (.head _))) (e hC) rfl) (s.up (Nat.le_succ _)) fun p q _ c=>c rfl (l p q)
  | s t=>
   have hb:w.ns.length+(1+ps.length)≤room:=Nat.add_comm 1 ps.length▸hb
   exact sym_eq (t:=t) W' (Nat.le_trans (Nat.add_le_add_left (Nat.le_add_right 1 _) _) hb) fun k' w1 H1 e1 s1 h1=>ih hp' s1.wd (s1.bd hb) fun e s l=>k (fun hC=>cp_c (ρ':=[.v (.ref 6),.v (.lst zs),.v (.str t)]) rfl (hC.e [.at (a_tab W'),hC.a e1] (by kernel_rfl)) (e hC) rfl) ((s1.trans s).up (Nat.le_of_eq (Nat.add_comm 1 ps.length))) fun p q _ c=>c (sy_of h1 (s.ns.trans p)) (l p q)
theorem Lr.len (ps:List PT):∀ {ys:List V},Lr T vs ps ys→ys.length=ps.length+vs.length:=by
 induction ps with
 | nil=>exact fun h=>(congrArg List.length h).trans (Nat.zero_add _).symm
 | cons p ps ih=>exact fun {ys} h=>h (fun ys=>ys.length=ps.length+1+vs.length) fun _ (h:Lr T vs ps _)=>(congrArg (·+1) (ih h)).trans (Nat.add_right_comm _ _ _)
theorem list_w (vs:List V) (ps:List PT) (hv:∀ v∈vs,nS v) (hp:∀ p∈ps,p.ok) (hl:ps.length+vs.length≤1000) (W':Wd H w) (hb:w.ns.length+ps.length≤room) (k:∀ {ys:List V} {w':W} {H':Hp},R 6 .law_list [.ref 6,.lst (ps.map PT.val++vs)] H (mk ys .empty,H')→St1 ps.length w H w' H'→(∀ {T:List String},w'.ns<+:T→T.Nodup→Lr T vs ps ys)→Z):Z:=
 row_w (zs:=ps.map PT.val++vs) hv hp W' hb fun {ys w' H'} e s l=>k (R.of (m:=4) (fun C hC=>[.ce (H:=H) (ρ:=[.v (.ref 6),.v (.lst (ps.map PT.val++vs)),.undef]) (e := .comp false [2] lE (.e (.v 1)) (.k (.bool true))) (cp_i (hC.i (r:=(ps.map PT.val++vs,H)) [] (by kernel_rfl)) (e ⟨fun r=>hC.r (r.le (Nat.le_succ 4)),hC.n⟩)),hC.a (list_eq (H:=H') (xs:=ys) (t := .empty) (Nat.le_trans (Nat.le_of_eq (Lr.len ps (l (List.prefix_refl _) s.wd.nd))) (Nat.le_trans hl (rm rfl))))]) fun _ _=>by kernel_rfl) s l
end
section
variable {n b m c L d q:Nat} {C:Calls} {H H':Hp} {w w':W} {xs ys vs zs:List V} {ps:List PT} {p:PT} {F:List String→V→V→Prop} {T:List String} {ρ:List Sl} {Z:Prop} {x y x2 x3 pv:V} {t:String} {ns:List String}
noncomputable abbrev dE:E := .call .law_datum (es [.v 0,.v 2]) []
theorem row_d:∀ {xs:List V},(∀ x∈xs,Wf n b F x)→∀ {H:Hp} {w:W},Wd H w→w.ns.length+xs.length*b≤room→(∀ {ys:List V} {w':W} {H':Hp},(∀ {C:Calls},Has n C→evComp C [.v (.ref 6),.v pv,.undef] [2] dE (.k (.bool true)) xs H=some (ys,H'))→(∀ y∈ys,nS y)→St1 (xs.length*b) w H w' H'→(∀ {T:List String},w'.ns<+:T→T.Nodup→L2 (F T) xs ys)→Z)→Z:=fun {xs}=>by
 induction xs with
 | nil=>exact fun _ _ _ W' _ k=>k (fun _=>rfl) (fun _ h=>nomatch h) ((St1.refl W').up (Nat.zero_le _)) fun _ _ => .nil
 | cons x xs ih=>
  intro hx H w W' hb k
  have e:(x::xs).length*b=b+xs.length*b:=(Nat.succ_mul _ _).trans (Nat.add_comm _ _)
  have hb:w.ns.length+(b+xs.length*b)≤room:=e▸hb
  exact hx x (.head _) W' (Nat.le_trans (Nat.add_le_add_left (Nat.le_add_right b _) _) hb) fun e1 n1 s1 f1=>ih (fun x h=>hx x (.tail _ h)) s1.wd (s1.bd hb) fun e2 n2 s2 f2=>k (fun hC=>cp_c (ρ':=[.v (.ref 6),.v pv,.v x]) rfl (hC.e [hC.a e1 (Nat.le_refl _)] (by kernel_rfl)) (e2 hC) rfl) (List.forall_mem_cons.mpr ⟨n1,n2⟩) ((s1.trans s2).up (Nat.le_of_eq e.symm)) fun p q => .cons (f1 (s2.ns.trans p) q) (f2 p q)
theorem data_w (hx:∀ x∈xs,Wf n b F x) (hp:itE pv=some xs) (W':Wd H w) (hb:w.ns.length+xs.length*b≤room) (k:∀ {ys:List V} {w':W} {H':Hp},R (n+2) .law_data [.ref 6,pv] H (.lst ys,H')→(∀ y∈ys,nS y)→St1 (xs.length*b) w H w' H'→(∀ {T:List String},w'.ns<+:T→T.Nodup→L2 (F T) xs ys)→Z):Z:=
 row_d (pv:=pv) hx W' hb fun {ys w' H'} e nn s f=>k (R.of (m:=n) (fun C hC=>[.ce (H:=H) (ρ:=[.v (.ref 6),.v pv,.undef]) (e := .comp false [2] dE (.e (.v 1)) (.k (.bool true))) (cp_i (show evI C [.v (.ref 6),.v pv,.undef] (.e (.v 1)) H=some (xs,H) from mi hp) (e ⟨fun r=>hC.r (r.le (Nat.le_succ n)),hC.n⟩))]) fun _ _=>by kernel_rfl) nn s f
noncomputable abbrev Ev.wn (e:Ev) (ns:List String):Ev:=⟨ns,e.k,e.es,e.sc,e.fs,e.B⟩
noncomputable def atm:V→Bool
 | .tup (.str w::_)=>w == "name"
 | .tup _=>false
 | _=>true
structure Gd (n c L:Nat) (T:List String) (ns:List String) (x y:V):Prop where
 hd:Hd T ns y
 sm:∀ {P:Nat} {e:Ev} {s:X} {N:Nat},Am P T (e.wn ns) s N→e.es.length+L≤100→N+c≤room→Out P (e.wn ns) x y s n (N+c)
 at2:atm x=true→At2 T ns x y
theorem Gd.S:Sm T (Gd n c L T) n c L:=fun {_ e _ _ _ _} am h hL hN=>h.sm (e:=e) am hL hN
theorem bg_100 {N:Nat}:∀ {i:Nat},bg N c i=N+i*c
 | 0=>(congrArg (N+·) (Nat.zero_mul c)).symm
 | i+1=>(congrArg (·+c) bg_100).trans ((Nat.add_assoc _ _ _).trans (congrArg (N+·) (Nat.succ_mul i c).symm))
theorem Gd.of {i n':Nat} (ha:atm x=false) (hd:Hd T ns y) (h:∀ {P:Nat} {e:Ev} {s:X} {N:Nat},Am P T (e.wn ns) s N→(e.wn ns).es.length+(L+4)≤100→bg N c 100≤room→Out P (e.wn ns) x y s n' (bg N c i)) (hi:i≤100) (hn:n'≤q+45):Gd (q+45) (100*c) (L+4) T ns x y:=
 ⟨hd,fun {P e s N} am hL hN=>((h am hL (Nat.le_trans (Nat.le_of_eq bg_100) hN)).up (Nat.le_trans (bg_le hi) (Nat.le_of_eq bg_100))).len hn,fun h=>nomatch h.symm.trans ha⟩
noncomputable abbrev Wn (q n b c L:Nat) (ns:List String) (x:V):Prop:=Wf n b (fun T=>Gd (q+5) c L T ns) x
theorem Wn.of {b' n':Nat} (h:∀ {H:Hp} {w:W},Wd H w→w.ns.length+b'≤room→∀ {Z:Prop},(∀ {zs:List V} {w':W} {H':Hp} {k:Nat},R k .law_datum [.ref 6,x] H (mk zs .empty,H')→k≤n'→St1 b' w H w' H'→(∀ {T:List String},w'.ns<+:T→T.Nodup→Gd (q+45) (100*c) (L+4) T ns x (mk zs .empty))→Z)→Z):Wn (q+40) n' b' (100*c) (L+4) ns x:=fun W' hb _ k=>h W' hb fun e l s f=>k (e.le l) nS_mk s f
theorem L2.inv1 {R:V→V→Prop} {D:List V→Prop} (h:L2 R [x] ys) (k:∀ {y},R x y→D [y]):D ys:=by
 cases h with
 | cons h t=>cases t; exact k h
theorem L2.invc {R:V→V→Prop} {D:List V→Prop} (h:L2 R (x::xs) ys) (k:∀ {y ys},R x y→L2 R xs ys→D (y::ys)):D ys:=by
 cases h with
 | cons h t=>exact k h t
theorem hd_of {a:V} {as:List V} (h:Sy T t a) (h1:t∉ns∨t∉NS0) (h2:t∉X0∧(t == "define")=false):Hd T ns (mk (a::as) .empty) := .pr h h1 h2.1 h2.2
end
section
variable {n b m c L q:Nat} {H H':Hp} {w w':W} {xs ys vs:List V} {T:List String} {Z:Prop} {x y x2 x3 pv:V} {t wd:String} {ns:List String} {F:List String→V→V→Prop}
theorem bud {a i:Nat} (h:a≤i*b) (hi:i≤100):a≤100*b:=Nat.le_trans h (Nat.mul_le_mul_right b hi)
theorem bud1 {i:Nat} (h:1≤b) (l:xs.length+1≤i):xs.length*b+1≤i*b:=Nat.le_trans (Nat.add_le_add_left h _) (Nat.le_trans (Nat.le_of_eq (Nat.succ_mul _ _).symm) (Nat.mul_le_mul_right b l))
theorem wn_room (h:w.ns.length+b≤room) {a:Nat} (l:a≤b):w.ns.length+a≤room:=Nat.le_trans (Nat.add_le_add_left l _) h
theorem wdata (wd:String) (hx:∀ x∈xs,Wf n b F x) (hp:itE pv=some xs) (hl:xs.length≤100) (W':Wd H w) (hb:w.ns.length+(xs.length*b+1)≤room) (k:∀ {ys zs:List V} {H1 H':Hp} {w':W},R (n+2) .law_data [.ref 6,pv] H (.lst ys,H1)→1+ys.length≤room→R 6 .law_list [.ref 6,.lst (.str wd::ys)] H1 (mk zs .empty,H')→St1 (xs.length*b+1) w H w' H'→(∀ {T:List String},w'.ns<+:T→T.Nodup→∀ {D:V→Prop},(∀ {sy:V},Sy T wd sy→L2 (F T) xs ys→D (mk (sy::ys) .empty))→D (mk zs .empty))→Z):Z:=
 data_w hx hp W' (wn_room hb (Nat.le_add_right _ 1)) fun {ys w1 H1} e nn s f=>
  have l:ys.length≤100:=(f (List.prefix_refl _) s.wd.nd).len▸hl
  list_w ys [.s wd] nn (List.forall_mem_singleton.mpr trivial) (Nat.le_trans (Nat.add_le_add_left l 1) (by decide)) s.wd (s.bd hb) fun e2 s2 r=>k e (Nat.le_trans (Nat.add_le_add_left l 1) (rm rfl)) e2 (s.trans s2) fun {_} p q {D} d=>r p q (fun zs=>D (mk zs .empty)) fun {sy zs} hs h=>h▸d hs (f (s2.ns.trans p) q)
noncomputable def wfx {H1:Hp} {zs:List V} (e:R (n+2) .law_data [.ref 6,pv] H (.lst ys,H1)) (l:1+ys.length≤room) (e2:R 6 .law_list [.ref 6,.lst (.str wd::ys)] H1 (mk zs .empty,H')) (C:Calls) (hC:Has (n+6) C):List (Ans C):=[.cc (hC.r (e.up (j:=4))),.bi (H:=H1) (addl (ps:=[.str wd]) l),hC.a e2 (lkq (q:=n) (b:=6) rfl)]
theorem hL4 {a:Nat} (h:a+(L+4)≤100):a+L≤100:=Nat.le_trans (Nat.add_le_add_left (Nat.le_add_right L 4) _) h
theorem gd_at (h:At2 T ns x y) (hd:Hd T ns y):Gd (q+5) c L T ns x y:=⟨hd,fun am _ _=>(at_sm am h).up (Nat.le_add_right _ _),fun _=>h⟩
theorem wf_int {i:Int} (h:0≤i) (h2:i < 7):Wn q (n+4) b c L ns (.int i):=fun W' _ _ k=>k ((R.n fun _=>by kernel_rfl:R 2 _ _ _ _).le (lkq (q:=n) (b:=4) rfl)) rfl ((St1.refl W').up (Nat.zero_le _)) fun _ _=>gd_at (.int h h2) (.at rfl)
theorem wf_bool {z:Bool}:Wn q (n+4) b c L ns (.bool z):=fun W' _ _ k=>k ((R.n fun _=>by kernel_rfl:R 2 _ _ _ _).le (lkq (q:=n) (b:=4) rfl)) rfl ((St1.refl W').up (Nat.zero_le _)) fun _ _=>gd_at .bool (.at rfl)
theorem wf_name (hb1:1≤b) (h:t∈ns) (h2:∀ t∈ns,t∈NS0):Wn q (n+4) b c L ns (.tup [.str "name",.str t]):=fun W' hb _ k=>sym_eq (t:=t) W' (wn_room hb hb1) fun j w1 H1 e s g=>k (R.of (m:=n+2) (fun _ h=>[.at (a_tab W'),h.a e (lkq (q:=n) (b:=3) rfl)]) fun _ _=>by kernel_rfl) rfl (s.up hb1) fun p _=>gd_at (.name h (sy_of g p)) (.nm (pre_at p g) (h2 t h))
variable (hb1:1≤b) (hc:32≤c)
include hb1 hc
theorem wf_say (h:Wn q n b c L ns x):Wn (q+40) (n+10) (100*b) (100*c) (L+4) ns (.tup [.str "say",x]):=Wn.of fun {H w} W' hb {Z} k=>
 have l:=bud (bud1 (xs:=[x]) (i:=2) hb1 (Nat.le_refl _)) (by decide)
 wdata "say" (xs:=[x]) (pv := .tup [x]) (List.forall_mem_singleton.mpr h) rfl (Nat.le_of_ble_eq_true rfl) W' (wn_room hb l) fun e l1 e2 s f=>k (R.of (m:=n+5) (wfx e l1 e2) fun _ _=>by kernel_rfl) (upq (q:=n) (a:=7) (b:=10) rfl) (s.up l) fun p q=>f p q (D:=Gd _ _ _ _ ns (.tup [.str "say",x])) fun hs g=>g.inv1 (D:=fun ys=>Gd _ _ _ _ ns _ (mk (_::ys) .empty)) fun g=>Gd.of rfl (hd_of (t := "say") hs (.inr (by decide)) (by decide)) (fun am hL hN=>sm_say Gd.S hc am (hL4 hL) hN hs g) (by decide) (upq rfl)
theorem wf_plus (h:Wn q n b c L ns x) (h2:Wn q n b c L ns x2) (ha:atm x2=true):Wn (q+40) (n+10) (100*b) (100*c) (L+4) ns (.tup [.str "plus",x,x2]):=Wn.of fun {H w} W' hb {Z} k=>
 have l:=bud (bud1 (xs:=[x,x2]) (i:=3) hb1 (Nat.le_refl _)) (by decide)
 wdata "plus" (xs:=[x,x2]) (pv := .tup [x,x2]) (List.forall_mem_cons.mpr ⟨h,List.forall_mem_singleton.mpr h2⟩) rfl (Nat.le_of_ble_eq_true rfl) W' (wn_room hb l) fun e l1 e2 s f=>k (R.of (m:=n+5) (wfx e l1 e2) fun _ _=>by kernel_rfl) (upq (q:=n) (a:=7) (b:=10) rfl) (s.up l) fun p q=>f p q (D:=Gd _ _ _ _ ns (.tup [.str "plus",x,x2])) fun hs g=>g.invc (D:=fun ys=>Gd _ _ _ _ ns _ (mk (_::ys) .empty)) fun g g2=>g2.inv1 (D:=fun ys=>Gd _ _ _ _ ns _ (mk (_::_::ys) .empty)) fun g2=>Gd.of rfl (hd_of (t := "plus") hs (.inr (by decide)) (by decide)) (fun am hL hN=>sm_plus Gd.S am (hL4 hL) hN hs g (g2.at2 ha)) (by decide) (upq rfl)
theorem wf_less (h:Wn q n b c L ns x) (h2:Wn q n b c L ns x2) (ha:atm x2=true):Wn (q+40) (n+10) (100*b) (100*c) (L+4) ns (.tup [.str "less",x,x2]):=Wn.of fun {H w} W' hb {Z} k=>
 have l:=bud (bud1 (xs:=[x,x2]) (i:=3) hb1 (Nat.le_refl _)) (by decide)
 wdata "less" (xs:=[x,x2]) (pv := .tup [x,x2]) (List.forall_mem_cons.mpr ⟨h,List.forall_mem_singleton.mpr h2⟩) rfl (Nat.le_of_ble_eq_true rfl) W' (wn_room hb l) fun e l1 e2 s f=>k (R.of (m:=n+5) (wfx e l1 e2) fun _ _=>by kernel_rfl) (upq (q:=n) (a:=7) (b:=10) rfl) (s.up l) fun p q=>f p q (D:=Gd _ _ _ _ ns (.tup [.str "less",x,x2])) fun hs g=>g.invc (D:=fun ys=>Gd _ _ _ _ ns _ (mk (_::ys) .empty)) fun g g2=>g2.inv1 (D:=fun ys=>Gd _ _ _ _ ns _ (mk (_::_::ys) .empty)) fun g2=>Gd.of rfl (hd_of (t := "less") hs (.inr (by decide)) (by decide)) (fun am hL hN=>sm_less Gd.S am (hL4 hL) hN hs g (g2.at2 ha)) (by decide) (upq rfl)
theorem wf_if (hi : "if"∉ns) (h:Wn q n b c L ns x) (h2:Wn q n b c L ns x2) (h3:Wn q n b c L ns x3) (ha:atm x3=true):Wn (q+40) (n+10) (100*b) (100*c) (L+4) ns (.tup [.str "if",x,x2,x3]):=Wn.of fun {H w} W' hb {Z} k=>
 have l:=bud (bud1 (xs:=[x,x2,x3]) (i:=4) hb1 (Nat.le_refl _)) (by decide)
 wdata "if" (xs:=[x,x2,x3]) (pv := .tup [x,x2,x3]) (List.forall_mem_cons.mpr ⟨h,List.forall_mem_cons.mpr ⟨h2,List.forall_mem_singleton.mpr h3⟩⟩) rfl (Nat.le_of_ble_eq_true rfl) W' (wn_room hb l) fun e l1 e2 s f=>k (R.of (m:=n+5) (wfx e l1 e2) fun _ _=>by kernel_rfl) (upq (q:=n) (a:=7) (b:=10) rfl) (s.up l) fun p q=>f p q (D:=Gd _ _ _ _ ns (.tup [.str "if",x,x2,x3])) fun hs g=>g.invc (D:=fun ys=>Gd _ _ _ _ ns _ (mk (_::ys) .empty)) fun g g2=>g2.invc (D:=fun ys=>Gd _ _ _ _ ns _ (mk (_::_::ys) .empty)) fun g2 g3=>g3.inv1 (D:=fun ys=>Gd _ _ _ _ ns _ (mk (_::_::_::ys) .empty)) fun g3=>Gd.of rfl (hd_of (t := "if") hs (.inl hi) (by decide)) (fun am hL hN=>sm_if Gd.S am (hL4 hL) hN hs hi g g2 (g3.at2 ha)) (by decide) (upq rfl)
theorem wf_ao (hw:wd = "and"∨wd = "or") (h:∀ x∈xs,Wn q n b c L ns x) (hl:xs.length≤3):Wn (q+40) (n+10) (100*b) (100*c) (L+4) ns (.tup [.str wd,.lst xs]):=Wn.of fun {H w} W' hb {Z} k=>
 have l:=bud (bud1 (xs:=xs) (i:=4) hb1 (Nat.succ_le_succ hl)) (by decide)
 wdata wd (xs:=xs) (pv := .lst xs) h rfl (Nat.le_trans hl (by decide)) W' (wn_room hb l) fun e l1 e2 s f=>k (by rcases hw with rfl | rfl <;> exact R.of (m:=n+5) (wfx e l1 e2) fun _ _=>by kernel_rfl) (upq (q:=n) (a:=7) (b:=10) rfl) (s.up l) fun p q=>f p q (D:=Gd _ _ _ _ ns (.tup [.str wd,.lst xs])) fun hs g=>Gd.of (by rcases hw with rfl | rfl <;> rfl) (hd_of hs (.inr (by rcases hw with rfl | rfl <;> decide)) (by rcases hw with rfl | rfl <;> decide)) (fun am hL hN=>sm_ao Gd.S hc am (hL4 hL) hN hw hs g hl) (by decide) (upq rfl)
theorem wf_set (ht:t∈ns) (h:Wn q n b c L ns x):Wn (q+40) (n+10) (100*b) (100*c) (L+4) ns (.tup [.str "set!",.str t,x]):=Wn.of fun {H w} W' hb {Z} k=>
 have l:b+2≤100*b:=bud (i:=3) (Nat.le_trans (Nat.add_le_add_left (Nat.mul_le_mul_left 2 hb1) b) (Nat.le_of_eq ((Nat.add_comm b (2*b)).trans (Nat.succ_mul 2 b).symm))) (by decide)
 h W' (wn_room hb (Nat.le_trans (Nat.le_add_right b 2) l)) fun e nn s f=>list_w [_] [.s "set!",.s t] (List.forall_mem_singleton.mpr nn) (List.forall_mem_cons.mpr ⟨trivial,List.forall_mem_singleton.mpr trivial⟩) (Nat.le_of_ble_eq_true rfl) s.wd (s.bd (wn_room hb l)) fun e2 s2 r=>k (R.of (m:=n+5) (fun C hC=>[.cc (hC.r (e.up (j:=6))),hC.a e2 (lkq (q:=n) (b:=6) rfl)]) fun _ _=>by kernel_rfl) (upq (q:=n) (a:=7) (b:=10) rfl) ((s.trans s2).up l) fun p q'=>r p q' (fun zs=>Gd _ _ _ _ ns _ (mk zs .empty)) fun hs r=>r (fun zs=>Gd _ _ _ _ ns _ (mk (_::zs) .empty)) fun hz e=>e▸Gd.of rfl (hd_of (t := "set!") hs (.inr (by decide)) (by decide)) (fun am hL hN=>sm_set Gd.S am (hL4 hL) hN hs ht hz (f (s2.ns.trans p) q')) (i:=1) (by decide) (upq rfl)
end
section
variable {n b m c L q:Nat} {H H':Hp} {w w':W} {xs ys vs:List V} {T:List String} {Z:Prop} {x y x2 x3 pv B:V} {t t2 wd:String} {ns:List String} {F F2:List String→V→V→Prop}
theorem L2.r12 {R:V→V→Prop} (h:L2 R xs ys) (h1:1≤xs.length) (h2:xs.length≤2):R12 R xs ys:=h.le2 (C:=fun xs ys=>1≤xs.length→R12 R xs ys) h2 (fun h=>absurd h (by decide)) (fun h _ => .one h) (fun h h2 _ => .two h h2) h1
theorem wdata2 (wd:String) (hB:nS B) (hx:∀ x∈xs,Wf n b F x) (hl:xs.length≤100) (W':Wd H w) (hb:w.ns.length+(xs.length*b+2)≤room) (k:∀ {ys zs:List V} {H1 H':Hp} {w':W},R (n+2) .law_data [.ref 6,.lst xs] H (.lst ys,H1)→2+ys.length≤room→R 6 .law_list [.ref 6,.lst (.str wd::B::ys)] H1 (mk zs .empty,H')→St1 (xs.length*b+2) w H w' H'→(∀ {T:List String},w'.ns<+:T→T.Nodup→∀ {D:V→Prop},(∀ {sy:V},Sy T wd sy→L2 (F T) xs ys→D (mk (sy::B::ys) .empty))→D (mk zs .empty))→Z):Z:=
 data_w hx rfl W' (wn_room hb (Nat.le_add_right _ 2)) fun {ys w1 H1} e nn s f=>
  have l:ys.length≤100:=(f (List.prefix_refl _) s.wd.nd).len▸hl
  list_w ys [.s wd,.v B] nn (List.forall_mem_cons.mpr ⟨trivial,List.forall_mem_singleton.mpr hB⟩) (Nat.le_trans (Nat.add_le_add_left l 2) (by decide)) s.wd (s.bd hb) fun e2 s2 r=>k e (Nat.le_trans (Nat.add_le_add_left l 2) (rm rfl)) e2 (s.trans s2) fun {_} p q {D} d=>r p q (fun zs=>D (mk zs .empty)) fun {sy _} hs r=>r (fun zs=>D (mk (sy::zs) .empty)) fun {_ _} e h=>e▸h▸d hs (f (s2.ns.trans p) q)
theorem wbind (t:String) (h:Wf n b F x) (W':Wd H w) (hb:w.ns.length+(b+1)≤room) (k:∀ {y:V} {zs:List V} {H1 H':Hp} {w':W},R n .law_datum [.ref 6,x] H (y,H1)→R 6 .law_list [.ref 6,.lst [.str t,y]] H1 (mk zs .empty,H')→St1 (b+1) w H w' H'→(∀ {T:List String},w'.ns<+:T→T.Nodup→∀ {D:V→Prop},(∀ {z:V},Sy T t z→F T x y→D (mk [z,y] .empty))→D (mk zs .empty))→Z):Z:=
 h W' (wn_room hb (Nat.le_add_right b 1)) fun e nn s f=>list_w [_] [.s t] (List.forall_mem_singleton.mpr nn) (List.forall_mem_singleton.mpr trivial) (Nat.le_of_ble_eq_true rfl) s.wd (s.bd hb) fun e2 s2 r=>k e e2 (s.trans s2) fun {_} p q {D} d=>r p q (fun zs=>D (mk zs .empty)) fun hz h=>h▸d hz (f (s2.ns.trans p) q)
noncomputable def wfx2 {H1:Hp} {zs bs:List V} (hl:bs.length≤room) (e:R (n+2) .law_data [.ref 6,.lst xs] H (.lst ys,H1)) (l:2+ys.length≤room) (e2:R 6 .law_list [.ref 6,.lst (.str wd::mk bs .empty::ys)] H1 (mk zs .empty,H')) (C:Calls) (hC:Has (n+6) C):List (Ans C):=[hC.a (list_eq (H:=H) (xs:=bs) (t := .empty) hl) (lkq (q:=n) (b:=6) rfl),.cc (hC.r (e.up (j:=4))),.bi (H:=H1) (addl (ps:=[.str wd,mk bs .empty]) l),hC.a e2 (lkq (q:=n) (b:=6) rfl)]
noncomputable def wfb {H1:Hp} {zs:List V} (e:R n .law_datum [.ref 6,x] H (y,H1)) (e2:R 6 .law_list [.ref 6,.lst [.str t,y]] H1 (mk zs .empty,H')) (C:Calls) (hC:Has (n+6) C):List (Ans C):=[.cc (hC.r (e.up (j:=6))),hC.a e2 (lkq (q:=n) (b:=6) rfl)]
theorem bsum {a b c i j:Nat} (h:a≤i*c) (h2:b≤j*c):a+b≤(i+j)*c:=Nat.le_trans (Nat.add_le_add h h2) (Nat.le_of_eq (Nat.add_mul i j c).symm)
theorem b1 {k:Nat} (h:1≤b):k≤k*b:=Nat.le_mul_of_pos_right k h
theorem bx (hl:xs.length≤2):xs.length*b≤2*b:=Nat.mul_le_mul_right b hl
theorem b0:b≤1*b:=Nat.le_of_eq (Nat.one_mul b).symm
variable (hb1:1≤b) (hc:32≤c) (h1:1≤xs.length) (hl:xs.length≤2)
include hb1 hc h1 hl
omit h1 hl hb1 hc
theorem let_na (hw:wd = "let"∨wd = "let*"):(wd == "name")=false:=by rcases hw with rfl | rfl <;> rfl
theorem let_hd {a:V} {as:List V} (hw:wd = "let"∨wd = "let*") (h:Sy T wd a):Hd T ns (mk (a::as) .empty):=by rcases hw with rfl | rfl <;> exact hd_of h (.inr (by decide)) (by decide)
include hb1 hc h1 hl
theorem wf_let0 (hw:wd = "let"∨wd = "let*") (h:∀ x∈xs,Wn q n b c L ns x):Wn (q+40) (n+10) (100*b) (100*c) (L+4) ns (.tup [.str wd,.lst [],.lst xs]):=Wn.of fun {H w} W' hb {Z} k=>
 have l:=bud (bsum (bx hl) (b1 (k:=2) hb1)) (by decide)
 wdata2 (B := .empty) wd rfl h (Nat.le_trans hl (by decide)) W' (wn_room hb l) fun e l1 e2 s f=>k (by rcases hw with rfl | rfl <;> exact R.of (m:=n+5) (wfx2 (bs:=[]) (rm rfl) e l1 e2) fun _ _=>by kernel_rfl) (upq (q:=n) (a:=7) (b:=10) rfl) (s.up l) fun p q=>f p q (D:=Gd _ _ _ _ ns (.tup [.str wd,.lst [],.lst xs])) fun hs g=>Gd.of (let_na hw) (let_hd hw hs) (fun am hL hN=>sm_let0 Gd.S Gd.hd hc am hL hN hw hs (g.r12 h1 hl)) (by decide) (upq rfl)
theorem wf_let1 (hw:wd = "let"∨wd = "let*") (ht:t∈binds) (hx:Wn q n b c L ns x) (h:∀ x∈xs,Wn q n b c L (ns++[t]) x):Wn (q+40) (n+10) (100*b) (100*c) (L+4) ns (.tup [.str wd,.lst [.tup [.str t,x]],.lst xs]):=Wn.of fun {H w} W' hb {Z} k=>
 have l:=bud (bsum (bsum b0 (b1 (k:=1) hb1)) (bsum (bx hl) (b1 (k:=2) hb1))) (by decide)
 wbind t hx W' (wn_room hb (Nat.le_trans (Nat.le_add_right _ _) l)) fun e0 e1 s1 f1=>wdata2 (B:=mk [_] .empty) wd rfl h (Nat.le_trans hl (by decide)) s1.wd (s1.bd (wn_room hb l)) fun e l1 e2 s f=>k (by rcases hw with rfl | rfl <;> exact R.of (m:=n+5) (fun C hC=>wfb e0 e1 C hC++wfx2 (bs:=[_]) (rm rfl) e l1 e2 C hC) fun _ _=>by kernel_rfl) (upq (q:=n) (a:=7) (b:=10) rfl) ((s1.trans s).up l) fun p q=>f p q (D:=Gd _ _ _ _ ns (.tup [.str wd,.lst [.tup [.str t,x]],.lst xs])) fun hs g=>f1 (s.ns.trans p) q (D:=fun z=>Gd _ _ _ _ ns _ (mk (_::mk [z] .empty::_) .empty)) fun hz hy=>Gd.of (let_na hw) (let_hd hw hs) (fun am hL hN=>sm_let1 Gd.S Gd.hd hc am hL hN hw hs ht hz hy (g.r12 h1 hl)) (by decide) (upq rfl)
theorem wf_star2 (ht:t∈binds) (ht2:t2∈binds) (hx:Wn q n b c L ns x) (hx2:Wn q n b c L (ns++[t]) x2) (h:∀ x∈xs,Wn q n b c L (ns++[t]++[t2]) x):Wn (q+40) (n+10) (100*b) (100*c) (L+4) ns (.tup [.str "let*",.lst [.tup [.str t,x],.tup [.str t2,x2]],.lst xs]):=Wn.of fun {H w} W' hb {Z} k=>
 have l:=bud (bsum (bsum b0 (b1 (k:=1) hb1)) (bsum (bsum b0 (b1 (k:=1) hb1)) (bsum (bx hl) (b1 (k:=2) hb1)))) (by decide)
 wbind t hx W' (wn_room hb (Nat.le_trans (Nat.le_add_right _ _) l)) fun e0 e1 s1 f1=>wbind t2 hx2 s1.wd (Nat.le_trans (Nat.add_le_add_left (Nat.le_add_right _ _) _) (s1.bd (wn_room hb l))) fun e3 e4 s2 f2=>wdata2 (B:=mk [_,_] .empty) "let*" rfl h (Nat.le_trans hl (by decide)) s2.wd (s2.bd (s1.bd (wn_room hb l))) fun e l1 e2 s f=>k (R.of (m:=n+5) (fun C hC=>wfb e0 e1 C hC++wfb e3 e4 C hC++wfx2 (bs:=[_,_]) (rm rfl) e l1 e2 C hC) fun _ _=>by kernel_rfl) (upq (q:=n) (a:=7) (b:=10) rfl) ((s1.trans (s2.trans s)).up l) fun p q=>f p q (D:=Gd _ _ _ _ ns (.tup [.str "let*",.lst [.tup [.str t,x],.tup [.str t2,x2]],.lst xs])) fun hs g=>f1 (s2.ns.trans (s.ns.trans p)) q (D:=fun z=>Gd _ _ _ _ ns _ (mk (_::mk [z,_] .empty::_) .empty)) fun hz hy=>f2 (s.ns.trans p) q (D:=fun z=>Gd _ _ _ _ ns _ (mk (_::mk [_,z] .empty::_) .empty)) fun hz2 hy2=>Gd.of rfl (let_hd (.inr rfl) hs) (fun am hL hN=>sm_star2 Gd.S Gd.hd hc am hL hN hs ht ht2 hz hz2 hy hy2 (g.r12 h1 hl)) (by decide) (upq rfl)
theorem wf_let2 (ht:t∈binds) (ht2:t2∈binds) (hne:t≠t2) (hx:Wn q n b c L ns x) (hx2:Wn q n b c L ns x2) (h:∀ x∈xs,Wn q n b c L (ns++[t]++[t2]) x):Wn (q+40) (n+10) (100*b) (100*c) (L+4) ns (.tup [.str "let",.lst [.tup [.str t,x],.tup [.str t2,x2]],.lst xs]):=Wn.of fun {H w} W' hb {Z} k=>
 have l:=bud (bsum (bsum b0 (b1 (k:=1) hb1)) (bsum (bsum b0 (b1 (k:=1) hb1)) (bsum (bx hl) (b1 (k:=2) hb1)))) (by decide)
 wbind t hx W' (wn_room hb (Nat.le_trans (Nat.le_add_right _ _) l)) fun e0 e1 s1 f1=>wbind t2 hx2 s1.wd (Nat.le_trans (Nat.add_le_add_left (Nat.le_add_right _ _) _) (s1.bd (wn_room hb l))) fun e3 e4 s2 f2=>wdata2 (B:=mk [_,_] .empty) "let" rfl h (Nat.le_trans hl (by decide)) s2.wd (s2.bd (s1.bd (wn_room hb l))) fun e l1 e2 s f=>k (R.of (m:=n+5) (fun C hC=>wfb e0 e1 C hC++wfb e3 e4 C hC++wfx2 (bs:=[_,_]) (rm rfl) e l1 e2 C hC) fun _ _=>by kernel_rfl) (upq (q:=n) (a:=7) (b:=10) rfl) ((s1.trans (s2.trans s)).up l) fun p q=>f p q (D:=Gd _ _ _ _ ns (.tup [.str "let",.lst [.tup [.str t,x],.tup [.str t2,x2]],.lst xs])) fun hs g=>f1 (s2.ns.trans (s.ns.trans p)) q (D:=fun z=>Gd _ _ _ _ ns _ (mk (_::mk [z,_] .empty::_) .empty)) fun hz hy=>f2 (s.ns.trans p) q (D:=fun z=>Gd _ _ _ _ ns _ (mk (_::mk [_,z] .empty::_) .empty)) fun hz2 hy2=>Gd.of rfl (let_hd (.inl rfl) hs) (fun am hL hN=>hz.rec (motive:=fun z _=>Out _ _ _ (mk (_::mk [mk [z,_] .empty,_] .empty::_) .empty) _ _ _) fun g1=>hz2.rec (motive:=fun z _=>Out _ _ _ (mk (_::mk [_,mk [z,_] .empty] .empty::_) .empty) _ _ _) fun g2=>sm_let2 Gd.S Gd.hd hc am hL hN hs ht ht2 hne g1 g2 hy hy2 (g.r12 h1 hl)) (by decide) (upq rfl)
end
noncomputable def Lq (T:List String) (vs:List V) (ps:List PT):(List V→Prop)→Prop:=ps.rec (fun D=>D vs) fun p _ ih D=>p.rec (fun t=>∀ {y:V},Sy T t y→ih fun ys=>D (y::ys)) fun x=>ih fun ys=>D (x::ys)
section
variable {n b m c L q j:Nat} {H H':Hp} {w w':W} {xs ys vs zs:List V} {T:List String} {Z:Prop} {x y B:V} {tag name t:String} {ns:List String} {F:List String→V→V→Prop} {ps:List PT}
theorem lrq (ps:List PT):∀ {zs:List V} {D:List V→Prop},Lr T vs ps zs→Lq T vs ps D→D zs:=by
 induction ps with
 | nil=>exact fun h d=>h▸d
 | cons p ps ih=>
  intro zs D h d
  cases p with
  | s t=>exact h D fun hy (h:Lr T vs ps _)=>ih (D:=fun ys=>D (_::ys)) h (d hy)
  | v x=>exact h D fun e (h:Lr T vs ps _)=>e▸ih (D:=fun ys=>D (x::ys)) h d
theorem list_r (vs:List V) (ps:List PT) {r:Nat} (hv:∀ v∈vs,nS v) (hp:∀ p∈ps,p.ok) (hl:ps.length+vs.length≤1000) (W':Wd H w) (hb:w.ns.length+(ps.length+r)≤room) (k:∀ {ys:List V} {w':W} {H':Hp},R 6 .law_list [.ref 6,.lst (ps.map PT.val++vs)] H (mk ys .empty,H')→Wd H' w'→w'.ns.length+r≤room→St1 ps.length w H w' H'→(∀ {T:List String},w'.ns<+:T→T.Nodup→∀ {D:List V→Prop},Lq T vs ps D→D ys)→Z):Z:=
 list_w vs ps hv hp hl W' (wn_room hb (Nat.le_add_right _ r)) fun e s l=>k e s.wd (s.bd hb) s fun p q=>lrq ps (l p q)
theorem pok0:∀ p∈([]:List PT),p.ok:=fun _ h=>nomatch h
theorem poks (h:∀ p∈ps,p.ok):∀ p∈PT.s t::ps,p.ok:=List.forall_mem_cons.mpr ⟨trivial,h⟩
theorem pokv (hx:nS x) (h:∀ p∈ps,p.ok):∀ p∈PT.v x::ps,p.ok:=List.forall_mem_cons.mpr ⟨hx,h⟩
theorem nv0:∀ v∈([]:List V),nS v:=fun _ h=>nomatch h
theorem Sy.u2 (nd:T.Nodup) {a b:V} (h:Sy T t a) (h':Sy T t b):a=b:=h.rec (motive:=fun a _=>a=b) fun g=>h'.rec (motive:=fun b _=>sym _ t=b) fun g'=>congrArg (fun k=>sym k t) (nd_eq nd g g')
theorem lbody (h:Wf n b F x) {r:Nat} (W':Wd H w) (hb:w.ns.length+(3+(2+(b+(2+(4+(3+(4+r)))))))≤room) (k:∀ {z1 z2 z3 z4 z5 z6:List V} {y:V} {H1 H2 H3 H4 H5 H6 H7:Hp} {w7:W},R 6 .law_list [.ref 6,.lst [.str "plus",.str name,.int 6]] H (mk z1 .empty,H1)→R 6 .law_list [.ref 6,.lst [.str "say",.str name]] H1 (mk z2 .empty,H2)→R n .law_datum [.ref 6,x] H2 (y,H3)→R 6 .law_list [.ref 6,.lst [.str tag,mk z1 .empty]] H3 (mk z3 .empty,H4)→R 6 .law_list [.ref 6,.lst [.str "begin",mk z2 .empty,y,mk z3 .empty]] H4 (mk z4 .empty,H5)→R 6 .law_list [.ref 6,.lst [.str "less",.int 0,.str name]] H5 (mk z5 .empty,H6)→R 6 .law_list [.ref 6,.lst [.str "if",mk z5 .empty,mk z4 .empty,.int 5]] H6 (mk z6 .empty,H7)→Wd H7 w7→w7.ns.length+r≤room→St1 (3+(2+(b+(2+(4+(3+4)))))) w H w7 H7→(∀ {T:List String},w7.ns<+:T→T.Nodup→F T x y∧LoopB T tag name y (mk z6 .empty))→Z):Z:=
 list_r [] [.s "plus",.s name,.v (.int 6)] nv0 (poks (poks (pokv rfl pok0))) (Nat.le_of_ble_eq_true rfl) W' hb fun {z1 _ _} e1 W1 h1 s1 r1=>list_r [] [.s "say",.s name] nv0 (poks (poks pok0)) (Nat.le_of_ble_eq_true rfl) W1 h1 fun {z2 _ _} e2 W2 h2 s2 r2=>h W2 (wn_room h2 (Nat.le_add_right _ _)) fun {y _ _} e3 ny s3 f=>list_r [] [.s tag,.v (mk z1 .empty)] nv0 (poks (pokv nS_mk pok0)) (Nat.le_of_ble_eq_true rfl) s3.wd (s3.bd h2) fun {z3 _ _} e4 W4 h4 s4 r4=>list_r [] [.s "begin",.v (mk z2 .empty),.v y,.v (mk z3 .empty)] nv0 (poks (pokv nS_mk (pokv ny (pokv nS_mk pok0)))) (Nat.le_of_ble_eq_true rfl) W4 h4 fun {z4 _ _} e5 W5 h5 s5 r5=>list_r [] [.s "less",.v (.int 0),.s name] nv0 (poks (pokv rfl (poks pok0))) (Nat.le_of_ble_eq_true rfl) W5 h5 fun {z5 _ _} e6 W6 h6 s6 r6=>list_r [] [.s "if",.v (mk z5 .empty),.v (mk z4 .empty),.v (.int 5)] nv0 (poks (pokv nS_mk (pokv nS_mk (pokv rfl pok0)))) (Nat.le_of_ble_eq_true rfl) W6 h6 fun {z6 _ _} e7 W7 h7 s7 r7=>k e1 e2 e3 e4 e5 e6 e7 W7 h7 (s1.trans (s2.trans (s3.trans (s4.trans (s5.trans (s6.trans s7)))))) fun {T} p q=>
  have p6:=s7.ns.trans p
  have p5:=s6.ns.trans p6
  have p4:=s5.ns.trans p5
  have p3:=s4.ns.trans p4
  have p2:=s3.ns.trans p3
  ⟨f p3 q,r7 p q (D:=fun z=>LoopB T tag name y (mk z .empty)) fun h7=>r6 p6 q (D:=fun z=>LoopB T tag name y (mk [_,mk z .empty,mk z4 .empty,.int 5] .empty)) fun {_} h6 {_} h6'=>r5 p5 q (D:=fun z=>LoopB T tag name y (mk [_,mk [_,.int 0,_] .empty,mk z .empty,.int 5] .empty)) fun h5=>r4 p4 q (D:=fun z=>LoopB T tag name y (mk [_,mk [_,.int 0,_] .empty,mk [_,mk z2 .empty,y,mk z .empty] .empty,.int 5] .empty)) fun h4=>r2 p2 q (D:=fun z=>LoopB T tag name y (mk [_,mk [_,.int 0,_] .empty,mk [_,mk z .empty,y,mk [_,mk z1 .empty] .empty] .empty,.int 5] .empty)) fun {_} h2 {_} h2'=>r1 (s2.ns.trans p2) q (D:=fun z=>LoopB T tag name y (mk [_,mk [_,.int 0,_] .empty,mk [_,mk [_,_] .empty,y,mk [_,mk z .empty] .empty] .empty,.int 5] .empty)) fun {_} h1 {_} h1'=>by
   cases Sy.u2 q h2' h6'
   cases Sy.u2 q h1' h6'
   exact .mk h7 h6 h6' h5 h2 h4 h1⟩
noncomputable def lbf {z1 z2 z3 z4 z5 z6:List V} {H1 H2 H3 H4 H5 H6 H7:Hp} (e1:R 6 .law_list [.ref 6,.lst [.str "plus",.str name,.int 6]] H (mk z1 .empty,H1)) (e2:R 6 .law_list [.ref 6,.lst [.str "say",.str name]] H1 (mk z2 .empty,H2)) (e3:R n .law_datum [.ref 6,x] H2 (y,H3)) (e4:R 6 .law_list [.ref 6,.lst [.str tag,mk z1 .empty]] H3 (mk z3 .empty,H4)) (e5:R 6 .law_list [.ref 6,.lst [.str "begin",mk z2 .empty,y,mk z3 .empty]] H4 (mk z4 .empty,H5)) (e6:R 6 .law_list [.ref 6,.lst [.str "less",.int 0,.str name]] H5 (mk z5 .empty,H6)) (e7:R 6 .law_list [.ref 6,.lst [.str "if",mk z5 .empty,mk z4 .empty,.int 5]] H6 (mk z6 .empty,H7)) (C:Calls) (hC:Has (n+6) C):List (Ans C):=
 [hC.a e1 (lkq (q:=n) (b:=6) rfl),hC.a e2 (lkq (q:=n) (b:=6) rfl),.cc (hC.r (e3.up (j:=6))),hC.a e4 (lkq (q:=n) (b:=6) rfl),hC.a e5 (lkq (q:=n) (b:=6) rfl),hC.a e6 (lkq (q:=n) (b:=6) rfl),hC.a e7 (lkq (q:=n) (b:=6) rfl)]
variable (hb1:1≤b) (hc:32≤c) (h:Wn q n b c L (filt ns tag name) x) (h1 : "if"∉ns) (h2 : "begin"∉ns) (hp:(tag,name)∈pairs) (hj:j≤2)
include hb1 hc h h1 h2 hp hj
theorem wf_named:Wn (q+40) (n+10) (100*b) (100*c) (L+4) ns (.tup [.str "named",.str tag,.str name,.int j,x]):=Wn.of fun {H w} W' hb {Z} k=>
 have l:3+(2+(b+(2+(4+(3+(4+(2+4)))))))≤100*b:=bud (bsum (b1 (k:=3) hb1) (bsum (b1 (k:=2) hb1) (bsum b0 (b1 (k:=19) hb1)))) (by decide)
 lbody h W' (wn_room hb l) fun {z1 z2 z3 z4 z5 z6 y _ _ _ _ _ _ _ _} e1 e2 e3 e4 e5 e6 e7 W7 h7 s7 f=>list_r [] [.s name,.v (.int j)] nv0 (poks (pokv rfl pok0)) (Nat.le_of_ble_eq_true rfl) W7 h7 fun {z8 _ H8} e8 W8 h8 s8 r8=>list_r [] [.s "let",.s tag,.v (mk [mk z8 .empty] .empty),.v (mk z6 .empty)] (r:=0) nv0 (poks (poks (pokv nS_mk (pokv nS_mk pok0)))) (Nat.le_of_ble_eq_true rfl) W8 h8 fun {z9 _ H9} e9 W9 h9 s9 r9=>k (show R (n+9) _ _ _ _ from R.of (m:=n+7) (fun C hC=>[.cc (hC.r ((R.of (m:=n+5) (fun C hC=>lbf e1 e2 e3 e4 e5 e6 e7 C hC++[hC.a e8 (lkq (q:=n) (b:=6) rfl),hC.a (list_eq (H:=H8) (xs:=[mk z8 .empty]) (t := .empty) (rm rfl)) (lkq (q:=n) (b:=6) rfl),hC.a e9 (lkq (q:=n) (b:=6) rfl)]) fun _ _=>by kernel_rfl:R (n+7) .law_loop_datum [.ref 6,.tup [.str "named",.str tag,.str name,.int j,x]] H (mk z9 .empty,H9)).up (j:=1)))]) fun _ _=>by kernel_rfl) (upq (q:=n) (a:=9) (b:=10) rfl) ((s7.trans (s8.trans s9)).up (Nat.le_trans (Nat.le_of_eq (by simp only [Nat.add_assoc]; rfl)) l)) fun {T} p q'=>r9 p q' (D:=fun z=>Gd _ _ _ T ns _ (mk z .empty)) fun {_} hs {_} hz=>r8 (s9.ns.trans p) q' (D:=fun z=>Gd _ _ _ T ns _ (mk [_,_,mk [mk z .empty] .empty,mk z6 .empty] .empty)) fun hn=>
  have ff:=f (s8.ns.trans (s9.ns.trans p)) q'
  Gd.of rfl (hd_of (t := "let") hs (.inr (by decide)) (by decide)) (fun am hL hN=>hz.rec (motive:=fun z _=>Out _ _ _ (mk [_,z,_,_] .empty) _ _ _) fun g=>hn.rec (motive:=fun z _=>Out _ _ _ (mk [_,_,mk [mk [z,_] .empty] .empty,_] .empty) _ _ _) fun g2=>sm_named Gd.S hc am (hL4 hL) hN g g2 hp hj h1 h2 ff.1 ff.2 hs) (by decide) (Nat.le_refl _)
theorem wf_lrec (h3 : "letrec"∉ns) (h4 : "lambda"∉ns):Wn (q+40) (n+10) (100*b) (100*c) (L+4) ns (.tup [.str "letrec",.str tag,.str name,.int j,x]):=Wn.of fun {H w} W' hb {Z} k=>
 have l:3+(2+(b+(2+(4+(3+(4+(1+(3+(2+(2+3))))))))))≤100*b:=bud (bsum (b1 (k:=3) hb1) (bsum (b1 (k:=2) hb1) (bsum b0 (b1 (k:=24) hb1)))) (by decide)
 lbody h W' (wn_room hb l) fun {z1 z2 z3 z4 z5 z6 y _ _ _ _ _ _ _ _} e1 e2 e3 e4 e5 e6 e7 W7 h7 s7 f=>list_r [] [.s name] nv0 (poks pok0) (Nat.le_of_ble_eq_true rfl) W7 h7 fun {z8 _ _} e8 W8 h8 s8 r8=>list_r [] [.s "lambda",.v (mk z8 .empty),.v (mk z6 .empty)] nv0 (poks (pokv nS_mk (pokv nS_mk pok0))) (Nat.le_of_ble_eq_true rfl) W8 h8 fun {z9 _ _} e9 W9 h9 s9 r9=>list_r [] [.s tag,.v (mk z9 .empty)] nv0 (poks (pokv nS_mk pok0)) (Nat.le_of_ble_eq_true rfl) W9 h9 fun {za _ Ha} ea Wa ha sa ra=>list_r [] [.s tag,.v (.int j)] nv0 (poks (pokv rfl pok0)) (Nat.le_of_ble_eq_true rfl) Wa ha fun {zb _ _} eb Wb hb' sb rb=>list_r [] [.s "letrec",.v (mk [mk za .empty] .empty),.v (mk zb .empty)] (r:=0) nv0 (poks (pokv nS_mk (pokv nS_mk pok0))) (Nat.le_of_ble_eq_true rfl) Wb hb' fun {zc _ Hc} ec Wc hc' sc rc=>k (show R (n+9) _ _ _ _ from R.of (m:=n+7) (fun C hC=>[.cc (hC.r ((R.of (m:=n+5) (fun C hC=>lbf e1 e2 e3 e4 e5 e6 e7 C hC++[hC.a e8 (lkq (q:=n) (b:=6) rfl),hC.a e9 (lkq (q:=n) (b:=6) rfl),hC.a ea (lkq (q:=n) (b:=6) rfl),hC.a (list_eq (H:=Ha) (xs:=[mk za .empty]) (t := .empty) (rm rfl)) (lkq (q:=n) (b:=6) rfl),hC.a eb (lkq (q:=n) (b:=6) rfl),hC.a ec (lkq (q:=n) (b:=6) rfl)]) fun _ _=>by kernel_rfl:R (n+7) .law_loop_datum [.ref 6,.tup [.str "letrec",.str tag,.str name,.int j,x]] H (mk zc .empty,Hc)).up (j:=1)))]) fun _ _=>by kernel_rfl) (upq (q:=n) (a:=9) (b:=10) rfl) ((s7.trans (s8.trans (s9.trans (sa.trans (sb.trans sc))))).up (Nat.le_trans (Nat.le_of_eq (by simp only [Nat.add_assoc]; rfl)) l)) fun {T} p q'=>
  have pb:=sc.ns.trans p
  have pa:=sb.ns.trans pb
  have p9:=sa.ns.trans pa
  rc p q' (D:=fun z=>Gd _ _ _ T ns _ (mk z .empty)) fun hs=>rb pb q' (D:=fun z=>Gd _ _ _ T ns _ (mk [_,mk [mk za .empty] .empty,mk z .empty] .empty)) fun hz'=>ra pa q' (D:=fun z=>Gd _ _ _ T ns _ (mk [_,mk [mk z .empty] .empty,mk [_,.int j] .empty] .empty)) fun hz=>r9 p9 q' (D:=fun z=>Gd _ _ _ T ns _ (mk [_,mk [mk [_,mk z .empty] .empty] .empty,mk [_,.int j] .empty] .empty)) fun hl=>r8 (s9.ns.trans p9) q' (D:=fun z=>Gd _ _ _ T ns _ (mk [_,mk [mk [_,mk [_,mk z .empty,mk z6 .empty] .empty] .empty] .empty,mk [_,.int j] .empty] .empty)) fun hn=>
  have ff:=f (s8.ns.trans (s9.ns.trans p9)) q'
  Gd.of rfl (hd_of (t := "letrec") hs (.inl h3) (by decide)) (fun am hL hN=>by
   cases Sy.u2 q' hz' hz
   exact hz.rec (motive:=fun z _=>Out _ _ _ (mk [_,mk [mk [z,_] .empty] .empty,mk [z,_] .empty] .empty) _ _ _) fun g=>hn.rec (motive:=fun z _=>Out _ _ _ (mk [_,mk [mk [_,mk [_,mk [z] .empty,_] .empty] .empty] .empty,_] .empty) _ _ _) fun g2=>sm_lrec Gd.S hc am (hL4 hL) hN g g2 hp hj h1 h2 ff.1 ff.2 h3 h4 hs hl) (by decide) (Nat.le_refl _)
end
noncomputable abbrev kB:Ss:=ss [.lapp 2 (.call .law_list (es [.v 0,.bin true .add (.list false (es [.call .list_of (es [.v 3]) [.empty]])) (.call .law_data (es [.v 0,.v 4]) [])]) [])]
noncomputable abbrev cB:Ss:=ss [.assign 7 (.ite (.cmp false .eq (.v 5) (.k (.int 0))) (.call .law_data (es [.v 0,.v 4]) []) (.ite (.cmp false .eq (.v 5) (.k (.int 2))) (.list false (es [.k (.str "=>"),.k (.str "say")])) (.list false (es [])))),.lapp 2 (.call .law_list (es [.v 0,.bin true .add (.list false (es [.call .law_datum (es [.v 0,.v 6]) []])) (.v 7)]) [])]
inductive KWc (W:V→Prop):V→Prop
 | mk {ds ps:List V}:(∀ d∈ds,DOK d)→ds.length≤3→(∀ x∈ps,W x)→1≤ps.length→ps.length≤2→KWc W (.tup [.lst ds,.lst ps])
inductive CWc (W:V→Prop):V→Prop
 | seq {t:V} {ps:List V}:W t→(∀ x∈ps,W x)→1≤ps.length→ps.length≤2→CWc W (.tup [.int 0,t,.lst ps])
 | bare {t:V}:W t→CWc W (.tup [.int 1,t,.lst []])
 | arrow {t:V}:W t→CWc W (.tup [.int 2,t,.lst []])
section
variable {n b m c L q j:Nat} {H H':Hp} {w w':W} {xs ys vs zs cs:List V} {T T':List String} {Z:Prop} {x y B pv:V} {tag name t:String} {ns:List String} {F:List String→V→V→Prop} {ps:List PT} {last:Option (List V)} {C:Calls}
noncomputable abbrev kR (pv:V) (acc:List V) (a b c d e:Sl):List Sl:=[.v (.ref 6),.v pv,.loc acc,a,b,c,d,e,.undef]
theorem L2.r12c {R:V→V→Prop} (h:L2 R xs ys) (h1:1≤xs.length) (h2:xs.length≤2):∃ y ys',ys=y::ys':=by
 cases h with
 | nil=>exact absurd h1 (by decide)
 | cons=>exact ⟨_,_,rfl⟩
theorem row0 (hv:∀ v∈vs,nS v) (hl:vs.length≤1000):R 6 .law_list [.ref 6,.lst vs] H (mk vs .empty,H):=R.of (m:=4) (fun C hC=>[.ce (H:=H) (ρ:=[.v (.ref 6),.v (.lst vs),.undef]) (e := .comp false [2] lE (.e (.v 1)) (.k (.bool true))) (cp_i (hC.i (r:=(vs,H)) [] (by kernel_rfl)) (row_v ⟨fun r=>hC.r (r.le (Nat.le_succ 4)),hC.n⟩ hv)),hC.a (list_eq (H:=H) (xs:=vs) (t := .empty) (Nat.le_trans hl (rm rfl)))]) fun _ _=>by kernel_rfl
theorem Sy.mono (h:Sy T t x) (p:T<+:T'):Sy T' t x:=h.rec (motive:=fun x _=>Sy T' t x) fun g => .mk (pre_at p g)
theorem kloop (cs:List V):∀ {m:Nat} {H:Hp} {w:W},(∀ c∈cs,KWc (Wf n b F) c)→Wd H w→w.ns.length+(cs.length*(2*b)+m)≤room→(∀ {ks:List KK} {w':W} {H':Hp},(∀ {C:Calls},Has (n+6) C→∀ {acc:List V} {a1 a2 a3 a4 a5:Sl},acc.length+cs.length≤100→∃ a b,FB C [3,4] kB cs (kR pv acc a1 a2 a3 a4 a5,H)=some (.next,kR pv (acc++ks.map KK.val) a b a3 a4 a5,H'))→ks.length=cs.length→w'.ns.length+m≤room→St1 (cs.length*(2*b)) w H w' H'→(∀ {T:List String},w'.ns<+:T→T.Nodup→∀ {last:Option (List V)} {ks':List KK},KL T (F T) last [] ks'→KL T (F T) last cs (ks++ks'))→Z)→Z:=by
 induction cs with
 | nil=>exact fun {m H w} _ W' hb k=>k (ks:=[]) (fun {_} _ {acc _ _ _ _ _} _=>⟨_,_,congrArg (fun acc=>some (Fl.next,kR pv acc _ _ _ _ _,H)) (List.append_nil acc).symm⟩) rfl (Nat.le_trans (Nat.add_le_add_left (Nat.le_add_left m _) _) hb) ((St1.refl W').up (Nat.zero_le _)) fun _ _ _ _ h=>h
 | cons c cs ih=>
  intro m H w hx W' hb k
  have e:(c::cs).length*(2*b)=2*b+cs.length*(2*b):=(Nat.succ_mul _ _).trans (Nat.add_comm _ _)
  have hbb:w.ns.length+(2*b+(cs.length*(2*b)+m))≤room:=by rw [e,Nat.add_assoc] at hb; exact hb
  cases hx c (.head _) with
  | @mk ds ps hd hl hp h1 h2=>
   have bb:=bx (b:=b) h2
   refine data_w (pv := .lst ps) hp rfl W' (Nat.le_trans (Nat.add_le_add_left (Nat.le_trans bb (Nat.le_add_right _ _)) _) hbb) fun {ys w1 H1} e1 nn s1 f1=>?_
   have s1:=s1.up bb
   refine ih (fun x h=>hx x (.tail _ h)) s1.wd (s1.bd hbb) fun {ks w2 H2} e2 l2 hb2 s2 f2=>?_
   obtain ⟨y,ys',rfl⟩:=(f1 (List.prefix_refl _) s1.wd.nd).r12c h1 h2
   have yl:(y::ys').length≤2:=(f1 (List.prefix_refl _) s1.wd.nd).len▸h2
   refine k (ks := .cl ds y ys'::ks) (fun {C} hC {acc a1 a2 a3 a4 a5} hacc=>?_) (congrArg (·+1) l2) hb2 ((s1.trans s2).up (Nat.le_of_eq e.symm)) fun {_} p q {_ _} h => .cons hd hl ((f1 (s2.ns.trans p) q).r12 h1 h2) (f2 p q h)
   have ha:acc.length≤100:=Nat.le_trans (Nat.le_add_right _ _) hacc
   obtain ⟨a,b,g⟩:=e2 hC (acc:=acc++[mk (mk ds .empty::y::ys') .empty]) (a1 := .v (.lst ds)) (a2 := .v (.lst ps)) (a3:=a3) (a4:=a4) (a5:=a5) (by rw [List.length_append]; exact Nat.le_trans (Nat.le_of_eq (Nat.add_right_comm _ 1 _)) hacc)
   rw [List.append_assoc] at g
   exact ⟨a,b,fb_c (hC.s [hC.a (list_eq (H:=H) (xs:=ds) (t := .empty) (Nat.le_trans hl (rm rfl))) (lkq (q:=n) (b:=6) rfl),.cc (hC.r (e1.up (j:=4))),.bi (H:=H1) (addl (ps:=[mk ds .empty]) (xs:=y::ys') (Nat.le_trans (Nat.add_le_add_left yl 1) (rm rfl))),hC.a (row0 (H:=H1) (vs:=mk ds .empty::y::ys') (List.forall_mem_cons.mpr ⟨nS_mk,nn⟩) (Nat.le_trans (Nat.succ_le_succ yl) (by decide))) (lkq (q:=n) (b:=6) rfl),.ln (xs:=acc) (hun ha 0)] (by kernel_rfl)) g⟩
end
section
variable {n b m c L q j:Nat} {H H':Hp} {w w':W} {xs ys vs zs cs:List V} {T T':List String} {Z:Prop} {x y B pv:V} {tag name t:String} {ns:List String} {F:List String→V→V→Prop} {ps:List PT} {last:Option (List V)} {C:Calls} {cl:V}
noncomputable abbrev cStep (n:Nat) (pv cl:V) (ck:CK) (H H':Hp):Prop:=∀ {C:Calls},Has (n+6) C→∀ {acc:List V} {a1 a2 a3 a4 a5:Sl},acc.length≤100→∃ ρ' c1 c2 c3 c4 c5,bindTg [5,6,4] cl (kR pv acc a1 a2 a3 a4 a5)=some ρ'∧exs C cB (ρ',H)=some (.next,kR pv (acc++[ck.val]) c1 c2 c3 c4 c5,H')
theorem cstep (h:CWc (Wf n b F) cl) (hb1:1≤b) (W':Wd H w) (hb:w.ns.length+5*b≤room) (k:∀ {ck:CK} {w':W} {H':Hp},cStep n pv cl ck H H'→St1 (5*b) w H w' H'→(∀ {T:List String},w'.ns<+:T→T.Nodup→∀ {last:Option (List V)} {cs:List V} {ks:List CK},CL T (F T) last cs ks→CL T (F T) last (cl::cs) (ck::ks))→Z):Z:=by
 cases h with
 | @seq t ps ht hp h1 h2=>
  have l:ps.length*b+b≤5*b:=Nat.le_trans (bsum (bx h2) b0) (Nat.mul_le_mul_right b (by decide))
  refine data_w (pv := .lst ps) hp rfl W' (wn_room hb (Nat.le_trans (Nat.le_add_right _ b) l)) fun {ys w1 H1} e1 nn s1 f1=>ht s1.wd (s1.bd (wn_room hb l)) fun {s _ H2} e2 ns s2 f2=>?_
  obtain ⟨y,ys',rfl⟩:=(f1 (List.prefix_refl _) s1.wd.nd).r12c h1 h2
  have yl:(y::ys').length≤2:=(f1 (List.prefix_refl _) s1.wd.nd).len▸h2
  exact k (ck := .test s y ys') (fun {C} hC {acc a1 a2 a3 a4 a5} ha=>⟨_,a1,.v (.lst ps),.v (.int 0),.v t,.v (.lst (y::ys')),rfl,hC.s [.cc (hC.r (e1.up (j:=4))),.cc (hC.r (e2.up (j:=6))),.bi (H:=H2) (addl (ps:=[s]) (xs:=y::ys') (Nat.le_trans (Nat.add_le_add_left yl 1) (rm rfl))),hC.a (row0 (H:=H2) (vs:=s::y::ys') (List.forall_mem_cons.mpr ⟨ns,nn⟩) (Nat.le_trans (Nat.succ_le_succ yl) (by decide))) (lkq (q:=n) (b:=6) rfl),.ln (xs:=acc) (hun ha 0)] (by kernel_rfl)⟩) ((s1.trans s2).up l) fun {_} p q {_ _ _} h _ c=>c (f2 p q) ((f1 (s2.ns.trans p) q).r12 h1 h2) h
 | @bare t ht=>
  have l:b≤5*b:=Nat.le_trans b0 (Nat.mul_le_mul_right b (by decide))
  exact ht W' (wn_room hb l) fun {s _ H2} e2 ns s2 f2=>k (ck := .bare s) (fun {C} hC {acc a1 a2 a3 a4 a5} ha=>⟨_,a1,.v (.lst []),.v (.int 1),.v t,.v (.lst []),rfl,hC.s [.cc (hC.r (e2.up (j:=6))),.bi (H:=H2) (addl (ps:=[s]) (xs:=[]) (rm rfl)),hC.a (row0 (H:=H2) (vs:=[s]) (List.forall_mem_singleton.mpr ns) (Nat.le_of_ble_eq_true rfl)) (lkq (q:=n) (b:=6) rfl),.ln (xs:=acc) (hun ha 0)] (by kernel_rfl)⟩) (s2.up l) fun {_} p q {_ _ _} h _ c=>c (f2 p q) h
 | @arrow t ht=>
  have l:b+3≤5*b:=Nat.le_trans (bsum b0 (b1 (k:=3) hb1)) (Nat.mul_le_mul_right b (by decide))
  refine ht W' (wn_room hb (Nat.le_trans (Nat.le_add_right b 3) l)) fun {s w1 H1} e2 ns s2 f2=>list_r [] [.v s,.s "=>",.s "say"] (r:=0) nv0 (pokv ns (poks (poks pok0))) (Nat.le_of_ble_eq_true rfl) s2.wd (s2.bd (wn_room hb l)) fun {zs w2 H2} e3 W2 _ s3 r3=>?_
  have r3:=r3 (List.prefix_refl _) W2.nd (D:=fun zs=>∃ k f,zs=[s,sym k "=>",f]∧w2.ns[k]?=some "=>"∧Sy w2.ns "say" f) fun {_} h {_} h2=>h.rec (motive:=fun y _=>∃ k f,[s,y,_]=[s,sym k "=>",f]∧w2.ns[k]?=some "=>"∧Sy w2.ns "say" f) fun g=>⟨_,_,rfl,g,h2⟩
  obtain ⟨j,f,rfl,g,hf⟩:=r3
  exact k (ck := .arrow s j f) (fun {C} hC {acc a1 a2 a3 a4 a5} ha=>⟨_,a1,.v (.lst []),.v (.int 2),.v t,.v (.lst [.str "=>",.str "say"]),rfl,hC.s [.cc (hC.r (e2.up (j:=6))),.bi (H:=H1) (addl (ps:=[s]) (xs:=[.str "=>",.str "say"]) (rm rfl)),hC.a e3 (lkq (q:=n) (b:=6) rfl),.ln (xs:=acc) (hun ha 0)] (by kernel_rfl)⟩) ((s2.trans s3).up l) fun {_} p q {_ _ _} h _ c=>c (f2 (s3.ns.trans p) q) (pre_at p g) (hf.mono p) h
theorem cloop (hb1:1≤b) (cs:List V):∀ {m:Nat} {H:Hp} {w:W},(∀ c∈cs,CWc (Wf n b F) c)→Wd H w→w.ns.length+(cs.length*(5*b)+m)≤room→(∀ {ks:List CK} {w':W} {H':Hp},(∀ {C:Calls},Has (n+6) C→∀ {acc:List V} {a1 a2 a3 a4 a5:Sl},acc.length+cs.length≤100→∃ c1 c2 c3 c4 c5,FB C [5,6,4] cB cs (kR pv acc a1 a2 a3 a4 a5,H)=some (.next,kR pv (acc++ks.map CK.val) c1 c2 c3 c4 c5,H'))→ks.length=cs.length→w'.ns.length+m≤room→St1 (cs.length*(5*b)) w H w' H'→(∀ {T:List String},w'.ns<+:T→T.Nodup→∀ {last:Option (List V)} {cs':List V} {ks':List CK},CL T (F T) last cs' ks'→CL T (F T) last (cs++cs') (ks++ks'))→Z)→Z:=by
 induction cs with
 | nil=>exact fun {m H w} _ W' hb k=>k (ks:=[]) (fun {_} _ {acc _ _ _ _ _} _=>⟨_,_,_,_,_,congrArg (fun acc=>some (Fl.next,kR pv acc _ _ _ _ _,H)) (List.append_nil acc).symm⟩) rfl (Nat.le_trans (Nat.add_le_add_left (Nat.le_add_left m _) _) hb) ((St1.refl W').up (Nat.zero_le _)) fun _ _ _ _ _ h=>h
 | cons c cs ih=>
  intro m H w hx W' hb k
  have e:(c::cs).length*(5*b)=5*b+cs.length*(5*b):=(Nat.succ_mul _ _).trans (Nat.add_comm _ _)
  have hbb:w.ns.length+(5*b+(cs.length*(5*b)+m))≤room:=by rw [e,Nat.add_assoc] at hb; exact hb
  refine cstep (pv:=pv) (hx c (.head _)) hb1 W' (wn_room hbb (Nat.le_add_right _ _)) fun {ck w1 H1} e1 s1 f1=>ih (fun x h=>hx x (.tail _ h)) s1.wd (s1.bd hbb) fun {ks w2 H2} e2 l2 hb2 s2 f2=>k (ks:=ck::ks) (fun {C} hC {acc a1 a2 a3 a4 a5} hacc=>?_) (congrArg (·+1) l2) hb2 ((s1.trans s2).up (Nat.le_of_eq e.symm)) fun {_} p q {_ _ _} h=>f1 (s2.ns.trans p) q (f2 p q h)
  obtain ⟨ρ',b1,b2,b3,b4,b5,h1,h2⟩:=e1 hC (a1:=a1) (a2:=a2) (a3:=a3) (a4:=a4) (a5:=a5) (Nat.le_trans (Nat.le_add_right _ _) hacc)
  obtain ⟨c1,c2,c3,c4,c5,g⟩:=e2 hC (acc:=acc++[ck.val]) (a1:=b1) (a2:=b2) (a3:=b3) (a4:=b4) (a5:=b5) (by rw [List.length_append]; exact Nat.le_trans (Nat.le_of_eq (Nat.add_right_comm _ 1 _)) hacc)
  rw [List.append_assoc] at g
  exact ⟨c1,c2,c3,c4,c5,fb_c h2 g h1⟩
end
inductive LWc (W:V→Prop):Option (List V)→Prop
 | none:LWc W Option.none
 | some {ps:List V}:(∀ x∈ps,W x)→1≤ps.length→ps.length≤2→LWc W (Option.some ps)
section
variable {n b m c L q j:Nat} {H H':Hp} {w w':W} {xs ys vs zs cs:List V} {T T':List String} {Z:Prop} {x y B pv:V} {wd:String} {ns:List String} {F:List String→V→V→Prop} {last:Option (List V)} {C:Calls} {cl:V}
theorem elsew {ps:List V} (hp:∀ x∈ps,Wf n b F x) (h1:1≤ps.length) (h2:ps.length≤2) {r:Nat} (W':Wd H w) (hb:w.ns.length+(2*b+1+r)≤room) (k:∀ {j:Nat} {y:V} {ys:List V} {H1 H':Hp} {w':W},R (n+2) .law_data [.ref 6,.lst ps] H (.lst (y::ys),H1)→R 6 .law_list [.ref 6,.lst (.str "else"::y::ys)] H1 (mk (sym j "else"::y::ys) .empty,H')→1+(y::ys).length≤room→w'.ns.length+r≤room→St1 (2*b+1) w H w' H'→(∀ {T:List String},w'.ns<+:T→T.Nodup→T[j]?=some "else"∧R12 (F T) ps (y::ys))→Z):Z:=
 have bb:=bx (b:=b) h2
 wdata "else" hp rfl (Nat.le_trans h2 (by decide)) W' (wn_room hb (Nat.le_trans (Nat.add_le_add_right bb 1) (Nat.le_add_right _ r))) fun {ys zs H1 H' w'} e l e2 s f=>by
  have s:=s.up (Nat.add_le_add_right bb 1)
  have g:=f (List.prefix_refl _) s.wd.nd (D:=fun z=>∃ j y ys',ys=y::ys'∧z=mk (sym j "else"::ys) .empty∧w'.ns[j]?=some "else") fun hs g=>hs.rec (motive:=fun z _=>∃ j y ys',ys=y::ys'∧mk (z::ys) .empty=mk (sym j "else"::ys) .empty∧w'.ns[j]?=some "else") fun hj=>(g.r12c h1 h2).elim fun y h=>h.elim fun ys' e=>⟨_,y,ys',e,rfl,hj⟩
  obtain ⟨j,y,ys',rfl,ez,hj⟩:=g
  rw [ez] at e2
  exact k e e2 l (s.bd hb) s fun p q=>⟨pre_at p hj,(f p q (D:=fun _=>L2 (F _) ps (y::ys')) fun _ g=>g).r12 h1 h2⟩
theorem mpn {α:Type} {f:α→V} {g:α→List V} {l:List α} (h:∀ a,f a=mk (g a) .empty):∀ v∈l.map f,nS v:=List.forall_mem_map.mpr fun a _=>h a▸nS_mk
theorem wf_via {zs:List V} {fn:Fn} (hw:wd = "case"∧fn = .law_choice_datum∨wd = "cond"∧fn = .law_choice_datum∨wd = "do"∧fn = .law_do_datum) {as:List V} (h:R (n+7) fn [.ref 6,.tup (.str wd::as)] H (mk zs .empty,H')):R (n+9) .law_datum [.ref 6,.tup (.str wd::as)] H (mk zs .empty,H'):=by
 rcases hw with ⟨rfl,rfl⟩ | ⟨rfl,rfl⟩ | ⟨rfl,rfl⟩ <;> exact R.of (m:=n+7) (fun C hC=>[.cc (hC.r (h.up (j:=1)))]) fun _ _=>by kernel_rfl
variable (hb1:1≤b) (hc:32≤c) (hl:LWc (Wn q n b c L ns) last)
include hb1 hc hl
theorem wf_case (hx:Wn q n b c L ns x) (hcs:∀ c'∈cs,KWc (Wn q n b c L ns) c') (h1:1≤cs.length) (h2:cs.length≤2):Wn (q+40) (n+10) (100*b) (100*c) (L+4) ns (.tup [.str "case",x,.lst cs,lastV last]):=Wn.of fun {H w} W' hb {Z} k=>by
 have hi:∀ {C:Calls} {v:V},Has (n+6) C→evI C (kR (.tup [.str "case",x,.lst cs,v]) [] .undef .undef .undef .undef .undef) (.e (.idx false (.v 1) (.k (.int 2)))) H=some (cs,H):=fun hC=>hC.i [] (by kernel_rfl)
 have h100:(([]:List V).length+cs.length)≤100:=Nat.le_trans (Nat.le_of_eq (Nat.zero_add _)) (Nat.le_trans h2 (by decide))
 have l4:cs.length*(2*b)≤4*b:=Nat.le_trans (Nat.mul_le_mul_right _ h2) (Nat.le_of_eq (Nat.mul_assoc 2 2 b).symm)
 cases hl with
 | none=>
  have l:cs.length*(2*b)+(b+(2+0))≤100*b:=bud (bsum l4 (bsum b0 (b1 (k:=2) hb1))) (by decide)
  exact kloop (pv := .tup [.str "case",x,.lst cs,.none]) cs hcs W' (wn_room hb l) fun {ks w1 H1} e1 ek h1' s1 f1=>hx s1.wd (wn_room h1' (Nat.le_add_right _ _)) fun {y w2 H2} e2 ny s2 f2=>list_r (ks.map KK.val) [.s "case",.v y] (mpn (g:=KK.xs) fun _=>rfl) (poks (pokv ny pok0)) (by rw [List.length_map,ek]; exact Nat.le_trans (Nat.add_le_add_left h2 2) (by decide)) s2.wd (s2.bd h1') fun {zs w3 H3} e3 W3 _ s3 r3=>k (wf_via (.inl ⟨rfl,rfl⟩) (R.ex (m:=n+5) fun C hC=>by
   obtain ⟨a1,a2,g⟩:=e1 hC (acc:=[]) (a1 := .undef) (a2 := .undef) (a3 := .undef) (a4 := .undef) (a5 := .undef) h100
   exact ⟨[.cs (for_i (hi hC) g),.cc (hC.r (e2.up (j:=6))),.bi (H:=H2) (addl (ps:=[.str "case",y]) (xs:=ks.map KK.val) (by rw [List.length_map,ek]; exact Nat.le_trans (Nat.add_le_add_left h2 2) (rm rfl))),hC.a e3 (lkq (q:=n) (b:=6) rfl)],by kernel_rfl⟩)) (upq (q:=n) (a:=9) (b:=10) rfl) ((s1.trans (s2.trans s3)).up l) fun {T} p q'=>r3 p q' (D:=fun z=>Gd _ _ _ T ns _ (mk z .empty)) fun hs=>Gd.of rfl (hd_of (t := "case") hs (.inr (by decide)) (by decide)) (fun am hL hN=>sm_case Gd.S Gd.hd am (hL4 hL) hc hN hs (f2 (s3.ns.trans p) q') (List.append_nil ks▸f1 (s2.ns.trans (s3.ns.trans p)) q' (.nil rfl)) h1 h2) (by decide) (upq rfl)
 | @some ps hp p1 p2=>
  have l:cs.length*(2*b)+(2*b+1+(b+(2+0)))≤100*b:=bud (bsum l4 (bsum (bsum (Nat.le_refl _) (b1 (k:=1) hb1)) (bsum b0 (b1 (k:=2) hb1)))) (by decide)
  exact kloop (pv := .tup [.str "case",x,.lst cs,.lst ps]) cs hcs W' (wn_room hb l) fun {ks w1 H1} e1 ek h1' s1 f1=>elsew hp p1 p2 s1.wd h1' fun {j ye ys Ha Hb wb} ea eb la hb' sb fb=>hx sb.wd (wn_room hb' (Nat.le_add_right _ _)) fun {y w2 H2} e2 ny s2 f2=>list_r ((ks++[KK.els j ye ys]).map KK.val) [.s "case",.v y] (mpn (g:=KK.xs) fun _=>rfl) (poks (pokv ny pok0)) (by rw [List.length_map,List.length_append,ek]; exact Nat.le_trans (Nat.add_le_add_left (Nat.add_le_add_right h2 1) 2) (by decide)) s2.wd (s2.bd hb') fun {zs w3 H3} e3 W3 _ s3 r3=>k (wf_via (.inl ⟨rfl,rfl⟩) (R.ex (m:=n+5) fun C hC=>by
   obtain ⟨a1,a2,g⟩:=e1 hC (acc:=[]) (a1 := .undef) (a2 := .undef) (a3 := .undef) (a4 := .undef) (a5 := .undef) h100
   rw [List.map_append] at e3
   exact ⟨[.cs (for_i (hi hC) g),.cc (hC.r (ea.up (j:=4))),.bi (H:=Ha) (addl (ps:=[.str "else"]) (xs:=ye::ys) la),hC.a eb (lkq (q:=n) (b:=6) rfl),.ln (xs:=[]++ks.map KK.val) (by rw [List.nil_append,List.length_map,ek]; exact Nat.le_trans h2 (rm rfl)),.cc (hC.r (e2.up (j:=6))),.bi (H:=H2) (addl (ps:=[.str "case",y]) (xs:=ks.map KK.val++[mk (sym j "else"::ye::ys) .empty]) (by rw [List.length_append,List.length_map,ek]; exact Nat.le_trans (Nat.add_le_add_left (Nat.add_le_add_right h2 1) 2) (rm rfl))),hC.a e3 (lkq (q:=n) (b:=6) rfl)],by kernel_rfl⟩)) (upq (q:=n) (a:=9) (b:=10) rfl) ((s1.trans (sb.trans (s2.trans s3))).up l) fun {T} p q'=>r3 p q' (D:=fun z=>Gd _ _ _ T ns _ (mk z .empty)) fun hs=>
    have pb:=s2.ns.trans (s3.ns.trans p)
    Gd.of rfl (hd_of (t := "case") hs (.inr (by decide)) (by decide)) (fun am hL hN=>sm_case Gd.S Gd.hd am (hL4 hL) hc hN hs (f2 (s3.ns.trans p) q') (f1 (sb.ns.trans pb) q' (.els rfl (fb pb q').1 (fb pb q').2)) h1 h2) (by decide) (upq rfl)
theorem wf_cond (hcs:∀ c'∈cs,CWc (Wn q n b c L ns) c') (h1:1≤cs.length) (h2:cs.length≤3):Wn (q+40) (n+10) (100*b) (100*c) (L+4) ns (cdT cs last):=Wn.of fun {H w} W' hb {Z} k=>by
 have hi:∀ {C:Calls} {v:V},Has (n+6) C→evI C (kR (.tup [.str "cond",.lst cs,v]) [] .undef .undef .undef .undef .undef) (.e (.idx false (.v 1) (.k (.int 1)))) H=some (cs,H):=fun hC=>hC.i [] (by kernel_rfl)
 have h100:(([]:List V).length+cs.length)≤100:=Nat.le_trans (Nat.le_of_eq (Nat.zero_add _)) (Nat.le_trans h2 (by decide))
 have l4:cs.length*(5*b)≤15*b:=Nat.le_trans (Nat.mul_le_mul_right _ h2) (Nat.le_of_eq (Nat.mul_assoc 3 5 b).symm)
 cases hl with
 | none=>
  have l:cs.length*(5*b)+(1+0)≤100*b:=bud (bsum l4 (b1 (k:=1) hb1)) (by decide)
  exact cloop (pv:=cdT cs none) hb1 cs hcs W' (wn_room hb l) fun {ks w1 H1} e1 ek h1' s1 f1=>list_r (ks.map CK.val) [.s "cond"] (mpn (g:=CK.xs) fun _=>rfl) (poks pok0) (by rw [List.length_map,ek]; exact Nat.le_trans (Nat.add_le_add_left h2 1) (by decide)) s1.wd h1' fun {zs w3 H3} e3 W3 _ s3 r3=>k (wf_via (.inr (.inl ⟨rfl,rfl⟩)) (R.ex (m:=n+5) fun C hC=>by
   obtain ⟨a1,a2,a3,a4,a5,g⟩:=e1 hC (acc:=[]) (a1 := .undef) (a2 := .undef) (a3 := .undef) (a4 := .undef) (a5 := .undef) h100
   exact ⟨[.cs (for_i (hi hC) g),.bi (H:=H1) (addl (ps:=[.str "cond"]) (xs:=ks.map CK.val) (by rw [List.length_map,ek]; exact Nat.le_trans (Nat.add_le_add_left h2 1) (rm rfl))),hC.a e3 (lkq (q:=n) (b:=6) rfl)],by kernel_rfl⟩)) (upq (q:=n) (a:=9) (b:=10) rfl) ((s1.trans s3).up l) fun {T} p q'=>r3 p q' (D:=fun z=>Gd _ _ _ T ns _ (mk z .empty)) fun hs=>Gd.of rfl (hd_of (t := "cond") hs (.inr (by decide)) (by decide)) (fun am hL hN=>sm_cond Gd.S Gd.hd hc am (hL4 hL) hN hs (List.append_nil cs▸List.append_nil ks▸f1 (s3.ns.trans p) q' (cs':=[]) (ks':=[]) ⟨rfl,rfl⟩) h1 h2) (by decide) (upq rfl)
 | @some ps hp p1 p2=>
  have l:cs.length*(5*b)+(2*b+1+(1+0))≤100*b:=bud (bsum l4 (bsum (bsum (Nat.le_refl _) (b1 (k:=1) hb1)) (b1 (k:=1) hb1))) (by decide)
  exact cloop (pv:=cdT cs (some ps)) hb1 cs hcs W' (wn_room hb l) fun {ks w1 H1} e1 ek h1' s1 f1=>elsew hp p1 p2 s1.wd h1' fun {j ye ys Ha Hb wb} ea eb la hb' sb fb=>list_r ((ks++[CK.els j ye ys]).map CK.val) [.s "cond"] (mpn (g:=CK.xs) fun _=>rfl) (poks pok0) (by rw [List.length_map,List.length_append,ek]; exact Nat.le_trans (Nat.add_le_add_left (Nat.add_le_add_right h2 1) 1) (by decide)) sb.wd hb' fun {zs w3 H3} e3 W3 _ s3 r3=>k (wf_via (.inr (.inl ⟨rfl,rfl⟩)) (R.ex (m:=n+5) fun C hC=>by
   obtain ⟨a1,a2,a3,a4,a5,g⟩:=e1 hC (acc:=[]) (a1 := .undef) (a2 := .undef) (a3 := .undef) (a4 := .undef) (a5 := .undef) h100
   rw [List.map_append] at e3
   exact ⟨[.cs (for_i (hi hC) g),.cc (hC.r (ea.up (j:=4))),.bi (H:=Ha) (addl (ps:=[.str "else"]) (xs:=ye::ys) la),hC.a eb (lkq (q:=n) (b:=6) rfl),.ln (xs:=[]++ks.map CK.val) (by rw [List.nil_append,List.length_map,ek]; exact Nat.le_trans h2 (rm rfl)),.bi (H:=Hb) (addl (ps:=[.str "cond"]) (xs:=ks.map CK.val++[mk (sym j "else"::ye::ys) .empty]) (by rw [List.length_append,List.length_map,ek]; exact Nat.le_trans (Nat.add_le_add_left (Nat.add_le_add_right h2 1) 1) (rm rfl))),hC.a e3 (lkq (q:=n) (b:=6) rfl)],by kernel_rfl⟩)) (upq (q:=n) (a:=9) (b:=10) rfl) ((s1.trans (sb.trans s3)).up l) fun {T} p q'=>r3 p q' (D:=fun z=>Gd _ _ _ T ns _ (mk z .empty)) fun hs=>
    have pb:=s3.ns.trans p
    Gd.of rfl (hd_of (t := "cond") hs (.inr (by decide)) (by decide)) (fun am hL hN=>sm_cond Gd.S Gd.hd hc am (hL4 hL) hN hs (List.append_nil cs▸f1 (sb.ns.trans pb) q' (cs':=[]) (ks':=[.els j ye ys]) ⟨ps,⟨rfl,rfl,rfl⟩,(fb pb q').1,(fb pb q').2⟩) h1 h2) (by decide) (upq rfl)
end
inductive StR (n:Nat) (H H':Hp):Option V→Option V→Prop
 | none:H=H'→StR n H H' Option.none Option.none
 | some {x y:V}:R n .law_datum [.ref 6,x] H (y,H')→isN x=false→StR n H H' (Option.some x) (Option.some y)
section
variable {n b m c L q j lim:Nat} {H H':Hp} {w w':W} {xs ys vs zs tds cds:List V} {T T':List String} {Z:Prop} {x y B pv:V} {nm bs:String} {ns:List String} {F F2:List String→V→V→Prop} {st:Option V} {C:Calls}
theorem stepw (h:∀ x,st=some x→Wf n b F x∧isN x=false) {r:Nat} (W':Wd H w) (hb:w.ns.length+(b+r)≤room) (k:∀ {sty:Option V} {w':W} {H':Hp},StR n H H' st sty→(∀ y∈sty.toList,nS y)→sty.toList.length≤1→Wd H' w'→w'.ns.length+r≤room→St1 b w H w' H'→(∀ {T:List String},w'.ns<+:T→T.Nodup→St2 (F T) st sty)→Z):Z:=by
 cases st with
 | none=>exact k (sty:=none) (.none rfl) (fun _ h=>nomatch h) (Nat.zero_le _) W' (Nat.le_trans (Nat.add_le_add_left (Nat.le_add_left r b) _) hb) ((St1.refl W').up (Nat.zero_le _)) fun _ _ => .none
 | some x=>exact (h x rfl).1 W' (wn_room hb (Nat.le_add_right b r)) fun {y _ _} e ny s f=>k (sty:=some y) (.some e (h x rfl).2) (List.forall_mem_singleton.mpr ny) (Nat.le_refl _) s.wd (s.bd hb) s fun p q => .some (f p q)
theorem bnd_l {z:V} {o:Option V}:z::y::o.toList=bnd z y o:=by cases o <;> rfl
theorem st_at {sty:Option V} (ha:∀ x,st=some x→atm x=true) (h:St2 (Gd m c L T ns) st sty):St2 (At2 T ns) st sty:=by
 cases h with
 | none=>exact .none
 | some h=>exact .some (h.at2 (ha _ rfl))
variable (hb1:1≤b) (hc:32≤c)
include hb1 hc
theorem wf_do (hnm:nm∈["x", "turn", "kept"]) (hbs:bs∈["y", "begin"]) (hlim:lim≤4) (hi:Wn q n b c L ns x) (ha:atm x=true) (hst:∀ x,st=some x→Wn q n b c L ((ns.filter fun o => !(o == nm))++[bs]) x∧atm x=true∧isN x=false) (htd:∀ x∈tds,Wn q n b c L ((ns.filter fun o => !(o == nm))++[bs]) x) (htl:tds.length≤2) (hcd:∀ x∈cds,Wn q n b c L ((ns.filter fun o => !(o == nm))++[bs]) x) (hcl:cds.length≤1):Wn (q+40) (n+10) (100*b) (100*c) (L+4) ns (doT nm bs lim x st tds cds):=Wn.of fun {H w} W' hb {Z} k=>by
 have l:3+(3+(b+(b+(3+(2+(2*b+(2+(1*b+(1+(3+0))))))))))≤100*b:=bud (bsum (b1 (k:=3) hb1) (bsum (b1 (k:=3) hb1) (bsum b0 (bsum b0 (bsum (b1 (k:=3) hb1) (bsum (b1 (k:=2) hb1) (bsum (Nat.le_refl _) (bsum (b1 (k:=2) hb1) (bsum (Nat.le_refl _) (b1 (k:=4) hb1)))))))))) (by decide)
 have fx:nm≠bs∧nm∈X0∧bs∈NS0:=(by decide:∀ nm∈["x", "turn", "kept"],∀ bs∈["y", "begin"],nm≠bs∧nm∈X0∧bs∈NS0) nm hnm bs hbs
 refine list_r [] [.s "plus",.s nm,.v (.int 1)] nv0 (poks (poks (pokv rfl pok0))) (Nat.le_of_ble_eq_true rfl) W' (wn_room hb l) fun {za _ Ha} ea Wa h1 sa ra=>list_r [] [.s nm,.v (.int 0),.v (mk za .empty)] nv0 (poks (pokv rfl (pokv nS_mk pok0))) (Nat.le_of_ble_eq_true rfl) Wa h1 fun {zb _ Hb} eb Wb h2 sb rb=>hi Wb (wn_room h2 (Nat.le_add_right _ _)) fun {iy _ Hi} ei ni si fi=>stepw (fun x h=>⟨(hst x h).1,(hst x h).2.2⟩) si.wd (si.bd h2) fun {sty _ Hs} es nn sl Ws h3 ss fs=>list_r [] [.s "less",.s nm,.v (.int lim)] nv0 (poks (poks (pokv rfl pok0))) (Nat.le_of_ble_eq_true rfl) Ws h3 fun {zc _ Hc} ec Wc h4 sc rc=>list_r [] [.s "not",.v (mk zc .empty)] nv0 (poks (pokv nS_mk pok0)) (Nat.le_of_ble_eq_true rfl) Wc h4 fun {zd _ Hd} ed Wd' h5 sd rd=>data_w (pv := .lst tds) htd rfl Wd' (Nat.le_trans (Nat.add_le_add_left (Nat.le_trans (bx htl) (Nat.le_add_right _ _)) _) h5) fun {tdy _ Ht} et nt st' ft=>?_
 have st':=st'.up (bx htl)
 have h6:=st'.bd h5
 refine list_r [] [.s "say",.s nm] nv0 (poks (poks pok0)) (Nat.le_of_ble_eq_true rfl) st'.wd h6 fun {ze _ He} ee We h7 se re=>data_w (pv := .lst cds) hcd rfl We (Nat.le_trans (Nat.add_le_add_left (Nat.le_trans (Nat.mul_le_mul_right b hcl) (Nat.le_add_right _ _)) _) h7) fun {cdy _ Hk} ek nk sk fk=>?_
 have sk:=sk.up (Nat.mul_le_mul_right b hcl)
 have h8:=sk.bd h7
 have tl:tdy.length≤2:=(ft (List.prefix_refl _) st'.wd.nd).len▸htl
 have cl:cdy.length≤1:=(fk (List.prefix_refl _) sk.wd.nd).len▸hcl
 refine list_r (iy::sty.toList) [.s bs] (List.forall_mem_cons.mpr ⟨ni,nn⟩) (poks pok0) (Nat.le_trans (Nat.add_le_add_left (Nat.succ_le_succ sl) 1) (by decide)) sk.wd h8 fun {zf _ Hf} ef Wf' h9 sf rf=>list_r (mk ze .empty::cdy) [.s "do",.v (mk [mk zb .empty,mk zf .empty] .empty),.v (mk (mk zd .empty::tdy) .empty)] (List.forall_mem_cons.mpr ⟨nS_mk,nk⟩) (poks (pokv nS_mk (pokv nS_mk pok0))) (Nat.le_trans (Nat.add_le_add_left (Nat.succ_le_succ cl) 3) (by decide)) Wf' h9 fun {zg _ Hg} eg Wg _ sg rg=>?_
 have eh:=row0 (H:=Hf) (vs:=mk zd .empty::tdy) (List.forall_mem_cons.mpr ⟨nS_mk,nt⟩) (Nat.le_trans (Nat.succ_le_succ tl) (by decide))
 refine k (wf_via (.inr (.inr ⟨rfl,rfl⟩)) (?_:R (n+7) .law_do_datum [.ref 6,doT nm bs lim x st tds cds] H (mk zg .empty,Hg))) (upq (q:=n) (a:=9) (b:=10) rfl) ((sa.trans (sb.trans (si.trans (ss.trans (sc.trans (sd.trans (st'.trans (se.trans (sk.trans (sf.trans sg)))))))))).up l) fun {T} p q'=>?_
 ·have bt:(1:Nat)+tdy.length≤room:=Nat.le_trans (Nat.add_le_add_left tl 1) (rm rfl)
  have bc:(1:Nat)+cdy.length≤room:=Nat.le_trans (Nat.add_le_add_left cl 1) (rm rfl)
  have bd:(3:Nat)+(mk ze .empty::cdy).length≤room:=Nat.le_trans (Nat.add_le_add_left (Nat.succ_le_succ cl) 3) (rm rfl)
  cases es with
  | none e=>cases e; exact R.of (m:=n+5) (fun C hC=>[hC.a ea (lkq (q:=n) (b:=6) rfl),hC.a eb (lkq (q:=n) (b:=6) rfl),.cc (hC.r (ei.up (j:=6))),.cm (isn (H:=Hi) (v := .none)),hC.a ec (lkq (q:=n) (b:=6) rfl),hC.a ed (lkq (q:=n) (b:=6) rfl),.cc (hC.r (et.up (j:=4))),.bi (H:=Ht) (addl (ps:=[mk zd .empty]) bt),hC.a ee (lkq (q:=n) (b:=6) rfl),.cc (hC.r (ek.up (j:=4))),.bi (H:=Hk) (addl (ps:=[mk ze .empty]) bc),hC.a ef (lkq (q:=n) (b:=6) rfl),hC.a (list_eq (H:=Hf) (xs:=[mk zb .empty,mk zf .empty]) (t := .empty) (rm rfl)) (lkq (q:=n) (b:=6) rfl),hC.a eh (lkq (q:=n) (b:=6) rfl),.bi (H:=Hf) (addl (ps:=[.str "do",mk [mk zb .empty,mk zf .empty] .empty,mk (mk zd .empty::tdy) .empty]) bd),hC.a eg (lkq (q:=n) (b:=6) rfl)]) fun _ _=>by kernel_rfl
  | some e hn=>exact R.of (m:=n+5) (fun C hC=>[hC.a ea (lkq (q:=n) (b:=6) rfl),hC.a eb (lkq (q:=n) (b:=6) rfl),.cc (hC.r (ei.up (j:=6))),.cm (isnF (H:=Hi) hn),.cc (hC.r (e.up (j:=6))),hC.a ec (lkq (q:=n) (b:=6) rfl),hC.a ed (lkq (q:=n) (b:=6) rfl),.cc (hC.r (et.up (j:=4))),.bi (H:=Ht) (addl (ps:=[mk zd .empty]) bt),hC.a ee (lkq (q:=n) (b:=6) rfl),.cc (hC.r (ek.up (j:=4))),.bi (H:=Hk) (addl (ps:=[mk ze .empty]) bc),hC.a ef (lkq (q:=n) (b:=6) rfl),hC.a (list_eq (H:=Hf) (xs:=[mk zb .empty,mk zf .empty]) (t := .empty) (rm rfl)) (lkq (q:=n) (b:=6) rfl),hC.a eh (lkq (q:=n) (b:=6) rfl),.bi (H:=Hf) (addl (ps:=[.str "do",mk [mk zb .empty,mk zf .empty] .empty,mk (mk zd .empty::tdy) .empty]) bd),hC.a eg (lkq (q:=n) (b:=6) rfl)]) fun _ _=>by kernel_rfl
 ·have pf:=sg.ns.trans p
  have pk:=sf.ns.trans pf
  have pe:=sk.ns.trans pk
  have pt:=se.ns.trans pe
  have pd:=st'.ns.trans pt
  have pc:=sd.ns.trans pd
  have ps:=sc.ns.trans pc
  have pi:=ss.ns.trans ps
  have pb:=si.ns.trans pi
  refine rg p q' (D:=fun z=>Gd _ _ _ T ns _ (mk z .empty)) fun hs=>rf pf q' (D:=fun z=>Gd _ _ _ T ns _ (mk (_::mk [mk zb .empty,mk z .empty] .empty::_) .empty)) fun hb=>re pe q' (D:=fun z=>Gd _ _ _ T ns _ (mk (_::_::_::mk z .empty::_) .empty)) fun {_} h4 {_} h4'=>rd pd q' (D:=fun z=>Gd _ _ _ T ns _ (mk (_::_::mk (mk z .empty::_) .empty::_) .empty)) fun h3=>rc pc q' (D:=fun z=>Gd _ _ _ T ns _ (mk (_::_::mk (mk [_,mk z .empty] .empty::_) .empty::_) .empty)) fun {_} h2 {_} h2'=>rb pb q' (D:=fun z=>Gd _ _ _ T ns _ (mk (_::mk [mk z .empty,_] .empty::_) .empty)) fun hz=>ra (sb.ns.trans pb) q' (D:=fun z=>Gd _ _ _ T ns _ (mk (_::mk [mk [_,.int 0,mk z .empty] .empty,_] .empty::_) .empty)) fun {_} h1 {_} h1'=>?_
  cases Sy.u2 q' h4' hz
  cases Sy.u2 q' h2' hz
  cases Sy.u2 q' h1' hz
  rw [bnd_l]
  cases hz with
  | mk g=>
   cases hb with
   | mk g2=>exact Gd.of rfl (hd_of (t := "do") hs (.inr (by decide)) (by decide)) (fun am hL hN=>sm_do Gd.S hc hL g g2 fx.1 fx.2.1 fx.2.2 hlim h2 h3 h1 h4 (st_at (fun x e=>(hst x e).2.1) (fs ps q')) (ft pt q') htl (fk pk q') hcl am hN hs ((fi pi q').at2 ha)) (by decide) (upq rfl)
end
noncomputable abbrev dk (ds:List Int) (H0:Hp):Hp:=AO.list (ds.map .int)::H0
noncomputable def Mf (n:Nat) (f:Fn) (as:List V) (Q:V→Prop):Prop:=∀ (H0:Hp) {ds:List Int},ds.length≤12→∀ {Z:Prop},(∀ {v:V} {ds':List Int},R n f (.ref 0::as) (dk ds H0) (v,dk ds' H0)→ds'.length≤12→Q v→Z)→Z
section
variable {n m k b c L q:Nat} {C:Calls} {H H' H0:Hp} {ds ds':List Int} {xs ys vs:List V} {Z:Prop} {x y:V} {t:String} {ns:List String} {W:V→Prop}
theorem Mf.le {n':Nat} {f:Fn} {as:List V} {Q:V→Prop} (h:Mf n f as Q) (l:n≤n'):Mf n' f as Q:=fun H0 _ hd _ k=>h H0 hd fun e=>k (e.le l)
theorem dk_ne:cmpV (dk ds H0) .ne (.ref 0) (.lst [])=some (.bool (!(decide (ds=[])))):=by
 have e:eqL (ds.map .int) []=some (decide (ds=[])):=by unfold eqL; rw [ints_map]; rfl
 exact mi e
theorem dk_eq:cmpV (dk ds H0) .eq (.ref 0) (.lst [])=some (.bool (decide (ds=[]))):=by
 have e:eqL (ds.map .int) []=some (decide (ds=[])):=by unfold eqL; rw [ints_map]; rfl
 exact mi e
noncomputable def dz (ds:List Int):List Int:=ds.rec [] fun d r ih=>match d == 0 with | true=>ih | false=>d::r
theorem dz_len:∀ (ds:List Int),(dz ds).length≤ds.length
 | []=>Nat.le_refl _
 | d::r=>by
  show (match d == 0 with | true=>dz r | false=>d::r).length≤_
  cases d == 0 with
  | true=>exact Nat.le_succ_of_le (dz_len r)
  | false=>exact Nat.le_refl _
theorem draw_loop {kk:Int} (hC:Has m C):∀ (ds:List Int),ex C (st .law_draw 0) ([.v (.ref 0),.v (.int kk),.undef],dk ds H0)=some (.next,[.v (.ref 0),.v (.int kk),.undef],dk (dz ds) H0)
 | []=>wh_x (x:=st .law_draw 0) (wh_f (H1:=dk [] H0) (hC.e [.cm (H:=dk [] H0) (dk_ne (ds:=[]))] (by kernel_rfl))) rfl
 | d::r=>by
  have ix:idxV (dk (d::r) H0) (.ref 0) (.int 0)=some (.int d):=h_ix0 (xs:=r.map .int) rfl
  have cz:cmpV (dk (d::r) H0) .eq (.int d) (.int 0)=some (.bool (d == 0)):=rfl
  have ne:=dk_ne (ds:=d::r) (H0:=H0)
  show ex C (st .law_draw 0) ([.v (.ref 0),.v (.int kk),.undef],dk (d::r) H0)=some (.next,[.v (.ref 0),.v (.int kk),.undef],dk (match d == 0 with | true=>dz r | false=>d::r) H0)
  cases e:d == 0 with
  | true=>
   rw [e] at cz
   have pp:popV (dk (d::r) H0) (.ref 0)=some (.int d,dk r H0):=rfl
   exact wh_x (x:=st .law_draw 0) (wh_t (H1:=dk (d::r) H0) (s:=([.v (.ref 0),.v (.int kk),.undef],dk r H0)) (hC.e [.cm ne,.ix ix,.cm cz] (by kernel_rfl)) (hC.s [.pp pp] (by kernel_rfl)) (draw_loop hC r)) rfl
  | false=>
   rw [e] at cz
   exact wh_x (x:=st .law_draw 0) (wh_f (H1:=dk (d::r) H0) (hC.e [.cm ne,.ix ix,.cm cz] (by kernel_rfl))) rfl
theorem draw {kk:Int} (hk:0 < kk) (hk2:kk < 1000):Mf 3 .law_draw [.int kk] (fun v=>∃ r:Nat,(r:Int) < kk∧v = .int r):=fun H0 {ds} hd {Z} k=>by
 have hd:=Nat.le_trans (dz_len ds) hd
 have lp:∀ C,Has 2 C→_:=fun C (hC:Has 2 C)=>draw_loop (kk:=kk) (H0:=H0) hC ds
 generalize dz ds=ds at hd lp
 cases ds with
 | nil=>exact k (ds':=[]) (v := .int 0) (R.of (m:=1) (fun C hC=>[.cs (lp C hC),.cm (dk_eq (ds:=[]) (H0:=H0))]) fun _ _=>by kernel_rfl) hd ⟨0,hk,rfl⟩
 | cons d r=>
  have ix:idxV (dk (d::r) H0) (.ref 0) (.int 0)=some (.int d):=h_ix0 (xs:=r.map .int) rfl
  have b1:binV (dk (d::r) H0) .mod (.int d) (.int kk)=some (.int (d.fmod kk)):=mi (if_pos (decide_eq_true hk))
  have b2:binV (dk (d::r) H0) .div (.int d) (.int kk)=some (.int (d.fdiv kk)):=mi (if_pos (decide_eq_true ⟨hk,Int.lt_trans hk2 (by decide)⟩))
  have s:setV (dk (d::r) H0) (.ref 0) (.int 0) (.int (d.fdiv kk))=some (dk (d.fdiv kk::r) H0):=h_st0 (u := .int d) (xs:=r.map .int) rfl (Nat.le_trans (Nat.succ_le_succ (Nat.le_trans (Nat.le_of_eq (List.length_map _)) (Nat.le_of_succ_le hd))) (rm rfl))
  exact k (ds':=d.fdiv kk::r) (v := .int (d.fmod kk)) (R.of (m:=1) (fun C hC=>[.cs (lp C hC),.cm (dk_eq (ds:=d::r) (H0:=H0)),.ix ix,.bi b1,.ix ix,.bi b2,.st s]) fun _ _=>by kernel_rfl) hd ⟨(d.fmod kk).toNat,by rw [Int.toNat_of_nonneg (Int.fmod_nonneg_of_pos _ hk)]; exact Int.fmod_lt_of_pos _ hk,by rw [Int.toNat_of_nonneg (Int.fmod_nonneg_of_pos _ hk)]⟩
end
noncomputable def Fa (C:Nat→Prop) (n:Nat):Prop:=n.rec True fun n ih=>ih∧C n
theorem fa {C:Nat→Prop}:∀ {n:Nat},Fa C n→∀ {r:Nat},(r:Int) < n→C r
 | 0,_,r,h=>absurd h (Int.not_lt.mpr (Int.natCast_nonneg r))
 | n+1,h,r,l=>by
  rcases Nat.lt_or_eq_of_le (Nat.le_of_lt_succ (Int.ofNat_lt.mp l)) with c | c
  ·exact fa h.1 (Int.ofNat_lt.mpr c)
  ·exact c▸h.2
section
variable {n m k b c L q:Nat} {C:Calls} {H H' H0:Hp} {ds ds':List Int} {xs ys vs is:List V} {Z:Prop} {x y nv dv:V} {t:String} {ns:List String} {W:V→Prop} {kk:Int}
theorem strs_at {ts:List String} {r:Nat} (h:(r:Int) < ts.length):∃ t,t∈ts∧(ts.map V.str)[r]?=some (.str t):=
 have h:=Int.ofNat_lt.mp h
 ⟨ts[r],List.getElem_mem h,by rw [List.getElem?_map,List.getElem?_eq_getElem h]; rfl⟩
theorem name_m:Mf 5 .law_name [] (fun v=>∃ t,t∈binds∧v = .str t):=fun H0 {ds} hd {Z} k=>draw (kk:=7) (by decide) (by decide) H0 hd fun {v ds1} e hd' ⟨r,hr,ev⟩=>by
 subst ev
 obtain ⟨t,ht,g⟩:=strs_at (ts:=binds) hr
 exact k (R.of (m:=3) (fun C h=>[h.a e,.ix (H:=dk ds1 H0) (idx_nat (xs:=binds.map V.str) g (rm rfl))]) fun _ _=>by kernel_rfl) hd' ⟨t,ht,rfl⟩
theorem upTo_le:∀ {n a:Nat},(upTo a n).length=n
 | 0,_=>rfl
 | _+1,_=>congrArg (·+1) upTo_le
noncomputable abbrev mdE:E := .call .law_made (es [.v 0,.v 1,.v 2]) []
theorem row_m (hM:Mf n .law_made [nv,dv] W) (is:List V):∀ {ds:List Int},ds.length≤12→(∀ {xs:List V} {ds':List Int},(∀ {C:Calls},Has n C→evComp C [.v (.ref 0),.v nv,.v dv,.v (.int kk),.undef] [4] mdE (.k (.bool true)) is (dk ds H0)=some (xs,dk ds' H0))→ds'.length≤12→(∀ x∈xs,W x)→xs.length=is.length→Z)→Z:=by
 induction is with
 | nil=>exact fun {ds} hd k=>k (fun {_} _=>rfl) hd (fun _ h=>nomatch h) rfl
 | cons i is ih=>exact fun {ds} hd k=>hM H0 hd fun {x ds1} e1 hd1 w1=>ih hd1 fun e2 hd2 w2 l2=>k (fun {C} hC=>cp_c (ρ':=[.v (.ref 0),.v nv,.v dv,.v (.int kk),.v i]) rfl (hC.e [hC.a e1 (Nat.le_refl _)] (by kernel_rfl)) (e2 hC) rfl) hd2 (List.forall_mem_cons.mpr ⟨w1,w2⟩) (congrArg (·+1) l2)
noncomputable def Rwd (W:V→Prop) (kk:Int) (v:V):Prop:=∃ xs,v = .lst xs∧(∀ x∈xs,W x)∧1≤xs.length∧(xs.length:Int)≤kk
theorem some_m (hM:Mf n .law_made [nv,dv] W) (hk:0 < kk) (hk2:kk < 1000):Mf (n+5) .law_some [nv,dv,.int kk] (Rwd W kk):=fun H0 {ds} hd {Z} k=>draw hk hk2 H0 hd fun {v ds1} e hd1 ⟨r,hr,ev⟩=>by
 subst ev
 refine row_m (H0:=H0) (kk:=kk) hM (upTo 0 (1+r)) hd1 fun {xs ds2} e2 hd2 w l=>?_
 have l:xs.length=1+r:=l.trans upTo_le
 have hr':(1:Int)+r≤kk:=Int.add_comm 1 r▸hr
 refine k (R.of (m:=n+3) (fun C hC=>[.ce (H:=dk ds H0) (ρ:=[.v (.ref 0),.v nv,.v dv,.v (.int kk),.undef]) (e := .comp false [4] mdE (.range1 (.bin false .add (.k (.int 1)) (.call .law_draw (es [.v 0,.v 3]) []))) (.k (.bool true))) (cp_i (it_1 (n:=1+r) (hC.e [hC.a e (lkq (q:=n) (b:=4) rfl)] (by kernel_rfl)) ⟨Int.le_trans (by decide) (Int.natCast_nonneg (1+r)),Int.le_trans hr' (Int.le_of_lt (Int.lt_trans hk2 (by decide)))⟩) (e2 ⟨fun h=>hC.r (h.le (Nat.le_add_right n 4)),hC.n⟩))]) fun _ _=>by kernel_rfl) hd2 ⟨xs,rfl,w,l▸Nat.le_add_right 1 r,l▸hr'⟩
end
structure A0 (ns:List String) (x:V):Prop where
 a:atm x=true
 n:isN x=false
 w:∀ {q n b c L:Nat},1≤b→Wn q (n+4) b c L ns x
noncomputable abbrev nm (t:String):V := .tup [.str "name",.str t]
noncomputable abbrev six:List V:=[.int 0,.int 1,.int 2,.int 3,.bool true,.bool false]
section
variable {n m k b c L q d:Nat} {C:Calls} {H H' H0:Hp} {ds ds':List Int} {xs ys vs is:List V} {Z:Prop} {x y nv dv:V} {t:String} {ns ts:List String} {W:V→Prop} {kk:Int} {ρ:List Sl}
theorem A0.int {i:Int} (h:0≤i) (h2:i < 7):A0 ns (.int i):=⟨rfl,rfl,fun _=>wf_int h h2⟩
theorem A0.bool {z:Bool}:A0 ns (.bool z):=⟨rfl,rfl,fun _=>wf_bool⟩
theorem a0_all (hs:∀ t∈ns,t∈NS0) (ht:∀ t∈ts,t∈ns):∀ x∈six++ts.map nm,A0 ns x:=List.forall_mem_append.mpr ⟨List.forall_mem_cons.mpr ⟨.int (by decide) (by decide),List.forall_mem_cons.mpr ⟨.int (by decide) (by decide),List.forall_mem_cons.mpr ⟨.int (by decide) (by decide),List.forall_mem_cons.mpr ⟨.int (by decide) (by decide),List.forall_mem_cons.mpr ⟨.bool,List.forall_mem_singleton.mpr .bool⟩⟩⟩⟩⟩,List.forall_mem_map.mpr fun t h=>⟨rfl,rfl,fun hb=>wf_name hb (ht t h) hs⟩⟩
theorem nm_row {a0 a1 a2 a3 a4 a5:Sl}:∀ {ts:List String},evComp C [a0,a1,a2,a3,a4,a5] [5] (.tup (es [.k (.str "name"),.v 5])) (.k (.bool true)) (ts.map .str) H=some (ts.map nm,H)
 | []=>rfl
 | t::ts=>cp_c (ρ':=[a0,a1,a2,a3,a4,.v (.str t)]) rfl rfl nm_row rfl
noncomputable def lst3 (ns:List String):List String:=ns.drop ((-3:Int)+(ns.map V.str).length).toNat
theorem sl3:slV (.lst (ns.map .str)) (.int (-3)) .none=some (.lst ((lst3 ns).map .str)):=congrArg (fun l=>some (V.lst l)) List.map_drop.symm
theorem sub_at {r n:Nat} (h:r < n):n - 1 - r < n∧(n:Int) - 1 - r=((n - 1 - r:Nat):Int):=by
 obtain ⟨k,rfl⟩:=Nat.exists_eq_add_of_lt h
 have e:r+k+1 - 1 - r=k:=Nat.add_sub_cancel_left r k
 rw [e]
 exact ⟨Nat.lt_succ_of_le (Nat.le_add_left _ _),(congrArg (· - (r:Int)) (i1s (k:=r+k))).trans (show (r:Int)+k - r=k by rw [Int.add_comm,Int.add_sub_cancel])⟩
theorem at_of {xs:List V} {r:Nat} (hr:(r:Int) < xs.length) (hl:xs.length≤200):∃ x,x∈xs∧∀ {H:Hp},idxV H (.lst xs) (.int ((xs.length:Int) - 1 - r))=some x:=by
 obtain ⟨h,h2⟩:=sub_at (Int.ofNat_lt.mp hr)
 refine ⟨xs[xs.length - 1 - r]'h,List.getElem_mem h,fun {H}=>?_⟩
 rw [h2]
 exact idx_nat (List.getElem?_eq_getElem h) (Nat.le_trans hl (rm rfl))
theorem at_ce (hC:Has m C) {a0 a2 a3 a4 a5:Sl}:ev C [a0,.v (.lst (ns.map .str)),a2,a3,a4,a5] (.comp false [5] (.tup (es [.k (.str "name"),.v 5])) (.e (.sl true (.v 1) (.k (.int (-3))) (.k .none))) (.k (.bool true))) H=some (.lst ((lst3 ns).map nm),H):=cp_i (hC.i [⟨.sl (.lst (ns.map .str)) (.int (-3)) .none,.v (.lst ((lst3 ns).map .str)),sl3⟩] (by kernel_rfl)) nm_row
noncomputable def atf {ds0 ds1:List Int} {w r:Nat} (e0:R 3 .law_draw [.ref 0,.int 14] (dk ds0 H0) (.int w,dk ds H0)) (bl:binV (dk ds H0) .add (.lst six) (.lst ((lst3 ns).map nm))=some (.lst (six++(lst3 ns).map nm))) (e:R 3 .law_draw [.ref 0,.int (six++(lst3 ns).map nm).length] (dk ds H0) (.int r,dk ds1 H0)) (ix:∀ {H:Hp},idxV H (.lst (six++(lst3 ns).map nm)) (.int (((six++(lst3 ns).map nm).length:Int) - 1 - r))=some x) (C:Calls) (h:Has 4 C):List (Ans C):=[h.a e0,.ce (at_ce (ns:=ns) (H:=dk ds H0) (a0 := .v (.ref 0)) (a2 := .v dv) (a3 := .v (.int w)) (a4 := .undef) (a5 := .undef) h),.bi bl,.b1 (H:=dk ds H0) (o := .len) (x := .lst (six++(lst3 ns).map nm)) rfl,.bi (H:=dk ds H0) (o := .sub) (x := .int (six++(lst3 ns).map nm).length) (y := .int 1) rfl,.b1 (H:=dk ds H0) (o := .len) (x := .lst (six++(lst3 ns).map nm)) rfl,h.a e,.bi (H:=dk ds1 H0) (o := .sub) (x := .int ((six++(lst3 ns).map nm).length - 1)) (y := .int r) rfl,.ix (H:=dk ds1 H0) ix]
theorem atom_w (hs:∀ t∈ns,t∈NS0) (hl:ns.length≤100) {w:Nat} {ds0:List Int} (hw:dv = .int 0∨dv = .int (d+1:Nat)∧w=0) (e0:R 3 .law_draw [.ref 0,.int 14] (dk ds0 H0) (.int w,dk ds H0)) (hd:ds.length≤12) (k:∀ {x:V} {ds':List Int},R 5 .law_made [.ref 0,.lst (ns.map .str),dv] (dk ds0 H0) (x,dk ds' H0)→ds'.length≤12→A0 ns x→Z):Z:=by
 have l3:(lst3 ns).length≤100:=Nat.le_trans (by unfold lst3; rw [List.length_drop]; exact Nat.sub_le _ _) hl
 have ln:(six++(lst3 ns).map nm).length≤200:=by rw [List.length_append,List.length_map]; exact Nat.le_trans (Nat.add_le_add_left l3 6) (by decide)
 refine draw (kk:=((six++(lst3 ns).map nm).length:Nat)) (Int.ofNat_lt.mpr (by rw [List.length_append]; exact Nat.le_trans (by decide) (Nat.le_add_right 6 _))) (Int.ofNat_lt.mpr (Nat.lt_of_le_of_lt ln (by decide))) H0 hd fun {v ds1} e hd1 ⟨r,hr,ev⟩=>?_
 subst ev
 obtain ⟨x,hx,ix⟩:=at_of (xs:=six++(lst3 ns).map nm) hr ln
 refine k (x:=x) ?_ hd1 (a0_all hs (fun t h=>List.mem_of_mem_drop h) x hx)
 have bl:=addl (H:=dk ds H0) (ps:=six) (xs:=(lst3 ns).map nm) (by rw [List.length_map]; exact Nat.le_trans (Nat.add_le_add_left l3 6) (rm rfl))
 rcases hw with rfl | ⟨rfl,rfl⟩
 ·exact R.of (m:=3) (atf (dv := .int 0) e0 bl e ix) fun _ _=>by kernel_rfl
 ·exact R.of (m:=3) (atf (dv := .int (d+1:Nat)) e0 bl e ix) fun _ _=>by kernel_rfl
end
structure Oj (ns:List String) (j:Nat):Prop where
 s:∀ t∈ns,t∈NS0
 l:ns.length≤j
noncomputable abbrev nsV (ns:List String):V := .lst (ns.map .str)
structure IH (m d j:Nat) (W:List String→V→Prop):Prop where
 i:∀ {ns:List String},Oj ns j→Mf m .law_made [nsV ns,.int d] (W ns)
 a:∀ {ns:List String},Oj ns j→Mf m .law_made [nsV ns,.int 0] (A0 ns)
section
variable {n m k b c L q d j:Nat} {C:Calls} {H H' H0:Hp} {ds ds':List Int} {xs ys vs is ps:List V} {Z:Prop} {x y nv dv:V} {t t2 wd:String} {ns ts own:List String} {W:List String→V→Prop} {kk:Int} {ρ:List Sl}
theorem Oj.snoc (o:Oj ns j) (h:t∈binds):Oj (ns++[t]) (j+1):=⟨List.forall_mem_append.mpr ⟨o.s,List.forall_mem_singleton.mpr (binds_NS0 t h)⟩,by rw [List.length_append]; exact Nat.succ_le_succ o.l⟩
theorem Oj.up {j':Nat} (o:Oj ns j) (h:j≤j'):Oj ns j':=⟨o.s,Nat.le_trans o.l h⟩
theorem sub1:binV H .sub (.int (d+1:Nat)) (.int 1)=some (.int d):=congrArg (fun i=>some (V.int i)) (Int.add_sub_cancel d 1)
theorem addn (h:ns.length+own.length≤1000):binV H .add (nsV ns) (nsV own)=some (nsV (ns++own)):=(addl (by rw [List.length_map,List.length_map]; exact Nat.le_trans h (rm rfl))).trans (congrArg (fun l=>some (V.lst l)) List.map_append.symm)
theorem add0 (h:ns.length≤1000):binV H .add (nsV ns) (.lst [])=some (nsV ns):=(addl (by rw [List.length_map]; exact Nat.le_trans h (rm rfl))).trans (congrArg (fun l=>some (V.lst l)) (List.append_nil _))
theorem strs_map:∀ {l:List String},strs? (l.map .str)=some l
 | []=>rfl
 | _::_=>mi strs_map
theorem in_of {z:Bool} (h:own.contains t=z):inV H (.str t) (nsV own)=some z:=(mi strs_map).trans (congrArg some h)
theorem not_in {z:Bool} (h:own.contains t=z):cmpV H .notIn (.str t) (nsV own)=some (.bool !z):=congrArg (Option.map fun x=>V.bool !x) (in_of h)
theorem is_in {z:Bool} (h:own.contains t=z):cmpV H .isIn (.str t) (nsV own)=some (.bool z):=congrArg (Option.map V.bool) (in_of h)
noncomputable def rg {C:Calls} (r:Nat) (h:r≤1000):Ans C := .r1 (n:=r) ⟨Int.le_trans (by decide) (Int.natCast_nonneg r),Int.ofNat_le.mpr (Nat.le_trans h (rm rfl))⟩
noncomputable def btf {H1 H2:Hp} {add:V} (av:V) (e1:R 5 .law_name [.ref 0] H (.str t,H1)) (a:binV H1 .add (nsV ns) add=some av) (e2:R m .law_made [.ref 0,av,.int d] H1 (x,H2)) (l1:ps.length≤room) (l2:own.length≤room) (C:Calls) (h:Has (m+6) C):List (Ans C):=[.bi a,.bi (H:=H1) (sub1 (d:=d)),.cc (h.r (e2.up (j:=6))),.ln l1,.ln (xs:=own.map .str) (by rw [List.length_map]; exact l2)]
variable (o:Oj ns j) (hj:j≤100)
include o hj
theorem bound_m (ih:IH m d (j+2) (Wn q (n+4) b c L)) (hb1:1≤b) (hc:32≤c) (w:Nat) (hw:w=7∨w=8):Mf (m+7) .law_bound [nsV ns,.int (d+1:Nat),.int w] (Wn (q+40) (n+14) (100*b) (100*c) (L+4) ns):=fun H0 {ds} hd {Z} k=>draw (kk:=3) (by decide) (by decide) H0 hd fun {v ds1} e0 hd1 ⟨r,hr,ev⟩=>by
 subst ev
 have nl:ns.length≤1000:=Nat.le_trans o.l (Nat.le_trans hj (by decide))
 have o2:=o.up (Nat.le_add_right j 2)
 refine fa (n:=3) (C:=fun r=>R 3 .law_draw [.ref 0,.int 3] (dk ds H0) (.int r,dk ds1 H0)→Z) ⟨⟨⟨trivial,fun e0=>?_⟩,fun e0=>?_⟩,fun e0=>?_⟩ hr e0
 ·exact some_m (ih.i o2) (kk:=2) (by decide) (by decide) H0 hd1 fun e1 hd2 ⟨xs,ev,hx,h1,h2⟩=>by
   subst ev
   have h2:=Int.ofNat_le.mp h2
   have a:=addn (H:=dk ds1 H0) (ns:=ns) (own:=[]) nl
   rw [List.append_nil] at a
   have fin:∀ {wd:String},wd = "let"∨wd = "let*"→Wn (q+40) (n+14) (100*b) (100*c) (L+4) ns (.tup [.str wd,.lst [],.lst xs]):=fun h=>wf_let0 hb1 hc h1 h2 h hx
   rcases hw with rfl | rfl
   ·exact k (R.of (m:=m+5) (fun C h=>[h.a e0 (lkq (q:=m) (b:=6) rfl),rg 0 (by decide),.bi a,.bi (H:=dk ds1 H0) (sub1 (d:=d)),.cc (h.r (e1.up (j:=1)))]) fun _ _=>by kernel_rfl) hd2 (fin (.inl rfl))
   ·exact k (R.of (m:=m+5) (fun C h=>[h.a e0 (lkq (q:=m) (b:=6) rfl),rg 0 (by decide),.bi a,.bi (H:=dk ds1 H0) (sub1 (d:=d)),.cc (h.r (e1.up (j:=1)))]) fun _ _=>by kernel_rfl) hd2 (fin (.inr rfl))
 ·refine name_m H0 hd1 fun {v ds2} en hd2 ⟨t,ht,ev⟩=>?_
  subst ev
  refine ih.i o2 H0 hd2 fun {x ds3} ex hd3 wx=>some_m (ih.i ((o.snoc ht).up (Nat.le_succ _))) (kk:=2) (by decide) (by decide) H0 hd3 fun {v ds4} e1 hd4 ⟨xs,ev,hx,h1,h2⟩=>?_
  subst ev
  have h2:=Int.ofNat_le.mp h2
  have a:=addn (H:=dk ds3 H0) (ns:=ns) (own:=[t]) (Nat.le_trans (Nat.add_le_add_right (Nat.le_trans o.l hj) 1) (by decide))
  have fin:∀ {wd:String},wd = "let"∨wd = "let*"→Wn (q+40) (n+14) (100*b) (100*c) (L+4) ns (.tup [.str wd,.lst [.tup [.str t,x]],.lst xs]):=fun h=>wf_let1 hb1 hc h1 h2 h ht wx hx
  rcases hw with rfl | rfl
  ·exact k (R.of (m:=m+5) (fun C h=>[h.a e0 (lkq (q:=m) (b:=6) rfl),rg 1 (by decide),h.a en (lkq (q:=m) (b:=6) rfl),.cm (H:=dk ds2 H0) (not_in (t:=t) (own:=[]) rfl)]++btf (own:=[]) (ps:=[]) (nsV ns) en (add0 nl) ex (rm rfl) (rm rfl) C h++[.bi a,.bi (H:=dk ds3 H0) (sub1 (d:=d)),.cc (h.r (e1.up (j:=1)))]) fun _ _=>by kernel_rfl) hd4 (fin (.inl rfl))
  ·have a0:=addn (H:=dk ds2 H0) (ns:=ns) (own:=[]) nl
   rw [List.append_nil] at a0
   exact k (R.of (m:=m+5) (fun C h=>[h.a e0 (lkq (q:=m) (b:=6) rfl),rg 1 (by decide),h.a en (lkq (q:=m) (b:=6) rfl)]++btf (own:=[]) (ps:=[]) (nsV ns) en a0 ex (rm rfl) (rm rfl) C h++[.bi a,.bi (H:=dk ds3 H0) (sub1 (d:=d)),.cc (h.r (e1.up (j:=1)))]) fun _ _=>by kernel_rfl) hd4 (fin (.inr rfl))
 ·refine name_m H0 hd1 fun {v ds2} en hd2 ⟨t,ht,ev⟩=>?_
  subst ev
  refine ih.i o2 H0 hd2 fun {x ds3} ex hd3 wx=>name_m H0 hd3 fun {v ds4} en2 hd4 ⟨t2,ht2,ev⟩=>?_
  subst ev
  have ot:=o.snoc ht
  have a2:∀ {H:Hp},binV H .add (nsV ns) (nsV [t,t2])=some (nsV (ns++[t]++[t2])):=fun {H}=>List.append_assoc ns [t] [t2]▸addn (H:=H) (ns:=ns) (own:=[t,t2]) (Nat.le_trans (Nat.add_le_add_right (Nat.le_trans o.l hj) 2) (by decide))
  have a1:∀ {H:Hp},binV H .add (nsV ns) (nsV [t])=some (nsV (ns++[t])):=fun {H}=>addn (Nat.le_trans (Nat.add_le_add_right (Nat.le_trans o.l hj) 1) (by decide))
  rcases hw with rfl | rfl
  ·cases z:[t].contains t2 with
   | true=>
    refine some_m (ih.i (ot.up (Nat.le_succ _))) (kk:=2) (by decide) (by decide) H0 hd4 fun {v ds5} e1 hd5 ⟨xs,ev,hx,h1,h2⟩=>?_
    subst ev
    exact k (R.of (m:=m+5) (fun C h=>[h.a e0 (lkq (q:=m) (b:=6) rfl),rg 2 (by decide),h.a en (lkq (q:=m) (b:=6) rfl),.cm (H:=dk ds2 H0) (not_in (t:=t) (own:=[]) rfl)]++btf (own:=[]) (ps:=[]) (nsV ns) en (add0 nl) ex (rm rfl) (rm rfl) C h++[h.a en2 (lkq (q:=m) (b:=6) rfl),.cm (H:=dk ds4 H0) (not_in (own:=[t]) z),.bi (H:=dk ds4 H0) a1,.bi (H:=dk ds4 H0) (sub1 (d:=d)),.cc (h.r (e1.up (j:=1)))]) fun _ _=>by kernel_rfl) hd5 (wf_let1 hb1 hc h1 (Int.ofNat_le.mp h2) (.inl rfl) ht wx hx)
   | false=>
    refine ih.i o2 H0 hd4 fun {x2 ds5} ex2 hd5 wx2=>some_m (ih.i (ot.snoc ht2)) (kk:=2) (by decide) (by decide) H0 hd5 fun {v ds6} e1 hd6 ⟨xs,ev,hx,h1,h2⟩=>?_
    subst ev
    exact k (R.of (m:=m+5) (fun C h=>[h.a e0 (lkq (q:=m) (b:=6) rfl),rg 2 (by decide),h.a en (lkq (q:=m) (b:=6) rfl),.cm (H:=dk ds2 H0) (not_in (t:=t) (own:=[]) rfl)]++btf (own:=[]) (ps:=[]) (nsV ns) en (add0 nl) ex (rm rfl) (rm rfl) C h++[h.a en2 (lkq (q:=m) (b:=6) rfl),.cm (H:=dk ds4 H0) (not_in (own:=[t]) z)]++btf (own:=[t]) (ps:=[.tup [.str t,x]]) (nsV ns) en2 (add0 nl) ex2 (rm rfl) (rm rfl) C h++[.bi (H:=dk ds5 H0) a2,.bi (H:=dk ds5 H0) (sub1 (d:=d)),.cc (h.r (e1.up (j:=1)))]) fun _ _=>by kernel_rfl) hd6 (wf_let2 hb1 hc h1 (Int.ofNat_le.mp h2) ht ht2 (fun e=>nomatch z.symm.trans (List.contains_iff_mem.mpr (e ▸ .head _):[t].contains t2=true)) wx wx2 hx)
  ·refine ih.i (ot.up (Nat.le_succ _)) H0 hd4 fun {x2 ds5} ex2 hd5 wx2=>some_m (ih.i (ot.snoc ht2)) (kk:=2) (by decide) (by decide) H0 hd5 fun {v ds6} e1 hd6 ⟨xs,ev,hx,h1,h2⟩=>?_
   subst ev
   have a0:=addn (H:=dk ds2 H0) (ns:=ns) (own:=[]) nl
   rw [List.append_nil] at a0
   exact k (R.of (m:=m+5) (fun C h=>[h.a e0 (lkq (q:=m) (b:=6) rfl),rg 2 (by decide),h.a en (lkq (q:=m) (b:=6) rfl)]++btf (own:=[]) (ps:=[]) (nsV ns) en a0 ex (rm rfl) (rm rfl) C h++[h.a en2 (lkq (q:=m) (b:=6) rfl)]++btf (own:=[t]) (ps:=[.tup [.str t,x]]) (nsV (ns++[t])) en2 a1 ex2 (rm rfl) (rm rfl) C h++[.bi (H:=dk ds5 H0) a2,.bi (H:=dk ds5 H0) (sub1 (d:=d)),.cc (h.r (e1.up (j:=1)))]) fun _ _=>by kernel_rfl) hd6 (wf_star2 hb1 hc h1 (Int.ofNat_le.mp h2) ht ht2 wx wx2 hx)
end
section
variable {n m k b c L q d j:Nat} {C:Calls} {H H' H0:Hp} {ds ds':List Int} {xs ys vs is ps cs:List V} {Z:Prop} {x y nv dv:V} {t t2 wd tag name nm:String} {ns ts own:List String} {W:List String→V→Prop} {kk:Int} {ρ r5:List Sl}
theorem row_f {p:String→Bool} {c:E} {i:Nat} {ρ:List Sl} (h:∀ t,∃ ρ',bindTg [i] (.str t) ρ=some ρ'∧ev C ρ' (.v i) H=some (.str t,H)∧ev C ρ' c H=some (.bool (p t),H)):∀ {ts:List String},evComp C ρ [i] (.v i) c (ts.map .str) H=some ((ts.filter p).map .str,H)
 | []=>rfl
 | t::ts=>by
  obtain ⟨ρ',h1,h2,h3⟩:=h t
  have ih:=row_f h (ts:=ts)
  cases e:p t with
  | true=>rw [e] at h3; rw [List.filter_cons_of_pos e]; exact cp_c h3 h2 ih h1
  | false=>rw [e] at h3; rw [List.filter_cons_of_neg (by rw [e]; decide)]; exact cp_s h3 ih h1
theorem tag_in {z:Bool} (h:(t == tag||t == name)=z):cmpV H .notIn (.str t) (.tup [.str tag,.str name])=some (.bool !z):=by
 show some (V.bool !([tag,name].contains t))=_
 rw [List.contains_cons,List.contains_cons,List.contains_nil,Bool.or_false,h]
theorem str_ne {z:Bool} (h:(t == nm)=z):cmpV H .ne (.str t) (.str nm)=some (.bool !z):=congrArg (fun z=>some (V.bool !z)) h
noncomputable abbrev fE:E := .comp false [7] (.v 7) (.e (.v 1)) (.cmp true .notIn (.v 7) (.tup (es [.v 4,.v 5])))
theorem filt_w (hC:Has m C) {a0 a2 a3 a6 a7:Sl}:ev C [a0,.v (nsV ns),a2,a3,.v (.str tag),.v (.str name),a6,a7] fE H=some (nsV (filt ns tag name),H):=cp_i (hC.i (r:=(ns.map .str,H)) [] (by kernel_rfl)) (row_f fun t=>⟨[a0,.v (nsV ns),a2,a3,.v (.str tag),.v (.str name),a6,.v (.str t)],rfl,rfl,hC.e [.cm (H:=H) (tag_in (t:=t) (tag:=tag) (name:=name) rfl)] (by kernel_rfl)⟩)
noncomputable abbrev wE:E := .ite (.and (.cmp false .eq (.call .law_draw (es [.v 0,.k (.int 2)]) []) (.k (.int 0))) (.and (.cmp true .notIn (.k (.str "letrec")) (.v 1)) (.cmp true .notIn (.k (.str "lambda")) (.v 1)))) (.k (.str "letrec")) (.k (.str "named"))
theorem nin (h:ns.contains t=false):t∉ns:=fun m=>nomatch h.symm.trans (List.contains_iff_mem.mpr m)
theorem word_w (hd:ds.length≤12) {a2 a3 a4 a5 a6 a7:Sl} (k:∀ {wd:String} {ds':List Int},(∀ {C:Calls} {m:Nat},Has (m+3) C→ev C [.v (.ref 0),.v (nsV ns),a2,a3,a4,a5,a6,a7] wE (dk ds H0)=some (.str wd,dk ds' H0))→ds'.length≤12→(wd = "named"∨wd = "letrec" ∧ "letrec"∉ns ∧ "lambda"∉ns)→Z):Z:=draw (kk:=2) (by decide) (by decide) H0 hd fun {v ds1} e hd1 ⟨r,hr,ev⟩=>by
 subst ev
 refine fa (n:=2) (C:=fun r=>R 3 .law_draw [.ref 0,.int 2] (dk ds H0) (.int r,dk ds1 H0)→Z) ⟨⟨trivial,fun e=>?_⟩,fun e=>?_⟩ hr e
 ·cases z:ns.contains "letrec" with
  | true=>exact k (fun {_ m} h=>h.e [h.a e (lkq (q:=m) (b:=3) rfl),.cm (H:=dk ds1 H0) (not_in (t := "letrec") z)] (by kernel_rfl)) hd1 (.inl rfl)
  | false=>
   cases z2:ns.contains "lambda" with
   | true=>exact k (fun {_ m} h=>h.e [h.a e (lkq (q:=m) (b:=3) rfl),.cm (H:=dk ds1 H0) (not_in (t := "letrec") z),.cm (H:=dk ds1 H0) (not_in (t := "lambda") z2)] (by kernel_rfl)) hd1 (.inl rfl)
   | false=>exact k (fun {_ m} h=>h.e [h.a e (lkq (q:=m) (b:=3) rfl),.cm (H:=dk ds1 H0) (not_in (t := "letrec") z),.cm (H:=dk ds1 H0) (not_in (t := "lambda") z2)] (by kernel_rfl)) hd1 (.inr ⟨rfl,nin z,nin z2⟩)
 ·exact k (fun {_ m} h=>h.e [h.a e (lkq (q:=m) (b:=3) rfl)] (by kernel_rfl)) hd1 (.inl rfl)
noncomputable abbrev prs:List V:=[.tup [.str "go",.str "x"],.tup [.str "turn",.str "kept"],.tup [.str "kept",.str "turn"]]
theorem prs_at:∀ {r:Nat},(r:Int) < 3→∃ p:String×String,p∈pairs∧prs[r]?=some (.tup [.str p.1,.str p.2]):=fun h=>fa (n:=3) (C:=fun r=>∃ p:String×String,p∈pairs∧prs[r]?=some (.tup [.str p.1,.str p.2])) ⟨⟨⟨trivial,("go", "x"),by decide,rfl⟩,("turn", "kept"),by decide,rfl⟩,("kept", "turn"),by decide,rfl⟩ h
theorem Oj.filt (o:Oj ns j) {p:String→Bool}:Oj (ns.filter p) j:=⟨fun t h=>o.s t (List.mem_filter.mp h).1,Nat.le_trans (List.length_filter_le _ _) o.l⟩
theorem loop_m (o:Oj ns j) (ih:IH m d (j+2) (Wn q (n+4) b c L)) (hb1:1≤b) (hc:32≤c):Mf (m+7) .law_loop [nsV ns,.int (d+1:Nat)] (Wn (q+40) (n+14) (100*b) (100*c) (L+4) ns):=fun H0 {ds} hd {Z} k=>by
 have o2:=o.up (Nat.le_add_right j 2)
 cases z:ns.contains "if" with
 | true=>exact ih.i o2 H0 hd fun {x ds1} e hd1 w=>k (R.of (m:=m+5) (fun C h=>[.cm (H:=dk ds H0) (is_in (t := "if") z),.bi (H:=dk ds H0) (sub1 (d:=d)),.cc (h.r (e.up (j:=6)))]) fun _ _=>by kernel_rfl) hd1 (wf_say hb1 hc w)
 | false=>
  cases z2:ns.contains "begin" with
  | true=>exact ih.i o2 H0 hd fun {x ds1} e hd1 w=>k (R.of (m:=m+5) (fun C h=>[.cm (H:=dk ds H0) (is_in (t := "if") z),.cm (H:=dk ds H0) (is_in (t := "begin") z2),.bi (H:=dk ds H0) (sub1 (d:=d)),.cc (h.r (e.up (j:=6)))]) fun _ _=>by kernel_rfl) hd1 (wf_say hb1 hc w)
  | false=>
   refine word_w (ns:=ns) (H0:=H0) (a2 := .v (.int (d+1:Nat))) (a3 := .undef) (a4 := .undef) (a5 := .undef) (a6 := .undef) (a7 := .undef) hd fun {wd ds1} e1 hd1 hw=>draw (kk:=3) (by decide) (by decide) H0 hd1 fun {v ds2} e2 hd2 ⟨r,hr,ev⟩=>?_
   subst ev
   obtain ⟨⟨tag,name⟩,hp,ix⟩:=prs_at hr
   refine draw (kk:=3) (by decide) (by decide) H0 hd2 fun {v ds3} e3 hd3 ⟨jj,hj,ev⟩=>?_
   subst ev
   refine ih.i (o2.filt (p:=fun o => !(o == tag||o == name))) H0 hd3 fun {x ds4} e4 hd4 w=>k (v := .tup [.str wd,.str tag,.str name,.int jj,x]) (R.of (m:=m+5) (fun C h=>[.cm (H:=dk ds H0) (is_in (t := "if") z),.cm (H:=dk ds H0) (is_in (t := "begin") z2),.ce (e1 (m:=m+3) h),h.a e2 (lkq (q:=m) (b:=6) rfl),.ix (H:=dk ds2 H0) (idx_nat (xs:=prs) ix (rm rfl)),.ce (filt_w (ns:=ns) (tag:=tag) (name:=name) (H:=dk ds2 H0) (a0 := .v (.ref 0)) (a2 := .v (.int (d+1:Nat))) (a3 := .v (.str wd)) (a6 := .undef) (a7 := .undef) h),h.a e3 (lkq (q:=m) (b:=6) rfl),.bi (H:=dk ds3 H0) (sub1 (d:=d)),.cc (h.r (e4.up (j:=6)))]) fun _ _=>by kernel_rfl) hd4 ?_
   have hj:=Nat.le_of_lt_succ (Int.ofNat_lt.mp hj)
   rcases hw with rfl | ⟨rfl,h3,h4⟩
   ·exact @wf_named (n+4) b c L q jj x tag name ns hb1 hc w (nin z) (nin z2) hp hj
   ·exact @wf_lrec (n+4) b c L q jj x tag name ns hb1 hc w (nin z) (nin z2) hp hj h3 h4
end
noncomputable abbrev kBd:Ss:=ss [.assign 5 (.comp false [7] (.idx true (.list false (es [.k (.int 0),.k (.int 1),.k (.int 2),.k (.int 3),.k (.bool true),.k (.bool false)])) (.call .law_draw (es [.v 0,.k (.int 6)]) [])) (.range1 (.call .law_draw (es [.v 0,.k (.int 4)]) [])) (.k (.bool true))),.lapp 3 (.tup (es [.v 5,.call .law_some (es [.v 0,.v 1,.bin true .sub (.v 2) (.k (.int 1)),.k (.int 2)]) []]))]
noncomputable abbrev cBd:Ss:=ss [.unpD [5,6] [.some (.call .law_draw (es [.v 0,.k (.int 3)]) []),.some (.call .law_made (es [.v 0,.v 1,.bin true .sub (.v 2) (.k (.int 1))]) [])],.lapp 3 (.tup (es [.v 5,.v 6,.ite (.cmp false .eq (.v 5) (.k (.int 0))) (.call .law_some (es [.v 0,.v 1,.bin true .sub (.v 2) (.k (.int 1)),.k (.int 2)]) []) (.list false (es []))]))]
noncomputable abbrev rngE (i:Int):I := .range1 (.bin false .add (.k (.int 1)) (.call .law_draw (es [.v 0,.k (.int i)]) []))
noncomputable abbrev lastE:E := .ite (.cmp false .eq (.call .law_draw (es [.v 0,.k (.int 2)]) []) (.k (.int 1))) (.call .law_some (es [.v 0,.v 1,.bin true .sub (.v 2) (.k (.int 1)),.k (.int 2)]) []) (.k (.none))
noncomputable abbrev knE:E := .idx true (.list false (es [.k (.int 0),.k (.int 1),.k (.int 2),.k (.int 3),.k (.bool true),.k (.bool false)])) (.call .law_draw (es [.v 0,.k (.int 6)]) [])
section
variable {n m k b c L q d j:Nat} {C:Calls} {H H' H0:Hp} {ds ds':List Int} {xs ys vs is ps cs:List V} {Z:Prop} {x y nv dv:V} {t t2 wd tag name nm:String} {ns ts own:List String} {kk:Int} {ρ r5:List Sl}
noncomputable abbrev mR (nv dv:V) (acc:List V) (a b c d:Sl):List Sl:=[.v (.ref 0),.v nv,.v dv,.loc acc,a,b,c,d]
theorem six_dok:∀ x∈six,DOK x:=List.forall_mem_cons.mpr ⟨.int (by decide) (by decide),List.forall_mem_cons.mpr ⟨.int (by decide) (by decide),List.forall_mem_cons.mpr ⟨.int (by decide) (by decide),List.forall_mem_cons.mpr ⟨.int (by decide) (by decide),List.forall_mem_cons.mpr ⟨.bool,List.forall_mem_singleton.mpr .bool⟩⟩⟩⟩⟩
theorem six_at {r:Nat} (h:(r:Int) < 6):∃ x,x∈six∧six[r]?=some x:=⟨_,List.getElem_mem (Int.ofNat_lt.mp h),List.getElem?_eq_getElem (Int.ofNat_lt.mp h)⟩
theorem row_k (is:List V):∀ {ds:List Int},ds.length≤12→(∀ {xs:List V} {ds':List Int},(∀ {C:Calls} {m:Nat} {a0 a1 a2 a3 a4 a5 a6:Sl},Has (m+3) C→evComp C [.v (.ref 0),a0,a1,a2,a3,a4,a5,a6] [7] knE (.k (.bool true)) is (dk ds H0)=some (xs,dk ds' H0))→ds'.length≤12→(∀ x∈xs,DOK x)→xs.length=is.length→Z)→Z:=by
 induction is with
 | nil=>exact fun {ds} hd k=>k (fun {_ _ _ _ _ _ _ _ _} _=>rfl) hd (fun _ h=>nomatch h) rfl
 | cons i is ih=>
  exact fun {ds} hd k=>draw (kk:=6) (by decide) (by decide) H0 hd fun {v ds1} e1 hd1 ⟨r,hr,ev⟩=>by
   subst ev
   obtain ⟨x,hx,g⟩:=six_at hr
   exact ih hd1 fun e2 hd2 w2 l2=>k (fun {C m a0 a1 a2 a3 a4 a5 a6} hC=>cp_c (ρ':=[.v (.ref 0),a0,a1,a2,a3,a4,a5,.v i]) rfl (hC.e [hC.a e1 (lkq (q:=m) (b:=3) rfl),.ix (H:=dk ds1 H0) (idx_nat (xs:=six) g (rm rfl))] (by kernel_rfl)) (e2 hC) rfl) hd2 (List.forall_mem_cons.mpr ⟨six_dok x hx,w2⟩) (congrArg (·+1) l2)
variable {W:V→Prop} (hM:Mf m .law_made [nv,.int d] W)
include hM
theorem kturns (is:List V):∀ {ds:List Int},ds.length≤12→(∀ {cs:List V} {ds':List Int},(∀ {C:Calls},Has (m+6) C→∀ {acc:List V} {a b c e:Sl},acc.length+is.length≤100→∃ a' b',FB C [4] kBd is (mR nv (.int (d+1:Nat)) acc a b c e,dk ds H0)=some (.next,mR nv (.int (d+1:Nat)) (acc++cs) a' b' c e,dk ds' H0))→ds'.length≤12→(∀ x∈cs,KWc W x)→cs.length=is.length→Z)→Z:=by
 induction is with
 | nil=>exact fun {ds} hd k=>k (cs:=[]) (fun {_} _ {acc _ _ _ _} _=>⟨_,_,congrArg (fun acc=>some (Fl.next,mR nv (.int (d+1:Nat)) acc _ _ _ _,dk ds H0)) (List.append_nil acc).symm⟩) hd (fun _ h=>nomatch h) rfl
 | cons i is ih=>
  refine fun {ds} hd k=>draw (kk:=4) (by decide) (by decide) H0 hd fun {v ds1} e1 hd1 ⟨r,hr,ev⟩=>?_
  subst ev
  have hr:=Nat.le_of_lt_succ (Int.ofNat_lt.mp hr)
  refine row_k (H0:=H0) (upTo 0 r) hd1 fun {kn ds2} e2 hd2 wk lk=>some_m hM (kk:=2) (by decide) (by decide) H0 hd2 fun {v ds3} e3 hd3 ⟨xs,ev,hx,h1,h2⟩=>?_
  subst ev
  refine ih hd3 fun {cs ds4} e4 hd4 wc lc=>k (cs := .tup [.lst kn,.lst xs]::cs) (fun {C} hC {acc a b c e} ha=>?_) hd4 (List.forall_mem_cons.mpr ⟨.mk wk (Nat.le_trans (Nat.le_of_eq (lk.trans upTo_le)) hr) hx h1 (Int.ofNat_le.mp h2),wc⟩) (congrArg (·+1) lc)
  obtain ⟨a',b',g⟩:=e4 hC (acc:=acc++[.tup [.lst kn,.lst xs]]) (a := .v i) (b := .v (.lst kn)) (c:=c) (e:=e) (by rw [List.length_append]; exact Nat.le_trans (Nat.le_of_eq (Nat.add_right_comm _ 1 _)) ha)
  rw [List.append_assoc] at g
  exact ⟨a',b',fb_c (hC.s [.ce (H:=dk ds H0) (ρ:=mR nv (.int (d+1:Nat)) acc (.v i) b c e) (e := .comp false [7] knE (.range1 (.call .law_draw (es [.v 0,.k (.int 4)]) [])) (.k (.bool true))) (cp_i (it_1 (n:=r) (hC.e [hC.a e1 (lkq (q:=m) (b:=6) rfl)] (by kernel_rfl)) ⟨Int.le_trans (by decide) (Int.natCast_nonneg r),Int.ofNat_le.mpr (Nat.le_trans hr (rm rfl))⟩) (e2 (m:=m+3) hC)),.bi (H:=dk ds2 H0) (sub1 (d:=d)),.cc (hC.r (e3.up (j:=1))),.ln (xs:=acc) (hun (Nat.le_trans (Nat.le_add_right _ _) ha) 0)] (by kernel_rfl)) g⟩
theorem cturns (is:List V):∀ {ds:List Int},ds.length≤12→(∀ {cs:List V} {ds':List Int},(∀ {C:Calls},Has (m+6) C→∀ {acc:List V} {a b c e:Sl},acc.length+is.length≤100→∃ a' b' c',FB C [4] cBd is (mR nv (.int (d+1:Nat)) acc a b c e,dk ds H0)=some (.next,mR nv (.int (d+1:Nat)) (acc++cs) a' b' c' e,dk ds' H0))→ds'.length≤12→(∀ x∈cs,CWc W x)→cs.length=is.length→Z)→Z:=by
 induction is with
 | nil=>exact fun {ds} hd k=>k (cs:=[]) (fun {_} _ {acc _ _ _ _} _=>⟨_,_,_,congrArg (fun acc=>some (Fl.next,mR nv (.int (d+1:Nat)) acc _ _ _ _,dk ds H0)) (List.append_nil acc).symm⟩) hd (fun _ h=>nomatch h) rfl
 | cons i is ih=>
  refine fun {ds} hd k=>draw (kk:=3) (by decide) (by decide) H0 hd fun {v ds1} e1 hd1 ⟨r,hr,ev⟩=>?_
  subst ev
  refine hM H0 hd1 fun {t ds2} e2 hd2 wt=>?_
  have fin:∀ {s:Int} {p:List V} {ds3:List Int},ds3.length≤12→CWc W (.tup [.int s,t,.lst p])→(∀ {C:Calls},Has (m+6) C→∀ {acc:List V} {b c e:Sl},acc.length≤100→∃ b' c',exs C cBd (mR nv (.int (d+1:Nat)) acc (.v i) b c e,dk ds H0)=some (.next,mR nv (.int (d+1:Nat)) (acc++[.tup [.int s,t,.lst p]]) (.v i) b' c' e,dk ds3 H0))→Z:=fun {s p ds3} hd3 wc e3=>ih hd3 fun {cs ds4} e4 hd4 wcs lc=>k (cs := .tup [.int s,t,.lst p]::cs) (fun {C} hC {acc a b c e} ha=>by
   obtain ⟨b',c',h3⟩:=e3 hC (b:=b) (c:=c) (e:=e) (Nat.le_trans (Nat.le_add_right acc.length _) ha)
   obtain ⟨a',b',c',g⟩:=e4 hC (acc:=acc++[.tup [.int s,t,.lst p]]) (a := .v i) (b:=b') (c:=c') (e:=e) (by rw [List.length_append]; exact Nat.le_trans (Nat.le_of_eq (Nat.add_right_comm _ 1 _)) ha)
   rw [List.append_assoc] at g
   exact ⟨a',b',c',fb_c h3 g⟩) hd4 (List.forall_mem_cons.mpr ⟨wc,wcs⟩) (congrArg (·+1) lc)
  refine fa (n:=3) (C:=fun r=>R 3 .law_draw [.ref 0,.int 3] (dk ds H0) (.int r,dk ds1 H0)→Z) ⟨⟨⟨trivial,fun e1=>?_⟩,fun e1=>?_⟩,fun e1=>?_⟩ hr e1
  ·refine some_m hM (kk:=2) (by decide) (by decide) H0 hd2 fun {v ds3} e3 hd3 ⟨xs,ev,hx,h1,h2⟩=>?_
   subst ev
   exact fin (s:=0) hd3 (.seq wt hx h1 (Int.ofNat_le.mp h2)) fun {C} hC {acc b c e} ha=>⟨.v (.int 0),.v t,hC.s [hC.a e1 (lkq (q:=m) (b:=6) rfl),.bi (H:=dk ds1 H0) (sub1 (d:=d)),.cc (hC.r (e2.up (j:=6))),.bi (H:=dk ds2 H0) (sub1 (d:=d)),.cc (hC.r (e3.up (j:=1))),.ln (xs:=acc) (hun ha 0)] (by kernel_rfl)⟩
  ·exact fin (s:=1) hd2 (.bare wt) fun {C} hC {acc b c e} ha=>⟨.v (.int 1),.v t,hC.s [hC.a e1 (lkq (q:=m) (b:=6) rfl),.bi (H:=dk ds1 H0) (sub1 (d:=d)),.cc (hC.r (e2.up (j:=6))),.ln (xs:=acc) (hun ha 0)] (by kernel_rfl)⟩
  ·exact fin (s:=2) hd2 (.arrow wt) fun {C} hC {acc b c e} ha=>⟨.v (.int 2),.v t,hC.s [hC.a e1 (lkq (q:=m) (b:=6) rfl),.bi (H:=dk ds1 H0) (sub1 (d:=d)),.cc (hC.r (e2.up (j:=6))),.ln (xs:=acc) (hun ha 0)] (by kernel_rfl)⟩
theorem last_w (hd:ds.length≤12) (k:∀ {last:Option (List V)} {ds':List Int},(∀ {C:Calls},Has (m+6) C→∀ {r:List Sl},ev C (.v (.ref 0) :: .v nv :: .v (.int (d+1:Nat))::r) lastE (dk ds H0)=some (lastV last,dk ds' H0))→ds'.length≤12→LWc W last→Z):Z:=draw (kk:=2) (by decide) (by decide) H0 hd fun {v ds1} e1 hd1 ⟨r,hr,ev⟩=>by
 subst ev
 refine fa (n:=2) (C:=fun r=>R 3 .law_draw [.ref 0,.int 2] (dk ds H0) (.int r,dk ds1 H0)→Z) ⟨⟨trivial,fun e1=>?_⟩,fun e1=>?_⟩ hr e1
 ·exact k (last:=none) (fun {C} hC {_}=>hC.e [hC.a e1 (lkq (q:=m) (b:=6) rfl)] (by kernel_rfl)) hd1 .none
 ·refine some_m hM (kk:=2) (by decide) (by decide) H0 hd1 fun {v ds3} e3 hd3 ⟨xs,ev,hx,h1,h2⟩=>?_
  subst ev
  exact k (last:=some xs) (fun {C} hC {_}=>hC.e [hC.a e1 (lkq (q:=m) (b:=6) rfl),.bi (H:=dk ds1 H0) (sub1 (d:=d)),.cc (hC.r (e3.up (j:=1)))] (by kernel_rfl)) hd3 (.some hx h1 (Int.ofNat_le.mp h2))
end
noncomputable abbrev optE (kk mm:Int):E := .ite (.cmp false .eq (.call .law_draw (es [.v 0,.k (.int kk)]) []) (.k (.int 0))) (.list false (es [])) (.call .law_some (es [.v 0,.v 5,.bin true .sub (.v 2) (.k (.int 1)),.k (.int mm)]) [])
noncomputable abbrev stE:E := .ite (.cmp false .eq (.call .law_draw (es [.v 0,.k (.int 2)]) []) (.k (.int 0))) (.k (.none)) (.call .law_made (es [.v 0,.v 5,.k (.int 0)]) [])
noncomputable abbrev inE:E := .comp false [9] (.v 9) (.e (.v 1)) (.cmp true .ne (.v 9) (.v 3))
section
variable {n m k b c L q d j:Nat} {C:Calls} {H H' H0:Hp} {ds ds':List Int} {xs ys vs is ps cs:List V} {Z:Prop} {x y nv dv:V} {t t2 wd tag name nm:String} {ns ts own:List String} {kk mm:Int} {ρ r5:List Sl}
theorem opt_w {W:V→Prop} (hM:Mf m .law_made [nv,.int d] W) (hk:kk=2∨kk=3) (hm:0 < mm) (hm2:mm < 1000) (hd:ds.length≤12) (k:∀ {xs:List V} {ds':List Int},(∀ {C:Calls},Has (m+6) C→∀ {a1 a3 a4 a6 a7 a8 a9:Sl},ev C [.v (.ref 0),a1,.v (.int (d+1:Nat)),a3,a4,.v nv,a6,a7,a8,a9] (optE kk mm) (dk ds H0)=some (.lst xs,dk ds' H0))→ds'.length≤12→(∀ x∈xs,W x)→(xs.length:Int)≤mm→Z):Z:=by
 have cs:∀ {ds1:List Int},R 3 .law_draw [.ref 0,.int kk] (dk ds H0) (.int (0:Nat),dk ds1 H0)→ds1.length≤12→Z:=fun e1 hd1=>k (xs:=[]) (fun {C} hC {_ _ _ _ _ _ _}=>hC.e [hC.a e1 (lkq (q:=m) (b:=6) rfl)] (by kernel_rfl)) hd1 (fun _ h=>nomatch h) (Int.le_of_lt hm)
 have cp:∀ {r:Nat} {ds1:List Int},R 3 .law_draw [.ref 0,.int kk] (dk ds H0) (.int (r+1:Nat),dk ds1 H0)→ds1.length≤12→Z:=fun {r ds1} e1 hd1=>some_m hM hm hm2 H0 hd1 fun {v ds3} e3 hd3 ⟨xs,ev,hx,_,h2⟩=>by
  subst ev
  exact k (fun {C} hC {_ _ _ _ _ _ _}=>hC.e [hC.a e1 (lkq (q:=m) (b:=6) rfl),.bi (H:=dk ds1 H0) (sub1 (d:=d)),.cc (hC.r (e3.up (j:=1)))] (by kernel_rfl)) hd3 hx h2
 have hk:0 < kk∧kk < 1000:=by rcases hk with rfl | rfl <;> exact ⟨by decide,by decide⟩
 exact draw hk.1 hk.2 H0 hd fun {v ds1} e1 hd1 ⟨r,_,ev⟩=>by
  subst ev
  cases r with
  | zero=>exact cs e1 hd1
  | succ r=>exact cp e1 hd1
theorem st_w {W:V→Prop} (hM:Mf m .law_made [nv,.int 0] W) (hd:ds.length≤12) (k:∀ {st:Option V} {ds':List Int},(∀ {C:Calls},Has (m+6) C→∀ {a1 a2 a3 a4 a6 a7 a8 a9:Sl},ev C [.v (.ref 0),a1,a2,a3,a4,.v nv,a6,a7,a8,a9] stE (dk ds H0)=some (st.getD .none,dk ds' H0))→ds'.length≤12→(∀ x,st=some x→W x)→Z):Z:=draw (kk:=2) (by decide) (by decide) H0 hd fun {v ds1} e1 hd1 ⟨r,hr,ev⟩=>by
 subst ev
 refine fa (n:=2) (C:=fun r=>R 3 .law_draw [.ref 0,.int 2] (dk ds H0) (.int r,dk ds1 H0)→Z) ⟨⟨trivial,fun e1=>?_⟩,fun e1=>?_⟩ hr e1
 ·exact k (st:=none) (fun {C} hC {_ _ _ _ _ _ _ _}=>hC.e [hC.a e1 (lkq (q:=m) (b:=6) rfl)] (by kernel_rfl)) hd1 fun _ h=>nomatch h
 ·exact hM H0 hd1 fun {x ds3} e3 hd3 w=>k (st:=some x) (fun {C} hC {_ _ _ _ _ _ _ _}=>hC.e [hC.a e1 (lkq (q:=m) (b:=6) rfl),.cc (hC.r (e3.up (j:=6)))] (by kernel_rfl)) hd3 fun _ h=>Option.some.inj h▸w
theorem in_w (hC:Has m C) {a0 a2 a4 a5 a6 a7 a8 a9:Sl}:ev C [a0,.v (nsV ns),a2,.v (.str nm),a4,a5,a6,a7,a8,a9] inE H=some (nsV (ns.filter fun o => !(o == nm)),H):=cp_i (hC.i (r:=(ns.map .str,H)) [] (by kernel_rfl)) (row_f fun t=>⟨[a0,.v (nsV ns),a2,.v (.str nm),a4,a5,a6,a7,a8,.v (.str t)],rfl,rfl,hC.e [.cm (H:=H) (str_ne (t:=t) (nm:=nm) rfl)] (by kernel_rfl)⟩)
theorem r1b {r:Nat} (h:(r:Int) < 3) : -1≤((1+r:Nat):Int)∧((1+r:Nat):Int)≤room:=⟨Int.le_trans (by decide) (Int.natCast_nonneg (1+r)),Int.ofNat_le.mpr (Nat.le_trans (Nat.add_le_add_left (Nat.le_of_lt (Int.ofNat_lt.mp h)) 1) (rm rfl))⟩
variable (o:Oj ns j) (ih:IH m d (j+2) (Wn q (n+4) b c L)) (hb1:1≤b) (hc:32≤c)
include o ih hb1 hc
theorem case_m:Mf (m+7) .law_case [nsV ns,.int (d+1:Nat)] (Wn (q+40) (n+14) (100*b) (100*c) (L+4) ns):=fun H0 {ds} hd {Z} k=>draw (kk:=2) (by decide) (by decide) H0 hd fun {v ds1} e1 hd1 ⟨r,hr,ev⟩=>by
 subst ev
 have hM:=ih.i (o.up (Nat.le_add_right j 2))
 refine kturns (H0:=H0) hM (upTo 0 (1+r)) hd1 fun {cs ds2} e2 hd2 wc lc=>?_
 have lc:cs.length=1+r:=lc.trans upTo_le
 have hr2:1+r≤2:=Nat.add_comm 1 r▸Int.ofNat_lt.mp hr
 have hu:(([]:List V).length+(upTo 0 (1+r)).length)≤100:=by rw [upTo_le,List.length_nil,Nat.zero_add]; exact Nat.le_trans hr2 (by decide)
 refine last_w (H0:=H0) hM hd2 fun {last ds3} e3 hd3 wl=>hM H0 hd3 fun {x ds4} e4 hd4 wx=>?_
 exact k (v := .tup [.str "case",x,.lst cs,lastV last]) (R.ex (m:=m+5) fun C hC=>by
  obtain ⟨a,b,g⟩:=e2 hC (acc:=[]) (a := .undef) (b := .undef) (c := .undef) (e := .undef) hu
  exact ⟨[.cs (H:=dk ds H0) (e := .for_ [4] (rngE 2) kBd) (for_i (it_1 (n:=((1+r:Nat):Int)) (hC.e [hC.a e1 (lkq (q:=m) (b:=6) rfl)] (by kernel_rfl)) (r1b (Int.lt_trans hr (by decide)))) g),.ce (e3 hC (r:=[.loc cs,a,b,.undef,.undef])),.bi (H:=dk ds3 H0) (sub1 (d:=d)),.cc (hC.r (e4.up (j:=6)))],by kernel_rfl⟩) hd4 (@wf_case (n+4) b c L q cs x ns last hb1 hc wl wx wc (lc▸Nat.le_add_right 1 r) (lc▸hr2))
theorem cond_m:Mf (m+7) .law_cond [nsV ns,.int (d+1:Nat)] (Wn (q+40) (n+14) (100*b) (100*c) (L+4) ns):=fun H0 {ds} hd {Z} k=>draw (kk:=3) (by decide) (by decide) H0 hd fun {v ds1} e1 hd1 ⟨r,hr,ev⟩=>by
 subst ev
 have hM:=ih.i (o.up (Nat.le_add_right j 2))
 refine cturns (H0:=H0) hM (upTo 0 (1+r)) hd1 fun {cs ds2} e2 hd2 wc lc=>?_
 have lc:cs.length=1+r:=lc.trans upTo_le
 have hr2:1+r≤3:=Nat.add_comm 1 r▸Int.ofNat_lt.mp hr
 have hu:(([]:List V).length+(upTo 0 (1+r)).length)≤100:=by rw [upTo_le,List.length_nil,Nat.zero_add]; exact Nat.le_trans hr2 (by decide)
 refine last_w (H0:=H0) hM hd2 fun {last ds3} e3 hd3 wl=>?_
 exact k (v:=cdT cs last) (R.ex (m:=m+5) fun C hC=>by
  obtain ⟨a,b,c',g⟩:=e2 hC (acc:=[]) (a := .undef) (b := .undef) (c := .undef) (e := .undef) hu
  exact ⟨[.cs (H:=dk ds H0) (e := .for_ [4] (rngE 3) cBd) (for_i (it_1 (n:=((1+r:Nat):Int)) (hC.e [hC.a e1 (lkq (q:=m) (b:=6) rfl)] (by kernel_rfl)) (r1b hr)) g),.ce (e3 hC (r:=[.loc cs,a,b,c',.undef]))],by kernel_rfl⟩) hd3 (@wf_cond (n+4) b c L q cs ns last hb1 hc wl wc (lc▸Nat.le_add_right 1 r) (lc▸hr2))
theorem do_m (hj:j≤100):Mf (m+7) .law_do [nsV ns,.int (d+1:Nat)] (Wn (q+40) (n+14) (100*b) (100*c) (L+4) ns):=fun H0 {ds} hd {Z} k=>draw (kk:=3) (by decide) (by decide) H0 hd fun {v ds1} e1 hd1 ⟨r1,hr1,ev⟩=>by
 subst ev
 refine draw (kk:=2) (by decide) (by decide) H0 hd1 fun {v ds2} e2 hd2 ⟨r2,hr2,ev⟩=>?_
 subst ev
 obtain ⟨nm,hnm,g1⟩:=strs_at (ts:=["x", "turn", "kept"]) hr1
 obtain ⟨bs,hbs,g2⟩:=strs_at (ts:=["y", "begin"]) hr2
 have o2:=o.up (Nat.le_add_right j 2)
 have oi:Oj ((ns.filter fun o => !(o == nm))++[bs]) (j+2):=⟨List.forall_mem_append.mpr ⟨o.filt.s,List.forall_mem_singleton.mpr ((by decide:∀ bs∈["y", "begin"],bs∈NS0) bs hbs)⟩,by rw [List.length_append]; exact Nat.le_succ_of_le (Nat.succ_le_succ o.filt.l)⟩
 have hM:=ih.i oi
 refine opt_w (H0:=H0) hM (kk:=3) (mm:=2) (.inr rfl) (by decide) (by decide) hd2 fun {told ds3} e3 hd3 wt lt=>opt_w (H0:=H0) hM (kk:=2) (mm:=1) (.inl rfl) (by decide) (by decide) hd3 fun {cmds ds4} e4 hd4 wc lc=>st_w (H0:=H0) (ih.a oi) hd4 fun {st ds5} e5 hd5 ws=>draw (kk:=3) (by decide) (by decide) H0 hd5 fun {v ds6} e6 hd6 ⟨r3,hr3,ev⟩=>?_
 subst ev
 refine ih.a o2 H0 hd6 fun {x ds7} e7 hd7 wx=>?_
 have hr3:=Nat.le_of_lt (Int.ofNat_lt.mp hr3)
 have s4:∀ {H:Hp},binV H .sub (.int 4) (.int r3)=some (.int (4 - r3:Nat)):=fun {H}=>congrArg (fun i=>some (V.int i)) (Int.ofNat_sub (Nat.le_succ_of_le hr3)).symm
 exact k (v:=doT nm bs (4 - r3) x st told cmds) (R.of (m:=m+5) (fun C h=>[h.a e1 (lkq (q:=m) (b:=6) rfl),.ix (H:=dk ds1 H0) (idx_nat (xs:=["x", "turn", "kept"].map V.str) g1 (rm rfl)),h.a e2 (lkq (q:=m) (b:=6) rfl),.ix (H:=dk ds2 H0) (idx_nat (xs:=["y", "begin"].map V.str) g2 (rm rfl)),.ce (in_w (ns:=ns) (nm:=nm) (H:=dk ds2 H0) (a0 := .v (.ref 0)) (a2 := .v (.int (d+1:Nat))) (a4 := .v (.str bs)) (a5 := .undef) (a6 := .undef) (a7 := .undef) (a8 := .undef) (a9 := .undef) h),.bi (H:=dk ds2 H0) (addn (ns:=ns.filter fun o => !(o == nm)) (own:=[bs]) (Nat.le_trans (Nat.add_le_add_right (Nat.le_trans o.filt.l hj) 1) (by decide))),.ce (e3 h (a1 := .v (nsV ns)) (a3 := .v (.str nm)) (a4 := .v (.str bs)) (a6 := .undef) (a7 := .undef) (a8 := .undef) (a9 := .undef)),.ce (e4 h (a1 := .v (nsV ns)) (a3 := .v (.str nm)) (a4 := .v (.str bs)) (a6 := .v (.lst told)) (a7 := .undef) (a8 := .undef) (a9 := .undef)),.ce (e5 h (a1 := .v (nsV ns)) (a2 := .v (.int (d+1:Nat))) (a3 := .v (.str nm)) (a4 := .v (.str bs)) (a6 := .v (.lst told)) (a7 := .v (.lst cmds)) (a8 := .undef) (a9 := .undef)),h.a e6 (lkq (q:=m) (b:=6) rfl),.bi (H:=dk ds6 H0) s4,.cc (h.r (e7.up (j:=6)))]) fun _ _=>by kernel_rfl) hd7 (@wf_do (n+4) b c L q (4 - r3) told cmds x nm bs ns st hb1 hc hnm hbs (Nat.sub_le _ _) (wx.w hb1) wx.a (fun x h=>⟨(ws x h).w hb1,(ws x h).a,(ws x h).n⟩) wt (Int.ofNat_le.mp lt) wc (Int.ofNat_le.mp lc))
end
section
variable {n m k b c L q d j:Nat} {C:Calls} {H H' H0:Hp} {ds ds':List Int} {xs ys vs is ps cs:List V} {Z:Prop} {x y nv dv:V} {t t2 wd tag name nm:String} {ns ts own:List String} {kk mm:Int}
theorem sl_any {i:Int}:∃ k,slV (.lst xs) (.int i) .none=some (.lst (xs.drop k)):=by
 cases i with
 | ofNat n=>exact ⟨n,rfl⟩
 | negSucc n=>exact ⟨_,rfl⟩
theorem ns_ne:cmpV H .ne (nsV ns) (.lst [])=some (.bool (!ns.isEmpty)):=by
 cases ns with
 | nil=>rfl
 | cons a r=>exact (congrArg (fun o=>Option.map (fun x=>V.bool !x) (Option.bind o fun is=>some (decide (is=[])))) (strs_map (l:=a::r))).trans rfl
noncomputable abbrev mn (ns:List String):Int:=if ((ns.map V.str).length:Int) < 2 then ((ns.map V.str).length:Int) else 2
theorem mn_lt {r:Nat} (h:ns≠[]) (hr:(r:Int) < mn ns):r < ns.length:=by
 have e:((ns.map V.str).length:Int)=ns.length:=congrArg Nat.cast (List.length_map _)
 unfold mn at hr
 rw [e] at hr
 split at hr
 ·exact Int.ofNat_lt.mp hr
 ·rename_i c
  exact Int.ofNat_lt.mp (Int.lt_of_lt_of_le hr (Int.not_lt.mp c))
theorem neg_i {r n:Nat} (h:r < n) (hl:n≤200):small (-1 - (r:Int))=true∧¬ (0 ≤ -1 - (r:Int))∧0 ≤ -1 - (r:Int)+n∧(-1 - (r:Int)+n).toNat=n - 1 - r:=by
 have e : -1 - (r:Int)+n=((n - 1 - r:Nat):Int):=((Int.add_comm _ _).trans (Int.add_sub_assoc (n:Int) (-1) r).symm).trans (sub_at h).2
 rw [e]
 exact ⟨sm_of (Int.le_trans (by decide) (Int.sub_le_sub_left (Int.ofNat_le.mpr (Nat.le_trans (Nat.le_of_lt h) hl)) (-1))) (Int.le_trans (Int.sub_le_self _ (Int.natCast_nonneg r)) (by decide)),fun c=>absurd (Int.le_trans c (Int.sub_le_self _ (Int.natCast_nonneg r))) (by decide),Int.natCast_nonneg _,rfl⟩
theorem neg_at {r:Nat} (h:ns≠[]) (hl:ns.length≤200) (hr:(r:Int) < mn ns):∃ t,t∈ns∧∀ {H:Hp},idxV H (nsV ns) (.int (-1 - r))=some (.str t):=by
 have hn:=mn_lt h hr
 have hk:=(sub_at hn).1
 obtain ⟨a,b,c,d⟩:=neg_i hn hl
 refine ⟨ns[ns.length - 1 - r],List.getElem_mem hk,fun {H}=>?_⟩
 show getI (ns.map V.str) (-1 - r)=_
 unfold getI
 rw [if_pos a,if_neg b,List.length_map,if_pos c,d,List.getElem?_map,List.getElem?_eq_getElem hk]; rfl
theorem mn_b (h:ns≠[]):0 < mn ns∧mn ns < 1000:=by
 have e:((ns.map V.str).length:Int)=ns.length:=congrArg Nat.cast (List.length_map _)
 unfold mn
 rw [e]
 split
 ·rename_i c
  exact ⟨Int.ofNat_lt.mpr (List.length_pos_iff.mpr h),Int.lt_trans c (by decide)⟩
 ·decide
noncomputable def aof {ds1 ds2 ds3:List Int} {w r i:Nat} (e0:R 3 .law_draw [.ref 0,.int 14] (dk ds H0) (.int w,dk ds1 H0)) (e1:R (m+5) .law_some [.ref 0,nsV ns,.int d,.int 3] (dk ds1 H0) (.lst xs,dk ds2 H0)) (e2:R 3 .law_draw [.ref 0,.int 5] (dk ds2 H0) (.int r,dk ds3 H0)) (sl:slV (.lst xs) (.int ((r:Int).fdiv 4)) .none=some (.lst (xs.drop i))) (C:Calls) (h:Has (m+9) C):List (Ans C):=[h.a e0 (lkq (q:=m) (b:=9) rfl),.bi (H:=dk ds1 H0) (sub1 (d:=d)),.cc (h.r (e1.up (j:=4))),h.a e2 (lkq (q:=m) (b:=9) rfl),.bi (H:=dk ds3 H0) (o := .div) (x := .int r) (y := .int 4) rfl,⟨.sl (.lst xs) (.int ((r:Int).fdiv 4)) .none,.v (.lst (xs.drop i)),sl⟩]
variable (o:Oj ns j) (ih:IH m d (j+2) (Wn q (n+4) b c L)) (hb1:1≤b) (hc:32≤c) (hj:j≤100)
include o ih hb1 hc hj
theorem made_m:Mf (m+10) .law_made [nsV ns,.int (d+1:Nat)] (Wn (q+40) (n+14) (100*b) (100*c) (L+4) ns):=fun H0 {ds} hd {Z} k=>draw (kk:=14) (by decide) (by decide) H0 hd fun {v ds1} e0 hd1 ⟨w,hw,ev⟩=>by
 subst ev
 have o2:=o.up (Nat.le_add_right j 2)
 have hM:=ih.i o2
 have hA:=ih.a o2
 have nl:ns.length≤100:=Nat.le_trans o.l hj
 have cnd:(∀ {v:V} {ds':List Int},R (m+7) .law_cond [.ref 0,nsV ns,.int (d+1:Nat)] (dk ds1 H0) (v,dk ds' H0)→R (m+10) .law_made [.ref 0,nsV ns,.int (d+1:Nat)] (dk ds H0) (v,dk ds' H0))→Z:=fun f=>cond_m o ih hb1 hc H0 hd1 fun e h w=>k (f e) h w
 refine fa (n:=14) (C:=fun w=>R 3 .law_draw [.ref 0,.int 14] (dk ds H0) (.int w,dk ds1 H0)→Z) ⟨⟨⟨⟨⟨⟨⟨⟨⟨⟨⟨⟨⟨⟨trivial,fun e0=>?_⟩,fun e0=>?_⟩,fun e0=>?_⟩,fun e0=>?_⟩,fun e0=>?_⟩,fun e0=>?_⟩,fun e0=>?_⟩,fun e0=>?_⟩,fun e0=>?_⟩,fun e0=>?_⟩,fun e0=>?_⟩,fun e0=>?_⟩,fun e0=>?_⟩,fun e0=>?_⟩ hw e0
 ·exact atom_w o.s nl (.inr ⟨rfl,rfl⟩) e0 hd1 fun e h a=>k (e.le (lkq (q:=m) (b:=10) rfl)) h (a.w (n:=n+10) (Nat.le_trans hb1 (Nat.le_mul_of_pos_left b (by decide))))
 ·exact hM H0 hd1 fun {x _} e h w=>k (R.of (m:=m+8) (fun C h=>[h.a e0 (lkq (q:=m) (b:=9) rfl),.bi (H:=dk ds1 H0) (sub1 (d:=d)),.cc (h.r (e.up (j:=9)))]) fun _ _=>by kernel_rfl) h (wf_say hb1 hc w)
 ·refine draw (kk:=2) (by decide) (by decide) H0 hd1 fun {v ds2} e1 hd2 ⟨r,hr,ev⟩=>?_
  subst ev
  refine hM H0 hd2 fun {x ds3} e2 hd3 w=>hA H0 hd3 fun {x2 ds4} e3 hd4 a=>fa (n:=2) (C:=fun r=>R 3 .law_draw [.ref 0,.int 2] (dk ds1 H0) (.int r,dk ds2 H0)→Z) ⟨⟨trivial,fun e1=>?_⟩,fun e1=>?_⟩ hr e1
  ·exact k (R.of (m:=m+8) (fun C h=>[h.a e0 (lkq (q:=m) (b:=9) rfl),h.a e1 (lkq (q:=m) (b:=9) rfl),.bi (H:=dk ds2 H0) (sub1 (d:=d)),.cc (h.r (e2.up (j:=9))),.cc (h.r (e3.up (j:=9)))]) fun _ _=>by kernel_rfl) hd4 (wf_plus hb1 hc w (a.w hb1) a.a)
  ·exact k (R.of (m:=m+8) (fun C h=>[h.a e0 (lkq (q:=m) (b:=9) rfl),h.a e1 (lkq (q:=m) (b:=9) rfl),.bi (H:=dk ds2 H0) (sub1 (d:=d)),.cc (h.r (e2.up (j:=9))),.cc (h.r (e3.up (j:=9)))]) fun _ _=>by kernel_rfl) hd4 (wf_less hb1 hc w (a.w hb1) a.a)
 ·have ne:=ns_ne (H:=dk ds1 H0) (ns:=ns)
  cases z:ns.isEmpty with
  | true=>
   rw [z] at ne
   exact cnd fun e=>R.of (m:=m+8) (fun C h=>[h.a e0 (lkq (q:=m) (b:=9) rfl),.cm ne,.cc (h.r (e.up (j:=2)))]) fun _ _=>by kernel_rfl
  | false=>
   rw [z] at ne
   have hn:ns≠[]:=fun c=>by rw [c] at z; cases z
   refine draw (kk:=mn ns) (mn_b hn).1 (mn_b hn).2 H0 hd1 fun {v ds2} e1 hd2 ⟨r,hr,ev⟩=>?_
   subst ev
   obtain ⟨t,ht,ix⟩:=neg_at hn (Nat.le_trans nl (by decide)) hr
   exact hM H0 hd2 fun {x ds3} e2 hd3 w=>k (R.of (m:=m+8) (fun C h=>[h.a e0 (lkq (q:=m) (b:=9) rfl),.cm ne,.b1 (H:=dk ds1 H0) (o := .len) (x:=nsV ns) rfl,h.a e1 (lkq (q:=m) (b:=9) rfl),.bi (H:=dk ds2 H0) (o := .sub) (x := .int (-1)) (y := .int r) rfl,.ix (H:=dk ds2 H0) ix,.bi (H:=dk ds2 H0) (sub1 (d:=d)),.cc (h.r (e2.up (j:=9)))]) fun _ _=>by kernel_rfl) hd3 (wf_set hb1 hc ht w)
 ·cases z:ns.contains "if" with
  | true=>exact cnd fun e=>R.of (m:=m+8) (fun C h=>[h.a e0 (lkq (q:=m) (b:=9) rfl),.cm (H:=dk ds1 H0) (not_in (t := "if") z),.cc (h.r (e.up (j:=2)))]) fun _ _=>by kernel_rfl
  | false=>exact hM H0 hd1 fun {x ds2} e1 hd2 w1=>hM H0 hd2 fun {x2 ds3} e2 hd3 w2=>hA H0 hd3 fun {x3 ds4} e3 hd4 a=>k (R.of (m:=m+8) (fun C h=>[h.a e0 (lkq (q:=m) (b:=9) rfl),.cm (H:=dk ds1 H0) (not_in (t := "if") z),.bi (H:=dk ds1 H0) (sub1 (d:=d)),.cc (h.r (e1.up (j:=9))),.bi (H:=dk ds2 H0) (sub1 (d:=d)),.cc (h.r (e2.up (j:=9))),.cc (h.r (e3.up (j:=9)))]) fun _ _=>by kernel_rfl) hd4 (wf_if hb1 hc (nin z) w1 w2 (a.w hb1) a.a)
 ·refine some_m hM (kk:=3) (by decide) (by decide) H0 hd1 fun {v ds2} e1 hd2 ⟨xs,ev,hx,_,h2⟩=>?_
  subst ev
  refine draw (kk:=5) (by decide) (by decide) H0 hd2 fun {v ds3} e2 hd3 ⟨r,hr,ev⟩=>?_
  subst ev
  obtain ⟨i,sl⟩:=sl_any (xs:=xs) (i:=(r:Int).fdiv 4)
  exact k (R.of (m:=m+8) (aof e0 e1 e2 sl) fun _ _=>by kernel_rfl) hd3 (wf_ao hb1 hc (.inl rfl) (xs:=xs.drop i) (fun x h=>hx x (List.mem_of_mem_drop h)) (Nat.le_trans (Nat.le_of_eq (List.length_drop (i:=i) (l:=xs))) (Nat.le_trans (Nat.sub_le _ _) (Int.ofNat_le.mp h2))))
 ·refine some_m hM (kk:=3) (by decide) (by decide) H0 hd1 fun {v ds2} e1 hd2 ⟨xs,ev,hx,_,h2⟩=>?_
  subst ev
  refine draw (kk:=5) (by decide) (by decide) H0 hd2 fun {v ds3} e2 hd3 ⟨r,hr,ev⟩=>?_
  subst ev
  obtain ⟨i,sl⟩:=sl_any (xs:=xs) (i:=(r:Int).fdiv 4)
  exact k (R.of (m:=m+8) (aof e0 e1 e2 sl) fun _ _=>by kernel_rfl) hd3 (wf_ao hb1 hc (.inr rfl) (xs:=xs.drop i) (fun x h=>hx x (List.mem_of_mem_drop h)) (Nat.le_trans (Nat.le_of_eq (List.length_drop (i:=i) (l:=xs))) (Nat.le_trans (Nat.sub_le _ _) (Int.ofNat_le.mp h2))))
 ·exact bound_m o hj ih hb1 hc 7 (.inl rfl) H0 hd1 fun e h w=>k (R.of (m:=m+8) (fun C hC=>[hC.a e0 (lkq (q:=m) (b:=9) rfl),.cc (hC.r (e.up (j:=2)))]) fun _ _=>by kernel_rfl) h w
 ·exact bound_m o hj ih hb1 hc 8 (.inr rfl) H0 hd1 fun e h w=>k (R.of (m:=m+8) (fun C hC=>[hC.a e0 (lkq (q:=m) (b:=9) rfl),.cc (hC.r (e.up (j:=2)))]) fun _ _=>by kernel_rfl) h w
 ·exact loop_m o ih hb1 hc H0 hd1 fun e h w=>k (R.of (m:=m+8) (fun C hC=>[hC.a e0 (lkq (q:=m) (b:=9) rfl),.cc (hC.r (e.up (j:=2)))]) fun _ _=>by kernel_rfl) h w
 ·exact case_m o ih hb1 hc H0 hd1 fun e h w=>k (R.of (m:=m+8) (fun C hC=>[hC.a e0 (lkq (q:=m) (b:=9) rfl),.cc (hC.r (e.up (j:=2)))]) fun _ _=>by kernel_rfl) h w
 ·exact do_m o ih hb1 hc hj H0 hd1 fun e h w=>k (R.of (m:=m+8) (fun C hC=>[hC.a e0 (lkq (q:=m) (b:=9) rfl),.cc (hC.r (e.up (j:=2)))]) fun _ _=>by kernel_rfl) h w
 ·exact cnd fun e=>R.of (m:=m+8) (fun C hC=>[hC.a e0 (lkq (q:=m) (b:=9) rfl),.cc (hC.r (e.up (j:=2)))]) fun _ _=>by kernel_rfl
 ·exact cnd fun e=>R.of (m:=m+8) (fun C hC=>[hC.a e0 (lkq (q:=m) (b:=9) rfl),.cc (hC.r (e.up (j:=2)))]) fun _ _=>by kernel_rfl
end
noncomputable abbrev hpT:Hp:=[.list ((tabF 0 words).map (·.2)),.dictS (tabF 0 words),.dictS [],.dictS [],.attrs (attrsL 0),.inst .names 5,.dictI rootEs]
noncomputable abbrev hp0 (ds:List Int):Hp:=dk ds hpT
noncomputable abbrev dkE:E := .bin false .mod (.b1 false .abs (.v 1)) (.bin false .pow (.k (.int 10)) (.k (.int 16)))
section
variable {n m k b c L q d j:Nat} {C:Calls} {H H' H0:Hp} {ds ds' xs:List Int} {Z:Prop}
theorem deck_row (hC:Has m C) {a:Sl}:∀ {xs:List Int},evComp C [a,.undef] [1] dkE (.k (.bool true)) (xs.map .int) H=some ((xs.map fun i=>(i.natAbs:Int).fmod 10000000000000000).map .int,H)
 | []=>rfl
 | x::xs=>cp_c (ρ':=[a,.v (.int x)]) rfl (hC.e [] (by kernel_rfl)) (deck_row hC) rfl
theorem deck_m:R 2 .law_deck [.lst (xs.map .int)] [] (.ref 0,dk ((xs.take 12).map fun i=>(i.natAbs:Int).fmod 10000000000000000) []):=R.of (m:=0) (fun C hC=>[.ce (H:=[]) (ρ:=[.v (.lst (xs.map .int)),.undef]) (e := .comp true [1] dkE (.e (.sl false (.v 0) (.k .none) (.k (.int 12)))) (.k (.bool true))) (cp_i (heap:=true) (hC.i (r:=((xs.take 12).map .int,[])) [] (by rw [List.map_take]; kernel_rfl)) (deck_row hC))]) fun _ _=>by kernel_rfl
theorem world_m:R 20 .law_world [] (dk ds []) (.ref 6,hp0 ds):=fun n h=>by
 obtain ⟨k,rfl⟩:=Nat.exists_eq_add_of_le' h
 kernel_rfl
theorem wd0:Wd (hp0 ds) ⟨0,words⟩:=⟨fun i a e=>by
 match i,e with
 | 1,e=>exact e
 | 2,e=>exact e
 | 5,e=>exact e
 | 6,e=>exact e
 | 7,e=>exact e,by decide,List.prefix_refl _⟩
theorem ih0:IH 5 0 100 (Wn 0 4 1 32 0):=⟨fun o H0 _ hd _ k=>draw (kk:=14) (by decide) (by decide) H0 hd fun {v ds1} e0 hd1 ⟨w,hw,ev⟩=>by
 subst ev
 exact atom_w (d:=0) o.s o.l (.inl rfl) e0 hd1 fun e h a=>k e h (a.w (n:=0) (Nat.le_refl 1)),fun o H0 _ hd _ k=>draw (kk:=14) (by decide) (by decide) H0 hd fun {v ds1} e0 hd1 ⟨w,hw,ev⟩=>by
 subst ev
 exact atom_w (d:=0) o.s o.l (.inl rfl) e0 hd1 k⟩
theorem ih1 (h:IH m d (j+2) (Wn q (n+4) b c L)) (hb:1≤b) (hc:32≤c) (hj:j≤100):IH (m+10) (d+1) j (Wn (q+40) (n+14) (100*b) (100*c) (L+4)):=⟨fun o=>made_m o h hb hc hj,fun o=>(h.a (o.up (Nat.le_add_right j 2))).le (Nat.le_add_right m 10)⟩
theorem made_2:Mf 25 .law_made [.lst [],.int 2] (Wn 80 24 10000 320000 8 []):=(ih1 (n:=10) (q:=40) (b:=100) (c:=3200) (L:=4) (j:=96) (ih1 (n:=0) (q:=0) (j:=98) ih0 (Nat.le_refl 1) (Nat.le_refl 32) (by decide)) (by decide) (by decide) (by decide)).i (ns:=[]) ⟨fun _ h=>(nomatch h),Nat.zero_le _⟩
end
section
variable {HL HX:Hp} {w:W} {xs:List Int} {u x y:V} {T:List String} {q c L N:Nat} {Z:Prop}
noncomputable abbrev hpL (ds:List Int):Hp:=hp0 ds++[.list []]++[.list []]++[.dictS []]
noncomputable abbrev ev0 (HX:Hp):Ev:=⟨[],10,[],.obj .scope [rootS,.ref HX.length],[[]],[]⟩
noncomputable abbrev hp2 (HX:Hp):Hp:=HX++[.dictI []]++[.dictI []]
noncomputable abbrev hpP (HX:Hp):Nat:=(HX++[AO.dictI []]).length
theorem am0 (W':Wd HX w) (hl:10 < HX.length) (h9:HX[9]?=some (.list [])) (h8:HL[8]?=some (.list [])) (h10:HL[10]?=some (.dictS [])) (hw:w.ns.length≤N):Am (hpP HX) w.ns (ev0 HX) ⟨HL,hp2 HX,w,[],[]⟩ N:=by
 have l0:hpP HX=HX.length+1:=List.length_append
 exact ⟨⟨h8,W'.of fun i _ h=>(at_l (by rw [List.length_append]; exact Nat.lt_add_right 1 (Nat.lt_trans h (Nat.lt_trans (by decide) hl)))).trans (at_l (Nat.lt_trans h (Nat.lt_trans (by decide) hl))),at_n,fun _ _ h=>(nomatch h),at_a (at_a h9),Nat.lt_of_lt_of_eq (Nat.lt_succ_of_lt (Nat.lt_of_succ_lt hl)) l0.symm,hw,Nat.zero_le _,Nat.zero_le _,fun _ h=>(nomatch h),fun _ h=>nomatch h⟩,h10,.cons (at_a at_n) (Nat.lt_of_succ_lt hl) (Nat.ne_of_lt (Nat.lt_of_lt_of_eq (Nat.lt_succ_self _) l0.symm)) (fun _ _ h=>(nomatch h)) .root,fun _ _=>root_odd,⟨fun _ h=>(nomatch h),fun _ _ _ _ _=>rfl⟩,List.prefix_refl _,fun _ h=>nomatch h⟩
theorem two_runs (g:∀ {T:List String},w.ns<+:T→T.Nodup→Gd 85 320000 8 T [] x y) (W':Wd HX w) (hl:10 < HX.length) (h9:HX[9]?=some (.list [])) (h8:HL[8]?=some (.list [])) (h10:HL[10]?=some (.dictS [])) (hw:w.ns.length≤14+10000) (k:∀ {u:V} {s:X} {N:Nat},LV 85 10 x HL (u,s.HL)→R 86 .law_run (runA (hpP HX) y (.obj .scope [rootS,.ref HX.length])) (hp2 HX) (u,s.HR)→VOK u→J (hpP HX) [] s N→Po (hpP HX) [] ⟨HL,hp2 HX,w,[],[]⟩ s→Z):Z:=by
 cases (g (List.prefix_refl _) W'.nd).sm (e:=ev0 HX) (am0 W' hl h9 h8 h10 hw) (Nat.le_of_ble_eq_true rfl) (Nat.le_of_ble_eq_true rfl) with
 | mk a b c d e=>exact k a (Rn.run b) c d e
theorem neR {H:Hp} {l:List Int} (h:H[9]?=some (.list (l.map .int))) (h':H[8]?=some (.list (l.map .int))):cmpV H .ne (.ref 9) (.ref 8)=some (.bool false):=by
 have e:eqL (l.map .int) (l.map .int)=some true:=by unfold eqL; rw [ints_map]; exact congrArg some (decide_eq_true rfl)
 exact mi (v:=true) (show eqV H (.ref 9) (.ref 8)=some true from (bi (v:=l.map .int) (show items H (.ref 9)=_ from bi h rfl) (bi (v:=l.map .int) (show items H (.ref 8)=_ from bi h' rfl) e)))
theorem neS {H:Hp} {a:String}:cmpV H .ne (.str a) (.str a)=some (.bool false):=congrArg (fun b=>some (V.bool !b)) (beq_self_eq_true a)
theorem law_true (xs:List Int):∃ H',rn 100 .law [.lst (xs.map .int)] []=some (.bool true,H'):=by
 refine made_2 hpT (ds:=(xs.take 12).map fun i=>(i.natAbs:Int).fmod 10000000000000000) ?_ fun {x ds} em _ wn=>?_
 ·rw [List.length_map,List.length_take]; exact Nat.min_le_left _ _
 have WL:Wd (hpL ds) ⟨0,words⟩:=(wd0 (ds:=ds)).of fun _ _ h=>(at_l (Nat.lt_of_lt_of_le h (Nat.le_of_ble_eq_true rfl))).trans ((at_l (Nat.lt_of_lt_of_le h (Nat.le_of_ble_eq_true rfl))).trans (at_l (Nat.lt_of_lt_of_le h (Nat.le_of_ble_eq_true rfl))))
 refine wn WL (Nat.le_of_ble_eq_true rfl) fun {y0 w0 H0} d0 n0 s0 g0=>?_
 refine two_runs (HL:=hpL ds) g0 s0.wd (s0.len▸Nat.le_of_ble_eq_true rfl) ((s0.hw 9 (by decide)).trans rfl) rfl rfl s0.ln fun {u s1 N1} lv _ vo j1 p1=>?_
 have k1:∀ i,i < 11→i≠8→s1.HL[i]?=(hpL ds)[i]?:=fun i h1 h2=>p1.kl i h1 h2 fun _ h=>nomatch h
 have W1:Wd s1.HL ⟨0,words⟩:=WL.of fun i _ h=>k1 i (Nat.lt_trans h (by decide)) (Nat.ne_of_lt h)
 refine wn W1 (Nat.le_of_ble_eq_true rfl) fun {y w2 HX} d2 n2 s2 g2=>?_
 have l2:10 < HX.length:=s2.len▸p1.ll
 refine two_runs (HL:=hpL ds) g2 s2.wd l2 ((s2.hw 9 (by decide)).trans ((k1 9 (by decide) (by decide)).trans rfl)) rfl rfl s2.ln fun {u' s3 N3} lv2 rr vo2 j3 p3=>?_
 have e:=Option.some.inj ((lv2 100 (by decide)).symm.trans (lv 100 (by decide)))
 have eu:u'=u:=congrArg Prod.fst e
 have eh:s3.HL=s1.HL:=congrArg Prod.snd e
 subst eu
 have t8:s3.HR[8]?=some (.list (s3.told.map .int)):=p3.k8.trans (at_a (at_a ((s2.hw 8 (by decide)).trans (eh▸j3.s8))))
 exact ⟨s3.HR,(R.of (m:=98) (fun C h=>[h.a (deck_m (xs:=xs)),h.a (world_m (ds:=(xs.take 12).map fun i=>(i.natAbs:Int).fmod 10000000000000000)),.r1 (n:=1) (by decide),h.a em,h.a lv,h.a d2,.at (a_root s2.wd),h.a rr,h.a (shown_eq (H:=s3.HR) vo),h.a (shown_eq (H:=s3.HR) vo),.cm (neS (a:=shw u') (H:=s3.HR)),.cm (neR j3.td t8)]) fun _ _=>by kernel_rfl:R 100 .law [.lst (xs.map .int)] [] (.bool true,s3.HR)) 100 (by decide)⟩
end
open PySem PySem.W PySem.Calls PyProof.Rows
noncomputable def fnRows:List (String×Nat):=[("",90),("list_of",182),("split_list",189),("is_identifier",340),("key_of",347),("",375),("",389),("",396),("same_denotation",424),("same",431),("special_word",438),("alias_of",445),("word_of",466),("things_of",473),("inner_list",480),("is_word",487),("bindings_of",494),("sequence",501),("choice",508),("procedure",515),("kept",522),("do_and",529),("do_or",536),("do_let",543),("do_let_star",550),("do_letrec",555),("cond_clause",562),("do_cond",569),("case_test",576),("do_case",583),("step_of",590),("do_do",597),("",618),("_law_deck",687),("_law_draw",694),("_law_plus",701),("_law_shown",708),("_law_less",715),("_law_name",722),("_law_some",727),("_law_made",732),("_law_bound",739),("_law_loop",744),("_law_case",749),("_law_cond",756),("_law_do",761),("_law_seq",768),("_law_value",775),("_law_wide_value",780),("_law_cond_value",787),("_law_do_value",794),("_law_list",799),("_law_data",804),("_law_datum",809),("_law_loop_datum",816),("_law_choice_datum",823),("_law_do_datum",830),("_law_called",835),("_law_entered",840),("_law_bind",847),("_law_turned",854),("_law_run",859),("_law_world",866),("law",873)]
noncomputable def layRows:List (List (Option String)):=[[some "self",some "text",some "found"],
 [some "things",some "tail",some "found",some "place"],
 [some "datum",some "things",some "at",some "slow"],
 [some "datum"],
 [some "identifier"],
 [some "self",some "identifier",some "denotation"],
 [some "self",some "identifier",some "key",some "at",some "found"],
 [some "self",some "identifier",some "scope",some "at",some "found"],
 [some "one",some "other"],
 [some "one",some "scope",some "other",some "other_scope"],
 [some "datum",some "scope",some "found"],
 [some "base",some "scope",some "world"],
 [some "world",some "text"],
 [some "form",some "least",some "things",some "tail"],
 [some "datum",some "form",some "things",some "tail"],
 [some "thing",some "text",some "scope",some "world"],
 [some "datum",some "form",some "names",some "parts",some "binding",some "things"],
 [some "world",some "parts"],
 [some "world",some "test",some "yes",some "no"],
 [some "world",some "formals",some "body"],
 [some "world",some "name",some "part",some "body"],
 [some "form",some "scope",some "world",some "parts",some "found",some "part"],
 [some "form",some "scope",some "world",some "parts",some "found",some "part",some "name"],
 [some "form",some "scope",some "world",some "parts",some "names",some "given",some "own",some "knot"],
 [some "form",some "scope",some "world",some "parts",some "names",some "given",some "last",some "found",some "place"],
 [some "form",some "scope",some "world",some "parts",some "names",some "given",some "inner",some "body",none,none],
 [some "clause",some "rest",some "form",some "scope",some "world",some "things",some "name",some "behind"],
 [some "form",some "scope",some "world",some "clauses",some "found",some "place",some "things"],
 [some "name",some "datums",some "world",some "known"],
 [some "form",some "scope",some "world",some "parts",some "clauses",some "name",some "found",some "place",some "things"],
 [some "things",some "form"],
 [some "form",some "scope",some "world",some "parts",some "names",some "given",some "steps",some "binding",some "name",some "first",some "step",some "ending",some "turn",some "again",some "nothing",some "told",some "loop",some "own"],
 [some "self"],
 [some "script",none],
 [some "deck",some "many",some "found"],
 [some "one",some "other",some "first"],
 [some "value"],
 [some "one",some "other"],
 [some "deck"],
 [some "deck",some "names",some "deep",some "most",none],
 [some "deck",some "names",some "deep",some "way",some "some",none],
 [some "deck",some "names",some "deep",some "way",some "word",some "own",some "parts",some "turn",some "name"],
 [some "deck",some "names",some "deep",some "word",some "tag",some "name",some "inner",none],
 [some "deck",some "names",some "deep",some "clauses",some "turn",some "known",some "last",none],
 [some "deck",some "names",some "deep",some "clauses",some "turn",some "sort",some "test",some "last"],
 [some "deck",some "names",some "deep",some "name",some "beside",some "inner",some "told",some "commands",some "step",none],
 [some "parts",some "known",some "said",some "found",some "part"],
 [some "made_here",some "known",some "said",some "word",some "found",some "one",some "other",some "part"],
 [some "word",some "made_here",some "known",some "said",some "inner",some "name",some "part",some "found",some "turn",some "key",some "datums",some "parts",none],
 [some "made_here",some "known",some "said",some "place",some "sort",some "test",some "parts",some "found"],
 [some "made_here",some "known",some "said",some "at",some "beside",some "inner"],
 [some "world",some "parts",none],
 [some "world",some "parts",none],
 [some "world",some "made_here",some "word",some "bindings",none,none],
 [some "world",some "made_here",some "tag",some "name",some "less",some "turn",some "body",some "own"],
 [some "world",some "made_here",some "clauses",some "datums",some "parts",some "sort",some "test",some "behind_here",some "first"],
 [some "world",some "made_here",some "first",some "other",some "ending",some "test",some "commands"],
 [some "told",some "given",some "said",none],
 [some "closure",some "given",some "places",some "world",some "said",some "inner",some "forms",some "name",some "value",some "scope",some "defined",some "form",some "rest",none],
 [some "name",some "value",some "scope",some "places",some "world",some "number"],
 [some "word",some "form",some "scope",some "world"],
 [some "form",some "scope",some "places",some "world",some "said",some "meaning",some "word",some "things",some "is_so",some "given",none],
 [some "world",some "word"],
 [some "script",some "deck",some "world",some "turn",some "made_here",some "said",some "told",some "due",some "datum",some "found"]]
noncomputable def emptyA:Addr:=44
noncomputable def unspecA:Addr:=47
noncomputable def Cls.nat (c:Cls):Nat:=match c with | .pair=>0 | .symbol=>1 | .alias=>2 | .special=>3 | .locName=>4 | .globName=>5 | .scope=>6 | .symtab=>7 | .names=>8
noncomputable def clsRows:List (String×Nat):=[("Pair",149),("Symbol",65),("Alias",245),("Special_scopes",266),("LocalName",287),("GlobalName",308),("Scope",413),("SymbolTable",128),("Names",677)]
noncomputable def Cls.addr (c:Cls):Addr:=match c with | .pair=>149 | .symbol=>65 | .alias=>245 | .special=>266 | .locName=>287 | .globName=>308 | .scope=>413 | .symtab=>128 | .names=>677
noncomputable def rows:List (String×Nat):=clsRows++fnRows
noncomputable def Fn.row (f:Fn):String×Nat:=(rows[f.c]?).getD ("",0)
noncomputable def Fn.adr (f:Fn):Addr:=f.row.2
noncomputable def derivedA:Nat:=682
noncomputable def globsF:List (String×Nat):=rows.filter fun x=>x.1 != ""
noncomputable def globs:List (String×Nat):=globsF++[("EMPTY",emptyA),("UNSPECIFIED",unspecA),("_law_derived",derivedA),("Macro",329)]
noncomputable def blts:List String:=["len", "abs", "repr", "dict", "min", "isinstance", "range", "zip", "tuple", "str", "bool", "int"]
noncomputable abbrev Lay:=List (Option Str)
section
variable {x:Expr} {t:Stmt} {P:Expr→Prop} {Q:Stmt→Prop}
theorem ditE {c:Prop} [Decidable c] {f:c→Bool} (h:dite c f (fun _=>false)=true):c:=by
 by_cases q:c
 ·exact q
 ·rw [dif_neg q] at h; cases h
noncomputable def vBool (x:Expr) (f:BoolOp→List Expr→Pos→Bool):Bool:=dite (x.ctorIdx=0) (fun h=>Expr.BoolOp.elim x h f) fun _=>false
theorem vBool_of {f} (h:vBool x f=true) (k:∀ a b p,f a b p=true→P (.BoolOp a b p)):P x:=Expr.BoolOp.elim (motive_1:=fun x=>vBool x f=true→P x) x (ditE h) k h
noncomputable def vBin (x:Expr) (f:Expr→Operator→Expr→Pos→Bool):Bool:=dite (x.ctorIdx=2) (fun h=>Expr.BinOp.elim x h f) fun _=>false
theorem vBin_of {f} (h:vBin x f=true) (k:∀ a b c p,f a b c p=true→P (.BinOp a b c p)):P x:=Expr.BinOp.elim (motive_1:=fun x=>vBin x f=true→P x) x (ditE h) k h
noncomputable def vUn (x:Expr) (f:UnaryOp→Expr→Pos→Bool):Bool:=dite (x.ctorIdx=3) (fun h=>Expr.UnaryOp.elim x h f) fun _=>false
theorem vUn_of {f} (h:vUn x f=true) (k:∀ a b p,f a b p=true→P (.UnaryOp a b p)):P x:=Expr.UnaryOp.elim (motive_1:=fun x=>vUn x f=true→P x) x (ditE h) k h
noncomputable def vIf (x:Expr) (f:Expr→Expr→Expr→Pos→Bool):Bool:=dite (x.ctorIdx=5) (fun h=>Expr.IfExp.elim x h f) fun _=>false
theorem vIf_of {f} (h:vIf x f=true) (k:∀ a b c p,f a b c p=true→P (.IfExp a b c p)):P x:=Expr.IfExp.elim (motive_1:=fun x=>vIf x f=true→P x) x (ditE h) k h
noncomputable def vDict (x:Expr) (f:List (Option Expr)→List Expr→Pos→Bool):Bool:=dite (x.ctorIdx=6) (fun h=>Expr.Dict.elim x h f) fun _=>false
theorem vDict_of {f} (h:vDict x f=true) (k:∀ a b p,f a b p=true→P (.Dict a b p)):P x:=Expr.Dict.elim (motive_1:=fun x=>vDict x f=true→P x) x (ditE h) k h
noncomputable def vLC (x:Expr) (f:Expr→List Comprehension→Scope→Pos→Bool):Bool:=dite (x.ctorIdx=8) (fun h=>Expr.ListComp.elim x h f) fun _=>false
theorem vLC_of {f} (h:vLC x f=true) (k:∀ a b c p,f a b c p=true→P (.ListComp a b c p)):P x:=Expr.ListComp.elim (motive_1:=fun x=>vLC x f=true→P x) x (ditE h) k h
noncomputable def vCmp (x:Expr) (f:Expr→List CmpOp→List Expr→Pos→Bool):Bool:=dite (x.ctorIdx=15) (fun h=>Expr.Compare.elim x h f) fun _=>false
theorem vCmp_of {f} (h:vCmp x f=true) (k:∀ a b c p,f a b c p=true→P (.Compare a b c p)):P x:=Expr.Compare.elim (motive_1:=fun x=>vCmp x f=true→P x) x (ditE h) k h
noncomputable def vCall (x:Expr) (f:Expr→List Expr→List Keyword→Pos→Bool):Bool:=dite (x.ctorIdx=16) (fun h=>Expr.Call.elim x h f) fun _=>false
theorem vCall_of {f} (h:vCall x f=true) (k:∀ a b c p,f a b c p=true→P (.Call a b c p)):P x:=Expr.Call.elim (motive_1:=fun x=>vCall x f=true→P x) x (ditE h) k h
noncomputable def vK (x:Expr) (f:Const→Nat→Pos→Bool):Bool:=dite (x.ctorIdx=19) (fun h=>Expr.Constant.elim x h f) fun _=>false
theorem vK_of {f} (h:vK x f=true) (k:∀ a b p,f a b p=true→P (.Constant a b p)):P x:=Expr.Constant.elim (motive_1:=fun x=>vK x f=true→P x) x (ditE h) k h
noncomputable def vAt (x:Expr) (f:Expr→Str→Pos→Bool):Bool:=dite (x.ctorIdx=20) (fun h=>Expr.Attribute.elim x h f) fun _=>false
theorem vAt_of {f} (h:vAt x f=true) (k:∀ a b p,f a b p=true→P (.Attribute a b p)):P x:=Expr.Attribute.elim (motive_1:=fun x=>vAt x f=true→P x) x (ditE h) k h
noncomputable def vSub (x:Expr) (f:Expr→Expr→Pos→Bool):Bool:=dite (x.ctorIdx=21) (fun h=>Expr.Subscript.elim x h f) fun _=>false
theorem vSub_of {f} (h:vSub x f=true) (k:∀ a b p,f a b p=true→P (.Subscript a b p)):P x:=Expr.Subscript.elim (motive_1:=fun x=>vSub x f=true→P x) x (ditE h) k h
noncomputable def vNm (x:Expr) (f:Str→Pos→Bool):Bool:=dite (x.ctorIdx=23) (fun h=>Expr.Name.elim x h f) fun _=>false
theorem vNm_of {f} (h:vNm x f=true) (k:∀ a p,f a p=true→P (.Name a p)):P x:=Expr.Name.elim (motive_1:=fun x=>vNm x f=true→P x) x (ditE h) k h
noncomputable def vLs (x:Expr) (f:List Expr→Pos→Bool):Bool:=dite (x.ctorIdx=24) (fun h=>Expr.List.elim x h f) fun _=>false
theorem vLs_of {f} (h:vLs x f=true) (k:∀ a p,f a p=true→P (.List a p)):P x:=Expr.List.elim (motive_1:=fun x=>vLs x f=true→P x) x (ditE h) k h
noncomputable def vTp (x:Expr) (f:List Expr→Nat→Pos→Bool):Bool:=dite (x.ctorIdx=25) (fun h=>Expr.Tuple.elim x h f) fun _=>false
theorem vTp_of {f} (h:vTp x f=true) (k:∀ a b p,f a b p=true→P (.Tuple a b p)):P x:=Expr.Tuple.elim (motive_1:=fun x=>vTp x f=true→P x) x (ditE h) k h
noncomputable def vSl (x:Expr) (f:Option Expr→Option Expr→Option Expr→Pos→Bool):Bool:=dite (x.ctorIdx=26) (fun h=>Expr.Slice.elim x h f) fun _=>false
theorem vSl_of {f} (h:vSl x f=true) (k:∀ a b c p,f a b c p=true→P (.Slice a b c p)):P x:=Expr.Slice.elim (motive_1:=fun x=>vSl x f=true→P x) x (ditE h) k h
noncomputable def vRet (x:Stmt) (f:Option Expr→Pos→Bool):Bool:=dite (x.ctorIdx=3) (fun h=>Stmt.Return.elim x h f) fun _=>false
theorem vRet_of {f} (h:vRet t f=true) (k:∀ a p,f a p=true→Q (.Return a p)):Q t:=Stmt.Return.elim (motive_2:=fun x=>vRet x f=true→Q x) t (ditE h) k h
noncomputable def vAsg (x:Stmt) (f:List Expr→Expr→Pos→Bool):Bool:=dite (x.ctorIdx=5) (fun h=>Stmt.Assign.elim x h f) fun _=>false
theorem vAsg_of {f} (h:vAsg t f=true) (k:∀ a b p,f a b p=true→Q (.Assign a b p)):Q t:=Stmt.Assign.elim (motive_2:=fun x=>vAsg x f=true→Q x) t (ditE h) k h
noncomputable def vFor (x:Stmt) (f:Expr→Expr→List Stmt→List Stmt→Pos→Bool):Bool:=dite (x.ctorIdx=9) (fun h=>Stmt.For.elim x h f) fun _=>false
theorem vFor_of {f} (h:vFor t f=true) (k:∀ a b c d p,f a b c d p=true→Q (.For a b c d p)):Q t:=Stmt.For.elim (motive_2:=fun x=>vFor x f=true→Q x) t (ditE h) k h
noncomputable def vWh (x:Stmt) (f:Expr→List Stmt→List Stmt→Pos→Bool):Bool:=dite (x.ctorIdx=11) (fun h=>Stmt.While.elim x h f) fun _=>false
theorem vWh_of {f} (h:vWh t f=true) (k:∀ a b c p,f a b c p=true→Q (.While a b c p)):Q t:=Stmt.While.elim (motive_2:=fun x=>vWh x f=true→Q x) t (ditE h) k h
noncomputable def vIfS (x:Stmt) (f:Expr→List Stmt→List Stmt→Pos→Bool):Bool:=dite (x.ctorIdx=12) (fun h=>Stmt.If.elim x h f) fun _=>false
theorem vIfS_of {f} (h:vIfS t f=true) (k:∀ a b c p,f a b c p=true→Q (.If a b c p)):Q t:=Stmt.If.elim (motive_2:=fun x=>vIfS x f=true→Q x) t (ditE h) k h
noncomputable def vEx (x:Stmt) (f:Expr→Pos→Bool):Bool:=dite (x.ctorIdx=24) (fun h=>Stmt.Expr.elim x h f) fun _=>false
theorem vEx_of {f} (h:vEx t f=true) (k:∀ a p,f a p=true→Q (.Expr a p)):Q t:=Stmt.Expr.elim (motive_2:=fun x=>vEx x f=true→Q x) t (ditE h) k h
end
section
variable {α:Type} {xs:List α} {P:List α→Prop} {O:Option α→Prop} {a b:Bool} {q:Prop}
noncomputable def v1 (xs:List α) (f:α→Bool):Bool:=match xs with | [x]=>f x | _=>false
theorem v1_of {f:α→Bool} (h:v1 xs f=true) (k:∀ x,f x=true→P [x]):P xs:=match xs,h with | [x],h=>k x h
noncomputable def v2 (xs:List α) (f:α→α→Bool):Bool:=match xs with | [x,y]=>f x y | _=>false
theorem v2_of {f:α→α→Bool} (h:v2 xs f=true) (k:∀ x y,f x y=true→P [x,y]):P xs:=match xs,h with | [x,y],h=>k x y h
noncomputable def v3 (xs:List α) (f:α→α→α→Bool):Bool:=match xs with | [x,y,z]=>f x y z | _=>false
theorem v3_of {f:α→α→α→Bool} (h:v3 xs f=true) (k:∀ x y z,f x y z=true→P [x,y,z]):P xs:=match xs,h with | [x,y,z],h=>k x y z h
noncomputable def vC (xs:List α) (f:α→List α→Bool):Bool:=match xs with | x::r=>f x r | []=>false
theorem vC_of {f:α→List α→Bool} (h:vC xs f=true) (k:∀ x r,f x r=true→P (x::r)):P xs:=match xs,h with | x::r,h=>k x r h
theorem v0_of (h:xs.isEmpty=true) (k:P []):P xs:=match xs,h with | [],_=>k
noncomputable def vO (o:Option α) (f:α→Bool):Bool:=match o with | some x=>f x | none=>false
theorem vO_of {f:α→Bool} {o:Option α} (h:vO o f=true) (k:∀ x,f x=true→O (some x)):O o:=match o,h with | some x,h=>k x h
theorem vN_of {o:Option α} (h:o.isNone=true) (k:O none):O o:=match o,h with | none,_=>k
theorem andE (h:(a&&b)=true) (k:a=true→b=true→q):q:=match a,h with | true,h=>k rfl h
theorem notE (h:(!a)=true):a=false:=match a,h with | false,_=>rfl
theorem orE (h:(a||b)=true) (k:a=true→q) (l:b=true→q):q:=match a,h with | true,_=>k rfl | false,h=>l h
end
section
variable {q:Prop}
theorem vO_e {α:Type} {f:α→Bool} {o:Option α} (h:vO o f=true) (k:∀ x,o=some x→f x=true→q):q:=vO_of (O:=fun o'=>o=o'→q) h (fun x h e=>k x e h) rfl
noncomputable def vFn (x:Data) (f:FuncData→Bool):Bool:=dite (x.ctorIdx=7) (fun h=>Data.func.elim x h f) fun _=>false
theorem vFn_e {x:Data} {f} (h:vFn x f=true) (k:∀ a,x = .func a→f a=true→q):q:=Data.func.elim (motive:=fun y=>vFn y f=true→x=y→q) x (ditE h) (fun a h e=>k a e h) h rfl
noncomputable def vSeq (x:Data) (f:Array Value→Nat→Bool):Bool:=dite (x.ctorIdx=2) (fun h=>Data.seq.elim x h f) fun _=>false
theorem vSeq_e {x:Data} {f} (h:vSeq x f=true) (k:∀ a n,x = .seq a n→f a n=true→q):q:=Data.seq.elim (motive:=fun y=>vSeq y f=true→x=y→q) x (ditE h) (fun a n h e=>k a n e h) h rfl
noncomputable def vPlain (x:Data):Bool:=dite (x.ctorIdx=0) (fun h=>Data.plain.elim x h true) fun _=>false
theorem vPlain_e {x:Data} (h:vPlain x=true):x = .plain:=Data.plain.elim (motive:=fun y=>y = .plain) x (ditE h) rfl
noncomputable def vBody (x:FuncBody) (f:List Stmt→Bool):Bool:=dite (x.ctorIdx=0) (fun h=>FuncBody.stmts.elim x h f) fun _=>false
theorem vBody_e {x:FuncBody} {f} (h:vBody x f=true) (k:∀ a,x = .stmts a→f a=true→q):q:=FuncBody.stmts.elim (motive:=fun y=>vBody y f=true→x=y→q) x (ditE h) (fun a h e=>k a e h) h rfl
noncomputable def vRef (x:Value) (f:Addr→Bool):Bool:=dite (x.ctorIdx=10) (fun h=>Value.ref.elim x h f) fun _=>false
theorem vRef_e {x:Value} {f} (h:vRef x f=true) (k:∀ a,x = .ref a→f a=true→q):q:=Value.ref.elim (motive:=fun y=>vRef y f=true→x=y→q) x (ditE h) (fun a h e=>k a e h) h rfl
end
noncomputable def isGlob (sc:Scope) (id:Str) (n:String) (a:Nat):Bool:=(id == Str.ofString n)&&(globs.contains (n,a)&&(sc.names.lookup id == some .globalImplicit))
noncomputable def isBlt (sc:Scope) (id:Str) (n:String):Bool:=(id == Str.ofString n)&&(blts.contains n&&(sc.names.lookup id == some .globalImplicit))
noncomputable def kindV (sc:Scope) (id:Str):Bool:=sc.names.lookup id == some .local||(sc.names.lookup id == some .cell||sc.names.lookup id == some .free)
noncomputable def isVar (sc:Scope) (lay:Lay) (i:Nat) (id:Str):Bool:=(lay[i]? == some (some id))&&(kindV sc id&&(!(id == ("__debug__":Str)) && !(id == ("__classdict__":Str))))
noncomputable def BO.op:BO→Operator
 | .add => .Add | .sub => .Sub | .mul => .Mult | .div => .FloorDiv | .mod => .Mod | .pow => .Pow
noncomputable def CO.op:CO→CmpOp
 | .eq => .Eq | .ne => .NotEq | .lt => .Lt | .gt => .Gt | .is => .Is | .isNot => .IsNot | .isIn => .In | .notIn => .NotIn
noncomputable def B1.nm:B1→String
 | .len => "len" | .abs => "abs" | .repr => "repr" | .dictS => "dict"
noncomputable def cOf (v:V):Option Const:=match v with
 | .none=>some .none | .bool b=>some (.bool b) | .int i=>some (.int i) | .str s=>some (.str (Str.ofString s)) | _=>Option.none
noncomputable def constE (v:V) (x:Expr):Bool:=vK x (fun c _ _=>cOf v == some c)||vUn x fun o y _=>(o == .USub)&&vK y fun c _ _=>vO v.int? fun j=>c == .int (-j)
noncomputable def isM1 (x:Expr):Bool:=vUn x fun o y _=>(o == .USub)&&vK y fun c _ _=>c == .int 1
noncomputable def globV (sc:Scope) (id:Str) (v:V):Bool:=match v with
 | .empty=>isGlob sc id "EMPTY" emptyA
 | .unspec=>isGlob sc id "UNSPECIFIED" unspecA
 | .tup xs=>isGlob sc id "_law_derived" derivedA&&(strs? xs == some ["and", "or", "let", "let*", "letrec", "cond", "case", "do"])
 | _=>false
noncomputable def globE (sc:Scope) (v:V) (x:Expr):Bool:=vNm x fun id _=>globV sc id v
noncomputable def noSuper (x:Expr):Bool:=vNm x (fun _ _=>true)||(vAt x (fun _ _ _=>true)||(vSub x (fun _ _ _=>true)||vCall x fun f _ _ _=>vAt f fun _ _ _=>true))
noncomputable def argsOk (xs:List Expr):Bool:=decide (xs.length < 15)&&xs.all fun x => !isStarred x
noncomputable def Ty.ok (sc:Scope) (t:Ty) (x:Expr):Bool:=match t with
 | .cls c=>vNm x fun id _=>isGlob sc id (rows[c.nat]?.getD ("",0)).1 c.addr
 | .macro=>vNm x fun id _=>isGlob sc id "Macro" 329
 | .tuple=>vNm x fun id _=>isBlt sc id "tuple"
 | .str=>vNm x fun id _=>isBlt sc id "str"
 | .bool=>vNm x fun id _=>isBlt sc id "bool"
 | .int=>vNm x fun id _=>isBlt sc id "int"
 | .boolInt=>vTp x fun es _ _=>v2 es fun a b=>vNm a (fun id _=>isBlt sc id "bool")&&vNm b fun id _=>isBlt sc id "int"
noncomputable abbrev ME:=Bool→Scope→Lay→Expr→Bool
noncomputable abbrev MEs:=Scope→Lay→List Expr→Bool
noncomputable def nameOf (x:Expr):Option Str:=dite (x.ctorIdx=23) (fun h=>Expr.Name.elim x h fun id _=>some id) fun _=>none
noncomputable def tupEs (x:Expr):Option (List Expr):=dite (x.ctorIdx=25) (fun h=>Expr.Tuple.elim x h fun es _ _=>some es) fun _=>none
noncomputable def tgNames (x:Expr):Option (List Str):=match nameOf x with | some id=>some [id] | none=>(tupEs x).bind (·.mapM nameOf)
theorem diteN {α:Type} {c:Prop} [Decidable c] {f:c→Option α} {r:α} (h:dite c f (fun _=>none)=some r):c:=by
 by_cases q:c
 ·exact q
 ·rw [dif_neg q] at h; cases h
theorem nameOf_e {x:Expr} {id:Str} {q:Prop} (h:nameOf x=some id) (k:∀ p,x = .Name id p→q):q:=Expr.Name.elim (motive_1:=fun y=>nameOf y=some id→x=y→q) x (diteN h) (fun i p e c=>k p ((Option.some.inj (e:some i=some id))▸c)) h rfl
theorem tupEs_e {x:Expr} {es:List Expr} {q:Prop} (h:tupEs x=some es) (k:∀ m p,x = .Tuple es m p→q):q:=Expr.Tuple.elim (motive_1:=fun y=>tupEs y=some es→x=y→q) x (diteN h) (fun i m p e c=>k m p ((Option.some.inj (e:some i=some es))▸c)) h rfl
noncomputable def tgSole (x:Expr):Bool:=vNm x fun _ _=>true
noncomputable def layIn (csc:Scope) (lay:Lay) (tg:List Nat) (ns:List Str):Lay:=
 (List.range lay.length).map fun i=>match tg.idxOf? i with
  | some j=>ns[j]?
  | none=>match lay[i]? with
   | some (some x)=>if csc.names.lookup x == some .free then some x else none
   | _=>none
noncomputable def injOk (lay:Lay):Bool:=lay.zipIdx.all fun p=>p.1.isNone||(lay.idxOf? p.1 == some p.2)
noncomputable def layAll (lay:Lay) (is:List Nat) (ns:List Str):Bool:=decide (is.length=ns.length)&&(is.zip ns).all fun p=>lay[p.1]? == some (some p.2)
noncomputable def tgOk (csc:Scope) (lay:Lay) (tg:List Nat) (ns:List Str) (ly:Lay):Bool:=
 injOk ly&&(layAll ly tg ns&&(ns.all (fun n=>csc.names.lookup n == some .local)&&ly.zipIdx.all fun p=>p.1.isNone||(tg.contains p.2||((lay[p.2]? == some p.1)&&vO p.1 fun x=>csc.names.lookup x == some .free))))
noncomputable def compScOk (sc csc:Scope):Bool:=
 (csc.kind == .function)&&(csc.names.all (fun x=>(csc.names.lookup x.1 == some x.2)&&(x.2 == .local||(x.2 == .free||x.2 == .globalImplicit)))&&csc.names.all fun x=>x.2 != .free||sc.names.lookup x.1 == some .cell)
noncomputable def vEk (e:E) (f:V→Bool):Bool:=E.casesOn (motive_1:=fun _=>Bool) e f (fun _=>false) (fun _=>false) (fun _=>false) (fun _ _ _ _=>false) (fun _ _ _ _=>false) (fun _=>false) (fun _ _=>false) (fun _ _=>false) (fun _ _ _=>false) (fun _ _ _=>false) (fun _ _ _=>false) (fun _ _=>false) (fun _ _ _=>false) (fun _ _=>false) (fun _ _ _=>false) (fun _ _=>false) (fun _=>false) (fun _ _=>false) (fun _ _=>false) (fun _ _ _=>false) (fun _ _ _ _=>false) (fun _ _=>false) (fun _ _=>false) (fun _=>false) (fun _=>false) (fun _ _ _ _ _=>false)
theorem vEk_of {e:E} {P:E→Prop} {f} (h:vEk e f=true) (k:∀ v,f v=true→P (.k v)):P e:=by
 cases e <;> first | exact k _ h | cases h
noncomputable def vCo (e:E) (f:Bool→List Nat→E→I→E→Bool):Bool:=E.casesOn (motive_1:=fun _=>Bool) e (fun _=>false) (fun _=>false) (fun _=>false) (fun _=>false) (fun _ _ _ _=>false) (fun _ _ _ _=>false) (fun _=>false) (fun _ _=>false) (fun _ _=>false) (fun _ _ _=>false) (fun _ _ _=>false) (fun _ _ _=>false) (fun _ _=>false) (fun _ _ _=>false) (fun _ _=>false) (fun _ _ _=>false) (fun _ _=>false) (fun _=>false) (fun _ _=>false) (fun _ _=>false) (fun _ _ _=>false) (fun _ _ _ _=>false) (fun _ _=>false) (fun _ _=>false) (fun _=>false) (fun _=>false) f
theorem vCo_of {e:E} {P:E→Prop} {f} (h:vCo e f=true) (k:∀ a b c i d,f a b c i d=true→P (.comp a b c i d)):P e:=by
 cases e <;> first | exact k _ _ _ _ _ h | cases h
noncomputable def E.isK (e:E) (v:V):Bool:=vEk e fun u=>cOf u == cOf v
noncomputable def notSet (x:Expr):Bool := !(Nat.beq x.ctorIdx 7)
noncomputable def ixOk (x:Expr):Bool:=vNm x (fun _ _=>true)||(vK x (fun _ _ _=>true)||(vUn x (fun _ _ _=>true)||(vBin x (fun _ _ _ _=>true)||(vCall x (fun _ _ _ _=>true)||(vAt x (fun _ _ _=>true)||vSub x (fun _ _ _=>true))))))
noncomputable def part (m:Expr→Bool) (e:E) (o:Option Expr):Bool:=match o with | some x=>m x | none=>e.isK .none
noncomputable def meth (x:Expr) (nm:String) (ln:Nat) (f:Expr→Bool):Bool:=vAt x fun o n p=>(n == Str.ofString nm)&&((p.endLine == ln)&&(noSuper o&&f o))
noncomputable def m_k (v:V):ME:=fun _ _ _ x=>constE v x
noncomputable def m_g (v:V):ME:=fun _ sc _ x=>globE sc v x
noncomputable def m_v (i:Nat):ME:=fun _ sc lay x=>vNm x fun id _=>isVar sc lay i id
noncomputable def m_l (i:Nat):ME:=fun st sc lay x => !st&&vNm x fun id _=>isVar sc lay i id
noncomputable def m_bin (o:BO) (a b:ME):ME:=fun _ sc lay x=>vBin x fun l p r _=>(o.op == p)&&(a false sc lay l&&b false sc lay r)
noncomputable def m_cmp (o:CO) (a b:ME):ME:=fun _ sc lay x=>vCmp x fun l ops rs _=>v1 ops fun op=>v1 rs fun r=>(o.op == op)&&(!behindInMarks op r&&(a false sc lay l&&b false sc lay r))
noncomputable def m_not (a:ME):ME:=fun _ sc lay x=>vUn x fun o y _=>(o == .Not)&&a true sc lay y
noncomputable def m_bo (op:BoolOp) (a b:ME):ME:=fun _ sc lay x=>vBool x fun o ys p=>(o == op)&&vC ys fun y r=>vC r fun z q=>a true sc lay y&&(if q.isEmpty then b true sc lay z else b true sc lay (.BoolOp op (z::q) p))
noncomputable def m_ite (t a b:ME):ME:=fun st sc lay x=>vIf x fun u y z _=>t true sc lay u&&(a st sc lay y&&b st sc lay z)
noncomputable def m_call (f:Fn) (as:MEs) (ds:List V):ME:=fun _ sc lay x=>vCall x fun fx xs ks _=>vNm fx fun id _=>ks.isEmpty&&(isGlob sc id f.row.1 f.row.2&&(globsF.contains f.row&&(as sc lay xs&&(argsOk xs&&(ds.isEmpty||v1 ds fun d=>(match d with | .empty=>true | _=>false)&&(Nat.beq f.c 10&&v1 xs fun _=>true))))))
noncomputable def m_mcall (nm:String) (o:ME) (as:MEs):ME:=fun _ sc lay x=>vCall x fun fx xs ks p=>meth fx nm p.line fun y=>ks.isEmpty&&(o true sc lay y&&(as sc lay xs&&argsOk xs))
noncomputable def m_new (c:Cls) (as:MEs):ME:=fun _ sc lay x=>vCall x fun fx xs ks _=>vNm fx fun id _=>ks.isEmpty&&(isGlob sc id (Fn.new c).row.1 (Fn.new c).row.2&&(as sc lay xs&&argsOk xs))
noncomputable def m_b1 (o:B1) (a:ME):ME:=fun _ sc lay x=>vCall x fun fx xs ks _=>vNm fx fun id _=>ks.isEmpty&&(isBlt sc id o.nm&&v1 xs fun y => !isStarred y&&a false sc lay y)
noncomputable def m_min (a b:ME):ME:=fun _ sc lay x=>vCall x fun fx xs ks _=>vNm fx fun id _=>ks.isEmpty&&(isBlt sc id "min"&&v2 xs fun y z => !isStarred y&&(!isStarred z&&(a true sc lay y&&b true sc lay z)))
noncomputable def m_isI (a:ME) (t:Ty):ME:=fun _ sc lay x=>vCall x fun fx xs ks _=>vNm fx fun id _=>ks.isEmpty&&(isBlt sc id "isinstance"&&v2 xs fun y z => !isStarred y&&(!isStarred z&&(a true sc lay y&&t.ok sc z)))
noncomputable def m_app (a b:ME):ME:=fun _ sc lay x=>vCall x fun fx xs ks p=>meth fx "append" p.line fun y=>ks.isEmpty&&v1 xs fun z => !isStarred z&&(a true sc lay y&&b true sc lay z)
noncomputable def m_pop (a:ME):ME:=fun _ sc lay x=>vCall x fun fx xs ks p=>meth fx "pop" p.line fun y=>ks.isEmpty&&v1 xs fun z => !isStarred z&&(a true sc lay y&&constE (.int 0) z)
noncomputable def m_get (a b:ME):ME:=fun _ sc lay x=>vCall x fun fx xs ks p=>meth fx "get" p.line fun y=>ks.isEmpty&&v2 xs fun z u => !isStarred z&&(!isStarred u&&(a true sc lay y&&(b true sc lay z&&constE .none u)))
noncomputable def m_attr (a:ME) (nm:String):ME:=fun _ sc lay x=>vAt x fun o n _=>(n == Str.ofString nm)&&(noSuper o&&a true sc lay o)
noncomputable def m_idx (a b:ME):ME:=fun _ sc lay x=>vSub x fun y z _=>ixOk z&&(a false sc lay y&&b true sc lay z)
noncomputable def m_sl (lo hi:E) (a ml mh:ME):ME:=fun _ sc lay x=>vSub x fun y z _=>vSl z fun l u s _=>s.isNone&&(a false sc lay y&&(part (ml true sc lay) lo l&&part (mh true sc lay) hi u))
noncomputable def m_rsl (a ml:ME):ME:=fun _ sc lay x=>vSub x fun y z _=>vSl z fun l u s _=>u.isNone&&(vO s isM1&&(a false sc lay y&&vO l (ml true sc lay)))
noncomputable def m_list (as:MEs):ME:=fun _ sc lay x=>vLs x fun xs _=>decide (xs.length < 1000)&&as sc lay xs
noncomputable def m_tup (as:MEs):ME:=fun _ sc lay x=>vTp x fun xs _ _=>decide (xs.length < 1000)&&as sc lay xs
noncomputable def m_dict0:ME:=fun _ _ _ x=>vDict x fun a b _=>a.isEmpty&&b.isEmpty
noncomputable def m_comp (tg:List Nat) (c:E) (elt it mc:ME):ME:=fun _ sc lay x=>vLC x fun ex gs csc _=>v1 gs fun g=>(g.is_async == 0)&&(compScOk sc csc&&(it (Nat.beq tg.length 1) sc lay g.iter&&vO (tgNames g.target) fun ns=>
 (tgSole g.target == Nat.beq tg.length 1)&&(tgOk csc lay tg ns (layIn csc lay tg ns)&&(elt true csc (layIn csc lay tg ns) ex&&((g.ifs.isEmpty&&c.isK (.bool true))||v1 g.ifs fun y=>tgSole g.target&&mc true csc (layIn csc lay tg ns) y)))))
noncomputable def m_nil:MEs:=fun _ _ xs=>xs.isEmpty
noncomputable def m_cons (e:ME) (es:MEs):MEs:=fun sc lay xs=>vC xs fun x r => !isStarred x&&(e true sc lay x&&es sc lay r)
noncomputable def m_e (a:ME):ME:=fun _ sc lay x=>notSet x&&a true sc lay x
noncomputable def m_r1 (a:ME):ME:=fun sole sc lay x=>vCall x fun fx xs ks _=>vNm fx fun id _=>ks.isEmpty&&(sole&&(isBlt sc id "range"&&v1 xs fun y => !isStarred y&&a true sc lay y))
noncomputable def m_r3 (a b:ME):ME:=fun sole sc lay x=>vCall x fun fx xs ks _=>vNm fx fun id _=>ks.isEmpty&&(sole&&(isBlt sc id "range"&&v3 xs fun y z u => !isStarred y&&(!isStarred z&&(a true sc lay y&&(b true sc lay z&&isM1 u)))))
noncomputable def m_zip (a b:ME):ME:=fun sole sc lay x=>vCall x fun fx xs ks _=>vNm fx fun id _=>ks.isEmpty&&(!sole&&(isBlt sc id "zip"&&v2 xs fun y z => !isStarred y&&(!isStarred z&&(a true sc lay y&&b true sc lay z))))
noncomputable def mE (e:E):ME:=E.rec (motive_1:=fun _=>ME) (motive_2:=fun _=>MEs) (motive_3:=fun _=>ME) m_k m_g m_v m_l (fun _ o _ _=>m_bin o) (fun _ o _ _=>m_cmp o) (fun _=>m_not) (fun _ _=>m_bo .And) (fun _ _=>m_bo .Or)
 (fun _ _ _=>m_ite) (fun f _ ds as=>m_call f as ds) (fun nm _ _=>m_mcall nm) (fun c _=>m_new c) (fun _ o _=>m_b1 o) (fun _ _=>m_min) (fun _ _ t a=>m_isI a t) (fun _ _=>m_app) (fun _=>m_pop) (fun _ _=>m_get) (fun _ nm a=>m_attr a nm)
 (fun _ _ _=>m_idx) (fun _ _ lo hi=>m_sl lo hi) (fun _ _=>m_rsl) (fun _ _=>m_list) (fun _=>m_tup) (fun _=>m_dict0) (fun _ tg _ _ c=>m_comp tg c) m_nil (fun _ _=>m_cons) (fun _=>m_e) (fun _=>m_r1) (fun _ _=>m_r3) (fun _ _=>m_zip) e
noncomputable def mEs (e:Es):MEs:=Es.rec (motive_1:=fun _=>ME) (motive_2:=fun _=>MEs) (motive_3:=fun _=>ME) m_k m_g m_v m_l (fun _ o _ _=>m_bin o) (fun _ o _ _=>m_cmp o) (fun _=>m_not) (fun _ _=>m_bo .And) (fun _ _=>m_bo .Or)
 (fun _ _ _=>m_ite) (fun f _ ds as=>m_call f as ds) (fun nm _ _=>m_mcall nm) (fun c _=>m_new c) (fun _ o _=>m_b1 o) (fun _ _=>m_min) (fun _ _ t a=>m_isI a t) (fun _ _=>m_app) (fun _=>m_pop) (fun _ _=>m_get) (fun _ nm a=>m_attr a nm)
 (fun _ _ _=>m_idx) (fun _ _ lo hi=>m_sl lo hi) (fun _ _=>m_rsl) (fun _ _=>m_list) (fun _=>m_tup) (fun _=>m_dict0) (fun _ tg _ _ c=>m_comp tg c) m_nil (fun _ _=>m_cons) (fun _=>m_e) (fun _=>m_r1) (fun _ _=>m_r3) (fun _ _=>m_zip) e
noncomputable def mI (e:I):ME:=I.rec (motive_1:=fun _=>ME) (motive_2:=fun _=>MEs) (motive_3:=fun _=>ME) m_k m_g m_v m_l (fun _ o _ _=>m_bin o) (fun _ o _ _=>m_cmp o) (fun _=>m_not) (fun _ _=>m_bo .And) (fun _ _=>m_bo .Or)
 (fun _ _ _=>m_ite) (fun f _ ds as=>m_call f as ds) (fun nm _ _=>m_mcall nm) (fun c _=>m_new c) (fun _ o _=>m_b1 o) (fun _ _=>m_min) (fun _ _ t a=>m_isI a t) (fun _ _=>m_app) (fun _=>m_pop) (fun _ _=>m_get) (fun _ nm a=>m_attr a nm)
 (fun _ _ _=>m_idx) (fun _ _ lo hi=>m_sl lo hi) (fun _ _=>m_rsl) (fun _ _=>m_list) (fun _=>m_tup) (fun _=>m_dict0) (fun _ tg _ _ c=>m_comp tg c) m_nil (fun _ _=>m_cons) (fun _=>m_e) (fun _=>m_r1) (fun _ _=>m_r3) (fun _ _=>m_zip) e
noncomputable abbrev MS:=Scope→Lay→Stmt→Bool
noncomputable abbrev MSs:=Scope→Lay→List Stmt→Bool
noncomputable def notComp (x:Expr):Bool := !(Nat.beq x.ctorIdx 8||(Nat.beq x.ctorIdx 9||Nat.beq x.ctorIdx 10))
noncomputable def E.isComp (e:E):Bool:=vCo e fun _ _ _ _ _=>true
noncomputable def vFz (s:S) (f:Nat→Bool):Bool:=S.casesOn (motive_1:=fun _=>Bool) s (fun _ _=>false) (fun _=>false) (fun _ _ _ _ _=>false) (fun _ _=>false) (fun _ _=>false) (fun _ _=>false) (fun _ _ _=>false) (fun _ _ _=>false) (fun _ _ _ _ _ _=>false) (fun _=>false) (fun _=>false) (fun _ _ _=>false) (fun _ _=>false) (fun _ _ _=>false) false f
theorem vFz_of {s:S} {P:S→Prop} {f} (h:vFz s f=true) (k:∀ i,f i=true→P (.frz i)):P s:=by
 cases s <;> first | exact k _ h | cases h
noncomputable def mDs (sc:Scope) (lay:Lay):List (Option E)→List Expr→Bool
 | [],xs=>xs.isEmpty
 | o::es,xs=>vC xs fun x r => !isStarred x&&((match o with | some e=>mE e true sc lay x | none=>vLs x fun l _=>l.isEmpty)&&mDs sc lay es r)
noncomputable def s_assign (i:Nat) (e:E):MS:=fun sc lay t=>vAsg t fun ts x _=>v1 ts fun y=>vNm y fun id _=>(lay[i]? == some (some id))&&(mE e true sc lay x&&(notComp x||e.isComp))
noncomputable def s_newl (i:Nat):MS:=fun _ lay t=>vAsg t fun ts x _=>v1 ts fun y=>vNm y fun id _=>vLs x fun l _=>(lay[i]? == some (some id))&&l.isEmpty
noncomputable def s_compl (i:Nat) (tg:List Nat) (elt:E) (it:I) (c:E):MS:=fun sc lay t=>vAsg t fun ts x _=>v1 ts fun y=>vNm y fun id _=>(lay[i]? == some (some id))&&mE (.comp false tg elt it c) true sc lay x
noncomputable def s_lapp (i:Nat) (e:E):MS:=fun sc lay t=>vEx t fun x _=>vCall x fun fx xs ks p=>meth fx "append" p.line fun y=>ks.isEmpty&&(vNm y (fun id _=>isVar sc lay i id)&&v1 xs fun z => !isStarred z&&mE e true sc lay z)
noncomputable def s_unp (is:List Nat) (e:E):MS:=fun sc lay t=>vAsg t fun ts x _=>v1 ts fun y => !tgSole y&&(vO (tgNames y) (layAll lay is)&&(mE e true sc lay x&&(!(Nat.beq x.ctorIdx 25)&&notComp x)))
noncomputable def s_unpD (is:List Nat) (es:List (Option E)):MS:=fun sc lay t=>vAsg t fun ts x _=>v1 ts fun y=>vTp x fun vs _ _ => !tgSole y&&(vO (tgNames y) (fun ns=>layAll lay is ns&&decide (ns.length < 1000))&&(mDs sc lay es vs&&(vs.all (fun x => !isStarred x) && !(vs.all (constantsAlone 8)))))
noncomputable def s_setattr (o:E) (nm:String) (e:E):MS:=fun sc lay t=>vAsg t fun ts x _=>v1 ts fun y=>vAt y fun ox n _=>(n == Str.ofString nm)&&(mE o true sc lay ox&&mE e true sc lay x)
noncomputable def s_setidx (a b e:E):MS:=fun sc lay t=>vAsg t fun ts x _=>v1 ts fun y=>vSub y fun ax bx _=>mE a true sc lay ax&&(mE b true sc lay bx&&mE e true sc lay x)
noncomputable def s_setidx2 (a b c d e f:E):MS:=fun sc lay t=>vAsg t fun ts x _=>v1 ts fun y=>vTp y fun ys _ _=>vTp x fun xs _ _=>v2 ys fun u v=>v2 xs fun z w=>vSub u fun ax bx _=>vSub v fun cx dx _=>
 !isStarred z&&(!isStarred w&&(mE a true sc lay ax&&(mE b true sc lay bx&&(mE c true sc lay cx&&(mE d true sc lay dx&&(mE e true sc lay z&&mE f true sc lay w))))))
noncomputable def s_expr (e:E):MS:=fun sc lay t=>vEx t fun x _=>notComp x&&mE e true sc lay x
noncomputable def s_ret (e:E):MS:=fun sc lay t=>vRet t fun o _=>part (mE e true sc lay) e o
noncomputable def s_ite (t:E) (a b:MSs):MS:=fun sc lay s=>vIfS s fun x y z _=>mE t true sc lay x&&(a sc lay y&&b sc lay z)
noncomputable def s_whil (t:E) (b:MSs):MS:=fun sc lay s=>vWh s fun x y z _=>z.isEmpty&&(mE t true sc lay x&&b sc lay y)
noncomputable def s_for (tg:List Nat) (it:I) (b:MSs):MS:=fun sc lay s=>vFor s fun x y z u _=>u.isEmpty&&(vO (tgNames x) (layAll lay tg)&&((tgSole x == Nat.beq tg.length 1)&&(mI it (Nat.beq tg.length 1) sc lay y&&b sc lay z)))
noncomputable def s_nil:MSs:=fun _ _ xs=>xs.isEmpty
noncomputable def s_cons (s:S) (m:MS) (r:MSs):MSs:=fun sc lay xs=>(vFz s (fun i=>vO lay[i]? Option.isSome)&&r sc lay xs)||vC xs fun x q=>m sc lay x&&r sc lay q
noncomputable def mS (s:S):MS:=S.rec (motive_1:=fun _=>MS) (motive_2:=fun _=>MSs) s_assign s_newl s_compl s_lapp s_unp s_unpD s_setattr s_setidx s_setidx2 s_expr s_ret (fun t _ _=>s_ite t) (fun t _=>s_whil t) (fun tg it _=>s_for tg it) (fun _ _ _=>true) (fun _ _ _ _=>false) s_nil (fun s _=>s_cons s) s
noncomputable def mSs (s:Ss):MSs:=Ss.rec (motive_1:=fun _=>MS) (motive_2:=fun _=>MSs) s_assign s_newl s_compl s_lapp s_unp s_unpD s_setattr s_setidx s_setidx2 s_expr s_ret (fun t _ _=>s_ite t) (fun t _=>s_whil t) (fun tg it _=>s_for tg it) (fun _ _ _=>true) (fun _ _ _ _=>false) s_nil (fun s _=>s_cons s) s
noncomputable def clsList:List Cls:=[.pair,.symbol,.alias,.special,.locName,.globName,.scope,.symtab,.names]
theorem Cls.mem (c:Cls):c∈clsList:=by cases c <;> decide
noncomputable def V.kd (v:V):Value:=match v with
 | .none => .type "NoneType" | .bool _ => .type "bool" | .int _ => .type "int" | .str _ => .type "str" | .tup _ => .type "tuple" | .lst _ => .type "list" | .obj c _ => .ref c.addr | _ => .ref 38
noncomputable def samples:List V:=[.none,.bool true,.int 0,.str "",.tup [],.lst [],.empty]++clsList.map (.obj · [])
noncomputable def tyList:List Ty:=[.macro,.tuple,.str,.bool,.int]++clsList.map .cls
noncomputable def Ty.val (t:Ty):Value:=match t with
 | .cls c => .ref c.addr | .macro => .ref 329 | .tuple => .type "tuple" | .str => .type "str" | .bool => .type "bool" | _ => .type "int"
noncomputable def boolInts:List Value:=[.type "bool",.type "int"]
noncomputable def objOk (K:Frag) (a:Addr):Bool:=vO (K.lookup a) fun o=>(o.cls == .ref 38)&&(vPlain o.data&&vO o.dict fun d=>(K.lookup d).isSome)
noncomputable def clsOk (K:Frag) (C:Addr):Bool:=
 plainGet K C "__class__"&&(hasDictIn K C&&((findIn K (.ref C) "__class__" == some (some (.builtin "object.__class__"))) &&
 ((specialIn K (.builtin "object.__class__") "__get__" == some (some (.builtin "getset_descriptor.__get__")))&&((takesIn K (.builtin "object.__class__") == some true)&&(mroIn K C (.type "object") == some true)))))
noncomputable def attrOk (K:Frag) (C:Addr) (n:String):Bool:=
 plainGet K C (Str.ofString n)&&(hasDictIn K C&&(vO (findIn K (.ref C) (Str.ofString n)) (noGet K) &&
 ((findIn K (.ref C) "__setattr__" == some (some (.builtin "object.__setattr__")))&&(plainOver K C&&(takerIn K C (Str.ofString n) == some none)))))
noncomputable def mthOk (K:Frag) (m:Cls×String×Nat):Bool:=let a:=(Fn.mk m.2.2).adr
 plainGet K m.1.addr (Str.ofString m.2.1)&&((findIn K (.ref m.1.addr) (Str.ofString m.2.1) == some (some (.ref a)))&&((typeIn K (.ref a) == some (.type "function"))&&(keepIn K (.ref a) && !m.1.fields.contains m.2.1)))
noncomputable def strIs (v:Value) (s:String):Bool:=match v with | .str x _=>x == Str.ofString s | _=>false
noncomputable def strsAre:List Value→List String→Bool
 | [],ss=>ss.isEmpty
 | v::vs,ss=>vC ss fun s r=>strIs v s&&strsAre vs r
noncomputable def derNames:List String:=["and", "or", "let", "let*", "letrec", "cond", "case", "do"]
noncomputable def derOk (K:Frag):Bool:=vO (K.lookup derivedA) fun o=>(o.cls == .type "tuple")&&(o.dict.isNone&&(o.slots.isEmpty&&vSeq o.data fun vs _=>strsAre vs.toList derNames))
noncomputable def kindsOk (sc:Scope) (lay:Lay):Bool:=lay.all fun o=>match o with
 | some x=>(sc.names.lookup x == some .local)||(sc.names.lookup x == some .cell)
 | none=>true
noncomputable def defsOk (K:Frag) (v:Value):Bool:=(v == .none)||vRef v fun T=>vO (K.lookup T) fun o=>vSeq o.data fun _ _=>true
noncomputable def fdOk (K:Frag) (fd:FuncData) (np:Nat) (lay:Lay) (mb:Scope→List Stmt→Bool):Bool:=vBody fd.body fun body=>codeIn K fd.code fd.qualname&&(fd.closure.isEmpty&&((fd.globals == mainGlobals)&&((fd.builtins == builtinsNs)&&(!fd.scope.isCoroutine&&(!fd.scope.isGenerator&&((fd.scope.kind == .function) &&
   (fd.params.posonlyargs.isEmpty&&(fd.params.kwonlyargs.isEmpty&&(fd.params.vararg.isNone&&(fd.params.kwarg.isNone&&(decide (fd.params.args.length=np)&&((lay.take np == (fd.params.args.map (·.arg)).map some) &&
   (injOk lay&&(kindsOk fd.scope lay&&(defsOk K fd.defaults&&mb fd.scope body)))))))))))))))
noncomputable def fnOk (K:Frag) (a:Nat) (np:Nat) (lay:Lay) (mb:Scope→List Stmt→Bool):Bool:=vO (K.lookup a) fun o=>vFn o.data fun fd=>fdOk K fd np lay mb
noncomputable def theLay (f:Fn):Lay:=((layRows[f.c - 9]?).getD []).map fun x=>x.map Str.ofString
noncomputable def fnsOk (K:Frag) (f:Fn):Bool:=fnOk K f.adr (theFn f).np (theLay f) (fun sc body=>mSs (theFn f).body sc (theLay f) body)
noncomputable def selfS:Str:=Str.ofString "self"
noncomputable def layC (c:Cls):List String := "self"::((theInit c).2.map (·.1)).take (theInit c).1
noncomputable def initLay (c:Cls):Lay:=(layC c).map fun x=>some (Str.ofString x)
noncomputable def mInit (sc:Scope) (lay:Lay):List (String×E)→List Stmt→Bool
 | [],xs=>xs.isEmpty
 | p::fs,xs=>vC xs fun t r=>vAsg t (fun ts x _=>v1 ts fun y=>vAt y fun s n _=>vNm s fun id _=>(id == selfS)&&((n == Str.ofString p.1)&&mE p.2 true sc lay x))&&mInit sc lay fs r
noncomputable def initBody (c:Cls) (sc:Scope) (body:List Stmt):Bool:=mInit sc (initLay c) (theInit c).2 body&&(isVar sc (initLay c) 0 selfS&&(sc.names.lookup selfS == some .local))
noncomputable def makeOk (K:Frag) (c:Cls):Bool:=makesIn K c.addr&&vO (findIn K (.ref c.addr) "__init__") fun x=>vO x fun v=>vRef v fun fI=>(typeIn K (.ref fI) == some (.type "function"))&&fnOk K fI ((theInit c).1+1) (initLay c) (initBody c)
noncomputable def listOk (K:Frag):Bool:=vO (K.lookup 182) fun o=>vFn o.data fun fd=>vRef fd.defaults fun T=>vO (K.lookup T) fun o=>vSeq o.data fun its _=>v1 its.toList fun v=>v == .ref emptyA
structure Top (K:Frag):Prop where
 empty:objOk K emptyA=true
 unspec:objOk K unspecA=true
 isi:samples.all (fun v=>tyList.all fun t=>(t.has v).isSome&&(kitOne K v.kd t.val == t.has v))=true
 isi2:samples.all (fun v=>kitAny K v.kd boolInts == Ty.boolInt.has v)=true
 cls:clsList.all (fun c=>clsOk K c.addr)=true
 cls38:clsOk K 38=true
 attrs:clsList.all (fun c=>c.fields.all fun n=>attrOk K c.addr n)=true
 globs:globs.all (fun x=>nsIn K mainGlobals (Str.ofString x.1) == some (some (.ref x.2)))=true
 blts:blts.all (fun n=>nsIn K mainGlobals (Str.ofString n) == some none)=true
 keep:globsF.all (fun x=>keepIn K (.ref x.2))=true
 mth:mths.all (mthOk K)=true
 der:derOk K=true
 fns:(List.range 64).all (fun i=>fnsOk K ⟨i+9⟩)=true
 make:clsList.all (makeOk K)=true
 dfl:listOk K=true
noncomputable abbrev lstObj (vs:List Value) (n:Nat):Obj:={ cls := .type "list",data := .seq vs.toArray n }
noncomputable abbrev tupObj (vs:List Value) (n:Nat):Obj:={ cls := .type "tuple",data := .seq vs.toArray n }
noncomputable def NsO (ns:List String) (o:Obj) (m:Str→Option Value):Prop:=∃ es ep,o.data = .dict es ep∧StrKeys es∧UniqKeys es∧(∀ name,nsFind es name=m name)∧Within m (ns.map Str.ofString)
set_option genCtorIdx true
inductive Tag where
 | no | fix (o:Obj) | held (o:Obj) | frm (o:Obj) | own (i:Nat) (o:Obj) | ours (i:Nat)
set_option genCtorIdx false
noncomputable abbrev G:=Addr→Tag
noncomputable def Tag.any (t:Tag):Bool:=match t with | .no=>false | _=>true
noncomputable def Tag.out (t:Tag):Bool:=match t with | .fix _=>true | .ours _=>true | .held _=>true | _=>false
noncomputable def Tag.val (t:Tag):Bool:=match t with | .fix _=>true | .ours _=>true | _=>false
noncomputable def Ky (f:Tag→Bool) (g g':G):Prop:=∀ a,f (g a)=true→g' a=g a
noncomputable abbrev Le:=Ky Tag.any
noncomputable abbrev Mv:=Ky Tag.out
noncomputable abbrev Lv:=Ky Tag.val
theorem Ky.rf {f:Tag→Bool} {g:G}:Ky f g g:=fun _ _=>rfl
theorem Ky.trans {f:Tag→Bool} {g g' g'':G} (x:Ky f g g') (y:Ky f g' g''):Ky f g g'':=fun a h=>(y a ((x a h).symm▸h)).trans (x a h)
theorem Ky.weak {e f:Tag→Bool} {g g':G} (x:Ky e g g') (h:∀ t,f t=true→e t=true):Ky f g g':=fun a q=>x a (h _ q)
theorem val_any (t:Tag) (h:t.val=true):t.any=true:=by cases t <;> first | rfl | exact absurd h Bool.false_ne_true
theorem val_out (t:Tag) (h:t.val=true):t.out=true:=by cases t <;> first | rfl | exact absurd h Bool.false_ne_true
theorem out_any (t:Tag) (h:t.out=true):t.any=true:=by cases t <;> first | rfl | exact absurd h Bool.false_ne_true
theorem Ky.lv {g g':G} (x:Le g g'):Lv g g':=x.weak val_any
theorem Ky.mv {g g':G} (x:Le g g'):Mv g g':=x.weak out_any
theorem Ky.mlv {g g':G} (x:Mv g g'):Lv g g':=x.weak val_out
section
variable {f:Tag→Bool} {g g':G} {a:Addr} {o:Obj}
theorem Ky.fix (x:Lv g g') (h:g a = .fix o):g' a = .fix o:=(x a (by rw [h]; rfl)).trans h
theorem Ky.ours {i:Nat} (x:Lv g g') (h:g a = .ours i):g' a = .ours i:=(x a (by rw [h]; rfl)).trans h
end
noncomputable abbrev VP:=G→Value→Prop
noncomputable abbrev VPs:=G→List Value→Prop
noncomputable def FldAt (m:Str→Option Value) (ns:List String) (vs:List Value):Prop:=ns.map (fun n=>m (Str.ofString n))=vs.map some
noncomputable def seqR (ob:List Value→Nat→Obj) (r:VPs) (n:Nat):VP:=fun g v=>n≤room+2∧∀ q:Prop,(∀ a vs k,v = .ref a→g a = .fix (ob vs k)→r g vs→q)→q
noncomputable def objR (c:Cls) (r:VPs):VP:=fun g v=>∀ q:Prop,(∀ x d od m vs,v = .ref x→g x = .fix (instObj c.addr d)→g d = .fix od→NsO c.fields od m→FldAt m c.fields vs→r g vs→q)→q
noncomputable def nilR:VPs:=fun _ vs=>vs=[]
noncomputable def consR (a:VP) (r:VPs):VPs:=fun g vs=>∀ q:Prop,(∀ w ws,vs=w::ws→a g w→r g ws→q)→q
noncomputable def VR (x:V):VP:=V.rec (motive_1:=fun _=>VP) (motive_2:=fun _=>VPs) (fun _ v=>v = .none) (fun _ v=>v = .ref emptyA) (fun _ v=>v = .ref unspecA) (fun b _ v=>v = .bool b) (fun i _ v=>∀ q:Prop,(∀ t,v = .int i t→q)→q)
 (fun s _ v=>∀ q:Prop,(∀ t,v = .str (Str.ofString s) t→q)→q) (fun i g v=>∀ q:Prop,(∀ a,g a = .ours i→v = .ref a→q)→q) (fun xs r=>seqR tupObj r xs.length) (fun xs r=>seqR lstObj r xs.length) (fun c _ r=>objR c r) nilR (fun _ _=>consR) x
noncomputable def VRs (xs:List V):VPs:=V.rec_1 (motive_1:=fun _=>VP) (motive_2:=fun _=>VPs) (fun _ v=>v = .none) (fun _ v=>v = .ref emptyA) (fun _ v=>v = .ref unspecA) (fun b _ v=>v = .bool b) (fun i _ v=>∀ q:Prop,(∀ t,v = .int i t→q)→q)
 (fun s _ v=>∀ q:Prop,(∀ t,v = .str (Str.ofString s) t→q)→q) (fun i g v=>∀ q:Prop,(∀ a,g a = .ours i→v = .ref a→q)→q) (fun xs r=>seqR tupObj r xs.length) (fun xs r=>seqR lstObj r xs.length) (fun c _ r=>objR c r) nilR (fun _ _=>consR) xs
noncomputable abbrev Mo (r:VP):Prop:=∀ {g g':G},Lv g g'→∀ {v:Value},r g v→r g' v
noncomputable abbrev Mos (r:VPs):Prop:=∀ {g g':G},Lv g g'→∀ {v:List Value},r g v→r g' v
theorem mo_seq {ob:List Value→Nat→Obj} {r:VPs} {n:Nat} (h:Mos r):Mo (seqR ob r n):=fun l _ q=>⟨q.1,fun p k=>q.2 p fun a vs n e z t=>k a vs n e (l.fix z) (h l t)⟩
theorem mo_obj {c:Cls} {r:VPs} (h:Mos r):Mo (objR c r):=fun l _ q p k=>q p fun x d od m vs e z1 z2 n f t=>k x d od m vs e (l.fix z1) (l.fix z2) n f (h l t)
theorem mo_nil:Mos nilR:=fun _ _ h=>h
theorem mo_cons {a:VP} {r:VPs} (h:Mo a) (hs:Mos r):Mos (consR a r):=fun l _ q p k=>q p fun w ws e x y=>k w ws e (h l x) (hs l y)
theorem VR.mono (x:V):Mo (VR x):=V.rec (motive_1:=fun x=>Mo (VR x)) (motive_2:=fun x=>Mos (VRs x)) (fun _ _ h=>h) (fun _ _ h=>h) (fun _ _ h=>h) (fun _=>fun _ _ h=>h) (fun _=>fun _ _ h=>h) (fun _=>fun _ _ h=>h)
 (fun _=>fun l _ q p k=>q p fun a z e=>k a (l.ours z) e) (fun _=>mo_seq) (fun _=>mo_seq) (fun _ _=>mo_obj) mo_nil (fun _ _=>mo_cons) x
theorem VRs.mono (x:List V):Mos (VRs x):=V.rec_1 (motive_1:=fun x=>Mo (VR x)) (motive_2:=fun x=>Mos (VRs x)) (fun _ _ h=>h) (fun _ _ h=>h) (fun _ _ h=>h) (fun _=>fun _ _ h=>h) (fun _=>fun _ _ h=>h) (fun _=>fun _ _ h=>h)
 (fun _=>fun l _ q p k=>q p fun a z e=>k a (l.ours z) e) (fun _=>mo_seq) (fun _=>mo_seq) (fun _ _=>mo_obj) mo_nil (fun _ _=>mo_cons) x
structure Tp where
 prog:Program
 w:World
 K:Frag
 s₀:Shared
 top:Top K
 X:K.In s₀.heap
 mg:Str→Option Value
 mb:Str→Option Value
 Gn:s₀.heap.Ns mainGlobals mg
 Bn:s₀.heap.Ns builtinsNs mb
 hb:∀ x:Str,x ≠ "__name__"→mb x=bootBuiltins x
 nolimit:s₀.heap.NoLimit
noncomputable abbrev Tp.M (T:Tp):Model:=model T.prog T.w
noncomputable def PRs {κ α:Type} (f:α→κ) (es:List (α×V)) (g:G):List (κ×Value)→Prop:=List.rec (motive:=fun _=>List (κ×Value)→Prop) (fun kvs=>kvs=[]) (fun e _ r kvs=>∀ q:Prop,(∀ w l,kvs=(f e.1,w)::l→VR e.2 g w→r l→q)→q) es
theorem PRs.mono {κ α:Type} {f:α→κ} {g g':G} (l:Lv g g'):∀ {es:List (α×V)} {kvs:List (κ×Value)},PRs f es g kvs→PRs f es g' kvs
 | [],_,h=>h
 | _::_,_,h=>fun q k=>h q fun w r e x y=>k w r e (VR.mono _ l x) (PRs.mono l y)
noncomputable def ARs (g:G) (m:Str→Option Value) (fs:List (String×V)):Prop:=∀ n x,aget n fs=some x→∀ q:Prop,(∀ v,m (Str.ofString n)=some v→VR x g v→q)→q
noncomputable def OR (T:Tp) (ao:AO) (g:G) (o:Obj):Prop:=match ao with
 | .list xs=>xs.length≤room+2∧∀ q:Prop,(∀ vs n,o=lstObj vs n→VRs xs g vs→q)→q
 | .dictI es=>es.length≤room+2∧∀ q:Prop,(∀ kvs,o.IsDictOf (PySem.intKind T.prog T.w) kvs→PRs id es g kvs→q)→q
 | .dictS es=>es.length≤room+2∧∀ q:Prop,(∀ kvs,o.IsDictOf (PySem.strKind T.prog T.w) kvs→PRs Str.ofString es g kvs→q)→q
 | .inst c j=>∀ q:Prop,(∀ d,g d = .ours j→o=instObj c.addr d→q)→q
 | .attrs fs=>∀ q:Prop,(∀ m,NsO Cls.names.fields o m→ARs g m fs→q)→q
theorem OR.mono {T:Tp} {g g':G} (l:Lv g g') {o:Obj}:∀ {ao:AO},OR T ao g o→OR T ao g' o
 | .list _,h=>⟨h.1,fun q k=>h.2 q fun vs n e r=>k vs n e (VRs.mono _ l r)⟩
 | .dictI _,h=>⟨h.1,fun q k=>h.2 q fun kvs e r=>k kvs e (r.mono l)⟩
 | .dictS _,h=>⟨h.1,fun q k=>h.2 q fun kvs e r=>k kvs e (r.mono l)⟩
 | .inst _ _,h=>fun q k=>h q fun d z e=>k d (l.ours z) e
 | .attrs _,h=>fun q k=>h q fun m n a=>k m n fun x y e q k=>a x y e q fun v e r=>k v e (VR.mono _ l r)
noncomputable def Tag.at (t:Tag) (h:Heap) (a:Addr):Prop:=match t with
 | .no=>True | .fix o=>h.get? a=some o | .held o=>h.get? a=some o | .frm o=>h.get? a=some o | .own _ o=>h.get? a=some o | .ours _=>False
noncomputable def MutOk (T:Tp) (g:G) (H:Hp) (h:Heap) (a:Addr) (i:Nat):Prop:=∀ q:Prop,(∀ o ao,h.get? a=some o→H[i]?=some ao→OR T ao g o→2≤a→q)→q
theorem Tag.up {h h':Heap} {a:Addr}:∀ {t:Tag},(t ≠ .no→h'.get? a=h.get? a)→t.at h a→t.at h' a
 | .no,_,x=>x
 | .ours _,_,x=>x
 | .fix _,e,x=>(e fun e=>nomatch e).trans x
 | .held _,e,x=>(e fun e=>nomatch e).trans x
 | .frm _,e,x=>(e fun e=>nomatch e).trans x
 | .own _ _,e,x=>(e fun e=>nomatch e).trans x
structure Ok (T:Tp) (g:G) (H:Hp) (s:Shared):Prop where
 tg:∀ a,(∃ i,g a = .ours i)∨(g a).at s.heap a
 mt:∀ a i,g a = .ours i→MutOk T g H s.heap a i
 all:∀ i ao,H[i]?=some ao→∃ a,g a = .ours i
 one:∀ a b i,g a = .ours i→g b = .ours i→a=b
 base:∀ a o,T.s₀.heap.get? a=some o→g a = .fix o
 gens:s.gens=T.s₀.gens
 os:s.os=T.s₀.os
noncomputable def G.put (g:G) (a:Addr) (t:Tag):G:=fun b=>if b=a then t else g b
section
variable {T:Tp} {g g':G} {H:Hp} {s s':Shared} {a b:Addr} {t:Tag} {ob:Obj} {q:Prop}
theorem put_self:g.put a t a=t:=if_pos rfl
theorem put_ne (h:b≠a):g.put a t b=g b:=if_neg h
theorem put_ky {f:Tag→Bool} (h:f (g a)=false):Ky f g (g.put a t):=fun _ q=>put_ne fun e=>Bool.false_ne_true (h.symm.trans (e▸q))
theorem put_le (h:g a = .no):Le g (g.put a t):=put_ky (by rw [h]; rfl)
theorem put_lv (h:g a = .no):Lv g (g.put a t):=put_ky (by rw [h]; rfl)
theorem Ok.tagN (o:Ok T g H s) (h:g a=t) (n:∀ i,t ≠ .ours i):t.at s.heap a:=(o.tg a).elim (fun ⟨i,e⟩=>absurd (h.symm.trans e) (n i)) fun e=>h▸e
theorem Ok.fx (o:Ok T g H s) (h:g a = .fix ob):s.heap.get? a=some ob:=o.tagN h fun _ e=>nomatch e
theorem Ok.hd (o:Ok T g H s) (h:g a = .held ob):s.heap.get? a=some ob:=o.tagN h fun _ e=>nomatch e
theorem Ok.fr (o:Ok T g H s) (h:g a = .frm ob):s.heap.get? a=some ob:=o.tagN h fun _ e=>nomatch e
theorem Ok.ow {i:Nat} (o:Ok T g H s) (h:g a = .own i ob):s.heap.get? a=some ob:=o.tagN h fun _ e=>nomatch e
theorem Ok.live (o:Ok T g H s) (h:g a ≠ .no):∃ ob,s.heap.get? a=some ob:=by
 rcases o.tg a with ⟨i,e⟩ | e
 ·exact o.mt a i e _ fun ob _ z _ _ _=>⟨ob,z⟩
 ·revert e h
  cases g a with
  | no=>exact fun h _=>absurd rfl h
  | ours=>exact fun _ e=>e.elim
  | _=>exact fun _ e=>⟨_,e⟩
theorem Ok.dead (o:Ok T g H s) (h:s.heap.get? a=none):g a = .no:=Classical.byContradiction fun n=>by
 obtain ⟨ob,e⟩:=o.live n
 rw [h] at e; cases e
theorem get_none {h:Heap} {a:Addr} (e:h.objs.size≤a):h.get? a=none:=by
 cases q:h.get? a with
 | none=>rfl
 | some o=>exact absurd (Heap.lt_size q) (Nat.not_lt.mpr e)
theorem Ok.new (o:Ok T g H s):g s.heap.objs.size = .no:=o.dead (get_none (Nat.le_refl _))
theorem Ok.lo (o:Ok T g H s):2≤s.heap.objs.size:=vO_e T.top.empty fun _ e _=>Nat.le_trans (by decide) (Nat.le_of_lt (Heap.lt_size (a:=44) (o.fx (o.base _ _ (T.X _ _ e)))))
theorem Ok.at (o:Ok T g H s) (h:(g b).val=false):(g b).at s.heap b:=(o.tg b).elim (fun ⟨i,e⟩=>by rw [e] at h; cases h) fun h=>h
theorem Ok.re (o:Ok T g H s) (v:∀ b,(g b).val=true→g' b=g b∧s'.heap.get? b=s.heap.get? b) (n:∀ b,(g b).val=false→(g' b).at s'.heap b) (hg:s'.gens=s.gens) (ho:s'.os=s.os):Ok T g' H s':=by
 have lv:Lv g g':=fun b h=>(v b h).1
 have ng:∀ {b i},g' b = .ours i→g b = .ours i:=fun {b i} e=>by
  cases c:(g b).val with
  | true=>exact (v b c).1.symm.trans e
  | false=>have:=n b c; rw [e] at this; exact this.elim
 refine ⟨fun b=>?_,fun b i e=>?_,fun i ao e=>(o.all i ao e).elim fun b e=>⟨b,lv.ours e⟩,fun b c i e1 e2=>o.one b c i (ng e1) (ng e2),fun b ob e=>lv.fix (o.base b ob e),hg.trans o.gens,ho.trans o.os⟩
 ·cases c:(g b).val with
  | false=>exact .inr (n b c)
  | true=>exact (o.tg b).imp (fun ⟨i,e⟩=>⟨i,lv.ours e⟩) fun h=>(v b c).1.symm▸Tag.up (fun _=>(v b c).2) h
 ·have e:=ng e
  exact o.mt b i e _ fun ob ao z x r l q k=>k ob ao ((v b (by rw [e]; rfl)).2.trans z) x (r.mono lv) l
theorem val_no {t:Tag} (h:t.val=true):t ≠ .no:=fun e=>by rw [e] at h; cases h
theorem Ok.put (o:Ok T g H s) (hv:(g a).val=false) (ht:t.at s'.heap a) (sb:∀ b,b≠a→g b ≠ .no→s'.heap.get? b=s.heap.get? b) (hg:s'.gens=s.gens) (ho:s'.os=s.os):Ok T (g.put a t) H s':=
 o.re (fun b h=>have n:b≠a:=fun e=>by rw [e,hv] at h; cases h
  ⟨put_ne n,sb b n (val_no h)⟩) (fun b h=>by
  by_cases c:b=a
  ·rw [c,put_self]; exact ht
  ·rw [put_ne c]; exact Tag.up (sb b c) (o.at h)) hg ho
theorem Ok.grow (o:Ok T g H s) (sb:∀ b,g b ≠ .no→s'.heap.get? b=s.heap.get? b) (hg:s'.gens=s.gens) (ho:s'.os=s.os):Ok T g H s':=o.re (fun b h=>⟨rfl,sb b (val_no h)⟩) (fun b h=>Tag.up (sb b) (o.at h)) hg ho
theorem Ok.keeps {h':Heap} {k:Nat} (o:Ok T g H s) (kp:∀ b ob,s.heap.get? b=some ob→h'.get? b=some ob):Ok T g H { s with heap:=h',toks:=k }:=
 o.grow (fun b n=>(o.live n).elim fun ob e=>(kp b ob e).trans e.symm) rfl rfl
theorem Ok.push {k:Nat} (o:Ok T g H s) (ob:Obj):Ok T g H { s with heap:=s.heap.push ob,toks:=k }:=o.keeps fun _ _ e=>Heap.get?_push_of_some ob e
theorem Ok.push' {k:Nat} (o:Ok T g H s) (f:ob.isFreed=false) (ht:t.at (s.heap.push ob) s.heap.objs.size):Ok T (g.put s.heap.objs.size t) H { s with heap:=s.heap.push ob,toks:=k }:=
 (o.push (k:=k) ob).put (by rw [o.new]; rfl) ht (fun _ _ _=>rfl) rfl rfl
theorem get_push {h:Heap} (f:ob.isFreed=false):(h.push ob).get? h.objs.size=some ob:=Heap.get?_push_size h f
theorem Ok.add {ao:AO} (o:Ok T g H s) (hv:(g a).val=false) (e:s.heap.get? a=some ob) (lo:2≤a) (r:OR T ao (g.put a (.ours H.length)) ob):Ok T (g.put a (.ours H.length)) (H++[ao]) s:=by
 have lv:Lv g (g.put a (.ours H.length)):=put_ky hv
 have up:∀ {i ao'},H[i]?=some ao'→(H++[ao])[i]?=some ao':=fun {i ao'} e=>by
  rw [List.getElem?_append_left (List.getElem?_eq_some_iff.mp e).1]; exact e
 have lt:∀ {b},g b ≠ .ours H.length:=fun {b} e=>o.mt b _ e _ fun _ _ _ x _ _=>Nat.lt_irrefl _ (List.getElem?_eq_some_iff.mp x).1
 have ng:∀ {b i},g b = .ours i→b≠a:=fun {b i} e c=>by rw [← c,e] at hv; cases hv
 have ne:∀ {b i},g.put a (.ours H.length) b = .ours i→(b=a∧i=H.length)∨g b = .ours i:=fun {b i} e=>by
  by_cases c:b=a
  ·subst c; rw [put_self] at e; cases e; exact .inl ⟨rfl,rfl⟩
  ·exact .inr ((put_ne c).symm.trans e)
 refine ⟨fun b=>?_,fun b i h=>?_,fun i ao' h=>?_,fun b c i h1 h2=>?_,fun b ob' h=>?_,o.gens,o.os⟩
 ·by_cases c:b=a
  ·subst c; exact .inl ⟨_,put_self⟩
  ·rw [put_ne c]; exact o.tg b
 ·rcases ne h with ⟨c,d⟩ | h
  ·subst c; subst d
   exact fun q k=>k ob ao e (by rw [List.getElem?_append_right (Nat.le_refl _),Nat.sub_self]; rfl) r lo
  ·exact o.mt b i h _ fun ob ao z x r l q k=>k ob ao z (up x) (r.mono lv) l
 ·by_cases c:i=H.length
  ·exact ⟨a,c▸put_self⟩
  ·have h:H[i]?=some ao':=by
    rcases Nat.lt_or_ge i H.length with d | d
    ·rw [List.getElem?_append_left d] at h; exact h
    ·have:=(List.getElem?_eq_some_iff.mp h).1
     rw [List.length_append] at this
     exact absurd (Nat.le_antisymm (Nat.le_of_lt_succ this) d) c
   exact (o.all i _ h).elim fun b e=>⟨b,(put_ne (ng e)).trans e⟩
 ·rcases ne h1 with ⟨c1,d1⟩ | h1 <;> rcases ne h2 with ⟨c2,d2⟩ | h2
  ·exact c1.trans c2.symm
  ·exact absurd (d1▸h2) lt
  ·exact absurd (d2▸h1) lt
  ·exact o.one b c i h1 h2
 ·have e:=o.base b ob' h
  exact (put_ne fun c=>by rw [← c,e] at hv; cases hv).trans e
theorem Ok.turn {i:Nat} {ao:AO} (o:Ok T g H s) (hi:g a = .ours i) (e:s'.heap.get? a=some ob) (r:OR T ao g ob) (sb:∀ b,b≠a→g b ≠ .no→s'.heap.get? b=s.heap.get? b) (hg:s'.gens=s.gens) (ho:s'.os=s.os):Ok T g (H.set i ao) s':=by
 refine ⟨fun b=>?_,fun b j h=>?_,fun j ao' h=>?_,o.one,o.base,hg.trans o.gens,ho.trans o.os⟩
 ·by_cases c:b=a
  ·exact .inl ⟨i,c▸hi⟩
  ·refine (o.tg b).imp id fun h=>?_
   have sb:=sb b c
   revert h sb
   cases g b with
   | no=>exact fun h _=>h
   | ours=>exact fun h _=>h
   | _=>exact fun h sb=>(sb fun e=>nomatch e).trans h
 ·refine o.mt b j h _ fun ob' ao' z x r' l q k=>?_
  by_cases c:b=a
  ·subst c
   cases hi.symm.trans h
   exact k ob ao e (List.getElem?_set_self (List.getElem?_eq_some_iff.mp x).1) r l
  ·exact k ob' ao' ((sb b c (by rw [h]; exact fun e=>nomatch e)).trans z) ((List.getElem?_set_ne fun (d:i=j)=>c (o.one b a i (d.symm▸h) hi)).trans x) r' l
 ·have:j < H.length:=by have:=(List.getElem?_eq_some_iff.mp h).1; rwa [List.length_set] at this
  exact o.all j _ (List.getElem?_eq_getElem this)
theorem Ok.mem {i:Nat} {ao:AO} (o:Ok T g H s) (e:H[i]?=some ao) (hi:g a = .ours i) (k:∀ ob,s.heap.get? a=some ob→OR T ao g ob→2≤a→q):q:=
 o.mt a i hi _ fun ob ao' z x r l=>by rw [e] at x; cases x; exact k ob z r l
end
noncomputable def noE (_:Value) (_:Shared):Prop:=False
noncomputable def VX (st:Bool) (v:V) (g:G) (x:Value):Prop:=∀ q:Prop,(VR v g x→q)→(st=false→∀ i xs a vs n,v = .lst xs→xs.length≤room+2→x = .ref a→g a = .own i (lstObj vs n)→VRs xs g vs→q)→q
noncomputable def Nx (T:Tp) (g:G) (H:Hp) (st:Bool) (v:V) (Q:Value→Shared→Prop):Prop:=∀ z g' s',Le g g'→Ok T g' H s'→VX st v g' z→Q z s'
noncomputable def NxU (T:Tp) (g:G) (H:Hp) (Q:Shared→Prop):Prop:=∀ g' s',Le g g'→Ok T g' H s'→Q s'
section
variable {T:Tp} {g g':G} {H H':Hp} {s s':Shared} {a b:Addr} {ob:Obj} {q:Prop} {st:Bool} {v u:V} {x y:Value} {A:Around} {E:Value→Shared→Prop} {Q:Value→Shared→Prop}
theorem nsome {α:Type} {r:α} (h:(Option.none:Option α)=some r):q:=nomatch h
theorem bindE {α β:Type} {x:Option α} {f:α→Option β} {r:β} (h:x.bind f=some r) (k:∀ a,x=some a→f a=some r→q):q:=match x,h with | some a,h=>k a rfl h
theorem mapE {α β:Type} {x:Option α} {f:α→β} {r:β} (h:x.map f=some r) (k:∀ a,x=some a→f a=r→q):q:=match x,h with | some a,h=>k a rfl (Option.some.inj h)
theorem ifE {α:Type} {c:Prop} [Decidable c] {x:Option α} {r:α} (h:(if c then x else none)=some r) (k:c→x=some r→q):q:=by
 by_cases d:c
 ·exact k d ((if_pos d).symm.trans h)
 ·exact nsome ((if_neg d).symm.trans h)
theorem int_e {i:Int} (h:v.int?=some i) (k:v = .int i→q):q:=by cases v <;> first | exact k (congrArg V.int (Option.some.inj h)) | exact nsome h
theorem str_e {i:String} (h:v.str?=some i) (k:v = .str i→q):q:=by cases v <;> first | exact k (congrArg V.str (Option.some.inj h)) | exact nsome h
theorem bool_e {i:Bool} (h:v.truth=some i) (k:v = .bool i→q):q:=by cases v <;> first | exact k (congrArg V.bool (Option.some.inj h)) | exact nsome h
theorem tup_e {i:List V} (h:v.tup?=some i) (k:v = .tup i→q):q:=by cases v <;> first | exact k (congrArg V.tup (Option.some.inj h)) | exact nsome h
theorem lst_e {i:List V} (h:v.lst?=some i) (k:v = .lst i→q):q:=by cases v <;> first | exact k (congrArg V.lst (Option.some.inj h)) | exact nsome h
theorem list_e {ao:AO} {i:List V} (h:ao.list?=some i) (k:ao = .list i→q):q:=by cases ao <;> first | exact k (congrArg AO.list (Option.some.inj h)) | exact nsome h
theorem items_e {xs:List V} (h:items H v=some xs) (k:v = .lst xs→q) (l:∀ i,v = .ref i→H[i]?=some (.list xs)→q):q:=by
 cases v <;> first | exact k (congrArg V.lst (Option.some.inj h)) | exact bindE h fun ao e h=>list_e h fun c=>l _ rfl (c▸e) | exact nsome h
theorem seq_e {xs:List V} (h:seqItems H v=some xs) (k:v = .tup xs→q) (l:items H v=some xs→q):q:=by
 cases v <;> first | exact k (congrArg V.tup (Option.some.inj h)) | exact l h
noncomputable def V.tg (v:V):Nat:=V.rec (motive_1:=fun _=>Nat) (motive_2:=fun _=>Nat) 0 1 2 (fun _=>3) (fun _=>4) (fun _=>5) (fun _=>6) (fun _ _=>7) (fun _ _=>8) (fun _ _ _=>9) 0 (fun _ _ _ _=>0) v
theorem vne {a b:V} {q:Prop} (h:Nat.beq a.tg b.tg=false) (e:a=b):q:=Bool.noConfusion ((e▸h:Nat.beq b.tg b.tg=false).symm.trans (Nat.beq_refl _))
theorem VX.of (h:VR v g x):VX st v g x:=fun _ k _=>k h
theorem VX.mono (l:Le g g') (h:VX st v g x):VX st v g' x:=fun q k m=>h q (fun r=>k (r.mono v l.lv)) fun e i xs a vs n e1 e2 e3 z r=>m e i xs a vs n e1 e2 e3 ((l a (by rw [z]; rfl)).trans z) (VRs.mono _ l.lv r)
theorem VX.vr (h:VX st v g x) (n:v.lst?=Option.none):VR v g x:=h _ id fun _ _ xs _ _ _ e _ _ _ _=>nomatch (congrArg V.lst? e).symm.trans n
theorem VX.vr1 (h:VX true v g x):VR v g x:=h _ id fun e=>Bool.noConfusion e
theorem VX.dn (h:VX true v g x):VX st v g x := .of h.vr1
theorem VX.int {i:Int} (h:VX st (.int i) g x) (k:∀ t,x = .int i t→q):q:=h.vr rfl q k
theorem VX.str {i:String} (h:VX st (.str i) g x) (k:∀ t,x = .str (Str.ofString i) t→q):q:=h.vr rfl q k
theorem VX.bool {i:Bool} (h:VX st (.bool i) g x):x = .bool i:=h.vr rfl
theorem VX.none (h:VX st .none g x):x = .none:=h.vr rfl
theorem VX.ref {i:Nat} (h:VX st (.ref i) g x) (k:∀ a,g a = .ours i→x = .ref a→q):q:=h.vr rfl q k
theorem VR.tupE {xs:List V} (h:VR (.tup xs) g x) (k:∀ a vs n,x = .ref a→g a = .fix (tupObj vs n)→VRs xs g vs→xs.length≤room+2→q):q:=h.2 q fun a vs n e z r=>k a vs n e z r h.1
theorem VR.lstE {xs:List V} (h:VR (.lst xs) g x) (k:∀ a vs n,x = .ref a→g a = .fix (lstObj vs n)→VRs xs g vs→xs.length≤room+2→q):q:=h.2 q fun a vs n e z r=>k a vs n e z r h.1
theorem VR.objE {c:Cls} {fs:List V} (h:VR (.obj c fs) g x) (k:∀ a d od m vs,x = .ref a→g a = .fix (instObj c.addr d)→g d = .fix od→NsO c.fields od m→FldAt m c.fields vs→VRs fs g vs→q):q:=h q k
theorem OR.listE {xs:List V} (h:OR T (.list xs) g ob) (k:∀ vs n,ob=lstObj vs n→VRs xs g vs→xs.length≤room+2→q):q:=h.2 q fun vs n e r=>k vs n e r h.1
theorem VX.tup {xs:List V} (o:Ok T g H s) (h:VX st (.tup xs) g x) (k:∀ a vs n,x = .ref a→s.heap.get? a=some (tupObj vs n)→VRs xs g vs→xs.length≤room+2→q):q:=
 VR.tupE (h.vr rfl) fun a vs n e z=>k a vs n e (o.fx z)
theorem VX.lst {xs:List V} (o:Ok T g H s) (h:VX st v g x) (e:items H v=some xs) (k:∀ a vs n,x = .ref a→s.heap.get? a=some (lstObj vs n)→VRs xs g vs→xs.length≤room+2→q):q:=
 items_e e (fun c=>h q (fun r=>VR.lstE (c▸r) fun a vs n e z=>k a vs n e (o.fx z)) fun _ i ys a vs n e1 e2 e3 z r=>by subst c; cases e1; exact k a vs n e3 (o.ow z) r e2)
  fun i c e=>VX.ref (c▸h) fun a z e1=>o.mem e z fun ob hh r _=>OR.listE r fun vs n e2=>k a vs n e1 (e2▸hh)
theorem ok_toks {k:Nat} (o:Ok T g H s):Ok T g H { s with toks:=k }:=⟨o.tg,o.mt,o.all,o.one,o.base,o.gens,o.os⟩
theorem Nx.of (k:Nx T g H st v Q) {z:Value} (o:Ok T g H s) (r:VR v g z):Q z s:=k z g s .rf o (.of r)
theorem Nx.tk (k:Nx T g H st v Q) {z:Value} {n:Nat} (o:Ok T g H s) (r:VR v g z):Q z { s with toks:=n }:=k z g _ .rf (ok_toks o) (.of r)
theorem Nx.new {k:Nat} (n:Nx T g H st v Q) (o:Ok T g H s) (f:ob.isFreed=false) (r:∀ g',Lv g g'→g' s.heap.objs.size = .fix ob→VR v g' (.ref s.heap.objs.size)):Q (.ref s.heap.objs.size) { s with heap:=s.heap.push ob,toks:=k }:=
 n _ _ _ (put_le o.new) (o.push' (t := .fix ob) f (get_push f)) (.of (r _ (put_lv o.new) put_self))
theorem Nx.newO {k:Nat} {ao:AO} (n:Nx T g (H++[ao]) st (.ref H.length) Q) (o:Ok T g H s) (f:ob.isFreed=false) (r:∀ g',Lv g g'→OR T ao g' ob):Q (.ref s.heap.objs.size) { s with heap:=s.heap.push ob,toks:=k }:=
 n _ _ _ (put_le o.new) ((o.push (k:=k) ob).add (a:=s.heap.objs.size) (by rw [o.new]; rfl) (get_push f) o.lo (r _ (put_lv o.new))) (.of fun _ k=>k _ put_self rfl)
theorem VRs.nil:VRs [] g []:=rfl
theorem VRs.cons {xs:List V} {vs:List Value} (a:VR v g x) (b:VRs xs g vs):VRs (v::xs) g (x::vs):=fun _ k=>k x vs rfl a b
theorem VRs.e {xs:List V} {vs:List Value} (h:VRs (v::xs) g vs) (k:∀ w ws,vs=w::ws→VR v g w→VRs xs g ws→q):q:=h q k
theorem VRs.e0 {vs:List Value} (h:VRs [] g vs) (k:vs=[]→q):q:=k h
theorem VRs.length:∀ {xs:List V} {vs:List Value},VRs xs g vs→vs.length=xs.length
 | [],_,h=>congrArg List.length h
 | _::_,_,h=>h.e fun _ _ e _ r=>by rw [e,List.length_cons,List.length_cons,VRs.length r]
theorem VRs.get:∀ {xs:List V} {vs:List Value} {i:Nat},VRs xs g vs→xs[i]?=some v→(∀ x,vs[i]?=some x→VR v g x→q)→q
 | _::_,_,0,h,e,k=>h.e fun w _ e1 r _=>by cases e; exact k w (e1▸rfl) r
 | _::_,_,_+1,h,e,k=>h.e fun _ _ e1 _ r=>VRs.get r e fun x e2=>k x (by rw [e1]; exact e2)
theorem VRs.append {ys:List V} {ws:List Value} (r:VRs ys g ws):∀ {xs:List V} {vs:List Value},VRs xs g vs→VRs (xs++ys) g (vs++ws)
 | [],_,h=>h.e0 fun e=>e▸r
 | _::_,_,h=>h.e fun _ _ e a b=>e ▸ .cons a (VRs.append r b)
theorem VRs.take:∀ {xs:List V} {vs:List Value} (n:Nat),VRs xs g vs→VRs (xs.take n) g (vs.take n)
 | [],_,n,h=>h.e0 fun e=>by rw [e,List.take_nil,List.take_nil]; exact .nil
 | _::_,_,0,_ => .nil
 | _::_,_,n+1,h=>h.e fun _ _ e a b=>e ▸ .cons a (VRs.take n b)
theorem VRs.drop:∀ {xs:List V} {vs:List Value} (n:Nat),VRs xs g vs→VRs (xs.drop n) g (vs.drop n)
 | [],_,n,h=>h.e0 fun e=>by rw [e,List.drop_nil,List.drop_nil]; exact .nil
 | _::_,_,0,h=>h
 | _::_,_,n+1,h=>h.e fun _ _ e _ b=>e▸VRs.drop n b
theorem VRs.reverse:∀ {xs:List V} {vs:List Value},VRs xs g vs→VRs xs.reverse g vs.reverse
 | [],_,h=>h.e0 fun e=>e ▸ .nil
 | _::_,_,h=>h.e fun _ _ e a b=>by rw [e,List.reverse_cons,List.reverse_cons]; exact VRs.append (.cons a .nil) (VRs.reverse b)
theorem VRs.set (r:VR v g x):∀ {xs:List V} {vs:List Value} (i:Nat),VRs xs g vs→VRs (xs.set i v) g (vs.set i x)
 | [],_,_,h=>h.e0 fun e=>e ▸ .nil
 | _::_,_,0,h=>h.e fun _ _ e _ b=>e ▸ .cons r b
 | _::_,_,i+1,h=>h.e fun _ _ e a b=>e ▸ .cons a (VRs.set r i b)
theorem isL {l:Addr} {vs:List Value} {n:Nat} {h:Heap} (e:h.get? l=some (lstObj vs n)):h.IsList l vs.toArray:=⟨_,e,rfl,n,rfl⟩
theorem isT {l:Addr} {vs:List Value} {n:Nat} {h:Heap} (e:h.get? l=some (tupObj vs n)):IsTup h l vs.toArray:=⟨_,e,rfl,n,rfl⟩
theorem inK (o:Ok T g H s):T.K.In s.heap:=fun _ _ e=>o.fx (o.base _ _ (T.X _ _ e))
end
noncomputable def Cm (T:Tp) (A:Around) (s:Shared) (p n:CmpOp) (x y:Value) (t:Bool):Prop:=∀ (E Q:Value→Shared→Prop),(Q (.bool t) s→wpAny T.M A (compareOp p x y) Q E s)∧(Q (.bool !t) s→wpAny T.M A (compareOp n x y) Q E s)
theorem ofString_cps (a:String):(Str.ofString a).cps.toList=a.toList.map Char.toNat:=congrArg (fun f:String→Str=>(f a).cps.toList) Str.ofString_eq_byList
theorem map_char_inj:∀ {a b:List Char},a.map Char.toNat=b.map Char.toNat→a=b
 | [],[],_=>rfl
 | _::_,_::_,h=>by
  injection h with h1 h2
  rw [Char.ext (UInt32.toNat_inj.mp h1),map_char_inj h2]
theorem ofString_inj {a b:String} (h:Str.ofString a=Str.ofString b):a=b:=
 String.toList_inj.mp (map_char_inj ((ofString_cps a).symm.trans ((congrArg (fun x:Str=>x.cps.toList) h).trans (ofString_cps b))))
theorem ofString_beq (a b:String):(Str.ofString a == Str.ofString b)=(a == b):=by
 by_cases h:a=b
 ·rw [h,beq_self_eq_true,beq_self_eq_true]
 ·rw [beq_eq_false_iff_ne.mpr h,beq_eq_false_iff_ne.mpr fun e=>h (ofString_inj e)]
section
variable {T:Tp} {g g':G} {H H':Hp} {s s':Shared} {a b:Addr} {ob:Obj} {q:Prop} {st su:Bool} {v u:V} {x y:Value} {A:Around} {t:Bool}
theorem intsO_e {r:List V} {is:List Int} (e:intsO (v::r)=some is) (k:∀ i js,v = .int i→intsO r=some js→is=i::js→q):q:=by
 cases v with
 | int i=>exact mapE e fun js e1 e2=>k i js rfl e1 e2.symm
 | _=>exact nsome e
theorem strs_e {r:List V} {is:List String} (e:strs? (v::r)=some is) (k:∀ i js,v = .str i→strs? r=some js→is=i::js→q):q:=by
 cases v with
 | str i=>exact mapE e fun js e1 e2=>k i js rfl e1 e2.symm
 | _=>exact nsome e
theorem ints_are:∀ {xs:List V} {vs:List Value} {is:List Int},VRs xs g vs→intsO xs=some is→IntsAre vs is
 | [],_,_,h,e=>h.e0 fun c=>c▸Option.some.inj e ▸ .nil
 | _::_,_,_,h,e=>intsO_e e fun i js c e1 e2=>h.e fun w ws d r r'=>VX.int (st:=true) (.of (c▸r)) fun t f=>by rw [e2,d,f]; exact .cons _ _ (ints_are r' e1)
theorem strs_are:∀ {xs:List V} {vs:List Value} {is:List String},VRs xs g vs→strs? xs=some is→StrsAre vs (is.map Str.ofString)
 | [],_,_,h,e=>h.e0 fun c=>c▸Option.some.inj e ▸ .nil
 | _::_,_,_,h,e=>strs_e e fun i js c e1 e2=>h.e fun w ws d r r'=>VX.str (st:=true) (.of (c▸r)) fun t f=>by rw [e2,d,f]; exact .cons _ _ (strs_are r' e1)
theorem readsAll_of_strs {h:Heap} {vs:List Value} {ns:List Str} (hi:StrsAre vs ns):ReadsAll h vs (ns.map PyData.str) []:=by
 induction hi with
 | nil=>exact .nil
 | cons y t _ ih=>exact ReadsAll.cons (Reads.str y t) ih
theorem reads_of_strs {h:Heap} {a:Addr} {vs:List Value} {ns:List Str} (hl:h.IsList a vs.toArray) (hi:StrsAre vs ns):Reads h (.ref a) (.list (ns.map PyData.str)) [a]:=
 let ⟨_,ho,hc,_,hd⟩:=hl
 Reads.list ho hc hd (readsAll_of_strs hi)
theorem strOk_of (a:String):PyData.strOk (Str.ofString a)=true:=by
 unfold PyData.strOk
 rw [← Array.all_toList,ofString_cps,List.all_eq_true]
 intro c hc
 obtain ⟨d,_,rfl⟩:=List.mem_map.mp hc
 exact decide_eq_true (d.valid.elim (fun h=>Nat.lt_trans h (by decide)) fun h=>h.2)
theorem canLay_strs:∀ ns:List String,PyData.canLayAll0 ((ns.map Str.ofString).map PyData.str)=true
 | []=>rfl
 | n::r=>Bool.and_eq_true_iff.mpr ⟨strOk_of n,canLay_strs r⟩
theorem depth_strs:∀ ns:List Str,PyData.depthAll (ns.map PyData.str)≤1
 | []=>Nat.zero_le _
 | _::r=>Nat.max_le.mpr ⟨Nat.zero_le _,depth_strs r⟩
theorem shaped_strs (ns:List String):SeqAt.shaped (.list ((ns.map Str.ofString).map PyData.str))=true:=
 Bool.and_eq_true_iff.mpr ⟨canLay_strs ns,decide_eq_true (Nat.le_trans (Nat.succ_le_succ (depth_strs _)) (by decide))⟩
theorem noMix_strs:∀ ns ms:List Str,SeqAt.noMixAll (ns.map PyData.str) (ms.map PyData.str)=true
 | [],[]=>rfl
 | [],_::_=>rfl
 | _::_,[]=>rfl
 | _::r,_::q=>noMix_strs r q
theorem same_strs:∀ ns ms:List String,PySem.Spec.sameAll ((ns.map Str.ofString).map PyData.str) ((ms.map Str.ofString).map PyData.str)=decide (ns=ms)
 | [],[]=>rfl
 | [],_::_=>rfl
 | _::_,[]=>rfl
 | n::r,k::q=>by
  show (PySem.Spec.same (.str (Str.ofString n)) (.str (Str.ofString k))&&PySem.Spec.sameAll ((r.map Str.ofString).map PyData.str) ((q.map Str.ofString).map PyData.str))=_
  rw [same_strs r q]
  have e:PySem.Spec.same (.str (Str.ofString n)) (.str (Str.ofString k))=(n == k):=(by simp [PySem.Spec.same]:_=(Str.ofString n == Str.ofString k)).trans (ofString_beq n k)
  rw [e]
  by_cases c:n=k
  ·rw [c,beq_self_eq_true,Bool.true_and]
   exact decide_eq_decide.mpr ⟨fun h=>h▸rfl,fun h=>(List.cons.inj h).2⟩
  ·rw [beq_eq_false_iff_ne.mpr c,Bool.false_and]
   exact (decide_eq_false fun h=>c (List.cons.inj h).1).symm
theorem eqV_ok (o:Ok T g H s) (hu:A.units+64 < cLine) (va:VX st v g x) (vb:VX su u g y) (e:eqV H v u=some t):Cm T A s .Eq .NotEq x y t:=by
 have go:(items H v).bind (fun xs=>(items H u).bind fun ys=>eqL xs ys)=some t→Cm T A s .Eq .NotEq x y t:=fun e=>bindE e fun xs e1 e=>bindE e fun ys e2 e=>
  va.lst o e1 fun l vs n c1 h1 r1 _=>vb.lst o e2 fun l' us n' c2 h2 r2 _=>by
   subst c1; subst c2
   unfold eqL at e
   cases i1:intsO xs with
   | some is=>
    rw [i1] at e
    exact mapE e fun js i2 c=>c▸fun _ _=>⟨fun h=>eq_intsK (isL h1) (ints_are r1 i1) (isL h2) (ints_are r2 i2) hu h,fun h=>ne_intsK (isL h1) (ints_are r1 i1) (isL h2) (ints_are r2 i2) hu h⟩
   | none=>
    rw [i1] at e
    exact bindE e fun is i1 e=>mapE e fun js i2 c=>(same_strs is js).trans c▸fun _ _=>⟨fun h=>eq_dataH_same (reads_of_strs (isL h1) (strs_are r1 i1)) (reads_of_strs (isL h2) (strs_are r2 i2)) (shaped_strs _) (shaped_strs _) hu (noMix_strs _ _) h,
     fun h=>ne_dataH_same (reads_of_strs (isL h1) (strs_are r1 i1)) (reads_of_strs (isL h2) (strs_are r2 i2)) (shaped_strs _) (shaped_strs _) hu (noMix_strs _ _) h⟩
 cases v with
 | int=>exact mapE e fun j c d=>int_e c fun c=>by subst c; subst d; exact va.int fun _ c=>vb.int fun _ d=>by rw [c,d]; exact fun _ _=>⟨fun h=>eq_int h,fun h=>ne_int h⟩
 | str i=>exact mapE e fun j c d=>str_e c fun c=>by subst c; subst d; exact va.str fun _ c=>vb.str fun _ d=>by rw [c,d]; exact fun _ _=>⟨fun h=>eq_str (by rw [ofString_beq]; exact h),fun h=>ne_str (by unfold bne; rw [ofString_beq]; exact h)⟩
 | bool=>exact mapE e fun j c d=>bool_e c fun c=>by subst c; subst d; rw [va.bool,vb.bool]; exact fun _ _=>⟨fun h=>eq_bool h,fun h=>ne_bool h⟩
 | _=>exact go e
theorem inV_ok (o:Ok T g H s) (va:VX st v g x) (vb:VX su u g y) (e:inV H v u=some t):Cm T A s .In .NotIn x y t:=bindE e fun ys e1 e=>by
 have ei:∀ {is:List Int} {i:Int},(is.contains i=t)→(is.any fun x=>x == i)=t:=fun {is i} h=>h▸(Bool.eq_iff_iff.mpr ⟨fun h=>let ⟨j,h,q⟩:=List.any_eq_true.mp h; List.contains_iff_mem.mpr (beq_iff_eq.mp q▸h),fun h=>List.any_eq_true.mpr ⟨i,List.contains_iff_mem.mp h,beq_self_eq_true i⟩⟩)
 have es:∀ {is:List String} {i:String},(is.contains i=t)→((is.map Str.ofString).any fun x=>x == Str.ofString i)=t:=fun {is i} h=>h▸(Bool.eq_iff_iff.mpr ⟨fun h=>let ⟨j,h,q⟩:=List.any_eq_true.mp h; let ⟨k,h,c⟩:=List.mem_map.mp h; List.contains_iff_mem.mpr (ofString_inj (c.trans (beq_iff_eq.mp q))▸h),fun h=>List.any_eq_true.mpr ⟨_,List.mem_map_of_mem (List.contains_iff_mem.mp h),beq_self_eq_true _⟩⟩)
 cases v with
 | int i=>
  exact mapE e fun is i1 c=>va.int fun _ d=>by
   rw [d,← ei c]
   exact seq_e e1 (fun c=>VX.tup o (c▸vb) fun l vs n d hl r _=>by subst d; exact fun _ _=>⟨fun h=>in_tuple_ints (isT hl) (ints_are r i1) h,fun h=>notin_tuple_ints (isT hl) (ints_are r i1) h⟩)
    fun e1=>vb.lst o e1 fun l vs n d hl r _=>by subst d; exact fun _ _=>⟨fun h=>in_list_ints (isL hl) (ints_are r i1) h,fun h=>notin_list_ints (isL hl) (ints_are r i1) h⟩
 | str i=>
  exact mapE e fun is i1 c=>va.str fun _ d=>by
   rw [d,← es c]
   exact seq_e e1 (fun c=>VX.tup o (c▸vb) fun l vs n d hl r _=>by subst d; exact fun _ _=>⟨fun h=>in_tuple_strs (isT hl) (strs_are r i1) h,fun h=>notin_tuple_strs (isT hl) (strs_are r i1) h⟩)
    fun e1=>vb.lst o e1 fun l vs n d hl r _=>by subst d; exact fun _ _=>⟨fun h=>in_list_strs (isL hl) (strs_are r i1) h,fun h=>notin_list_strs (isL hl) (strs_are r i1) h⟩
 | _=>exact nsome e
end
noncomputable def isRf (v:V):Bool:=match v with | .ref _=>true | _=>false
noncomputable def kdR (v:V):Bool:=match v with | .none=>false | .bool _=>false | .int _=>false | .str _=>false | _=>true
theorem Cm.no {T:Tp} {A:Around} {s:Shared} {x y:Value} {t:Bool} (h:plainIs x y=true) (e:(x == y)=t):Cm T A s .Is .IsNot x y t:=fun _ _=>⟨fun k=>wpAny_is_plain h (e▸k),fun k=>wpAny_isNot_plain h (e▸k)⟩
section
variable {T:Tp} {g g':G} {H H':Hp} {s s':Shared} {a b:Addr} {ob:Obj} {q:Prop} {st su:Bool} {v u:V} {x y:Value} {A:Around} {t:Bool} {E:Value→Shared→Prop} {Q:Value→Shared→Prop}
theorem Cm.other {c d:Addr} {oc od:Obj} (n:c≠d) (h1:s.heap.get? c=some oc) (h2:s.heap.get? d=some od) (h3:oc.cls ≠ .type "tuple"):Cm T A s .Is .IsNot (.ref c) (.ref d) false:=fun _ _=>⟨wpAny_is_ref_other n h1 h2 h3,wpAny_isNot_ref_other n h1 h2 h3⟩
theorem Cm.self {c:Addr}:Cm T A s .Is .IsNot (.ref c) (.ref c) true:=fun _ _=>⟨wpAny_is_ref_self,wpAny_isNot_ref_self⟩
theorem obj_at (o:Ok T g H s) (h:objOk T.K a=true) (k:∀ ob d od,g a = .fix ob→ob.cls = .ref 38→ob.data = .plain→ob.dict=some d→s.heap.get? d=some od→q):q:=
 vO_e h fun ob e h=>andE h fun h1 h=>andE h fun h2 h=>vO_e h fun d e3 h=>let ⟨od,e4⟩:=Option.isSome_iff_exists.mp h
 k ob d od (o.base _ _ (T.X _ _ e)) (beq_iff_eq.mp h1) (vPlain_e h2) e3 (o.fx (o.base _ _ (T.X _ _ e4)))
theorem kd_at (o:Ok T g H s) (h:VX st v g x) (n:kdR v=true) (m:isRf v=false) (k:∀ c ob,x = .ref c→s.heap.get? c=some ob→ob.cls=v.kd→(g c).val=true∨(∃ i ob,g c = .own i ob)→(∀ i,g c ≠ .ours i)→q):q:=by
 have fx:∀ {c ob},g c = .fix ob→((g c).val=true∨∃ i ob,g c = .own i ob)∧∀ i,g c ≠ .ours i:=fun {c ob} z=>⟨.inl (z▸rfl),fun i e=>nomatch z.symm.trans e⟩
 cases v with
 | none=>exact nomatch n
 | bool=>exact nomatch n
 | int=>exact nomatch n
 | str=>exact nomatch n
 | ref=>exact nomatch m
 | empty=>exact obj_at o T.top.empty fun ob _ _ z c _ _ _=>k _ ob (h.vr rfl) (o.fx z) c (fx z).1 (fx z).2
 | unspec=>exact obj_at o T.top.unspec fun ob _ _ z c _ _ _=>k _ ob (h.vr rfl) (o.fx z) c (fx z).1 (fx z).2
 | tup xs=>exact VR.tupE (h.vr rfl) fun a vs n e z _ _=>k a _ e (o.fx z) rfl (fx z).1 (fx z).2
 | lst xs=>exact h _ (fun h=>VR.lstE h fun a vs n e z _ _=>k a _ e (o.fx z) rfl (fx z).1 (fx z).2) fun _ i ys a vs n _ _ e z _=>k a _ e (o.ow z) rfl (.inr ⟨_,_,z⟩) fun i e=>nomatch z.symm.trans e
 | obj c fs=>exact VR.objE (h.vr rfl) fun a d od m vs e z _ _ _ _=>k a _ e (o.fx z) rfl (fx z).1 (fx z).2
theorem kd_ne (o:Ok T g H s) (h:VX st v g x) (h':VX su u g y) (n:kdR v=true) (m:isRf v=false) (n':kdR u=true) (m':isRf u=false) (d:v.kd≠u.kd) (nt:v.kd ≠ .type "tuple"):Cm T A s .Is .IsNot x y false:=
 kd_at o h n m fun c oc e1 z1 c1 _ _=>kd_at o h' n' m' fun c' oc' e2 z2 c2 _ _=>by
  subst e1; subst e2
  exact .other (fun e=>d (by rw [← c1,← c2]; subst e; rw [z1] at z2; cases z2; rfl)) z1 z2 (c1▸nt)
theorem addr_find (d:Cls):clsList.find? (fun c=>c.addr == d.addr)=some d:=by cases d <;> rfl
theorem addr_inj {c d:Cls} (h:c.addr=d.addr):c=d:=Option.some.inj ((addr_find c).symm.trans ((congrArg (fun a:Addr=>clsList.find? fun c=>c.addr == a) h).trans (addr_find d)))
theorem addr_38 {c:Cls} (h:Value.ref c.addr = .ref 38):False:=by cases c <;> exact absurd h (by decide)
theorem kd_tup (h:v.kd = .type "tuple") (k:∀ xs,v = .tup xs→q):q:=by cases v <;> first | exact k _ rfl | exact absurd (show Value.type _=Value.type _ from h) (by decide) | exact nomatch (show Value.ref _=Value.type _ from h)
theorem kd_lst (h:v.kd = .type "list") (k:∀ xs,v = .lst xs→q):q:=by cases v <;> first | exact k _ rfl | exact absurd (show Value.type _=Value.type _ from h) (by decide) | exact nomatch (show Value.ref _=Value.type _ from h)
theorem kd_obj {c:Cls} (h:v.kd = .ref c.addr) (k:∀ fs,v = .obj c fs→q):q:=by
 cases v <;> first | exact nomatch (show Value.type _=Value.ref _ from h) | exact (addr_38 h.symm).elim | exact k _ (congrArg (V.obj · _) (addr_inj (Value.ref.inj h)))
theorem kd_one (h:∀ xs,v ≠ .tup xs) (h2:∀ xs,v ≠ .lst xs) (h3:∀ c xs,v ≠ .obj c xs):v.size=1:=by cases v <;> first | rfl | exact absurd rfl (h _) | exact absurd rfl (h2 _) | exact absurd rfl (h3 _ _)
noncomputable abbrev Sz (T:Tp) (g:G) (H:Hp) (s:Shared) (v:V):Prop:=∀ (u:V) (x:Value),VR v g x→VR u g x→v.size=u.size
noncomputable abbrev Szs (T:Tp) (g:G) (H:Hp) (s:Shared) (v:List V):Prop:=∀ (u:List V) (x:List Value),VRs v g x→VRs u g x→V.sizes v=V.sizes u
theorem same_kd (o:Ok T g H s) (h:VR v g x) (h':VR u g x) (n:kdR v=true) (m:isRf v=false):u.kd=v.kd∧kdR u=true∧isRf u=false:=
 kd_at o (VX.of (st:=true) h) n m fun c oc e z cl _ no=>by
  subst e
  have h1:kdR u=true:=by
   cases u with
   | none=>exact nomatch (show Value.ref c = .none from h')
   | bool=>exact nomatch (show Value.ref c = .bool _ from h')
   | int=>exact h' _ fun _ e=>nomatch e
   | str=>exact h' _ fun _ e=>nomatch e
   | _=>rfl
  have h2:isRf u=false:=by
   cases u with
   | ref=>exact h' _ fun a z' e=>by cases e; exact absurd z' (no _)
   | _=>rfl
  exact kd_at o (VX.of (st:=true) h') h1 h2 fun c' oc' e' z' cl' _ _=>by cases e'; rw [z] at z'; cases z'; exact ⟨cl'.symm.trans cl,h1,h2⟩
theorem sz_one (o:Ok T g H s) (k:kdR v=true→isRf v=false→v.kd = .ref 38) (h1:∀ xs,v ≠ .tup xs) (h2:∀ xs,v ≠ .lst xs) (h3:∀ c xs,v ≠ .obj c xs):Sz T g H s v:=fun u x h h'=>by
 have go:∀ w:V,kdR w=true→isRf w=false→VR w g x→w.kd = .type "tuple"∨w.kd = .type "list"∨(∃ c:Cls,w.kd = .ref c.addr)→False:=fun w n m hw d=>by
  have e:=same_kd o hw h n m
  have:=e.1.symm.trans (k e.2.1 e.2.2)
  rw [this] at d
  rcases d with d | d | ⟨c,d⟩
  ·exact nomatch d
  ·exact nomatch d
  ·exact addr_38 d.symm
 exact (kd_one h1 h2 h3).trans (kd_one (fun xs e=>by subst e; exact go _ rfl rfl h' (.inl rfl)) (fun xs e=>by subst e; exact go _ rfl rfl h' (.inr (.inl rfl))) (fun c xs e=>by subst e; exact go _ rfl rfl h' (.inr (.inr ⟨c,rfl⟩)))).symm
theorem VR.size (o:Ok T g H s) (v:V):Sz T g H s v:=V.rec (motive_1:=Sz T g H s) (motive_2:=Szs T g H s) (sz_one o (fun h=>nomatch h) (fun _ e=>vne rfl e) (fun _ e=>vne rfl e) (fun _ _ e=>vne rfl e))
 (sz_one o (fun _ _=>rfl) (fun _ e=>vne rfl e) (fun _ e=>vne rfl e) (fun _ _ e=>vne rfl e)) (sz_one o (fun _ _=>rfl) (fun _ e=>vne rfl e) (fun _ e=>vne rfl e) (fun _ _ e=>vne rfl e))
 (fun _=>sz_one o (fun h=>nomatch h) (fun _ e=>vne rfl e) (fun _ e=>vne rfl e) (fun _ _ e=>vne rfl e)) (fun _=>sz_one o (fun h=>nomatch h) (fun _ e=>vne rfl e) (fun _ e=>vne rfl e) (fun _ _ e=>vne rfl e))
 (fun _=>sz_one o (fun h=>nomatch h) (fun _ e=>vne rfl e) (fun _ e=>vne rfl e) (fun _ _ e=>vne rfl e)) (fun _=>sz_one o (fun _ h=>nomatch h) (fun _ e=>vne rfl e) (fun _ e=>vne rfl e) (fun _ _ e=>vne rfl e))
 (fun _ ih u x h h'=>kd_tup (same_kd o h h' rfl rfl).1 fun ys e=>by
  subst e
  exact VR.tupE h fun a vs n e z r _=>VR.tupE h' fun a' vs' n' e' z' r' _=>by
   cases e.symm.trans e'; cases z.symm.trans z'
   exact congrArg (·+1) (ih _ _ r r'))
 (fun _ ih u x h h'=>kd_lst (same_kd o h h' rfl rfl).1 fun ys e=>by
  subst e
  exact VR.lstE h fun a vs n e z r _=>VR.lstE h' fun a' vs' n' e' z' r' _=>by
   cases e.symm.trans e'; cases z.symm.trans z'
   exact congrArg (·+1) (ih _ _ r r'))
 (fun c _ ih u x h h'=>kd_obj (same_kd o h h' rfl rfl).1 fun ys e=>by
  subst e
  exact VR.objE h fun a d od m vs e z zd N F r=>VR.objE h' fun a' d' od' m' vs' e' z' zd' N' F' r'=>by
   cases e.symm.trans e'
   injection z.symm.trans z' with q
   injection q with _ q
   cases q
   cases zd.symm.trans zd'
   obtain ⟨es,ep,h1,_,_,h2,_⟩:=N
   obtain ⟨es',ep',h1',_,_,h2',_⟩:=N'
   cases h1.symm.trans h1'
   cases (funext fun n=>(h2 n).symm.trans (h2' n):m=m')
   have e2:vs=vs':=(List.map_inj_right fun _ _=>Option.some.inj).mp (F.symm.trans F')
   subst e2
   exact congrArg (·+1) (ih _ _ r r'))
 (fun u x h h'=>h.e0 fun e=>by
  subst e
  cases u with
  | nil=>rfl
  | cons=>exact VRs.e h' fun _ _ e=>nomatch e)
 (fun _ _ ih ihs u x h h'=>VRs.e h fun w ws e r rs=>by
  subst e
  cases u with
  | nil=>exact nomatch (show _::_=[] from h')
  | cons=>exact VRs.e h' fun w' ws' e r' rs'=>by cases e; show V.size _+V.sizes _=V.size _+V.sizes _; rw [ih _ _ r r',ihs _ _ rs rs']) v
end
section
variable {T:Tp} {g g':G} {H H':Hp} {s s':Shared} {a b:Addr} {ob:Obj} {q:Prop} {st su:Bool} {v u r:V} {x y:Value} {A:Around} {t:Bool} {E:Value→Shared→Prop} {Q:Value→Shared→Prop}
theorem ref_at (h:VX st v g x) (n:kdR v=true) (k:∀ c,x = .ref c→q):q:=by
 cases v with
 | none=>exact nomatch n
 | bool=>exact nomatch n
 | int=>exact nomatch n
 | str=>exact nomatch n
 | empty=>exact k _ (h.vr rfl)
 | unspec=>exact k _ (h.vr rfl)
 | ref i=>exact h.ref fun a _ e=>k a e
 | tup xs=>exact VR.tupE (h.vr rfl) fun a _ _ e _ _ _=>k a e
 | lst xs=>exact h _ (fun h=>VR.lstE h fun a _ _ e _ _ _=>k a e) fun _ _ _ a _ _ _ _ e _ _=>k a e
 | obj c fs=>exact VR.objE (h.vr rfl) fun a _ _ _ _ e _ _ _ _ _=>k a e
theorem isV_ok (o:Ok T g H s) (va:VX st v g x) (vb:VX su u g y) (e:isV v u=some t):Cm T A s .Is .IsNot x y t:=by
 have atom:∀ {w:Value},kdR v=true→(∀ c,plainIs (.ref c) w=true)→(∀ c,(Value.ref c == w)=false)→t=false→Cm T A s .Is .IsNot x w t:=fun n p d h=>ref_at va n fun c e=>by subst e; subst h; exact .no (p c) (d c)
 cases u with
 | none=>
  rw [vb.none]
  cases v with
  | none=>rw [va.none]; exact .no rfl (Option.some.inj e)
  | bool=>exact va.bool ▸ .no rfl (Option.some.inj e)
  | int=>exact va.int fun _ c=>c ▸ .no rfl (Option.some.inj e)
  | str=>exact va.str fun _ c=>c ▸ .no rfl (Option.some.inj e)
  | _=>exact atom rfl (fun _=>rfl) (fun _=>rfl) (Option.some.inj e).symm
 | bool b=>
  rw [vb.bool]
  cases v with
  | none=>exact va.none ▸ .no rfl (Option.some.inj e)
  | bool c=>exact va.bool ▸ .no rfl ((by cases b <;> cases c <;> rfl:(Value.bool c == Value.bool b)=(c == b)).trans (Option.some.inj e))
  | int=>exact va.int fun _ c=>c ▸ .no rfl (Option.some.inj e)
  | str=>exact va.str fun _ c=>c ▸ .no rfl (Option.some.inj e)
  | _=>exact atom rfl (fun _=>rfl) (fun _=>rfl) (Option.some.inj e).symm
 | empty=>
  have hy:y = .ref emptyA:=vb.vr rfl
  cases v with
  | none=>exact hy▸va.none ▸ .no rfl (Option.some.inj e)
  | bool=>exact hy▸va.bool ▸ .no rfl (Option.some.inj e)
  | int=>exact hy▸va.int fun _ c=>c ▸ .no rfl (Option.some.inj e)
  | str=>exact hy▸va.str fun _ c=>c ▸ .no rfl (Option.some.inj e)
  | empty=>rw [hy,(va.vr rfl:x = .ref emptyA),← Option.some.inj e]; exact .self
  | unspec=>exact hy▸(va.vr rfl:x = .ref unspecA)▸Option.some.inj e▸obj_at o T.top.empty fun ob _ _ z c _ _ _=>obj_at o T.top.unspec fun ob' _ _ z' c' _ _ _ => .other (by decide) (o.fx z') (o.fx z) (by rw [c']; exact fun e=>nomatch e)
  | lst=>exact Option.some.inj e▸kd_ne o va vb rfl rfl rfl rfl (fun h=>nomatch (show Value.type "list"=Value.ref 38 from h)) (fun h=>absurd (show Value.type "list"=Value.type "tuple" from h) (by decide))
  | obj c=>exact Option.some.inj e▸kd_ne o va vb rfl rfl rfl rfl (fun h=>addr_38 h) (fun h=>nomatch (show Value.ref _=Value.type _ from h))
  | _=>exact nsome e
 | obj d gs=>
  cases v with
  | empty=>exact Option.some.inj e▸kd_ne o va vb rfl rfl rfl rfl (fun h=>addr_38 h.symm) (by decide)
  | obj c fs=>
   exact ifE e fun n e=>Option.some.inj e▸VR.objE (va.vr rfl) fun a _ _ _ _ e1 z1 _ _ _ _=>VR.objE (vb.vr rfl) fun b _ _ _ _ e2 z2 _ _ _ _=>by
    have vb:=vb
    rw [e1,e2]
    exact .other (fun c=>n (VR.size o _ _ _ (va.vr rfl) (by rw [e1,c,← e2]; exact vb.vr rfl))) (o.fx z1) (o.fx z2) fun e=>nomatch e
  | _=>exact nsome e
 | _=>exact nsome e
theorem cmpV_ok {c:CO} (o:Ok T g H s) (hu:A.units+64 < cLine) (va:VX st v g x) (vb:VX su u g y) (e:cmpV H c v u=some r) (k:∀ t,r = .bool t→(∀ (E Q:Value→Shared→Prop),Q (.bool t) s→wpAny T.M A (compareOp c.op x y) Q E s)→q):q:=by
 cases c with
 | eq=>exact mapE e fun t e c=>k t c.symm fun E Q=>(eqV_ok o hu va vb e E Q).1
 | ne=>exact mapE e fun t e c=>k _ c.symm fun E Q=>(eqV_ok o hu va vb e E Q).2
 | lt=>exact bindE e fun i e1 e=>mapE e fun j e2 c=>int_e e1 fun e1=>int_e e2 fun e2=>VX.int (e1▸va) fun _ e1=>VX.int (e2▸vb) fun _ e2=>k _ c.symm fun _ _ h=>by rw [e1,e2]; exact lt_int h
 | gt=>exact bindE e fun i e1 e=>mapE e fun j e2 c=>int_e e1 fun e1=>int_e e2 fun e2=>VX.int (e1▸va) fun _ e1=>VX.int (e2▸vb) fun _ e2=>k _ c.symm fun _ _ h=>by rw [e1,e2]; exact gt_int h
 | is=>exact mapE e fun t e c=>k t c.symm fun E Q=>(isV_ok o va vb e E Q).1
 | isNot=>exact mapE e fun t e c=>k _ c.symm fun E Q=>(isV_ok o va vb e E Q).2
 | isIn=>exact mapE e fun t e c=>k t c.symm fun E Q=>(inV_ok o va vb e E Q).1
 | notIn=>exact mapE e fun t e c=>k _ c.symm fun E Q=>(inV_ok o va vb e E Q).2
theorem kitx_cls {K:Frag} {x C:Addr} {ox od:Obj} (e:clsOk K C=true):KitX K (.ref x) (.ref C) (fun h=>InstAt h x ox C (some od)):=
 andE e fun e1 e=>andE e fun e2 e=>andE e fun e3 e=>andE e fun e4 e=>andE e fun e5 e6=>kitx_own e1 e2 (beq_iff_eq.mp e3) (beq_iff_eq.mp e4) (beq_iff_eq.mp e5) (beq_iff_eq.mp e6)
theorem inst_of {C d:Addr} {od:Obj} (h:s.heap.get? a=some ob) (c:ob.cls = .ref C) (p:ob.data = .plain) (e:ob.dict=some d) (h2:s.heap.get? d=some od):InstAt s.heap a ob C (some od):=
 ⟨h,c,by unfold notCls; rw [p],by rw [e]; exact h2⟩
theorem kitx (o:Ok T g H s) (h:VX st v g x) (n:isRf v=false) (k:∀ Hh,KitX T.K x v.kd Hh→Hh s.heap→x ≠ .builtin "__main__.__loader__#opaque"→q):q:=by
 cases v with
 | none=>exact k _ (h.none▸kitx_none) trivial (h.none▸fun e=>nomatch e)
 | bool=>exact k _ (h.bool▸kitx_bool) trivial (h.bool▸fun e=>nomatch e)
 | int=>exact h.int fun _ c=>k _ (c▸kitx_int) trivial (c▸fun e=>nomatch e)
 | str=>exact h.str fun _ c=>k _ (c▸kitx_str) trivial (c▸fun e=>nomatch e)
 | ref=>exact nomatch n
 | empty=>exact obj_at o T.top.empty fun _ _ _ z c p e h2=>by have hx:x = .ref emptyA:=h.vr rfl; subst hx; exact k _ (kitx_cls T.top.cls38) (inst_of (o.fx z) c p e h2) fun e=>nomatch e
 | unspec=>exact obj_at o T.top.unspec fun _ _ _ z c p e h2=>by have hx:x = .ref unspecA:=h.vr rfl; subst hx; exact k _ (kitx_cls T.top.cls38) (inst_of (o.fx z) c p e h2) fun e=>nomatch e
 | tup=>exact h.tup o fun _ _ _ c hl _ _=>by subst c; exact k _ kitx_tuple ⟨_,hl,rfl⟩ fun e=>nomatch e
 | lst=>exact h.lst o rfl fun _ _ _ c hl _ _=>by subst c; exact k _ kitx_list ⟨_,hl,rfl⟩ fun e=>nomatch e
 | obj c=>exact VR.objE (h.vr rfl) fun _ _ _ _ _ e z zd _ _ _=>by subst e; exact k _ (kitx_cls (List.all_eq_true.mp T.top.cls c c.mem)) ⟨o.fx z,rfl,rfl,o.fx zd⟩ fun e=>nomatch e
theorem smp (v:V) (n:isRf v=false) (k:∀ u∈samples,u.kd=v.kd→(∀ t:Ty,t.has u=t.has v)→q):q:=by
 cases v with
 | none=>exact k .none (List.mem_of_getElem? (i:=0) rfl) rfl fun _=>rfl
 | bool=>exact k (.bool true) (List.mem_of_getElem? (i:=1) rfl) rfl fun _=>rfl
 | int=>exact k (.int 0) (List.mem_of_getElem? (i:=2) rfl) rfl fun _=>rfl
 | str=>exact k (.str "") (List.mem_of_getElem? (i:=3) rfl) rfl fun _=>rfl
 | tup=>exact k (.tup []) (List.mem_of_getElem? (i:=4) rfl) rfl fun _=>rfl
 | lst=>exact k (.lst []) (List.mem_of_getElem? (i:=5) rfl) rfl fun _=>rfl
 | ref=>exact nomatch n
 | obj c=>exact k (.obj c []) (List.mem_append_right _ (List.mem_map_of_mem c.mem)) rfl fun _=>rfl
 | _=>exact k .empty (List.mem_of_getElem? (i:=6) rfl) rfl fun _=>rfl
noncomputable def TyAt (t:Ty) (v:Value) (h:Heap):Prop:=(t∈tyList∧v=t.val)∨(t = .boolInt∧∃ a n sl,v = .ref a∧h.get? a=some { cls := .type "tuple",dict:=none,data := .seq boolInts.toArray n,slots:=sl })
theorem isI_ok {c:Ty} {tv:Value} (o:Ok T g H s) (h:VX st v g x) (e:c.has v=some t) (ht:TyAt c tv s.heap) (k:Nx T g H su (.bool t) Q):wpAny T.M A (call (.builtin "isinstance") [x,tv]) Q E s:=by
 have n:isRf v=false:=by cases v with | ref=>exact nsome e | _=>rfl
 refine kitx o h n fun Hh Z p hx=>smp v n fun u m e1 e2=>?_
 rcases ht with ⟨nb,rfl⟩ | ⟨rfl,a,n,sl,rfl,ha⟩
 ·have i:=(Bool.and_eq_true_iff.mp (List.all_eq_true.mp (List.all_eq_true.mp T.top.isi u m) c nb)).2
  exact kia_one Z (inK o) p ((e1▸beq_iff_eq.mp i).trans ((e2 c).trans e)) hx fun tk=>k.tk o rfl
 ·exact kia_tup Z (inK o) p ha ((e1▸beq_iff_eq.mp (List.all_eq_true.mp T.top.isi2 u m)).trans ((e2 _).trans e)) hx fun tk=>k.tk o rfl
end
section
variable {T:Tp} {g g':G} {H H':Hp} {s s':Shared} {a b:Addr} {ob:Obj} {q:Prop} {st su sv:Bool} {v u r:V} {x y z:Value} {A:Around} {t:Bool} {E:Value→Shared→Prop} {Q:Value→Shared→Prop}
theorem room_line:room+1000≤sizeLine:=by rw [sizeLine_eq]; decide
theorem le_line {n:Nat} (h:n≤room+2):n+2≤sizeLine:=Nat.le_trans (Nat.add_le_add_right h 2) (Nat.le_trans (by decide) room_line)
theorem Nx.tup {vs:List Value} {xs:List V} {k n:Nat} (h:Nx T g H st (.tup xs) Q) (o:Ok T g H s) (r:VRs xs g vs) (l:xs.length≤room+2):Q (.ref s.heap.objs.size) { s with heap:=s.heap.push (tupObj vs n),toks:=k }:=
 h.new o rfl fun _ lv z=>⟨l,fun _ k=>k _ vs n rfl z (VRs.mono _ lv r)⟩
theorem Nx.lst {vs:List Value} {xs:List V} {k n:Nat} (h:Nx T g H st (.lst xs) Q) (o:Ok T g H s) (r:VRs xs g vs) (l:xs.length≤room+2):Q (.ref s.heap.objs.size) { s with heap:=s.heap.push (lstObj vs n),toks:=k }:=
 h.new o rfl fun _ lv z=>⟨l,fun _ k=>k _ vs n rfl z (VRs.mono _ lv r)⟩
theorem Nx.int {i:Int} {t:Tok} {n:Nat} (h:Nx T g H st (.int i) Q) (o:Ok T g H s):Q (.int i t) { s with toks:=n }:=h.tk o fun _ k=>k t rfl
theorem ne_arr:∀ {vs:List Value},0 < vs.length→¬ vs.toArray.isEmpty=true
 | [],h=>absurd h (Nat.lt_irrefl 0)
 | _::_,_=>Bool.false_ne_true
theorem addV_ok (o:Ok T g H s) (va:VX st v g x) (vb:VX su u g y) (e:addV H v u=some r) (k:Nx T g H sv r Q):wpAny T.M A (binaryOp .Add x y) Q E s:=by
 have go:(items H v).bind (fun xs=>(items H u).bind fun ys=>if xs.length+ys.length≤room then some (.lst (xs++ys)) else Option.none)=some r→wpAny T.M A (binaryOp .Add x y) Q E s:=fun e=>bindE e fun xs e1 e=>bindE e fun ys e2 e=>ifE e fun c e=>
  va.lst o e1 fun l vs n c1 h1 r1 _=>vb.lst o e2 fun l' us n' c2 h2 r2 _=>by
   cases e; subst c1; subst c2
   refine P.add_list (items:=vs.toArray) (items2:=us.toArray) h1 h2 ?_ (by rw [List.size_toArray,List.size_toArray,r1.length,r2.length]; exact Nat.le_trans c (Nat.le_of_add_right_le room_line))
   rw [List.append_toArray]
   exact k.lst o (VRs.append r2 r1) (by rw [List.length_append]; exact Nat.le_add_right_of_le c)
 cases v with
 | int i=>exact mapE e fun j c d=>int_e c fun c=>by subst c; subst d; exact va.int fun _ c=>vb.int fun _ d=>by subst c; subst d; exact add_int (k.int o)
 | tup as=>
  exact bindE e fun bs c e=>tup_e c fun c=>ifE e fun d e=>by
   cases e; subst c
   exact va.tup o fun l vs n c1 h1 r1 _=>vb.tup o fun l' us n' c2 h2 r2 _=>by
    subst c1; subst c2
    refine P.add_tuple (items:=vs.toArray) (items2:=us.toArray) h1 h2 (ne_arr (r1.length.symm▸d.2.1)) (ne_arr (r2.length.symm▸d.2.2)) ?_ (by rw [List.size_toArray,List.size_toArray,r1.length,r2.length]; exact Nat.le_trans d.1 (Nat.le_of_add_right_le room_line))
    rw [List.append_toArray]
    exact k.tup o (VRs.append r2 r1) (by rw [List.length_append]; exact Nat.le_add_right_of_le d.1)
 | _=>exact go e
theorem small_iff {i:Int} (h:small i=true):i.natAbs < 4611686018427387904:=of_decide_eq_true h
theorem nab {i:Int} (c:i.natAbs < 4611686018427387904) : -(2 ^ 63)≤i∧i < 2 ^ 63:=by omega
theorem arV_ok {op:BO} {i j:Int} {t u:Tok} {m:Int} (o:Ok T g H s) (e:arV op i j=some m) (k:Nx T g H sv (.int m) Q):wpAny T.M A (binaryOp op.op (.int i t) (.int j u)) Q E s:=by
 cases op with
 | add=>exact nsome e
 | sub=>cases e; exact PyProof.Rows.sub_int (k.int o)
 | mul=>
  exact ifE e fun c e=>by
   cases e
   have c:=small_iff c
   refine mul_int (k.int o) ?_
   have:=intBits_le_64 (k:=i) (Int.lt_of_lt_of_le (by decide) (nab c).1) (Int.lt_trans (nab c).2 (by decide))
   unfold IntMulOk
   rw [show decide (Builtin.Int.intBits i > shortFactorBits)=false from decide_eq_false (Nat.not_lt.mpr (Nat.le_trans this (by decide)))]
   exact Bool.false_ne_true
 | div=>
  exact ifE e fun c e=>by
   cases e
   have c:=of_decide_eq_true c
   exact floordiv_int (Ne.symm (Int.ne_of_lt c.1)) (k.int o) (.inl (PyProof.noPylong_small (by omega)))
 | mod=>exact ifE e fun c e=>by cases e; exact mod_int' (Ne.symm (Int.ne_of_lt (of_decide_eq_true c))) (k.int o)
 | pow=>
  exact ifE e fun c e=>by
   cases e
   have c:=of_decide_eq_true c
   refine pow_int c.2.2.1 ?_ (k.int o)
   have:=intBits_le_64 (k:=i) (Int.le_trans (by decide) c.1) (Int.lt_of_le_of_lt c.2.1 (by decide))
   have h2:(Builtin.Int.intBits i:Int)*j≤64*64:=Int.le_trans (Int.mul_le_mul_of_nonneg_right (c:=j) (b:=64) (by omega) c.2.2.1) (Int.mul_le_mul_of_nonneg_left c.2.2.2 (by omega))
   omega
theorem binV_ok {op:BO} (o:Ok T g H s) (va:VX st v g x) (vb:VX su u g y) (e:binV H op v u=some r) (k:Nx T g H sv r Q):wpAny T.M A (binaryOp op.op x y) Q E s:=by
 have go:(v.int?.bind fun i=>u.int?.bind fun j=>(arV op i j).map V.int)=some r→wpAny T.M A (binaryOp op.op x y) Q E s:=fun f=>bindE f fun i e1 f=>bindE f fun j e2 f=>mapE f fun m e3 d=>
  VX.int (int_e e1 fun e1=>e1▸va) fun _ c1=>VX.int (int_e e2 fun e2=>e2▸vb) fun _ c2=>by subst c1; subst c2; subst d; exact arV_ok o e3 k
 cases op with
 | add=>exact addV_ok o va vb e k
 | _=>exact go e
theorem arr_get (vs:List Value) (i:Nat):vs.toArray[i]?=vs[i]?:=List.getElem?_toArray
theorem getI_e {xs:List V} {i:Int} (e:getI xs i=some r) (k:i.natAbs < 4611686018427387904→0≤i→xs[i.toNat]?=some r→q) (l:i.natAbs < 4611686018427387904→i < 0→0≤i+xs.length→xs[(i+xs.length).toNat]?=some r→q):q:=by
 refine ifE e fun c e=>?_
 by_cases h:0≤i
 ·rw [if_pos h] at e; exact k (small_iff c) h e
 ·rw [if_neg h] at e; exact ifE e fun d e=>l (small_iff c) (Int.not_le.mp h) d e
theorem get_lt {α:Type} {l:List α} {i:Nat} {x:α} (e:l[i]?=some x):i < l.length:=(List.getElem?_eq_some_iff.mp e).1
theorem getI_list {xs:List V} {vs:List Value} {l:Addr} {n:Nat} {i:Int} {t:Tok} (e:getI xs i=some r) (hl:s.heap.get? l=some (lstObj vs n)) (R:VRs xs g vs) (h:∀ v,VR r g v→Q v s):wpAny T.M A (getItem (.ref l) (.int i t)) Q E s:=
 getI_e e (fun c d e=>R.get e fun v h1 h2=>wpAny_getItem_list (isL hl) d (nab c).2 ((arr_get _ _).trans h1) (h v h2)) fun c d f e=>R.get e fun v h1 h2=>by
  have hn:=R.length
  exact wpAny_getItem_list_neg (isL hl) d (by rw [List.size_toArray,hn]; exact Int.le_of_sub_nonneg (show 0≤i - -(xs.length:Int) by rw [Int.sub_neg]; exact f)) (nab c).1 (by rw [arr_get,List.size_toArray,hn]; exact h1) (h v h2)
theorem getI_tup {xs:List V} {vs:List Value} {l:Addr} {n:Nat} {i:Int} {t:Tok} (e:getI xs i=some r) (hl:s.heap.get? l=some (tupObj vs n)) (R:VRs xs g vs) (h:∀ v,VR r g v→Q v s):wpAny T.M A (getItem (.ref l) (.int i t)) Q E s:=by
 have hn:=R.length
 refine getI_e e (fun c d e=>R.get e fun v h1 h2=>getItem_tuple (isT hl) (nab c).1 (nab c).2 (j:=i.toNat) ?_ ((arr_get _ _).trans h1) (h v h2)) fun c d f e=>R.get e fun v h1 h2=>getItem_tuple (isT hl) (nab c).1 (nab c).2 (j:=(i+xs.length).toNat) ?_ ((arr_get _ _).trans h1) (h v h2)
 ·have lt:=get_lt h1
  unfold seqIndex?
  rw [List.size_toArray,if_neg (Int.not_lt.mpr d),if_pos (by rw [Bool.and_eq_true]; exact ⟨decide_eq_true d,decide_eq_true ((Int.toNat_lt d).mp lt)⟩)]
 ·have lt:=get_lt h1
  unfold seqIndex?
  rw [List.size_toArray,hn,if_pos d,if_pos (by rw [Bool.and_eq_true]; exact ⟨decide_eq_true f,decide_eq_true ((Int.toNat_lt f).mp (Nat.lt_of_lt_of_eq lt hn))⟩)]
end
section
variable {T:Tp} {g g':G} {H H':Hp} {s s':Shared} {a b:Addr} {ob:Obj} {q:Prop} {st su sv:Bool} {v u r:V} {x y z:Value} {A:Around} {t:Bool} {E:Value→Shared→Prop} {Q:Value→Shared→Prop}
theorem idx_e (e:idxV H v u=some r) (k1:∀ d es i,v = .ref d→H[d]?=some (.dictS es)→u = .str i→aget i es=some r→q) (k2:∀ d es i,v = .ref d→H[d]?=some (.dictI es)→u = .int i→aget i es=some r→q)
  (k3:∀ xs i,items H v=some xs→u = .int i→getI xs i=some r→q) (k4:∀ xs i,v = .tup xs→u = .int i→getI xs i=some r→q):q:=by
 cases v with
 | ref d=>
  refine bindE e fun o e1 e=>?_
  cases o with
  | dictS es=>exact bindE e fun i e2 e=>str_e e2 fun c=>k1 d es i rfl e1 c e
  | dictI es=>exact bindE e fun i e2 e=>int_e e2 fun c=>k2 d es i rfl e1 c e
  | list xs=>exact bindE e fun i e2 e=>int_e e2 fun c=>k3 xs i (by show H[d]?.bind _=_; rw [e1]; rfl) c e
  | _=>exact nsome e
 | tup xs=>exact bindE e fun i e2 e=>int_e e2 fun c=>k4 xs i rfl c e
 | lst xs=>exact bindE e fun i e2 e=>int_e e2 fun c=>k3 xs i rfl c e
 | _=>exact nsome e
theorem PRs.e {κ α:Type} {f:α→κ} {p:α×V} {es:List (α×V)} {kvs:List (κ×Value)} (h:PRs f (p::es) g kvs) (k:∀ w l,kvs=(f p.1,w)::l→VR p.2 g w→PRs f es g l→q):q:=h q k
theorem PRs.nil {κ α:Type} {f:α→κ}:PRs f [] g []:=rfl
theorem PRs.cons {κ α:Type} {f:α→κ} {p:α×V} {es:List (α×V)} {l:List (κ×Value)} (a:VR p.2 g x) (b:PRs f es g l):PRs f (p::es) g ((f p.1,x)::l):=fun _ k=>k x l rfl a b
theorem aget_PRs {κ α:Type} [DecidableEq κ] [DecidableEq α] {f:α→κ} (inj:∀ a b,f a=f b→a=b) (i:α):∀ {es:List (α×V)} {kvs:List (κ×Value)},PRs f es g kvs→(aget i es=none→valueAt kvs (f i)=none→q)→(∀ x v,aget i es=some x→valueAt kvs (f i)=some v→VR x g v→q)→q
 | [],_,h,k,_=>k rfl ((show _=[] from h)▸rfl)
 | (n,x)::es,_,h,k,l=>h.e fun w r e a b=>by
  subst e
  by_cases c:n=i
  ·subst c
   exact l x w (congrArg (Option.map Prod.snd) (List.find?_cons_of_pos (p:=fun e:α×V=>decide (e.1=n)) (a:=(n,x)) (decide_eq_true rfl))) (congrArg (Option.map Prod.snd) (List.find?_cons_of_pos (p:=fun e:κ×Value=>decide (e.1=f n)) (a:=(f n,w)) (decide_eq_true rfl))) a
  ·have e1:aget i ((n,x)::es)=aget i es:=congrArg (Option.map _) (List.find?_cons_of_neg fun h=>c (of_decide_eq_true h))
   have e2:valueAt ((f n,w)::r) (f i)=valueAt r (f i):=congrArg (Option.map _) (List.find?_cons_of_neg fun h=>c (inj _ _ (of_decide_eq_true h)))
   exact aget_PRs inj i b (fun h1 h2=>k (e1.trans h1) (e2.trans h2)) fun x v h1 h2=>l x v (e1.trans h1) (e2.trans h2)
theorem isInt_refl (i:Int) (t:Tok):(PySem.intKind T.prog T.w).is i (.int i t)=true:=beq_self_eq_true i
theorem isStr_refl (i:Str) (t:Tok):(PySem.strKind T.prog T.w).is i (.str i t)=true:=strKind_is T.prog T.w i t
theorem OR.dI {es:List (Int×V)} (h:OR T (.dictI es) g ob) (k:∀ kvs,ob.IsDictOf (PySem.intKind T.prog T.w) kvs→PRs id es g kvs→es.length≤room+2→q):q:=h.2 q fun kvs e r=>k kvs e r h.1
theorem OR.dS {es:List (String×V)} (h:OR T (.dictS es) g ob) (k:∀ kvs,ob.IsDictOf (PySem.strKind T.prog T.w) kvs→PRs Str.ofString es g kvs→es.length≤room+2→q):q:=h.2 q fun kvs e r=>k kvs e r h.1
theorem dict_map {κ:Type} [DecidableEq κ] {knd:PySem.KeyKind T.prog T.w κ} {d:Addr} {kvs:List (κ×Value)} {h:Heap} (e:h.get? d=some ob) (D:ob.IsDictOf knd kvs):Heap.DictOf knd h d kvs:=Heap.dictOf_iff.mpr ⟨ob,e,D⟩
theorem dS_at {es:List (String×V)} {d:Nat} (o:Ok T g H s) (va:VX st (.ref d) g x) (h:H[d]?=some (.dictS es)) (k:∀ a kvs,x = .ref a→g a = .ours d→Heap.DictOf (PySem.strKind T.prog T.w) s.heap a kvs→PRs Str.ofString es g kvs→es.length≤room+2→2≤a→q):q:=
 va.ref fun a z c=>o.mem h z fun _ hh r lo=>OR.dS r fun kvs e r l=>k a kvs c z (dict_map hh e) r l lo
theorem dI_at {es:List (Int×V)} {d:Nat} (o:Ok T g H s) (va:VX st (.ref d) g x) (h:H[d]?=some (.dictI es)) (k:∀ a kvs,x = .ref a→g a = .ours d→Heap.DictOf (PySem.intKind T.prog T.w) s.heap a kvs→PRs id es g kvs→es.length≤room+2→2≤a→q):q:=
 va.ref fun a z c=>o.mem h z fun _ hh r lo=>OR.dI r fun kvs e r l=>k a kvs c z (dict_map hh e) r l lo
theorem idxV_ok {ve se:Expr} (o:Ok T g H s) (va:VX st v g x) (vb:VX su u g y) (e:idxV H v u=some r) (hs:subscripted se false x y=operate [x,y] (getItem x y)) (k:Nx T g H sv r Q):wpAny T.M A (subscriptTail ve se x y) Q E s:=
 idx_e e (fun d es i c h d' e=>VX.str (d'▸vb) fun t c'=>dS_at o (c▸va) h fun a kvs c _ D r _ _=>aget_PRs (fun _ _=>ofString_inj) i r (fun e' _=>nsome (e'.symm.trans e)) fun x v e1 e2 e3=>by
   rw [c,c'] at hs ⊢
   cases e1.symm.trans e
   exact tail_any D.mapOf.typeIs slot_dict_getitem.lookup (wpAny_getItem_of (isStr_refl _ _) D.mapOf e2 (k.tk o e3)) hs)
  (fun d es i c h d' e=>VX.int (d'▸vb) fun t c'=>dI_at o (c▸va) h fun a kvs c _ D r _ _=>aget_PRs (fun _ _ e=>e) i r (fun e' _=>nsome (e'.symm.trans e)) fun x v e1 e2 e3=>by
   rw [c,c'] at hs ⊢
   cases e1.symm.trans e
   exact tail_any D.mapOf.typeIs slot_dict_getitem.lookup (wpAny_getItem_of (isInt_refl _ _) D.mapOf e2 (k.tk o e3)) hs)
  (fun xs i h d' e=>VX.int (d'▸vb) fun t c'=>va.lst o h fun a vs n c hl r _=>by
   rw [c,c'] at hs ⊢
   exact tail_any (isL hl).typeIs slot_list_getitem.lookup (getI_list e hl r fun v=>k.of o) hs)
  fun xs i h d' e=>VX.int (d'▸vb) fun t c'=>VX.tup o (h▸va) fun a vs n c hl r _=>by
   rw [c,c'] at hs ⊢
   exact tail_any (isT hl).typeIs slot_tuple_getitem.lookup (getI_tup e hl r fun v=>k.of o) hs
end
section
variable {T:Tp} {g g':G} {H H':Hp} {s s':Shared} {a b:Addr} {ob:Obj} {q:Prop} {st su sv:Bool} {v u r:V} {x y z:Value} {A:Around} {t:Bool} {E:Value→Shared→Prop} {Q:Value→Shared→Prop} {α:Type}
noncomputable def bd (v:V):Option Int:=v.int?
theorem take_min (l:List α) (m n:Nat) (h:l.length≤n):l.take (min m n)=l.take m:=by
 rcases Nat.le_total m n with c | c
 ·rw [Nat.min_eq_left c]
 ·rw [Nat.min_eq_right c,List.take_of_length_le h,List.take_of_length_le (Nat.le_trans h c)]
theorem drop_min (l:List α) (m n:Nat) (h:l.length≤n):l.drop (min m n)=l.drop m:=by
 rcases Nat.le_total m n with c | c
 ·rw [Nat.min_eq_left c]
 ·rw [Nat.min_eq_right c,List.drop_of_length_le h,List.drop_of_length_le (Nat.le_trans h c)]
theorem clip_neg (k n:Nat):(Int.negSucc k+(n:Int)).toNat=clipAt n (.negSucc k):=(congrArg Int.toNat (rfl:Int.negSucc k+(n:Int)=(n:Int) - ((k+1:Nat):Int))).trans ((Int.toNat_sub ..).trans (clipAt_neg n (k+1) (Nat.le_add_left _ _)).symm)
theorem part_of (h:VX st v g x) (e:v = .none∨∃ i,v = .int i):IsPart x (bd v):=by
 rcases e with e | ⟨i,e⟩
 ·subst e; exact h.none ▸ .none
 ·subst e; exact h.int fun _ c=>c ▸ .int _ _
theorem take_clip {xs ys:List V} (e:takeV xs v=some ys):(v = .none∨∃ i,v = .int i)∧ys=xs.take ((bd v).elim xs.length (clipAt xs.length)):=by
 cases v with
 | none=>exact ⟨.inl rfl,(Option.some.inj e).symm.trans List.take_length.symm⟩
 | int i=>
  refine ⟨.inr ⟨i,rfl⟩,(Option.some.inj e).symm.trans ?_⟩
  cases i with
  | ofNat m=>exact (take_min xs m _ (Nat.le_refl _)).symm.trans (congrArg xs.take (clipAt_nat _ m).symm)
  | negSucc k=>exact congrArg xs.take (clip_neg k _)
 | _=>exact nsome e
theorem drop_clip {n:Nat} {xs ys:List V} (h:xs.length≤n) (e:dropV xs v=some ys) (hn:(∀ k,v ≠ .int (.negSucc k))∨xs.length=n):(v = .none∨∃ i,v = .int i)∧ys=xs.drop ((bd v).elim 0 (clipAt n)):=by
 cases v with
 | none=>exact ⟨.inl rfl,(Option.some.inj e).symm⟩
 | int i=>
  refine ⟨.inr ⟨i,rfl⟩,(Option.some.inj e).symm.trans ?_⟩
  cases i with
  | ofNat m=>exact (drop_min xs m _ h).symm.trans (congrArg xs.drop (clipAt_nat _ m).symm)
  | negSucc k=>exact hn.elim (fun h=>absurd rfl (h k)) fun h=>h▸congrArg xs.drop (clip_neg k _)
 | _=>exact nsome e
theorem ldrop (l:List α) (n:Nat):(l.drop n).length≤l.length:=List.length_drop▸Nat.sub_le ..
theorem sl_e {xs ys zs:List V} (e:(match u with | .none=>dropV xs v | _=>match v with | .int (.negSucc _)=>Option.none | _=>dropV ys v)=some zs) (e1:takeV xs u=some ys) :
  (v = .none∨∃ i,v = .int i)∧zs=(xs.take ((bd u).elim xs.length (clipAt xs.length))).drop ((bd v).elim 0 (clipAt xs.length)):=by
 have ⟨hu,c⟩:=take_clip e1
 rcases hu with d | ⟨i,d⟩
 ·subst d
  have:=drop_clip (Nat.le_refl _) e (.inr rfl)
  exact ⟨this.1,this.2.trans (congrArg (List.drop _) List.take_length.symm)⟩
 ·subst d
  have hl:ys.length≤xs.length:=c▸List.length_take_le' ..
  cases v with
  | int j=>
   cases j with
   | negSucc=>exact nsome e
   | ofNat=>exact c▸drop_clip hl e (.inl fun _ e=>nomatch e)
  | _=>exact c▸drop_clip hl e (.inl fun _ e=>vne rfl e)
theorem slV_ok {ve:Expr} {el eu:Option Expr} {sl:Addr} {p:Pos} (o:Ok T g H s) (va:VX st v g x) {lo hi:V} {vl vu:Value} (pl:VX true lo g vl) (pu:VX true hi g vu) (e:slV v lo hi=some r) (hs:s.heap.IsSliceOf sl vl vu .none) (k:Nx T g H sv r Q) :
  wpAny T.M A (subscriptTail ve (.Slice el eu none p) x (.ref sl)) Q E s:=by
 cases v with
 | tup xs=>
  cases hi with
  | none=>
   exact bindE e fun i e1 e=>ifE e fun c e=>VX.int (int_e e1 fun d=>d▸pl) fun t d=>va.tup o fun l vs n d' hl R l1=>by
    have ei:(Value.int i t) = .int (i.toNat:Int) t:=by rw [Int.toNat_of_nonneg (Int.le_trans (by decide) c.1)]
    rw [pu.none,d,ei] at hs
    cases e; subst d'
    exact tail_any (isT hl).typeIs slot_tuple_getitem.lookup (getItem_tuple_from (isT hl) hs (Int.ofNat_le.mp (Int.le_trans c.1 (Int.self_le_toNat i))) (by rw [List.size_toArray,R.length]; exact Int.toNat_le.mpr c.2) (k.tup o (R.drop _) (Nat.le_trans (ldrop ..) l1)) (by rw [List.size_toArray,R.length]; exact Nat.le_of_add_right_le (le_line l1))) (ops:=[.ref sl,.ref l]) rfl
  | _=>exact nsome e
 | lst xs=>
  exact bindE e fun ys e1 e=>mapE e fun zs e2 e3=>va.lst o rfl fun l vs n d' hl R l1=>by
   have ⟨h1,h2⟩:=sl_e e2 e1
   subst d'; subst e3
   have hn:vs.toArray.size=xs.length:=R.length
   refine tail_any (isL hl).typeIs slot_list_getitem.lookup (wpAny_getItem_list_slice (isL hl) hs (part_of pl h1) (part_of pu (take_clip e1).1) .none (fun e=>nomatch e) ?_ (by rw [hn]; exact Nat.le_of_add_right_le (le_line l1))) (ops:=[.ref sl,.ref l]) rfl
   rw [slicePick_plain,hn,← List.drop_take]
   exact k.lst o (h2▸(R.take _).drop _) (h2▸Nat.le_trans (ldrop ..) (Nat.le_trans (List.length_take_le' ..) l1))
 | _=>exact nsome e
end
section
variable {T:Tp} {g g':G} {H H':Hp} {s s':Shared} {a b:Addr} {ob:Obj} {q:Prop} {st su sv:Bool} {v u r:V} {x y z:Value} {A:Around} {t:Bool} {E:Value→Shared→Prop} {Q:Value→Shared→Prop} {α:Type}
theorem rev_bounds {n:Nat}:sliceBounds (some (-2)) none (some (-1)) n=((((-2+n+1:Int).toNat:Nat):Int) - 1,-1,-1):=by
 show ((max (-1) (min (-2+(n:Int)) ((n:Int) - 1)),-1,-1):Int×Int×Int)=_
 rw [Int.min_eq_left (by omega)]
 match n with
 | 0=>rfl
 | k+1=>rw [Int.max_eq_right (by omega),Int.toNat_of_nonneg (by omega)]; exact congrArg (·,-1,-1) (Int.add_sub_cancel _ _).symm
theorem fm_congr {β:Type} {f g:α→Option β}:∀ {l:List α},(∀ x∈l,f x=g x)→l.filterMap f=l.filterMap g
 | [],_=>rfl
 | x::l,h=>by rw [List.filterMap_cons,List.filterMap_cons,h x (.head _),fm_congr fun y hy=>h y (.tail _ hy)]
theorem len63 {n:Nat} (h:n≤room+2):¬ ((n:Int) ≥ 2 ^ 63):=fun c=>absurd (Int.le_trans c (Int.ofNat_le.mpr h)) (by decide +kernel)
theorem len63' {n:Nat} (h:n≤room+2):(n:Int) < 2 ^ 63:=Int.not_le.mp (len63 h)
theorem pick_rev (vs:List Value):slicePick vs.toArray (some (-2)) none (some (-1))=((vs.take (-2+vs.length+1:Int).toNat).reverse).toArray:=by
 refine Eq.trans ?_ (krv_pick (vs.take (-2+vs.length+1:Int).toNat).toArray)
 have l:(vs.take (-2+vs.length+1:Int).toNat).length=(-2+vs.length+1:Int).toNat:=by rw [List.length_take]; exact Nat.min_eq_left (Int.toNat_le.mpr (by omega))
 unfold slicePick
 rw [krv_bounds,List.size_toArray,List.size_toArray,l,rev_bounds]
 show ((sliceRange _ _ _).filterMap _).toArray=((sliceRange _ _ _).filterMap _).toArray
 rw [krv_sliceRange,krv_range]
 refine congrArg List.toArray (fm_congr fun k hk=>?_)
 have lt:=List.mem_range.mp (List.mem_reverse.mp hk)
 rw [arr_get,arr_get,List.getElem?_take_of_lt lt]
theorem rslV_ok {ve:Expr} {el:Option Expr} {se:Expr} {sl:Addr} {p:Pos} {tk:Tok} (o:Ok T g H s) (va:VX st v g x) {vl:Value} (pl:VX true u g vl) (e:rslV v u=some r) (hs:s.heap.IsSliceOf sl vl .none (.int (-1) tk)) (k:Nx T g H sv r Q) :
  wpAny T.M A (subscriptTail ve (.Slice el none (some se) p) x (.ref sl)) Q E s:=by
 cases v with
 | lst xs=>
  exact bindE e fun i e1 e=>ifE e fun c e=>VX.int (int_e e1 fun d=>d▸pl) fun t d=>va.lst o rfl fun l vs n d' hl R l1=>by
   rw [d] at hs
   cases e; subst d'; subst c
   have hn:vs.toArray.size=xs.length:=R.length
   refine tail_any (isL hl).typeIs slot_list_getitem.lookup (wpAny_getItem_list_slice (isL hl) hs (.int _ _) .none (.int _ _) (by decide) ?_ (by rw [hn]; exact Nat.le_of_add_right_le (le_line l1))) (ops:=[.ref l,.ref sl]) rfl
   rw [pick_rev,R.length]
   exact k.lst o (R.take _).reverse (by rw [List.length_reverse]; exact Nat.le_trans (List.length_take_le' ..) l1)
 | _=>exact nsome e
theorem ours_sys (h:2≤a):(a == sysModules)=false:=beq_eq_false_iff_ne.mpr fun e=>absurd (e▸h) (by decide)
noncomputable def B1.val (b:B1):Value:=match b with | .len => .builtin "len" | .abs => .builtin "abs" | .repr => .builtin "repr" | .dictS => .type "dict"
theorem PRs.length {κ α:Type} {f:α→κ}:∀ {es:List (α×V)} {kvs:List (κ×Value)},PRs f es g kvs→kvs.length=es.length
 | [],_,h=>congrArg List.length (show _=[] from h)
 | _::_,_,h=>h.e fun _ _ e _ r=>by rw [e,List.length_cons,List.length_cons,r.length]
theorem abs_nat:∀ i:Int,(i.natAbs:Int)=if i < 0 then -i else i
 | .ofNat _=>(if_neg (Int.not_lt.mpr (Int.natCast_nonneg _))).symm
 | .negSucc _=>(if_pos (Int.negSucc_lt_zero _)).symm
theorem len_ok (o:Ok T g H s) (va:VX st v g x) (e:lenV H v=some r) (k:Nx T g H sv r Q):wpAny T.M A (call (.builtin "len") [x]) Q E s:=
 mapE e fun xs e d=>seq_e e (fun c=>VX.tup o (c▸va) fun l vs n c hl R l1=>by
   rw [c]
   refine P.len_tuple (items:=vs.toArray) (n:=n) hl (by rw [List.size_toArray,R.length]; exact len63 l1) ?_
   rw [List.size_toArray,R.length]
   exact Nx.int (d▸k) o) fun e=>va.lst o e fun l vs n c hl R l1=>by
   rw [c]
   refine call_len_list (isL hl) (by rw [List.size_toArray,R.length]; exact len63' l1) ?_
   rw [List.size_toArray,R.length]
   exact Nx.int (d▸k) o
theorem repr_int {i:Int} {t:Tok} (o:Ok T g H s) (c:i.natAbs < 4611686018427387904) (k:Nx T g H sv (.str (toString i)) Q):wpAny T.M A (call (.builtin "repr") [.int i t]) Q E s:=by
 refine P.repr_of_int ?_ (k.tk o fun _ k=>k _ rfl)
 by_cases h0:i.natAbs=0
 ·rw [h0]; decide
 ·exact Nat.lt_of_lt_of_le ((Nat.log2_lt h0).mpr (Nat.lt_of_lt_of_le c (by decide:4611686018427387904≤2 ^ 63))) (by decide)
theorem dictS_ok {d:Nat} {es:List (String×V)} (o:Ok T g H s) (va:VX st (.ref d) g x) (h:H[d]?=some (.dictS es)) (k:Nx T g (H++[.dictS es]) sv (.ref H.length) Q):wpAny T.M A (call (.type "dict") [x]) Q E s:=
 dS_at o va h fun a kvs c z D r l lo=>by
  rw [c]
  refine kt_call_dict (more:=kvs) (ours_sys lo) D (by rw [r.length]; exact Nat.le_of_add_right_le (le_line l)) fun h' D' S=>?_
  obtain ⟨ob,g1,g2⟩:=Heap.dictOf_iff.mp D'
  have kp:∀ b ob,s.heap.get? b=some ob→h'.get? b=some ob:=fun b ob e=>(S.2 b (Nat.ne_of_lt (Heap.lt_size e))).trans (Heap.get?_push_of_some _ e)
  exact k _ _ _ (put_le o.new) ((o.keeps kp).add (a:=s.heap.objs.size) (by rw [o.new]; rfl) g1 o.lo ⟨l,fun _ k=>k kvs g2 (r.mono (put_lv o.new))⟩) (.of fun _ k=>k _ put_self rfl)
theorem b1V_ok {b:B1} (o:Ok T g H s) (va:VX st v g x) (e:b1V H b v=some (r,H')) (k:Nx T g H' sv r Q):wpAny T.M A (call b.val [x]) Q E s:=by
 cases b with
 | len=>exact mapE e fun _ e1 c=>by cases c; exact len_ok o va e1 k
 | abs=>exact mapE e fun i e c=>VX.int (int_e e fun d=>d▸va) fun t d=>by cases c; rw [d]; exact call_abs_int fun u tk=>abs_nat i▸k.int o
 | repr=>
  cases v with
  | bool b=>cases e; rw [va.bool]; exact P.repr_of_bool (by cases b <;> exact k.tk o fun _ k=>k _ rfl)
  | int i=>exact va.int fun t d=>ifE e fun c e=>by cases e; rw [d]; exact repr_int o (small_iff c) k
  | _=>exact nsome e
 | dictS=>
  cases v with
  | ref d=>exact bindE e fun es e1 e=>bindE e1 fun ao e2 e3=>by cases e; cases ao <;> first | (cases e3; exact dictS_ok o va e2 k) | exact nsome e3
  | _=>exact nsome e
end
section
variable {T:Tp} {g g':G} {H H':Hp} {s s':Shared} {a b d:Addr} {ob od:Obj} {q:Prop} {st su sv:Bool} {v u r:V} {x y z:Value} {A:Around} {t:Bool} {E:Value→Shared→Prop} {Q:Value→Shared→Prop} {α:Type} {ns:List String} {m:Str→Option Value}
theorem field_e {i:String}:∀ {ns:List String} {fs:List V} {vs:List Value},fieldOf ns fs i=some r→FldAt m ns vs→VRs fs g vs→(∀ w,i∈ns→m (Str.ofString i)=some w→VR r g w→q)→q
 | _::_,_::_,_,e,f,h,k=>h.e fun w ws c a b=>by
  subst c
  injection f with f1 f2
  unfold fieldOf at e
  split at e
  ·rename_i c
   cases e
   exact k w (c ▸ .head _) (c▸f1) a
  ·exact field_e e f2 b fun w hi=>k w (.tail _ hi)
theorem lookIn_ns {n:Str} (h:NsO ns ob m) (e:m n=some x):lookIn n ob=some (some x):=by
 obtain ⟨es,ep,hd,hk,_,hm,_⟩:=h
 unfold lookIn
 rw [hd]
 have q:=(hm n).trans e
 unfold nsFind findBy at q
 obtain ⟨en,h1,h2⟩:=Option.map_eq_some_iff.mp q
 rw [← Array.find?_toList] at h1
 simp only [h1,h2]
theorem NsO.at1 {h:Heap} (n:NsO ns od m) (e:h.get? d=some od):h.Ns1 d m:=
 let ⟨es,ep,a,b,u,c,_⟩:=n; ⟨od,es,ep,e,a,b,u,c⟩
theorem NsO.within (n:NsO ns od m):Within m (ns.map Str.ofString):=let ⟨_,_,_,_,_,_,q⟩:=n; q
theorem NsO.of {h:Heap} (n:h.Ns1 d m) (q:Within m (ns.map Str.ofString)):∃ o,h.get? d=some o∧NsO ns o m:=
 let ⟨o,es,ep,e,a,b,u,c⟩:=n; ⟨o,e,es,ep,a,b,u,c,q⟩
theorem within_put {n:String} (q:Within m (ns.map Str.ofString)) (h:n∈ns) (v:Value):Within (fun y=>if y=Str.ofString n then some v else m y) (ns.map Str.ofString):=fun y hy=>by
 by_cases c:y=Str.ofString n
 ·rw [c]; exact List.mem_map_of_mem h
 ·exact q y fun d=>hy ((if_neg c).trans d)
theorem vr_handed (h:VR v g x):handedIn x=true:=by
 cases v with
 | none=>exact (show x = .none from h)▸rfl
 | bool=>exact (show x = .bool _ from h)▸rfl
 | int=>exact h _ fun _ c=>c▸rfl
 | str=>exact h _ fun _ c=>c▸rfl
 | _=>exact ref_at (VX.of (st:=true) h) rfl fun _ c=>c▸rfl
theorem attrOk_of (T:Tp) {c:Cls} {n:String} (h:n∈c.fields) (k:plainGet T.K c.addr (Str.ofString n)=true→hasDictIn T.K c.addr=true→(∀ a,findIn T.K (.ref c.addr) (Str.ofString n)=some a→noGet T.K a=true→findIn T.K (.ref c.addr) "__setattr__"=some (some (.builtin "object.__setattr__"))→plainOver T.K c.addr=true→takerIn T.K c.addr (Str.ofString n)=some none→q)):q:=
 andE (List.all_eq_true.mp (List.all_eq_true.mp T.top.attrs c c.mem) n h) fun e1 e=>andE e fun e2 e=>andE e fun e3 e=>andE e fun e4 e=>andE e fun e5 e6=>vO_e e3 fun a e7 e8=>k e1 e2 a e7 e8 (beq_iff_eq.mp e4) e5 (beq_iff_eq.mp e6)
theorem inst_at {c:Cls} (h1:s.heap.get? a=some (instObj c.addr d)) (h2:s.heap.get? d=some od):InstAt s.heap a (instObj c.addr d) c.addr (some od):=⟨h1,rfl,rfl,h2⟩
theorem get_at {c:Cls} {n:String} {ex:Bool} (o:Ok T g H s) (mem:n∈c.fields) (h1:s.heap.get? a=some (instObj c.addr d)) (h2:s.heap.get? d=some od) (N:NsO ns od m) (e:m (Str.ofString n)=some x) (r:VR v g x) (k:Nx T g H sv v Q) :
  wpAny T.M A (getAttr (.ref a) (Str.ofString n) ex) Q E s:=
 attrOk_of T mem fun a1 a2 at_ ha a3 _ _ _=>get_value (inK o) (inst_at h1 h2) (plainGet_of a1).1 (findObj_own a2 ha a3 (lookIn_ns N e)) (vr_handed r) (k.tk o r)
theorem ARs.e {fs:List (String×V)} {n:String} (F:ARs g m fs) (h:aget n fs=some v) (k:∀ w,m (Str.ofString n)=some w→VR v g w→q):q:=F n v h q k
theorem attrs_e {i j:Nat} {fs:List (String×V)} (e:attrsAt H i=some (j,fs)) (k:H[i]?=some (.inst .names j)→H[j]?=some (.attrs fs)→q):q:=
 bindE e fun ao e1 e=>by
  cases ao with
  | inst c j'=>
   cases c with
   | names=>
    exact bindE e fun p e2 e=>by
     cases p with
     | attrs fs'=>cases e; exact k e1 e2
     | _=>exact nsome e
   | _=>exact nsome e
  | _=>exact nsome e
theorem OR.inE {c:Cls} {j:Nat} (h:OR T (.inst c j) g ob) (k:∀ d,g d = .ours j→ob=instObj c.addr d→q):q:=h q k
theorem OR.atE {fs:List (String×V)} (h:OR T (.attrs fs) g ob) (k:∀ m,NsO Cls.names.fields ob m→ARs g m fs→q):q:=h q k
theorem attrs_at {i j:Nat} {fs:List (String×V)} (o:Ok T g H s) (vx:VX st (.ref i) g x) (e:attrsAt H i=some (j,fs)) (k:∀ a d od m,x = .ref a→g d = .ours j→s.heap.get? a=some (instObj Cls.names.addr d)→s.heap.get? d=some od→NsO Cls.names.fields od m→ARs g m fs→q):q:=
 attrs_e e fun e1 e2=>vx.ref fun a z c=>o.mem e1 z fun ob hh r _=>OR.inE r fun d zd c2=>o.mem e2 zd fun od hd r _=>OR.atE r fun m N F=>k a d od m c zd (c2▸hh) hd N F
theorem attr_e {nm:String} (e:attrV H nm v=some r) (k:∀ c fs,v = .obj c fs→fieldOf c.fields fs nm=some r→q) (l:∀ i j fs,v = .ref i→attrsAt H i=some (j,fs)→nm∈Cls.names.fields→aget nm fs=some r→q):q:=by
 cases v with
 | obj c fs=>exact k c fs rfl e
 | ref i=>exact bindE e fun p e1 e=>ifE e fun c e=>l i p.1 p.2 rfl e1 c e
 | _=>exact nsome e
theorem attrV_ok {nm:String} {ex:Bool} (o:Ok T g H s) (va:VX st v g x) (e:attrV H nm v=some r) (k:Nx T g H sv r Q):wpAny T.M A (getAttr x (Str.ofString nm) ex) Q E s:=by
 refine attr_e e (fun c fs d f=>?_) fun i j fs d e1 c f=>?_
 ·exact VR.objE (VX.vr (d▸va) rfl) fun a d od m vs c1 z zd N F R=>field_e f F R fun w hi e2 rr=>by rw [c1]; exact get_at o hi (o.fx z) (o.fx zd) N e2 rr k
 ·exact attrs_at o (d▸va) e1 fun a d od m c1 zd h1 h2 N F=>F.e f fun w e2 rr=>by rw [c1]; exact get_at o c h1 h2 N e2 rr k
theorem own_store {c:Cls} {n:String} {bb:Bool} {tk:Tok} {Q:Fin→Shared→Prop} (X:T.K.In s.heap) (mem:n∈c.fields) (hc:hasDictIn T.K c.addr=true) (h1:s.heap.get? a=some (instObj c.addr d)) (h2:s.heap.get? d=some od) (N:NsO c.fields od m)
  (h:∀ h' o',h'.get? d=some o'→NsO c.fields o' (fun y=>if y=Str.ofString n then some x else m y)→Heap.SameBut d s.heap h'→Q (.done (.ret .none)) { s with heap:=h',toks:=s.toks+1 }):wpAny T.M A (Builtin.ObjectAttr.storeInOwnDict (.ref a) (.ref c.addr) (.str (Str.ofString n) tk) (Str.ofString n) x bb) Q E s:=by
 obtain ⟨cd,hc,hd'⟩:=any_some hc
 refine wpAny_bind (wpAny_pure (wpAny_bind (wpAny_bind (wpAny_loadPart h1 (wpAny_bind ((looks_clsIn X hc) _ _ _ _ (fun _ _ e=>e) ?_))))))
 rw [hd']
 refine wpAny_pure (a:=some d) (wpAny_bind (wpAny_pure (wpAny_bind (wpAny_nsSet1 (N.at1 (h:=s.heap) h2) fun h' n' sb=>?_))))
 have wt:=within_put N.within mem x
 obtain ⟨oD,esD,epD,hoD,hdD,hcD⟩:=n'.count wt
 obtain ⟨o',e1,e2⟩:=NsO.of n' wt
 exact wpAny_bind (wpAny_lookBehind hoD (by rw [hdD]; exact pastItsLine_dict (Nat.le_trans hcD (by rw [List.length_map,sizeLine_eq]; cases c <;> decide))) (wpAny_pure (h h' o' e1 e2 sb)))
theorem fset_at {c:Cls} {n:String} {Q:Unit→Shared→Prop} (X:T.K.In s.heap) (mem:n∈c.fields) (h1:s.heap.get? a=some (instObj c.addr d)) (h2:s.heap.get? d=some od) (N:NsO c.fields od m)
  (h:∀ h' t o',h'.get? d=some o'→NsO c.fields o' (fun y=>if y=Str.ofString n then some x else m y)→Heap.SameBut d s.heap h'→Q () { s with heap:=h',toks:=t }):wpAny T.M A (setAttr (.ref a) (Str.ofString n) x) Q E s:=
 attrOk_of T mem fun a1 a2 _ _ _ a4 a5 a6=>set_plain X (inst_at h1 h2) a4 (osa_open (s:={ s with toks:=s.toks+1 }) X (inst_at h1 h2) a5 a6 fun b=>own_store (s:={ s with toks:=s.toks+1 }) X mem a2 h1 h2 N fun h' o' e1 e2 sb=>h h' _ o' e1 e2 sb)
theorem put_e {nm:String} (e:attrPut H nm v u=some H') (k:∀ i j fs,u = .ref i→attrsAt H i=some (j,fs)→nm∈Cls.names.fields→H'=H.set j (.attrs (aput nm v fs))→q):q:=by
 cases u with
 | ref i=>exact bindE e fun p e1 e=>ifE e fun c e=>k i p.1 p.2 rfl e1 c (Option.some.inj e).symm
 | _=>exact nsome e
end
section
variable {T:Tp} {g g':G} {H H':Hp} {s s':Shared} {a b d:Addr} {ob od:Obj} {q:Prop} {st su sv:Bool} {v u r:V} {x y z:Value} {A:Around} {t:Bool} {E:Value→Shared→Prop} {Q:Value→Shared→Prop} {α:Type} {m:Str→Option Value}
theorem NxU.turn {i:Nat} {ao:AO} {h':Heap} {t:Nat} {P:Shared→Prop} (k:NxU T g (H.set i ao) P) (o:Ok T g H s) (hi:g a = .ours i) (sb:Heap.SameBut a s.heap h') (e:h'.get? a=some ob) (r:OR T ao g ob):P { s with heap:=h',toks:=t }:=
 k g _ .rf (o.turn hi e r (fun b n _=>sb.2 b n) rfl rfl)
theorem Nx.turn {i:Nat} {ao:AO} {h':Heap} {t:Nat} (k:Nx T g (H.set i ao) st v Q) (o:Ok T g H s) (hi:g a = .ours i) (sb:Heap.SameBut a s.heap h') (e:h'.get? a=some ob) (r:OR T ao g ob) (rx:VR v g x):Q x { s with heap:=h',toks:=t }:=
 k x g _ .rf (o.turn hi e r (fun b n _=>sb.2 b n) rfl rfl) (.of rx)
theorem attrPut_ok {nm:String} {Q:Unit→Shared→Prop} (o:Ok T g H s) (va:VX st u g x) (vb:VR v g y) (e:attrPut H nm v u=some H') (k:NxU T g H' (Q ())):wpAny T.M A (setAttr x (Str.ofString nm) y) Q E s:=
 put_e e fun i j fs d e1 c e2=>attrs_at o (d▸va) e1 fun a d od m c1 zd h1 h2 N F=>by
  rw [c1]
  subst e2
  exact fset_at (inK o) c h1 h2 N fun h' t o' e1 N' sb=>k.turn o zd sb e1 fun _ k=>k _ N' fun n w e q k=>by
   rw [aget_aput] at e
   by_cases c:nm=n
   ·rw [if_pos c] at e; cases e; exact k y (if_pos (congrArg _ c.symm)) vb
   ·rw [if_neg c] at e; exact F.e e fun w e1 r=>k w ((if_neg fun h=>c (ofString_inj h).symm).trans e1) r
theorem news_one {o:Obj} {h:Heap} (e:h.get? d=some o):News ({ objs:=#[] }:Heap) (d+1) h [(d,o)]:=fun p hp=>by
 rw [List.mem_singleton.mp hp]
 exact ⟨e,Nat.ne_of_lt (Nat.lt_succ_self d),get_none (Nat.zero_le _)⟩
theorem get_e (e:getV H v u=some r) (k:∀ d es i,v = .ref d→H[d]?=some (.dictS es)→u = .str i→r=(aget i es).getD .none→q) (l:∀ d es i,v = .ref d→H[d]?=some (.dictI es)→u = .int i→r=(aget i es).getD .none→q):q:=by
 cases v with
 | ref d=>
  refine bindE e fun o e1 e=>?_
  cases o with
  | dictS es=>exact mapE e fun i e2 e=>str_e e2 fun c=>k d es i rfl e1 c e.symm
  | dictI es=>exact mapE e fun i e2 e=>int_e e2 fun c=>l d es i rfl e1 c e.symm
  | _=>exact nsome e
 | _=>exact nsome e
theorem getV_ok (o:Ok T g H s) (va:VX st v g x) (vb:VX su u g y) (e:getV H v u=some r) (k:Nx T g H sv r Q):wpAny T.M A (call (.builtin "dict.get") [x,y,.none]) Q E s:=by
 refine get_e e (fun d es i c h d' e=>VX.str (d'▸vb) fun t c'=>dS_at o (c▸va) h fun a kvs c _ D r _ lo=>?_) fun d es i c h d' e=>VX.int (d'▸vb) fun t c'=>dI_at o (c▸va) h fun a kvs c _ D r _ lo=>?_
 all_goals
  rw [c,c']
  obtain ⟨ob,h1,h2⟩:=Heap.dictOf_iff.mp D
 ·refine kdg_get2 (news_one h1) (.head _) h2 (ours_sys lo) (isStr_refl _ _) _ rfl ?_
  exact aget_PRs (fun _ _=>ofString_inj) i r (fun e1 e2=>by rw [e2]; rw [e,e1] at k; exact k.tk o rfl) fun x v e1 e2 e3=>by rw [e2]; rw [e,e1] at k; exact k.tk o e3
 ·refine kdg_get2 (news_one h1) (.head _) h2 (ours_sys lo) (isInt_refl _ _) _ rfl ?_
  exact aget_PRs (fun _ _ e=>e) i r (fun e1 e2=>by rw [show valueAt kvs i=none from e2]; rw [e,e1] at k; exact k.tk o rfl) fun x v e1 e2 e3=>by rw [show valueAt kvs i=some v from e2]; rw [e,e1] at k; exact k.tk o e3
theorem PRs.any {κ β:Type} [DecidableEq κ] [DecidableEq β] {f:β→κ} (inj:∀ a b,f a=f b→a=b) (i:β):∀ {es:List (β×V)} {kvs:List (κ×Value)},PRs f es g kvs→(kvs.any fun kv=>kv.1=f i)=es.any fun e=>decide (e.1=i)
 | [],_,h=>(show _=[] from h)▸rfl
 | (n,x)::es,_,h=>h.e fun w l e _ r=>by
  rw [e,List.any_cons,List.any_cons,PRs.any inj i r]
  exact congrArg (·||_) (decide_eq_decide.mpr ⟨fun h=>inj _ _ h,fun h=>congrArg f h⟩)
theorem PRs.mapPut {κ β:Type} [DecidableEq κ] [DecidableEq β] {f:β→κ} (inj:∀ a b,f a=f b→a=b) {i:β} (hv:VR v g y):∀ {es:List (β×V)} {kvs:List (κ×Value)},PRs f es g kvs →
  PRs f (es.map fun e=>if e.1=i then (e.1,v) else e) g (kvs.map fun kv=>if kv.1=f i then (kv.1,y) else kv)
 | [],_,h=>(show _=[] from h)▸rfl
 | (n,x)::es,_,h=>h.e fun w l e a r=>by
  rw [e,List.map_cons,List.map_cons]
  by_cases c:n=i
  ·rw [if_pos c,if_pos (congrArg f c)]; exact PRs.cons (p:=(n,v)) hv (PRs.mapPut inj hv r)
  ·rw [if_neg c,if_neg fun h=>c (inj _ _ h)]; exact PRs.cons (p:=(n,x)) a (PRs.mapPut inj hv r)
theorem PRs.snoc {κ β:Type} {f:β→κ} {i:β} (hv:VR v g y):∀ {es:List (β×V)} {kvs:List (κ×Value)},PRs f es g kvs→PRs f (es++[(i,v)]) g (kvs++[(f i,y)])
 | [],_,h=>by have h:_=[]:=h; subst h; exact PRs.cons (p:=(i,v)) hv .nil
 | (n,x)::_,_,h=>h.e fun w l e a r=>e▸PRs.cons (p:=(n,x)) a (PRs.snoc hv r)
theorem PRs.put {κ β:Type} [DecidableEq κ] [DecidableEq β] {f:β→κ} (inj:∀ a b,f a=f b→a=b) {i:β} (hv:VR v g y) {es:List (β×V)} {kvs:List (κ×Value)} (h:PRs f es g kvs):PRs f (aput i v es) g (stored kvs (f i) y):=by
 unfold aput stored
 rw [h.any inj i]
 split
 ·exact h.mapPut inj hv
 ·exact h.snoc hv
theorem le_room {n:Nat} (h:n≤room):n≤sizeLine:=Nat.le_trans h (Nat.le_of_add_right_le room_line)
theorem set_e {w:V} (e:setV H v u w=some H') (k:∀ d es i,v = .ref d→H[d]?=some (.dictS es)→u = .str i→es.length≤room→H'=H.set d (.dictS (aput i w es))→q) (l:∀ d es i,v = .ref d→H[d]?=some (.dictI es)→u = .int i→es.length≤room→H'=H.set d (.dictI (aput i w es))→q)
  (n:∀ d xs i,v = .ref d→H[d]?=some (.list xs)→u = .int i→0≤i∧i.toNat < xs.length∧xs.length≤room→H'=H.set d (.list (xs.set i.toNat w))→q):q:=by
 cases v with
 | ref d=>
  refine bindE e fun o e1 e=>?_
  cases o with
  | dictS es=>exact bindE e fun i e2 e=>ifE e fun c e=>str_e e2 fun c'=>k d es i rfl e1 c' c (Option.some.inj e).symm
  | dictI es=>exact bindE e fun i e2 e=>ifE e fun c e=>int_e e2 fun c'=>l d es i rfl e1 c' c (Option.some.inj e).symm
  | list xs=>exact bindE e fun i e2 e=>ifE e fun c e=>int_e e2 fun c'=>n d xs i rfl e1 c' c (Option.some.inj e).symm
  | _=>exact nsome e
 | _=>exact nsome e
theorem lst_ours {i:Nat} {xs:List V} (o:Ok T g H s) (va:VX st (.ref i) g x) (h:H[i]?=some (.list xs)) (k:∀ a vs n,x = .ref a→g a = .ours i→s.heap.get? a=some (lstObj vs n)→VRs xs g vs→xs.length≤room+2→q):q:=
 va.ref fun a z c=>o.mem h z fun ob hh r _=>OR.listE r fun vs n e r l=>k a vs n c z (e▸hh) r l
theorem OR.list {xs:List V} {vs:List Value} {n:Nat} (r:VRs xs g vs) (l:xs.length≤room+2):OR T (.list xs) g (lstObj vs n):=⟨l,fun _ k=>k vs n rfl r⟩
theorem upd_list {vs us:List Value} {n:Nat} {f:Array Value→Array Value} (h:s.heap.get? a=some (lstObj vs n)) (e:f vs.toArray=us.toArray):∃ m,(s.heap.update a (Obj.mapSeq f)).get? a=some (lstObj us m):=
 ⟨_,(IsL.update (l:=a) (items:=vs.toArray) (n:=n) h f).trans (by rw [e])⟩
theorem setV_ok {w:V} {Q:Unit→Shared→Prop} (o:Ok T g H s) (va:VX st v g x) (vb:VX su u g y) (vc:VR w g z) (e:setV H v u w=some H') (k:NxU T g H' (Q ())):wpAny T.M A (setItem x y z) Q E s:=by
 refine set_e e (fun d es i c h d' l e=>VX.str (d'▸vb) fun t c'=>dS_at o (c▸va) h fun a kvs c zd D r _ lo=>?_) (fun d es i c h d' l e=>VX.int (d'▸vb) fun t c'=>dI_at o (c▸va) h fun a kvs c zd D r _ lo=>?_)
  fun d xs i c h d' l e=>VX.int (d'▸vb) fun t c'=>lst_ours o (c▸va) h fun a vs n c zd hl r _=>?_
 all_goals
  rw [c,c']
  rw [e] at k
 ·refine wpAny_setItem_pairs (kvs:=kvs) (isStr_refl _ _) D (fun h' D S=>?_) (by rw [r.length]; exact le_room l)
  obtain ⟨ob',g1,g2⟩:=Heap.dictOf_iff.mp D
  exact k.turn o zd S g1 ⟨Nat.le_trans aput_len (Nat.succ_le_succ (Nat.le_succ_of_le l)),fun _ k=>k _ g2 (r.put (fun _ _=>ofString_inj) vc)⟩
 ·refine wpAny_setItem_pairs (kvs:=kvs) (isInt_refl _ _) D (fun h' D S=>?_) (by rw [r.length]; exact le_room l)
  obtain ⟨ob',g1,g2⟩:=Heap.dictOf_iff.mp D
  exact k.turn o zd S g1 ⟨Nat.le_trans aput_len (Nat.succ_le_succ (Nat.le_succ_of_le l)),fun _ k=>k _ g2 (r.put (fun _ _ e=>e) vc)⟩
 ·refine ki_setAt (items:=vs.toArray) (n:=n) hl l.1 (Int.lt_of_lt_of_le ((Int.toNat_lt l.1).mp l.2.1) (Int.le_trans (Int.ofNat_le.mpr l.2.2) (by decide +kernel))) (by rw [List.size_toArray,r.length]; exact (Int.toNat_lt l.1).mp l.2.1) ?_
  obtain ⟨m,h2⟩:=upd_list (f:=fun x=>x.setIfInBounds i.toNat z) (us:=vs.set i.toNat z) hl (List.setIfInBounds_toArray ..)
  exact k.turn o zd (Heap.SameBut.update ..) h2 (.list (VRs.set vc _ r) (by rw [List.length_set]; exact Nat.le_add_right_of_le l.2.2))
theorem appV_ok (o:Ok T g H s) (va:VX st v g x) (vb:VR u g y) (e:appV H v u=some H') (k:Nx T g H' sv .none Q):wpAny T.M A (call (.builtin "list.append") [x,y]) Q E s:=by
 have go:∀ d,v = .ref d→(H[d]?.bind AO.list?).bind (fun xs=>if xs.length≤room then some (H.set d (.list (xs++[u]))) else Option.none)=some H'→wpAny T.M A (call (.builtin "list.append") [x,y]) Q E s:=fun d c e=>
  bindE e fun xs e1 e=>bindE e1 fun ao e1 e2=>ifE e fun l e=>list_e e2 fun e2=>lst_ours o (c▸va) (e2▸e1) fun a vs n c zd hl r _=>by
   rw [c]
   refine append_at (its:=vs.toArray) (n:=n) hl (fun h' S e'=>?_) (by rw [List.size_toArray,r.length]; exact le_room l)
   cases e
   exact k.turn o zd S (e'.trans (by rw [List.push_toArray])) (.list (VRs.append (.cons vb .nil) r) (by rw [List.length_append]; exact Nat.succ_le_succ (Nat.le_succ_of_le l))) rfl
 cases v with
 | ref d=>exact go d rfl e
 | _=>exact nsome e
end
noncomputable def Tag.nh (t:Tag):Bool:=match t with | .no=>false | .held _=>false | _=>true
noncomputable abbrev Lw:=Ky Tag.nh
theorem nh_any (t:Tag) (h:t.nh=true):t.any=true:=by cases t <;> first | rfl | exact nomatch h
theorem val_nh (t:Tag) (h:t.val=true):t.nh=true:=by cases t <;> first | rfl | exact nomatch h
theorem Ky.lw {g g':G} (x:Le g g'):Lw g g':=x.weak nh_any
noncomputable abbrev FrmK (g g':G):Prop:=∀ b o,g b = .frm o→g' b = .frm o
theorem Ky.fm {g g':G} (x:Lw g g'):FrmK g g':=fun b o e=>(x b (by rw [e]; rfl)).trans e
theorem Ky.wlv {g g':G} (x:Lw g g'):Lv g g':=x.weak val_nh
noncomputable def bltVal (n:String):Value:=if ["dict", "tuple", "str", "bool", "int", "range", "zip"].contains n then .type n else .builtin n
theorem blts_ok:blts.all (fun n=>(bootBuiltins (Str.ofString n) == some (bltVal n))&&(!(Str.ofString n == ("__debug__":Str)) && !(Str.ofString n == ("__name__":Str))))=true:=by decide +kernel
theorem globs_ok:globs.all (fun n => !(Str.ofString n.1 == ("__debug__":Str)))=true:=by decide +kernel
structure EnvOk (sc:Scope) (env:Env):Prop where
 kind:env.scope.kind = .function
 loc:∀ x,sc.names.lookup x=some .local→env.kindOf x=some .local
 glo:∀ x,sc.names.lookup x=some .globalImplicit→env.kindOf x=some .globalImplicit
 cell:∀ x,(sc.names.lookup x=some .cell∨sc.names.lookup x=some .free)→env.kindOf x=some .cell∨env.kindOf x=some .free
 cellK:∀ x,sc.names.lookup x=some .cell→env.kindOf x=some .cell
 cells:∀ x,sc.names.lookup x=some .cell→∃ c,env.cells.lookup x=some c
 globals:env.globals=mainGlobals
 builtins:env.builtins=builtinsNs
noncomputable def NsF (o:Obj) (m:Str→Option Value):Prop:=∃ es ep,o.data = .dict es ep∧StrKeys es∧∀ name,nsFind es name=m name
section
variable {o:Obj} {m m':Str→Option Value} {h:Heap} {a:Addr}
theorem NsF.ns (n:NsF o m) (e:h.get? a=some o):h.Ns a m:=let ⟨es,ep,a1,b,c⟩:=n; ⟨o,es,ep,e,a1,b,c⟩
theorem NsF.of (n:h.Ns a m):∃ o,h.get? a=some o∧NsF o m:=let ⟨o,es,ep,e,a1,b,c⟩:=n; ⟨o,e,es,ep,a1,b,c⟩
theorem NsF.fn (a:NsF o m) (b:NsF o m'):m=m':=by
 obtain ⟨es,ep,h1,_,h2⟩:=a
 obtain ⟨es',ep',h1',_,h2'⟩:=b
 cases h1.symm.trans h1'
 exact funext fun n=>(h2 n).symm.trans (h2' n)
theorem NsF.nocell {v:Option Value} (a:NsF o m) (h:o.data = .cell v):False:=let ⟨_,_,e,_⟩:=a; nomatch e.symm.trans h
end
noncomputable abbrev isCell (sc:Scope) (id:Str):Prop:=sc.names.lookup id=some .cell∨sc.names.lookup id=some .free
noncomputable def VarIn (g:G) (env:Env) (sc:Scope) (id:Str) (x:Value):Prop:=∀ q:Prop,(∀ o m,sc.names.lookup id=some .local→g env.locals = .frm o→NsF o m→m id=some x→q)→(∀ c o,isCell sc id→env.cells.lookup id=some c→g c = .frm o→o.data = .cell (some x)→q)→q
noncomputable def SlR (g:G) (env:Env) (sc:Scope) (id:Str) (i:Nat) (sl:Sl):Prop:=match sl with
 | .undef=>True
 | .v w=>∀ q:Prop,(∀ x,VarIn g env sc id x→VR w g x→q)→q
 | .loc xs=>∀ q:Prop,(∀ a vs n,VarIn g env sc id (.ref a)→g a = .own i (lstObj vs n)→VRs xs g vs→xs.length≤room+2→q)→q
noncomputable def LoS (S:Nat→Prop) (g:G) (env:Env) (sc:Scope) (lay:Lay) (ρ:List Sl):Prop:=∀ (i:Nat) (id:Str) (sl:Sl),¬ S i→lay[i]?=some (some id)→ρ[i]?=some sl→SlR g env sc id i sl
noncomputable abbrev noS (_:Nat):Prop:=False
noncomputable abbrev Lo:=LoS noS
structure Room (n:Nat) (A:Around):Prop where
 handled:A.handled=none
 depth:A.depth+2*n < recursionLimit
 units:A.units+12*n+100 < cLine
theorem Room.u {n:Nat} {A:Around} (r:Room n A):A.units+64 < cLine:=Nat.lt_of_le_of_lt (Nat.add_le_add (Nat.le_add_right _ _) (by decide)) r.units
section
variable {g g':G} {env:Env} {sc:Scope} {id:Str} {x y:Value} {i:Nat} {sl:Sl} {lay:Lay} {ρ:List Sl} {S:Nat→Prop} {q:Prop}
theorem VarIn.mono (l:FrmK g g') (v:VarIn g env sc id x):VarIn g' env sc id x:=fun q k m=>v q (fun o n a b=>k o n a (l _ _ b)) fun c o a b e=>m c o a b (l _ _ e)
theorem SlR.mono (l:Lw g g'):∀ {sl:Sl},SlR g env sc id i sl→SlR g' env sc id i sl
 | .undef,_=>trivial
 | .v w,h=>fun q k=>h q fun x v r=>k x (v.mono l.fm) (VR.mono w l.wlv r)
 | .loc xs,h=>fun q k=>h q fun a vs n v z r=>k a vs n (v.mono l.fm) ((l _ (by rw [z]; rfl)).trans z) (VRs.mono xs l.wlv r)
theorem LoS.mono (l:Lw g g') (h:LoS S g env sc lay ρ):LoS S g' env sc lay ρ:=fun i id sl n a b=>(h i id sl n a b).mono l
theorem SlR.vE {w:V} (h:SlR g env sc id i (.v w)) (k:∀ x,VarIn g env sc id x→VR w g x→q):q:=h q k
theorem SlR.lE {xs:List V} (h:SlR g env sc id i (.loc xs)) (k:∀ a vs n,VarIn g env sc id (.ref a)→g a = .own i (lstObj vs n)→VRs xs g vs→xs.length≤room+2→q):q:=h q k
theorem isVar_e (h:isVar sc lay i id=true) (k:lay[i]?=some (some id)→(sc.names.lookup id=some .local∨isCell sc id)→(id == ("__debug__":Str))=false→(id == ("__classdict__":Str))=false→q):q:=
 andE h fun h1 h=>andE h fun h2 h=>andE h fun h3 h4=>k (beq_iff_eq.mp h1) (orE h2 (fun h => .inl (beq_iff_eq.mp h)) fun h => .inr (orE h (fun h => .inl (beq_iff_eq.mp h)) fun h => .inr (beq_iff_eq.mp h))) (notE h3) (notE h4)
theorem rdV_e {v:V} (h:rdV ρ i=some v) (k:ρ[i]?=some (.v v)→q):q:=bindE h fun sl e h=>by
 cases sl with
 | v w=>cases h; exact k e
 | _=>exact nsome h
theorem rdL_e {v:List V} (h:rdL ρ i=some v) (k:ρ[i]?=some (.loc v)→q):q:=bindE h fun sl e h=>by
 cases sl with
 | loc w=>cases h; exact k e
 | _=>exact nsome h
end
section
variable {T:Tp} {g g':G} {H H':Hp} {s s':Shared} {a b d:Addr} {q:Prop} {st:Bool} {v:V} {x:Value} {A:Around} {E:Value→Shared→Prop} {Q:Value→Shared→Prop} {env:Env} {sc:Scope} {id:Str} {p:Pos}
theorem name_in (h1:(id == ("__debug__":Str))=false) (h2:(id == ("__classdict__":Str))=false) (e:EnvOk sc env) (o:Ok T g H s) (v:VarIn g env sc id x) (h:Q x s):wpAny T.M A (eval (.Name id p) env) Q E s:=
 wpAny_Name (v _ (fun ob m a b n c=>wpAny_loadName_local e.kind (e.loc _ a) (n.ns (o.fr b)) c h) fun c ob a b z d=>by
  have hc:s.heap.IsCell c (some x):=⟨ob,o.fr z,d⟩
  rcases e.cell _ a with k | k
  ·exact wpAny_loadName_cell e.kind k b hc h
  ·exact wpAny_loadName_free e.kind k b hc h h2) h1
theorem name_glob {n:String} {a:Nat} (m:isGlob sc id n a=true) (e:EnvOk sc env) (o:Ok T g H s) (h:Q (.ref a) s):wpAny T.M A (eval (.Name id p) env) Q E s:=
 andE m fun m1 m=>andE m fun m2 m3=>by
  have hm:=List.contains_iff_mem.mp m2
  rw [beq_iff_eq.mp m1] at m3 ⊢
  refine Name_function_global e.kind (e.glo _ (beq_iff_eq.mp m3)) (loadGlobal_global (mg:=T.mg) ?_ (mg_of T.X T.Gn (beq_iff_eq.mp (List.all_eq_true.mp T.top.globs _ hm))) h) (notE (List.all_eq_true.mp globs_ok _ hm))
  rw [e.globals]
  exact T.Gn.keeps fun b ob q=>o.fx (o.base _ _ q)
theorem name_blt {n:String} (m:isBlt sc id n=true) (e:EnvOk sc env) (o:Ok T g H s) (h:Q (bltVal n) s):wpAny T.M A (eval (.Name id p) env) Q E s:=
 andE m fun m1 m=>andE m fun m2 m3=>by
  have hm:=List.contains_iff_mem.mp m2
  rw [beq_iff_eq.mp m1] at m3 ⊢
  have kp:∀ b ob,T.s₀.heap.get? b=some ob→s.heap.get? b=some ob:=fun b ob q=>o.fx (o.base _ _ q)
  exact andE (List.all_eq_true.mp blts_ok _ hm) fun h1 h2=>andE h2 fun h2 h3=>Name_function_global e.kind (e.glo _ (beq_iff_eq.mp m3)) (loadGlobal_builtin (mg:=T.mg) (mb:=T.mb) (by rw [e.globals]; exact T.Gn.keeps kp) (mg_none_of T.X T.Gn (beq_iff_eq.mp (List.all_eq_true.mp T.top.blts _ hm)))
   (by rw [e.builtins]; exact T.Bn.keeps kp) ((T.hb _ fun q=>beq_eq_false_iff_ne.mp (notE h3) q).trans (beq_iff_eq.mp h1)) h) (notE h2)
theorem cOf_e {c:Const} (h:cOf v=some c) (k1:v = .none→c = .none→q) (k2:∀ b,v = .bool b→c = .bool b→q) (k3:∀ b,v = .int b→c = .int b→q) (k4:∀ b,v = .str b→c = .str (Str.ofString b)→q):q:=by
 cases v with
 | none=>exact k1 rfl (Option.some.inj h).symm
 | bool b=>exact k2 b rfl (Option.some.inj h).symm
 | int b=>exact k3 b rfl (Option.some.inj h).symm
 | str b=>exact k4 b rfl (Option.some.inj h).symm
 | _=>exact nsome h
theorem const_ok {c:Const} {n:Nat} (h:cOf v=some c) (o:Ok T g H s) (k:Nx T g H st v Q):wpAny T.M A (eval (.Constant c n p) env) Q E s:=
 cOf_e h (fun e1 e2=>e2▸Constant_none (k.of o (e1▸rfl))) (fun _ e1 e2=>e2▸Constant_bool (k.of o (e1▸rfl))) (fun _ e1 e2=>e2▸wpAny_Constant_int (k.tk o (e1▸fun _ k=>k _ rfl))) fun _ e1 e2=>e2▸wpAny_Constant_str (k.tk o (e1▸fun _ k=>k _ rfl))
theorem neg_ok {i:Int} {n:Nat} {p':Pos} (o:Ok T g H s) (k:Nx T g H st (.int (-i)) Q):wpAny T.M A (eval (.UnaryOp .USub (.Constant (.int i) n p') p) env) Q E s:=
 UnaryOp_ (wpAny_Constant_int (neg_int (k.int (ok_toks o))))
theorem k_ok {y:Expr} (h:constE v y=true) (o:Ok T g H s) (k:Nx T g H st v Q):wpAny T.M A (eval y env) Q E s:=
 orE h (fun h=>vK_of (P:=fun y=>wpAny T.M A (eval y env) Q E s) h fun c n p h=>const_ok (beq_iff_eq.mp h) o k) fun h=>vUn_of (P:=fun y=>wpAny T.M A (eval y env) Q E s) h fun op z p h=>andE h fun h1 h=>by
  rw [beq_iff_eq.mp h1]
  exact vK_of (P:=fun z=>wpAny T.M A (eval (.UnaryOp .USub z p) env) Q E s) h fun c n p' h=>vO_e h fun j e h=>by
   rw [beq_iff_eq.mp h]
   exact neg_ok o (int_e e fun e=>Int.neg_neg j▸e▸k)
end
noncomputable abbrev CallOk (T:Tp) (A:Around) (f:Value) (C:Hp→Option (V×Hp)) (as:List V) (vs:List Value) (g:G) (s:Shared) (H:Hp):Prop:=∀ {v:V} {H':Hp} {Q:Value→Shared→Prop},C H=some (v,H')→Nx T g H' true v Q→wpAny T.M A (call f vs) Q noE s
structure CallsOk (T:Tp) (C:Calls) (n:Nat):Prop where
 fn:∀ {f:Fn} {as:List V} {A:Around} {g:G} {H:Hp} {s:Shared} {vs:List Value},Room n A→Ok T g H s→VRs as g vs→CallOk T A (.ref f.adr) (C f as) as vs g s H
 df:∀ {a:V} {A:Around} {g:G} {H:Hp} {s:Shared} {x:Value},Room n A→Ok T g H s→VR a g x→CallOk T A (.ref 182) (C ⟨10⟩ [a,.empty]) [a] [x] g s H
structure Cf (T:Tp) where
 A:Around
 C:Calls
 n:Nat
 room:Room n A
 calls:CallsOk T C n
structure Pt (T:Tp) (sc:Scope) (lay:Lay) where
 ρ:List Sl
 env:Env
 g:G
 H:Hp
 s:Shared
 eo:EnvOk sc env
 o:Ok T g H s
 lo:Lo g env sc lay ρ
noncomputable def Pt.to {T:Tp} {sc:Scope} {lay:Lay} (p:Pt T sc lay) {g':G} {H':Hp} {s':Shared} (l:Le p.g g') (o:Ok T g' H' s'):Pt T sc lay:=⟨p.ρ,p.env,g',H',s',p.eo,o,p.lo.mono l.lw⟩
noncomputable def NxB (T:Tp) (g:G) (H:Hp) (Q:Shared→Prop):Prop:=∀ g' s',Le g g'→Ok T g' H s'→Q s'
noncomputable def EvA {T:Tp} (c:Cf T) {sc:Scope} {lay:Lay} (p:Pt T sc lay) (st:Bool) (x:Expr) (v:V) (H':Hp):Prop:=∀ {Q:Value→Shared→Prop},Nx T p.g H' st v Q→wpAny T.M c.A (eval x p.env) Q noE p.s
noncomputable def EvB {T:Tp} (c:Cf T) {sc:Scope} {lay:Lay} (p:Pt T sc lay) (x:Expr) (v:V) (H':Hp):Prop:=∀ {b:Bool} {Q:Bool→Shared→Prop},v = .bool b→NxB T p.g H' (Q b)→wpAny T.M c.A (isTrue x p.env (eval x p.env)) Q noE p.s
noncomputable def Xv {T:Tp} (c:Cf T) (sc:Scope) (lay:Lay) (st:Bool) (f:List Sl→Hp→Option (V×Hp)) (x:Expr):Prop:=∀ (p:Pt T sc lay) {v:V} {H':Hp},f p.ρ p.H=some (v,H')→EvA c p st x v H'∧EvB c p x v H'
noncomputable def Xs {T:Tp} (c:Cf T) (sc:Scope) (lay:Lay) (f:List Sl→Hp→Option (List V×Hp)) (xs:List Expr):Prop:=∀ (p:Pt T sc lay) {vs:List V} {H':Hp} {pos:Pos} {Q:List Value→Shared→Prop},f p.ρ p.H=some (vs,H')→(∀ ys g' s',Le p.g g'→Ok T g' H' s'→VRs vs g' ys→Q ys s')→wpAny T.M c.A (spliced (backTo pos (starEach xs p.env))) Q noE p.s
noncomputable def LayInj (lay:Lay):Prop:=∀ (i j:Nat) (id:Str),lay[i]?=some (some id)→lay[j]?=some (some id)→i=j
noncomputable abbrev FE:=List Sl→Hp→Option (V×Hp)
noncomputable abbrev FEs:=List Sl→Hp→Option (List V×Hp)
noncomputable def PX {T:Tp} (c:Cf T) (f:FE) (m:ME):Prop:=∀ ⦃st:Bool⦄ ⦃sc:Scope⦄ ⦃lay:Lay⦄ ⦃x:Expr⦄,LayInj lay→m st sc lay x=true→Xv c sc lay st f x
noncomputable def PXs {T:Tp} (c:Cf T) (f:FEs) (m:MEs):Prop:=∀ ⦃sc:Scope⦄ ⦃lay:Lay⦄ ⦃xs:List Expr⦄,LayInj lay→m sc lay xs=true→Xs c sc lay f xs
noncomputable def f_k (v:V):FE:=fun _ H=>some (v,H)
noncomputable def f_v (i:Nat):FE:=fun ρ H=>(rdV ρ i).map fun v=>(v,H)
noncomputable def f_l (i:Nat):FE:=fun ρ H=>(rdL ρ i).map fun v=>(.lst v,H)
noncomputable def f_2 (op:V×Hp→V×Hp→Option V) (a b:FE):FE:=fun ρ H=>(a ρ H).bind fun r=>(b ρ r.2).bind fun q=>(op r q).map fun v=>(v,q.2)
noncomputable def f_not (a:FE):FE:=fun ρ H=>(a ρ H).bind fun r=>r.1.truth.map fun b=>(.bool !b,r.2)
noncomputable def f_and (a b:FE):FE:=fun ρ H=>(a ρ H).bind fun r=>sel r.1.truth (b ρ r.2) (some r)
noncomputable def f_or (a b:FE):FE:=fun ρ H=>(a ρ H).bind fun r=>sel r.1.truth (some r) (b ρ r.2)
noncomputable def f_ite (t a b:FE):FE:=fun ρ H=>(t ρ H).bind fun r=>sel r.1.truth (a ρ r.2) (b ρ r.2)
section
variable {T:Tp} {c:Cf T} {sc:Scope} {lay:Lay} {p:Pt T sc lay} {st su:Bool} {v u r:V} {H H' H1 H2:Hp} {x y z:Expr} {q:Prop} {Q:Value→Shared→Prop} {R:Bool→Shared→Prop} {f fa fb ft:FE} {ma mb mt:ME} {pos:Pos} {g g':G} {s:Shared}
theorem Nx.up (k:Nx T g H st v Q) (l:Le g g'):Nx T g' H st v Q:=fun z g'' s l'=>k z g'' s (l.trans l')
theorem Nx.pr {w:V} (k:Nx T g H' st v Q) (c:(w,H)=(v,H')):Nx T g H st w Q:=by cases c; exact k
theorem NxB.up {P:Shared→Prop} (k:NxB T g H P) (l:Le g g'):NxB T g' H P:=fun g'' s l'=>k g'' s (l.trans l')
noncomputable abbrev Plain (x:Expr):Prop:=∀ env whole,isTrue x env whole=(do let v ← whole; standAt x.pos; holding [v] (truthy v))
theorem plain (hp:Plain x) (h:∀ (p:Pt T sc lay) {v:V} {H':Hp},f p.ρ p.H=some (v,H')→EvA c p st x v H'):Xv c sc lay st f x:=
 fun p {v} {H'} e=>⟨h p e,fun {b} {Q} d k=>isTrue_plain (h p e fun y g' s' l o r=>by subst d; rw [r.bool]; exact wpAny_truthy_bool (k _ _ l o)) (hp _ _)⟩
theorem Xv.val (h:Xv c sc lay st f x) (p:Pt T sc lay) (e:f p.ρ p.H=some (v,H')) (k:Nx T p.g H' st v Q):wpAny T.M c.A (eval x p.env) Q noE p.s:=(h p e).1 k
theorem Xv.tst (h:Xv c sc lay st f x) (p:Pt T sc lay) {b:Bool} (e:f p.ρ p.H=some (.bool b,H')) (k:NxB T p.g H' (R b)):wpAny T.M c.A (isTrue x p.env (eval x p.env)) R noE p.s:=(h p e).2 rfl k
theorem beqE {α:Type} [BEq α] [LawfulBEq α] {x y:α} (P:α→Prop) (h:(x == y)=true) (k:P x):P y:=beq_iff_eq.mp h▸k
theorem bothE {α β γ δ:Type} {x:Option α} {f:α→Option β} {k:α→β→Option γ} {l:α→β→γ→δ} {r:δ} (h:(x.bind fun a=>(f a).bind fun b=>(k a b).map (l a b))=some r) (j:∀ a b z,x=some a→f a=some b→k a b=some z→l a b z=r→q):q:=
 bindE h fun a e1 h=>bindE h fun b e2 h=>mapE h fun z e3 e4=>j a b z e1 e2 e3 e4
theorem px_k:PX c (f_k v) (m_k v):=fun st sc lay x _ h=>plain (orE h (fun h=>vK_of (P:=Plain) h fun _ _ _ _ _ _=>rfl)
  fun h=>vUn_of (P:=Plain) h fun op y p h=>andE h fun h _=>beqE (fun op=>Plain (.UnaryOp op y p)) (beq_iff_eq.mpr (beq_iff_eq.mp h).symm) fun _ _=>rfl) fun p {_ _} e {Q} k=>k_ok h p.o (k.pr (Option.some.inj e))
theorem strs_len:∀ {vs:List Value} {ss:List String},strsAre vs ss=true→vs.length=ss.length
 | [],_,h=>v0_of (P:=fun ss=>0=ss.length) h rfl
 | _::_,_,h=>vC_of (P:=fun ss=>_=ss.length) h fun _ _ h=>andE h fun _ h=>congrArg (·+1) (strs_len h)
theorem strsA_e {vs:List Value} {i:String} {js:List String} (h:strsAre vs (i::js)=true) (k:∀ t ws,vs = .str (Str.ofString i) t::ws→strsAre ws js=true→q):q:=by
 cases vs with
 | nil=>exact nomatch h
 | cons w ws=>
  refine andE h fun h1 h2=>?_
  cases w with
  | str y t=>exact k t ws (congrArg (Value.str · t::ws) (beq_iff_eq.mp h1)) h2
  | _=>exact nomatch h1
theorem strs_vr:∀ {xs:List V} {ss:List String} {vs:List Value},strs? xs=some ss→strsAre vs ss=true→VRs xs g vs
 | [],_,vs,h,h'=>by cases h; rw [List.eq_nil_of_length_eq_zero (strs_len h')]; exact .nil
 | _::_,_,_,h,h'=>strs_e h fun i js c e d=>strsA_e (d▸h') fun t ws f h=>by rw [f]; exact .cons (c▸fun _ k=>k t rfl) (strs_vr e h)
theorem tup_obj:∀ {ob:Obj} {vs:Array Value} {n:Nat},ob.cls = .type "tuple"→ob.dict=none→ob.slots=#[]→ob.data = .seq vs n→ob=tupObj vs.toList n
 | ⟨_,_,_,_⟩,_,_,rfl,rfl,rfl,rfl=>rfl
theorem der_at {xs:List V} (o:Ok T g H s) (h:(strs? xs == some derNames)=true):VR (.tup xs) g (.ref derivedA):=vO_e T.top.der fun ob e d=>andE d fun d1 d=>andE d fun d2 d=>andE d fun d3 d4=>vSeq_e d4 fun vs n d5 d6=>
 have r:=strs_vr (g:=g) (beq_iff_eq.mp h) d6
 ⟨by rw [← r.length,strs_len d6]; decide,fun _ k=>k derivedA vs.toList n rfl ((o.base _ _ (T.X _ _ e)).trans (congrArg Tag.fix (tup_obj (beq_iff_eq.mp d1) (Option.isNone_iff_eq_none.mp d2) (Array.isEmpty_iff.mp d3) d5))) r⟩
theorem glob_e {id:Str} (h:globV sc id v=true) (k1:v = .empty→isGlob sc id "EMPTY" emptyA=true→q) (k2:v = .unspec→isGlob sc id "UNSPECIFIED" unspecA=true→q) (k3:∀ xs,v = .tup xs→isGlob sc id "_law_derived" derivedA=true→(strs? xs == some derNames)=true→q):q:=by
 cases v with
 | empty=>exact k1 rfl h
 | unspec=>exact k2 rfl h
 | tup xs=>exact andE h fun h1 h2=>k3 xs rfl h1 h2
 | _=>exact nomatch h
theorem px_g:PX c (f_k v) (m_g v):=fun st sc lay x _ h=>vNm_of (P:=Xv c sc lay st (f_k v)) h fun id pos h=>plain (fun _ _=>rfl) fun p {_ _} e {Q} k=>
 have k:=k.pr (Option.some.inj e)
 glob_e h (fun e h=>name_glob h p.eo p.o (k.of p.o (e▸rfl))) (fun e h=>name_glob h p.eo p.o (k.of p.o (e▸rfl))) fun xs e h h2=>name_glob h p.eo p.o (k.of p.o (e▸der_at p.o h2))
theorem px_v {i:Nat}:PX c (f_v i) (m_v i):=fun st sc lay x _ h=>vNm_of (P:=Xv c sc lay st (f_v i)) h fun id pos h=>plain (fun _ _=>rfl) fun p {_ _} e {Q} k=>mapE e fun w e c=>rdV_e e fun e=>isVar_e h fun h1 _ h3 h4=>
 (p.lo i id _ (fun h=>h) h1 e).vE fun x vi r=>name_in h3 h4 p.eo p.o vi ((k.pr c).of p.o r)
theorem px_l {i:Nat}:PX c (f_l i) (m_l i):=fun st sc lay x _ h=>andE h fun h0 h=>vNm_of (P:=Xv c sc lay st (f_l i)) h fun id pos h=>plain (fun _ _=>rfl) fun p {_ _} e {Q} k=>mapE e fun w e c=>rdL_e e fun e=>isVar_e h fun h1 _ h3 h4=>
 (p.lo i id _ (fun h=>h) h1 e).lE fun a vs n vi z r l=>name_in h3 h4 p.eo p.o vi ((k.pr c) _ _ _ .rf p.o fun _ _ m=>m (notE h0) i w a vs n rfl l rfl z r)
theorem px_bin {o:BO} (ha:PX c fa ma) (hb:PX c fb mb):PX c (f_2 (fun r q=>binV q.2 o r.1 q.1) fa fb) (m_bin o ma mb):=fun st sc lay x L h=>vBin_of (P:=Xv c sc lay st _) h fun l op r pos h=>andE h fun h1 h=>andE h fun h2 h3=>beqE (fun op=>Xv c sc lay st _ (.BinOp l op r pos)) h1
 (plain (fun _ _=>rfl) fun p {_ _} e {Q} k=>bothE e fun r1 r2 w e1 e2 e3 c=>wpAny_BinOp ((ha L h2).val p e1 fun x g1 s1 l1 o1 v1=>(hb L h3).val (p.to l1 o1) e2 fun y g2 s2 l2 o2 v2=>binV_ok o2 (v1.mono l2) v2 e3 ((k.up (l1.trans l2)).pr c)))
end
section
variable {T:Tp} {c:Cf T} {sc:Scope} {lay:Lay} {p:Pt T sc lay} {st su:Bool} {v u r:V} {H H' H1 H2:Hp} {x y z:Expr} {q:Prop} {Q:Value→Shared→Prop} {R:Bool→Shared→Prop} {f fa fb ft:FE} {ma mb mt:ME} {pos:Pos} {g g':G} {s:Shared} {A:Around} {env:Env} {E:Value→Shared→Prop}
theorem NxB.pr {w:V} {b:Bool} (k:NxB T g H' (R b)) (c:(w,H)=(v,H')) (d:v = .bool b) {t:Bool} (f:w = .bool t):NxB T g H (R t):=by cases c; cases d; cases f; exact k
theorem px_cmp {o:CO} (ha:PX c fa ma) (hb:PX c fb mb):PX c (f_2 (fun r q=>cmpV q.2 o r.1 q.1) fa fb) (m_cmp o ma mb):=fun st sc lay x L h=>vCmp_of (P:=Xv c sc lay st _) h fun l ops rs pos h=>v1_of (P:=fun ops=>Xv c sc lay st _ (.Compare l ops rs pos)) h fun op h=>v1_of (P:=fun rs=>Xv c sc lay st _ (.Compare l [op] rs pos)) h fun r h=>
 andE h fun h1 h=>andE h fun h2 h=>andE h fun h3 h4=>beqE (fun op=>behindInMarks op r=false→Xv c sc lay st _ (.Compare l [op] [r] pos)) h1
 (fun h2 p {_ _} e=>bothE e fun r1 r2 w e1 e2 e3 d=>⟨fun {Q} k=>wpAny_Compare1 ((ha L h3).val p e1 fun x g1 s1 l1 o1 v1=>(hb L h4).val (p.to l1 o1) e2 fun y g2 s2 l2 o2 v2=>cmpV_ok o2 c.room.u (v1.mono l2) v2 e3 fun t c1 j=>j _ _ (((k.up (l1.trans l2)).pr d).of o2 (c1▸rfl))) h2,
  fun {b Q} c2 k=>wpAny_isTrue_Compare1 ((ha L h3).val p e1 fun x g1 s1 l1 o1 v1=>(hb L h4).val (p.to l1 o1) e2 fun y g2 s2 l2 o2 v2=>cmpV_ok o2 c.room.u (v1.mono l2) v2 e3 fun t c1 j=>j _ _ (wpAny_truthy_bool ((k.up (l1.trans l2)).pr d c2 c1 _ _ .rf o2))) h2⟩) (notE h2)
theorem px_not (ha:PX c fa ma):PX c (f_not fa) (m_not ma):=fun st sc lay x L h=>vUn_of (P:=Xv c sc lay st _) h fun op y pos h=>andE h fun h1 h2=>beqE (fun op=>Xv c sc lay st _ (.UnaryOp op y pos)) (beq_iff_eq.mpr (beq_iff_eq.mp h1).symm)
 fun p {_ _} e=>bindE e fun r1 e1 e=>mapE e fun t e2 d=>bool_e e2 fun e2=>have e1:=(e1.trans (congrArg (fun v=>some (v,r1.2)) e2):_=some (V.bool t,r1.2))
  ⟨fun {Q} k=>UnaryOp_ ((ha L h2).val p e1 fun x g1 s1 l1 o1 v1=>v1.bool▸not_of (wpAny_truthy_bool (((k.up l1).pr d).of o1 rfl))),fun {b Q} c2 k=>isTrue_not ((ha L h2).tst p e1 ((fun g1 s1 l1 o1=>(k.up l1).pr d c2 rfl _ _ .rf o1)))⟩
theorem isTrue_one {op:BoolOp} {whole:Sem Value} (h:wpAny T.M A (isTrue x env (eval x env)) R E s):wpAny T.M A (isTrue (.BoolOp op [x] pos) env whole) R E s:=by
 show wpAny _ A (isTrue x env (eval x env) >>= fun b=>match op,b with | .And,false=>pure false | .Or,true=>pure true | _,_=>pure (op == .And)) R E s
 refine wpAny_bind (wpAny_mono h (fun b s' q=>?_) fun _ _ x=>x)
 cases op <;> cases b <;> exact wpAny_pure q
theorem isTrue_two {op:BoolOp} {r:List Expr} {whole:Sem Value} (h:wpAny T.M A (isTrue x env (eval x env)) (fun b s'=>if (b == (op == .And))=true then wpAny T.M A (isTrue (.BoolOp op (y::r) pos) env (eval (.BoolOp op (y::r) pos) env)) R E s' else R b s') E s):wpAny T.M A (isTrue (.BoolOp op (x::y::r) pos) env whole) R E s:=by
 show wpAny _ A (isTrue x env (eval x env) >>= fun b=>match op,b with | .And,false=>pure false | .Or,true=>pure true | _,_=>allTrue op (y::r) env) R E s
 refine wpAny_bind (wpAny_mono h (fun b s' q=>?_) fun _ _ x=>x)
 cases op <;> cases b <;> first | exact q | exact wpAny_pure q
theorem Xv.one {op:BoolOp} (h:Xv c sc lay st f x):Xv c sc lay st f (.BoolOp op [x] pos):=fun p {_ _} e=>⟨fun {Q} k=>BoolOp_one (h.val p e k),fun {b Q} d k=>isTrue_one ((h p e).2 d k)⟩
theorem bo_rest {op:BoolOp} {q:List Expr} (hb:PX c fb mb) (L:LayInj lay) (h:(if q.isEmpty then mb true sc lay z else mb true sc lay (.BoolOp op (z::q) pos))=true):Xv c sc lay true fb (.BoolOp op (z::q) pos):=by
 cases q with
 | nil=>exact (hb L h).one
 | cons=>exact hb L h
theorem sel_e {α:Type} {t:Option Bool} {x y:Option α} {r:α} (h:sel t x y=some r) (k:t=some true→x=some r→q) (l:t=some false→y=some r→q):q:=by
 cases t with
 | none=>exact nsome h
 | some b=>cases b <;> first | exact k rfl h | exact l rfl h
theorem Nx.sd (k:Nx T g H st v Q):Nx T g H true v Q:=fun z g' s l o r=>k z g' s l o r.dn
end
noncomputable def f_nil:FEs:=fun _ H=>some ([],H)
noncomputable def f_cons (a:FE) (as:FEs):FEs:=fun ρ H=>(a ρ H).bind fun r=>(as ρ r.2).map fun q=>(r.1::q.1,q.2)
noncomputable def f_call (C:Calls) (fn:Fn) (as:FEs) (ds:List V):FE:=fun ρ H=>(as ρ H).bind fun r=>C fn (r.1++ds) r.2
noncomputable def f_mcall (C:Calls) (nm:String) (o:FE) (as:FEs):FE:=fun ρ H=>(o ρ H).bind fun r=>((clsOf r.2 r.1).bind (mth · nm)).bind fun f=>(as ρ r.2).bind fun q=>C f (r.1::q.1) q.2
noncomputable def f_b1 (o:B1) (a:FE):FE:=fun ρ H=>(a ρ H).bind fun r=>b1V r.2 o r.1
noncomputable def f_min (a b:FE):FE:=fun ρ H=>(a ρ H).bind fun r=>(b ρ r.2).bind fun q=>r.1.int?.bind fun x=>q.1.int?.map fun y=>(.int (if y < x then y else x),q.2)
noncomputable def f_isI (a:FE) (t:Ty):FE:=fun ρ H=>(a ρ H).bind fun r=>(t.has r.1).map fun b=>(.bool b,r.2)
section
variable {T:Tp} {c:Cf T} {sc:Scope} {lay:Lay} {p:Pt T sc lay} {st su:Bool} {v u r:V} {H H' H1 H2:Hp} {x y z:Expr} {q:Prop} {Q:Value→Shared→Prop} {R:Bool→Shared→Prop} {f fa fb ft:FE} {ma mb mt:ME} {fs:FEs} {ms:MEs} {pos:Pos} {g g':G} {s:Shared} {A:Around} {env:Env} {E:Value→Shared→Prop}
theorem px_and (ha:PX c fa ma) (hb:PX c fb mb):PX c (f_and fa fb) (m_bo .And ma mb):=fun st sc lay x L h=>vBool_of (P:=Xv c sc lay st _) h fun o ys pos h=>andE h fun h1 h=>vC_of (P:=fun ys=>Xv c sc lay st _ (.BoolOp o ys pos)) h fun y r h=>vC_of (P:=fun r=>Xv c sc lay st _ (.BoolOp o (y::r) pos)) h fun z q h=>andE h fun h2 h3=>
 beqE (fun o=>Xv c sc lay st _ (.BoolOp o (y::z::q) pos)) (beq_iff_eq.mpr (beq_iff_eq.mp h1).symm) (have hr:=bo_rest hb L h3; fun p {_ _} e=>bindE e fun r1 e1 e=>sel_e e
  (fun e2 e=>bool_e e2 fun e2=>have e1:=(e1.trans (congrArg (fun v=>some (v,r1.2)) e2):_=some (V.bool true,r1.2))
   ⟨fun {Q} k=>BoolOp_and ((ha L h2).val p e1 fun x g1 s1 l1 o1 v1=>v1.bool▸wpAny_truthy_bool (hr.val (p.to l1 o1) e (k.up l1).sd)),fun {b Q} d k=>isTrue_two ((ha L h2).tst p e1 fun g1 s1 l1 o1=>(hr (p.to l1 o1) e).2 d (k.up l1))⟩)
  fun e2 e=>bool_e e2 fun e2=>have e1:=(e1.trans (congrArg (fun v=>some (v,r1.2)) e2):_=some (V.bool false,r1.2)); have e:=(Option.some.inj e:(r1.1,r1.2)=_)
   ⟨fun {Q} k=>BoolOp_and ((ha L h2).val p e1 fun x g1 s1 l1 o1 v1=>v1.bool▸wpAny_truthy_bool (((k.up l1).pr e).of o1 (e2▸rfl))),fun {b Q} d k=>isTrue_two ((ha L h2).tst p e1 fun g1 s1 l1 o1=>(k.up l1).pr e d e2 _ _ .rf o1)⟩)
theorem px_or (ha:PX c fa ma) (hb:PX c fb mb):PX c (f_or fa fb) (m_bo .Or ma mb):=fun st sc lay x L h=>vBool_of (P:=Xv c sc lay st _) h fun o ys pos h=>andE h fun h1 h=>vC_of (P:=fun ys=>Xv c sc lay st _ (.BoolOp o ys pos)) h fun y r h=>vC_of (P:=fun r=>Xv c sc lay st _ (.BoolOp o (y::r) pos)) h fun z q h=>andE h fun h2 h3=>
 beqE (fun o=>Xv c sc lay st _ (.BoolOp o (y::z::q) pos)) (beq_iff_eq.mpr (beq_iff_eq.mp h1).symm) (have hr:=bo_rest hb L h3; fun p {_ _} e=>bindE e fun r1 e1 e=>sel_e e
  (fun e2 e=>bool_e e2 fun e2=>have e1:=(e1.trans (congrArg (fun v=>some (v,r1.2)) e2):_=some (V.bool true,r1.2)); have e:=(Option.some.inj e:(r1.1,r1.2)=_)
   ⟨fun {Q} k=>BoolOp_or ((ha L h2).val p e1 fun x g1 s1 l1 o1 v1=>v1.bool▸wpAny_truthy_bool (((k.up l1).pr e).of o1 (e2▸rfl))),fun {b Q} d k=>isTrue_two ((ha L h2).tst p e1 fun g1 s1 l1 o1=>(k.up l1).pr e d e2 _ _ .rf o1)⟩)
  fun e2 e=>bool_e e2 fun e2=>have e1:=(e1.trans (congrArg (fun v=>some (v,r1.2)) e2):_=some (V.bool false,r1.2))
   ⟨fun {Q} k=>BoolOp_or ((ha L h2).val p e1 fun x g1 s1 l1 o1 v1=>v1.bool▸wpAny_truthy_bool (hr.val (p.to l1 o1) e (k.up l1).sd)),fun {b Q} d k=>isTrue_two ((ha L h2).tst p e1 fun g1 s1 l1 o1=>(hr (p.to l1 o1) e).2 d (k.up l1))⟩)
theorem ite_ok {t a b:Expr} {ρ:FE} (ht:Xv c sc lay true ft t) (ha:Xv c sc lay st fa a) (hb:Xv c sc lay st fb b):Xv c sc lay st (f_ite ft fa fb) (.IfExp t a b pos):=fun p {_ _} e=>bindE e fun r1 e1 e=>sel_e e
 (fun e2 e=>bool_e e2 fun e2=>have e1:=(e1.trans (congrArg (fun v=>some (v,r1.2)) e2):_=some (V.bool true,r1.2))
  ⟨fun {Q} k=>IfExp_ (ht.tst p e1 fun g1 s1 l1 o1=>ha.val (p.to l1 o1) e (k.up l1)),fun {b Q} d k=>isTrue_IfExp (ht.tst p e1 fun g1 s1 l1 o1=>(ha (p.to l1 o1) e).2 d (k.up l1))⟩)
 fun e2 e=>bool_e e2 fun e2=>have e1:=(e1.trans (congrArg (fun v=>some (v,r1.2)) e2):_=some (V.bool false,r1.2))
  ⟨fun {Q} k=>IfExp_ (ht.tst p e1 fun g1 s1 l1 o1=>hb.val (p.to l1 o1) e (k.up l1)),fun {b Q} d k=>isTrue_IfExp (ht.tst p e1 fun g1 s1 l1 o1=>(hb (p.to l1 o1) e).2 d (k.up l1))⟩
theorem px_ite (ht:PX c ft mt) (ha:PX c fa ma) (hb:PX c fb mb):PX c (f_ite ft fa fb) (m_ite mt ma mb):=fun st sc lay x L h=>vIf_of (P:=Xv c sc lay st _) h fun u y z pos h=>andE h fun h1 h=>andE h fun h2 h3=>ite_ok (ρ:=ft) (ht L h1) (ha L h2) (hb L h3)
theorem starEach_cons {r:List Expr} (h:isStarred x=false):starEach (x::r) env=(false,eval x env)::starEach r env:=by
 cases x <;> first | rfl | exact nomatch h
theorem items_cons {r:List Expr} {Q:List Value→Shared→Prop} (hs:isStarred x=false) (h:wpAny T.M A (eval x env) (fun v s₁=>wpAny T.M A (spliced (backTo pos (starEach r env))) (fun vs s₂=>Q (v::vs) s₂) E s₁) E s):wpAny T.M A (spliced (backTo pos (starEach (x::r) env))) Q E s:=
 wpAny_items_cons h (starEach_cons hs)
theorem px_nil:PXs c f_nil m_nil:=fun sc lay xs _ h=>v0_of (P:=Xs c sc lay f_nil) h fun p {_ _ _ _} e k=>wpAny_items_nil (by cases e; exact k _ _ _ .rf p.o .nil)
theorem PXs.one (ha:Xv c sc lay true fa x) (hs:isStarred x=false) {r:List Expr} (hb:Xs c sc lay fs r):Xs c sc lay (f_cons fa fs) (x::r):=fun p {_ _ _ Q} e k=>bindE e fun r1 e1 e=>mapE e fun r2 e2 d=>items_cons hs (ha.val p e1 fun x g1 s1 l1 o1 v1=>hb (p.to l1 o1) e2 fun ys g2 s2 l2 o2 vs=>by
 cases d
 exact k _ _ _ (l1.trans l2) o2 (.cons (v1.vr1.mono _ l2.lv) vs))
theorem px_cons (ha:PX c fa ma) (hb:PXs c fs ms):PXs c (f_cons fa fs) (m_cons ma ms):=fun sc lay xs L h=>vC_of (P:=Xs c sc lay _) h fun x r h=>andE h fun h1 h=>andE h fun h2 h3=>PXs.one (ha L h2) (notE h1) (hb L h3)
theorem plain_any:∀ {xs:List Expr},(∀ x∈xs,isStarred x=false)→((backTo pos (starEach xs env)).any fun x=>x.1)=false
 | [],_=>rfl
 | x::r,h=>by
  rw [starEach_cons (h x (.head _))]
  exact plain_any fun y hy=>h y (.tail _ hy)
theorem plain_all:∀ {xs:List Expr},(∀ x∈xs,isStarred x=false)→((backTo pos (starEach xs env)).all fun x => !x.1)=true
 | [],_=>rfl
 | x::r,h=>by
  rw [starEach_cons (h x (.head _))]
  exact plain_all fun y hy=>h y (.tail _ hy)
theorem argsOk_e {xs:List Expr} (h:argsOk xs=true) (k:xs.length < 15→(∀ x∈xs,isStarred x=false)→q):q:=andE h fun h1 h2=>k (of_decide_eq_true h1) fun x hx=>notE (List.all_eq_true.mp h2 x hx)
theorem callee {a:Addr} {first:List Value} {xs:List Expr} (hk:keepIn T.K (.ref a)=true) (X:T.K.In s.heap) (hs:∀ x∈xs,isStarred x=false)
  (h:wpAny T.M A (spliced (backTo pos (starEach xs env))) (fun vs s₁=>T.K.In s₁.heap∧wpAny T.M A (call (.ref a) (first++vs)) Q E s₁) E s):wpAny T.M A (callWith pos (.ref a) first (backTo pos (starEach xs env)) []) Q E s:=by
 cases xs with
 | nil=>
  refine callWith_K0 X hk ?_
  have h2:=wpAny_bind (f:=fun vs=>call (.ref a) (first++vs)) (wpAny_mono (h:wpAny T.M A (pure []) _ E s) (fun vs s₁ q=>q.2) fun _ _ x=>x)
  rwa [show spliced (backTo pos (starEach [] env))=pure [] from rfl,pure_bind] at h2
 | cons x r=>exact callWith_K X hk h (starEach_cons (hs x (.head _))) (plain_any fun y hy=>hs y (.tail _ hy))
theorem keep_of {f:Fn} (h:f.row∈globsF):keepIn T.K (.ref f.adr)=true:=List.all_eq_true.mp T.top.keep _ h
theorem dsE {fn:Fn} {ds:List V} {xs:List Expr} (h:(ds.isEmpty||v1 ds fun d=>(match d with | .empty=>true | _=>false)&&(Nat.beq fn.c 10&&v1 xs fun _=>true))=true) (k:ds=[]→q) (l:ds=[.empty]→fn=⟨10⟩→xs.length=1→q):q:=
 orE h (fun h=>k (List.isEmpty_iff.mp h)) fun h=>v1_of (P:=fun ds'=>ds=ds'→q) h (fun d h e=>andE h fun h1 h=>andE h fun h2 h3=>by
  cases d with
  | empty=>exact l e (congrArg Fn.mk (Nat.eq_of_beq_eq_true h2)) (v1_of (P:=fun xs=>xs.length=1) h3 fun _ _=>rfl)
  | _=>exact nomatch h1) rfl
end
section
variable {T:Tp} {c:Cf T} {sc:Scope} {lay:Lay} {p:Pt T sc lay} {st su:Bool} {v u r:V} {H H' H1 H2:Hp} {x y z:Expr} {q:Prop} {Q:Value→Shared→Prop} {R:Bool→Shared→Prop} {f fa fb ft:FE} {ma mb mt:ME} {fs:FEs} {ms:MEs} {pos:Pos} {g g':G} {s:Shared} {A:Around} {env:Env} {E:Value→Shared→Prop}
theorem name_call {id:Str} {a:Fn} {xs:List Expr} {pos':Pos} (hid:isGlob sc id a.row.1 a.row.2=true) (hk:keepIn T.K (.ref a.adr)=true) (hx:∀ x∈xs,isStarred x=false) {vs:List V} (hs:Xs c sc lay fs xs) (e:fs p.ρ p.H=some (vs,H'))
  (k:∀ ys g1 s1,Le p.g g1→Ok T g1 H' s1→VRs vs g1 ys→wpAny T.M c.A (call (.ref a.adr) ys) Q noE s1):wpAny T.M c.A (eval (.Call (.Name id pos') xs [] pos) p.env) Q noE p.s:=
 wpAny_Call_NameR (name_glob hid p.eo p.o (callee hk (inK p.o) hx (hs p e fun ys g1 s1 l1 o1 r1=>⟨inK o1,k ys g1 s1 l1 o1 r1⟩)))
theorem call_1 {fn:Fn} {id:Str} {xs:List Expr} {pos':Pos} (hid:isGlob sc id fn.row.1 fn.row.2=true) (hg:globsF.contains fn.row=true) (hx:∀ x∈xs,isStarred x=false) (hs:Xs c sc lay fs xs):Xv c sc lay st (f_call c.C fn fs []) (.Call (.Name id pos') xs [] pos):=
 plain (fun _ _=>rfl) fun p {_ _} e {Q} k=>bindE e fun r1 e1 e=>name_call hid (keep_of (List.contains_iff_mem.mp hg)) hx hs e1 fun ys g1 s1 l1 o1 v1=>c.calls.fn c.room o1 v1 (List.append_nil r1.1▸e) (k.up l1).sd
theorem one_of {α:Type}:∀ {l:List α},l.length=1→(∀ a,l=[a]→q)→q
 | [a],_,k=>k a rfl
theorem list1 {vs:List V} {ys:List Value} (h:VRs vs g ys) (n:vs.length=1) (k:∀ a x,vs=[a]→ys=[x]→VR a g x→q):q:=one_of n fun a e=>VRs.e (xs:=[]) (e▸h) fun w ws e1 r rs=>k a w e ((show ws=[] from rs)▸e1) r
theorem call_2 {id:Str} {xs:List Expr} {pos':Pos} (hid:isGlob sc id (Fn.mk 10).row.1 (Fn.mk 10).row.2=true) (hg:globsF.contains (Fn.mk 10).row=true) (hx:∀ x∈xs,isStarred x=false) (hs:Xs c sc lay fs xs) (hn:∀ {ρ:List Sl} {H:Hp} {r:List V×Hp},fs ρ H=some r→r.1.length=xs.length) (hl:xs.length=1):Xv c sc lay st (f_call c.C ⟨10⟩ fs [.empty]) (.Call (.Name id pos') xs [] pos):=
 plain (fun _ _=>rfl) fun p {_ _} e {Q} k=>bindE e fun r1 e1 e=>name_call hid (keep_of (List.contains_iff_mem.mp hg)) hx hs e1 fun ys g1 s1 l1 o1 v1=>list1 v1 ((hn e1).trans hl) fun a x c1 c2 r=>by
  rw [c2]
  rw [c1] at e
  exact c.calls.df c.room o1 r e (k.up l1).sd
noncomputable abbrev LenOk (fs:FEs) (ms:MEs):Prop:=∀ ⦃sc:Scope⦄ ⦃lay:Lay⦄ ⦃xs:List Expr⦄,ms sc lay xs=true→∀ {ρ:List Sl} {H:Hp} {r:List V×Hp},fs ρ H=some r→r.1.length=xs.length
theorem len_nil:LenOk f_nil m_nil:=fun _ _ xs h {_ _ _} e=>v0_of (P:=fun xs=>_=xs.length) h (by cases e; rfl)
theorem len_cons (h:LenOk fs ms):LenOk (f_cons fa fs) (m_cons ma ms):=fun _ _ xs m {_ _ _} e=>vC_of (P:=fun xs=>_=xs.length) m fun x r m=>andE m fun _ m=>andE m fun _ m=>bindE e fun r1 _ e=>mapE e fun r2 e2 d=>by cases d; exact congrArg (·+1) (h m e2)
theorem v0K {α:Type} {xs:List α} (h:xs.isEmpty=true) (P:List α→Prop) (k:P []):P xs:=v0_of h k
theorem px_call {fn:Fn} {ds:List V} (ha:PXs c fs ms) (hn:LenOk fs ms):PX c (f_call c.C fn fs ds) (m_call fn ms ds):=fun st sc lay x L h=>vCall_of (P:=Xv c sc lay st _) h fun fx xs ks pos h=>vNm_of (P:=fun fx=>Xv c sc lay st _ (.Call fx xs ks pos)) h fun id p' h=>andE h fun h0 h=>v0K h0 (fun ks=>Xv c sc lay st _ (.Call (.Name id p') xs ks pos))
 (andE h fun h1 h=>andE h fun h2 h=>andE h fun h3 h=>andE h fun h4 h5=>argsOk_e h4 fun _ hx=>dsE h5 (fun d=>d▸call_1 h1 h2 hx (ha L h3)) fun d f hl=>by subst d; subst f; exact call_2 h1 h2 hx (ha L h3) (hn h3) hl)
theorem new_row (c:Cls):(Fn.new c).row∈globsF:=by cases c <;> decide
theorem px_new {cl:Cls} (ha:PXs c fs ms):PX c (f_call c.C (.new cl) fs []) (m_new cl ms):=fun st sc lay x L h=>vCall_of (P:=Xv c sc lay st _) h fun fx xs ks pos h=>vNm_of (P:=fun fx=>Xv c sc lay st _ (.Call fx xs ks pos)) h fun id p' h=>andE h fun h0 h=>v0K h0 (fun ks=>Xv c sc lay st _ (.Call (.Name id p') xs ks pos))
 (andE h fun h1 h=>andE h fun h3 h4=>argsOk_e h4 fun _ hx=>call_1 h1 (List.contains_iff_mem.mpr (new_row cl)) hx (ha L h3))
theorem base_eq {n:Str} {whole:Sem Value} (h:noSuper x=true):attributeBase x n env whole=whole:=
 orE h (fun h=>vNm_of (P:=fun x=>attributeBase x n env whole=whole) h fun _ _ _=>rfl) fun h=>orE h (fun h=>vAt_of (P:=fun x=>attributeBase x n env whole=whole) h fun _ _ _ _=>rfl) fun h=>orE h (fun h=>vSub_of (P:=fun x=>attributeBase x n env whole=whole) h fun _ _ _ _=>rfl)
  fun h=>vCall_of (P:=fun x=>attributeBase x n env whole=whole) h fun f as ks p h=>vAt_of (P:=fun f=>attributeBase (.Call f as ks p) n env whole=whole) h fun _ _ _ _=>rfl
theorem attr_rule {attr:Str} (hn:noSuper x=true) (h:wpAny T.M A (eval x env) (fun o s₁=>wpAny T.M A (getAttr o attr true) Q E s₁) E s):wpAny T.M A (eval (.Attribute x attr pos) env) Q E s:=Attribute_any_ h (by rw [arm_eval_Attribute,base_eq hn])
theorem mcall_rule {name:Str} {apos pos:Pos} {args:List Expr} (hn:noSuper x=true) (hl:args.length < 15) (hs:∀ x∈args,isStarred x=false) (hp:(apos.endLine == pos.line)=true)
  (h:∀ pl,wpAny T.M A (eval x env) (fun ov s₁=>wpAny T.M A (getMethod ov name pl) (fun fx s₂=>wpAny T.M A (callWith pos fx.1 fx.2 (backTo pos (starEach args env)) []) Q E s₂) E s₁) E s):wpAny T.M A (eval (.Call (.Attribute x name apos) args [] pos) env) Q E s:=by
 refine MethodCall_ (pl:=do return (← importBound x env).getD true) (h _) ?_
 rw [arm_eval_Call,base_eq hn]
 have hf:methodCallForm (args.length+([]:List Keyword).length) (backTo pos (starEach args env)) (backToKw pos (keywordEach [] env))=true:=by
  unfold methodCallForm
  rw [plain_all hs]
  exact decide_eq_true (Nat.lt_of_lt_of_le (show args.length+0+0 < 15 from hl) (by decide))
 unfold methodCall
 rw [hf]
 have e:methodCallPos true x env apos pos=pure pos:=if_pos (by rw [hp]; rfl)
 rw [e]
 simp only [pure_bind]
 rfl
theorem meth_e {nm:String} {ln:Nat} {f:Expr→Bool} {P:Expr→Prop} (h:meth x nm ln f=true) (k:∀ o p,(p.endLine == ln)=true→noSuper o=true→f o=true→P (.Attribute o (Str.ofString nm) p)):P x:=
 vAt_of h fun o n p h=>andE h fun h1 h=>andE h fun h2 h=>andE h fun h3 h4=>beqE (fun n=>P (.Attribute o n p)) (beq_iff_eq.mpr (beq_iff_eq.mp h1).symm) (k o p h2 h3 h4)
end
noncomputable def f_app (a b:FE):FE:=fun ρ H=>(a ρ H).bind fun r=>if isLst r.2 r.1 then (b ρ r.2).bind fun q=>(appV q.2 r.1 q.1).map fun H=>(.none,H) else Option.none
noncomputable def f_pop (a:FE):FE:=fun ρ H=>(a ρ H).bind fun r=>popV r.2 r.1
noncomputable def f_get (a b:FE):FE:=fun ρ H=>(a ρ H).bind fun r=>if isDct r.2 r.1 then (b ρ r.2).bind fun q=>(getV q.2 r.1 q.1).map fun v=>(v,q.2) else Option.none
noncomputable def f_attr (a:FE) (nm:String):FE:=fun ρ H=>(a ρ H).bind fun r=>(attrV r.2 nm r.1).map fun v=>(v,r.2)
noncomputable def f_sl (a lo hi:FE):FE:=fun ρ H=>(a ρ H).bind fun r=>(lo ρ r.2).bind fun p=>(hi ρ p.2).bind fun q=>(slV r.1 p.1 q.1).map fun v=>(v,q.2)
noncomputable def f_rsl (a lo:FE):FE:=fun ρ H=>(a ρ H).bind fun r=>(lo ρ r.2).bind fun p=>(rslV r.1 p.1).map fun v=>(v,p.2)
noncomputable def f_list (heap:Bool) (as:FEs):FE:=fun ρ H=>(as ρ H).map (mk' heap)
noncomputable def f_tup (as:FEs):FE:=fun ρ H=>(as ρ H).map fun r=>(.tup r.1,r.2)
noncomputable def f_dict0 (isInts:Bool):FE:=fun _ H=>some (.ref H.length,H++[if isInts then .dictI [] else .dictS []])
section
variable {T:Tp} {c:Cf T} {sc:Scope} {lay:Lay} {p:Pt T sc lay} {st su:Bool} {v u r:V} {H H' H1 H2:Hp} {x y z:Expr} {q:Prop} {Q:Value→Shared→Prop} {R:Bool→Shared→Prop} {f fa fb ft:FE} {ma mb mt:ME} {fs:FEs} {ms:MEs} {pos:Pos} {g g':G} {s s':Shared} {A:Around} {env:Env} {E:Value→Shared→Prop} {a d:Addr} {od ob:Obj} {w:Value}
theorem mth_e {cl:Cls} {nm:String} {f:Fn} (h:mth cl nm=some f) (k:(cl,nm,f.c)∈mths→q):q:=mapE h fun m e c=>andE (List.find?_some (p:=fun m:Cls×String×Nat=>decide (m.1=cl)&&decide (m.2.1=nm)) e) fun h1 h2=>
 k ((of_decide_eq_true h1:m.1=cl)▸(of_decide_eq_true h2:m.2.1=nm)▸c▸List.mem_of_find?_eq_some e)
theorem shadow {ns:List String} {m:Str→Option Value} {nm:String} (N:NsO ns od m) (h:nm∉ns):shadowIn (some od) (Str.ofString nm)=some false:=by
 have hn:m (Str.ofString nm)=none:=Classical.byContradiction fun q=>by
  obtain ⟨z,hz,ez⟩:=List.mem_map.mp (N.within (Str.ofString nm) q)
  exact h (ofString_inj ez▸hz)
 obtain ⟨es,ep,hd,hk,_,hf,_⟩:=N
 show (lookIn (Str.ofString nm) od).map _=_
 unfold lookIn
 rw [hd]
 have q:=(hf (Str.ofString nm)).trans hn
 unfold nsFind findBy at q
 have hnone:es.toList.find? (fun x=>x.key.isStr (Str.ofString nm))=none:=Option.map_eq_none_iff.mp (Array.find?_toList▸q)
 have href:es.toList.any (fun x=>x.refKey)=false:=List.any_eq_false.mpr fun en hen=>by
  obtain ⟨n,t,e⟩:=hk en (Array.mem_toList_iff.mp hen)
  unfold DictEntry.refKey
  rw [e]
  exact Bool.false_ne_true
 simp only [hnone,href]
 rfl
theorem cls_e {cl:Cls} (h:clsOf H v=some cl) (k:∀ fs,v = .obj cl fs→q) (l:∀ i j fs,v = .ref i→cl = .names→attrsAt H i=some (j,fs)→q):q:=by
 cases v with
 | obj c fs=>cases h; exact k fs rfl
 | ref i=>exact mapE h fun p e c=>l i p.1 p.2 rfl c.symm e
 | _=>exact nsome h
theorem method_ok {cl:Cls} {nm:String} {f:Fn} {pl:Sem Bool} {Q:Value×List Value→Shared→Prop} (o:Ok T g H s) (h:VX st v g w) (hc:clsOf H v=some cl) (hm:mth cl nm=some f) (hQ:Q (.ref f.adr,[w]) s):wpAny T.M A (getMethod w (Str.ofString nm) pl) Q E s:=
 mth_e hm fun hm=>andE (List.all_eq_true.mp T.top.mth _ hm) fun m1 m=>andE m fun m2 m=>andE m fun m3 m=>andE m fun m4 m5=>by
  have nf:nm∉cl.fields:=fun q=>Bool.false_ne_true ((notE m5).symm.trans (List.contains_iff_mem.mpr q))
  refine cls_e hc (fun fs e=>?_) fun i j fs e e2 e3=>?_
  ·exact VR.objE (VX.vr (e▸h) rfl) fun a d od m vs c z zd N _ _=>by rw [c] at hQ ⊢; exact method_fn (inK o) (inst_at (o.fx z) (o.fx zd)) (plainGet_of m1).1 (plainGet_of m1).2 (beq_iff_eq.mp m2) (beq_iff_eq.mp m3) (shadow N nf) hQ
  ·subst e2
   exact attrs_at o (e▸h) e3 fun a d od m c _ h1 h2 N _=>by rw [c] at hQ ⊢; exact method_fn (inK o) (inst_at h1 h2) (plainGet_of m1).1 (plainGet_of m1).2 (beq_iff_eq.mp m2) (beq_iff_eq.mp m3) (shadow N nf) hQ
theorem mth_keep {cl:Cls} {nm:String} {f:Fn} (hm:mth cl nm=some f):keepIn T.K (.ref f.adr)=true:=mth_e hm fun hm=>andE (List.all_eq_true.mp T.top.mth _ hm) fun _ m=>andE m fun _ m=>andE m fun _ m=>andE m fun m4 _=>m4
theorem px_mcall {nm:String} (ho:PX c fa ma) (ha:PXs c fs ms):PX c (f_mcall c.C nm fa fs) (m_mcall nm ma ms):=fun st sc lay x L h=>vCall_of (P:=Xv c sc lay st _) h fun fx xs ks pos h=>meth_e (P:=fun fx=>Xv c sc lay st _ (.Call fx xs ks pos)) h fun y p' h1 h2 h=>andE h fun h0 h=>v0K h0 (fun ks=>Xv c sc lay st _ (.Call (.Attribute y (Str.ofString nm) p') xs ks pos))
 (andE h fun h3 h=>andE h fun h4 h5=>argsOk_e h5 fun hl hx=>plain (fun _ _=>rfl) fun p {_ _} e {Q} k=>bindE e fun r1 e1 e=>bindE e fun f e2 e=>bindE e fun r2 e3 e=>bindE e2 fun cl e4 e5=>mcall_rule h2 hl hx h1 fun pl=>(ho L h3).val p e1 fun w g1 s1 l1 o1 v1=>method_ok o1 v1 e4 e5
  (callee (mth_keep e5) (inK o1) hx ((ha L h4) (p.to l1 o1) e3 fun ys g2 s2 l2 o2 vs=>⟨inK o2,c.calls.fn c.room o2 (.cons (v1.vr1.mono _ l2.lv) vs) e (k.up (l1.trans l2)).sd⟩)))
theorem blt_call {id:String} {first:List Value} {xs:List Expr} (hs:∀ y∈x::xs,isStarred y=false) (h:wpAny T.M A (spliced (backTo pos (starEach (x::xs) env))) (fun vs s₁=>wpAny T.M A (call (.builtin id) (first++vs)) Q E s₁) E s):wpAny T.M A (callWith pos (.builtin id) first (backTo pos (starEach (x::xs) env)) []) Q E s:=by
 refine callWith_builtin (plain_any hs) ?_
 rw [starEach_cons (hs x (.head _))] at h ⊢
 exact evalArgs_plain h
theorem type_call {id:String} {xs:List Expr} (hs:∀ y∈x::xs,isStarred y=false) (h:wpAny T.M A (spliced (backTo pos (starEach (x::xs) env))) (fun vs s₁=>wpAny T.M A (call (.type id) vs) Q E s₁) E s):wpAny T.M A (callWith pos (.type id) [] (backTo pos (starEach (x::xs) env)) []) Q E s:=
 PyProof.Rows.callWith_type1 h (starEach_cons (hs x (.head _))) (plain_any fun y hy=>hs y (.tail _ hy))
theorem star1 (h:isStarred x=false):∀ y∈[x],isStarred y=false:=fun y hy=>List.mem_singleton.mp hy▸h
theorem star2 (h:isStarred x=false) (h2:isStarred z=false):∀ y∈[x,z],isStarred y=false:=fun y hy=>(List.mem_cons.mp hy).elim (fun e=>e▸h) fun hy=>star1 h2 y hy
theorem bname {n:String} {id:Str} {xs:List Expr} {p':Pos} {va:Value} (hid:isBlt sc id n=true) (e:bltVal n=va) (h:wpAny T.M A (callWith pos va [] (backTo pos (starEach xs p.env)) []) Q E p.s):wpAny T.M A (eval (.Call (.Name id p') xs [] pos) p.env) Q E p.s:=
 wpAny_Call_NameR (name_blt hid p.eo p.o (e▸h))
theorem px_b1 {o:B1} (ha:PX c fa ma):PX c (f_b1 o fa) (m_b1 o ma):=fun st sc lay x L h=>vCall_of (P:=Xv c sc lay st _) h fun fx xs ks pos h=>vNm_of (P:=fun fx=>Xv c sc lay st _ (.Call fx xs ks pos)) h fun id p' h=>andE h fun h0 h=>v0K h0 (fun ks=>Xv c sc lay st _ (.Call (.Name id p') xs ks pos))
 (andE h fun h1 h=>v1_of (P:=fun xs=>Xv c sc lay st _ (.Call (.Name id p') xs [] pos)) h fun y h=>andE h fun h2 h3=>plain (fun _ _=>rfl) fun p {_ _} e {Q} k=>bindE e fun r1 e1 e=>by
  have args:wpAny T.M c.A (spliced (backTo pos (starEach [y] p.env))) (fun vs s₁=>wpAny T.M c.A (call o.val vs) Q noE s₁) noE p.s:=
   items_cons (notE h2) ((ha L h3).val p e1 fun w g1 s1 l1 o1 v1=>wpAny_items_nil (b1V_ok o1 v1 e (k.up l1)))
  cases o with
  | dictS=>exact bname h1 rfl (type_call (star1 (notE h2)) args)
  | len=>exact bname h1 rfl (blt_call (star1 (notE h2)) args)
  | abs=>exact bname h1 rfl (blt_call (star1 (notE h2)) args)
  | repr=>exact bname h1 rfl (blt_call (star1 (notE h2)) args))
theorem min_int {i j:Int} {t u:Tok} (b:Bool):∃ t',(if j < i then Value.int j u else .int i t) = .int (if j < i then j else i) t':=by
 by_cases h:j < i
 ·exact ⟨u,by rw [if_pos h,if_pos h]⟩
 ·exact ⟨t,by rw [if_neg h,if_neg h]⟩
theorem px_min (ha:PX c fa ma) (hb:PX c fb mb):PX c (f_min fa fb) (m_min ma mb):=fun st sc lay x L h=>vCall_of (P:=Xv c sc lay st _) h fun fx xs ks pos h=>vNm_of (P:=fun fx=>Xv c sc lay st _ (.Call fx xs ks pos)) h fun id p' h=>andE h fun h0 h=>v0K h0 (fun ks=>Xv c sc lay st _ (.Call (.Name id p') xs ks pos))
 (andE h fun h1 h=>v2_of (P:=fun xs=>Xv c sc lay st _ (.Call (.Name id p') xs [] pos)) h fun y z h=>andE h fun h2 h=>andE h fun h3 h=>andE h fun h4 h5=>plain (fun _ _=>rfl) fun p {_ _} e {Q} k=>bindE e fun r1 e1 e=>bindE e fun r2 e2 e=>bindE e fun i e3 e=>mapE e fun j e4 d=>bname h1 rfl (blt_call (star2 (notE h2) (notE h3))
  (items_cons (notE h2) ((ha L h4).val p e1 fun w g1 s1 l1 o1 v1=>items_cons (notE h3) ((hb L h5).val (p.to l1 o1) e2 fun w' g2 s2 l2 o2 v2=>wpAny_items_nil
   (VX.int (int_e e3 fun e3=>e3▸v1) fun t c1=>VX.int (int_e e4 fun e4=>e4▸v2) fun t' c2=>by
    rw [c1,c2]
    refine min_two_ints c.room.handled fun h' tk kp=>?_
    obtain ⟨t'',c3⟩:=min_int (i:=i) (j:=j) (t:=t) (u:=t') true
    rw [c3]
    exact ((k.up (l1.trans l2)).pr d) _ _ _ .rf (o2.keeps kp) (.of fun _ k=>k _ rfl)))))))
end
section
variable {T:Tp} {c:Cf T} {sc:Scope} {lay:Lay} {p:Pt T sc lay} {st su:Bool} {v u r:V} {H H' H1 H2:Hp} {x y z:Expr} {q:Prop} {Q:Value→Shared→Prop} {R:Bool→Shared→Prop} {f fa fb ft fl fh:FE} {ma mb mt ml mh:ME} {fs:FEs} {ms:MEs} {pos:Pos} {g g':G} {s s':Shared} {A:Around} {env:Env} {E:Value→Shared→Prop} {a d:Addr} {od ob:Obj} {w:Value}
theorem ty_cls {c:Cls} : .cls c∈tyList:=List.mem_append_right _ (List.mem_map_of_mem c.mem)
theorem nm_k {f:Str→Bool} (h:vNm x (fun id _=>f id)=true) (k:∀ id p,f id=true→wpAny T.M A (eval (.Name id p) env) Q E s):wpAny T.M A (eval x env) Q E s:=vNm_of (P:=fun x=>wpAny T.M A (eval x env) Q E s) h k
theorem ty_ok {t:Ty} (h:t.ok sc x=true) (o:Ok T g H s) (eo:EnvOk sc env) (k:∀ v s',Ok T g H s'→TyAt t v s'.heap→Q v s'):wpAny T.M A (eval x env) Q E s:=by
 cases t with
 | boolInt=>
  exact vTp_of (P:=fun x=>wpAny T.M A (eval x env) Q E s) h fun es n p h=>v2_of (P:=fun es=>wpAny T.M A (eval (.Tuple es n p) env) Q E s) h fun a b h=>andE h fun h1 h2=>vNm_of (P:=fun a=>wpAny T.M A (eval (.Tuple [a,b] n p) env) Q E s) h1 fun i1 p1 h1=>
   vNm_of (P:=fun b=>wpAny T.M A (eval (.Tuple [.Name i1 p1,b] n p) env) Q E s) h2 fun i2 p2 h2=>wpAny_Tuple (items_cons rfl (name_blt h1 eo o (items_cons rfl (name_blt h2 eo o (wpAny_items_nil ⟨by rw [sizeLine_eq]; decide,k _ _ (o.push _) (.inr ⟨rfl,_,_,_,rfl,get_push rfl⟩)⟩)))))
 | cls c=>exact nm_k h fun id p h=>name_glob h eo o (k _ s o (.inl ⟨ty_cls,rfl⟩))
 | «macro»=>exact nm_k h fun id p h=>name_glob h eo o (k _ s o (.inl ⟨List.mem_of_getElem? (i:=0) rfl,rfl⟩))
 | tuple=>exact nm_k h fun id p h=>name_blt h eo o (k _ s o (.inl ⟨List.mem_of_getElem? (i:=1) rfl,rfl⟩))
 | str=>exact nm_k h fun id p h=>name_blt h eo o (k _ s o (.inl ⟨List.mem_of_getElem? (i:=2) rfl,rfl⟩))
 | bool=>exact nm_k h fun id p h=>name_blt h eo o (k _ s o (.inl ⟨List.mem_of_getElem? (i:=3) rfl,rfl⟩))
 | int=>exact nm_k h fun id p h=>name_blt h eo o (k _ s o (.inl ⟨List.mem_of_getElem? (i:=4) rfl,rfl⟩))
theorem px_isI {t:Ty} (ha:PX c fa ma):PX c (f_isI fa t) (m_isI ma t):=fun st sc lay x L h=>vCall_of (P:=Xv c sc lay st _) h fun fx xs ks pos h=>vNm_of (P:=fun fx=>Xv c sc lay st _ (.Call fx xs ks pos)) h fun id p' h=>andE h fun h0 h=>v0K h0 (fun ks=>Xv c sc lay st _ (.Call (.Name id p') xs ks pos))
 (andE h fun h1 h=>v2_of (P:=fun xs=>Xv c sc lay st _ (.Call (.Name id p') xs [] pos)) h fun y z h=>andE h fun h2 h=>andE h fun h3 h=>andE h fun h4 h5=>plain (fun _ _=>rfl) fun p {_ _} e {Q} k=>bindE e fun r1 e1 e=>mapE e fun b e2 d=>bname h1 rfl (blt_call (star2 (notE h2) (notE h3))
  (items_cons (notE h2) ((ha L h4).val p e1 fun w g1 s1 l1 o1 v1=>items_cons (notE h3) (ty_ok h5 o1 p.eo fun tv s2 o2 ht=>wpAny_items_nil (isI_ok o2 v1 e2 ht ((k.up l1).pr d)))))))
theorem lst_at (o:Ok T g H s) (h:VX st v g w) (e:isLst H v=true) (k:∀ a vs n,w = .ref a→s.heap.get? a=some (lstObj vs n)→q):q:=by
 cases v with
 | ref d=>exact (Option.isSome_iff_exists.mp e).elim fun xs e=>bindE e fun ao e1 e2=>list_e e2 fun e2=>lst_ours o h (e2▸e1) fun a vs n c _ hl _ _=>k a vs n c hl
 | _=>exact nomatch e
theorem px_app (ha:PX c fa ma) (hb:PX c fb mb):PX c (f_app fa fb) (m_app ma mb):=fun st sc lay x L h=>vCall_of (P:=Xv c sc lay st _) h fun fx xs ks pos h=>meth_e (P:=fun fx=>Xv c sc lay st _ (.Call fx xs ks pos)) h fun y p' h1 h2 h=>andE h fun h0 h=>v0K h0 (fun ks=>Xv c sc lay st _ (.Call (.Attribute y (Str.ofString "append") p') xs ks pos))
 (v1_of (P:=fun xs=>Xv c sc lay st _ (.Call (.Attribute y (Str.ofString "append") p') xs [] pos)) h fun z h=>andE h fun h3 h=>andE h fun h4 h5=>plain (fun _ _=>rfl) fun p {_ _} e {Q} k=>bindE e fun r1 e1 e=>ifE e fun hl e=>bindE e fun r2 e2 e=>mapE e fun H3 e3 d=>mcall_rule h2 (show 1 < 15 by decide) (star1 (notE h3)) h1 fun pl=>
  (ha L h4).val p e1 fun w g1 s1 l1 o1 v1=>lst_at o1 v1 hl fun a vs n c1 ho=>by
   have:=blt_call (T:=T) (A:=c.A) (E:=noE) (Q:=Q) (id := "list.append") (first:=[w]) (pos:=pos) (env:=p.env) (s:=s1) (star1 (notE h3)) (items_cons (notE h3) ((hb L h5).val (p.to l1 o1) e2 fun w' g2 s2 l2 o2 v2=>wpAny_items_nil (appV_ok o2 (v1.mono l2) v2.vr1 e3 ((k.up (l1.trans l2)).pr d))))
   rw [c1] at this ⊢
   exact getMethod_list_append ho rfl rfl this)
theorem pop_e (h:popV H v=some (r,H')) (k:∀ d xs,v = .ref d→H[d]?=some (.list (r::xs))→H'=H.set d (.list xs)→q):q:=by
 cases v with
 | ref d=>
  exact bindE h fun ys e0 h=>bindE e0 fun ao e1 e2=>list_e e2 fun e2=>by
   cases ys with
   | nil=>exact nsome h
   | cons y ys=>cases h; exact k d ys rfl (e2▸e1) rfl
 | _=>exact nsome h
theorem idx0 (n:Nat):seqIndex? 0 (n+1)=some 0:=by unfold seqIndex?; simp
theorem pop_ok {env':Env} (o:Ok T g H s) (va:VX st v g w) (e:popV H v=some (r,H')) (hy:constE (.int 0) y=true) (k:Nx T g H' su r Q):∃ a vs n,w = .ref a∧s.heap.get? a=some (lstObj vs n)∧wpAny T.M A (callWith pos (.builtin "list.pop") [w] [(false,eval y env')] []) Q noE s:=
 pop_e e fun d xs c h c2=>lst_ours o (c▸va) h fun a vs n c1 z hl _ _=>by
  refine ⟨a,vs,n,c1,hl,?_⟩
  subst c2
  rw [c1]
  refine P.pop_at_list (k_ok (T:=T) (st:=true) hy o fun i g1 s1 l1 o1 v1=>VX.int v1 fun t ci=>?_)
  have zz:=(l1 a (by rw [z]; rfl)).trans z
  refine o1.mem h zz fun ob hh rr _=>OR.listE rr fun vs' n' e2 rs l=>rs.e fun w0 ws e3 r0 rs=>?_
  have hl':s1.heap.get? a=some (lstObj (w0::ws) n'):=e3▸e2▸hh
  obtain ⟨m,h3⟩:=upd_list (f:=fun xs=>xs.eraseIdxIfInBounds 0) (us:=ws) hl' (by simp)
  refine ⟨(w0::ws).toArray,n',0,t,0,w0,?_,ci,hl',by decide,by rw [List.size_toArray]; exact idx0 _,rfl,(k.up l1).turn o1 zz (Heap.SameBut.update ..) h3 (.list rs (Nat.le_of_succ_le l)) r0⟩
  rw [List.size_toArray,show (w0::ws).length=xs.length+1 from congrArg (·+1) rs.length]
  exact Nat.le_of_add_right_le (le_line l)
theorem px_pop (ha:PX c fa ma):PX c (f_pop fa) (m_pop ma):=fun st sc lay x L h=>vCall_of (P:=Xv c sc lay st _) h fun fx xs ks pos h=>meth_e (P:=fun fx=>Xv c sc lay st _ (.Call fx xs ks pos)) h fun y p' h1 h2 h=>andE h fun h0 h=>v0K h0 (fun ks=>Xv c sc lay st _ (.Call (.Attribute y (Str.ofString "pop") p') xs ks pos))
 (v1_of (P:=fun xs=>Xv c sc lay st _ (.Call (.Attribute y (Str.ofString "pop") p') xs [] pos)) h fun z h=>andE h fun h3 h=>andE h fun h4 h5=>plain (fun _ _=>rfl) fun p {_ _} e {Q} k=>bindE e fun r1 e1 e=>mcall_rule h2 (show 1 < 15 by decide) (star1 (notE h3)) h1 fun pl=>
  (ha L h4).val p e1 fun w g1 s1 l1 o1 v1=>by
   obtain ⟨a,vs,n,c1,ho,this⟩:=pop_ok (pos:=pos) (A:=c.A) (env':=p.env) o1 v1 e h5 (k.up l1)
   rw [c1] at this ⊢
   refine getMethod_pop_N (news_one ho) (.head _) ?_ rfl rfl
   rw [starEach_cons (notE h3)]
   exact this)
end
section
variable {T:Tp} {c:Cf T} {sc:Scope} {lay:Lay} {p:Pt T sc lay} {st su:Bool} {v u r:V} {H H' H1 H2:Hp} {x y z:Expr} {q:Prop} {Q:Value→Shared→Prop} {R:Bool→Shared→Prop} {f fa fb ft fl fh:FE} {ma mb mt ml mh:ME} {fs:FEs} {ms:MEs} {pos:Pos} {g g':G} {s s':Shared} {A:Around} {env:Env} {E:Value→Shared→Prop} {a d:Addr} {od ob:Obj} {w:Value}
theorem px_attr {nm:String} (ha:PX c fa ma):PX c (f_attr fa nm) (m_attr ma nm):=fun st sc lay x L h=>vAt_of (P:=Xv c sc lay st _) h fun o n pos h=>andE h fun h1 h=>andE h fun h2 h3=>beqE (fun n=>Xv c sc lay st _ (.Attribute o n pos)) (beq_iff_eq.mpr (beq_iff_eq.mp h1).symm)
 (plain (fun _ _=>rfl) fun p {_ _} e {Q} k=>bindE e fun r1 e1 e=>mapE e fun w e2 d=>attr_rule h2 ((ha L h3).val p e1 fun y g1 s1 l1 o1 v1=>attrV_ok o1 v1 e2 ((k.up l1).pr d)))
theorem sub_eq {w1 w2:Value} (h:ixOk z=true):subscripted z false w1 w2=operate [w1,w2] (getItem w1 w2):=
 orE h (fun h=>vNm_of (P:=fun z=>subscripted z false w1 w2=_) h fun _ _ _=>rfl) fun h=>orE h (fun h=>vK_of (P:=fun z=>subscripted z false w1 w2=_) h fun _ _ _ _=>rfl) fun h=>orE h (fun h=>vUn_of (P:=fun z=>subscripted z false w1 w2=_) h fun _ _ _ _=>rfl)
  fun h=>orE h (fun h=>vBin_of (P:=fun z=>subscripted z false w1 w2=_) h fun _ _ _ _ _=>rfl) fun h=>orE h (fun h=>vCall_of (P:=fun z=>subscripted z false w1 w2=_) h fun _ _ _ _ _=>rfl) fun h=>orE h (fun h=>vAt_of (P:=fun z=>subscripted z false w1 w2=_) h fun _ _ _ _=>rfl)
  fun h=>vSub_of (P:=fun z=>subscripted z false w1 w2=_) h fun _ _ _ _=>rfl
theorem px_idx (ha:PX c fa ma) (hb:PX c fb mb):PX c (f_2 (fun r q=>idxV q.2 r.1 q.1) fa fb) (m_idx ma mb):=fun st sc lay x L h=>vSub_of (P:=Xv c sc lay st _) h fun y z pos h=>andE h fun h1 h=>andE h fun h2 h3=>
 plain (fun _ _=>rfl) fun p {_ _} e {Q} k=>bothE e fun r1 r2 w e1 e2 e3 d=>Subscript_ ((ha L h2).val p e1 fun x g1 s1 l1 o1 v1=>(hb L h3).val (p.to l1 o1) e2 fun y g2 s2 l2 o2 v2=>idxV_ok o2 (v1.mono l2) v2 e3 (sub_eq h1) ((k.up (l1.trans l2)).pr d))
noncomputable def PtOk {T:Tp} (c:Cf T) (sc:Scope) (lay:Lay) (f:FE) (o:Option Expr):Prop:=∀ (p:Pt T sc lay) {v:V} {H':Hp} {Q:Value→Shared→Prop},f p.ρ p.H=some (v,H')→Nx T p.g H' true v Q→wpAny T.M c.A (evalPart o p.env) Q noE p.s
theorem part_ok {e:Mine.E} (hk:e.isK .none=true→fl=f_k .none) (ha:PX c fl ml) (L:LayInj lay) {o:Option Expr} (h:part (ml true sc lay) e o=true):PtOk c sc lay fl o:=by
 cases o with
 | some x=>exact fun p {_ _ _} e k=>wpAny_evalPart_some ((ha L h).val p e k)
 | none=>
  rw [hk h]
  exact fun p {_ _ _} e k=>wpAny_evalPart_none ((k.pr (Option.some.inj e)).of p.o rfl)
theorem isK_e {e:Mine.E} (h:e.isK .none=true):e = .k .none:=vEk_of (P:=fun e=>e = .k .none) h fun v h=>cOf_e (beq_iff_eq.mp h) (fun e _=>congrArg E.k e) (fun _ _ e=>nomatch e) (fun _ _ e=>nomatch e) fun _ _ e=>nomatch e
theorem slice_new {T:Tp} {g:G} {H:Hp} {s:Shared} (o:Ok T g H s) (i j k:Value):Ok T g H { s with heap:=s.heap.push { cls := .type "slice",data := .fields #[i,j,k] } }:=o.push _
theorem px_sl {lo hi:Mine.E} (k1:lo.isK .none=true→fl=f_k .none) (k2:hi.isK .none=true→fh=f_k .none) (ha:PX c fa ma) (hl:PX c fl ml) (hh:PX c fh mh):PX c (f_sl fa fl fh) (m_sl lo hi ma ml mh):=fun st sc lay x L h=>vSub_of (P:=Xv c sc lay st _) h fun y z pos h=>vSl_of (P:=fun z=>Xv c sc lay st _ (.Subscript y z pos)) h fun l u s p' h=>andE h fun h1 h=>
 vN_of (O:=fun s=>Xv c sc lay st _ (.Subscript y (.Slice l u s p') pos)) h1 (andE h fun h2 h=>andE h fun h3 h4=>plain (fun _ _=>rfl) fun p {_ _} e {Q} k=>bindE e fun r1 e1 e=>bindE e fun r2 e2 e=>bindE e fun r3 e3 e=>mapE e fun w e4 d=>
  Subscript_ ((ha L h2).val p e1 fun x g1 s1 l1 o1 v1=>wpAny_Slice (part_ok k1 hl L h3 (p.to l1 o1) e2 fun i g2 s2 l2 o2 v2=>part_ok k2 hh L h4 ((p.to l1 o1).to l2 o2) e3 fun j g3 s3 l3 o3 v3=>wpAny_evalPart_none
   (slV_ok (slice_new o3 _ _ _) ((v1.mono l2).mono l3) (v2.mono l3) v3 e4 (Heap.IsSliceOf.new _ _ _ _) ((k.up (l1.trans (l2.trans l3))).pr d)))))
theorem m1_k (h:isM1 x=true) (o:Ok T g H s) (k:∀ t n,Q (.int (-1) t) { s with toks:=n }):wpAny T.M A (eval x env) Q E s:=vUn_of (P:=fun x=>wpAny T.M A (eval x env) Q E s) h fun op y p h=>andE h fun h1 h=>beqE (fun op=>wpAny T.M A (eval (.UnaryOp op y p) env) Q E s) (beq_iff_eq.mpr (beq_iff_eq.mp h1).symm)
 (vK_of (P:=fun y=>wpAny T.M A (eval (.UnaryOp .USub y p) env) Q E s) h fun c n p' h=>beqE (fun c=>wpAny T.M A (eval (.UnaryOp .USub (.Constant c n p') p) env) Q E s) (beq_iff_eq.mpr (beq_iff_eq.mp h).symm) (UnaryOp_ (wpAny_Constant_int (neg_int (k _ _)))))
theorem px_rsl (ha:PX c fa ma) (hl:PX c fl ml):PX c (f_rsl fa fl) (m_rsl ma ml):=fun st sc lay x L h=>vSub_of (P:=Xv c sc lay st _) h fun y z pos h=>vSl_of (P:=fun z=>Xv c sc lay st _ (.Subscript y z pos)) h fun l u s p' h=>andE h fun h1 h=>
 vN_of (O:=fun u=>Xv c sc lay st _ (.Subscript y (.Slice l u s p') pos)) h1 (andE h fun h2 h=>vO_of (O:=fun s=>Xv c sc lay st _ (.Subscript y (.Slice l none s p') pos)) h2 fun se h2=>andE h fun h3 h4=>vO_of (O:=fun l=>Xv c sc lay st _ (.Subscript y (.Slice l none (some se) p') pos)) h4 fun le h4=>
  plain (fun _ _=>rfl) fun p {_ _} e {Q} k=>bindE e fun r1 e1 e=>bindE e fun r2 e2 e=>mapE e fun w e4 d=>
  Subscript_ ((ha L h3).val p e1 fun x g1 s1 l1 o1 v1=>wpAny_Slice (wpAny_evalPart_some ((hl L h4).val (p.to l1 o1) e2 fun i g2 s2 l2 o2 v2=>wpAny_evalPart_none (wpAny_evalPart_some (m1_k h2 o2 fun t n=>
   rslV_ok (slice_new (ok_toks o2) _ _ _) (v1.mono l2) v2 e4 (Heap.IsSliceOf.new _ _ _ _) ((k.up (l1.trans l2)).pr d)))))))
theorem small_len {n m:Nat} (h:n < 1000) (e:m=n):m≤room+2:=e▸Nat.le_of_lt (Nat.lt_of_lt_of_le h (by decide))
theorem Nx.mk' {heap:Bool} {vs:List V} {ys:List Value} {n:Nat} (k:Nx T g H' st v Q) (d:mk' heap (vs,H)=(v,H')) (o:Ok T g H s) (r:VRs vs g ys) (l:vs.length≤room+2):Q (.ref s.heap.objs.size) { s with heap:=s.heap.push (lstObj ys 0),toks:=n }:=by
 cases heap with
 | true=>exact (k.pr d).newO o rfl fun g' lv => .list (VRs.mono _ lv r) l
 | false=>exact (k.pr d).lst o r l
theorem px_list {heap:Bool} (ha:PXs c fs ms) (hn:LenOk fs ms):PX c (f_list heap fs) (m_list ms):=fun st sc lay x L h=>vLs_of (P:=Xv c sc lay st _) h fun xs pos h=>andE h fun h1 h2=>plain (fun _ _=>rfl) fun p {_ _} e {Q} k=>mapE e fun r1 e1 d=>
 have l:=small_len (of_decide_eq_true h1) (hn h2 e1)
 wpAny_List ((ha L h2) p e1 fun ys g1 s1 l1 o1 vs=>⟨by rw [vs.length]; exact Nat.le_of_add_right_le (le_line l),(k.up l1).mk' d o1 vs l⟩)
theorem px_tup (ha:PXs c fs ms) (hn:LenOk fs ms):PX c (f_tup fs) (m_tup ms):=fun st sc lay x L h=>vTp_of (P:=Xv c sc lay st _) h fun xs n pos h=>andE h fun h1 h2=>plain (fun _ _=>rfl) fun p {_ _} e {Q} k=>mapE e fun r1 e1 d=>
 have l:=small_len (of_decide_eq_true h1) (hn h2 e1)
 wpAny_Tuple ((ha L h2) p e1 fun ys g1 s1 l1 o1 vs=>⟨by rw [vs.length]; exact Nat.le_of_add_right_le (le_line l),((k.up l1).pr d).tup o1 vs l⟩)
theorem dict_new {κ:Type} [DecidableEq κ] (knd:KeyKind T.prog T.w κ):Obj.IsDictOf knd { cls := .type "dict",data := .dict #[] } []:=by
 obtain ⟨o,h1,h2⟩:=Heap.dictOf_iff.mp (Heap.DictOf.new (knd:=knd) { objs:=#[] })
 cases (Heap.get?_push_size _ rfl).symm.trans h1
 exact h2
theorem px_dict0 {isInts:Bool}:PX c (f_dict0 isInts) m_dict0:=fun st sc lay x L h=>vDict_of (P:=Xv c sc lay st _) h fun ks vs pos h=>andE h fun h1 h2=>v0K h1 (fun ks=>Xv c sc lay st _ (.Dict ks vs pos)) (v0K h2 (fun vs=>Xv c sc lay st _ (.Dict [] vs pos)) (plain (fun _ _=>rfl) fun p {_ _} e {Q} k=>wpAny_Dict_empty
 ((k.pr (Option.some.inj e)).newO p.o rfl fun g' _=>by cases isInts <;> exact ⟨Nat.zero_le _,fun _ k=>k [] (dict_new _) .nil⟩)))
theorem dct_e (h:isDct H v=true) (k:∀ d es,v = .ref d→H[d]?=some (.dictS es)→q) (l:∀ d es,v = .ref d→H[d]?=some (.dictI es)→q):q:=by
 cases v with
 | ref d=>
  refine (Option.isSome_iff_exists.mp h).elim fun xs e=>bindE e fun ao e1 e2=>?_
  cases ao with
  | dictS es=>exact k d es rfl e1
  | dictI es=>exact l d es rfl e1
  | _=>exact nsome e2
 | _=>exact nomatch h
theorem dct_at (o:Ok T g H s) (h:VX st v g w) (e:isDct H v=true) (k:∀ a ob,w = .ref a→s.heap.get? a=some ob→(∃ es,Obj.IsDictOf (PySem.strKind T.prog T.w) ob es)∨(∃ es,Obj.IsDictOf (PySem.intKind T.prog T.w) ob es)→q):q:=
 dct_e e (fun d es c e=>dS_at o (c▸h) e fun a kvs c _ D _ _ _=>(Heap.dictOf_iff.mp D).elim fun ob hh=>k a ob c hh.1 (.inl ⟨kvs,hh.2⟩)) fun d es c e=>dI_at o (c▸h) e fun a kvs c _ D _ _ _=>(Heap.dictOf_iff.mp D).elim fun ob hh=>k a ob c hh.1 (.inr ⟨kvs,hh.2⟩)
theorem px_get (ha:PX c fa ma) (hb:PX c fb mb):PX c (f_get fa fb) (m_get ma mb):=fun st sc lay x L h=>vCall_of (P:=Xv c sc lay st _) h fun fx xs ks pos h=>meth_e (P:=fun fx=>Xv c sc lay st _ (.Call fx xs ks pos)) h fun y p' h1 h2 h=>andE h fun h0 h=>v0K h0 (fun ks=>Xv c sc lay st _ (.Call (.Attribute y (Str.ofString "get") p') xs ks pos))
 (v2_of (P:=fun xs=>Xv c sc lay st _ (.Call (.Attribute y (Str.ofString "get") p') xs [] pos)) h fun z t h=>andE h fun h3 h=>andE h fun h4 h=>andE h fun h5 h=>andE h fun h6 h7=>plain (fun _ _=>rfl) fun p {_ _} e {Q} k=>bindE e fun r1 e1 e=>ifE e fun hd e=>bindE e fun r2 e2 e=>mapE e fun w0 e3 d=>mcall_rule h2 (show 2 < 15 by decide) (star2 (notE h3) (notE h4)) h1 fun pl=>
  (ha L h5).val p e1 fun w g1 s1 l1 o1 v1=>dct_at o1 v1 hd fun a ob c1 ho hk=>by
   have rest:=blt_call (T:=T) (A:=c.A) (E:=noE) (Q:=Q) (id := "dict.get") (first:=[w]) (pos:=pos) (env:=p.env) (s:=s1) (star2 (notE h3) (notE h4)) (items_cons (notE h3) ((hb L h6).val (p.to l1 o1) e2 fun w' g2 s2 l2 o2 v2=>items_cons (notE h4) (k_ok (st:=true) h7 o2 fun w'' g3 s3 l3 o3 v3=>wpAny_items_nil (by
    rw [v3.none]
    exact getV_ok o3 ((v1.mono l2).mono l3) (v2.mono l3) e3 ((k.up (l1.trans (l2.trans l3))).pr d)))))
   rw [c1] at rest ⊢
   rcases hk with ⟨es,hk⟩ | ⟨es,hk⟩
   ·exact kdg_method (news_one ho) (.head _) hk rest
   ·exact kdg_method (news_one ho) (.head _) hk rest)
end
structure Turns (T:Tp) (A:Around) (target:Expr) (I:Addr) (fp wr:List Addr) (n:Nat) (P:Nat→Value→Heap→Prop) (St:Nat→Heap→Prop):Prop where
 sub:∀ b∈wr,b∈fp
 frame:∀ i h h',St i h→(∀ b∈fp,∀ o,h.get? b=some o→h'.get? b=some o)→St i h'
 live:∀ i h,St i h→∀ b∈fp,∃ o,h.get? b=some o
 item:∀ i (s:Shared) (Q:Value→Shared→Prop) (E:Value→Shared→Prop),i < n→St i s.heap →
  (∀ v h' tk,P i v h'→St (i+1) h'→(∀ b o,b∉wr→s.heap.get? b=some o→h'.get? b=some o)→Q v { s with heap:=h',toks:=tk }) →
  wpAny T.M A (pyNext (.ref I)) (fun r s₁=>match r with | none=>False | some v=>wpAny T.M A (letOwnedTupleGo target (.ref I) v) (fun _ s₂=>Q v s₂) E s₁) E s
 done:∀ (s:Shared) (Q:Option Value→Shared→Prop) (E:Value→Shared→Prop),St n s.heap →
  (∀ h' tk,(∀ b o,b∉wr→s.heap.get? b=some o→h'.get? b=some o)→Q none { s with heap:=h',toks:=tk })→wpAny T.M A (pyNext (.ref I)) Q E s
 self:∀ i (s:Shared) (Q:Value→Shared→Prop) (E:Value→Shared→Prop),St i s.heap→Q (.ref I) s→wpAny T.M A (pyIter (.ref I)) Q E s
noncomputable def isTg (x:Expr):Bool:=vNm x (fun _ _=>true)||vTp x fun _ _ _=>true
noncomputable def ItemP (sole:Bool) (g:G) (x:V) (v:Value) (h:Heap):Prop:=VR x g v∨(sole=false∧∃ T vals ys,v = .ref T∧x = .tup ys∧h.IsTuple T vals∧VRs ys g vals.toList)
noncomputable abbrev TurnP (sole:Bool) (g:G) (xs:List V) (i:Nat) (v:Value) (h:Heap):Prop:=∃ x,xs[i]?=some x∧ItemP sole g x v h
noncomputable def IterAt (T:Tp) (A:Around) (sole:Bool) (target:Expr) (xs:List V) (g:G) (it:Value) (s:Shared):Prop:=
 ∀ q:Prop,(∀ (I:Addr) (fr fp wr:List Addr) (St:Nat→Heap→Prop),it = .ref I→Turns T A target I fp wr xs.length (TurnP sole g xs) St→St 0 s.heap→(∀ b∈wr,b∈fr)→(∀ b∈fr,g b = .no)→(∀ b∈fp,b∈fr∨∃ o,g b = .fix o)→q)→q
section
variable {T:Tp} {g g':G} {H H':Hp} {s s':Shared} {a b d:Addr} {q:Prop} {st su:Bool} {v u:V} {x y z:Value} {A:Around} {E:Value→Shared→Prop} {Q:Value→Shared→Prop} {sole:Bool} {target:Expr} {xs ys:List V} {vs us:List Value}
theorem letOwned {I:Addr} {Q:Unit→Shared→Prop} (ht:isTg target=true) (h:∀ T',wpAny T.M A (letOwnedTupleGo target (.ref I) (.ref T')) Q E s) (hQ:Q () s):wpAny T.M A (letOwnedTupleGo target (.ref I) x) Q E s:=by
 refine orE ht (fun h=>vNm_of (P:=fun t=>wpAny T.M A (letOwnedTupleGo t (.ref I) x) Q E s) h fun _ _ _=>wpAny_pure hQ) fun ht=>?_
 cases x with
 | ref T'=>exact h T'
 | _=>exact vTp_of (P:=fun t=>wpAny T.M A (letOwnedTupleGo t (.ref I) _) Q E s) ht fun _ _ _ _=>wpAny_pure hQ
theorem letOwned_list {I l:Addr} {i:Nat} {Q:Unit→Shared→Prop} (ht:isTg target=true) (hit:s.heap.IsListIter I l i) (hQ:Q () s):wpAny T.M A (letOwnedTupleGo target (.ref I) x) Q E s:=
 letOwned ht (fun T'=>orE ht (fun h=>vNm_of (P:=fun t=>wpAny T.M A (letOwnedTupleGo t (.ref I) (.ref T')) Q E s) h fun _ _ _=>wpAny_pure hQ) fun h=>vTp_of (P:=fun t=>wpAny T.M A (letOwnedTupleGo t (.ref I) (.ref T')) Q E s) h fun _ _ _ _=>wpAny_letOwnedTupleGo_listiter hit hQ) hQ
theorem letOwned_tuple {I l:Addr} {i:Nat} {Q:Unit→Shared→Prop} (ht:isTg target=true) (hit:s.heap.IsTupleIter I l i) (hQ:Q () s):wpAny T.M A (letOwnedTupleGo target (.ref I) x) Q E s:=
 letOwned ht (fun T'=>orE ht (fun h=>vNm_of (P:=fun t=>wpAny T.M A (letOwnedTupleGo t (.ref I) (.ref T')) Q E s) h fun _ _ _=>wpAny_pure hQ) fun h=>vTp_of (P:=fun t=>wpAny T.M A (letOwnedTupleGo t (.ref I) (.ref T')) Q E s) h fun _ _ _ _=>by
  obtain ⟨o,ho,hc,hd⟩:=hit
  unfold letOwnedTupleGo
  refine wpAny_bind (wpAny_load ho ?_)
  rw [hc,hd]
  exact wpAny_pure hQ) hQ
theorem mem1 {α:Type} {P:α→Prop} {c:α} (h:P c):∀ b∈[c],P b:=fun b hb=>List.mem_singleton.mp hb▸h
theorem mem2 {α:Type} {P:α→Prop} {c e:α} (h:P c) (h2:P e):∀ b∈[c,e],P b:=fun b hb=>(List.mem_cons.mp hb).elim (fun e=>e▸h) fun hb=>mem1 h2 b hb
theorem get_i {α:Type} {xs:List α} {i:Nat} (h:i < xs.length) (k:∀ x,xs[i]?=some x→q):q:=k _ (List.getElem?_eq_getElem h)
theorem seq_item (R:VRs xs g vs) {i:Nat} (hi:i < xs.length) {h:Heap} (k:∀ w,vs[i]?=some w→TurnP sole g xs i w h→q):q:=get_i hi fun x hx=>R.get hx fun w h1 h2=>k w h1 ⟨x,hx,.inl h2⟩
theorem Turns.list (hh:A.handled=none) (ht:isTg target=true) (I ax:Addr) (hne:ax≠I) (R:VRs xs g vs):Turns T A target I [I,ax] [I] xs.length (TurnP sole g xs) (fun i h=>h.IsListIter I ax i∧h.IsList ax vs.toArray) where
 sub:=mem1 (.head _)
 frame:=fun _ _ _ st hk=>⟨st.1.at fun o e=>hk I (.head _) o e,st.2.at fun o e=>hk ax (.tail _ (.head _)) o e⟩
 live:=fun _ _ st=>mem2 (st.1.elim fun o h=>⟨o,h.1⟩) (st.2.elim fun o h=>⟨o,h.1⟩)
 item:=fun i s Q E hi st hQ=>seq_item (sole:=sole) (h:=s.heap) R hi fun w h1 _=>wpAny_pyNext_list_item st.1 st.2 (x:=w) ((arr_get _ _).trans h1) fun h' hit' hs'=>letOwned_list ht hit' (seq_item R hi fun w' h1' P=>by
  cases h1.symm.trans h1'
  exact hQ w h' s.toks P ⟨hit',st.2.extBut hs'.extBut hne⟩ fun b o hb e=>hs'.extBut b o (fun h=>hb (h ▸ .head _)) e)
 done:=fun s Q E st hQ=>wpAny_pyNext_list_end hh st.1 st.2 (by rw [arr_get]; exact List.getElem?_eq_none (Nat.le_of_eq R.length)) fun h' he'=>hQ h' s.toks fun b o hb e=>he' b o (fun h=>hb (h ▸ .head _)) e
 self:=fun _ _ _ _ st hQ=>wpAny_pyIter_listiter st.1 hQ
theorem Turns.tuple (hh:A.handled=none) (ht:isTg target=true) (I ax:Addr) (hne:ax≠I) (R:VRs xs g vs):Turns T A target I [I,ax] [I] xs.length (TurnP sole g xs) (fun i h=>h.IsTupleIter I ax i∧h.IsTuple ax vs.toArray) where
 sub:=mem1 (.head _)
 frame:=fun _ _ _ st hk=>⟨st.1.at fun o e=>hk I (.head _) o e,st.2.at fun o e=>hk ax (.tail _ (.head _)) o e⟩
 live:=fun _ _ st=>mem2 (st.1.elim fun o h=>⟨o,h.1⟩) (st.2.elim fun o h=>⟨o,h.1⟩)
 item:=fun i s Q E hi st hQ=>seq_item (sole:=sole) (h:=s.heap) R hi fun w h1 _=>wpAny_pyNext_tuple_item st.1 st.2 (x:=w) ((arr_get _ _).trans h1) fun h' hit' hs'=>letOwned_tuple ht hit' (seq_item R hi fun w' h1' P=>by
  cases h1.symm.trans h1'
  exact hQ w h' s.toks P ⟨hit',st.2.extBut hs'.extBut hne⟩ fun b o hb e=>hs'.extBut b o (fun h=>hb (h ▸ .head _)) e)
 done:=fun s Q E st hQ=>wpAny_pyNext_tuple_end hh st.1 st.2 (by rw [arr_get]; exact List.getElem?_eq_none (Nat.le_of_eq R.length)) fun h' he'=>hQ h' s.toks fun b o hb e=>he' b o (fun h=>hb (h ▸ .head _)) e
 self:=fun _ _ _ _ st hQ=>wpAny_pyIter_tupleiter st.1 hQ
theorem upTo_len:∀ (a n:Nat),(upTo a n).length=n
 | a,0=>rfl
 | a,n+1=>congrArg (·+1) (upTo_len (a+1) n)
theorem upTo_get:∀ (a n i:Nat),i < n→(upTo a n)[i]?=some (.int ((a:Int)+i))
 | a,n+1,0,h=>rfl
 | a,n+1,i+1,h=>(upTo_get (a+1) n i (Nat.lt_of_succ_lt_succ h)).trans (congrArg (fun i=>some (V.int i)) (by rw [Int.natCast_succ,Int.natCast_succ,Int.add_assoc,Int.add_comm 1]))
theorem downTo_len:∀ (a:Int) (n:Nat),(downTo a n).length=n
 | a,0=>rfl
 | a,n+1=>congrArg (·+1) (downTo_len (a - 1) n)
theorem downTo_get:∀ (a:Int) (n i:Nat),i < n→(downTo a n)[i]?=some (.int (a+(i:Int)*(-1)))
 | a,n+1,0,h=>congrArg (fun i=>some (V.int i)) (by rw [show ((0:Nat):Int)*(-1)=0 from rfl,Int.add_zero])
 | a,n+1,i+1,h=>(downTo_get (a - 1) n i (Nat.lt_of_succ_lt_succ h)).trans (congrArg (fun i=>some (V.int i)) (by rw [Int.natCast_succ,Int.add_mul]; show a + -1+(i:Int)*(-1)=a+((i:Int)*(-1) + -1); rw [Int.add_assoc,Int.add_comm (-1)]))
theorem Turns.range {id:Str} {p:Pos} (hh:A.handled=none) (I:Addr) (a c:Int) (n:Nat) (hl:xs.length=n) (hx:∀ i,i < n→xs[i]?=some (.int (a+(i:Int)*c))):Turns T A (.Name id p) I [I] [I] xs.length (TurnP sole g xs) (fun i h=>IsRangeIter h I (a+(i:Nat)*c) ((n:Int) - (i:Nat)) c) where
 sub:=fun _ hb=>hb
 frame:=fun _ _ _ st hk=>hk I (.head _) _ st
 live:=fun _ _ st=>mem1 ⟨_,st⟩
 item:=fun i s Q E hi st hQ=>by
  subst hl
  exact (Walks.range hh I a c xs.length).item i s _ E hi st fun v h' tk ⟨t,hv⟩ st' hk=>hv▸wpAny_pure (hQ _ h' tk ⟨_,hx i hi,.inl fun _ k=>k t rfl⟩ st' hk)
 done:=fun s Q E st hQ=>by
  subst hl
  exact (Walks.range hh I a c xs.length).done s Q E st hQ
 self:=fun _ _ _ _ st hQ=>wpAny_pyIter_rangeiter st hQ
theorem zipV_len:∀ (xs ys:List V),(zipV xs ys).length=min xs.length ys.length
 | [],ys=>(Nat.zero_min _).symm
 | x::xs,[]=>rfl
 | x::xs,y::ys=>by rw [zipV,List.length_cons,List.length_cons,List.length_cons,zipV_len xs ys,Nat.succ_min_succ]
theorem zipV_get:∀ {xs ys:List V} {i:Nat} {x y:V},xs[i]?=some x→ys[i]?=some y→(zipV xs ys)[i]?=some (.tup [x,y])
 | x::xs,y::ys,0,a,b,h,h'=>by cases h; cases h'; rfl
 | x::xs,y::ys,i+1,a,b,h,h'=>zipV_get (xs:=xs) (ys:=ys) (i:=i) h h'
theorem Turns.zip {elts:List Expr} {m:Nat} {p:Pos} (hh:A.handled=none) (z TI TO i1 i2 l1 l2:Addr) (D:ZipApart z TI TO i1 i2 l1 l2) (R:VRs xs g vs) (R':VRs ys g us) :
  Turns T A (.Tuple elts m p) z [z,TI,TO,i1,i2,l1,l2] [z,TO,i1,i2] (zipV xs ys).length (TurnP false g (zipV xs ys))
   (fun i h=>IsZip h z TI TO .none∧IsPair h TI (.ref i1) (.ref i2)∧(∃ a b,IsPair h TO a b)∧h.IsListIter i1 l1 i∧h.IsListIter i2 l2 i∧h.IsList l1 vs.toArray∧h.IsList l2 us.toArray):=
 have W:=WalksT.zip2 (prog:=T.prog) (w:=T.w) hh z TI TO i1 i2 l1 l2 D vs.toArray us.toArray
 have n1:(zipV xs ys).length=min vs.toArray.size us.toArray.size:=(zipV_len xs ys).trans (congr (congrArg min R.length.symm) R'.length.symm)
 {sub:=W.sub,frame:=W.frame,self:=W.self,
  live:=fun i h st b hb=>by
   obtain ⟨a1,a2,⟨_,_,a3⟩,⟨_,a4,_⟩,⟨_,a5,_⟩,⟨_,a6,_⟩,⟨_,a7,_⟩⟩:=st
   exact (List.mem_cons.mp hb).elim (fun e=>⟨_,e▸a1⟩) fun hb=>(List.mem_cons.mp hb).elim (fun e=>⟨_,e▸a2⟩) fun hb=>(List.mem_cons.mp hb).elim (fun e=>⟨_,e▸a3⟩) fun hb=>(List.mem_cons.mp hb).elim (fun e=>⟨_,e▸a4⟩) fun hb=>(List.mem_cons.mp hb).elim (fun e=>⟨_,e▸a5⟩) (mem2 (P:=fun b=>∃ o,h.get? b=some o) ⟨_,a6⟩ ⟨_,a7⟩ b),
  item:=fun i s Q E hi st hQ=>by
   refine W.item i s _ E (n1▸hi) st fun T' vals h' tk hP _ hT hm hk=>W.go elts m p i T' _ _ E hm fun h'' st' hk'=>?_
   obtain ⟨x,y,hx,hy,rfl⟩:=hP
   rw [zipV_len] at hi
   refine get_i (Nat.lt_of_lt_of_le hi (Nat.min_le_left ..)) fun u h1=>get_i (Nat.lt_of_lt_of_le hi (Nat.min_le_right ..)) fun u' h2=>R.get h1 fun v1 e1 r1=>R'.get h2 fun v2 e2 r2=>?_
   cases ((arr_get _ _).symm.trans hx).symm.trans e1
   cases ((arr_get _ _).symm.trans hy).symm.trans e2
   exact hQ _ h'' tk ⟨_,zipV_get h1 h2,.inr ⟨rfl,T',#[x,y],_,rfl,rfl,hT.at fun o e=>hk' _ _ (W.apart i T' _ hm) e,.cons r1 (.cons r2 .nil)⟩⟩ st' fun b o hb e=>hk' b o hb (hk b o hb e),
  done:=fun s Q E st hQ=>W.done s Q E (n1▸st) hQ }
end
noncomputable abbrev FI:=List Sl→Hp→Option (List V×Hp)
noncomputable def NxI (T:Tp) (A:Around) (g:G) (H:Hp) (sole:Bool) (target:Expr) (xs:List V) (Q:Value→Shared→Prop):Prop:=∀ it g' s',Le g g'→Ok T g' H s'→IterAt T A sole target xs g' it s'→xs.length≤room+2→Q it s'
noncomputable def f_e (a:FE):FI:=fun ρ H=>(a ρ H).bind fun r=>(itE r.1).map fun xs=>(xs,r.2)
noncomputable def f_r1 (a:FE):FI:=fun ρ H=>(a ρ H).bind fun r=>(r.1.int?.bind rng1).map fun xs=>(xs,r.2)
noncomputable def f_r3 (a b:FE):FI:=fun ρ H=>(a ρ H).bind fun r=>(b ρ r.2).bind fun q=>(r.1.int?.bind fun x=>q.1.int?.bind fun y=>rng3 x y).map fun xs=>(xs,q.2)
noncomputable def f_zip (a b:FE):FI:=fun ρ H=>(a ρ H).bind fun r=>(b ρ r.2).bind fun q=>(itZ r.1 q.1).map fun xs=>(xs,q.2)
section
variable {T:Tp} {g g':G} {H H':Hp} {s s':Shared} {a b d:Addr} {q:Prop} {st su:Bool} {v u:V} {x y z:Value} {A:Around} {E:Value→Shared→Prop} {Q:Value→Shared→Prop} {sole:Bool} {target:Expr} {xs ys:List V} {vs us:List Value}
theorem NxI.up (k:NxI T A g H sole target xs Q) (l:Le g g'):NxI T A g' H sole target xs Q:=fun it g'' s l'=>k it g'' s (l.trans l')
theorem NxI.pr (k:NxI T A g H' sole target ys Q) (c:(xs,H)=(ys,H')):NxI T A g H sole target xs Q:=by cases c; exact k
theorem NxI.at2 {k:Nat} {I ax:Addr} {h':Heap} {P:Nat→Heap→Prop} (n:NxI T A g H sole target xs Q) (o:Ok T g H s) (kp:∀ b ob,s.heap.get? b=some ob→h'.get? b=some ob) (hI:g I = .no) (hz:∃ ob,g ax = .fix ob) (t:Turns T A target I [I,ax] [I] xs.length (TurnP sole g xs) P) (st:P 0 h') (l:xs.length≤room+2):Q (.ref I) { s with heap:=h',toks:=k }:=
 n _ _ _ .rf (o.keeps kp) (fun q k=>k I [I] [I,ax] [I] P rfl t st (fun _ h=>h) (mem1 hI) (mem2 (.inl (.head _)) (.inr hz))) l
theorem iter_v (hh:A.handled=none) (ht:isTg target=true) (o:Ok T g H s) (h:VX true v g x) (e:itE v=some xs) (n:NxI T A g H sole target xs Q):wpAny T.M A (pyIter x) Q E s:=by
 cases v with
 | lst ys=>cases e; exact VR.lstE h.vr1 fun a vs m c z R l=>c▸wpAny_pyIter_list (isL (o.fx z)) (n.at2 (T:=T) o (fun _ _ e=>Heap.get?_push_of_some _ e) o.new ⟨_,z⟩ (Turns.list hh ht s.heap.objs.size a (Nat.ne_of_lt (Heap.lt_size (o.fx z))) R) ⟨⟨_,Heap.get?_push_size _ rfl,rfl,rfl⟩,(isL (o.fx z)).push _⟩ l)
 | tup ys=>
  cases e
  exact VR.tupE h.vr1 fun a vs m c z R l=>by
   have t:s.heap.IsTuple a vs.toArray:=⟨_,o.fx z,rfl,m,rfl⟩
   exact c▸wpAny_pyIter_tuple t (n.at2 (T:=T) o (fun _ _ e=>Heap.get?_push_of_some _ e) o.new ⟨_,z⟩ (Turns.tuple hh ht s.heap.objs.size a (Nat.ne_of_lt (Heap.lt_size (o.fx z))) R) ⟨⟨_,Heap.get?_push_size _ rfl,rfl,rfl⟩,t.at fun _ e=>Heap.get?_push_of_some _ e⟩ l)
 | _=>exact nsome e
theorem iter_range {r:Addr} {id:Str} {p:Pos} {a b c:Int} {t u v:Tok} {n:Nat} (hh:A.handled=none) (o:Ok T g H s) (hr:IsRange s.heap r a b c t u v) (hs:Builtin.Range.small a b c=true) (hz:Builtin.Range.rangeSize a b c=(n:Int)) (hl:xs.length=n)
  (hx:∀ i,i < n→xs[i]?=some (.int (a+(i:Int)*c))) (k:NxI T A g H sole (.Name id p) xs Q) (l:xs.length≤room+2):wpAny T.M A (pyIter (.ref r)) Q E s:=by
 refine wpAny_pyIter_range hr hs (k _ _ _ .rf (o.keeps fun _ _ e=>Heap.get?_push_of_some _ e) (fun q k=>k _ [s.heap.objs.size] _ _ _ rfl (Turns.range hh s.heap.objs.size a c n hl hx) ?_ (fun _ h=>h) (mem1 o.new) (mem1 (.inl (.head _)))) l)
 have e:=Heap.get?_push_size s.heap (o:={ cls := .type "range_iterator",data := .fields #[rawInt a,rawInt (Builtin.Range.rangeSize a b c),rawInt c] }) rfl
 refine e.trans (congrArg some ?_)
 rw [hz,show ((0:Nat):Int)*c=0 from Int.zero_mul c,Int.add_zero,show (n:Int) - ((0:Nat):Int)=n from Int.sub_zero _]
theorem fits {a:Int} (h1 : -1≤a) (h2:a≤40000000):Builtin.Range.rangeFitsLong a=true:=Bool.and_eq_true_iff.mpr ⟨decide_eq_true (Int.le_trans (by decide) h1),decide_eq_true (Int.lt_of_le_of_lt h2 (by decide))⟩
theorem size_up {n:Int}:Builtin.Range.rangeSize 0 n 1=(n.toNat:Int):=by
 refine (if_pos (by decide)).trans ?_
 by_cases h:0 < n
 ·rw [if_pos h,Int.ediv_one,Int.sub_zero,Int.sub_add_cancel,Int.toNat_of_nonneg (Int.le_of_lt h)]
 ·rw [if_neg h,Int.toNat_of_nonpos (Int.not_lt.mp h)]; rfl
theorem size_down {a b:Int}:Builtin.Range.rangeSize a b (-1)=((a - b).toNat:Int):=by
 refine (if_neg (by decide)).trans ?_
 by_cases h:a > b
 ·rw [if_pos h,Int.neg_neg,Int.ediv_one,Int.sub_add_cancel,Int.toNat_of_nonneg (Int.sub_nonneg.mpr (Int.le_of_lt h))]
 ·rw [if_neg h,Int.toNat_of_nonpos (Int.sub_nonpos_of_le (Int.not_lt.mp h))]; rfl
end
noncomputable def Xi {T:Tp} (c:Cf T) (sc:Scope) (lay:Lay) (sole:Bool) (f:FI) (x:Expr):Prop:=notSet x=true∧∀ (p:Pt T sc lay) {xs:List V} {H':Hp} {target:Expr} {Q:Value→Shared→Prop},f p.ρ p.H=some (xs,H')→isTg target=true→tgSole target=sole→NxI T c.A p.g H' sole target xs Q →
 wpAny T.M c.A (eval x p.env) (fun v s₁=>wpAny T.M c.A (pyIter v) Q noE s₁) noE p.s
noncomputable def PXi {T:Tp} (c:Cf T) (f:FI) (m:ME):Prop:=∀ ⦃sole:Bool⦄ ⦃sc:Scope⦄ ⦃lay:Lay⦄ ⦃x:Expr⦄,LayInj lay→m sole sc lay x=true→Xi c sc lay sole f x
section
variable {T:Tp} {c:Cf T} {sc:Scope} {lay:Lay} {p:Pt T sc lay} {st su:Bool} {v u r:V} {H H' H1 H2:Hp} {x y z:Expr} {q:Prop} {Q:Value→Shared→Prop} {fa fb:FE} {ma mb:ME} {pos:Pos} {g g':G} {s s':Shared} {A:Around} {env:Env} {E:Value→Shared→Prop} {sole:Bool} {target:Expr} {xs ys:List V} {a b:Int} {w w' w'':Value}
theorem pi_e (ha:PX c fa ma):PXi c (f_e fa) (m_e ma):=fun sole sc lay x L h=>andE h fun h1 h2=>⟨h1,fun p {_ _ _ _} e ht _ k=>bindE e fun r1 e1 e=>mapE e fun xs e2 d=>(ha L h2).val p e1 fun v g1 s1 l1 o1 v1=>iter_v c.room.handled ht o1 v1 e2 ((k.up l1).pr d)⟩
theorem rng1_e {n:Int} (h:rng1 n=some xs) (k : -1≤n→n≤room→xs=upTo 0 n.toNat→q):q:=ifE h fun c e=>k c.1 c.2 (Option.some.inj e).symm
theorem rng3_e (h:rng3 a b=some xs) (k : -1≤a→a≤room → -1≤b→b≤room→xs=downTo a (a - b).toNat→q):q:=ifE h fun c e=>k c.1 c.2.1 c.2.2.1 c.2.2.2 (Option.some.inj e).symm
theorem le_40 {n:Int} (h:n≤room):n≤40000000:=Int.le_trans h (by decide)
theorem small_up {n:Int} (h1 : -1≤n) (h2:n≤room):Builtin.Range.small 0 n 1=true:=by
 unfold Builtin.Range.small
 rw [size_up,fits (by decide) (by decide),fits h1 (le_40 h2),fits (by decide) (by decide),fits (Int.le_trans (by decide) (Int.natCast_nonneg _)) (le_40 (Int.ofNat_le.mpr (Int.toNat_le.mpr h2))),if_pos (by decide),show n+(1 - 1)=n from Int.add_zero n,fits h1 (le_40 h2),Bool.or_true]
 rfl
theorem dn_le (h2:a≤room) (h3 : -1≤b):(a - b).toNat≤room+1:=Int.toNat_le.mpr (Int.le_trans (Int.sub_le_sub h2 h3) (by decide))
theorem small_down (h1 : -1≤a) (h2:a≤room) (h3 : -1≤b) (h4:b≤room):Builtin.Range.small a b (-1)=true:=by
 have h5:((a - b).toNat:Int)≤40000000:=Int.le_trans (Int.ofNat_le.mpr (dn_le h2 h3)) (by decide)
 unfold Builtin.Range.small
 rw [size_down,fits h1 (le_40 h2),fits h3 (le_40 h4),fits (by decide) (by decide),fits (Int.le_trans (by decide) (Int.natCast_nonneg _)) h5,if_neg (by decide),show b+(-1+1)=b from Int.add_zero b,fits h3 (le_40 h4),Bool.or_true]
 rfl
theorem iter_r1 {n:Int} {id:Str} {t:Tok} (hh:A.handled=none) (o:Ok T g H s) (h:rng1 n=some xs) (k:NxI T A g H sole (.Name id pos) xs Q):wpAny T.M A (call (.type "range") [.int n t]) (fun r s₁=>wpAny T.M A (pyIter r) Q E s₁) E s:=
 rng1_e h fun h1 h2 e=>call_range_1 (iter_range hh (o.push _) (Heap.get?_push_size _ rfl) (small_up h1 h2) size_up (e▸upTo_len _ _) (fun i hi=>by rw [e,upTo_get _ _ _ hi,Int.mul_one]; rfl) k (by rw [e,upTo_len]; exact Nat.le_add_right_of_le (Int.toNat_le.mpr h2)))
theorem iter_r3 {id:Str} {t t' t'':Tok} (hh:A.handled=none) (o:Ok T g H s) (h:rng3 a b=some xs) (k:NxI T A g H sole (.Name id pos) xs Q):wpAny T.M A (call (.type "range") [.int a t,.int b t',.int (-1) t'']) (fun r s₁=>wpAny T.M A (pyIter r) Q E s₁) E s:=
 rng3_e h fun h1 h2 h3 h4 e=>call_range_3 (by decide) (iter_range hh (o.push _) (Heap.get?_push_size _ rfl) (small_down h1 h2 h3 h4) size_down (e▸downTo_len _ _) (fun i hi=>by rw [e]; exact downTo_get _ _ _ hi) k (by rw [e,downTo_len]; exact Nat.le_succ_of_le (dn_le h2 h3))) (.inl (PyProof.noPylong_small (by decide)))
theorem tg_name (h:tgSole x=true) (k:∀ id p,x = .Name id p→q):q:=vNm_of (P:=fun x'=>x=x'→q) h (fun id p _ e=>k id p e) rfl
theorem tg_tuple (h:isTg x=true) (h2:tgSole x=false) (k:∀ es m p,x = .Tuple es m p→q):q:=orE h (fun h=>absurd (h.symm.trans h2) (by decide)) fun h=>vTp_of (P:=fun x'=>x=x'→q) h (fun es m p _ e=>k es m p e) rfl
theorem tname {n:String} {id:Str} {p':Pos} {xs:List Expr} (hid:isBlt sc id n=true) (e:bltVal n = .type n) (hs:∀ y∈x::xs,isStarred y=false) (h:wpAny T.M c.A (spliced (backTo pos (starEach (x::xs) p.env))) (fun vs s₁=>wpAny T.M c.A (call (.type n) vs) Q noE s₁) noE p.s) :
  wpAny T.M c.A (eval (.Call (.Name id p') (x::xs) [] pos) p.env) Q noE p.s:=bname hid e (type_call hs h)
theorem pi_r1 (ha:PX c fa ma):PXi c (f_r1 fa) (m_r1 ma):=fun sole sc lay x L h=>vCall_of (P:=Xi c sc lay sole _) h fun fx xs ks pos h=>vNm_of (P:=fun fx=>Xi c sc lay sole _ (.Call fx xs ks pos)) h fun id p' h=>andE h fun h0 h=>v0K h0 (fun ks=>Xi c sc lay sole _ (.Call (.Name id p') xs ks pos))
 (andE h fun h1 h=>andE h fun h2 h=>v1_of (P:=fun xs=>Xi c sc lay sole _ (.Call (.Name id p') xs [] pos)) h fun y h=>andE h fun h3 h4=>⟨rfl,fun p {_ _ _ _} e ht hso k=>bindE e fun r1 e1 e=>mapE e fun xs e2 d=>bindE e2 fun i e2 e3=>tg_name (hso.trans h1) fun i' p'' c1=>
  tname h2 rfl (star1 (notE h3)) (items_cons (notE h3) ((ha L h4).val p e1 fun v g1 s1 l1 o1 v1=>wpAny_items_nil (VX.int (int_e e2 fun e=>e▸v1) fun t c2=>by
   rw [c2]
   rw [c1] at k
   exact iter_r1 c.room.handled o1 e3 ((k.up l1).pr d))))⟩)
theorem pi_r3 (ha:PX c fa ma) (hb:PX c fb mb):PXi c (f_r3 fa fb) (m_r3 ma mb):=fun sole sc lay x L h=>vCall_of (P:=Xi c sc lay sole _) h fun fx xs ks pos h=>vNm_of (P:=fun fx=>Xi c sc lay sole _ (.Call fx xs ks pos)) h fun id p' h=>andE h fun h0 h=>v0K h0 (fun ks=>Xi c sc lay sole _ (.Call (.Name id p') xs ks pos))
 (andE h fun h1 h=>andE h fun h2 h=>v3_of (P:=fun xs=>Xi c sc lay sole _ (.Call (.Name id p') xs [] pos)) h fun y z t h=>andE h fun h3 h=>andE h fun h4 h=>andE h fun h5 h=>andE h fun h6 h7=>⟨rfl,fun p {_ _ _ _} e ht hso k=>bindE e fun r1 e1 e=>bindE e fun r2 e2 e=>mapE e fun xs e3 d=>bindE e3 fun i e3 e4=>bindE e4 fun j e4 e5=>tg_name (hso.trans h1) fun i' p'' c1=>
  have h8:isStarred t=false:=vUn_of (P:=fun t=>isStarred t=false) h7 fun _ _ _ _=>rfl
  tname h2 rfl (fun y hy=>(List.mem_cons.mp hy).elim (fun e=>e▸notE h3) (star2 (notE h4) h8 y)) (items_cons (notE h3) ((ha L h5).val p e1 fun v g1 s1 l1 o1 v1=>items_cons (notE h4) ((hb L h6).val (p.to l1 o1) e2 fun v' g2 s2 l2 o2 v2=>items_cons h8 (m1_k h7 o2 fun t n=>wpAny_items_nil
   (VX.int (int_e e3 fun e=>e▸v1) fun t1 c2=>VX.int (int_e e4 fun e=>e▸v2) fun t2 c3=>by
   rw [c2,c3]
   rw [c1] at k
   exact iter_r3 c.room.handled (ok_toks o2) e5 ((k.up (l1.trans l2)).pr d))))))⟩)
theorem iter_zip {elts:List Expr} {m:Nat} (hh:A.handled=none) (o:Ok T g H s) (vx:VX true (.lst xs) g w) (vy:VX true (.lst ys) g w') (k:NxI T A g H false (.Tuple elts m pos) (zipV xs ys) Q):wpAny T.M A (call (.type "zip") [w,w']) (fun r s₁=>wpAny T.M A (pyIter r) Q E s₁) E s:=
 VR.lstE vx.vr1 fun l1 vs n c1 z1 R1 le1=>VR.lstE vy.vr1 fun l2 us n' c2 z2 R2 _=>by
  rw [c1,c2]
  have b1:=Heap.lt_size (o.fx z1)
  have b2:=Heap.lt_size (o.fx z2)
  refine call_zip_2 (isL (o.fx z1)) (isL (o.fx z2)) fun h' hz hTI hTO h1 h2 hsz kp=>wpAny_pyIter_zip hz (k _ _ _ .rf (o.keeps kp) (fun q k=>k (s.heap.objs.size+4) [s.heap.objs.size+4,s.heap.objs.size+2,s.heap.objs.size+3,s.heap.objs.size,s.heap.objs.size+1] _ _ _ rfl (Turns.zip hh _ (s.heap.objs.size+2) (s.heap.objs.size+3) s.heap.objs.size (s.heap.objs.size+1) l1 l2 ?_ R1 R2) ⟨hz,hTI,⟨_,_,hTO⟩,h1,h2,(isL (o.fx z1)).at fun _ e=>kp _ _ e,(isL (o.fx z2)).at fun _ e=>kp _ _ e⟩ ?_ ?_ ?_) ?_)
  ·constructor <;> (intro q; simp only [Addr] at q b1 b2; omega)
  ·exact fun b hb=>(List.mem_cons.mp hb).elim (fun e=>e ▸ .head _) fun hb => .tail _ (.tail _ hb)
  ·have fr:∀ n,g (s.heap.objs.size+n) = .no:=fun n=>o.dead (get_none (Nat.le_add_right _ _))
   exact fun b hb=>(List.mem_cons.mp hb).elim (fun e=>e▸fr 4) fun hb=>(List.mem_cons.mp hb).elim (fun e=>e▸fr 2) fun hb=>(List.mem_cons.mp hb).elim (fun e=>e▸fr 3) (mem2 (P:=fun b=>g b = .no) (fr 0) (fr 1) b)
  ·exact fun b hb=>(List.mem_append (s:=[s.heap.objs.size+4,s.heap.objs.size+2,s.heap.objs.size+3,s.heap.objs.size,s.heap.objs.size+1]) (t:=[l1,l2])).mp hb |>.elim .inl fun hb => .inr (mem2 (P:=fun b=>∃ o,g b = .fix o) ⟨_,z1⟩ ⟨_,z2⟩ b hb)
  ·rw [zipV_len]; exact Nat.le_trans (Nat.min_le_left ..) le1
theorem pi_zip (ha:PX c fa ma) (hb:PX c fb mb):PXi c (f_zip fa fb) (m_zip ma mb):=fun sole sc lay x L h=>vCall_of (P:=Xi c sc lay sole _) h fun fx xs ks pos h=>vNm_of (P:=fun fx=>Xi c sc lay sole _ (.Call fx xs ks pos)) h fun id p' h=>andE h fun h0 h=>v0K h0 (fun ks=>Xi c sc lay sole _ (.Call (.Name id p') xs ks pos))
 (andE h fun h1 h=>andE h fun h2 h=>v2_of (P:=fun xs=>Xi c sc lay sole _ (.Call (.Name id p') xs [] pos)) h fun y z h=>andE h fun h3 h=>andE h fun h4 h=>andE h fun h5 h6=>⟨rfl,fun p {_ _ _ _} e ht hso k=>bindE e fun r1 e1 e=>bindE e fun r2 e2 e=>mapE e fun xs e3 d=>bindE e3 fun ys e3 e4=>mapE e4 fun zs e4 d2=>tg_tuple ht (hso.trans (notE h1)) fun es m p'' c1=>
  tname h2 rfl (star2 (notE h3) (notE h4)) (items_cons (notE h3) ((ha L h5).val p e1 fun v g1 s1 l1 o1 v1=>items_cons (notE h4) ((hb L h6).val (p.to l1 o1) e2 fun v' g2 s2 l2 o2 v2=>wpAny_items_nil (by
   rw [c1,notE h1] at k
   exact iter_zip c.room.handled o2 (lst_e e3 fun e=>e▸v1.mono l2) (lst_e e4 fun e=>e▸v2) (d2▸(k.up (l1.trans l2)).pr d)))))⟩)
end
noncomputable def Tag.nfr (t:Tag):Bool:=match t with | .frm _=>false | _=>true
noncomputable abbrev Nf:=Ky Tag.nfr
noncomputable def Nz (Z:Addr→Prop) (g g':G):Prop:=Nf g g'∧∀ b,Z b→g' b=g b
theorem Nz.rf {Z:Addr→Prop} {g:G}:Nz Z g g:=⟨.rf,fun _ _=>rfl⟩
theorem Nz.trans {Z:Addr→Prop} {g g' g'':G} (x:Nz Z g g') (y:Nz Z g' g''):Nz Z g g'':=⟨x.1.trans y.1,fun b h=>(y.2 b h).trans (x.2 b h)⟩
noncomputable def Ow (Z:Addr→Prop) (env:Env) (sc:Scope):Prop:=¬ Z env.locals∧∀ id c,sc.names.lookup id=some .cell→env.cells.lookup id=some c→¬ Z c
theorem put_z {Z:Addr→Prop} {g:G} {a:Addr} {t:Tag} (h:¬ Z a):∀ b,Z b→g.put a t b=g b:=fun b z=>put_ne fun e:b=a=>h (e▸z)
theorem out_nfr (t:Tag) (h:t.out=true):t.nfr=true:=by cases t <;> first | rfl | exact nomatch h
theorem Ky.nmv {g g':G} (x:Nf g g'):Mv g g':=x.weak out_nfr
theorem Ky.nlv {g g':G} (x:Nf g g'):Lv g g':=x.nmv.mlv
noncomputable def Tag.vo (i:Nat) (t:Tag):Bool:=match t with | .fix _=>true | .ours _=>true | .own k _=>Nat.beq k i | _=>false
noncomputable abbrev Lo2 (i:Nat):=Ky (Tag.vo i)
theorem vo_nfr (i:Nat) (t:Tag) (h:t.vo i=true):t.nfr=true:=by cases t <;> first | rfl | exact nomatch h
theorem vo_nh (i:Nat) (t:Tag) (h:t.vo i=true):t.nh=true:=by cases t <;> first | rfl | exact nomatch h
theorem val_vo (i:Nat) (t:Tag) (h:t.val=true):t.vo i=true:=by cases t <;> first | rfl | exact nomatch h
theorem own_vo (i:Nat) (o:Obj):(Tag.own i o).vo i=true:=Nat.beq_refl i
structure Fr (g:G) (env:Env) (sc:Scope):Prop where
 loc:∃ o m,g env.locals = .frm o∧NsF o m
 cells:∀ id,sc.names.lookup id=some .cell→∃ c o v,env.cells.lookup id=some c∧g c = .frm o∧o.data = .cell v
 inj:∀ id id' c,sc.names.lookup id=some .cell→env.cells.lookup id=some c→env.cells.lookup id'=some c→id=id'
noncomputable def SlX (g:G) (i:Nat) (sl:Sl) (x:Value):Prop:=match sl with
 | .undef=>True
 | .v w=>VR w g x
 | .loc xs=>∃ a vs n,x = .ref a∧g a = .own i (lstObj vs n)∧VRs xs g vs∧xs.length≤room+2
section
variable {T:Tp} {g g':G} {H H':Hp} {s s':Shared} {a b c:Addr} {q:Prop} {v:V} {x y:Value} {A:Around} {E:Value→Shared→Prop} {Q:Unit→Shared→Prop} {env:Env} {sc:Scope} {id id':Str} {p:Pos} {lay:Lay} {ρ:List Sl} {S S':Nat→Prop} {i:Nat} {sl:Sl} {oa o':Obj} {m:Str→Option Value} {Z:Addr→Prop}
theorem SlX.mono' (l:Lo2 i g g'):∀ {sl:Sl},SlX g i sl x→SlX g' i sl x
 | .undef,_=>trivial
 | .v w,h=>VR.mono w (l.weak (val_vo i)) h
 | .loc xs,⟨a,vs,n,e,z,r,k⟩=>⟨a,vs,n,e,(l a (by rw [z]; exact own_vo i _)).trans z,VRs.mono xs (l.weak (val_vo i)) r,k⟩
theorem SlX.mono (l:Nf g g'):SlX g i sl x→SlX g' i sl x:=SlX.mono' (l.weak (vo_nfr i))
theorem SlX.r (h:VarIn g env sc id x):∀ {sl:Sl},SlX g i sl x→SlR g env sc id i sl
 | .undef,_=>trivial
 | .v _,r=>fun _ k=>k x h r
 | .loc _,⟨a,vs,n,e,z,r,l⟩=>fun _ k=>k a vs n (e▸h) z r l
theorem SlR.has:∀ {sl:Sl},SlR g env sc id i sl→sl = .undef∨∃ x,VarIn g env sc id x∧SlX g i sl x
 | .undef,_ => .inl rfl
 | .v _,h => .inr (h.vE fun x v r=>⟨x,v,r⟩)
 | .loc _,h => .inr (h.lE fun a vs n v z r l=>⟨_,v,a,vs,n,rfl,z,r,l⟩)
theorem SlR.via {env':Env} {sc':Scope} (h:SlR g env sc id i sl) (l:Lo2 i g g') (k:∀ y,VarIn g env sc id y→VarIn g' env' sc' id' y):SlR g' env' sc' id' i sl:=by
 rcases h.has with e | ⟨x,v,r⟩
 ·exact e▸trivial
 ·exact SlX.r (k x v) (r.mono' l)
theorem LoS.weak (h:LoS S g env sc lay ρ) (k:∀ i,S i→S' i):LoS S' g env sc lay ρ:=fun i id sl n a b=>h i id sl (fun h=>n (k i h)) a b
theorem LoS.rho {ρ':List Sl} (h:LoS S g env sc lay ρ) (k:∀ i,S i→S' i) (e:∀ i,¬ S' i→ρ'[i]?=ρ[i]?):LoS S' g env sc lay ρ':=fun i id sl n a b=>h i id sl (fun h=>n (k i h)) a ((e i n).symm.trans b)
theorem LoS.put (lo:LoS S g env sc lay ρ) (inj:LayInj lay) (li:lay[i]?=some (some id)) (l:∀ j,j≠i→Lo2 j g g') (vi:VarIn g' env sc id x) (oth:∀ id' y,id'≠id→VarIn g env sc id' y→VarIn g' env sc id' y) (r:SlX g' i sl x):LoS (fun j=>S j∧j≠i) g' env sc lay (ρ.set i sl):=fun j id' sl' hS a b=>by
 by_cases c:i=j
 ·subst c
  cases li.symm.trans a
  have e:sl'=sl:=Option.some.inj (b.symm.trans (List.getElem?_set_self (by have:=(List.getElem?_eq_some_iff.mp b).1; rwa [List.length_set] at this)))
  exact e▸SlX.r vi r
 ·exact (lo j id' sl' (fun h=>hS ⟨h,fun e=>c e.symm⟩) a ((List.getElem?_set_ne c).symm.trans b)).via (l j fun e=>c e.symm) fun y=>oth id' y fun e=>c (inj i j id li (e▸a))
theorem put_nf (ha:g a = .frm oa) {t:Tag}:Nf g (g.put a t):=put_ky (by rw [ha]; rfl)
theorem loc_ne (f:Fr g env sc) {v:Option Value} (hc:g c = .frm oa) (hd:oa.data = .cell v):c≠env.locals:=fun e=>by
 obtain ⟨o,m,z,n⟩:=f.loc
 cases (e▸hc).symm.trans z
 exact n.nocell hd
theorem store (ow:Ow Z env sc) (eo:EnvOk sc env) (o:Ok T g H s) (f:Fr g env sc) (lo:LoS S g env sc lay ρ) (inj:LayInj lay) (hk:sc.names.lookup id=some .local∨sc.names.lookup id=some .cell) (li:lay[i]?=some (some id)) (r:SlX g i sl x)
  (k:∀ g' s',Nz Z g g'→Ok T g' H s'→Fr g' env sc→LoS (fun j=>S j∧j≠i) g' env sc lay (ρ.set i sl)→Q () s'):wpAny T.M A (storeName env id x) Q E s:=by
 rcases hk with hk | hk
 ·obtain ⟨ob,m,z,N⟩:=f.loc
  refine wpAny_storeName_local (eo.loc _ hk) (N.ns (o.fr z)) (fun h' n' sb=>?_) (by rw [eo.kind]; rfl)
  obtain ⟨o',e',N'⟩:=NsF.of n'
  have hc:∀ {c oc v},g c = .frm oc→oc.data = .cell v→g.put env.locals (.frm o') c = .frm oc:=fun hc hd=>(put_ne (loc_ne f hc hd)).trans hc
  exact k (g.put env.locals (.frm o')) _ ⟨put_nf z,put_z ow.1⟩ (o.put (by rw [z]; rfl) e' (fun b n _=>sb.2 b n) rfl rfl) ⟨⟨o',_,put_self,N'⟩,fun id hid=>(f.cells id hid).elim fun c h=>let ⟨oc,v,h1,h2,h3⟩:=h; ⟨c,oc,v,h1,hc h2 h3,h3⟩,f.inj⟩
   (lo.put inj li (fun j _=>(put_nf z).weak (vo_nfr j)) (fun q k _=>k o' _ hk put_self N' (if_pos rfl)) (fun id' y ne v q k l=>v q (fun o2 m2 h1 h2 h3 h4=>by
    cases z.symm.trans h2
    exact k o' _ h1 put_self N' ((if_neg ne).trans (N.fn h3▸h4))) fun c oc h1 h2 h3 h4=>l c oc h1 h2 (hc h3 h4) h4) (r.mono (put_nf z)))
 ·obtain ⟨c,oc,v,h1,z,h3⟩:=f.cells id hk
  refine wpAny_storeName_cell eo.kind (eo.cellK _ hk) h1 ⟨oc,o.fr z,h3⟩ fun h' hc' sb=>?_
  obtain ⟨o',e',d'⟩:=hc'
  have hl:∀ {ob},g env.locals = .frm ob→g.put c (.frm o') env.locals = .frm ob:=fun h=>(put_ne (loc_ne f z h3).symm).trans h
  have other:∀ {id' c' oc'},id'≠id→env.cells.lookup id'=some c'→g c' = .frm oc'→g.put c (.frm o') c' = .frm oc':=fun ne e h=>(put_ne fun q=>ne (f.inj _ _ c hk h1 (q▸e)).symm).trans h
  refine k (g.put c (.frm o')) _ ⟨put_nf z,put_z (ow.2 _ _ hk h1)⟩ (o.put (by rw [z]; rfl) e' (fun b n _=>sb.2 b n) rfl rfl) ⟨?_,fun id' hid=>?_,f.inj⟩
   (lo.put inj li (fun j _=>(put_nf z).weak (vo_nfr j)) (fun q _ k=>k c o' (.inl hk) h1 put_self d') (fun id' y ne v q k l=>v q (fun o2 m2 a1 a2 a3 a4=>k o2 m2 a1 (hl a2) a3 a4) fun c' oc' a1 a2 a3 a4=>l c' oc' a1 a2 (other ne a2 a3) a4) (r.mono (put_nf z)))
  ·obtain ⟨o2,m2,a1,a2⟩:=f.loc
   exact ⟨o2,m2,hl a1,a2⟩
  ·by_cases e:id'=id
   ·subst e; exact ⟨c,o',_,h1,put_self,d'⟩
   ·obtain ⟨c',oc',v',a1,a2,a3⟩:=f.cells id' hid
    exact ⟨c',oc',v',a1,other e a1 a2,a3⟩
end
noncomputable abbrev Sto:=Value→Sem Unit
noncomputable def StoOk (T:Tp) (A:Around) (env:Env) (sc:Scope) (lay:Lay) (i:Nat) (f:Sto):Prop:=∃ id,(sc.names.lookup id=some .local∨sc.names.lookup id=some .cell)∧lay[i]?=some (some id)∧∀ x (Q:Unit→Shared→Prop) E s,wpAny T.M A (storeName env id x) Q E s→wpAny T.M A (f x) Q E s
noncomputable def Rw (P:Nat→Sl→Value→Sto→Prop) (fs:List Sto):List Nat→List Sl→List Value→Prop:=List.rec (motive:=fun _=>List Nat→List Sl→List Value→Prop) (fun is sls vs=>is=[]∧sls=[]∧vs=[])
 (fun f _ r is sls vs=>∀ q:Prop,(∀ i is' sl sls' v vs',is=i::is'→sls=sl::sls'→vs=v::vs'→P i sl v f→r is' sls' vs'→q)→q) fs
section
variable {T:Tp} {g g':G} {H H':Hp} {s s':Shared} {a b c:Addr} {q:Prop} {v:V} {x y:Value} {A:Around} {E:Value→Shared→Prop} {Q:Unit→Shared→Prop} {env:Env} {sc:Scope} {id id':Str} {p:Pos} {lay:Lay} {ρ:List Sl} {S S':Nat→Prop} {i:Nat} {sl:Sl} {P P':Nat→Sl→Value→Sto→Prop} {f:Sto} {fs:List Sto} {is:List Nat} {sls:List Sl} {vs:List Value}
theorem Rw.nil:Rw P [] [] [] []:=⟨rfl,rfl,rfl⟩
theorem Rw.e (h:Rw P (f::fs) is sls vs) (k:∀ i is' sl sls' v vs',is=i::is'→sls=sl::sls'→vs=v::vs'→P i sl v f→Rw P fs is' sls' vs'→q):q:=h q k
theorem Rw.cons (h:P i sl x f) (r:Rw P fs is sls vs):Rw P (f::fs) (i::is) (sl::sls) (x::vs):=fun _ k=>k i is sl sls x vs rfl rfl rfl h r
theorem Rw.imp (k:∀ i sl v f,P i sl v f→P' i sl v f):∀ {fs:List Sto} {is:List Nat} {sls:List Sl} {vs:List Value},Rw P fs is sls vs→Rw P' fs is sls vs
 | [],_,_,_,h=>h
 | _::_,_,_,_,h=>h.e fun i is' sl sls' v vs' e1 e2 e3 a r=>by rw [e1,e2,e3]; exact .cons (k _ _ _ _ a) (Rw.imp k r)
theorem Rw.app {fs':List Sto} {is':List Nat} {sls':List Sl} {vs':List Value} (r':Rw P fs' is' sls' vs'):∀ {fs:List Sto} {is:List Nat} {sls:List Sl} {vs:List Value},Rw P fs is sls vs→Rw P (fs++fs') (is++is') (sls++sls') (vs++vs')
 | [],_,_,_,⟨e1,e2,e3⟩=>by rw [e1,e2,e3]; exact r'
 | _::_,_,_,_,h=>h.e fun i is' sl sls' v vs' e1 e2 e3 a r=>by rw [e1,e2,e3]; exact .cons a (Rw.app r' r)
theorem Rw.rev:∀ {fs:List Sto} {is:List Nat} {sls:List Sl} {vs:List Value},Rw P fs is sls vs→Rw P fs.reverse is.reverse sls.reverse vs.reverse
 | [],_,_,_,⟨e1,e2,e3⟩=>by rw [e1,e2,e3]; exact .nil
 | _::_,_,_,_,h=>h.e fun i is' sl sls' v vs' e1 e2 e3 a r=>by
  rw [e1,e2,e3,List.reverse_cons,List.reverse_cons,List.reverse_cons,List.reverse_cons]
  exact Rw.app (.cons a .nil) (Rw.rev r)
noncomputable abbrev RwS (T:Tp) (A:Around) (env:Env) (sc:Scope) (lay:Lay) (g:G):=Rw fun i sl v f=>StoOk T A env sc lay i f∧SlX g i sl v
theorem stores {Z:Addr→Prop} (ow:Ow Z env sc) (eo:EnvOk sc env) (inj:LayInj lay):∀ {fs:List Sto} {is:List Nat} {sls:List Sl} {vs:List Value} {g:G} {s:Shared} {S:Nat→Prop} {ρ:List Sl},RwS T A env sc lay g fs is sls vs→Ok T g H s→Fr g env sc→LoS S g env sc lay ρ →
  (∀ g' s',Nz Z g g'→Ok T g' H s'→Fr g' env sc→LoS (fun j=>S j∧j∉is) g' env sc lay (setAll is sls ρ)→Q () s')→wpAny T.M A (assignInOrder fs vs) Q E s
 | [],_,_,_,_,_,_,_,⟨e1,e2,e3⟩,o,f,lo,k=>by
  subst e1; subst e2; subst e3
  exact assignInOrder_nil (k _ _ .rf o f (lo.weak fun i h=>⟨h,List.not_mem_nil⟩))
 | _::_,_,_,_,_,_,_,_,h,o,f,lo,k=>h.e fun i is' sl sls' v vs' e1 e2 e3 a r=>by
  subst e1; subst e2; subst e3
  obtain ⟨⟨id,hk,li,hf⟩,sx⟩:=a
  exact assignInOrder_cons (hf _ _ _ _ (store ow eo o f lo inj hk li sx fun g1 s1 l1 o1 f1 lo1=>stores ow eo inj (r.imp fun i sl v f h=>⟨h.1,h.2.mono l1.1⟩) o1 f1 lo1 fun g2 s2 l2 o2 f2 lo2=>k g2 s2 (l1.trans l2) o2 f2 (lo2.weak fun j h=>⟨h.1.1,fun m=>(List.mem_cons.mp m).elim h.1.2 h.2⟩)))
noncomputable def KindOk (sc:Scope) (lay:Lay) (is:List Nat) (ns:List Str):Prop:=is.length=ns.length∧∀ p∈is.zip ns,(sc.names.lookup p.2=some .local∨sc.names.lookup p.2=some .cell)∧lay[p.1]?=some (some p.2)
theorem KindOk.tl {i:Nat} {is:List Nat} {n:Str} {ns:List Str} (h:KindOk sc lay (i::is) (n::ns)):KindOk sc lay is ns:=⟨Nat.succ.inj h.1,fun p hp=>h.2 p (.tail _ hp)⟩
theorem mapM_e {x:Expr} {es:List Expr} {ns:List Str} (h:(x::es).mapM nameOf=some ns) (k:∀ id p ns',x = .Name id p→es.mapM nameOf=some ns'→ns=id::ns'→q):q:=by
 rw [List.mapM_cons] at h
 exact bindE h fun id e1 h1=>bindE h1 fun ns' e2 h2=>nameOf_e e1 fun p c=>k id p ns' c e2 (Option.some.inj h2).symm
theorem tgNames_e {x:Expr} {ns:List Str} (h:tgNames x=some ns) (k:∀ id p,x = .Name id p→ns=[id]→q) (l:∀ es m p,x = .Tuple es m p→es.mapM nameOf=some ns→q):q:=by
 unfold tgNames at h
 cases e:nameOf x with
 | some id=>rw [e] at h; exact nameOf_e e fun p c=>k id p c (Option.some.inj h).symm
 | none=>rw [e] at h; exact bindE h fun es e1 h=>tupEs_e e1 fun m p c=>l es m p c h
noncomputable abbrev Pd (g:G) (is:List Nat) (sls:List Sl) (vs:List Value):Prop:=is.length=sls.length∧is.length=vs.length∧∀ (j i:Nat) (sl:Sl) (x:Value),is[j]?=some i→sls[j]?=some sl→vs[j]?=some x→SlX g i sl x
theorem Pd.tl {i:Nat} {is:List Nat} {sl:Sl} {sls:List Sl} {x:Value} {vs:List Value} (h:Pd g (i::is) (sl::sls) (x::vs)):Pd g is sls vs:=⟨Nat.succ.inj h.1,Nat.succ.inj h.2.1,fun j=>h.2.2 (j+1)⟩
noncomputable def IsSto (T:Tp) (A:Around) (env:Env) (id:Str) (f:Sto):Prop:=∀ x (Q:Unit→Shared→Prop) E s,wpAny T.M A (storeName env id x) Q E s→wpAny T.M A (f x) Q E s
theorem lenc {α:Type} {l:List α} {n:Nat} (h:l.length=n+1) (k:∀ x r,l=x::r→q):q:=match l,h with | x::r,_=>k x r rfl
theorem rw_of:∀ {ns:List Str} {fs:List Sto} {is:List Nat} {sls:List Sl} {vs:List Value},fs.length=ns.length→(∀ p∈fs.zip ns,IsSto T A env p.2 p.1)→KindOk sc lay is ns→Pd g is sls vs→RwS T A env sc lay g fs is sls vs
 | [],fs,is,sls,vs,e,_,k,d=>by
  have e1:=k.1
  rw [List.length_eq_zero_iff.mp e,List.length_eq_zero_iff.mp e1,List.length_eq_zero_iff.mp (d.1.symm.trans e1),List.length_eq_zero_iff.mp (d.2.1.symm.trans e1)]
  exact .nil
 | n::ns,fs,is,sls,vs,e,h,k,d=>lenc e fun f fs' c1=>lenc k.1 fun i is' c2=>lenc (d.1.symm.trans k.1) fun sl sls' c3=>lenc (d.2.1.symm.trans k.1) fun v vs' c4=>by
  subst c1; subst c2; subst c3; subst c4
  have k0:=k.2 (i,n) (.head _)
  exact Rw.cons ⟨⟨n,k0.1,k0.2,h (f,n) (.head _)⟩,d.2.2 0 i sl v rfl rfl rfl⟩ (rw_of (Nat.succ.inj e) (fun p hp=>h p (.tail _ hp)) k.tl d.tl)
theorem each_sto:∀ {es:List Expr} {ns:List Str},es.mapM nameOf=some ns→(assignEach es env).length=ns.length∧(∀ p∈((assignEach es env).map fun x=>x.2).zip ns,IsSto T A env p.2 p.1)∧List.findIdx? (fun x=>x.1) (assignEach es env)=none
 | [],ns,e=>by cases e; exact ⟨rfl,fun _ h=>(List.not_mem_nil h).elim,rfl⟩
 | x::es,ns,e=>mapM_e e fun id p ns' c e' c'=>by
  subst c; subst c'
  have ⟨h2,h3,h4⟩:=each_sto (es:=es) e'
  refine ⟨congrArg (·+1) h2,fun p hp=>(List.mem_cons.mp hp).elim (fun e=>by rw [e]; exact fun _ _ _ _ h=>wpAny_assign_Name h) (h3 p),?_⟩
  show List.findIdx? _ ((false,assign (.Name id p) env)::assignEach es env)=none
  rw [List.findIdx?_cons,if_neg Bool.false_ne_true,h4]
  rfl
theorem names_rw {es:List Expr} {ns:List Str} (e:es.mapM nameOf=some ns) (k:KindOk sc lay is ns) (d:Pd g is sls vs):RwS T A env sc lay g ((assignEach es env).map fun x=>x.2) is sls vs∧(assignEach es env).length=is.length∧List.findIdx? (fun x=>x.1) (assignEach es env)=none:=
 have ⟨h2,h3,h4⟩:=each_sto (T:=T) (A:=A) (env:=env) e
 ⟨rw_of ((List.length_map ..).trans h2) h3 k d,h2.trans k.1.symm,h4⟩
end
section
variable {T:Tp} {g g':G} {H H':Hp} {s s':Shared} {a b c:Addr} {q:Prop} {v:V} {x y:Value} {A:Around} {E:Value→Shared→Prop} {Q:Unit→Shared→Prop} {env:Env} {sc:Scope} {id id':Str} {p:Pos} {lay:Lay} {ρ ρ':List Sl} {S S':Nat→Prop} {i:Nat} {sl:Sl} {is tg:List Nat} {sls:List Sl} {vs:List Value} {es:List Expr} {ns:List Str} {m:Nat} {target:Expr} {Z:Addr→Prop}
noncomputable def NxF (T:Tp) (Z:Addr→Prop) (g:G) (H:Hp) (env:Env) (sc:Scope) (lay:Lay) (S:Nat→Prop) (ρ:List Sl) (Q:Shared→Prop):Prop:=∀ g' s',Nz Z g g'→Ok T g' H s'→Fr g' env sc→LoS S g' env sc lay ρ→Q s'
theorem unp_ok (ow:Ow Z env sc) (hh:A.handled=none) (eo:EnvOk sc env) (inj:LayInj lay) (hm:es.mapM nameOf=some ns) (hk:KindOk sc lay is ns) (pd:Pd g is sls vs) {a:Addr} (hT:IsTup s.heap a vs.toArray) (o:Ok T g H s) (f:Fr g env sc) (lo:LoS S g env sc lay ρ)
  (k:NxF T Z g H env sc lay (fun j=>S j∧j∉is) (setAll is sls ρ) (Q ())):wpAny T.M A (assign (.Tuple es m p) env (.ref a)) Q E s:=
 have ⟨h1,h2,h3⟩:=names_rw (T:=T) (A:=A) (env:=env) hm hk pd
 assign_Tuple_tuple hh hT (by rw [h2,List.size_toArray]; exact pd.2.1) h3 fun h' he=>stores ow (s:={ s with heap:=h' }) eo inj h1 (o.keeps (k:=s.toks) fun b o q=>he b o (Nat.ne_of_lt (Heap.lt_size q)) q) f lo k
theorem bindTg_e (h:bindTg tg v ρ=some ρ') (k1:∀ i,tg=[i]→ρ'=ρ.set i (.v v)→q) (k2:∀ xs,tg.length≠1→v = .tup xs→xs.length=tg.length→ρ'=setAll tg (xs.map .v) ρ→q):q:=by
 have go:tg.length≠1→(v.tup?.bind fun xs=>if Nat.beq xs.length tg.length&&tg.all (fun i=>Nat.ble (i+1) ρ.length) then some (setAll tg (xs.map .v) ρ) else none)=some ρ'→q:=fun n h=>bindE h fun xs e1 h=>tup_e e1 fun e1=>ifE h fun c h=>andE c fun c _=>k2 xs n e1 (Nat.eq_of_beq_eq_true c) (Option.some.inj h).symm
 have up:∀ {t:List Nat},(∀ i,t≠[i])→bindTg t v ρ=(v.tup?.bind fun xs=>if Nat.beq xs.length t.length&&t.all (fun i=>Nat.ble (i+1) ρ.length) then some (setAll t (xs.map .v) ρ) else none):=fun {t} n=>by
  unfold bindTg
  split
  ·exact absurd rfl (n _)
  ·cases v <;> rfl
 match tg,h,k1,go with
 | [i],h,k1,_=>exact ifE h fun _ h=>k1 i rfl (Option.some.inj h).symm
 | [],h,_,go=>exact go (fun e=>Nat.noConfusion e) (up (fun _=>(List.cons_ne_nil _ _).symm)▸h)
 | _::_::_,h,_,go=>exact go (fun e=>Nat.noConfusion (Nat.succ.inj e)) (up (fun _ e=>List.cons_ne_nil _ _ (List.cons.inj e).2)▸h)
theorem pd_vr {xs:List V} (r:VRs xs g vs) (n:xs.length=is.length):Pd g is (xs.map .v) vs:=⟨n.symm.trans (List.length_map ..).symm,n.symm.trans r.length.symm,fun j i sl x e1 e2 e3=>by
 rw [List.getElem?_map] at e2
 exact mapE e2 fun w e4 e5=>r.get e4 fun y e6 r=>by cases e6.symm.trans e3; exact e5▸r⟩
theorem zip_one {α β:Type} {P:α×β→Prop} {x:α} {y:β} (h:∀ p∈[x].zip [y],P p):P (x,y):=h _ (.head _)
theorem tg_ok (ow:Ow Z env sc) (hh:A.handled=none) (eo:EnvOk sc env) (inj:LayInj lay) (ht:tgNames target=some ns) (hs:tgSole target=Nat.beq tg.length 1) (hk:KindOk sc lay tg ns) (hb:bindTg tg v ρ=some ρ') (hi:ItemP (tgSole target) g v x s.heap) (o:Ok T g H s) (f:Fr g env sc) (lo:LoS S g env sc lay ρ)
  (k:NxF T Z g H env sc lay (fun j=>S j∧j∉tg) ρ' (Q ())):wpAny T.M A (assign target env x) Q E s:=by
 refine tgNames_e ht (fun id p e e2=>?_) fun es m p e hm=>?_
 ·subst e; subst e2
  refine bindTg_e hb (fun i e e2=>?_) fun xs n _ _ _=>absurd (Nat.eq_of_beq_eq_true hs.symm) n
  subst e; subst e2
  have k0:=zip_one hk.2
  refine wpAny_assign_Name (store ow (sl := .v v) eo o f lo inj k0.1 k0.2 (hi.elim (fun h=>h) fun h=>Bool.noConfusion (show true=false from h.1)) fun g' s' l o f lo=>k g' s' l o f (lo.weak fun j h=>⟨h.1,fun m=>h.2 (List.mem_singleton.mp m)⟩))
 ·subst e
  refine bindTg_e hb (fun i e _=>Bool.noConfusion (show false=true from hs.trans (by rw [e]; rfl))) fun xs n e e1 e2=>?_
  subst e; subst e2
  rcases hi with hi | ⟨_,T',vals,ys,e3,e4,⟨ob,h1,h2,n2,h3⟩,r⟩
  ·exact VR.tupE hi fun a vs m' c z r _=>c▸unp_ok ow hh eo inj hm hk (pd_vr r e1) (isT (o.fx z)) o f lo k
  ·cases e4
   exact e3▸unp_ok ow hh eo inj hm hk (pd_vr r e1) (show IsTup s.heap T' vals.toList.toArray from ⟨ob,h1,h2,n2,h3⟩) o f lo k
theorem layAll_k {lay:Lay} (h:layAll lay is ns=true) (hk:∀ (i:Nat) (id:Str),lay[i]?=some (some id)→sc.names.lookup id=some .local∨sc.names.lookup id=some .cell):KindOk sc lay is ns:=andE h fun h1 h2=>⟨of_decide_eq_true h1,fun p hp=>have e:=beq_iff_eq.mp (List.all_eq_true.mp h2 p hp); ⟨hk _ _ e,e⟩⟩
end
noncomputable def Tag.hx (t:Tag):Bool:=match t with | .fix _=>true | .held _=>true | _=>false
noncomputable def G.hold (g:G) (F:List Addr) (h:Heap):G:=fun b=>if b∈F then (h.get? b).elim .no .held else g b
noncomputable def G.cut (g g0:G):G:=fun b=>if ((g0 b).any||(g b).val)=true then g b else .no
section
variable {T:Tp} {g g' g0:G} {H H':Hp} {s s':Shared} {a b:Addr} {A:Around} {F:List Addr} {h:Heap} {ob:Obj}
theorem hx_nfr (t:Tag) (h:t.hx=true):t.nfr=true:=by cases t <;> first | rfl | exact nomatch h
theorem hx_an (t:Tag) (h:t.hx=true):t.any=true:=by cases t <;> first | rfl | exact nomatch h
theorem hold_in (h1:b∈F) (h2:h.get? b=some ob):g.hold F h b = .held ob:=(if_pos h1).trans (by rw [h2]; rfl)
theorem hold_out (h1:b∉F):g.hold F h b=g b:=if_neg h1
theorem Ok.hx (o:Ok T g H s) (o':Ok T g' H' s') (h:(g b).hx=true) (e:g' b=g b):s'.heap.get? b=s.heap.get? b:=by
 revert h
 cases c:g b with
 | fix ob=>exact fun _=>(o'.fx (e.trans c)).trans (o.fx c).symm
 | held ob=>exact fun _=>(o'.hd (e.trans c)).trans (o.hd c).symm
 | _=>exact fun h=>nomatch h
theorem Ok.hold {h':Heap} {k:Nat} (o:Ok T g H s) (hF:∀ b∈F,(g b).val=false) (sb:∀ b,b∉F→g b ≠ .no→h'.get? b=s.heap.get? b):Ok T (g.hold F h') H { s with heap:=h',toks:=k }:=
 o.re (fun b h=>have n:b∉F:=fun m=>by rw [hF b m] at h; cases h
  ⟨hold_out n,sb b n (val_no h)⟩) (fun b h=>by
  by_cases c:b∈F
  ·show Tag.at _ h' b
   cases e:h'.get? b with
   | none=>rw [show g.hold F h' b = .no from (if_pos c).trans (by rw [e]; rfl)]; exact trivial
   | some ob=>rw [hold_in c e]; exact e
  ·rw [hold_out c]; exact Tag.up (sb b c) (o.at h)) rfl rfl
theorem Ok.cut (o:Ok T g H s):Ok T (g.cut g0) H s:=o.re (fun b h=>⟨if_pos (by rw [h,Bool.or_true]),rfl⟩) (fun b h=>by
 unfold G.cut
 split
 ·exact o.at h
 ·exact trivial) rfl rfl
theorem cut_le (l:Le g0 g):Le g0 (g.cut g0):=fun b h=>(if_pos (by rw [h,Bool.true_or])).trans (l b h)
theorem cut_lv:Lv g (g.cut g0):=fun b h=>if_pos (by rw [h,Bool.or_true])
theorem cut_no (h0:g0 a = .no) (h:(g a).val=false):g.cut g0 a = .no:=if_neg (by rw [h0,h]; exact Bool.false_ne_true)
noncomputable abbrev tests (ifs:List Expr) (env:Env):Sem Bool:=forIn ifs true fun c r=>if r=true then do let ok ← isTrue c env (eval c env); pure (ForInStep.yield ok) else pure (ForInStep.yield r)
theorem comp_loop {elt target iter:Expr} {ifs:List Expr} {scope:Scope} {pos:Pos} {it acc:Value} {env:Env} {R:Result→Shared→Prop} (I:Nat→Shared→Prop)
  (turn:∀ n s,I n s→wpAny T.M A (pyNext it) (fun r s₁=>r=none∧R (.ok .next) s₁) noE s∨wpAny T.M A (pyNext it) (fun r s₁=>match r with | none=>False | some v=>wpAny T.M A (letOwnedTupleGo target it v) (fun _ s₂=>wpAny T.M A (assign target env v) (fun _ s₂=>wpAny T.M A (tests ifs env) (fun ok s₃=>
    if ok=true then wpAny T.M A (eval elt env) (fun x s₄=>wpAny T.M A (call (.builtin "list.append") [acc,x]) (fun _ s₅=>∃ m,m < n∧I m s₅) noE s₄) noE s₃ else ∃ m,m < n∧I m s₃) noE s₂) noE s₂) noE s₁) noE s)
  (n:Nat) (h:I n s):codeAny T.M A (.compLoop (.ListComp elt [⟨target,iter,ifs,0⟩] scope pos) 0 it acc env) R s:=by
 refine codeAny_loop rfl I (fun n s hI=>?_) n h
 show wpAny _ A ((compTurn (.ListComp elt [⟨target,iter,ifs,0⟩] scope pos) 0 it acc env).onRaise (fun x=>do noteFrame x env; theTreesLotGoes x)) _ _ s
 refine wpAny_noted ?_
 rw [compTurn_list]
 refine wpAny_bind (wpAny_standAt (wpAny_bind ?_))
 rcases turn n s hI with h | h
 ·exact wpAny_mono h (fun r s₁ h=>by rw [h.1]; exact wpAny_pure h.2) fun _ _ h=>h.elim
 ·refine wpAny_mono h (fun r s₁ h₁=>?_) fun _ _ h=>h.elim
  cases r with
  | none=>exact h₁.elim
  | some v=>
   refine wpAny_bind (wpAny_mono h₁ (fun _ s₂ h₂=>wpAny_bind (wpAny_mono h₂ (fun _ s₂ h₂=>wpAny_bind (wpAny_mono h₂ (fun ok s₃ h₃=>?_) fun _ _ h=>h.elim)) fun _ _ h=>h.elim)) fun _ _ h=>h.elim)
   cases ok with
   | false=>exact wpAny_pure ⟨rfl,h₃⟩
   | true=>exact wpAny_bind (wpAny_bind (wpAny_mono h₃ (fun x s₄ h₄=>wpAny_bind (wpAny_mono h₄ (fun _ s₅ h₅=>wpAny_pure (wpAny_pure ⟨rfl,h₅⟩)) fun _ _ h=>h.elim)) fun _ _ h=>h.elim))
end
noncomputable def cst (fc fe:FE) (tg:List Nat) (ρ:List Sl) (x:V) (H:Hp):Option (Option V×Hp):=(bindTg tg x ρ).bind fun ρ'=>(fc ρ' H).bind fun p=>sel p.1.truth ((fe ρ' p.2).map fun q=>(some q.1,q.2)) (some (Option.none,p.2))
noncomputable def Cg (D:Addr) (fp wr:List Addr) (g0:G) (ob:Obj) (g:G):Prop:=Le g0 g∧(∀ b∈fp,(g b).hx=true)∧(∀ b∈wr,∃ o,g b = .held o)∧g D = .held ob
noncomputable abbrev An (g0:G) (b:Addr):Prop:=(g0 b).any=true
noncomputable def CI (T:Tp) (env:Env) (sc:Scope) (lay:Lay) (ρ:List Sl) (tg:List Nat) (fs:V→Hp→Option (Option V×Hp)) (xs:List V) (D:Addr) (fp wr:List Addr) (St:Nat→Heap→Prop) (g0:G) (out:List V) (H':Hp) (n:Nat) (s:Shared):Prop:=
 ∀ q:Prop,(∀ i l g H ys zs vs m,n=l.length→i+l.length=xs.length→(∀ j,xs[i+j]?=l[j]?)→Ok T g H s→Fr g env sc→LoS (·∈tg) g env sc lay ρ→Cg D fp wr g0 (lstObj vs m) g→St i s.heap→VRs ys g vs→ys.length≤i→compV fs l H=some (zs,H')→out=ys++zs→q)→q
section
variable {T:Tp} {g g' g0 g1:G} {H H' H1:Hp} {s s' s1:Shared} {a b:Addr} {A:Around} {F:List Addr} {h:Heap} {ob ob':Obj} {env:Env} {sc:Scope} {lay:Lay} {ρ ρ':List Sl} {tg:List Nat} {fc fe:FE} {fs:V→Hp→Option (Option V×Hp)} {xs l ys zs out:List V} {vs:List Value} {D:Addr} {fp wr:List Addr} {St:Nat→Heap→Prop} {i m n:Nat} {q:Prop} {v w:V} {x y:Value} {sole:Bool}
theorem Fr.up (f:Fr g env sc) (l:∀ b o,g b = .frm o→g' b = .frm o):Fr g' env sc:=⟨let ⟨o,m,h1,h2⟩:=f.loc; ⟨o,m,l _ _ h1,h2⟩,fun id h=>let ⟨c,o,v,h1,h2,h3⟩:=f.cells id h; ⟨c,o,v,h1,l _ _ h2,h3⟩,f.inj⟩
theorem Fr.le (f:Fr g env sc) (l:Le g g'):Fr g' env sc:=f.up fun b o e=>(l b (by rw [e]; rfl)).trans e
theorem Cg.step (c:Cg D fp wr g0 ob g) (l:∀ b,(g b).hx=true∨An g0 b→g' b=g b):Cg D fp wr g0 ob g':=
 ⟨fun b h=>(l b (.inr h)).trans (c.1 b h),fun b h=>by rw [l b (.inl (c.2.1 b h))]; exact c.2.1 b h,fun b h=>(c.2.2.1 b h).elim fun o e=>⟨o,(l b (.inl (by rw [e]; rfl))).trans e⟩,(l D (.inl (by rw [c.2.2.2]; rfl))).trans c.2.2.2⟩
theorem Cg.le (c:Cg D fp wr g0 ob g) (l:Le g g'):Cg D fp wr g0 ob g':=c.step fun b h=>l b (h.elim (hx_an _) fun h=>by rw [c.1 b h]; exact h)
theorem Cg.nz (c:Cg D fp wr g0 ob g) (l:Nz (An g0) g g'):Cg D fp wr g0 ob g':=c.step fun b h=>h.elim (fun h=>l.1 b (hx_nfr _ h)) (l.2 b)
theorem setAll_ne:∀ {is:List Nat} {sls ρ:List Sl},i∉is→(setAll is sls ρ)[i]?=ρ[i]?
 | [],[],_,_=>rfl
 | [],_::_,_,_=>rfl
 | _::_,[],_,_=>rfl
 | j::is,sl::sls,ρ,h=>(setAll_ne (is:=is) (sls:=sls) fun m=>h (.tail _ m)).trans (List.getElem?_set_ne fun e:j=i=>h (e ▸ .head _))
theorem bindTg_ne (h:bindTg tg v ρ=some ρ') (n:i∉tg):ρ'[i]?=ρ[i]?:=bindTg_e h (fun j e1 e2=>e2▸List.getElem?_set_ne fun e:j=i=>n (e1▸e ▸ .head _)) fun xs _ _ _ e=>e▸setAll_ne n
theorem ItemP.mono (l:Lv g g') (h:ItemP sole g v x s.heap):ItemP sole g' v x s.heap:=h.imp (VR.mono v l) fun ⟨h1,a,vals,ys,h2,h3,h4,h5⟩=>⟨h1,a,vals,ys,h2,h3,h4,VRs.mono ys l h5⟩
theorem hold_ky {f:Tag→Bool} (h:∀ b∈F,f (g b)=false):Ky f g (g.hold F s.heap):=fun b e=>hold_out fun m=>by rw [h b m] at e; cases e
theorem CI.of (g:G) (H:Hp) (vs:List Value) (m:Nat) (e2:i+(v::l).length=xs.length) (e3:∀ j,xs[i+j]?=(v::l)[j]?) (o:Ok T g H s) (f:Fr g env sc) (lo:Lo g env sc lay ρ') (hb:bindTg tg w ρ=some ρ') (c:Cg D fp wr g0 (lstObj vs m) g) (st:St (i+1) s.heap) (r:VRs ys g vs) (len:ys.length≤i+1) (e4:compV fs l H=some (zs,H')) (e5:out=ys++zs) :
  ∃ m,m < (v::l).length∧CI T env sc lay ρ tg fs xs D fp wr St g0 out H' m s:=
 ⟨l.length,Nat.lt_succ_self _,fun _ k=>k (i+1) l g H ys zs vs m rfl (by rw [← e2,List.length_cons,Nat.add_assoc,Nat.add_comm 1]) (fun j=>by rw [Nat.add_assoc,Nat.add_comm 1]; exact e3 (j+1)) o f (lo.rho (fun _ h=>h.elim) fun i n=>(bindTg_ne hb n).symm) c st r len e4 e5⟩
end
section
variable {T:Tp} {c:Cf T} {g g' g0:G} {H H' H1:Hp} {s s':Shared} {ob ob':Obj} {env:Env} {sc:Scope} {lay:Lay} {ρ ρ':List Sl} {tg:List Nat} {fc fe:FE} {fs:V→Hp→Option (Option V×Hp)} {xs l ys zs out:List V} {vs:List Value} {D I:Addr} {fp wr:List Addr} {St:Nat→Heap→Prop} {i m n:Nat} {q:Prop} {v w u:V} {x y:Value} {target eltx:Expr} {ifs:List Expr} {ns:List Str} {R:Result→Shared→Prop}
theorem Cg.put (h:Cg D fp wr g0 ob g) (h0:g0 D = .no) (Df:D∉fp) (sub:∀ b∈wr,b∈fp):Cg D fp wr g0 ob' (g.put D (.held ob')):=
 ⟨fun b a=>(put_ne fun e=>by rw [e,h0] at a; cases a).trans (h.1 b a),fun b m=>by rw [put_ne fun e:b=D=>Df (e▸m)]; exact h.2.1 b m,fun b m=>(h.2.2.1 b m).elim fun o e=>⟨o,(put_ne fun e:b=D=>Df (e▸sub b m)).trans e⟩,put_self⟩
theorem Cg.hold {h':Heap} (h:Cg D fp wr g0 ob g) (w0:∀ b∈wr,g0 b = .no) (Dw:D∉wr) (lv:∀ b∈wr,∃ o,h'.get? b=some o):Cg D fp wr g0 ob (g.hold wr h'):=
 ⟨fun b a=>(hold_out fun m=>by rw [w0 b m] at a; cases a).trans (h.1 b a),fun b m=>by
  by_cases c:b∈wr
  ·obtain ⟨o,e⟩:=lv b c
   rw [hold_in c e]; rfl
  ·rw [hold_out c]; exact h.2.1 b m,fun b m=>(lv b m).elim fun o e=>⟨o,hold_in m e⟩,(hold_out Dw).trans h.2.2.2⟩
theorem Cg.fr (h:Cg D fp wr g0 ob g) (o:Ok T g H s) (o':Ok T g' H' s') (l:∀ b,(g b).hx=true→g' b=g b):∀ b∈fp,∀ ob,s.heap.get? b=some ob→s'.heap.get? b=some ob:=fun b m _ e=>(Ok.hx o o' (h.2.1 b m) (l b (h.2.1 b m))).trans e
theorem comp_elt (he:Xv c sc lay true fe eltx) (tn:Turns T c.A target I fp wr xs.length (TurnP (tgSole target) g0 xs) St) (h0:g0 D = .no) (Df:D∉fp) (small:xs.length≤room+2) (p:Pt T sc lay) (f:Fr p.g p.env sc) (cg:Cg D fp wr g0 (lstObj vs m) p.g) (st:St (i+1) p.s.heap) (r:VRs ys p.g vs) (len:ys.length≤i)
  (e2:i+(u::l).length=xs.length) (e3:∀ j,xs[i+j]?=(u::l)[j]?) (hb:bindTg tg w ρ=some p.ρ) (ev:fe p.ρ p.H=some (v,H1)) (e4:compV fs l H1=some (zs,H')) (e5:out=ys++v::zs) :
  wpAny T.M c.A (eval eltx p.env) (fun x s₄=>wpAny T.M c.A (call (.builtin "list.append") [.ref D,x]) (fun _ s₅=>∃ m,m < (u::l).length∧CI T p.env sc lay ρ tg fs xs D fp wr St g0 out H' m s₅) noE s₄) noE p.s:=
 he.val p ev fun y g4 s4 l4 o4 v4=>by
  have c4:=cg.le l4
  have lt:i≤xs.length:=Nat.le_trans (Nat.le_add_right i _) (Nat.le_of_eq e2)
  refine append_at (its:=vs.toArray) (n:=m) (o4.hd c4.2.2.2) (fun h' sb e'=>?_) (by
   rw [List.size_toArray,r.length]
   exact Nat.le_trans (Nat.le_add_right _ 2) (le_line (Nat.le_trans len (Nat.le_trans lt small))))
  have hv:∀ {f:Tag→Bool} (t:Tag),f (.held (lstObj vs m))=false→Ky f g4 (g4.put D t):=fun t h=>put_ky (by rw [c4.2.2.2]; exact h)
  rw [List.push_toArray] at e'
  exact CI.of (g4.put D (.held (lstObj (vs++[y]) (m+1)))) H1 (vs++[y]) (m+1) e2 e3 (o4.put (by rw [c4.2.2.2]; rfl) e' (fun b n _=>sb.2 b n) rfl rfl)
   ((f.le l4).up fun b o e=>(put_ne fun e'=>by rw [e',c4.2.2.2] at e; cases e).trans e) ((p.lo.mono l4.lw).mono (hv _ rfl)) hb (c4.put h0 Df tn.sub)
   (tn.frame _ _ _ (tn.frame _ _ _ st (cg.fr p.o o4 fun b h=>l4 b (hx_an _ h))) fun b m o e=>(sb.2 b fun e=>Df (e▸m)).trans e)
   (VRs.mono _ (hv _ rfl) (VRs.append (VRs.cons v4.vr1 .nil) (VRs.mono _ l4.lv r))) (by rw [List.length_append]; exact Nat.succ_le_succ len) e4 (e5.trans (List.append_assoc ys [v] zs).symm)
theorem comp_turn (tst:(ifs=[]∧∀ ρ H,fc ρ H=some (.bool true,H))∨∃ y,ifs=[y]∧Xv c sc lay true fc y) (he:Xv c sc lay true fe eltx) (eo:EnvOk sc env) (inj:LayInj lay) (nm:tgNames target=some ns) (so:tgSole target=Nat.beq tg.length 1) (hk:KindOk sc lay tg ns) (ow:Ow (An g0) env sc)
  (tn:Turns T c.A target I fp wr xs.length (TurnP (tgSole target) g0 xs) St) (h0:g0 D = .no) (Df:D∉fp) (w0:∀ b∈wr,g0 b = .no) (small:xs.length≤room+2)
  (hR:∀ g s vs m,Ok T g H' s→Le g0 g→Fr g env sc→g D = .held (lstObj vs m)→VRs out g vs→out.length≤room+2→R (.ok .next) s)
  (ci:CI T env sc lay ρ tg (cst fc fe tg ρ) xs D fp wr St g0 out H' n s) :
  wpAny T.M c.A (pyNext (.ref I)) (fun r s₁=>r=none∧R (.ok .next) s₁) noE s∨wpAny T.M c.A (pyNext (.ref I)) (fun r s₁=>match r with | none=>False | some v=>wpAny T.M c.A (letOwnedTupleGo target (.ref I) v) (fun _ s₂=>wpAny T.M c.A (assign target env v) (fun _ s₂=>wpAny T.M c.A (tests ifs env) (fun ok s₃=>
    if ok=true then wpAny T.M c.A (eval eltx env) (fun x s₄=>wpAny T.M c.A (call (.builtin "list.append") [.ref D,x]) (fun _ s₅=>∃ m,m < n∧CI T env sc lay ρ tg (cst fc fe tg ρ) xs D fp wr St g0 out H' m s₅) noE s₄) noE s₃ else ∃ m,m < n∧CI T env sc lay ρ tg (cst fc fe tg ρ) xs D fp wr St g0 out H' m s₃) noE s₂) noE s₂) noE s₁) noE s:=
 ci _ fun i l g H ys zs vs m e1 e2 e3 o f lo cg st r len rest e5=>by
 have hw:∀ {f:Tag→Bool},(∀ o,f (.held o)=false)→∀ b∈wr,f (g b)=false:=fun h b m=>(cg.2.2.1 b m).elim fun o e=>e▸h o
 have keep:∀ {h'},(∀ b o,b∉wr→s.heap.get? b=some o→h'.get? b=some o)→∀ tk,Ok T (g.hold wr h') H { s with heap:=h',toks:=tk }∧Fr (g.hold wr h') env sc:=fun kp tk=>
  ⟨o.hold (hw fun _=>rfl) fun b n q=>(o.live q).elim fun ob e=>(kp b ob n e).trans e.symm,f.up fun b o e=>(hold_out fun m=>by obtain ⟨o',e'⟩:=cg.2.2.1 b m; rw [e'] at e; cases e).trans e⟩
 have Dw:D∉wr:=fun m=>Df (tn.sub _ m)
 subst e1
 cases l with
 | nil=>
  refine .inl (tn.done s _ _ ((show i=xs.length from e2)▸st) fun h' tk kp=>⟨rfl,?_⟩)
  obtain ⟨o',f'⟩:=keep kp tk
  have e:=Prod.mk.inj (Option.some.inj (show some (([]:List V),H)=some (zs,H') from rest))
  have e6:out=ys:=by rw [e5,← e.1,List.append_nil]
  exact hR _ _ vs m (e.2▸o') (fun b a=>(hold_out fun m=>by rw [w0 b m] at a; cases a).trans (cg.1 b a)) f' ((hold_out Dw).trans cg.2.2.2) (e6▸VRs.mono _ (hold_ky (s:={ s with heap:=h' }) (hw fun _=>rfl)) r) (e6▸Nat.le_trans len (Nat.le_trans (Nat.le_of_eq e2) small))
 | cons u l=>
  refine .inr (tn.item i s _ _ (Nat.lt_of_lt_of_eq (Nat.lt_add_of_pos_right (Nat.succ_pos _)) e2) st fun v h' tk hP st' kp=>?_)
  obtain ⟨o',f'⟩:=keep kp tk
  obtain ⟨u',hu,it⟩:=hP
  cases (e3 0).symm.trans hu
  have lv:∀ b∈wr,∃ o,h'.get? b=some o:=fun b m=>tn.live _ _ st' b (tn.sub b m)
  have c':=cg.hold (h':=h') w0 Dw lv
  refine bindE rest fun r1 k1 k2=>mapE k2 fun r2 k3 k4=>bindE k1 fun ρ' hb k5=>bindE k5 fun pv k6 k7=>?_
  refine tg_ok ow c.room.handled eo inj nm so hk hb (ItemP.mono (s:={ s with heap:=h' }) c'.1.lv it) o' f' (lo.mono (hold_ky (s:={ s with heap:=h' }) (hw fun _=>rfl))) fun g2 s2 l2 o2 f2 lo2=>?_
  have c2:=c'.nz l2
  have r2':=VRs.mono _ (l2.1.nlv) (VRs.mono _ (hold_ky (s:={ s with heap:=h' }) (hw fun _=>rfl)) r)
  have st2:=tn.frame _ _ _ st' (c'.fr o' o2 fun b h=>l2.1 b (hx_nfr _ h))
  have e6:=Prod.mk.inj k4
  have go:∀ (b:Bool) g3 s3,pv.1.truth=some b→Le g2 g3→Ok T g3 pv.2 s3→(if b=true then wpAny T.M c.A (eval eltx env) (fun x s₄=>wpAny T.M c.A (call (.builtin "list.append") [.ref D,x]) (fun _ s₅=>∃ m,m < (u::l).length∧CI T env sc lay ρ tg (cst fc fe tg ρ) xs D fp wr St g0 out H' m s₅) noE s₄) noE s3 else ∃ m,m < (u::l).length∧CI T env sc lay ρ tg (cst fc fe tg ρ) xs D fp wr St g0 out H' m s3):=fun b g3 s3 hbt l3 o3=>by
   have st3:=tn.frame _ _ _ st2 (c2.fr o2 o3 fun b h=>l3 b (hx_an _ h))
   have lo3:Lo g3 env sc lay ρ':=(lo2.weak fun j h=>h.2 h.1).mono l3.lw
   refine sel_e k7 (fun t k8=>?_) fun t k8=>?_
   ·cases hbt.symm.trans t
    refine mapE k8 fun ev1 k9 k10=>?_
    subst k10
    exact comp_elt he tn h0 Df small ⟨ρ',env,g3,pv.2,s3,eo,o3,lo3⟩ (f2.le l3) (c2.le l3) st3 (VRs.mono _ l3.lv r2') len e2 e3 hb k9 (k3.trans (congrArg some (Prod.ext (rfl:r2.1=r2.1) e6.2))) (e5.trans (congrArg (ys++·) e6.1.symm))
   ·cases hbt.symm.trans t
    cases k8
    exact CI.of g3 pv.2 vs m e2 e3 o3 (f2.le l3) lo3 hb (c2.le l3) st3 (VRs.mono _ l3.lv r2') (Nat.le_succ_of_le len) (k3.trans (congrArg some (Prod.ext (rfl:r2.1=r2.1) e6.2))) (e5.trans (congrArg (ys++·) e6.1.symm))
  rcases tst with ⟨ei,hc⟩ | ⟨y,ei,hc⟩
  ·subst ei
   cases (hc _ _).symm.trans k6
   exact wpAny_tests_nil (go true g2 s2 rfl .rf o2)
  ·subst ei
   have hp:∃ b,pv.1.truth=some b:=sel_e k7 (fun t _=>⟨_,t⟩) fun t _=>⟨_,t⟩
   obtain ⟨b,hp⟩:=hp
   exact wpAny_tests_one (hc.tst ⟨ρ',env,g2,H,s2,eo,o2,lo2.weak fun j h=>h.2 h.1⟩ (k6.trans (congrArg some (Prod.ext (bool_e hp fun e=>e) (rfl:pv.2=pv.2)))) fun g3 s3 l3 o3=>go b g3 s3 hp l3 o3)
end
section
variable {T:Tp} {c:Cf T} {g g' g0:G} {H H' H1:Hp} {s s':Shared} {env:Env} {sc csc:Scope} {lay ly:Lay} {ρ:List Sl} {tg:List Nat} {xs:List V} {L:Addr} {cl:List (Str×Addr)} {i:Nat} {q:Prop} {v:V} {x:Value} {ns:List Str} {id:Str} {o:Obj} {m:Str→Option Value}
theorem injOk_e (h:injOk lay=true):LayInj lay:=fun i j id h1 h2=>by
 have e:=fun (i:Nat) (h1:lay[i]?=some (some id))=>orE (q:=lay.idxOf? (some id)=some i) (List.all_eq_true.mp h (some id,i) (List.mk_mem_zipIdx_iff_getElem?.mpr h1)) (fun h=>nomatch h) fun h=>beq_iff_eq.mp h
 exact Option.some.inj ((e i h1).symm.trans (e j h2))
theorem tgOk_e (h:tgOk csc lay tg ns ly=true) (k:LayInj ly→KindOk csc ly tg ns→(∀ i id,i∉tg→ly[i]?=some (some id)→lay[i]?=some (some id)∧csc.names.lookup id=some .free)→q):q:=
 andE h fun h1 h=>andE h fun h2 h=>andE h fun h3 h4=>andE h2 fun h5 h6=>k (injOk_e h1) ⟨of_decide_eq_true h5,fun p hp=>⟨.inl (beq_iff_eq.mp (List.all_eq_true.mp h3 _ (List.of_mem_zip hp).2)),beq_iff_eq.mp (List.all_eq_true.mp h6 p hp)⟩⟩
  fun i id n e=>orE (List.all_eq_true.mp h4 (some id,i) (List.mk_mem_zipIdx_iff_getElem?.mpr e)) (fun h=>nomatch h) fun h=>orE h (fun h=>absurd (List.contains_iff_mem.mp h) n) fun h=>andE h fun h7 h8=>⟨beq_iff_eq.mp h7,beq_iff_eq.mp h8⟩
noncomputable def ScIn (sc csc:Scope):Prop:=csc.kind = .function∧(∀ x k,csc.names.lookup x=some k→k = .local∨k = .free∨k = .globalImplicit)∧(∀ x,csc.names.lookup x=some .free→sc.names.lookup x=some .cell)∧∀ p∈csc.names,csc.names.lookup p.1=some p.2
theorem compScOk_e (h:compScOk sc csc=true):ScIn sc csc:=andE h fun h1 h=>andE h fun h2 h3=>
 ⟨beq_iff_eq.mp h1,fun x k e=>andE (List.all_eq_true.mp h2 _ (mem_of_lookup e)) fun _ h=>orE h (fun h => .inl (beq_iff_eq.mp h)) fun h => .inr (orE h (fun h => .inl (beq_iff_eq.mp h)) fun h => .inr (beq_iff_eq.mp h)),
  fun x e=>orE (List.all_eq_true.mp h3 _ (mem_of_lookup e)) (fun h=>nomatch h) fun h=>beq_iff_eq.mp h,fun p hp=>andE (List.all_eq_true.mp h2 _ hp) fun h _=>beq_iff_eq.mp h⟩
theorem ScIn.nocell (h:ScIn sc csc):csc.names.lookup id≠some .cell:=fun e=>(h.2.1 _ _ e).elim (fun e=>nomatch e) fun e=>e.elim (fun e=>nomatch e) fun e=>nomatch e
noncomputable abbrev Cov (env:Env) (cl:List (Str×Addr)) (n:Str):Prop:=cl.lookup n=env.cells.lookup n
theorem closure_loop (f:Str×NameKind→List (Str×Addr)→Sem (ForInStep (List (Str×Addr)))) (hf:∀ name kind cells,f (name,kind) cells=if kind == .free then (do let a ← cellOf env name; pure (.yield ((name,a)::cells))) else pure (.yield cells)) :
  ∀ (names:List (Str×NameKind)) (acc:List (Str×Addr)),(∀ p∈names,p.2 = .free→∃ c,env.cells.lookup p.1=some c)→∃ cl,forIn names acc f=pure cl∧(∀ n,Cov env acc n→Cov env cl n)∧∀ n,(n,.free)∈names→Cov env cl n
 | [],acc,_=>⟨acc,rfl,fun _ h=>h,fun _ h=>nomatch h⟩
 | p::r,acc,h=>by
  by_cases hk:p.2 = .free
  ·obtain ⟨c,hc⟩:=h p (.head _) hk
   obtain ⟨cl,e1,e2,e3⟩:=closure_loop f hf r ((p.1,c)::acc) fun p hp=>h p (.tail _ hp)
   have e4:Cov env ((p.1,c)::acc) p.1:=by unfold Cov; rw [List.lookup_cons,beq_self_eq_true]; exact hc.symm
   refine ⟨cl,?_,fun n hn=>e2 n ?_,fun n hn=>(List.mem_cons.mp hn).elim (fun e=>e2 n (have e':n=p.1:=congrArg Prod.fst e; by rw [e']; exact e4)) (e3 n)⟩
   ·rw [List.forIn_cons,hf p.1 p.2,if_pos (beq_iff_eq.mpr hk)]
    unfold cellOf
    rw [hc]
    exact e1
   ·unfold Cov
    rw [List.lookup_cons]
    cases e:n == p.1 with
    | true=>rw [beq_iff_eq.mp e,hc]
    | false=>exact hn
  ·obtain ⟨cl,e1,e2,e3⟩:=closure_loop f hf r acc fun p hp=>h p (.tail _ hp)
   refine ⟨cl,?_,e2,fun n hn=>(List.mem_cons.mp hn).elim (fun e=>absurd (congrArg Prod.snd e).symm hk) (e3 n)⟩
   rw [List.forIn_cons,hf p.1 p.2,if_neg fun e=>hk (beq_iff_eq.mp e)]
   exact e1
theorem closure_ok (h:ScIn sc csc) (e:EnvOk sc env) (k:∀ cl,closureFor csc env=pure cl→(∀ x,csc.names.lookup x=some .free→cl.lookup x=env.cells.lookup x)→q):q:=by
 obtain ⟨cl,e1,_,e3⟩:=closure_loop (env:=env) (fun p cells=>if p.2 == .free then (do let a ← cellOf env p.1; pure (.yield ((p.1,a)::cells))) else pure (.yield cells)) (fun _ _ _=>rfl) csc.names [] fun p hp hf=>e.cells _ (h.2.2.1 p.1 ((h.2.2.2 p hp).trans (congrArg some hf)))
 refine k cl ?_ fun x hx=>e3 x (mem_of_lookup hx)
 unfold closureFor
 simp only [bind_pure]
 rw [← e1]
theorem lookup_rel {f:Str×NameKind→Str×NameKind} (hf:∀ p,(f p).1=p.1):∀ {l:List (Str×NameKind)} {x:Str} {k:NameKind},l.lookup x=some k→(l.map f).lookup x=some (f (x,k)).2
 | [],_,_,h=>nomatch h
 | p::r,x,k,h=>by
  show List.lookup x ((((f p).1,(f p).2))::r.map f)=_
  rw [List.lookup_cons] at h ⊢
  rw [hf p]
  cases e:x == p.1 with
  | true=>rw [e] at h; rw [beq_iff_eq.mp e,← Option.some.inj h]
  | false=>rw [e] at h; exact lookup_rel hf h
theorem comp_kind {k:NameKind} (h:csc.names.lookup id=some k):Env.kindOf (compEnvC csc cl L env) id=some (if (k == NameKind.free&&env.scope.kind == .function&&env.kindOf id == some .cell) then (id,NameKind.cell) else (id,k)).2:=
 lookup_rel (f:=fun (n,k)=>if (k == NameKind.free&&env.scope.kind == .function&&env.kindOf n == some .cell) then (n,NameKind.cell) else (n,k)) (fun p=>by dsimp only; split <;> rfl) h
theorem comp_env (h:ScIn sc csc) (e:EnvOk sc env):EnvOk csc (compEnvC csc cl L env):=
 ⟨h.1,fun x hx=>comp_kind hx,fun x hx=>comp_kind hx,fun x hx=>hx.elim (fun hx=>absurd hx h.nocell) fun hx=>by
  rw [comp_kind hx]
  split
  ·exact .inl rfl
  ·exact .inr rfl,fun x hx=>absurd hx h.nocell,fun x hx=>absurd hx h.nocell,e.globals,e.builtins⟩
theorem comp_lo (h:ScIn sc csc) (hl:∀ i id,i∉tg→ly[i]?=some (some id)→lay[i]?=some (some id)∧csc.names.lookup id=some .free) (hc:∀ x,csc.names.lookup x=some .free→cl.lookup x=env.cells.lookup x) (lo:Lo g env sc lay ρ) (l:Lw g g'):LoS (·∈tg) g' (compEnvC csc cl L env) csc ly ρ:=fun i id sl n e1 e2=>
 have ⟨e3,e4⟩:=hl i id n e1
 (lo i id sl (fun h=>h) e3 e2).via (l.weak (vo_nh i)) fun y vi q _ k=>vi q (fun _ _ a=>nomatch (h.2.2.1 id e4).symm.trans a) fun c o _ a b d=>k c o (.inr e4) ((hc id e4).trans a) ((l c (by rw [b]; rfl)).trans b) d
end
noncomputable def f_comp (heap:Bool) (tg:List Nat) (fi:FI) (fe fc:FE):FE:=fun ρ H=>(fi ρ H).bind fun r=>(compV (cst fc fe tg ρ) r.1 r.2).map (mk' heap)
section
variable {T:Tp} {c:Cf T} {sc csc:Scope} {lay ly:Lay} {st:Bool} {v:V} {H H' H1:Hp} {x y z eltx target iter:Expr} {q:Prop} {Q:Value→Shared→Prop} {fe fc:FE} {fi:FI} {me mi mc:ME} {pos:Pos} {g g':G} {s s':Shared} {tg:List Nat} {ns:List Str} {ifs:List Expr} {xs out:List V} {env:Env}
theorem any_no {t:Tag} (h:t.any=false):t = .no:=by cases t <;> first | rfl | exact nomatch h
theorem foldedSet_of (h:notSet x=true) (y:Value):foldedSetIterable x env y=pure y:=by
 cases x <;> first | rfl | cases h
theorem isTg_of (h:tgNames target=some ns):isTg target=true:=tgNames_e h (fun _ _ e _=>e▸rfl) fun _ _ _ e _=>e▸rfl
noncomputable def NxC (T:Tp) (g:G) (H:Hp) (out:List V) (Q:Value→Shared→Prop):Prop:=∀ D g' s' vs m,Le g g'→Ok T g' H s'→g' D = .no→s'.heap.get? D=some (lstObj vs m)→VRs out g' vs→out.length≤room+2→2≤D→Q (.ref D) s'
noncomputable def NxG (T:Tp) (A:Around) (g:G) (H:Hp) (out:List V) (use:Option (Value→Sem Unit)) (Q:Value→Shared→Prop):Prop:=∀ D L g' s' vs m oL mL,Le g g'→Ok T g' H s'→g' D = .no→g' L = .held oL→NsF oL mL→g L = .no→s'.heap.get? D=some (lstObj vs m)→VRs out g' vs→out.length≤room+2→2≤D→compPost T.M A noE use Q (.ref D) L (.ok .next) s'
theorem put_kyo {f:Tag→Bool} {L:Addr} {t:Tag} (l:Ky f g g') (h:g L = .no) (hf:f .no=false:=by rfl):Ky f g (g'.put L t):=fun b a=>(put_ne fun e:b=L=>by rw [e,h,hf] at a; cases a).trans (l b a)
theorem le_no {L:Addr} (l:Le g g') (h:g' L = .no):g L = .no:=any_no (by
 cases e:(g L).any with
 | false=>rfl
 | true=>rw [← l L e,h] at e; cases e)
theorem comp_gen {use:Option (Value→Sem Unit)} (hsc:ScIn sc csc) (li:LayInj ly) (hk:KindOk csc ly tg ns) (hl:∀ i id,i∉tg→ly[i]?=some (some id)→lay[i]?=some (some id)∧csc.names.lookup id=some .free) (nm:tgNames target=some ns) (so:tgSole target=Nat.beq tg.length 1) (hi:Xi c sc lay (Nat.beq tg.length 1) fi iter)
  (tst:(ifs=[]∧∀ ρ H,fc ρ H=some (.bool true,H))∨∃ y,ifs=[y]∧Xv c csc ly true fc y) (he:Xv c csc ly true fe eltx) (p:Pt T sc lay) (e1:fi p.ρ p.H=some (xs,H1)) (e2:compV (cst fc fe tg p.ρ) xs H1=some (out,H')) (k:NxG T c.A p.g H' out use Q) :
  wpAny T.M c.A (comprehension (.ListComp eltx [⟨target,iter,ifs,0⟩] csc pos) csc p.env (firstIterPos [⟨target,iter,ifs,0⟩] pos) (newList []) (firstAsync [⟨target,iter,ifs,0⟩]) (firstIter [⟨target,iter,ifs,0⟩] p.env) use) Q noE p.s:=closure_ok hsc p.eo fun cl hcl hc=>by
 refine wpAny_comprehension_free (use:=use) (g:=⟨target,iter,ifs,0⟩) (gs:=[]) rfl (foldedSet_of hi.1) hcl hsc.1 (fun x hx h=>h▸hsc.2.2.2 x hx) (hi.2 p e1 (isTg_of nm) so fun it g0 s2 l0 o0 ia small=>ia _ fun I fr fp wr St ei tn st hw hfr hfp=>?_)
 subst ei
 refine wpAny_newObj_type (wpAny_newFunctionEnv (fun y hy e=>hsc.nocell ((hsc.2.2.2 y hy).trans (congrArg some e))) (fun _ hy=>nomatch hy) (fun h₁ hns hsb=>?_) hsc.1)
 dsimp only at hns hsb ⊢
 obtain ⟨oL,hoL,NL⟩:=NsF.of hns
 have hD0:g0 s2.heap.objs.size = .no:=o0.new
 have kp:∀ b o,s2.heap.get? b=some o→h₁.get? b=some o:=fun b o e=>hsb.extBut b o (Nat.ne_of_lt (by rw [Heap.size_push]; exact Nat.lt_succ_of_lt (Heap.lt_size e))) (Heap.get?_push_of_some _ (Heap.get?_push_of_some _ e))
 have hD:h₁.get? s2.heap.objs.size=some (lstObj [] 0):=hsb.extBut _ _ (Nat.ne_of_lt (by rw [Heap.size_push]; exact Nat.lt_succ_self _)) (Heap.get?_push_of_some _ (Heap.get?_push_size _ rfl))
 have hLn:s2.heap.get? (s2.heap.push { cls := .type "list",dict:=none,data := .seq ([]:List Value).toArray }).objs.size=none:=get_none (by rw [Heap.size_push]; exact Nat.le_succ _)
 have hLD:s2.heap.objs.size≠(s2.heap.push { cls := .type "list",dict:=none,data := .seq ([]:List Value).toArray }).objs.size:=by rw [Heap.size_push]; exact Nat.ne_of_lt (Nat.lt_succ_self _)
 revert hLn hLD hoL
 clear hns hsb
 generalize (s2.heap.push { cls := .type "list",dict:=none,data := .seq ([]:List Value).toArray }).objs.size=L
 intro hoL hLn hLD
 rw [← so] at tn
 have hL0:=o0.dead hLn
 have live:∀ b∈fp,∃ o,s2.heap.get? b=some o:=tn.live _ _ st
 have hF0:∀ b∈s2.heap.objs.size::fp.filter (fun b => !(g0 b).any),g0 b = .no:=fun b m=>(List.mem_cons.mp m).elim (fun e=>e▸hD0) fun m=>any_no (notE (List.mem_filter.mp m).2)
 have LF:L∉s2.heap.objs.size::fp.filter (fun b => !(g0 b).any):=fun m=>(List.mem_cons.mp m).elim (fun e=>hLD e.symm) fun m=>(live _ (List.mem_filter.mp m).1).elim fun o e=>nomatch hLn.symm.trans e
 have inF:∀ b∈fp,g0 b = .no→b∈s2.heap.objs.size::fp.filter (fun b => !(g0 b).any):=fun b m e => .tail _ (List.mem_filter.mpr ⟨m,by rw [e]; rfl⟩)
 have DF:s2.heap.objs.size∈s2.heap.objs.size::fp.filter (fun b => !(g0 b).any) := .head _
 have Df:s2.heap.objs.size∉fp:=fun m=>(live _ m).elim fun o e=>nomatch (get_none (Nat.le_refl _)).symm.trans e
 revert hF0 LF inF DF
 generalize s2.heap.objs.size::fp.filter (fun b => !(g0 b).any)=F
 intro hF0 LF inF DF
 have le1:Le g0 ((g0.hold F h₁).put L (.frm oL)):=fun b a=>(put_ne fun e:b=L=>by rw [e,hL0] at a; cases a).trans (hold_out fun m=>by rw [hF0 b m] at a; cases a)
 have hd:∀ b∈F,∀ o,h₁.get? b=some o→(g0.hold F h₁).put L (.frm oL) b = .held o:=fun b m o e=>(put_ne fun e':b=L=>LF (e'▸m)).trans (hold_in m e)
 have o1:∀ tk,Ok T ((g0.hold F h₁).put L (.frm oL)) H1 { s2 with heap:=h₁,toks:=tk }:=fun tk=>(o0.hold (fun b m=>by rw [hF0 b m]; rfl) (fun b n q=>(o0.live q).elim fun ob e=>(kp b ob e).trans e.symm)).put (by rw [hold_out LF,hL0]; rfl) hoL (fun _ _ _=>rfl) rfl rfl
 have lv1:∀ b∈fp,∃ o,h₁.get? b=some o:=fun b m=>(live b m).elim fun o e=>⟨o,kp b o e⟩
 have w0:∀ b∈wr,g0 b = .no:=fun b m=>hfr b (hw b m)
 have hc':∀ b∈fp,g0 b = .no→∃ o,(g0.hold F h₁).put L (.frm oL) b = .held o:=fun b m e=>(lv1 b m).elim fun o e'=>⟨o,hd b (inF b m e) o e'⟩
 have cg:Cg s2.heap.objs.size fp wr g0 (lstObj [] 0) ((g0.hold F h₁).put L (.frm oL)):=⟨le1,fun b m=>(hfp b m).elim (fun h=>(hc' b m (hfr b h)).elim fun o e=>by rw [e]; rfl) fun ⟨o,e⟩=>by rw [le1 b (by rw [e]; rfl),e]; rfl,fun b m=>hc' b (tn.sub b m) (w0 b m),hd _ DF _ hD⟩
 have st1:=tn.frame _ _ _ st fun b _ o e=>kp b o e
 have ow:Ow (An g0) (compEnvC csc cl L p.env) csc:=⟨fun h=>Bool.noConfusion ((congrArg Tag.any hL0).symm.trans (show (g0 L).any=true from h)),fun _ _ h=>absurd h hsc.nocell⟩
 have hR:∀ g s vs m,Ok T g H' s→Le g0 g→Fr g (compEnvC csc cl L p.env) csc→g s2.heap.objs.size = .held (lstObj vs m)→VRs out g vs→out.length≤room+2→compPost T.M c.A noE use Q (.ref s2.heap.objs.size) L (.ok .next) s:=fun g s vs m o' l' f' hD' r len=>by
  obtain ⟨o2,m2,h2,N2⟩:=f'.loc
  have cL:g.cut g0 L = .no:=cut_no hL0 (by rw [show g L=_ from h2]; rfl)
  have pL:=le_no l0 hL0
  exact k _ L ((g.cut g0).put L (.held o2)) s vs m o2 m2 (put_kyo (l0.trans (cut_le l')) pL) (o'.cut.put (by rw [cL]; rfl) (o'.fr h2) (fun _ _ _=>rfl) rfl rfl) ((put_ne hLD).trans (cut_no hD0 (by rw [hD']; rfl))) put_self N2 pL (o'.hd hD') (VRs.mono _ (Ky.trans cut_lv (put_lv cL)) r) len o0.lo
 have loop:∀ tk,codeAny T.M c.A (.compLoop (.ListComp eltx [⟨target,iter,ifs,0⟩] csc pos) 0 (.ref I) (.ref s2.heap.objs.size) (compEnvC csc cl L p.env)) (compPost T.M c.A noE use Q (.ref s2.heap.objs.size) L) { s2 with heap:=h₁,toks:=tk }:=fun tk=>
  comp_loop (CI T (compEnvC csc cl L p.env) csc ly p.ρ tg (cst fc fe tg p.ρ) xs s2.heap.objs.size fp wr St g0 out H') (fun n s ci=>comp_turn tst he (comp_env hsc p.eo) li nm so hk ow tn hD0 Df w0 small hR ci) xs.length
   fun _ k=>k 0 xs _ H1 [] out [] 0 rfl (Nat.zero_add _) (fun j=>by rw [Nat.zero_add]) (o1 tk) ⟨⟨oL,_,put_self,NL⟩,fun _ h=>absurd h hsc.nocell,fun _ _ _ h=>absurd h hsc.nocell⟩ (comp_lo hsc hl hc p.lo (l0.trans le1).lw) cg st1 .nil (Nat.zero_le _) e2 rfl
 exact codeAny_compStart_list (loop _) (tn.self 0 _ _ _ st1 (loop _))
theorem held_ne {D L:Addr} {o:Obj} (hD:g D = .no) (hL:g L = .held o):D≠L:=fun e=>by rw [e,hL] at hD; cases hD
theorem NxC.gen {A:Around} (k:NxC T g H out Q):NxG T A g H out none Q:=fun D L g' s' vs m oL mL l o hD hL N hL0 e r len lo=>⟨mL,N.ns (o.hd hL),fun h' sb=>
 k D (g'.put L .no) { s' with heap:=h' } vs m (put_kyo l hL0) (o.put (by rw [hL]; rfl) trivial (fun b n _=>sb.2 b n) rfl rfl) ((put_ne (held_ne hD hL)).trans hD) ((sb.2 D (held_ne hD hL)).trans e) (VRs.mono _ (put_ky (by rw [hL]; rfl)) r) len lo⟩
end
noncomputable def FlR (g:G):Fl→Flow→Prop
 | .next,f=>f = .next
 | .ret v,f=>∃ x,f = .ret x∧VR v g x
noncomputable def NxS (T:Tp) (env:Env) (sc:Scope) (lay:Lay) (g:G) (r:Fl×St) (Q:Flow→Shared→Prop):Prop:=∀ fl g' s',Mv g g'→Ok T g' r.2.2 s'→Fr g' env sc→Lo g' env sc lay r.2.1→FlR g' r.1 fl→Q fl s'
structure LyOk (sc:Scope) (lay:Lay):Prop where
 inj:LayInj lay
 kind:∀ (i:Nat) (id:Str),lay[i]?=some (some id)→sc.names.lookup id=some .local∨sc.names.lookup id=some .cell
noncomputable def Takes (T:Tp) (i:Nat) (out:List V) (H:Hp) (sl:Sl) (H2:Hp):Prop:=∀ {g:G} {D:Addr} {vs:List Value} {m:Nat} {s:Shared},Ok T g H s→g D = .no→s.heap.get? D=some (lstObj vs m)→VRs out g vs→out.length≤room+2→2≤D→∃ t,Ok T (g.put D t) H2 s∧SlX (g.put D t) i sl (.ref D)
noncomputable def f_new (C:Calls) (cl:Cls) (fs:FEs):FE:=fun ρ H=>(fs ρ H).bind fun r=>C (.new cl) r.1 r.2
section
variable {T:Tp} {c:Cf T} {sc csc:Scope} {lay ly:Lay} {st:Bool} {v:V} {H H' H1:Hp} {x y z eltx target iter:Expr} {q:Prop} {Q:Value→Shared→Prop} {fe fc:FE} {fi:FI} {me mi mc:ME} {pos:Pos} {g g':G} {s s':Shared} {tg:List Nat} {ns:List Str} {ifs:List Expr} {xs out:List V} {env:Env} {fs:FEs} {ms:MEs}
theorem new_eq {C:Calls} {cl:Cls}:f_call C (.new cl) fs []=f_new C cl fs:=by unfold f_call f_new; simp only [List.append_nil]
theorem px_new' {cl:Cls} (ha:PXs c fs ms):PX c (f_new c.C cl fs) (m_new cl ms):=fun _ _ _ _ L h=>new_eq▸px_new ha L h
theorem takes_mk {heap:Bool} {i:Nat}:Takes T i out H (.v (mk' heap (out,H)).1) (mk' heap (out,H)).2:=fun {g D vs m s} o n e r len lo=>by
 cases heap with
 | true=>exact ⟨.ours H.length,o.add (by rw [n]; rfl) e lo ⟨len,fun _ k=>k vs m rfl (VRs.mono _ (put_lv n) r)⟩,fun _ k=>k D put_self rfl⟩
 | false=>exact ⟨.fix (lstObj vs m),o.put (by rw [n]; rfl) e (fun _ _ _=>rfl) rfl rfl,len,fun _ k=>k D vs m rfl put_self (VRs.mono _ (put_lv n) r)⟩
theorem takes_loc {i:Nat}:Takes T i out H (.loc out) H:=fun {g D vs m s} o n e r len lo=>⟨.own i (lstObj vs m),o.put (by rw [n]; rfl) e (fun _ _ _=>rfl) rfl rfl,D,vs,m,rfl,put_self,VRs.mono _ (put_lv n) r,len⟩
theorem isKb_e {e:Mine.E} {b:Bool} (h:e.isK (.bool b)=true):e = .k (.bool b):=vEk_of (P:=fun e=>e = .k (.bool b)) h fun v h=>cOf_e (beq_iff_eq.mp h) (fun _ e=>nomatch e) (fun _ e1 e2=>by cases e2; exact congrArg E.k e1) (fun _ _ e=>nomatch e) fun _ _ e=>nomatch e
noncomputable def Xc {T:Tp} (c:Cf T) (sc:Scope) (lay:Lay) (fi:FI) (fe fc:FE) (tg:List Nat) (x:Expr):Prop:=Plain x∧∀ (p:Pt T sc lay) {xs out:List V} {H1 H':Hp},fi p.ρ p.H=some (xs,H1)→compV (cst fc fe tg p.ρ) xs H1=some (out,H') →
 (∀ {Q:Value→Shared→Prop},NxC T p.g H' out Q→wpAny T.M c.A (eval x p.env) Q noE p.s) ∧
 ∀ {i:Nat} {id:Str} {sl:Sl} {H2:Hp} {Q:Flow→Shared→Prop} {p' pos:Pos},LyOk sc lay→Fr p.g p.env sc→lay[i]?=some (some id)→Takes T i out H' sl H2→NxS T p.env sc lay p.g (.next,p.ρ.set i sl,H2) Q→wpAny T.M c.A (exec (.Assign [.Name id p'] x pos) p.env) Q noE p.s
theorem ow0 {env:Env}:Ow (fun _=>False) env sc:=⟨fun h=>h,fun _ _ _ _ h=>h⟩
theorem LoS.ok {S:Nat→Prop} {lay:Lay} {ρ:List Sl} (lo:LoS (fun j=>noS j∧S j) g env sc lay ρ):Lo g env sc lay ρ:=lo.weak fun _ h=>h.1
theorem NxS.list {A:Around} {D:Addr} {vs:List Value} {m i:Nat} {id:Str} {sl:Sl} {H2:Hp} {P:Unit→Shared→Prop} {p:Pt T sc lay} (ly:LyOk sc lay) (f:Fr p.g p.env sc) (li:lay[i]?=some (some id)) (tk:Takes T i out H' sl H2) (l:Le p.g g) (o:Ok T g H' s) (hD:g D = .no) (e:s.heap.get? D=some (lstObj vs m)) (r:VRs out g vs) (len:out.length≤room+2) (lo:2≤D)
  (k:∀ g' s',(∀ L o,g L = .held o→g' L = .held o)→Mv p.g g'→Ok T g' H2 s'→Fr g' p.env sc→Lo g' p.env sc lay (p.ρ.set i sl)→P () s'):wpAny T.M A (storeName p.env id (.ref D)) P noE s:=by
 obtain ⟨t,o2,sx⟩:=tk o hD e r len lo
 have l2:=l.trans (put_le (t:=t) hD)
 exact store ow0 p.eo o2 (f.le l2) (p.lo.mono l2.lw) ly.inj (ly.kind i id li) li sx fun g' s' l' o' f' lo'=>k g' s' (fun L o hL=>(l'.1 L (by rw [put_ne (held_ne hD hL).symm,hL]; rfl)).trans ((put_ne (held_ne hD hL).symm).trans hL)) (l2.mv.trans l'.1.nmv) o' f' lo'.ok
theorem comp_x0 {p:Pt T sc lay} (go:∀ {use:Option (Value→Sem Unit)} {Q:Value→Shared→Prop},NxG T c.A p.g H' out use Q→wpAny T.M c.A (comprehension (.ListComp eltx [⟨target,iter,ifs,0⟩] csc pos) csc p.env (firstIterPos [⟨target,iter,ifs,0⟩] pos) (newList []) (firstAsync [⟨target,iter,ifs,0⟩]) (firstIter [⟨target,iter,ifs,0⟩] p.env) use) Q noE p.s) :
  (∀ {Q:Value→Shared→Prop},NxC T p.g H' out Q→wpAny T.M c.A (eval (.ListComp eltx [⟨target,iter,ifs,0⟩] csc pos) p.env) Q noE p.s) ∧
  ∀ {i:Nat} {id:Str} {sl:Sl} {H2:Hp} {Q:Flow→Shared→Prop} {p' pos':Pos},LyOk sc lay→Fr p.g p.env sc→lay[i]?=some (some id)→Takes T i out H' sl H2→NxS T p.env sc lay p.g (.next,p.ρ.set i sl,H2) Q→wpAny T.M c.A (exec (.Assign [.Name id p'] (.ListComp eltx [⟨target,iter,ifs,0⟩] csc pos) pos') p.env) Q noE p.s:=by
 refine ⟨fun {Q} k=>by rw [eval_ListComp]; exact go k.gen,fun {i id sl H2 Q p' pos'} ly f e3 tk k=>?_⟩
 have hs:∃ b,swapsWith (.ListComp eltx [⟨target,iter,ifs,0⟩] csc pos) (some (.Name id p')) pos'.line p.env=pure b:=⟨_,rfl⟩
 obtain ⟨b,hs⟩:=hs
 cases b with
 | false=>exact wpAny_Assign_Name (by rw [eval_ListComp]; exact go (NxC.gen fun D g s vs m l o hD e r len lo=>NxS.list ly f e3 tk l o hD e r len lo fun g' s' _ l' o' f' lo'=>k .next g' s' l' o' f' lo' rfl)) hs
 | true=>
  rw [exec_Assign_Name_used _ _ _ _ hs]
  refine wpAny_bind (wpAny_standAt (wpAny_bind ?_))
  rw [arm_evalThenUse_ListComp]
  dsimp only
  refine wpAny_bind ?_
  exact go (use:=some (assign (.Name id p') p.env)) fun D L g s vs m oL mL l o hD hL N hL0 e r len lo=>wpAny_assign_Name (NxS.list ly f e3 tk l o hD e r len lo fun g' s' hh l' o' f' lo'=>
   have hL':=hh L oL hL
   ⟨mL,N.ns (o'.hd hL'),fun h' sb=>wpAny_pure (wpAny_pure (k .next (g'.put L .no) _ (put_kyo l' hL0) (o'.put (by rw [hL']; rfl) trivial (fun b n _=>sb.2 b n) rfl rfl) (f'.up fun b o e=>(put_ne fun e':b=L=>by rw [e',hL'] at e; cases e).trans e) (lo'.mono (put_ky (by rw [hL']; rfl))) rfl))⟩)
theorem comp_x {cE:Mine.E} (kc:cE.isK (.bool true)=true→∀ ρ H,fc ρ H=some (.bool true,H)) (hi:PXi c fi mi) (he:PX c fe me) (hc:PX c fc mc) (h:m_comp tg cE me mi mc st sc lay x=true) (L:LayInj lay):Xc c sc lay fi fe fc tg x:=
 vLC_of (P:=Xc c sc lay fi fe fc tg) h fun ex gs csc pos h=>v1_of (P:=fun gs=>Xc c sc lay fi fe fc tg (.ListComp ex gs csc pos)) h fun ⟨target,iter,ifs,a⟩ h=>andE h fun h1 h=>andE h fun h2 h=>andE h fun h3 h=>vO_e h fun ns nm h=>andE h fun h4 h=>andE h fun h5 h=>andE h fun h6 h7=>
  beqE (fun a=>Xc c sc lay fi fe fc tg (.ListComp ex [⟨target,iter,ifs,a⟩] csc pos)) (beq_iff_eq.mpr (beq_iff_eq.mp h1:a=0).symm) ⟨fun _ _=>rfl,fun p {_ _ _ _} e1 e2=>tgOk_e h5 fun li hk hl=>comp_x0 fun {_ _} k=>comp_gen (compScOk_e h2) li hk hl nm (beq_iff_eq.mp h4) (hi L h3)
   (orE h7 (fun h=>andE h fun a b => .inl ⟨List.isEmpty_iff.mp a,kc b⟩) fun h => .inr (v1_of (P:=fun ys=>∃ y,ys=[y]∧Xv c csc _ true fc y) h fun y h=>andE h fun _ h=>⟨y,rfl,hc li h⟩)) (he li h6) p e1 e2 k⟩
theorem px_comp {heap:Bool} {cE:Mine.E} (kc:cE.isK (.bool true)=true→∀ ρ H,fc ρ H=some (.bool true,H)) (hi:PXi c fi mi) (he:PX c fe me) (hc:PX c fc mc):PX c (f_comp heap tg fi fe fc) (m_comp tg cE me mi mc):=fun st sc lay x L h=>
 have ⟨a,b⟩:=comp_x kc hi he hc h L
 plain a fun p {_ _} e {Q} k=>bindE e fun r1 e1 e=>mapE e fun r2 e2 d=>(b p e1 e2).1 fun D g s vs m l o n hD r len lo=>by
  obtain ⟨t,o2,sx⟩:=takes_mk (heap:=heap) (i:=0) o n hD r len lo
  exact (k.up l).pr d _ (g.put D t) _ (put_le n) o2 (.of sx)
theorem kt {e:Mine.E} (h:e.isK (.bool true)=true) (ρ:List Sl) (H:Hp):ev c.C ρ e H=some (.bool true,H):=by rw [isKb_e h]; rfl
theorem kn {e:Mine.E} (h:e.isK .none=true):(fun ρ=>ev c.C ρ e)=f_k .none:=by rw [isK_e h]; rfl
theorem ev_ok (e:Mine.E):PX c (fun ρ=>ev c.C ρ e) (mE e):=E.rec (motive_1:=fun e=>PX c (fun ρ=>ev c.C ρ e) (mE e)) (motive_2:=fun es=>PXs c (fun ρ=>evs c.C ρ es) (mEs es)∧LenOk (fun ρ=>evs c.C ρ es) (mEs es)) (motive_3:=fun i=>PXi c (fun ρ=>evI c.C ρ i) (mI i))
 (fun _=>px_k) (fun _=>px_g) (fun _=>px_v) (fun _=>px_l) (fun _ o _ _ a b=>(px_bin (o:=o) a b :)) (fun _ o _ _ a b=>(px_cmp (o:=o) a b :)) (fun _ a=>(px_not a :)) (fun _ _ a b=>(px_and a b :)) (fun _ _ a b=>(px_or a b :))
 (fun _ _ _ t a b=>(px_ite t a b :)) (fun f _ ds a=>(px_call (fn:=f) (ds:=ds) a.1 a.2 :)) (fun nm _ _ o a=>(px_mcall (nm:=nm) o a.1 :)) (fun cl _ a=>(px_new' (cl:=cl) a.1 :)) (fun _ o _ a=>(px_b1 (o:=o) a :)) (fun _ _ a b=>(px_min a b :)) (fun _ _ t a=>(px_isI (t:=t) a :)) (fun _ _ a b=>(px_app a b :)) (fun _ a=>(px_pop a :)) (fun _ _ a b=>(px_get a b :)) (fun _ nm a=>(px_attr (nm:=nm) a :))
 (fun _ _ _ a b=>(px_idx a b :)) (fun _ _ lo hi a b d=>(px_sl (lo:=lo) (hi:=hi) kn kn a b d :)) (fun _ _ a b=>(px_rsl a b :)) (fun h _ a=>(px_list (heap:=h) a.1 a.2 :)) (fun _ a=>(px_tup a.1 a.2 :)) (fun _=>px_dict0) (fun h tg _ _ _ a b d=>(px_comp (heap:=h) (tg:=tg) kt b a d :)) ⟨px_nil,len_nil⟩ (fun _ _ a b=>⟨(px_cons a b.1 :),(len_cons b.2 :)⟩) (fun _ a=>(pi_e a :)) (fun _ a=>(pi_r1 a :)) (fun _ _ a b=>(pi_r3 a b :)) (fun _ _ a b=>(pi_zip a b :)) e
end
theorem swaps_false {value:Expr} {tg:Option Expr} {l:Nat} {env:Env} (h:notComp value=true):swapsWith value tg l env=pure false:=by
 cases value <;> first | rfl | cases h
theorem swap_at {x a:Expr} {n:Str} {p:Pos} {l:Nat} {env:Env}:swapsWith x (some (.Attribute a n p)) l env=pure false:=by
 unfold swapsWith
 generalize swapsWith.match_1 (fun _=>Option Scope) x (fun _ _ s _=>some s) (fun _ _ s _=>some s) (fun _ _ _ s _=>some s) (fun _=>none)=o
 cases o <;> rfl
theorem swap_sub {x a b:Expr} {p:Pos} {l:Nat} {env:Env}:swapsWith x (some (.Subscript a b p)) l env=pure false:=by
 unfold swapsWith
 generalize swapsWith.match_1 (fun _=>Option Scope) x (fun _ _ s _=>some s) (fun _ _ s _=>some s) (fun _ _ _ s _=>some s) (fun _=>none)=o
 cases o <;> rfl
theorem swap_tup {x:Expr} {es:List Expr} {m:Nat} {p:Pos} {l:Nat} {env:Env}:swapsWithSole [.Tuple es m p] x l env=pure false:=by
 show swapsWith x (some (.Tuple es m p)) l env=pure false
 unfold swapsWith
 generalize swapsWith.match_1 (fun _=>Option Scope) x (fun _ _ s _=>some s) (fun _ _ s _=>some s) (fun _ _ _ s _=>some s) (fun _=>none)=o
 cases o <;> rfl
noncomputable abbrev FS:=St→Option (Fl×St)
noncomputable def XS {T:Tp} (c:Cf T) (sc:Scope) (lay:Lay) (f:FS) (x:Stmt):Prop:=∀ (p:Pt T sc lay) {r:Fl×St} {Q:Flow→Shared→Prop},Fr p.g p.env sc→f (p.ρ,p.H)=some r→NxS T p.env sc lay p.g r Q→wpAny T.M c.A (exec x p.env) Q noE p.s
noncomputable def XSs {T:Tp} (c:Cf T) (sc:Scope) (lay:Lay) (f:FS) (xs:List Stmt):Prop:=∀ (p:Pt T sc lay) {r:Fl×St} {Q:Flow→Shared→Prop},Fr p.g p.env sc→f (p.ρ,p.H)=some r→NxS T p.env sc lay p.g r Q→wpAny T.M c.A (execs xs p.env) Q noE p.s
noncomputable def PS {T:Tp} (c:Cf T) (f:FS) (m:MS):Prop:=∀ ⦃sc:Scope⦄ ⦃lay:Lay⦄ ⦃x:Stmt⦄,LyOk sc lay→m sc lay x=true→XS c sc lay f x
noncomputable def PSs {T:Tp} (c:Cf T) (f:FS) (m:MSs):Prop:=∀ ⦃sc:Scope⦄ ⦃lay:Lay⦄ ⦃xs:List Stmt⦄,LyOk sc lay→m sc lay xs=true→XSs c sc lay f xs
section
variable {T:Tp} {c:Cf T} {sc:Scope} {lay:Lay} {v:V} {H H':Hp} {x y z:Expr} {q:Prop} {pos:Pos} {g g':G} {s s':Shared} {env:Env} {ρ:List Sl} {r:Fl×St} {Q:Flow→Shared→Prop} {A:Around} {i:Nat} {sl:Sl} {id:Str} {w:Value} {e:Mine.E} {a:Addr} {o':Obj}
theorem evI_ok (i:I):PXi c (fun ρ=>evI c.C ρ i) (mI i):=I.casesOn (motive_3:=fun i=>PXi c (fun ρ=>evI c.C ρ i) (mI i)) i (fun a=>(pi_e (ev_ok a) :)) (fun a=>(pi_r1 (ev_ok a) :)) (fun a b=>(pi_r3 (ev_ok a) (ev_ok b) :)) (fun a b=>(pi_zip (ev_ok a) (ev_ok b) :))
theorem NxS.up (k:NxS T env sc lay g r Q) (l:Mv g g'):NxS T env sc lay g' r Q:=fun fl g'' s l'=>k fl g'' s (l.trans l')
theorem NxS.put (k:NxS T env sc lay g r Q) (h:put i sl (ρ,H)=some r):NxS T env sc lay g (.next,ρ.set i sl,H) Q:=ifE h fun _ e=>Option.some.inj e▸k
theorem NxS.at {p:Pt T sc lay} {fl:Fl} {w:Flow} (k:NxS T p.env sc lay p.g (fl,p.ρ,H') Q) (f:Fr p.g p.env sc) (l:Le p.g g) (o:Ok T g H' s) (r:FlR g fl w):Q w s:=k w g s l.mv o (f.le l) (p.lo.mono l.lw) r
theorem NxS.nx {p:Pt T sc lay} (k:NxS T p.env sc lay p.g (.next,p.ρ,H') Q) (f:Fr p.g p.env sc) (l:Le p.g g) (o:Ok T g H' s):Q .next s:=k.at f l o rfl
theorem NxS.sto {p:Pt T sc lay} (k:NxS T p.env sc lay p.g (.next,p.ρ.set i sl,H') Q) (ly:LyOk sc lay) (f:Fr p.g p.env sc) (li:lay[i]?=some (some id)) (l:Le p.g g) (o:Ok T g H' s) (r:SlX g i sl w):wpAny T.M A (storeName p.env id w) (fun _=>Q .next) noE s:=
 store ow0 p.eo o (f.le l) (p.lo.mono l.lw) ly.inj (ly.kind i id li) li r fun g' s' l' o' f' lo'=>k .next g' s' (l.mv.trans l'.1.nmv) o' f' lo'.ok rfl
theorem asg_of {P:Stmt→Prop} {t:Stmt} {f:Expr→Expr→Bool} (h:(vAsg t fun ts x _=>v1 ts fun y=>f y x)=true) (k:∀ y x pos,f y x=true→P (.Assign [y] x pos)):P t:=vAsg_of (Q:=P) h fun ts x pos h=>v1_of (P:=fun ts=>P (.Assign ts x pos)) h fun y h=>k y x pos h
theorem nm_of {P:Stmt→Prop} {t:Stmt} {f:Str→Expr→Bool} (h:(vAsg t fun ts x _=>v1 ts fun y=>vNm y fun id _=>f id x)=true) (k:∀ id p x pos,f id x=true→P (.Assign [.Name id p] x pos)):P t:=asg_of h fun y x pos h=>vNm_of (P:=fun y=>P (.Assign [y] x pos)) h fun id p h=>k id p x pos h
theorem comp_e {heap:Bool} {tg:List Nat} {elt:Mine.E} {it:I} {ce:Mine.E} (L:LayInj lay) (h:mE (.comp heap tg elt it ce) true sc lay x=true):Xc c sc lay (fun ρ=>evI c.C ρ it) (fun ρ=>ev c.C ρ elt) (fun ρ=>ev c.C ρ ce) tg x:=comp_x (st:=true) (fe:=fun ρ=>ev c.C ρ elt) (fc:=fun ρ=>ev c.C ρ ce) kt (evI_ok it) (ev_ok elt) (ev_ok ce) h L
theorem ps_assign:PS c (ex c.C (.assign i e)) (s_assign i e):=fun sc lay t L h=>nm_of (P:=XS c sc lay _) h fun id p' x pos h=>andE h fun h1 h=>andE h fun h2 h3=>orE h3 (fun nc p {_ _} f e' k=>bindE e' fun r1 e1 e2=>
  wpAny_Assign_Name ((ev_ok e L.inj h2).val p e1 fun y g1 s1 l1 o1 v1=>(k.put e2).sto L f (beq_iff_eq.mp h1) l1 o1 (sl := .v _) v1.vr1) (swaps_false nc))
 fun ic=>vCo_of (P:=fun e=>mE e true sc lay x=true→XS c sc lay (ex c.C (.assign i e)) (.Assign [.Name id p'] x pos)) ic (fun heap tg elt it ce _ h2 p {_ _} f e' k=>bindE e' fun r1 e1 e2=>bindE e1 fun r2 e3 e4=>mapE e4 fun r3 e5 e6=>
  ((comp_e L.inj h2).2 p e3 e5).2 L f (beq_iff_eq.mp h1) (e6▸takes_mk) (k.put e2)) h2
theorem ps_compl {tg:List Nat} {elt ce:Mine.E} {it:I}:PS c (ex c.C (.compl i tg elt it ce)) (s_compl i tg elt it ce):=fun sc lay t L h=>nm_of (P:=XS c sc lay _) h fun id p' x pos h=>andE h fun h1 h2 p {_ _} f e' k=>bindE e' fun r1 e1 e2=>bindE e2 fun r2 e3 e4=>
 ((comp_e L.inj h2).2 p e1 e3).2 L f (beq_iff_eq.mp h1) takes_loc (k.put e4)
theorem ps_newl:PS c (ex c.C (.newl i)) (s_newl i):=fun sc lay t L h=>nm_of (P:=XS c sc lay _) h fun id p' x pos h=>vLs_of (P:=fun x=>XS c sc lay _ (.Assign [.Name id p'] x pos)) h fun xs p2 h=>andE h fun h1 h2=>v0K h2 (fun xs=>XS c sc lay _ (.Assign [.Name id p'] (.List xs p2) pos)) fun p {_ _} f e' k=>
 wpAny_Assign_Name (wpAny_List (wpAny_items_nil ⟨by rw [sizeLine_eq]; decide,by
  have n:=p.o.new
  exact (k.put e').sto L f (beq_iff_eq.mp h1) (put_le n) (p.o.push' (ob:=lstObj [] 0) rfl (get_push (ob:=lstObj [] 0) rfl) (t := .own i (lstObj [] 0))) ⟨_,[],0,rfl,put_self,.nil,Nat.zero_le _⟩⟩)) rfl
theorem interactive_no (e:EnvOk sc env):interactive env=false:=by unfold interactive; rw [e.kind]; rfl
theorem ps_expr:PS c (ex c.C (.expr e)) (s_expr e):=fun sc lay t L h=>vEx_of (Q:=XS c sc lay _) h fun x pos h=>andE h fun h1 h2 p {_ _} f e' k=>mapE e' fun r1 e1 d=>wpAny_Expr_any ((ev_ok e L.inj h2).val p e1 fun y g1 s1 l1 o1 v1=>(d▸k).nx f l1 o1) (interactive_no p.eo) (swaps_false h1)
theorem ps_ret:PS c (ex c.C (.ret e)) (s_ret e):=fun sc lay t L h=>vRet_of (Q:=XS c sc lay _) h fun o pos h p {_ _} f e' k=>mapE e' fun r1 e1 d=>by
 subst d
 cases o with
 | some x=>exact wpAny_Return_some ((ev_ok e L.inj h).val p e1 fun y g1 s1 l1 o1 v1=>k.at f l1 o1 ⟨y,rfl,v1.vr1⟩)
 | none=>
  rw [isK_e h] at e1
  cases e1
  exact wpAny_Return_none (k.at f .rf p.o ⟨_,rfl,rfl⟩)
theorem ps_setattr {o:Mine.E} {nm:String}:PS c (ex c.C (.setattr o nm e)) (s_setattr o nm e):=fun sc lay t L h=>asg_of (P:=XS c sc lay _) h fun y x pos h=>vAt_of (P:=fun y=>XS c sc lay _ (.Assign [y] x pos)) h fun ox n p' h=>andE h fun h1 h=>andE h fun h2 h3 p {_ _} f e' k=>bindE e' fun r1 e1 e'=>bindE e' fun r2 e2 e'=>mapE e' fun H3 e3 d=>by
 rw [beq_iff_eq.mp h1]
 exact plainObj_wpAny_Assign_Attribute ((ev_ok e L.inj h3).val p e1 fun y g1 s1 l1 o1 v1=>(ev_ok o L.inj h2).val (p.to l1 o1) e2 fun z g2 s2 l2 o2 v2=>attrPut_ok o2 v2 (VR.mono _ l2.lv v1.vr1) e3 fun g3 s3 l3 o3=>(d▸k).nx f (l1.trans (l2.trans l3)) o3) swap_at
theorem ps_setidx {a b:Mine.E}:PS c (ex c.C (.setidx a b e)) (s_setidx a b e):=fun sc lay t L h=>asg_of (P:=XS c sc lay _) h fun y x pos h=>vSub_of (P:=fun y=>XS c sc lay _ (.Assign [y] x pos)) h fun ax bx p' h=>andE h fun h1 h=>andE h fun h2 h3 p {_ _} f e' k=>bindE e' fun r1 e1 e'=>bindE e' fun r2 e2 e'=>bindE e' fun r3 e3 e'=>mapE e' fun H4 e4 d=>
 wpAny_Assign_Subscript ((ev_ok e L.inj h3).val p e1 fun y g1 s1 l1 o1 v1=>(ev_ok a L.inj h1).val (p.to l1 o1) e2 fun z g2 s2 l2 o2 v2=>(ev_ok b L.inj h2).val ((p.to l1 o1).to l2 o2) e3 fun w g3 s3 l3 o3 v3=>setV_ok o3 (v2.mono l3) v3 (VR.mono _ (l2.trans l3).lv v1.vr1) e4 fun g4 s4 l4 o4=>(d▸k).nx f (l1.trans (l2.trans (l3.trans l4))) o4) swap_sub
end
section
variable {T:Tp} {c:Cf T} {sc:Scope} {lay:Lay} {v:V} {H H':Hp} {x y z:Expr} {q:Prop} {pos:Pos} {g g':G} {s s':Shared} {env:Env} {ρ:List Sl} {r r':Fl×St} {Q:Flow→Shared→Prop} {A:Around} {i:Nat} {sl:Sl} {id:Str} {w:Value} {e:Mine.E} {a:Addr} {oa:Obj} {t:Tag} {xs:List V}
theorem own_fm (ha:g a = .own i oa):FrmK g (g.put a t):=fun b o e=>(put_ne fun e':b=a=>by rw [e',ha] at e; cases e).trans e
theorem NxS.own {p:Pt T sc lay} (k:NxS T p.env sc lay p.g (.next,p.ρ.set i sl,H') Q) (ly:LyOk sc lay) (f:Fr p.g p.env sc) (li:lay[i]?=some (some id)) (vi:VarIn p.g p.env sc id (.ref a)) (l:Le p.g g) (ha:g a = .own i oa) (o:Ok T (g.put a t) H' s) (r:SlX (g.put a t) i sl (.ref a)):Q .next s:=
 k .next _ s (l.mv.trans (put_ky (by rw [ha]; rfl))) o ((f.le l).up (own_fm ha)) ((p.lo.mono l.lw).put ly.inj li (fun j n=>put_ky (by rw [ha]; exact (show Nat.beq i j=false from Bool.eq_false_iff.mpr fun e=>n (Nat.eq_of_beq_eq_true e).symm))) ((vi.mono l.lw.fm).mono (own_fm ha)) (fun _ _ _ v=>v.mono (own_fm ha)) r).ok rfl
theorem own_at {p:Pt T sc lay} (e:rdL p.ρ i=some xs) (li:lay[i]?=some (some id)) (k:∀ a vs n,VarIn p.g p.env sc id (.ref a)→p.g a = .own i (lstObj vs n)→VRs xs p.g vs→xs.length≤room+2→q):q:=rdL_e e fun e=>(p.lo i id _ (fun h=>h) li e).lE k
theorem ps_lapp:PS c (ex c.C (.lapp i e)) (s_lapp i e):=fun sc lay t L h=>vEx_of (Q:=XS c sc lay _) h fun x pos h=>vCall_of (P:=fun x=>XS c sc lay _ (.Expr x pos)) h fun fx xs ks pos' h=>meth_e (P:=fun fx=>XS c sc lay _ (.Expr (.Call fx xs ks pos') pos)) h fun y p' h1 h2 h=>andE h fun h0 h=>v0K h0 (fun ks=>XS c sc lay _ (.Expr (.Call (.Attribute y (Str.ofString "append") p') xs ks pos') pos))
 (andE h fun h3 h=>vNm_of (P:=fun y=>noSuper y=true→XS c sc lay _ (.Expr (.Call (.Attribute y (Str.ofString "append") p') xs [] pos') pos)) h3 (fun id p2 hv h2=>v1_of (P:=fun xs=>XS c sc lay _ (.Expr (.Call (.Attribute (.Name id p2) (Str.ofString "append") p') xs [] pos') pos)) h fun z h=>andE h fun h4 h5 p {_ _} f e' k=>bindE e' fun r1 e1 e'=>bindE e' fun xs e2 e'=>ifE e' fun len e'=>
  isVar_e hv fun li _ d1 d2=>own_at e2 li fun a vs n vi z1 rs _=>wpAny_Expr_any (mcall_rule h2 (show 1 < 15 by decide) (star1 (notE h4)) h1 fun pl=>name_in d1 d2 p.eo p.o vi (getMethod_list_append (p.o.ow z1) rfl rfl (blt_call (star1 (notE h4)) (items_cons (notE h4) ((ev_ok e L.inj h5).val p e1 fun w g2 s2 l2 o2 v2=>wpAny_items_nil (by
   have z2:=(l2 a (by rw [z1]; rfl)).trans z1
   refine append_at (its:=vs.toArray) (n:=n) (o2.ow z2) (fun h' sb e''=>?_) (by rw [List.size_toArray,rs.length]; exact le_room len)
   rw [List.push_toArray] at e''
   exact (k.put e').own L f li vi l2 z2 (o2.put (t := .own i (lstObj (vs++[w]) (n+1))) (by rw [z2]; rfl) e'' (fun b n _=>sb.2 b n) rfl rfl) ⟨a,vs++[w],n+1,rfl,put_self,VRs.append (.cons (VR.mono _ (put_ky (by rw [z2]; rfl)) v2.vr1) .nil) (VRs.mono _ (Ky.trans l2.lv (put_ky (by rw [z2]; rfl))) rs),by rw [List.length_append]; exact Nat.le_succ_of_le (Nat.succ_le_succ len)⟩)))))) (interactive_no p.eo) rfl) h2)
theorem thenF_e {σ:Type} {x:Option (Fl×σ)} {k:σ→Option (Fl×σ)} {r:Fl×σ} (h:thenF x k=some r) (k1:∀ st,x=some (.next,st)→k st=some r→q) (k2:∀ v st,x=some (.ret v,st)→(Fl.ret v,st)=r→q):q:=bindE h fun ⟨fl,st⟩ e h=>by
 cases fl with
 | next=>exact k1 st e h
 | ret v=>exact k2 v st e (Option.some.inj h)
theorem fl_ne {v:V} {s s':St} (e:some (Fl.next,s)=some (Fl.ret v,s')):q:=Bool.noConfusion (congrArg (fun x:Option (Fl×St)=>x.elim true fun y=>match y.1 with | .next=>true | .ret _=>false) e)
theorem ps_nil:PSs c (exs c.C .nil) s_nil:=fun sc lay xs L h=>v0_of (P:=XSs c sc lay _) h fun p {_ _} f e k=>wpAny_execs_nil ((Option.some.inj e▸k).nx f .rf p.o)
theorem frz_ok {p:Pt T sc lay} {xs:List Stmt} {f:FS} (ly:LyOk sc lay) (fr:Fr p.g p.env sc) (li:lay[i]?=some (some id)) (e:ex c.C (.frz i) (p.ρ,p.H)=some r) (h:XSs c sc lay f xs) (e2:f r.2=some r') (k:NxS T p.env sc lay p.g r' Q):wpAny T.M c.A (execs xs p.env) Q noE p.s:=bindE e fun ys e1 e3=>ifE e3 fun _ e3=>by
 cases e3
 exact own_at e1 li fun a vs n vi z rs len=>by
  have f':NxS T p.env sc lay p.g (.next,p.ρ.set i (.v (.lst ys)),p.H) (fun _ s=>wpAny T.M c.A (execs xs p.env) Q noE s):=fun fl g' s' l o f lo _=>h ⟨_,p.env,g',p.H,s',p.eo,o,lo⟩ f e2 (k.up l)
  exact f'.own ly fr li vi .rf z (p.o.put (t := .fix (lstObj vs n)) (by rw [z]; rfl) (p.o.ow z) (fun _ _ _=>rfl) rfl rfl) (show VR (.lst ys) _ _ from ⟨len,fun _ k=>k a vs n rfl put_self (VRs.mono _ (put_ky (by rw [z]; rfl)) rs)⟩)
theorem ps_cons {st:S} {rs:Ss} {ms:MS} {mr:MSs} (ha:PS c (ex c.C st) ms) (hb:PSs c (exs c.C rs) mr):PSs c (exs c.C (.cons st rs)) (s_cons st ms mr):=fun sc lay xs L h=>orE h (fun h=>andE h fun h1 h2=>vFz_of (P:=fun st=>XSs c sc lay (exs c.C (.cons st rs)) xs) h1 fun i h1=>vO_e h1 fun o e1 h1=>vO_e (f:=fun _=>true) (by cases o <;> first | rfl | cases h1) fun id e3 _ p {_ _} f e k=>
  thenF_e e (fun st e4 e5=>frz_ok L f (e1.trans (congrArg some e3)) e4 (hb L h2) e5 k) fun v st e4 _=>bindE e4 fun _ _ e4=>ifE e4 fun _ e4=>fl_ne e4)
 fun h=>vC_of (P:=fun xs=>XSs c sc lay _ xs) h fun x xs h=>andE h fun h1 h2 p {_ _} f e k=>thenF_e e (fun st e1 e2=>wpAny_execs_cons (ha L h1 p f e1 fun fl g1 s1 l1 o1 f1 lo1 fo=>by
   cases (fo:fl = .next)
   exact hb L h2 ⟨st.1,p.env,g1,st.2,s1,p.eo,o1,lo1⟩ f1 e2 (k.up l1)))
  fun v st e1 d=>wpAny_execs_cons (ha L h1 p f e1 fun fl g1 s1 l1 o1 f1 lo1 fo=>by
   subst d
   obtain ⟨y,e,r⟩:=fo
   subst e
   exact k _ g1 s1 l1 o1 f1 lo1 ⟨y,rfl,r⟩)
theorem ps_ite {te:Mine.E} {a b:Ss} {ma mb:MSs} (ha:PSs c (exs c.C a) ma) (hb:PSs c (exs c.C b) mb):PS c (ex c.C (.ite te a b)) (s_ite te ma mb):=fun sc lay t L h=>vIfS_of (Q:=XS c sc lay _) h fun x ys zs pos h=>andE h fun h1 h=>andE h fun h2 h3 p {_ _} f e' k=>bindE e' fun r1 e1 e2=>
 sel_e e2 (fun t e3=>wpAny_If ((ev_ok te L.inj h1).tst p (e1.trans (congrArg some (Prod.ext (bool_e t fun e=>e) (rfl:r1.2=r1.2)))) fun g1 s1 l1 o1=>ha L h2 (p.to l1 o1) (f.le l1) e3 (k.up l1.mv)))
  fun t e3=>wpAny_If ((ev_ok te L.inj h1).tst p (e1.trans (congrArg some (Prod.ext (bool_e t fun e=>e) (rfl:r1.2=r1.2)))) fun g1 s1 l1 o1=>hb L h3 (p.to l1 o1) (f.le l1) e3 (k.up l1.mv))
end
section
variable {T:Tp} {c:Cf T} {sc:Scope} {lay:Lay} {v:V} {H H':Hp} {x y z:Expr} {q:Prop} {pos:Pos} {g g':G} {s s':Shared} {env:Env} {ρ:List Sl} {r:Fl×St} {Q:Flow→Shared→Prop} {A:Around} {i:Nat} {sl:Sl} {id:Str} {w:Value} {e:Mine.E} {a:Addr} {is:List Nat} {sls:List Sl} {vs:List Value} {es:List Expr} {ns:List Str}
theorem swapped_subs {a b c d x y:Expr} {p1 p2 p3 tp:Pos} {m k2:Nat} {env:Env}:swappedStores [.Tuple [.Subscript a b p1,.Subscript c d p2] m tp] (.Tuple [x,y] k2 p3) env=pure none:=by
 unfold swappedStores
 dsimp only
 split
 ·rfl
 ·split
  ·rfl
  ·rfl
theorem ps_setidx2 {a b c' d e f:Mine.E}:PS c (ex c.C (.setidx2 a b c' d e f)) (s_setidx2 a b c' d e f):=fun sc lay t L h=>asg_of (P:=XS c sc lay _) h fun y x pos h=>vTp_of (P:=fun y=>XS c sc lay _ (.Assign [y] x pos)) h fun ys m tp h=>vTp_of (P:=fun x=>XS c sc lay _ (.Assign [.Tuple ys m tp] x pos)) h fun xs k2 p3 h=>
 v2_of (P:=fun ys=>XS c sc lay _ (.Assign [.Tuple ys m tp] (.Tuple xs k2 p3) pos)) h fun u v h=>v2_of (P:=fun xs=>XS c sc lay _ (.Assign [.Tuple [u,v] m tp] (.Tuple xs k2 p3) pos)) h fun z w h=>vSub_of (P:=fun u=>XS c sc lay _ (.Assign [.Tuple [u,v] m tp] (.Tuple [z,w] k2 p3) pos)) h fun ax bx p1 h=>vSub_of (P:=fun v=>XS c sc lay _ (.Assign [.Tuple [.Subscript ax bx p1,v] m tp] (.Tuple [z,w] k2 p3) pos)) h fun cx dx p2 h=>
 andE h fun h1 h=>andE h fun h2 h=>andE h fun h3 h=>andE h fun h4 h=>andE h fun h5 h=>andE h fun h6 h=>andE h fun h7 h8 p {_ _} fr e' k=>bindE e' fun r1 e1 e'=>bindE e' fun r2 e2 e'=>bindE e' fun r3 e3 e'=>bindE e' fun r4 e4 e'=>bindE e' fun H5 e5 e'=>bindE e' fun r6 e6 e'=>bindE e' fun r7 e7 e'=>mapE e' fun H8 e8 dd=>
 Assign_Tuple (wpAny_Tuple (items_cons (notE h1) ((ev_ok e L.inj h7).val p e1 fun y1 g1 s1 l1 o1 v1=>items_cons (notE h2) ((ev_ok f L.inj h8).val (p.to l1 o1) e2 fun y2 g2 s2 l2 o2 v2=>wpAny_items_nil ⟨by rw [sizeLine_eq]; show 2≤_; decide,
  assign_Tuple_tuple c.room.handled (isT (vs:=[y1,y2]) (n:=0) (Heap.get?_push_size _ rfl)) rfl rfl fun h' hx=>by
   have o':Ok T g2 r2.2 { s2 with heap:=h' }:=(o2.push (k:=s2.toks) (tupObj [y1,y2] 0)).keeps (k:=s2.toks) fun b ob e=>hx b ob (Nat.ne_of_lt (Heap.lt_size e)) e
   have l12:=l1.trans l2
   exact assignInOrder_cons (kas_sub ((ev_ok a L.inj h3).val (p.to l12 o') e3 fun z1 g5 s5 l5 o5 v5=>(ev_ok b L.inj h4).val (p.to (l12.trans l5) o5) e4 fun z2 g6 s6 l6 o6 v6=>setV_ok o6 (v5.mono l6) v6 (VR.mono _ (l2.trans (l5.trans l6)).lv v1.vr1) e5 fun g7 s7 l7 o7=>
    assignInOrder_cons (kas_sub ((ev_ok c' L.inj h5).val (p.to (l12.trans (l5.trans (l6.trans l7))) o7) e6 fun z3 g8 s8 l8 o8 v8=>(ev_ok d L.inj h6).val (p.to (l12.trans (l5.trans (l6.trans (l7.trans l8)))) o8) e7 fun z4 g9 s9 l9 o9 v9=>
     setV_ok o9 (v8.mono l9) v9 (VR.mono _ (l5.trans (l6.trans (l7.trans (l8.trans l9)))).lv v2.vr1) e8 fun g10 s10 l10 o10=>assignInOrder_nil ((dd▸k).nx fr (l12.trans (l5.trans (l6.trans (l7.trans (l8.trans (l9.trans l10)))))) o10)))))⟩)))) swap_tup swapped_subs
theorem puts_e (h:puts is sls (ρ,H)=some r) (k:sls.length=is.length→nodupB is=true→(.next,setAll is sls ρ,H)=r→q):q:=ifE h fun c e=>andE c fun c1 c3=>andE c1 fun c1 _=>k (Nat.eq_of_beq_eq_true c1) c3 (Option.some.inj e)
theorem tupled {P:Expr→Prop} (h:tgNames y=some ns) (n:(!tgSole y)=true) (k:∀ es m p,es.mapM nameOf=some ns→P (.Tuple es m p)):P y:=tgNames_e h (fun id p e _=>by rw [e] at n; cases n) fun es m p e hm=>e▸k es m p hm
theorem no_swap {es:List Expr} {m:Nat} {p:Pos} (h:(!Nat.beq x.ctorIdx 25)=true):swappedStores [.Tuple es m p] x env=pure none:=by
 cases x <;> first | rfl | cases h
theorem NxF.fin {p:Pt T sc lay} {S:Nat→Prop} (k:NxS T p.env sc lay p.g (.next,ρ,H') Q) (l:Mv p.g g):NxF T (fun _=>False) g H' p.env sc lay (fun j=>noS j∧S j) ρ (Q .next):=fun g' s' l' o f lo=>k .next g' s' (l.trans l'.1.nmv) o f lo.ok rfl
theorem ps_unp:PS c (ex c.C (.unp is e)) (s_unp is e):=fun sc lay t L h=>asg_of (P:=XS c sc lay _) h fun y x pos h=>andE h fun h1 h=>andE h fun h2 h=>andE h fun h3 h=>andE h fun h4 h5=>vO_e h2 fun ns nm hl=>tupled (P:=fun y=>XS c sc lay _ (.Assign [y] x pos)) nm h1 fun es m p2 hm p {_ Q} f e' k=>
 bindE e' fun r1 e1 e'=>bindE e' fun xs e2 e'=>puts_e e' fun c1 _ d=>Assign_Tuple ((ev_ok e L.inj h3).val p e1 fun y g1 s1 l1 o1 v1=>VX.tup o1 (tup_e e2 fun e=>e▸v1) fun a vs n c ht rs _=>by
  subst c
  exact unp_ok (T:=T) (Q:=fun _=>Q .next) ow0 c.room.handled p.eo L.inj hm (layAll_k hl L.kind) (pd_vr rs ((List.length_map ..).symm.trans c1)) (isT ht) o1 (f.le l1) (p.lo.mono l1.lw) (NxF.fin (d▸k) l1.mv)) swap_tup (no_swap h4)
end
section
variable {T:Tp} {c:Cf T} {sc:Scope} {lay:Lay} {v:V} {H H':Hp} {x y z:Expr} {q:Prop} {pos:Pos} {g g':G} {s s':Shared} {env:Env} {ρ:List Sl} {r:Fl×St} {Q:Flow→Shared→Prop} {A:Around} {i:Nat} {sl:Sl} {id:Str} {w:Value} {e:Mine.E} {a:Addr} {is:List Nat} {sls:List Sl} {vs:List Value} {es:List Expr} {ns:List Str} {os:List (Option Mine.E)}
theorem filter_ns {f:Expr→Option Str} (hf:∀ id p y,f (.Name id p)=some y→id=y):∀ {ts:List Expr} {ns:List Str},ts.mapM nameOf=some ns→(ts.filterMap f).length=ts.length→ts.filterMap f=ns
 | [],ns,e,_=>by cases e; rfl
 | x::ts,ns,e,l=>mapM_e e fun id p ns' c e' c'=>by
  subst c; subst c'
  cases q:f (.Name id p) with
  | none=>rw [List.filterMap_cons_none q] at l; exact absurd l (Nat.ne_of_lt (Nat.lt_succ_of_le (List.length_filterMap_le ..)))
  | some z=>rw [List.filterMap_cons_some q] at l ⊢; rw [hf _ _ _ q,filter_ns hf e' (Nat.succ.inj l)]
theorem swapped_or {elts vs:List Expr} {m k2:Nat} {tp p2:Pos} {env:Env} {ns:List Str} (h2:vs.all (constantsAlone 8)=false) (hm:elts.mapM nameOf=some ns) :
  swappedStores [.Tuple elts m tp] (.Tuple vs k2 p2) env=pure none∨swappedStores [.Tuple elts m tp] (.Tuple vs k2 p2) env=pure (some ns):=by
 unfold swappedStores
 dsimp only
 split
 ·exact .inl rfl
 split
 ·exact .inl rfl
 split
 ·exact .inl rfl
 rename_i hn
 split
 ·exact .inl rfl
 rw [if_neg (by rw [h2]; exact Bool.false_ne_true)]
 exact .inr (congrArg (fun n=>pure (some n)) (filter_ns (fun id p y h=>ifE h fun _ e=>Option.some.inj e) hm (Classical.byContradiction fun n=>hn (by rw [bne_iff_ne.mpr n]; rfl))))
theorem setAll_set:∀ {is:List Nat} {sls ρ:List Sl},i∉is→setAll is sls (ρ.set i sl)=(setAll is sls ρ).set i sl
 | [],[],_,_=>rfl
 | [],_::_,_,_=>rfl
 | _::_,[],_,_=>rfl
 | j::is,x::sls,ρ,h=>by
  show setAll is sls ((ρ.set i sl).set j x)=(setAll is sls (ρ.set j x)).set i sl
  rw [List.set_comm _ _ fun e:i=j=>h (e ▸ .head _)]
  exact setAll_set fun m=>h (.tail _ m)
theorem setAll_app:∀ {is:List Nat} {sls ρ:List Sl},sls.length=is.length→setAll (is++[i]) (sls++[sl]) ρ=(setAll is sls ρ).set i sl
 | [],[],_,_=>rfl
 | _::_,[],_,h=>nomatch h
 | [],_::_,_,h=>nomatch h
 | _::is,_::sls,_,h=>setAll_app (is:=is) (sls:=sls) (Nat.succ.inj h)
theorem setAll_rev:∀ {is:List Nat} {sls ρ:List Sl},nodupB is=true→sls.length=is.length→setAll is.reverse sls.reverse ρ=setAll is sls ρ
 | [],[],_,_,_=>rfl
 | _::_,[],_,_,h=>nomatch h
 | [],_::_,_,_,h=>nomatch h
 | i::is,x::sls,ρ,n,h=>andE n fun n1 n2=>by
  rw [List.reverse_cons,List.reverse_cons,setAll_app (by rw [List.length_reverse,List.length_reverse]; exact Nat.succ.inj h),setAll_rev n2 (Nat.succ.inj h)]
  exact (setAll_set fun m=>by rw [List.any_eq_true.mpr ⟨i,m,Nat.beq_refl i⟩] at n1; cases n1).symm
theorem binds_sto:∀ {ns:List Str},∀ p∈(ns.map fun n=>bindName env n).zip ns,IsSto T A env p.2 p.1
 | [],_,h=>nomatch h
 | n::ns,p,h=>(List.mem_cons.mp h).elim (fun e=>by rw [e]; exact fun _ _ _ _ h=>wpAny_bindName h) (binds_sto p)
theorem Pd.cons (a:SlX g i sl w) (h:Pd g is sls vs):Pd g (i::is) (sl::sls) (w::vs):=⟨congrArg (·+1) h.1,congrArg (·+1) h.2.1,fun j=>match j with
 | 0=>fun _ _ _ e1 e2 e3=>by cases e1; cases e2; cases e3; exact a
 | j+1=>h.2.2 j⟩
theorem Pd.nil:Pd g [] [] []:=⟨rfl,rfl,fun _ _ _ _ e=>nomatch e⟩
theorem ds_ok:∀ {os:List (Option Mine.E)} {is:List Nat} {xs:List Expr} (p:Pt T sc lay) {sls:List Sl} {H':Hp} {Q:List Value→Shared→Prop},LayInj lay→mDs sc lay os xs=true→evDs c.C p.ρ os p.H=some (sls,H')→sls.length=is.length→(∀ vs g' s',Le p.g g'→Ok T g' H' s'→Pd g' is sls vs→Q vs s')→wpAny T.M c.A (spliced (backTo pos (starEach xs p.env))) Q noE p.s
 | [],is,xs,p,sls,H',Q,L,h,e,n,k=>v0_of (P:=fun xs=>wpAny T.M c.A (spliced (backTo pos (starEach xs p.env))) Q noE p.s) h (wpAny_items_nil (by
  cases e
  rw [List.length_eq_zero_iff.mp n.symm] at k
  exact k [] p.g p.s .rf p.o .nil))
 | o::os,is,xs,p,sls,H',Q,L,h,e,n,k=>vC_of (P:=fun xs=>wpAny T.M c.A (spliced (backTo pos (starEach xs p.env))) Q noE p.s) h fun x r h=>andE h fun h1 h=>andE h fun h2 h3=>by
  rcases o with _ | e'
  ·exact mapE e fun r2 e2 d=>by
    cases d
    obtain ⟨i,is',ci⟩:∃ i is',is=i::is':=lenc (l:=is) n.symm fun i is' c=>⟨i,is',c⟩
    subst ci
    have nw:=p.o.new
    exact vLs_of (P:=fun x=>wpAny T.M c.A (spliced (backTo pos (starEach (x::r) p.env))) Q noE p.s) h2 fun l p2 h2=>v0K h2 (fun l=>wpAny T.M c.A (spliced (backTo pos (starEach (.List l p2::r) p.env))) Q noE p.s) (items_cons rfl (wpAny_List (wpAny_items_nil ⟨by rw [sizeLine_eq]; decide,
     ds_ok (p.to (put_le nw) (p.o.push' (ob:=lstObj [] 0) rfl (get_push (ob:=lstObj [] 0) rfl) (t := .own i (lstObj [] 0)))) L h3 e2 (Nat.succ.inj n) fun vs g2 s2 l2 o2 pd=>k _ g2 s2 ((put_le nw).trans l2) o2 (pd.cons (sl := .loc []) ⟨_,[],0,rfl,(l2 _ (by show Tag.any (G.put _ _ _ _)=true; rw [put_self]; rfl)).trans put_self,.nil,Nat.zero_le _⟩)⟩)))
  ·exact bindE e fun r1 e1 e=>mapE e fun r2 e2 d=>by
    cases d
    obtain ⟨i,is',ci⟩:∃ i is',is=i::is':=lenc (l:=is) n.symm fun i is' c=>⟨i,is',c⟩
    subst ci
    exact items_cons (notE h1) ((ev_ok e' L h2).val p e1 fun y g1 s1 l1 o1 v1=>ds_ok (p.to l1 o1) L h3 e2 (Nat.succ.inj n) fun vs g2 s2 l2 o2 pd=>k _ g2 s2 (l1.trans l2) o2 (pd.cons (sl := .v _) (VR.mono _ l2.lv v1.vr1)))
theorem ps_unpD:PS c (ex c.C (.unpD is os)) (s_unpD is os):=fun sc lay t L h=>asg_of (P:=XS c sc lay _) h fun y x pos h=>vTp_of (P:=fun x=>XS c sc lay _ (.Assign [y] x pos)) h fun xs k2 p3 h=>andE h fun h1 h=>andE h fun h2 h=>andE h fun h3 h=>andE h fun h4 h5=>vO_e h2 fun ns nm hl=>andE hl fun hl h6=>tupled (P:=fun y=>XS c sc lay _ (.Assign [y] _ pos)) nm h1 fun es m p2 hm p {_ Q} f e' k=>
 bindE e' fun r1 e1 e'=>puts_e e' fun c1 nd d=>by
 have hk:=layAll_k hl L.kind
 have size:∀ {vs:List Value} {g},Pd g is r1.1 vs→vs.length≤sizeLine:=fun pd=>by rw [← pd.2.1,hk.1]; exact Nat.le_trans (Nat.le_of_lt (of_decide_eq_true h6)) (by rw [sizeLine_eq]; decide)
 rcases swapped_or (m:=m) (k2:=k2) (tp:=p2) (p2:=p3) (env:=p.env) (notE h5) hm with sw | sw
 ·exact Assign_Tuple (wpAny_Tuple (ds_ok p L.inj h3 e1 c1 fun vs g1 s1 l1 o1 pd=>⟨size pd,unp_ok (T:=T) (Q:=fun _=>Q .next) ow0 c.room.handled p.eo L.inj hm hk pd (isT (vs:=vs) (n:=0) (Heap.get?_push_size _ rfl)) (o1.push (tupObj vs 0)) (f.le l1) (p.lo.mono l1.lw) (NxF.fin (d▸k) l1.mv)⟩)) swap_tup sw
 ·refine Assign_Tuple_swapped (wpAny_Tuple (ds_ok p L.inj h3 e1 c1 fun vs g1 s1 l1 o1 pd=>⟨size pd,?_⟩)) swap_tup sw
  rw [hk.1.symm.trans (pd.2.1.trans (List.size_toArray ..).symm)]
  refine wpAny_unpackItems_tuple c.room.handled ⟨_,Heap.get?_push_size _ rfl,rfl,0,rfl⟩ fun h' he=>?_
  have rw1:RwS T c.A p.env sc lay g1 (ns.map fun n=>bindName p.env n).reverse is.reverse r1.1.reverse vs.reverse:=Rw.rev (rw_of (List.length_map ..) binds_sto hk pd)
  rw [← List.map_reverse] at rw1
  exact stores (T:=T) (s:={ s1 with heap:=h' }) (Q:=fun _=>Q .next) ow0 p.eo L.inj rw1 ((o1.push (k:=s1.toks) (tupObj vs 0)).keeps (k:=s1.toks) fun b o q=>he b o (Nat.ne_of_lt (Heap.lt_size q)) q) (f.le l1) (p.lo.mono l1.lw) (NxF.fin (by rw [setAll_rev nd c1]; exact d▸k) l1.mv)
end
section
variable {T:Tp} {c:Cf T} {sc:Scope} {lay:Lay} {v:V} {H H':Hp} {x y z:Expr} {q:Prop} {pos:Pos} {g g':G} {s s':Shared} {env:Env} {ρ:List Sl} {r:Fl×St} {Q:Flow→Shared→Prop} {A:Around} {body:List Stmt} {te:Mine.E} {b:Ss} {mb:MSs}
theorem whl_ok (eo:EnvOk sc env) (ht:Xv c sc lay true (fun ρ=>ev c.C ρ te) x) (hb:XSs c sc lay (exs c.C b) body) (e:ex c.C (.whil te b) (ρ,H)=some r):∀ {g s},Ok T g H s→Fr g env sc→Lo g env sc lay ρ→NxS T env sc lay g r Q→WhlRest T.prog T.w c.A noE env x body [] Q 0 s:=by
 refine whileV.partial_correctness _ (fun (x':St) (r:Fl×St)=>∀ {g s},Ok T g x'.2 s→Fr g env sc→Lo g env sc lay x'.1→NxS T env sc lay g r Q→WhlRest T.prog T.w c.A noE env x body [] Q 0 s) (fun wv ih x' r hx=>?_) (ρ,H) r e
 intro g s o f lo k
 refine whl_turn (k:=0) (fun _ _ h=>h.elim) ?_
 refine bindE hx fun y e1 hx=>bindE e1 fun r1 e2 e1=>sel_e e1 (fun t e1=>mapE e1 fun r2 e3 e4=>?_) fun t e1=>?_
 ·refine ht.tst ⟨x'.1,env,g,x'.2,s,eo,o,lo⟩ (e2.trans (congrArg some (Prod.ext (bool_e t fun e=>e) (rfl:r1.2=r1.2)))) fun g1 s1 l1 o1=>WhlIf.yes rfl (hb ⟨x'.1,env,g1,r1.2,s1,eo,o1,lo.mono l1.lw⟩ (f.le l1) e3 fun fl g2 s2 l2 o2 f2 lo2 fo=>?_)
  subst e4
  obtain ⟨fl',st⟩:=r2
  cases fl' with
  | next=>
   cases (fo:fl = .next)
   exact ih _ _ hx o2 f2 lo2 (k.up (l1.mv.trans l2))
  | ret w=>
   obtain ⟨y,e5,vr⟩:=fo
   subst e5
   exact (Option.some.inj hx▸k:NxS T env sc lay g (.ret w,st) Q) _ g2 s2 (l1.mv.trans l2) o2 f2 lo2 ⟨y,rfl,vr⟩
 ·cases e1
  exact ht.tst ⟨x'.1,env,g,x'.2,s,eo,o,lo⟩ (e2.trans (congrArg some (Prod.ext (bool_e t fun e=>e) (rfl:r1.2=r1.2)))) fun g1 s1 l1 o1=>WhlIf.no rfl (wpAny_execs_nil ((Option.some.inj hx▸k:NxS T env sc lay g (.next,x'.1,r1.2) Q) .next g1 s1 l1.mv o1 (f.le l1) (lo.mono l1.lw) rfl))
theorem ps_whil (hb:PSs c (exs c.C b) mb):PS c (ex c.C (.whil te b)) (s_whil te mb):=fun sc lay t L h=>vWh_of (Q:=XS c sc lay _) h fun x ys zs pos h=>andE h fun h1 h=>andE h fun h2 h3=>v0K h1 (fun zs=>XS c sc lay _ (.While x ys zs pos)) fun p {_ _} f e k=>whl_start 0 (whl_ok p.eo (ev_ok te L.inj h2) (hb L h3) e p.o f p.lo k)
end
noncomputable def PyDone (T:Tp) (A:Around) (it:Value) (Q:Shared→Prop) (s:Shared):Prop:=wpAny T.M A (pyNext it) (fun r s₁=>r=none∧Q s₁) noE s
noncomputable def PyItem (T:Tp) (A:Around) (target:Expr) (it:Value) (P:Value→Shared→Prop) (s:Shared):Prop:=wpAny T.M A (pyNext it) (fun r s₁=>match r with | none=>False | some v=>wpAny T.M A (letOwnedTupleGo target it v) (fun _ s₂=>P v s₂) noE s₁) noE s
noncomputable def ForTurn (T:Tp) (A:Around) (target:Expr) (env:Env) (body:List Stmt) (it:Value) (Q:Flow→Shared→Prop) (P:Shared→Prop) (s:Shared):Prop:=
 PyDone T A it (Q .next) s∨PyItem T A target it (fun v s₂=>wpAny T.M A (assign target env v) (fun _ s₂=>wpAny T.M A (execs body env) (fun fl s₃=>fl = .next∧P s₃∨(∃ v,fl = .ret v)∧Q fl s₃) noE s₂) noE s₂) s
noncomputable def Fg (fp wr:List Addr) (g0 g:G):Prop:=Mv g0 g∧(∀ b∈fp,(g b).hx=true)∧∀ b∈wr,∃ o,g b = .held o
noncomputable def fst (fb:FS) (tg:List Nat) (x:V) (s:St):Option (Fl×St):=(bindTg tg x s.1).bind fun ρ=>fb (ρ,s.2)
noncomputable def FI2 (T:Tp) (env:Env) (sc:Scope) (lay:Lay) (fs:V→St→Option (Fl×St)) (xs:List V) (fp wr:List Addr) (St':Nat→Heap→Prop) (g0:G) (r:Fl×St) (n:Nat) (s:Shared):Prop:=
 ∀ q:Prop,(∀ i l g ρ H,n=l.length→i+l.length=xs.length→(∀ j,xs[i+j]?=l[j]?)→Ok T g H s→Fr g env sc→Lo g env sc lay ρ→Fg fp wr g0 g→St' i s.heap→forV fs l (ρ,H)=some r→q)→q
section
variable {T:Tp} {c:Cf T} {sc:Scope} {lay:Lay} {v:V} {H H':Hp} {x y z:Expr} {q:Prop} {pos:Pos} {g g' g0:G} {s s':Shared} {env:Env} {ρ:List Sl} {r:Fl×St} {Q:Flow→Shared→Prop} {A:Around} {body:List Stmt} {b:Ss} {mb:MSs} {target:Expr} {tg:List Nat} {ns:List Str} {fb:FS} {xs:List V} {I:Addr} {fp wr:List Addr} {St':Nat→Heap→Prop} {n:Nat} {it:Mine.I}
theorem for_loop {it:Value} {J:Nat→Shared→Prop} (turn:∀ n s,J n s→ForTurn T A target env body it Q (fun s=>∃ m,m < n∧J m s) s) (n:Nat) (h:J n s):codeAny T.M A (.forLoop target it body [] env) (fun r s'=>match r with | .ok f=>Q f s' | .error e=>cameBackBy T.M A env noE e s') s:=by
 refine codeAny_forLoop_any J (fun n s hI=>?_) n h
 rcases turn n s hI with h | h
 ·exact wpAny_mono h (fun r s₁ h=>by rw [h.1]; exact wpAny_execs_nil h.2) fun _ _ h=>h.elim
 ·refine wpAny_mono h (fun r s₁ h₁=>?_) fun _ _ h=>h.elim
  cases r with
  | none=>exact h₁.elim
  | some v=>
   refine wpAny_mono h₁ (fun _ s₂ h=>wpAny_mono h (fun _ s₂ h=>wpAny_mono h (fun fl s₃ h=>?_) fun _ _ h=>h.elim) fun _ _ h=>h.elim) fun _ _ h=>h.elim
   rcases h with ⟨e,h⟩ | ⟨⟨v,e⟩,h⟩
   ·rw [e]; exact h
   ·rw [e] at h ⊢; exact h
theorem hx_out (t:Tag) (h:t.hx=true):t.out=true:=by cases t <;> first | rfl | exact nomatch h
theorem Fg.mv (h:Fg fp wr g0 g) (l:Mv g g'):Fg fp wr g0 g':=⟨h.1.trans l,fun b m=>by rw [l b (hx_out _ (h.2.1 b m))]; exact h.2.1 b m,fun b m=>(h.2.2 b m).elim fun o e=>⟨o,(l b (by rw [e]; rfl)).trans e⟩⟩
theorem Fg.hold {h':Heap} (h:Fg fp wr g0 g) (w0:∀ b∈wr,g0 b = .no) (lv:∀ b∈wr,∃ o,h'.get? b=some o):Fg fp wr g0 (g.hold wr h'):=
 ⟨fun b a=>(hold_out fun m=>by rw [w0 b m] at a; cases a).trans (h.1 b a),fun b m=>by
  by_cases c:b∈wr
  ·obtain ⟨o,e⟩:=lv b c
   rw [hold_in c e]; rfl
  ·rw [hold_out c]; exact h.2.1 b m,fun b m=>(lv b m).elim fun o e=>⟨o,hold_in m e⟩⟩
theorem Fg.fr (h:Fg fp wr g0 g) (o:Ok T g H s) (o':Ok T g' H' s') (l:Mv g g'):∀ b∈fp,∀ ob,s.heap.get? b=some ob→s'.heap.get? b=some ob:=fun b m _ e=>(Ok.hx o o' (h.2.1 b m) (l b (hx_out _ (h.2.1 b m)))).trans e
theorem for_turn (hb:XSs c sc lay fb body) (eo:EnvOk sc env) (inj:LayInj lay) (nm:tgNames target=some ns) (so:tgSole target=Nat.beq tg.length 1) (hk:KindOk sc lay tg ns)
  (tn:Turns T c.A target I fp wr xs.length (TurnP (tgSole target) g0 xs) St') (w0:∀ b∈wr,g0 b = .no) (k:NxS T env sc lay g0 r Q) (ci:FI2 T env sc lay (fst fb tg) xs fp wr St' g0 r n s) :
  ForTurn T c.A target env body (.ref I) Q (fun s=>∃ m,m < n∧FI2 T env sc lay (fst fb tg) xs fp wr St' g0 r m s) s:=
 ci _ fun i l g ρ H e1 e2 e3 o f lo fg st rest=>by
 subst e1
 have hw:∀ {f:Tag→Bool},(∀ o,f (.held o)=false)→∀ b∈wr,f (g b)=false:=fun h b m=>(fg.2.2 b m).elim fun o e=>e▸h o
 have keep:∀ {h'},(∀ b o,b∉wr→s.heap.get? b=some o→h'.get? b=some o)→∀ tk,Ok T (g.hold wr h') H { s with heap:=h',toks:=tk }∧Fr (g.hold wr h') env sc∧Lo (g.hold wr h') env sc lay ρ:=fun {h'} kp tk=>
  ⟨o.hold (hw fun _=>rfl) fun b n q=>(o.live q).elim fun ob e=>(kp b ob n e).trans e.symm,f.up fun b o e=>(hold_out fun m=>by obtain ⟨o',e'⟩:=fg.2.2 b m; rw [e'] at e; cases e).trans e,lo.mono (hold_ky (s:={ s with heap:=h' }) (hw fun _=>rfl))⟩
 cases l with
 | nil=>
  refine .inl (tn.done s _ _ ((show i=xs.length from e2)▸st) fun h' tk kp=>⟨rfl,?_⟩)
  obtain ⟨o',f',lo'⟩:=keep kp tk
  exact (Option.some.inj rest▸k:NxS T env sc lay g0 (.next,ρ,H) Q) .next _ _ (fun b a=>(hold_out fun m=>by rw [w0 b m] at a; cases a).trans (fg.1 b a)) o' f' lo' rfl
 | cons u l=>
  refine .inr (tn.item i s _ _ (Nat.lt_of_lt_of_eq (Nat.lt_add_of_pos_right (Nat.succ_pos _)) e2) st fun v h' tk hP st' kp=>?_)
  obtain ⟨o',f',lo'⟩:=keep kp tk
  obtain ⟨u',hu,it⟩:=hP
  cases (e3 0).symm.trans hu
  have fg':=fg.hold (h':=h') w0 fun b m=>tn.live _ _ st' b (tn.sub b m)
  refine bindE rest fun r1 k1 k2=>bindE k1 fun ρ' hbt k3=>?_
  refine tg_ok ow0 c.room.handled eo inj nm so hk hbt (ItemP.mono (s:={ s with heap:=h' }) fg'.1.mlv it) o' f' lo' fun g2 s2 l2 o2 f2 lo2=>hb ⟨ρ',env,g2,H,s2,eo,o2,lo2.ok⟩ f2 k3 fun fl g3 s3 l3 o3 f3 lo3 fo=>?_
  have l13:=l2.1.nmv.trans l3
  obtain ⟨fl',st2⟩:=r1
  cases fl' with
  | next=>exact .inl ⟨fo,l.length,Nat.lt_succ_self _,fun _ kk=>kk (i+1) l g3 st2.1 st2.2 rfl (by rw [← e2,List.length_cons,Nat.add_assoc,Nat.add_comm 1]) (fun j=>by rw [Nat.add_assoc,Nat.add_comm 1]; exact e3 (j+1)) o3 f3 lo3 (fg'.mv l13) (tn.frame _ _ _ st' (fg'.fr o' o3 l13)) k2⟩
  | ret w=>
   obtain ⟨y,e,vr⟩:=fo
   exact .inr ⟨⟨y,e⟩,(Option.some.inj k2▸k:NxS T env sc lay g0 (.ret w,st2) Q) _ g3 s3 (fg'.1.trans l13) o3 f3 lo3 ⟨y,e,vr⟩⟩
theorem hold_start {h:Heap} (o:Ok T g0 H s) (live:∀ b∈fp,∃ o,s.heap.get? b=some o) (hfp:∀ b∈fp,g0 b = .no∨∃ o,g0 b = .fix o) (hwr:∀ b∈wr,b∈fp∧g0 b = .no) (k:∀ g,Le g0 g→Ok T g H s→Fg fp wr g0 g→q):q:=by
 have h0:∀ b∈fp.filter (fun b => !(g0 b).any),g0 b = .no:=fun b m=>any_no (notE (List.mem_filter.mp m).2)
 have hd:∀ b∈fp,g0 b = .no→∃ o,g0.hold (fp.filter fun b => !(g0 b).any) s.heap b = .held o:=fun b m e=>(live b m).elim fun o e'=>⟨o,hold_in (List.mem_filter.mpr ⟨m,by rw [e]; rfl⟩) e'⟩
 have le:Le g0 (g0.hold (fp.filter fun b => !(g0 b).any) s.heap):=fun b a=>hold_out fun m=>by rw [h0 b m] at a; cases a
 exact k _ le (o.hold (fun b m=>by rw [h0 b m]; rfl) fun _ _ _=>rfl) ⟨le.mv,fun b m=>(hfp b m).elim (fun e=>(hd b m e).elim fun o e=>by rw [e]; rfl) fun ⟨o,e⟩=>by rw [le b (by rw [e]; rfl),e]; rfl,fun b m=>hd b (hwr b m).1 (hwr b m).2⟩
theorem ps_for (hb:PSs c (exs c.C b) mb):PS c (ex c.C (.for_ tg it b)) (s_for tg it mb):=fun sc lay t L h=>vFor_of (Q:=XS c sc lay _) h fun x y zs u pos h=>andE h fun h1 h=>andE h fun h2 h=>andE h fun h3 h=>andE h fun h4 h5=>v0K h1 (fun u=>XS c sc lay _ (.For x y zs u pos)) fun p {_ _} f e k=>vO_e h2 fun ns nm hl=>bindE e fun r1 e1 e2=>
 have hi:=evI_ok (c:=c) it L.inj h4
 have so:=beq_iff_eq.mp h3
 wpAny_For (hi.2 p e1 (isTg_of nm) so fun itv g0 s2 l o ia _=>ia _ fun I fr fp wr St' ei tn st hw hfr hfp=>by
  subst ei
  rw [← so] at tn
  refine hold_start (h:=s2.heap) (wr:=wr) o (tn.live _ _ st) (fun b m=>(hfp b m).imp (hfr b) fun h=>h) (fun b m=>⟨tn.sub b m,hfr b (hw b m)⟩) fun g1 l1 o1 fg=>?_
  exact for_loop (fun n s ci=>for_turn (fb:=exs c.C b) (hb L h5) p.eo L.inj nm so (layAll_k hl L.kind) tn (fun b m=>hfr b (hw b m)) (k.up l.mv) ci) r1.1.length fun _ kk=>kk 0 r1.1 g1 p.ρ r1.2 rfl (Nat.zero_add _) (fun j=>by rw [Nat.zero_add]) o1 (f.le (l.trans l1)) (p.lo.mono (l.trans l1).lw) fg st e2) (foldedSet_of hi.1)
end
section
variable {T:Tp} {c:Cf T}
theorem exs_ok (b:Ss):PSs c (exs c.C b) (mSs b):=Ss.rec (motive_1:=fun s=>PS c (ex c.C s) (mS s)) (motive_2:=fun b=>PSs c (exs c.C b) (mSs b)) (fun _ _=>ps_assign) (fun _=>ps_newl) (fun _ _ _ _ _=>ps_compl) (fun _ _=>ps_lapp) (fun _ _=>ps_unp) (fun _ _=>ps_unpD) (fun _ _ _=>ps_setattr) (fun _ _ _=>ps_setidx) (fun _ _ _ _ _ _=>ps_setidx2)
 (fun _=>ps_expr) (fun _=>ps_ret) (fun _ _ _ a b=>(ps_ite a b :)) (fun _ _ b=>(ps_whil b :)) (fun _ _ _ b=>(ps_for b :)) (fun _ _ _ _ _ _ _ _ _ e=>nomatch e) (fun _ _ _ _ _ h=>nomatch h) ps_nil (fun _ _ a b=>(ps_cons a b :)) b
end
theorem filterMap_ext' {α β:Type} {f g:α→Option β}:∀ {l:List α},(∀ x∈l,f x=g x)→l.filterMap f=l.filterMap g
 | [],_=>rfl
 | x::l,h=>by
  rw [List.filterMap_cons,List.filterMap_cons,h x (.head _),filterMap_ext' fun y hy=>h y (.tail _ hy)]
theorem zip_lookup {α:Type}:∀ {ns:List Str} {vals:List α},vals.length=ns.length→∀ n∈ns,((ns.zip vals).lookup n).isSome=true
 | [],_,_,n,h=>by simp at h
 | m::ns,[],e,n,h=>by simp at e
 | m::ns,v::vals,e,n,h=>by
  rw [List.zip_cons_cons,List.lookup_cons]
  by_cases c:n=m
  ·subst c; rw [beq_self_eq_true]; rfl
  ·rw [beq_eq_false_iff_ne.mpr c]
   exact zip_lookup (by simpa using e) n ((List.mem_cons.mp h).resolve_left c)
theorem zip_filterMap {α:Type}:∀ {ns:List Str} {vals:List α},vals.length=ns.length→ns.Nodup→ns.filterMap (fun n=>((ns.zip vals).lookup n).map (fun x=>(n,x)))=ns.zip vals
 | [],_,_,_=>by simp
 | m::ns,[],e,_=>by simp at e
 | m::ns,v::vals,e,h=>by
  obtain ⟨h1,h2⟩:=List.nodup_cons.mp h
  rw [List.filterMap_cons_some (b:=(m,v)) (by rw [List.zip_cons_cons,List.lookup_cons,beq_self_eq_true]; rfl),List.zip_cons_cons,← zip_filterMap (ns:=ns) (vals:=vals) (by simpa using e) h2]
  congr 1
  rw [zip_filterMap (ns:=ns) (vals:=vals) (by simpa using e) h2]
  conv=>rhs; rw [← zip_filterMap (ns:=ns) (vals:=vals) (by simpa using e) h2]
  refine filterMap_ext' fun n hn=>?_
  have:(n == m)=false:=beq_eq_false_iff_ne.mpr fun (q:n=m)=>h1 (q▸hn)
  rw [List.lookup_cons,this]
theorem forIn_id {α β:Type} {f:α→β→Sem (ForInStep β)} {b:β}:∀ {l:List α},(∀ x∈l,f x b=pure (.yield b))→forIn l b f=pure b
 | [],_=>by rw [List.forIn_nil]
 | x::l,h=>by
  rw [List.forIn_cons,h x (.head _),pure_bind]
  exact forIn_id fun y hy=>h y (.tail _ hy)
theorem args_eta {p:Arguments} (h1:p.posonlyargs=[]) (h2:p.kwonlyargs=[]) (h3:p.vararg=none) (h4:p.kwarg=none):p=⟨[],p.args,none,[],p.kw_defaults,none,p.defaults⟩:=by
 cases p; cases h1; cases h2; cases h3; cases h4; rfl
theorem wpAny_neg {α:Type} {M:Model} {A:Around} {E:Value→Shared→Prop} {c:Prop} [Decidable c] {a b:Sem α} {Q:α→Shared→Prop} {s:Shared} (h:¬ c) (k:wpAny M A b Q E s):wpAny M A (if c then a else b) Q E s:=by rw [if_neg h]; exact k
theorem bind_full0 {s:Shared} {fd:FuncData} {vals:List Value} {its:Array Value} (hp:fd.params.posonlyargs=[]) (hk:fd.params.kwonlyargs=[]) (hv:fd.params.vararg=none) (hw:fd.params.kwarg=none)
  (go:∃ r,∀ (M:Model) (A:Around) (E:Value→Shared→Prop),wpAny M A (seqItems? fd.defaults) (fun x s'=>x=r∧s'=s) E s) (hl:vals.length=fd.params.args.length) (hn:(fd.params.args.map (·.arg)).Nodup) :
  BindsTo s fd ⟨vals,[]⟩ ((fd.params.args.map (·.arg)).zip vals):=by
 intro M A E Q hq
 obtain ⟨r,go⟩:=go
 unfold bindArgs
 rw [args_eta hp hk hv hw]
 refine wpAny_bind (wpAny_pure ?_)
 refine wpAny_bind (wpAny_mono (go _ _ _) (fun x s' hx=>?_) fun _ _ x=>x)
 rw [hx.1,hx.2]
 have lu:∀ n∈fd.params.args.map (·.arg),(((fd.params.args.map (·.arg)).zip vals).lookup n).isNone=false:=fun n h=>by
  have:=zip_lookup (vals:=vals) (ns:=fd.params.args.map (·.arg)) (by rw [List.length_map]; exact hl) n h
  cases q:((fd.params.args.map (·.arg)).zip vals).lookup n with
  | none=>rw [q] at this; cases this
  | some=>rfl
 refine wpAny_neg (fun e=>andE e fun e1 _=>Nat.lt_irrefl _ (show vals.length < vals.length by
  have e2:(fd.params.args.map (·.arg)).length < vals.length:=of_decide_eq_true e1
  rwa [List.length_map,← hl] at e2)) ?_
 refine wpAny_neg (fun e=>Bool.noConfusion ((notE e).symm.trans (List.isEmpty_iff.mpr (List.filter_eq_nil_iff.mpr fun n h=>by
  have h:=lu n (List.mem_of_mem_take h)
  exact fun e=>Bool.noConfusion (h.symm.trans e))))) ?_
 refine wpAny_bind (wpAny_of_eq (forIn_id fun y hy=>if_neg fun e=>Bool.noConfusion ((lu y.1 (List.mem_of_mem_drop (List.of_mem_zip hy).1)).symm.trans e)) (wpAny_pure ?_))
 show Q (((fd.params.args.map Arg.arg)++[]).filterMap fun n=>(((fd.params.args.map Arg.arg).zip vals).lookup n).map (fun x=>(n,x))) s
 rw [List.append_nil,zip_filterMap (by rw [List.length_map]; exact hl) hn]
 exact hq
theorem bind_full {s:Shared} {fd:FuncData} {vals:List Value} {its:Array Value} (hp:fd.params.posonlyargs=[]) (hk:fd.params.kwonlyargs=[]) (hv:fd.params.vararg=none) (hw:fd.params.kwarg=none)
  (hd:fd.defaults = .none∨∃ T o n,fd.defaults = .ref T∧s.heap.get? T=some o∧o.data = .seq its n) (hl:vals.length=fd.params.args.length) (hn:(fd.params.args.map (·.arg)).Nodup):BindsTo s fd ⟨vals,[]⟩ ((fd.params.args.map (·.arg)).zip vals):=
 bind_full0 (its:=its) hp hk hv hw (hd.elim (fun h=>⟨none,fun _ _ _=>by rw [h]; exact wpAny_pure ⟨rfl,rfl⟩⟩) fun ⟨T,o,n,h1,h2,h3⟩=>⟨some its,fun _ _ _=>by rw [h1]; exact wpAny_seqItems h2 h3 ⟨rfl,rfl⟩⟩) hl hn
theorem bind_short {s:Shared} {fd:FuncData} {x d:Value} {a b:Str} {T:Addr} {o:Obj} {n:Nat} (hp:fd.params.posonlyargs=[]) (hk:fd.params.kwonlyargs=[]) (hv:fd.params.vararg=none) (hw:fd.params.kwarg=none)
  (hd:fd.defaults = .ref T) (ho:s.heap.get? T=some o) (hs:o.data = .seq #[d] n) (hn:fd.params.args.map Arg.arg=[a,b]) (hab:a≠b) :
  BindsTo s fd ⟨[x],[]⟩ [(a,x),(b,d)]:=by
 intro M A E Q hq
 have e2:(b == a)=false:=beq_eq_false_iff_ne.mpr (Ne.symm hab)
 unfold bindArgs
 rw [args_eta hp hk hv hw,hd]
 refine wpAny_bind (wpAny_pure ?_)
 refine wpAny_bind (wpAny_seqItems ho hs ?_)
 dsimp only
 rw [hn]
 refine wpAny_neg (fun e=>Bool.noConfusion e) ?_
 refine wpAny_neg (fun e=>?_) ?_
 ·have e:(!(List.filter (fun n=>(List.lookup n [(a,x)]).isNone) [a]).isEmpty)=true:=e
  rw [List.filter_cons_of_neg (by rw [List.lookup_cons,beq_self_eq_true]; exact Bool.false_ne_true)] at e
  cases e
 refine wpAny_bind (wpAny_of_eq (a:=[(a,x),(b,d)]) ?_ ?_)
 ·show forIn [(b,d)] [(a,x)] _=_
  rw [List.forIn_cons,if_pos (by rw [List.lookup_cons,e2]; rfl)]
  rfl
 refine wpAny_bind (wpAny_pure ?_)
 refine wpAny_neg (fun e=>Bool.noConfusion e) (wpAny_pure ?_)
 show Q (List.filterMap (fun n=>Option.map (fun x=>(n,x)) (List.lookup n [(a,x),(b,d)])) [a,b]) s
 rw [List.filterMap_cons_some (b:=(a,x)) (by rw [List.lookup_cons,beq_self_eq_true]; rfl),List.filterMap_cons_some (b:=(b,d)) (by rw [List.lookup_cons,e2,List.lookup_cons,beq_self_eq_true]; rfl)]
 exact hq
section
variable {prog:Program} {w:World} {A:Around} {s:Shared}
theorem call_cellsB {R:Result→Shared→Prop} {a:Addr} {o:Obj} {fd:FuncData} {body:List Stmt} {args:Args} {binds:List (Str×Value)}
  (hroom:A.depth < recursionLimit) (ho:s.heap.get? a=some o) (hdata:o.data = .func fd) (hlim:s.heap.NoLimit) (hcd:s.heap.CodeRec fd.code fd.qualname)
  (hbody:fd.body = .stmts body) (hbind:BindsTo s fd args binds) (hclo:fd.closure=[])
  (hkind:∀ x∈binds,fd.scope.names.lookup x.1=some .local∨(fd.scope.names.lookup x.1=some .cell∧((cellsFrom (s.heap.objs.size+1) fd.scope.names []).lookup x.1).isSome=true))
  (h:∀ s₁,InCallC s (callEnvC fd s.heap.objs.size a).locals (bindL (callEnvC fd s.heap.objs.size a).kindOf binds fun _=>none) (callEnvC fd s.heap.objs.size a).cells
    (bindC (callEnvC fd s.heap.objs.size a).kindOf binds fun _=>none) s₁ →
   wpAny (model prog w) (A.deeper (callEnvC fd s.heap.objs.size a)) (execs body (callEnvC fd s.heap.objs.size a)) (fun f s'=>R (.ok (.ret (match f with | .ret v=>v | _ => .none))) s')
    (fun e s'=>wpAny (model prog w) (A.deeper (callEnvC fd s.heap.objs.size a)) (leaving (callEnvC fd s.heap.objs.size a) e) (fun _ s''=>R (.error e) s'') (fun e' s''=>R (.error e') s'') s') s₁)
  (hco:fd.scope.isCoroutine=false) (hgen:fd.scope.isGenerator=false) (hk:fd.scope.kind = .function) :
  codeAny (model prog w) A (.call (.ref a) args) R s:=by
 refine codeAny_call_function hroom ho hdata hco hgen hbody hcd (hbind _ _ _ _ ?_)
 rw [hclo]
 refine wpAny_newFunctionEnv_cells hk hkind fun env he s' x=>?_
 subst he
 exact ⟨hlim.keeps x.toInCall.keep,codeAny_func (h s' x)⟩
end
theorem cellsFrom_has:∀ (names:List (Str×NameKind)) (n:Nat) (acc:List (Str×Addr)) (x:Str),((x,NameKind.cell)∈names∨(acc.lookup x).isSome=true)→((cellsFrom n names acc).lookup x).isSome=true
 | [],n,acc,x,h=>by
  rcases h with h | h
  ·simp at h
  ·exact h
 | (y,kind)::r,n,acc,x,h=>by
  unfold cellsFrom
  split
  ·refine cellsFrom_has r _ _ x ?_
   rw [List.lookup_cons]
   by_cases c:x=y
   ·subst c; rw [beq_self_eq_true]; exact .inr rfl
   ·rw [beq_eq_false_iff_ne.mpr c]
    rcases h with h | h
    ·rcases List.mem_cons.mp h with q | q
     ·cases q; exact absurd rfl c
     ·exact .inl q
    ·exact .inr h
  ·rename_i hk
   refine cellsFrom_has r _ _ x ?_
   rcases h with h | h
   ·rcases List.mem_cons.mp h with q | q
    ·cases q; exact absurd rfl hk
    ·exact .inl q
   ·exact .inr h
theorem bindL_other {kf:Str→Option NameKind}:∀ (binds:List (Str×Value)) (m:Str→Option Value) (n:Str),(∀ p∈binds,p.1≠n)→bindL kf binds m n=m n
 | [],m,n,h=>rfl
 | p::r,m,n,h=>by
  refine (bindL_other r _ n fun p hp=>h p (.tail _ hp)).trans ?_
  by_cases c:kf p.1=some .local
  ·rw [if_pos c]; exact if_neg fun q:n=p.1=>h p (.head _) q.symm
  ·rw [if_neg c]
theorem bindC_other {kf:Str→Option NameKind}:∀ (binds:List (Str×Value)) (m:Str→Option Value) (n:Str),(∀ p∈binds,p.1≠n)→bindC kf binds m n=m n
 | [],m,n,h=>rfl
 | p::r,m,n,h=>by
  refine (bindC_other r _ n fun p hp=>h p (.tail _ hp)).trans ?_
  by_cases c:kf p.1=some .local
  ·rw [if_pos c]
  ·rw [if_neg c]; exact if_neg fun q:n=p.1=>h p (.head _) q.symm
theorem bindL_get {kf:Str→Option NameKind}:∀ (binds:List (Str×Value)) (m:Str→Option Value) (n:Str) (v:Value),(binds.map (·.1)).Nodup→(n,v)∈binds→kf n=some .local→bindL kf binds m n=some v
 | [],_,_,_,_,h,_=>(List.not_mem_nil h).elim
 | p::r,m,n,v,hn,h,hk=>(List.mem_cons.mp h).elim (fun e=>(bindL_other r _ n fun p' hp q=>(List.nodup_cons.mp hn).1 (List.mem_map.mpr ⟨p',hp,q.trans (congrArg Prod.fst e)⟩)).trans (by
   rw [← e,if_pos hk]; exact if_pos rfl)) fun h=>bindL_get r _ n v (List.nodup_cons.mp hn).2 h hk
theorem bindC_get {kf:Str→Option NameKind}:∀ (binds:List (Str×Value)) (m:Str→Option Value) (n:Str) (v:Value),(binds.map (·.1)).Nodup→(n,v)∈binds→kf n≠some .local→bindC kf binds m n=some v
 | [],_,_,_,_,h,_=>(List.not_mem_nil h).elim
 | p::r,m,n,v,hn,h,hk=>(List.mem_cons.mp h).elim (fun e=>(bindC_other r _ n fun p' hp q=>(List.nodup_cons.mp hn).1 (List.mem_map.mpr ⟨p',hp,q.trans (congrArg Prod.fst e)⟩)).trans (by
   rw [← e,if_neg hk]; exact if_pos rfl)) fun h=>bindC_get r _ n v (List.nodup_cons.mp hn).2 h hk
noncomputable def Tag.lock (t:Tag):Tag:=match t with | .frm o => .held o | .own _ o => .held o | .no => .no | .fix o => .fix o | .held o => .held o | .ours i => .ours i
noncomputable def G.enter (g:G) (F:List Addr) (h:Heap):G:=fun b=>if b∈F then (h.get? b).elim .no .frm else (g b).lock
noncomputable def G.back (g g2:G):G:=fun b=>if (g b).any=true then g b else if (g2 b).val=true then g2 b else .no
section
variable {T:Tp} {g g' g2:G} {H H':Hp} {s s':Shared} {a b:Addr} {F:List Addr} {h:Heap} {ob:Obj} {t:Tag}
theorem lock_val (t:Tag) (h:t.lock.val=true):t.lock=t:=by cases t <;> first | rfl | exact nomatch h
theorem val_lock (t:Tag) (h:t.val=true):t.lock=t:=by cases t <;> first | rfl | exact nomatch h
theorem lock_at (x:t.at h a):t.lock.at h a:=by cases t <;> exact x
theorem at_lock (x:t.lock.at h a):t.at h a:=by cases t <;> exact x
theorem lock_out (t:Tag) (h:t.any=true):t.lock.out=true:=by cases t <;> first | rfl | exact nomatch h
theorem enter_in (m:b∈F) (e:h.get? b=some ob):g.enter F h b = .frm ob:=(if_pos m).trans (by rw [e]; rfl)
theorem enter_out (m:b∉F):g.enter F h b=(g b).lock:=if_neg m
theorem Ok.enter {h':Heap} {tk:Nat} (o:Ok T g H s) (hF:∀ b∈F,g b = .no) (kp:∀ b ob,s.heap.get? b=some ob→h'.get? b=some ob):Ok T (g.enter F h') H { s with heap:=h',toks:=tk }:=
 have kp':∀ b,g b ≠ .no→h'.get? b=s.heap.get? b:=fun b n=>(o.live n).elim fun ob e=>(kp b ob e).trans e.symm
 o.re (fun b h=>have n:b∉F:=fun m=>by rw [hF b m] at h; cases h
  ⟨(enter_out n).trans (val_lock _ h),kp' b (val_no h)⟩) (fun b h=>by
  by_cases c:b∈F
  ·show Tag.at _ h' b
   cases e:h'.get? b with
   | none=>rw [show g.enter F h' b = .no from (if_pos c).trans (by rw [e]; rfl)]; exact trivial
   | some ob=>rw [enter_in c e]; exact e
  ·rw [enter_out c]; exact lock_at (Tag.up (kp' b) (o.at h))) rfl rfl
theorem enter_lv (hF:∀ b∈F,g b = .no):Lv g (g.enter F h):=fun b v=>(enter_out fun m=>by rw [hF b m] at v; cases v).trans (val_lock _ v)
theorem back_le:Le g (g.back g2):=fun b h=>if_pos h
theorem back_lv (r:∀ b,(g b).any=true→g2 b=(g b).lock):Lv g2 (g.back g2):=fun b h=>by
 by_cases c:(g b).any=true
 ·exact (if_pos c).trans (((r b c).trans (lock_val _ (r b c▸h))).symm)
 ·exact (if_neg c).trans (if_pos h)
theorem Ok.back (o2:Ok T g2 H s) (r:∀ b,(g b).any=true→g2 b=(g b).lock):Ok T (g.back g2) H s:=o2.re (fun b h=>⟨back_lv r b h,rfl⟩) (fun b h=>by
 by_cases c:(g b).any=true
 ·rw [show g.back g2 b=g b from if_pos c]; exact at_lock (r b c▸o2.at h)
 ·rw [show g.back g2 b = .no from (if_neg c).trans (if_neg (by rw [h]; exact Bool.false_ne_true))]; exact trivial) rfl rfl
theorem enter_mv (hF:∀ b∈F,g b = .no) (l:Mv (g.enter F h) g2) (b:Addr) (c:(g b).any=true):g2 b=(g b).lock:=
 have e:g.enter F h b=(g b).lock:=enter_out fun m=>by rw [hF b m] at c; cases c
 (l b (by rw [e]; exact lock_out _ c)).trans e
theorem back_no (h1:g a = .no) (h2:(g2 a).val=false):g.back g2 a = .no:=(if_neg (by rw [h1]; exact Bool.false_ne_true)).trans (if_neg (by rw [h2]; exact Bool.false_ne_true))
end
structure FdOk (K:Frag) (fd:FuncData) (np:Nat) (lay:Lay) (mb:Scope→List Stmt→Bool) (body:List Stmt):Prop where
 code:codeIn K fd.code fd.qualname=true
 clo:fd.closure=[]
 glob:fd.globals=mainGlobals
 blt:fd.builtins=builtinsNs
 co:fd.scope.isCoroutine=false
 gen:fd.scope.isGenerator=false
 kind:fd.scope.kind = .function
 po:fd.params.posonlyargs=[]
 ko:fd.params.kwonlyargs=[]
 va:fd.params.vararg=none
 kw:fd.params.kwarg=none
 npE:fd.params.args.length=np
 layE:lay.take np=(fd.params.args.map (·.arg)).map some
 ly:LyOk fd.scope lay
 defs:defsOk K fd.defaults=true
 bodyE:fd.body = .stmts body
 m:mb fd.scope body=true
section
variable {K:Frag} {a:Nat} {np:Nat} {lay:Lay} {mb:Scope→List Stmt→Bool} {q:Prop} {sc:Scope} {fd:FuncData} {body:List Stmt}
theorem kinds_e (h:kindsOk sc lay=true):∀ (i:Nat) (id:Str),lay[i]?=some (some id)→sc.names.lookup id=some .local∨sc.names.lookup id=some .cell:=fun i id e=>orE (List.all_eq_true.mp h _ (List.mem_of_getElem? e)) (fun h => .inl (beq_iff_eq.mp h)) fun h => .inr (beq_iff_eq.mp h)
theorem fnOk_e (h:fnOk K a np lay mb=true) (k:∀ oc od fd osl body,K.lookup a=some ⟨oc,od,.func fd,osl⟩→FdOk K fd np lay mb body→q):q:=
 vO_e h fun ⟨oc,od,dt,osl⟩ e h=>vFn_e h fun fd e2 h=>vBody_e h fun body hb h=>andE h fun h1 h=>andE h fun h2 h=>andE h fun h3 h=>andE h fun h4 h=>andE h fun h5 h=>andE h fun h6 h=>andE h fun h7 h=>andE h fun h8 h=>andE h fun h9 h=>andE h fun h10 h=>andE h fun h11 h=>andE h fun h12 h=>andE h fun h13 h=>andE h fun h14 h=>andE h fun h15 h=>andE h fun h16 h17=>
  k oc od fd osl body (e2▸e) ⟨h1,List.isEmpty_iff.mp h2,beq_iff_eq.mp h3,beq_iff_eq.mp h4,notE h5,notE h6,beq_iff_eq.mp h7,List.isEmpty_iff.mp h8,List.isEmpty_iff.mp h9,Option.isNone_iff_eq_none.mp h10,Option.isNone_iff_eq_none.mp h11,of_decide_eq_true h12,beq_iff_eq.mp h13,⟨injOk_e h14,kinds_e h15⟩,h16,hb,h17⟩
theorem FdOk.arg (f:FdOk K fd np lay mb body) {i:Nat} {id:Str} (h:(fd.params.args.map (·.arg))[i]?=some id):lay[i]?=some (some id):=by
 have e:(lay.take np)[i]?=((fd.params.args.map (·.arg)).map some)[i]?:=by rw [f.layE]
 have hi:i < np:=by have:=(List.getElem?_eq_some_iff.mp h).1; rwa [List.length_map,f.npE] at this
 rwa [List.getElem?_take_of_lt hi,List.getElem?_map,h] at e
theorem FdOk.nodup (f:FdOk K fd np lay mb body):(fd.params.args.map (·.arg)).Nodup:=List.pairwise_iff_getElem.mpr fun i j hi hj hij e=>
 Nat.ne_of_lt hij (f.ly.inj i j _ (f.arg (List.getElem?_eq_getElem hi)) (e▸f.arg (List.getElem?_eq_getElem hj)))
theorem FdOk.kinds (f:FdOk K fd np lay mb body) {n:Str} (h:n∈fd.params.args.map (·.arg)):fd.scope.names.lookup n=some .local∨fd.scope.names.lookup n=some .cell:=(List.mem_iff_getElem?.mp h).elim fun i e=>f.ly.kind i n (f.arg e)
end
section
variable {T:Tp} {g:G} {H:Hp} {s s₁:Shared} {A:Around} {q:Prop} {K:Frag} {a:Addr} {fd:FuncData} {np n:Nat} {lay:Lay} {mb:Scope→List Stmt→Bool} {body:List Stmt} {vs vs₀:List Value} {sls:List Sl} {env:Env} {as:List V} {d:FnDef} {r:Fl×St} {R:Result→Shared→Prop} {oc:Value} {od:Option Addr} {osl:Array (Option Value)}
theorem cells_has {y:Str} (hy:fd.scope.names.lookup y=some .cell):∃ c,(callEnvC fd n a).cells.lookup y=some c:=Option.isSome_iff_exists.mp (cellsFrom_has fd.scope.names (n+1) [] y (.inl (mem_of_lookup hy)))
theorem FdOk.envOk (f:FdOk K fd np lay mb body):EnvOk fd.scope (callEnvC fd n a):=⟨f.kind,fun _ h=>h,fun _ h=>h,fun _ h=>h,fun _ h=>h,fun _ h=>cells_has h,f.glob,f.blt⟩
theorem entry (he:env=callEnvC fd s.heap.objs.size a) (f:FdOk K fd np lay mb body) (o:Ok T g H s) (Rv:∀ (i:Nat) (v:V),sls[i]?=some (Sl.v v)→∃ u,vs[i]?=some u∧VR v g u) (nl:∀ (i:Nat) (xs:List V),sls[i]?≠some (Sl.loc xs)) (hl:vs.length=np)
  (x:InCallC s env.locals (bindL env.kindOf ((fd.params.args.map (·.arg)).zip vs) fun _=>none) env.cells (bindC env.kindOf ((fd.params.args.map (·.arg)).zip vs) fun _=>none) s₁)
  (k:∀ F,(∀ b∈F,s.heap.get? b=none)→Ok T (g.enter F s₁.heap) H s₁→Fr (g.enter F s₁.heap) env fd.scope→Lo (g.enter F s₁.heap) env fd.scope lay sls→(∀ id u,(id,u)∈(fd.params.args.map (·.arg)).zip vs→VarIn (g.enter F s₁.heap) env fd.scope id u)→q):q:=by
 have kin:∀ y,env.kindOf y=fd.scope.names.lookup y:=fun y=>he▸rfl
 have hcells:∀ y,fd.scope.names.lookup y=some .cell→∃ c,env.cells.lookup y=some c:=fun y hy=>he▸cells_has hy
 clear he
 obtain ⟨h,tk,e⟩:=x.toInCall.same
 subst e
 obtain ⟨F,hFe⟩:∃ F,F=env.locals::env.cells.map (·.2):=⟨_,rfl⟩
 have hF0:∀ b∈F,s.heap.get? b=none:=fun b m=>get_none (by
  rw [hFe] at m
  rcases List.mem_cons.mp m with e | m
  ·rw [e]; exact x.toInCall.fresh
  ·obtain ⟨p,hp,e⟩:=List.mem_map.mp m
   exact e▸Nat.le_trans x.toInCall.fresh (Nat.le_of_lt (x.above p.1 p.2 hp)))
 have hF:∀ b∈F,g b = .no:=fun b m=>o.dead (hF0 b m)
 have inc:∀ y c,env.cells.lookup y=some c→c∈F:=fun y c e=>hFe ▸ .tail _ (List.mem_map.mpr ⟨(y,c),mem_of_lookup e,rfl⟩)
 obtain ⟨oL,eL,nL⟩:=NsF.of x.toInCall.ns
 have zL:g.enter F h env.locals = .frm oL:=enter_in (hFe ▸ .head _) eL
 have hnd:(((fd.params.args.map (·.arg)).zip vs).map (·.1)).Nodup:=by
  rw [List.map_fst_zip (by rw [List.length_map,f.npE,hl]; exact Nat.le_refl _)]
  exact f.nodup
 have vin:∀ id u,(id,u)∈(fd.params.args.map (·.arg)).zip vs→VarIn (g.enter F h) env fd.scope id u:=fun id u m q k1 k2=>(f.kinds (List.of_mem_zip m).1).elim (fun hloc=>k1 oL _ hloc zL nL (bindL_get _ _ _ _ hnd m (by rw [kin]; exact hloc))) fun hc=>(hcells id hc).elim fun c e=>by
  obtain ⟨oc,e1,e2⟩:=x.cell id c e
  rw [bindC_get _ _ _ _ hnd m (by rw [kin,hc]; exact fun e=>nomatch e)] at e2
  exact k2 c oc (.inl hc) e (enter_in (inc id c e) e1) e2
 refine k F hF0 (o.enter hF x.toInCall.keep) ⟨⟨oL,_,zL,nL⟩,fun id hid=>(hcells id hid).elim fun c hc=>let ⟨oc,e1,e2⟩:=x.cell id c hc; ⟨c,oc,_,hc,enter_in (inc id c hc) e1,e2⟩,fun id id' c _ h1 h2=>name_of_addr x.apart (mem_of_lookup h1) (mem_of_lookup h2)⟩ (fun i id sl _ h1 h2=>?_) vin
 cases sl with
 | undef=>exact trivial
 | loc xs=>exact absurd h2 (nl i xs)
 | v w=>
  obtain ⟨u,hu,r⟩:=Rv i w h2
  have hi:i < (fd.params.args.map (·.arg)).length:=by rw [List.length_map,f.npE,← hl]; exact (List.getElem?_eq_some_iff.mp hu).1
  have e1:=List.getElem?_eq_getElem hi
  cases (f.arg e1).symm.trans h1
  exact fun q k=>k u (vin _ u (List.mem_of_getElem? (i:=i) (List.getElem?_zip_eq_some.mpr ⟨e1,hu⟩))) (VR.mono _ (enter_lv hF) r)
theorem Room.deeper {env:Env} (r:Room (n+1) A):Room n (A.deeper env):=⟨r.handled,
 Nat.lt_of_le_of_lt (show A.depth+1+2*n≤_ by rw [Nat.add_assoc,Nat.mul_succ]; exact Nat.add_le_add_left (by rw [Nat.add_comm]; exact Nat.le_succ _) _) r.depth,
 Nat.lt_of_le_of_lt (show A.units+3+12*n+100≤_ by rw [Nat.add_assoc A.units,Nat.mul_succ,Nat.add_comm 3]; exact Nat.add_le_add_right (Nat.add_le_add_left (Nat.add_le_add_left (by decide) _) _) _) r.units⟩
theorem Ok.xin (o:Ok T g H s):T.K.In s.heap:=fun a ob e=>o.fx (o.base _ _ (T.X a ob e))
theorem Ok.nolimit (o:Ok T g H s):s.heap.NoLimit:=T.nolimit.keeps fun b ob q=>o.fx (o.base _ _ q)
noncomputable def Sl.tg (x:Sl):Nat:=Sl.rec 0 (fun _=>1) (fun _=>2) x
theorem slne {a b:Sl} {q:Prop} (h:Nat.beq a.tg b.tg=false) (e:a=b):q:=Bool.noConfusion ((e▸h:Nat.beq b.tg b.tg=false).symm.trans (Nat.beq_refl _))
theorem ρ0_v {i:Nat} {v:V} (e:(ρ0 d as)[i]?=some (.v v)):as[i]?=some v:=by
 unfold ρ0 at e
 rcases Nat.lt_or_ge i (as.map Sl.v).length with c | c
 ·rw [List.getElem?_append_left c,List.getElem?_map] at e
  exact mapE e fun w e1 e2=>by cases e2; exact e1
 ·rw [List.getElem?_append_right c,List.getElem?_replicate] at e
  exact ifE e fun _ e=>slne rfl (Option.some.inj e)
theorem ρ0_l {i:Nat} {xs:List V}:(ρ0 d as)[i]?≠some (.loc xs):=fun e=>by
 unfold ρ0 at e
 rcases Nat.lt_or_ge i (as.map Sl.v).length with c | c
 ·rw [List.getElem?_append_left c,List.getElem?_map] at e
  exact mapE e fun w e1 e2=>slne rfl e2
 ·rw [List.getElem?_append_right c,List.getElem?_replicate] at e
  exact ifE e fun _ e=>slne rfl (Option.some.inj e)
theorem fn_code (C:CallsOk T (rn n) n) (hK:T.K.lookup a=some ⟨oc,od,.func fd,osl⟩) (f:FdOk T.K fd d.np lay (fun sc body=>mSs d.body sc lay body) body) (room:Room (n+1) A) (o:Ok T g H s) (hb:BindsTo s fd ⟨vs₀,[]⟩ ((fd.params.args.map (·.arg)).zip vs)) (hr:VRs as g vs) (hl:as.length=d.np) (hex:exs (rn n) d.body (ρ0 d as,H)=some r)
  (hQ:∀ x g' s',Le g g'→Ok T g' (finP r).2 s'→VR (finP r).1 g' x→R (.ok (.ret x)) s'):codeAny T.M A (.call (.ref a) ⟨vs₀,[]⟩) R s:=by
 refine call_cellsB (Nat.lt_of_le_of_lt (Nat.le_add_right _ _) room.depth) (o.xin _ _ hK) rfl o.nolimit (codeRec_of o.xin f.code) f.bodyE hb f.clo (fun p hp=>(f.kinds (List.of_mem_zip hp).1).imp (fun h=>h) fun q=>⟨q,cellsFrom_has _ _ _ _ (.inl (mem_of_lookup q))⟩) (fun s₁ x=>?_) f.co f.gen f.kind
 refine entry rfl f o (sls:=ρ0 d as) (fun i v e=>hr.get (ρ0_v e) fun u h1 h2=>⟨u,h1,h2⟩) (fun i xs=>ρ0_l) (hr.length.trans hl) x fun F hF o1 f1 lo1 _=>?_
 refine wpAny_mono (exs_ok (c:=⟨A.deeper (callEnvC fd s.heap.objs.size a),rn n,n,room.deeper,C⟩) d.body f.ly f.m ⟨ρ0 d as,_,_,H,s₁,f.envOk,o1,lo1⟩ f1 hex fun fl g2 s2 l2 o2 _ _ fo=>?_) (fun _ _ h=>h) fun _ _ h=>h.elim
 have rr:=enter_mv (fun b m=>o.dead (hF b m)) l2
 obtain ⟨fl',st⟩:=r
 cases fl' with
 | next=>
  cases (fo:fl = .next)
  exact hQ .none _ _ back_le (o2.back rr) rfl
 | ret w=>
  obtain ⟨y,e,vr⟩:=fo
  subst e
  exact hQ y _ _ back_le (o2.back rr) (VR.mono _ (back_lv rr) vr)
end
structure IS (T:Tp) (env:Env) (sc:Scope) (lay:Lay) (ρ:List Sl) (c:Cls) (x d:Addr) (g:G) (H:Hp) (s:Shared) (m:Str→Option Value) (done:List (String×V)):Prop where
 o:Ok T g H s
 lo:Lo g env sc lay ρ
 me:VarIn g env sc selfS (.ref x)
 x:g x = .held (instObj c.addr d)
 d:∃ od,g d = .held od∧NsO c.fields od m
 done:∀ n v,(n,v)∈done→∃ u,m (Str.ofString n)=some u∧VR v g u
section
variable {T:Tp} {cf:Cf T} {env:Env} {sc:Scope} {lay:Lay} {ρ:List Sl} {c:Cls} {x d:Addr}
theorem init_ok (eo:EnvOk sc env) (inj:LayInj lay) (hv:isVar sc lay 0 selfS=true) (xd:x≠d):∀ {fs:List (String×Mine.E)} {body:List Stmt} {g:G} {s:Shared} {H:Hp} {m:Str→Option Value} {done vals:List (String×V)} {H':Hp} {Q:Flow→Shared→Prop},mInit sc lay fs body=true→(∀ p∈fs,p.1∈c.fields)→(fs.map (·.1)).Nodup→(∀ p∈fs,∀ q∈done,q.1≠p.1) →
  IS T env sc lay ρ c x d g H s m done→evFs cf.C ρ fs H=some (vals,H')→(∀ g' s' m',(∀ b,b≠d→(g b).any=true→g' b=g b)→IS T env sc lay ρ c x d g' H' s' m' (done++vals)→Q .next s')→wpAny T.M cf.A (execs body env) Q noE s
 | [],body,g,s,H,m,done,vals,H',Q,h,_,_,_,I,e,k=>v0_of (P:=fun body=>wpAny T.M cf.A (execs body env) Q noE s) h (wpAny_execs_nil (by
  cases e
  exact k g s m (fun _ _ _=>rfl) (by rw [List.append_nil]; exact I)))
 | p::fs,body,g,s,H,m,done,vals,H',Q,h,hf,hn,hd,I,e,k=>vC_of (P:=fun body=>wpAny T.M cf.A (execs body env) Q noE s) h fun t rest h=>andE h fun h1 h2=>asg_of (P:=fun t=>wpAny T.M cf.A (execs (t::rest) env) Q noE s) h1 fun y vx pos h=>vAt_of (P:=fun y=>wpAny T.M cf.A (execs (.Assign [y] vx pos::rest) env) Q noE s) h fun sx n p2 h=>
  vNm_of (P:=fun sx=>wpAny T.M cf.A (execs (.Assign [.Attribute sx n p2] vx pos::rest) env) Q noE s) h fun id p3 h=>andE h fun hid h=>andE h fun hnm he=>bindE e fun r1 e1 e2=>mapE e2 fun r2 e3 dd=>isVar_e hv fun _ _ d1 d2=>by
  rw [beq_iff_eq.mp hid,beq_iff_eq.mp hnm]
  obtain ⟨od,zd,N⟩:=I.d
  have mem:p.1∈c.fields:=hf p (.head _)
  refine wpAny_execs_cons (plainObj_wpAny_Assign_Attribute ((ev_ok (c:=cf) p.2 inj he).val ⟨ρ,env,g,H,s,eo,I.o,I.lo⟩ e1 fun w g1 s1 l1 o1 v1=>?_) swap_at)
  have l1:Le g g1:=l1
  have zx1:=(l1 x (by rw [I.x]; rfl)).trans I.x
  have zd1:=(l1 d (by rw [zd]; rfl)).trans zd
  refine name_in d1 d2 eo o1 (I.me.mono l1.lw.fm) (fset_at (inK o1) mem (o1.hd zx1) (o1.hd zd1) N fun h' t od' e' N' sb=>?_)
  have kf:∀ {f:Tag→Bool} {t:Tag},f (.held od)=false→Ky f g1 (g1.put d t):=fun h=>put_ky (by rw [zd1]; exact h)
  have l2:Lw g (g1.put d (.held od')):=Ky.trans l1.lw (kf rfl)
  have hn':=List.nodup_cons.mp hn
  refine init_ok (fs:=fs) (done:=done++[(p.1,r1.1)]) eo inj hv xd h2 (fun p hp=>hf p (.tail _ hp)) hn'.2 (fun p' hp q hq=>(List.mem_append.mp hq).elim (hd p' (.tail _ hp) q) fun hq e=>hn'.1 (List.mem_map.mpr ⟨p',hp,e.symm.trans (congrArg Prod.fst (List.mem_singleton.mp hq))⟩))
   ⟨o1.put (t := .held od') (by rw [zd1]; rfl) e' (fun b n _=>sb.2 b n) rfl rfl,I.lo.mono l2,I.me.mono l2.fm,(put_ne xd).trans zx1,⟨od',put_self,N'⟩,fun n v hm=>(List.mem_append.mp hm).elim (fun hm=>(I.done n v hm).elim fun u hu=>⟨u,(if_neg fun e=>hd p (.head _) (n,v) hm (ofString_inj e)).trans hu.1,VR.mono _ l2.wlv hu.2⟩) fun hm=>by
    cases List.mem_singleton.mp hm
    exact ⟨w,if_pos rfl,VR.mono _ (kf rfl) v1.vr1⟩⟩ e3 fun g' s' m' hg I'=>?_
  cases dd
  rw [List.append_assoc] at I'
  refine k g' s' m' (fun b nb a=>?_) I'
  have e1:g1.put d (.held od') b=g b:=(put_ne nb).trans (l1 b a)
  exact (hg b nb (by rw [e1]; exact a)).trans e1
theorem evFs_names {C:Calls}:∀ {fs:List (String×Mine.E)} {vals:List (String×V)} {H H':Hp},evFs C ρ fs H=some (vals,H')→vals.map (·.1)=fs.map (·.1)
 | [],_,_,_,h=>by cases h; rfl
 | p::fs,_,_,_,h=>bindE h fun r1 _ h=>mapE h fun r2 e2 d=>by cases d; exact congrArg (p.1::·) (evFs_names e2)
theorem flds_of {g:G} {m:Str→Option Value}:∀ {vals:List (String×V)} {ns:List String},vals.map (·.1)=ns→(∀ n v,(n,v)∈vals→∃ u,m (Str.ofString n)=some u∧VR v g u)→∃ vs,FldAt m ns vs∧VRs (vals.map (·.2)) g vs
 | [],ns,e,_=>⟨[],by rw [← e]; rfl,.nil⟩
 | p::vals,ns,e,h=>by
  obtain ⟨u,a,b⟩:=h p.1 p.2 (.head _)
  obtain ⟨vs,c,d⟩:=flds_of (vals:=vals) rfl fun n v hm=>h n v (.tail _ hm)
  exact ⟨u::vs,by rw [← e]; exact congr (congrArg List.cons a) c,.cons b d⟩
theorem aget_in {es:List (String×V)} {n:String} {w:V} (h:aget n es=some w):(n,w)∈es:=mapE h fun p e1 e2=>(Prod.ext (of_decide_eq_true (List.find?_some (p:=fun e:String×V=>decide (e.1=n)) e1)) e2:p=(n,w))▸List.mem_of_find?_eq_some e1
theorem new_done {g:G} {H:Hp} {s:Shared} {vals:List (String×V)} {m:Str→Option Value} {od:Obj} {v:V} {H':Hp} {Q:Value→Shared→Prop} (hn:vals.map (·.1)=c.fields) (o:Ok T g H s) (hx:g x = .no) (hd:g d = .no) (ex:s.heap.get? x=some (instObj c.addr d)) (ed:s.heap.get? d=some od) (N:NsO c.fields od m) (xd:x≠d) (lx:2≤x) (ld:2≤d)
  (hv:∀ n v,(n,v)∈vals→∃ u,m (Str.ofString n)=some u∧VR v g u) (e:(match isNames c with | true=>(V.ref (H.length+1),H++[.attrs vals,.inst c H.length]) | false=>(V.obj c (vals.map (·.2)),H))=(v,H')) (k:Nx T g H' true v Q):Q (.ref x) s:=by
 have hx':∀ {t},g.put d t x = .no:=fun {t}=>(put_ne xd).trans hx
 cases hc:isNames c with
 | true=>
  rw [hc] at e
  have hcn:c = .names:=by cases c <;> first | rfl | cases hc
  subst hcn
  have o1:=o.add (ao := .attrs vals) (by rw [hd]; rfl) ed ld fun q k=>k m N fun n w e q k=>(hv n w (aget_in e)).elim fun u hu=>k u hu.1 (VR.mono _ (put_lv hd) hu.2)
  have o2:=o1.add (ao := .inst .names H.length) (by rw [hx']; rfl) ex lx fun q k=>k d ((put_ne (Ne.symm xd)).trans put_self) rfl
  rw [List.append_assoc] at o2
  refine (k.pr e) _ _ s ((put_le hd).trans (put_le hx')) o2 (.of fun q k=>k x ?_ rfl)
  rw [put_self,List.length_append]
  rfl
 | false=>
  rw [hc] at e
  obtain ⟨vs,f1,f2⟩:=flds_of hn hv
  have o1:=o.put (t := .fix od) (by rw [hd]; rfl) ed (fun _ _ _=>rfl) rfl rfl
  have o2:=o1.put (t := .fix (instObj c.addr d)) (by rw [hx']; rfl) ex (fun _ _ _=>rfl) rfl rfl
  exact (k.pr e) _ _ s ((put_le hd).trans (put_le hx')) o2 (.of fun q k=>k x d od m vs rfl put_self ((put_ne (Ne.symm xd)).trans put_self) N f1 (VRs.mono _ (Ky.trans (put_lv hd) (put_lv hx')) f2))
end
section
variable {T:Tp} {A:Around} {g:G} {H H':Hp} {s:Shared} {n:Nat} {c:Cls} {as:List V} {vs:List Value} {v:V} {Q:Value→Shared→Prop} {K:Frag}
theorem under_weight {a:Addr} {vs:List Value}:Code.weight (.builtin "type.__call__" ⟨.ref a::vs,[]⟩)=1∧Code.cUnits (.builtin "type.__call__" ⟨.ref a::vs,[]⟩)=1:=⟨by kernel_rfl,by kernel_rfl⟩
theorem defs_e {v:Value} (X:K.In s.heap) (h:defsOk K v=true):∃ its:Array Value,v = .none∨∃ T o n,v = .ref T∧s.heap.get? T=some o∧o.data = .seq its n:=
 orE h (fun h=>⟨#[],.inl (beq_iff_eq.mp h)⟩) fun h=>vRef_e h fun a e h=>vO_e h fun ob e2 h=>vSeq_e h fun its n e3 _=>⟨its,.inr ⟨a,ob,n,e,X _ _ e2,e3⟩⟩
theorem Room.under {env:Env} {a:Addr} (r:Room (n+1) A):Room n ((A.under (.builtin "type.__call__" ⟨.ref a::vs,[]⟩)).deeper env):=⟨r.handled,
 Nat.lt_of_le_of_lt (show A.depth+Code.weight (.builtin "type.__call__" ⟨.ref a::vs,[]⟩)+1+2*n≤_ by rw [under_weight.1,Nat.mul_succ,Nat.add_assoc,Nat.add_assoc,Nat.add_comm (2*n)]; exact Nat.le_of_eq (by rw [← Nat.add_assoc 1 1])) r.depth,
 Nat.lt_of_le_of_lt (show A.units+Code.cUnits (.builtin "type.__call__" ⟨.ref a::vs,[]⟩)+3+12*n+100≤_ by rw [under_weight.2,Nat.mul_succ,Nat.add_assoc A.units,Nat.add_assoc A.units,Nat.add_comm (1+3)]; exact Nat.add_le_add_right (Nat.add_le_add_left (Nat.add_le_add_left (by decide) _) _) _) r.units⟩
theorem init_names:∀ c:Cls,(theInit c).2.map (·.1)=c.fields:=fun c=>by cases c <;> rfl
theorem fields_nodup:∀ c:Cls,c.fields.Nodup:=fun c=>by cases c <;> decide
theorem empty_ns {ns:List String}:NsO ns emptyDict (fun _=>none):=⟨#[],_,rfl,fun e he=>absurd he (Array.not_mem_empty _),by unfold UniqKeys; simp,fun _=>rfl,fun y hy=>absurd rfl hy⟩
theorem new_ok (C:CallsOk T (rn n) n) (room:Room (n+1) A) (o:Ok T g H s) (R:VRs as g vs) (e:initV (rn n) c as H=some (v,H')) (k:Nx T g H' true v Q):wpAny T.M A (call (.ref c.addr) vs) Q noE s:=
 ifE e fun hl e=>mapE e fun r e1 e2=>andE (List.all_eq_true.mp T.top.make c c.mem) fun hm h=>vO_e h fun x hi h=>vO_e h fun fv hfv h=>vRef_e h fun fI hfI h=>andE h fun hf h=>fnOk_e h fun oc od fd osl body hK f=>andE f.m fun hb1 hb=>andE hb fun hb2 hb3=>by
 subst hfv
 subst hfI
 refine wpAny_call ?_
 obtain ⟨hp,gg,dd,tk,os⟩:=s
 refine make_core (makes_of o.xin hm) (looks_findIn o.xin hi) (fun self=>bind_fn o.xin self (beq_iff_eq.mp hf)) (.inl rfl) ?_
 have lo:=o.lo
 have gd:g hp.objs.size = .no:=o.new
 have gx:g (hp.objs.size+1) = .no:=o.dead (get_none (Nat.le_succ _))
 have o0:Ok T g H ⟨(hp.push emptyDict).push (instObj c.addr hp.objs.size),gg,dd,tk,os⟩:=(o.push (k:=tk) emptyDict).push (k:=tk) _
 have ix:((hp.push emptyDict).push (instObj c.addr hp.objs.size)).get? (hp.objs.size+1)=some (instObj c.addr hp.objs.size):=by
  have:=Heap.get?_push_size (hp.push emptyDict) (o:=instObj c.addr hp.objs.size) rfl
  rwa [Heap.size_push] at this
 have idd:((hp.push emptyDict).push (instObj c.addr hp.objs.size)).get? hp.objs.size=some emptyDict:=Heap.get?_push_of_some _ (Heap.get?_push_size _ rfl)
 have hlv:(Value.ref (hp.objs.size+1)::vs).length=(theInit c).1+1:=by rw [List.length_cons,R.length,Nat.eq_of_beq_eq_true hl]
 obtain ⟨its,hdefs⟩:=defs_e o0.xin f.defs
 refine call_cellsB (s:=⟨(hp.push emptyDict).push (instObj c.addr hp.objs.size),gg,dd,tk,os⟩) ?_ (o0.xin _ _ hK) rfl o0.nolimit (codeRec_of o0.xin f.code) f.bodyE (bind_full f.po f.ko f.va f.kw hdefs (hlv.trans f.npE.symm) f.nodup) f.clo (fun p hp=>(f.kinds (List.of_mem_zip hp).1).imp (fun h=>h) fun q=>⟨q,cellsFrom_has _ _ _ _ (.inl (mem_of_lookup q))⟩) (fun s₁ y=>?_) f.co f.gen f.kind
 ·have:=(room.under (vs:=vs) (a:=c.addr) (env:=callEnvC fd hp.objs.size fI)).depth
  exact Nat.lt_of_le_of_lt (Nat.le_trans (Nat.le_succ _) (Nat.le_add_right _ _)) this
 refine entry rfl f o0 (sls := .undef::as.map .v) (fun i w e=>?_) (fun i xs e=>?_) hlv y fun F hF o1 f1 lo1 vin=>?_
 ·cases i with
  | zero=>exact slne rfl (Option.some.inj e)
  | succ i=>
   rw [List.getElem?_cons_succ,List.getElem?_map] at e
   exact mapE e fun w' e1 e2=>by cases e2; exact R.get e1 fun u h1 h2=>⟨u,h1,h2⟩
 ·cases i with
  | zero=>exact slne rfl (Option.some.inj e)
  | succ i=>
   rw [List.getElem?_cons_succ,List.getElem?_map] at e
   exact mapE e fun w' e1 e2=>slne rfl e2
 have xF:hp.objs.size+1∉F:=fun m=>nomatch ix.symm.trans (hF _ m)
 have dF:hp.objs.size∉F:=fun m=>nomatch idd.symm.trans (hF _ m)
 have xd:(hp.objs.size+1:Nat)≠hp.objs.size:=Nat.succ_ne_self _
 have ex:=(enter_out (g:=g) (h:=s₁.heap) xF).trans (by rw [gx]; rfl:(g (hp.objs.size+1)).lock = .no)
 have ed:=(enter_out (g:=g) (h:=s₁.heap) dF).trans (by rw [gd]; rfl:(g hp.objs.size).lock = .no)
 have ed':∀ {t},(g.enter F s₁.heap).put (hp.objs.size+1) t hp.objs.size = .no:=fun {t}=>(put_ne (Ne.symm xd)).trans ed
 have le1:=(put_le (t := .held (instObj c.addr hp.objs.size)) ex).trans (put_le (t := .held emptyDict) ed')
 have hself:(selfS,Value.ref (hp.objs.size+1))∈(fd.params.args.map (·.arg)).zip (Value.ref (hp.objs.size+1)::vs):=by
  have h0:0 < (fd.params.args.map (·.arg)).length:=by rw [List.length_map,f.npE]; exact Nat.succ_pos _
  have a2:=f.arg (List.getElem?_eq_getElem h0)
  refine isVar_e hb2 fun l0 _ _ _=>List.mem_of_getElem? (i:=0) (List.getElem?_zip_eq_some.mpr ⟨?_,rfl⟩)
  rw [List.getElem?_eq_getElem h0]
  exact Option.some.inj (a2.symm.trans l0)
 refine wpAny_mono (init_ok (cf:=⟨_,rn n,n,room.under (vs:=vs),C⟩) f.envOk f.ly.inj hb2 xd hb1 (fun p hp=>init_names c▸List.mem_map_of_mem hp) (init_names c▸fields_nodup c) (fun _ _ _ h=>(List.not_mem_nil h).elim)
  ⟨(o1.put (t := .held (instObj c.addr hp.objs.size)) (by rw [ex]; rfl) (y.toInCall.keep _ _ ix) (fun _ _ _=>rfl) rfl rfl).put (t := .held emptyDict) (by rw [ed']; rfl) (y.toInCall.keep _ _ idd) (fun _ _ _=>rfl) rfl rfl,lo1.mono le1.lw,(vin _ _ hself).mono le1.lw.fm,(put_ne xd).trans put_self,⟨emptyDict,put_self,empty_ns⟩,fun _ _ h=>(List.not_mem_nil h).elim⟩ e1 fun g' s' m' hg I=>?_) (fun _ _ h=>h) fun _ _ h=>h.elim
 have rr:∀ b,(g b).any=true→g' b=(g b).lock:=fun b a=>by
  have nx:b≠hp.objs.size+1:=fun e=>by rw [e,gx] at a; cases a
  have nd:b≠hp.objs.size:=fun e=>by rw [e,gd] at a; cases a
  have nF:b∉F:=fun m=>by rw [o0.dead (hF b m)] at a; cases a
  have e1:=(put_ne (t := .held emptyDict) nd).trans ((put_ne (t := .held (instObj c.addr hp.objs.size)) nx).trans (enter_out (g:=g) (h:=s₁.heap) nF))
  exact (hg b nd (by rw [e1]; exact out_any _ (lock_out _ a))).trans e1
 obtain ⟨od',zd,N⟩:=I.d
 exact ⟨rfl,new_done ((evFs_names e1).trans (init_names c)) (I.o.back rr) (back_no gx (by rw [I.x]; rfl)) (back_no gd (by rw [zd]; rfl)) (I.o.hd I.x) (I.o.hd zd) N xd (Nat.le_trans lo (Nat.le_succ _)) lo (fun n v hm=>(I.done n v hm).elim fun u hu=>⟨u,hu.1,VR.mono _ (back_lv rr) hu.2⟩) e2 (k.up back_le)⟩
end
section
variable {T:Tp} {A:Around} {g:G} {H H':Hp} {s:Shared} {n:Nat} {c:Cls} {as:List V} {vs:List Value} {v:V} {Q:Value→Shared→Prop} {q:Prop}
theorem clsq_e:∀ {f:Fn},f.cls?=some c→f.adr=c.addr
 | ⟨0⟩,h=>by cases h; rfl
 | ⟨1⟩,h=>by cases h; rfl
 | ⟨2⟩,h=>by cases h; rfl
 | ⟨3⟩,h=>by cases h; rfl
 | ⟨4⟩,h=>by cases h; rfl
 | ⟨5⟩,h=>by cases h; rfl
 | ⟨6⟩,h=>by cases h; rfl
 | ⟨7⟩,h=>by cases h; rfl
 | ⟨8⟩,h=>by cases h; rfl
 | ⟨n+9⟩,h=>nomatch h
theorem fn_in {f:Fn} {C:Calls} {st:St} {r:Fl×St} (h:f.cls?=none) (e:exs C (theFn f).body st=some r) (k:fnsOk T.K f=true→q):q:=by
 obtain ⟨m⟩:=f
 have h9:9≤m:=Nat.le_of_not_lt fun l=>by
  have:m < [Cls.pair,.symbol,.alias,.special,.locName,.globName,.scope,.symtab,.names].length:=l
  rw [show Fn.cls? ⟨m⟩=some _ from List.getElem?_eq_getElem this] at h
  cases h
 obtain ⟨i,hi⟩:=Nat.exists_eq_add_of_le' h9
 subst hi
 rcases Nat.lt_or_ge i 64 with l | l
 ·exact k (List.all_eq_true.mp T.top.fns i (List.mem_range.mpr l))
 ·have e0:theFn ⟨i+9⟩=⟨0,0,.cons .stuck .nil⟩:=by
   show (fnTab[i]?).getD _=_
   rw [List.getElem?_eq_none (show fnTab.length≤i from l)]
   rfl
  rw [e0] at e
  exact nomatch (show (none:Option (Fl×St))=some r from e)
theorem rn_fn {f:Fn} (h:f.cls?=none) (e:rn (n+1) f as H=some (v,H')) (k:∀ r,as.length=(theFn f).np→exs (rn n) (theFn f).body (ρ0 (theFn f) as,H)=some r→finP r=(v,H')→q):q:=by
 have e:(if Nat.beq as.length (theFn f).np then finR (exs (rn n) (theFn f).body (ρ0 (theFn f) as,H)) else none)=some (v,H'):=by
  rw [← e]
  show _=match f.cls? with | some c=>_ | none=>_
  rw [h]
 exact ifE e fun hl e=>mapE e fun r e1 e2=>k r (Nat.eq_of_beq_eq_true hl) e1 e2
theorem calls_fn {f:Fn} {vs₀:List Value} (C:CallsOk T (rn n) n) (room:Room (n+1) A) (o:Ok T g H s) (hr:VRs as g vs) (h:f.cls?=none) (e:rn (n+1) f as H=some (v,H')) (k:Nx T g H' true v Q) (hb:∀ oc od fd osl,T.K.lookup f.adr=some ⟨oc,od,.func fd,osl⟩→fd.params.posonlyargs=[]→fd.params.kwonlyargs=[]→fd.params.vararg=none→fd.params.kwarg=none→defsOk T.K fd.defaults=true→vs.length=fd.params.args.length→(fd.params.args.map (·.arg)).Nodup→BindsTo s fd ⟨vs₀,[]⟩ ((fd.params.args.map (·.arg)).zip vs)):wpAny T.M A (call (.ref f.adr) vs₀) Q noE s:=
 rn_fn h e fun r hl e1 e2=>fn_in h e1 fun hf=>fnOk_e hf fun oc od fd osl body hK fo=>wpAny_call (fn_code (d:=theFn f) C hK fo room o (hb oc od fd osl hK fo.po fo.ko fo.va fo.kw fo.defs (by rw [hr.length,hl,fo.npE]) fo.nodup) hr hl e1 fun x g' s' l o' vr=>k.pr e2 x g' s' l o' (.of vr))
theorem twoOf {α:Type}:∀ {l:List α},l.length=2→∃ a b,l=[a,b]
 | [a,b],_=>⟨a,b,rfl⟩
theorem calls_ok:∀ n,CallsOk T (rn n) n
 | 0=>⟨fun _ _ _ _ _ _ e=>(nomatch e),fun _ _ _ _ _ _ e=>(nomatch e)⟩
 | n+1=>by
  refine ⟨fun {f as A g H s vs} room o hr v H' Q e k=>?_,fun {a A g H s x} room o hr v H' Q e k=>calls_fn (f:=⟨10⟩) (vs:=[x,.ref emptyA]) (calls_ok n) room o (.cons hr (.cons (show VR .empty g (.ref emptyA) from rfl) .nil)) rfl e k fun oc od fd osl hK h1 h2 h3 h4 _ h6 h7=>?_⟩
  ·cases hc:f.cls? with
   | some c=>
    rw [clsq_e hc]
    refine new_ok (calls_ok n) room o hr (c:=c) ?_ k
    rw [← e]
    show _=match f.cls? with | some c=>_ | none=>_
    rw [hc]
   | none=>exact calls_fn (calls_ok n) room o hr hc e k fun oc od fd osl hK h1 h2 h3 h4 h5 h6 h7=>(defs_e o.xin h5).elim fun its hd=>bind_full h1 h2 h3 h4 hd h6 h7
  ·have hd:=T.top.dfl
   unfold listOk at hd
   refine vO_e hd fun ob e1 hd=>vFn_e hd fun fd' e2 hd=>vRef_e hd fun T' e3 hd=>vO_e hd fun o2 e4 hd=>vSeq_e hd fun its m e5 h9=>?_
   cases (show T.K.lookup 182=some ⟨oc,od,.func fd,osl⟩ from hK).symm.trans e1
   cases e2
   have e6:its=#[Value.ref emptyA]:=Array.toList_inj.mp (v1_of (P:=fun l=>l=[Value.ref emptyA]) h9 fun v h=>by rw [beq_iff_eq.mp h])
   subst e6
   have hl:(fd.params.args.map (·.arg)).length=2:=(List.length_map ..).trans h6.symm
   obtain ⟨p1,p2,hp⟩:∃ p1 p2,fd.params.args.map (·.arg)=[p1,p2]:=twoOf hl
   rw [hp] at h7 ⊢
   exact bind_short h1 h2 h3 h4 e3 (o.xin _ _ e4) e5 hp fun e=>(List.nodup_cons.mp h7).1 (e ▸ .head _)
end
noncomputable def ints' (xs:List Int):List V:=xs.map .int
theorem vrs_ints {g:G} {P:Params} {h:Heap}:∀ {xs:List Int} {vs:List Value},WellAll P h vs (ofPys (xs.map PyData.int))→VRs (ints' xs) g vs
 | [],vs,h=>by cases h; exact .nil
 | x::xs,vs,h=>by
  cases h with
  | cons a b=>
   refine .cons ?_ (vrs_ints b)
   cases a with
   | int i t=>exact fun _ k=>k t rfl
theorem well_list {P:Params} {h:Heap} {l:Addr} {vs:List Value} {xs:List Int} (w1:Well P h (.ref l) (ofPy (.list (xs.map PyData.int)))) (hL:h.IsList l vs.toArray):h.get? l=some (lstObj vs 0)∧∀ g:G,VRs (ints' xs) g vs:=by
 cases w1 with
 | list e q=>
  rename_i us
  obtain ⟨o2,e2,_,n2,d2⟩:=hL
  rw [e] at e2; cases e2
  have:us=vs:=by
   have h2:(Data.seq us.toArray 0)=Data.seq vs.toArray n2:=d2
   injection h2 with h3 _
   injection h3
  subst this
  exact ⟨e,fun g=>vrs_ints q⟩
theorem call_law {p:Program} {w:World} {K:Frag} {s:Shared} {mg mb:Str→Option Value} {l:Addr} {vs:List Value} {xs:List Int} {n:Nat} {H':Hp} {A:Around} (top:Top K) (X:K.In s.heap) (Gn:s.heap.Ns mainGlobals mg) (Bn:s.heap.Ns builtinsNs mb)
  (hb:∀ x:Str,x ≠ "__name__"→mb x=bootBuiltins x) (nl:s.heap.NoLimit) (room:Room n A) (hl:s.heap.get? l=some (lstObj vs 0)) (hw:∀ g:G,VRs (ints' xs) g vs) (len:xs.length≤1000) (hrun:rn n .law [.lst (ints' xs)] []=some (.bool true,H')) :
  wpAny (model p w) A (call (.ref 873) [.ref l]) (fun v s'=>v = .bool true∧s'.gens=s.gens∧s'.os=s.os∧∀ b o,s.heap.get? b=some o→s'.heap.get? b=some o) (fun _ _=>False) s:=by
 have zf:∀ {a ob},s.heap.get? a=some ob→(s.heap.get? a).elim Tag.no .fix = .fix ob:=fun e=>by rw [e]; rfl
 have zn:∀ {a i},(s.heap.get? a).elim Tag.no .fix ≠ .ours i:=fun {a i} e=>by
  cases h:s.heap.get? a with
  | none=>rw [h] at e; cases e
  | some ob=>rw [h] at e; cases e
 have o:Ok ⟨p,w,K,s,top,X,mg,mb,Gn,Bn,hb,nl⟩ (fun a=>(s.heap.get? a).elim .no .fix) [] s:=⟨fun a => .inr (by
  cases h:s.heap.get? a with
  | none=>exact trivial
  | some ob=>exact h),fun a i e=>absurd e zn,fun i ao e=>(nomatch e),fun a b i e=>absurd e zn,fun a ob e=>zf e,rfl,rfl⟩
 have r:VR (.lst (ints' xs)) (fun a=>(s.heap.get? a).elim .no .fix) (.ref l):=⟨by unfold ints'; rw [List.length_map]; exact Nat.le_trans len (by decide),fun _ k=>k l vs 0 rfl (zf hl) (hw _)⟩
 refine (calls_ok n).fn (f := .law) room o (.cons r .nil) hrun fun v g' s' l o' vx=>⟨vx.bool,o'.gens,o'.os,fun b ob h=>o'.fx (o'.base _ _ h)⟩
theorem Top.law {K:Frag} {h:Heap} {mg:Str→Option Value} {fa:Addr} (top:Top K) (X:K.In h) (Gn:h.Ns mainGlobals mg) (e:mg "law"=some (.ref fa)):fa=873:=by
 have hm:=beq_iff_eq.mp (List.all_eq_true.mp top.globs ("law",873) (List.contains_iff_mem.mp (by decide +kernel)))
 have:=mg_of X Gn hm
 rw [show Str.ofString "law"=("law":Str) from rfl,e] at this
 cases this
 rfl
end Mine
end
set_option maxHeartbeats 8000000
open PySem PySem.W PyProof.Rows
namespace Mine
open PySem.Calls
theorem top_for {K : Frag} {h : Heap} (_ : K.In h) (t : Top K) : Top K := t
namespace top
theorem tw9601329371697537090:True:=trivial
theorem tw16763451633784949842:True:=trivial
theorem tw16541100652227675460:True:=trivial
theorem tw5155950481276406077:True:=trivial
theorem tw5667650583090716360:True:=trivial
theorem tw8069049012094873728:True:=trivial
theorem tw4292522238394942308:True:=trivial
theorem tw12520176845478516731:True:=trivial
theorem tw3704924817259034979:True:=trivial
theorem tw6733462575251390621:True:=trivial
theorem tw13820912127525551613:True:=trivial
theorem tw10367675484739944270:True:=trivial
theorem tw17395277212465857529:True:=trivial
theorem tw7475746777092488413:True:=trivial
theorem tw1592229195962567352:True:=trivial
theorem tw1139600151236580504:True:=trivial
theorem tw4002441696211005659:True:=trivial
theorem tw2218668502564051296:True:=trivial
theorem tw2782073688633401757:True:=trivial
theorem tw9305691244287143441:True:=trivial
theorem tw6756868429301003459:True:=trivial
theorem tw908825868028484722:True:=trivial
theorem tw9378254376102152143:True:=trivial
theorem tw15169761463676818070:True:=trivial
theorem tw16204670001084760307:True:=trivial
theorem tw8143265674769528471:True:=trivial
theorem tw6812286434817487243:True:=trivial
theorem tw8640399195822439974:True:=trivial
theorem tw5303079699428457377:True:=trivial
theorem tw13091174067606910046:True:=trivial
theorem tw864819663365544661:True:=trivial
theorem tw8689318265317240412:True:=trivial
theorem tw14987219478266130788:True:=trivial
theorem tw14861896470697024400:True:=trivial
theorem tw13120753694373217308:True:=trivial
theorem tw13359135706311490777:True:=trivial
theorem tw17177869089781658578:True:=trivial
theorem tw9063741608606530840:True:=trivial
theorem tw14917401599646851644:True:=trivial
theorem tw15860264024139754761:True:=trivial
theorem tw10773188271377071773:True:=trivial
theorem tw5118827330378232414:True:=trivial
theorem tw788273225186049534:True:=trivial
theorem tw14349089067433371257:True:=trivial
theorem tw1732150942055357024:True:=trivial
theorem tw2731995056826638727:True:=trivial
theorem tw10404823597219466188:True:=trivial
theorem tw9229161468869434483:True:=trivial
theorem tw8810280945414196856:True:=trivial
theorem tw15240379268576122478:True:=trivial
theorem tw1886144042066472794:True:=trivial
theorem tw12819366960792805191:True:=trivial
theorem tw5088376156974544275:True:=trivial
theorem tw13160728816969591200:True:=trivial
theorem tw13303987763403120937:True:=trivial
theorem tw1149218181149386328:True:=trivial
theorem tw2985252069258134486:True:=trivial
theorem tw1814787853859245837:True:=trivial
theorem tw10617020205504526918:True:=trivial
theorem tw1492452104121835379:True:=trivial
theorem tw4551080515912023512:True:=trivial
theorem tw16420938139371093754:True:=trivial
theorem tw1869187583165140508:True:=trivial
theorem tw14608685727046917156:True:=trivial
theorem tw6898770573198911631:True:=trivial
theorem tw81815255157605957:True:=trivial
theorem tw7847650389618582240:True:=trivial
theorem tw11858546649754279707:True:=trivial
theorem tw6187478851450931391:True:=trivial
theorem tw15177526630643400193:True:=trivial
theorem tw7990429038631628895:True:=trivial
theorem tw2822501910515967889:True:=trivial
theorem tw5868845118606482295:True:=trivial
theorem tw16273406610938067001:True:=trivial
theorem tw15362295582089109014:True:=trivial
theorem tw6286779285267259847:True:=trivial
theorem tw4213018616267185653:True:=trivial
theorem tw12540527436937284434:True:=trivial
theorem tw3969286963782609292:True:=trivial
theorem tw7297446738713254254:True:=trivial
theorem tw14502225709538309166:True:=trivial
theorem tw16759092144687519636:True:=trivial
theorem tw4671429814451907529:True:=trivial
theorem tw8363718466572441477:True:=trivial
theorem tw5523086135645875356:True:=trivial
theorem tw17555251805378815213:True:=trivial
theorem tw18164388396756303480:True:=trivial
theorem tw427269002284569659:True:=trivial
theorem tw17486766287000646611:True:=trivial
theorem tw15878805988109762761:True:=trivial
theorem tw575894324575664597:True:=trivial
theorem tw4498253355057717688:True:=trivial
theorem tw705360758644809490:True:=trivial
theorem tw4186445540838780016:True:=trivial
theorem tw2249405535684624136:True:=trivial
theorem tw12342655685612074800:True:=trivial
theorem tw2924597203103170677:True:=trivial
theorem tw2867133514656366558:True:=trivial
theorem tw6431110157172167083:True:=trivial
theorem tw517144808224063464:True:=trivial
theorem tw3776753064480771068:True:=trivial
theorem tw3730354652608582461:True:=trivial
theorem tw9059672392935016618:True:=trivial
theorem tw3195968871104189447:True:=trivial
theorem tw14459580976405569124:True:=trivial
theorem tw7855079511596107753:True:=trivial
theorem tw18186074749648716422:True:=trivial
theorem tw9759319705405543751:True:=trivial
theorem tw8538268897159353584:True:=trivial
theorem tw18034075008235765660:True:=trivial
theorem tw1195175773429642966:True:=trivial
theorem tw1284575025550258836:True:=trivial
theorem tw13928562000808390012:True:=trivial
theorem tw105208000716104510:True:=trivial
theorem tw14826035006057030972:True:=trivial
theorem tw16155163154822807229:True:=trivial
theorem tw13264354339760550358:True:=trivial
theorem tw453181688931711583:True:=trivial
theorem tw775762912060472103:True:=trivial
theorem tw8345894832289464959:True:=trivial
theorem tw8892184565913893157:True:=trivial
theorem tw16352630495959832749:True:=trivial
theorem tw8443935842833279946:True:=trivial
theorem tw6749217079512962374:True:=trivial
theorem tw2812155379371279736:True:=trivial
theorem tw12643491718579748851:True:=trivial
theorem tw17470836177267949868:True:=trivial
theorem tw12012865196380796599:True:=trivial
theorem tw4656485037274611717:True:=trivial
theorem tw13272337422414781067:True:=trivial
theorem tw14796646475526232899:True:=trivial
theorem tw1275901062530889299:True:=trivial
theorem tw795583310449317561:True:=trivial
theorem tw12385144161495827662:True:=trivial
theorem tw6520327441239513222:True:=trivial
theorem tw16885616592811714743:True:=trivial
theorem tw6883741973766446791:True:=trivial
theorem tw5225153198818245361:True:=trivial
theorem tw16174758807025615021:True:=trivial
theorem tw987869383939708018:True:=trivial
theorem tw15299407806266782574:True:=trivial
theorem tw12622177474791663080:True:=trivial
theorem tw10648311167861321448:True:=trivial
theorem tw14372152842798730730:True:=trivial
theorem tw14402358008270493973:True:=trivial
theorem tw16123964013534891561:True:=trivial
theorem tw1516213087968936877:True:=trivial
theorem tw7527032243904285869:True:=trivial
theorem tw18008055252877512497:True:=trivial
theorem tw6370870915552960936:True:=trivial
theorem tw2462062305354472974:True:=trivial
theorem tw16196420915677631385:True:=trivial
theorem tw15569959144833144457:True:=trivial
theorem tw5244899138074338376:True:=trivial
theorem tw10936122117785486979:True:=trivial
theorem tw2617719716777270872:True:=trivial
theorem tw11423202765487971197:True:=trivial
theorem tw12392516345856041104:True:=trivial
theorem tw7414872774492366064:True:=trivial
theorem tw8265191368974092141:True:=trivial
theorem tw216529984938456764:True:=trivial
theorem tw11960245374511038805:True:=trivial
theorem tw6664487174759623829:True:=trivial
theorem tw4205137553216949640:True:=trivial
theorem tw7673058066778466091:True:=trivial
theorem tw2555065506035805374:True:=trivial
theorem tw12535971307161669396:True:=trivial
theorem tw10006222313960134694:True:=trivial
theorem tw1483126911874232274:True:=trivial
theorem tw370947364307004932:True:=trivial
theorem tw14390669486469195807:True:=trivial
theorem tw5581607755468803823:True:=trivial
theorem tw4321519831107876412:True:=trivial
theorem tw17315540178315561739:True:=trivial
theorem tw12425085872883035938:True:=trivial
theorem tw12094960947251128927:True:=trivial
theorem tw15058813355848621054:True:=trivial
theorem tw17323899518341599180:True:=trivial
theorem tw9059832203979395877:True:=trivial
theorem tw6127594578889010139:True:=trivial
theorem tw10448899703829047738:True:=trivial
theorem tw7008692893051332821:True:=trivial
theorem tw8184561461823581802:True:=trivial
theorem tw8435561252592420358:True:=trivial
theorem tw6919701780365589675:True:=trivial
theorem tw9108098604805947806:True:=trivial
theorem tw3561193834555079511:True:=trivial
theorem tw13345470168829271861:True:=trivial
theorem tw390997316461189296:True:=trivial
theorem tw728428047077509346:True:=trivial
theorem tw12483720753089274532:True:=trivial
theorem tw4159251561096739476:True:=trivial
theorem tw15503665604740900718:True:=trivial
theorem tw11334350811105764591:True:=trivial
theorem tw12958502747184954254:True:=trivial
theorem tw1400011881503588481:True:=trivial
theorem tw5969682004907312646:True:=trivial
theorem tw1212798325632107971:True:=trivial
theorem tw1676862907878916244:True:=trivial
theorem tw15985961358823992270:True:=trivial
theorem tw16580785732701462914:True:=trivial
theorem tw4713442408853163898:True:=trivial
theorem tw9614876229902214918:True:=trivial
theorem tw11762496359356365647:True:=trivial
theorem tw16044733080236030384:True:=trivial
theorem tw9503340733035011235:True:=trivial
theorem tw12376051458212225564:True:=trivial
theorem tw13370750898655102155:True:=trivial
theorem tw9259421805112917234:True:=trivial
theorem tw9382581127745807760:True:=trivial
theorem tw5889316905344633881:True:=trivial
theorem tw16713831800681072344:True:=trivial
theorem tw16795567611416646642:True:=trivial
theorem tw7830913209206220567:True:=trivial
theorem tw8321918168302905379:True:=trivial
theorem tw2007660962349395123:True:=trivial
theorem tw620129878449983639:True:=trivial
theorem tw6438537300738474071:True:=trivial
theorem tw13501252493785611398:True:=trivial
theorem tw11922380849998532372:True:=trivial
theorem tw339143206060000330:True:=trivial
theorem tw4047667213573674445:True:=trivial
theorem tw6885214360128481674:True:=trivial
theorem tw12317137736924338119:True:=trivial
theorem tw2443449257678562572:True:=trivial
theorem tw7429413206186439793:True:=trivial
theorem tw9335426496214029073:True:=trivial
theorem tw4859757453598101857:True:=trivial
theorem tw13889484949932952446:True:=trivial
theorem tw14789260269991461300:True:=trivial
theorem tw2145171640123136144:True:=trivial
theorem tw14371913498598963198:True:=trivial
theorem tw15092371282622821202:True:=trivial
theorem tw12787338502077490372:True:=trivial
theorem tw13889309363888878346:True:=trivial
theorem tw10915162052029792233:True:=trivial
theorem tw860223938195835975:True:=trivial
theorem tw18085771088847121727:True:=trivial
theorem tw17428532607074087071:True:=trivial
theorem tw13822267516522204269:True:=trivial
theorem tw5278709424875269971:True:=trivial
theorem tw17565814175750979855:True:=trivial
theorem tw1088946173253831356:True:=trivial
theorem tw2369445192022557226:True:=trivial
theorem tw13896958669275611876:True:=trivial
theorem tw6761616313442571491:True:=trivial
theorem tw17355269125676882429:True:=trivial
theorem tw8139039716903228087:True:=trivial
theorem tw15361541807878343388:True:=trivial
theorem tw10956490626425055710:True:=trivial
theorem tw8523463495250067690:True:=trivial
theorem tw877433047237710547:True:=trivial
theorem tw8679839319945467846:True:=trivial
theorem tw1142415686869020238:True:=trivial
theorem tw2988451766255067171:True:=trivial
theorem tw17469865338272021226:True:=trivial
theorem tw9768079942903668216:True:=trivial
theorem tw8107780213005350392:True:=trivial
theorem tw14142502885225118848:True:=trivial
theorem tw9961057766049560675:True:=trivial
theorem tw12718909917080609646:True:=trivial
theorem tw2581206410525282061:True:=trivial
theorem tw1617357707322924660:True:=trivial
theorem tw8204474986945543665:True:=trivial
theorem tw5225916559131626549:True:=trivial
theorem tw649594095290182367:True:=trivial
theorem tw887695700811335699:True:=trivial
theorem tw7198060816514059695:True:=trivial
theorem tw17046948494117081484:True:=trivial
theorem tw3422688185749166683:True:=trivial
theorem tw8694864300669457046:True:=trivial
theorem tw3474246075231452896:True:=trivial
theorem tw7743179893348639699:True:=trivial
theorem tw7444641836354208208:True:=trivial
theorem tw18063644159110109576:True:=trivial
theorem tw18371284783138465269:True:=trivial
theorem tw11466170419677230873:True:=trivial
theorem tw6505410396798821541:True:=trivial
theorem tw2665807947273092163:True:=trivial
theorem tw11203750815551599093:True:=trivial
theorem tw10008474027749305400:True:=trivial
theorem tw13044034144603486326:True:=trivial
theorem tw381845443943030031:True:=trivial
theorem tw12080426169559351053:True:=trivial
theorem tw4784893810139332661:True:=trivial
theorem tw2847958352784047137:True:=trivial
theorem tw17620759639134147866:True:=trivial
theorem tw18237780215024852062:True:=trivial
theorem tw5915399644114372684:True:=trivial
theorem tw13802547742096326172:True:=trivial
theorem tw8973803690348224638:True:=trivial
theorem tw7250933059871147345:True:=trivial
theorem tw8729362747519067210:True:=trivial
theorem tw11845233108574324481:True:=trivial
theorem tw12105128591322288922:True:=trivial
theorem tw18245740138792012028:True:=trivial
theorem tw9951221954081769418:True:=trivial
theorem tw13090165191389475591:True:=trivial
theorem tw8140125068956082859:True:=trivial
theorem tw6930518751129746686:True:=trivial
theorem tw15877122091014420850:True:=trivial
theorem tw11141966352661209427:True:=trivial
theorem tw283044589724301:True:=trivial
theorem tw4940147422707163885:True:=trivial
theorem tw16821654228018055803:True:=trivial
theorem tw3584897518013459382:True:=trivial
theorem tw7715697345341360870:True:=trivial
theorem tw1706793611546318481:True:=trivial
theorem tw8237333600419904120:True:=trivial
theorem tw9962302188120564619:True:=trivial
theorem tw11199532085631943738:True:=trivial
theorem tw10548783162686979305:True:=trivial
theorem tw14632489290957082403:True:=trivial
theorem tw1638113669730673903:True:=trivial
theorem tw1040915598704419856:True:=trivial
theorem tw146815374380898660:True:=trivial
theorem tw16104615914030681952:True:=trivial
theorem tw6624316729101989866:True:=trivial
theorem tw15918733279669447828:True:=trivial
theorem tw6189502492464219833:True:=trivial
theorem tw14399976873020721970:True:=trivial
theorem tw9743097575036673082:True:=trivial
theorem tw9953747333497923681:True:=trivial
theorem tw16550210197400561554:True:=trivial
theorem tw5860347150701562758:True:=trivial
theorem tw8645369167282567922:True:=trivial
theorem tw6211089042160764376:True:=trivial
theorem tw13420762306968818387:True:=trivial
theorem tw11520865232209809239:True:=trivial
theorem tw6662652255960138227:True:=trivial
theorem tw13068111086705522682:True:=trivial
theorem tw10987319290404115282:True:=trivial
theorem tw8212240652046128837:True:=trivial
theorem tw14762295962024373759:True:=trivial
theorem tw14697636140705633519:True:=trivial
theorem tw12415523145999629524:True:=trivial
theorem tw16840627104734473223:True:=trivial
theorem tw4597200072644226624:True:=trivial
theorem tw6042063481754889096:True:=trivial
theorem tw15740088241188596515:True:=trivial
theorem tw7600245330811189008:True:=trivial
theorem tw3254097082911018636:True:=trivial
theorem tw13326734554550294991:True:=trivial
theorem tw16878204669230926818:True:=trivial
theorem tw2464713573024523455:True:=trivial
theorem tw10797620697341660853:True:=trivial
theorem tw53344730913325255:True:=trivial
theorem tw8657480035899644758:True:=trivial
theorem tw76412952228603488:True:=trivial
theorem tw9739860059890490050:True:=trivial
theorem tw16415559393655328363:True:=trivial
theorem tw7313339093194340965:True:=trivial
theorem tw12427389293880184781:True:=trivial
theorem tw6430265229019958763:True:=trivial
theorem tw13134186033006778460:True:=trivial
theorem tw18086089286151905521:True:=trivial
theorem tw16054190913257422852:True:=trivial
theorem tw8148004212497801138:True:=trivial
theorem tw10783980745131425670:True:=trivial
theorem tw594810645892935528:True:=trivial
theorem tw15254643099363442306:True:=trivial
theorem tw5938664839603501006:True:=trivial
theorem tw6176384092110617959:True:=trivial
theorem tw2758071753971750899:True:=trivial
theorem tw11582926029173025856:True:=trivial
theorem tw13706816188851595723:True:=trivial
theorem tw11199710921928265848:True:=trivial
theorem tw17089494485692210459:True:=trivial
theorem tw2907113945770861938:True:=trivial
theorem tw9851269098105209369:True:=trivial
theorem tw11240886729373846589:True:=trivial
theorem tw18289109515434150305:True:=trivial
theorem tw14747140909534839006:True:=trivial
theorem tw17342085116792181814:True:=trivial
theorem tw2377541652452675900:True:=trivial
theorem tw9227057690007400460:True:=trivial
theorem tw9272544492142499777:True:=trivial
theorem tw3261557481417251176:True:=trivial
theorem tw3195522803047326042:True:=trivial
theorem tw16719718919923625709:True:=trivial
theorem tw10801874191123338550:True:=trivial
theorem tw15095372191486117680:True:=trivial
theorem tw13307591127769906961:True:=trivial
theorem tw196536941598035525:True:=trivial
theorem tw1843344800811705456:True:=trivial
theorem tw18367679650794681301:True:=trivial
theorem tw9442318146202087700:True:=trivial
theorem tw9366391650621772374:True:=trivial
theorem tw2683898200743741643:True:=trivial
theorem tw1291508964198565346:True:=trivial
theorem tw9233335307524088747:True:=trivial
theorem tw17795014544551873601:True:=trivial
theorem tw10657950659306570408:True:=trivial
theorem tw3976154599441133093:True:=trivial
theorem tw1754339480302792767:True:=trivial
theorem tw8025738503920905074:True:=trivial
theorem tw17542608870123051758:True:=trivial
theorem tw17219337458794519322:True:=trivial
theorem tw3712731000106771831:True:=trivial
theorem tw16597617366809209970:True:=trivial
theorem tw16453443671601555132:True:=trivial
theorem tw7386116660499605909:True:=trivial
theorem tw9843447840031818808:True:=trivial
theorem tw16800595933775061595:True:=trivial
theorem tw4828031223510198475:True:=trivial
theorem tw4526881389914513428:True:=trivial
theorem tw3315250197877816394:True:=trivial
theorem tw6487610083215253720:True:=trivial
theorem tw1294077662247117797:True:=trivial
theorem tw14724332232928298890:True:=trivial
theorem tw13290321428070320777:True:=trivial
theorem tw13799840507378627052:True:=trivial
theorem tw9195894827357321740:True:=trivial
theorem tw16900427199656544559:True:=trivial
theorem tw8472579005086612782:True:=trivial
theorem tw2220570432770164149:True:=trivial
theorem tw11334203419191126389:True:=trivial
theorem tw7671549972530922468:True:=trivial
theorem tw13001836021917841797:True:=trivial
theorem tw9165953624949470791:True:=trivial
theorem tw9919435345466941130:True:=trivial
theorem tw11443710868159068359:True:=trivial
theorem tw1601500998369573665:True:=trivial
theorem tw9166809390415177425:True:=trivial
theorem tw10187264123177260123:True:=trivial
theorem tw1124271682379634556:True:=trivial
theorem tw17953984050398360512:True:=trivial
theorem tw15286249088069653756:True:=trivial
theorem tw15245507539482535896:True:=trivial
theorem tw13983857475226248213:True:=trivial
theorem tw9589608677651300831:True:=trivial
theorem tw4835499133494076262:True:=trivial
theorem tw2506305409684761478:True:=trivial
theorem tw8311017846404947139:True:=trivial
theorem tw427420600052151026:True:=trivial
theorem tw14851680436948445374:True:=trivial
theorem tw2312856594315299383:True:=trivial
theorem tw1833847959688406909:True:=trivial
theorem tw13710211086531791108:True:=trivial
theorem tw104434173382791472:True:=trivial
theorem tw7204493036743257322:True:=trivial
theorem tw297971269722091814:True:=trivial
theorem tw4555866861457887817:True:=trivial
theorem tw6196800358849779857:True:=trivial
theorem tw7847352863974893604:True:=trivial
theorem tw11760055953109336660:True:=trivial
theorem tw16058212318047004132:True:=trivial
theorem tw1971433849790844608:True:=trivial
theorem tw5398424786039705171:True:=trivial
theorem tw4840481374290595910:True:=trivial
theorem tw4699463449715708850:True:=trivial
theorem tw14615657086365298920:True:=trivial
theorem tw9913501989792142831:True:=trivial
theorem tw4916261283513009128:True:=trivial
theorem tw10079171474624433434:True:=trivial
theorem tw6124053682588569230:True:=trivial
theorem tw8369368087495890639:True:=trivial
theorem tw16782997733028217545:True:=trivial
theorem tw13994475860397038760:True:=trivial
theorem tw3378803678994701225:True:=trivial
theorem tw4383139521930768336:True:=trivial
theorem tw3995942328266245912:True:=trivial
theorem tw3739144386018749749:True:=trivial
theorem tw5245862010334584759:True:=trivial
theorem tw17030962893124633753:True:=trivial
theorem tw6973401727384321114:True:=trivial
theorem tw9361663168868926718:True:=trivial
theorem tw1655259298481077034:True:=trivial
theorem tw11459358961799972967:True:=trivial
theorem tw12256363837256957063:True:=trivial
theorem tw3767615275625035234:True:=trivial
theorem tw5983031951866500094:True:=trivial
theorem tw17022078359063049780:True:=trivial
theorem tw47109162367338493:True:=trivial
theorem tw2878843996050045342:True:=trivial
theorem tw12958664272152378060:True:=trivial
theorem tw12545222027267286695:True:=trivial
theorem tw4177254973167742082:True:=trivial
theorem tw4058662728301269685:True:=trivial
theorem tw11430207588045935325:True:=trivial
theorem tw17103585973383926153:True:=trivial
theorem tw17103177528636943170:True:=trivial
theorem tw13012589842206080548:True:=trivial
theorem tw8043003576528973991:True:=trivial
theorem tw3796891538752321733:True:=trivial
theorem tw1321871150748368714:True:=trivial
theorem tw4392038535549328194:True:=trivial
theorem tw1112988674713690477:True:=trivial
theorem tw10341860258655708415:True:=trivial
theorem tw3696473221133414273:True:=trivial
theorem tw15646934709686841381:True:=trivial
theorem tw8265311939077410998:True:=trivial
theorem tw4134505453457115739:True:=trivial
theorem tw10399464001100048223:True:=trivial
theorem tw2722852734226103192:True:=trivial
theorem tw3484022092364678248:True:=trivial
theorem tw3207569582813703071:True:=trivial
theorem tw681777741448182936:True:=trivial
theorem tw6674990990233134667:True:=trivial
theorem tw8874702517807110003:True:=trivial
theorem tw9800703332001039478:True:=trivial
theorem tw15722756333993289495:True:=trivial
theorem tw3217022616335106338:True:=trivial
theorem tw12764151676501842404:True:=trivial
theorem tw84136930442132756:True:=trivial
theorem tw13968125046926948103:True:=trivial
theorem tw14537839394382259888:True:=trivial
theorem tw10574840078274726829:True:=trivial
theorem tw4736427724481360342:True:=trivial
theorem tw17492772389151264855:True:=trivial
theorem tw16004416686337608138:True:=trivial
theorem tw9178861053002065721:True:=trivial
theorem tw2727672472851901052:True:=trivial
theorem tw7681529838311687354:True:=trivial
theorem tw13223034962123697568:True:=trivial
theorem tw9590735534726013551:True:=trivial
theorem tw672699306608606093:True:=trivial
theorem tw10774637447528242797:True:=trivial
theorem tw1988063486488863061:True:=trivial
theorem tw3669314199184481253:True:=trivial
theorem tw5766051744304087583:True:=trivial
theorem tw3871027444623705763:True:=trivial
theorem tw1697544655201012999:True:=trivial
theorem tw12209182163369298222:True:=trivial
theorem tw6292954644110606532:True:=trivial
theorem tw3002795768020413707:True:=trivial
theorem tw11542710104232473196:True:=trivial
theorem tw10187724287525710026:True:=trivial
theorem tw7381879191629600215:True:=trivial
theorem tw9227541089923242437:True:=trivial
theorem tw1123975283337734383:True:=trivial
theorem tw4166218997396506358:True:=trivial
theorem tw10001883323181062329:True:=trivial
theorem tw2405475915293451298:True:=trivial
theorem tw14657780768301432306:True:=trivial
theorem tw5609151216138764652:True:=trivial
theorem tw15349318334595610263:True:=trivial
theorem tw6265701101103706036:True:=trivial
theorem tw17781115878593249900:True:=trivial
theorem tw2417791160451022400:True:=trivial
theorem tw2686433634493928565:True:=trivial
theorem tw8560541052185303311:True:=trivial
theorem tw10567129059001840431:True:=trivial
theorem tw8968299171318014206:True:=trivial
theorem tw2267912224990424062:True:=trivial
theorem tw14145802354927516647:True:=trivial
theorem tw11116745826364501430:True:=trivial
theorem tw15874363893724204672:True:=trivial
theorem tw11994683656316670133:True:=trivial
theorem tw10194810499950245846:True:=trivial
theorem tw14453841093610474573:True:=trivial
theorem tw5839659824258004927:True:=trivial
theorem tw2544169868661182894:True:=trivial
theorem tw8507776931139520737:True:=trivial
theorem tw4331257952254489624:True:=trivial
theorem tw6746510453823603384:True:=trivial
theorem tw13318506193475082254:True:=trivial
theorem tw11457754044182789617:True:=trivial
theorem tw10579768621468169598:True:=trivial
theorem tw7160873610591055699:True:=trivial
theorem tw3479634599624807885:True:=trivial
theorem tw9152664641465651067:True:=trivial
theorem tw995497684801637723:True:=trivial
theorem tw7325726471975496349:True:=trivial
theorem tw10090393231696489298:True:=trivial
theorem tw5507162329139097715:True:=trivial
theorem tw5702910450625016506:True:=trivial
theorem tw4796303294375832693:True:=trivial
theorem tw10361075674979980167:True:=trivial
theorem tw10694878333477680388:True:=trivial
theorem tw17346259052997144950:True:=trivial
theorem tw4547018644641229820:True:=trivial
theorem tw10562855833978642645:True:=trivial
theorem tw15212760480394562756:True:=trivial
theorem tw3140898538269762758:True:=trivial
theorem tw10996937224433265937:True:=trivial
theorem tw15451780782824253742:True:=trivial
theorem tw2029088862249889922:True:=trivial
theorem tw7204998973626084599:True:=trivial
theorem tw6659320528611288953:True:=trivial
theorem tw13864677062968915208:True:=trivial
theorem tw17576949682797635024:True:=trivial
theorem tw7273676953221729872:True:=trivial
theorem tw13549259019975226677:True:=trivial
theorem tw350670483859837877:True:=trivial
theorem tw16439428074185983240:True:=trivial
theorem tw13500427573557490136:True:=trivial
theorem tw8327351992414209593:True:=trivial
theorem tw8054331753737935190:True:=trivial
theorem tw13987285891283452908:True:=trivial
theorem tw956089473029861405:True:=trivial
theorem tw12117888159696746259:True:=trivial
theorem tw14671331368771545958:True:=trivial
theorem tw1297684725254868899:True:=trivial
theorem tw1245559373397905713:True:=trivial
theorem tw16736118626332596326:True:=trivial
theorem tw9666326922614434849:True:=trivial
theorem tw5648408011753718230:True:=trivial
theorem tw10017263926548143515:True:=trivial
theorem tw7033079012710635876:True:=trivial
theorem tw17176029603704830031:True:=trivial
theorem tw9685713192446186341:True:=trivial
theorem tw602653604445443664:True:=trivial
theorem tw7657828476027519975:True:=trivial
theorem tw4951766788466123468:True:=trivial
theorem tw14597223018079223185:True:=trivial
theorem tw4773702212245658779:True:=trivial
theorem tw12904532413392791838:True:=trivial
theorem tw6908635100366463001:True:=trivial
theorem tw5513142621748847562:True:=trivial
theorem tw3874152929960365753:True:=trivial
theorem tw16034636559557993077:True:=trivial
theorem tw15542334942015070624:True:=trivial
theorem tw2732273902793177162:True:=trivial
theorem tw9149571693438533347:True:=trivial
theorem tw3820434133910038737:True:=trivial
theorem tw2770239361232196585:True:=trivial
theorem tw953821971998124167:True:=trivial
theorem tw3120133295221510679:True:=trivial
theorem tw2601905985415302144:True:=trivial
theorem tw17474498911051797155:True:=trivial
theorem tw12783364522390391256:True:=trivial
theorem tw1584292188352093569:True:=trivial
theorem tw7913636548009798097:True:=trivial
theorem tw5476889619067714990:True:=trivial
theorem tw661290744650703789:True:=trivial
theorem tw13975414291046593716:True:=trivial
theorem tw668136137496459709:True:=trivial
theorem tw9673933992889287130:True:=trivial
theorem tw2685012915969955173:True:=trivial
theorem tw13261893007816960818:True:=trivial
theorem tw1394568958698188020:True:=trivial
theorem tw5728218623943512802:True:=trivial
theorem tw10414433010598505635:True:=trivial
theorem tw15911569825323301435:True:=trivial
theorem tw13369591340354186047:True:=trivial
theorem tw4695670854781333657:True:=trivial
theorem tw17741875731164886585:True:=trivial
theorem tw17828378304095215089:True:=trivial
theorem tw13385244156195431271:True:=trivial
theorem tw4807692442873511580:True:=trivial
theorem tw83393220934416808:True:=trivial
theorem tw17050326753033342646:True:=trivial
theorem tw13370185576492129568:True:=trivial
theorem tw4791253341166991637:True:=trivial
theorem tw17582957951858275007:True:=trivial
theorem tw11334415319851112604:True:=trivial
theorem tw8999917154711486175:True:=trivial
theorem tw6381231289166406305:True:=trivial
theorem tw12638030207367898728:True:=trivial
theorem tw10577272966987657301:True:=trivial
theorem tw2809488002615124206:True:=trivial
theorem tw6786057226368545225:True:=trivial
theorem tw5596365628329696591:True:=trivial
theorem tw14466935161476858967:True:=trivial
theorem tw3486219094355674750:True:=trivial
theorem tw2103985501979894447:True:=trivial
theorem tw15976228082101565994:True:=trivial
theorem tw14042817526060737062:True:=trivial
theorem tw1147548669246485465:True:=trivial
theorem tw401921906979044612:True:=trivial
theorem tw13713866747541496747:True:=trivial
theorem tw8693662901424576113:True:=trivial
theorem tw11053662475850362967:True:=trivial
theorem tw9990226795618131978:True:=trivial
theorem tw16262243036561855896:True:=trivial
theorem tw93012567124736588:True:=trivial
theorem tw17594962761535629368:True:=trivial
theorem tw352232786441526191:True:=trivial
theorem tw9016798869158615873:True:=trivial
theorem tw1803303928475200142:True:=trivial
theorem tw3548060758652744671:True:=trivial
theorem tw7213333562754528385:True:=trivial
theorem tw8297286125493194097:True:=trivial
theorem tw16866024460163772082:True:=trivial
theorem tw8823455108540655025:True:=trivial
theorem tw13432635357386499347:True:=trivial
theorem tw11383000496634168614:True:=trivial
theorem tw12894197372075662830:True:=trivial
theorem tw6906291655842520137:True:=trivial
theorem tw18374746225686918389:True:=trivial
theorem tw11173010173815179391:True:=trivial
theorem tw8420165910927482534:True:=trivial
theorem tw3909029901177050473:True:=trivial
theorem tw16068562728529669930:True:=trivial
theorem tw13187519465064655849:True:=trivial
theorem tw9516688046558066552:True:=trivial
theorem tw7587601194962177611:True:=trivial
theorem tw10296497611174029103:True:=trivial
theorem tw17788931634197215145:True:=trivial
theorem tw1736530178072539846:True:=trivial
theorem tw10467260515200827399:True:=trivial
theorem tw17545328352263074274:True:=trivial
theorem tw2365566498512967660:True:=trivial
theorem tw2580922434103091657:True:=trivial
theorem tw17085176360113175178:True:=trivial
theorem tw7845129631348957993:True:=trivial
theorem tw13985988839938425345:True:=trivial
theorem tw15125931889511115149:True:=trivial
theorem tw11072019736110318841:True:=trivial
theorem tw2972514686349903234:True:=trivial
theorem tw4571971715460732019:True:=trivial
theorem tw6503730183909636620:True:=trivial
theorem tw7059692629156357883:True:=trivial
theorem tw11159431927160009238:True:=trivial
theorem tw15638586536077026902:True:=trivial
theorem tw4468942710605802240:True:=trivial
theorem tw2926424126403749041:True:=trivial
theorem tw5552270689369575618:True:=trivial
theorem tw8813761850579938390:True:=trivial
theorem tw5240762971458559404:True:=trivial
theorem tw15525995667512963556:True:=trivial
theorem tw6912233166142098652:True:=trivial
theorem tw6203543418390704334:True:=trivial
theorem tw7717162694582976202:True:=trivial
theorem tw14317375437502057738:True:=trivial
theorem tw14526540143163920134:True:=trivial
theorem tw2446451932059125521:True:=trivial
theorem tw14771320824794740959:True:=trivial
theorem tw14235281626263879747:True:=trivial
theorem tw814325599930780420:True:=trivial
theorem tw3664424711883983056:True:=trivial
theorem tw15744752440731449612:True:=trivial
theorem tw2770563814800254177:True:=trivial
theorem tw411662067469150650:True:=trivial
theorem tw1209819496270969543:True:=trivial
theorem tw14983691940233647259:True:=trivial
theorem tw15687709949711836451:True:=trivial
theorem tw1522322319653140107:True:=trivial
theorem tw16734371015571099844:True:=trivial
theorem tw6893477703608230032:True:=trivial
theorem tw14611434983143301774:True:=trivial
theorem tw9843949296442739443:True:=trivial
theorem tw6448850889433096767:True:=trivial
theorem tw8637452081102412489:True:=trivial
theorem tw3331421620988305804:True:=trivial
theorem tw4010397242664982755:True:=trivial
theorem tw11189890337720088615:True:=trivial
theorem tw2968346561183084112:True:=trivial
theorem tw13899568491130100285:True:=trivial
theorem tw2617181576586992344:True:=trivial
theorem tw18185382058313985135:True:=trivial
theorem tw2057334267981633021:True:=trivial
theorem tw17964300760807480141:True:=trivial
theorem tw18394268562011335289:True:=trivial
theorem tw4046864289407762814:True:=trivial
theorem tw5692499903750754813:True:=trivial
theorem tw16264823338695392855:True:=trivial
theorem tw46980244435833615:True:=trivial
theorem tw15271675978053873483:True:=trivial
theorem tw16414630628198896168:True:=trivial
theorem tw9326722878772556681:True:=trivial
theorem tw13890846271309207196:True:=trivial
theorem tw2287823674025257028:True:=trivial
theorem tw11584198869435930015:True:=trivial
theorem tw14248925298954806443:True:=trivial
theorem tw3831216023754155268:True:=trivial
theorem tw8817415213059835157:True:=trivial
theorem tw1717825165581474212:True:=trivial
theorem tw13852830345959847167:True:=trivial
theorem tw2707679213066786127:True:=trivial
theorem tw13922054642007902626:True:=trivial
theorem tw6583040956863952856:True:=trivial
theorem tw11145643937294416527:True:=trivial
theorem tw2502181453436431679:True:=trivial
theorem tw11620634932572840514:True:=trivial
theorem tw12379415707883124570:True:=trivial
theorem tw12609604535291364189:True:=trivial
theorem tw9854310039474760501:True:=trivial
theorem tw12287887523310495049:True:=trivial
theorem tw15508944514630427714:True:=trivial
theorem tw1186331607622873149:True:=trivial
theorem tw11593399256984752444:True:=trivial
theorem tw11045010717311733409:True:=trivial
theorem tw17135812771915316397:True:=trivial
theorem tw13167462122316868159:True:=trivial
theorem tw18121752080927795069:True:=trivial
theorem tw18326957874037197240:True:=trivial
theorem tw10362775142378211054:True:=trivial
theorem tw8800459187187324500:True:=trivial
theorem tw16240068400928781132:True:=trivial
theorem tw5647976800219259906:True:=trivial
theorem tw3465488137227279516:True:=trivial
theorem tw1353657120722975067:True:=trivial
theorem tw13191473780850816973:True:=trivial
theorem tw516228168201391017:True:=trivial
theorem tw18200808041648558556:True:=trivial
theorem tw8393700709775954928:True:=trivial
theorem tw16982378080980825192:True:=trivial
theorem tw5196900775432865589:True:=trivial
theorem tw4250876409542091131:True:=trivial
theorem tw7458633546980236471:True:=trivial
theorem tw12564220515667953714:True:=trivial
theorem tw9576743257966636567:True:=trivial
theorem tw8912170899635468890:True:=trivial
theorem tw15383718091736126541:True:=trivial
theorem tw9407396174263392564:True:=trivial
theorem tw2165817408578904141:True:=trivial
theorem tw15823732540823425666:True:=trivial
theorem tw17783859843131274014:True:=trivial
theorem tw16896751376397280635:True:=trivial
theorem tw11577829705659331004:True:=trivial
theorem tw14901070454687303710:True:=trivial
theorem tw114735475811551136:True:=trivial
theorem tw10276331973627342096:True:=trivial
theorem tw18134043772397237400:True:=trivial
theorem tw2752453847809088016:True:=trivial
theorem tw10871174231137468428:True:=trivial
theorem tw9238823003894178615:True:=trivial
theorem tw7079599612431449588:True:=trivial
theorem tw11377482038585738817:True:=trivial
theorem tw7799483888651840948:True:=trivial
theorem tw15073315481182737699:True:=trivial
theorem tw8735323631387419056:True:=trivial
theorem tw1142465760834251562:True:=trivial
theorem tw3846862658102513837:True:=trivial
theorem tw12507017104952529904:True:=trivial
theorem tw7436774141650363327:True:=trivial
theorem tw984902984118615328:True:=trivial
theorem tw13047834502658803893:True:=trivial
theorem tw2859833716702649255:True:=trivial
theorem tw9328819404386307858:True:=trivial
theorem tw3357215229441099570:True:=trivial
theorem tw10242591131026960117:True:=trivial
theorem tw17810072253543177317:True:=trivial
theorem tw8620165645458168473:True:=trivial
theorem tw2287362676942042354:True:=trivial
theorem tw16612331741718818515:True:=trivial
theorem tw17807222030613408314:True:=trivial
theorem tw729201693064108563:True:=trivial
theorem tw5970215366352900667:True:=trivial
theorem tw6075534854705499898:True:=trivial
theorem tw4856909995586565122:True:=trivial
theorem tw15799541711010589177:True:=trivial
theorem tw6623532728838073528:True:=trivial
theorem tw1047907039808853306:True:=trivial
theorem tw15696354942287192291:True:=trivial
theorem tw4691186174975459493:True:=trivial
theorem tw12879618353801967718:True:=trivial
theorem tw8170299122808406783:True:=trivial
theorem tw7744093853086628109:True:=trivial
theorem tw16809779246217341487:True:=trivial
theorem tw5738303106652476479:True:=trivial
theorem tw14214845130331304391:True:=trivial
theorem tw2047080938173012442:True:=trivial
theorem tw7761843605638006849:True:=trivial
theorem tw956942650209027819:True:=trivial
theorem tw16674975167109581930:True:=trivial
theorem tw2675166985342186458:True:=trivial
theorem tw3715792687998586317:True:=trivial
theorem tw11779653239440661071:True:=trivial
theorem tw17009415399725018624:True:=trivial
theorem tw16509065781470453940:True:=trivial
theorem tw7215319984434753242:True:=trivial
theorem tw7538252964068480738:True:=trivial
theorem tw3581848524822189991:True:=trivial
theorem tw1169771345039838236:True:=trivial
theorem tw72247145696351765:True:=trivial
theorem tw3143785405151724282:True:=trivial
theorem tw17735899436944072409:True:=trivial
theorem tw6459276657848829223:True:=trivial
theorem tw18062624165398249997:True:=trivial
theorem tw314455870634268127:True:=trivial
theorem tw132903981291199154:True:=trivial
theorem tw12762922103008790111:True:=trivial
theorem tw10252623693936335467:True:=trivial
theorem tw7817637940432870852:True:=trivial
theorem tw17033825039287860005:True:=trivial
theorem tw6491118196486620199:True:=trivial
theorem tw17576975557295073227:True:=trivial
theorem tw3033006917804047512:True:=trivial
theorem tw5186518429493523239:True:=trivial
theorem tw11131206648525784891:True:=trivial
theorem tw2047500489365003465:True:=trivial
theorem tw5235370132326077648:True:=trivial
theorem tw2965125352208521119:True:=trivial
theorem tw11613256710310857696:True:=trivial
theorem tw462939625794472801:True:=trivial
theorem tw12182655422080760471:True:=trivial
theorem tw7522852383072776753:True:=trivial
theorem tw10328360990557673835:True:=trivial
theorem tw9332579688445097367:True:=trivial
theorem tw16007503158450755388:True:=trivial
theorem tw4250950275838387964:True:=trivial
theorem tw4052878762203253943:True:=trivial
theorem tw8672883130414831044:True:=trivial
theorem tw1559226430018442191:True:=trivial
theorem tw9631074621892390191:True:=trivial
theorem tw7737320934136571279:True:=trivial
theorem tw4158126171336067921:True:=trivial
theorem tw2630061898475652689:True:=trivial
theorem tw5341934141677670832:True:=trivial
theorem tw6287420888163001789:True:=trivial
theorem tw14301671488300290737:True:=trivial
theorem tw372964977893139469:True:=trivial
theorem tw16342770487823414484:True:=trivial
theorem tw6756851087969907010:True:=trivial
theorem tw12625694945159114441:True:=trivial
theorem tw14823308797102314842:True:=trivial
theorem tw4232285709927190386:True:=trivial
theorem tw11592465598724292549:True:=trivial
theorem tw9833397302626899308:True:=trivial
theorem tw15740948416001004644:True:=trivial
theorem tw6460121766331871944:True:=trivial
theorem tw1192657577511650299:True:=trivial
theorem tw13385996262653078937:True:=trivial
theorem tw12643520174271941249:True:=trivial
theorem tw5590232498371695878:True:=trivial
theorem tw99440450732166138:True:=trivial
theorem tw7046679081361425455:True:=trivial
theorem tw15917854889771391336:True:=trivial
theorem tw16963527931363030636:True:=trivial
theorem tw15301174211037270058:True:=trivial
theorem tw13735760440130909963:True:=trivial
theorem tw16777333724400826094:True:=trivial
theorem tw5260120468566392776:True:=trivial
theorem tw7271442835524344197:True:=trivial
theorem tw8993287865640457495:True:=trivial
theorem tw9334155553566164974:True:=trivial
theorem tw17043807559483770280:True:=trivial
theorem tw11546936639936008217:True:=trivial
theorem tw8289913183210890596:True:=trivial
theorem tw15651865047661076644:True:=trivial
theorem tw4792085295034034149:True:=trivial
theorem tw9025699532064440518:True:=trivial
theorem tw4342369976538669910:True:=trivial
theorem tw8623022884188638191:True:=trivial
theorem tw4933874526074085500:True:=trivial
theorem tw17649136891296342810:True:=trivial
theorem tw10716741468018301546:True:=trivial
theorem tw11247735229740821898:True:=trivial
theorem tw15690260860272736617:True:=trivial
theorem tw16752672240329700380:True:=trivial
theorem tw15466825709929456502:True:=trivial
theorem tw13119100287873231151:True:=trivial
theorem tw6527726513328843271:True:=trivial
theorem tw4565347363164230621:True:=trivial
theorem tw11352594458161858170:True:=trivial
theorem tw11889168628444193015:True:=trivial
theorem tw127126225481002756:True:=trivial
theorem tw18266201782428273354:True:=trivial
theorem tw5597187220613765494:True:=trivial
theorem tw9526451686631996590:True:=trivial
theorem tw15142870575455682722:True:=trivial
theorem tw16510627131591992583:True:=trivial
theorem tw9818652051263051014:True:=trivial
theorem tw7692489764384065100:True:=trivial
theorem tw11470252648414753811:True:=trivial
theorem tw11399952740318699500:True:=trivial
theorem tw17520232983638268411:True:=trivial
theorem tw18064794426631996164:True:=trivial
theorem tw16330790415978474977:True:=trivial
theorem tw3005045104682134777:True:=trivial
end top
theorem top : PySem.Challenge.rw_nt0201_01.Holds := by
  w_on
  o_law
  k_head
  case hw => w_witness2
  k_fill
  intro w s₀ s₁ mg mb G Y fa o pm cd doc dV kV ho hd' hcd hD hmg hg args vals as hpre hlay hrd hwl hlo
  have KX := kIn_of Y
  have tp := top_for KX ⟨by kernel_rfl, by kernel_rfl, by kernel_rfl, by kernel_rfl, by kernel_rfl, by kernel_rfl, by kernel_rfl, by kernel_rfl, by kernel_rfl, by kernel_rfl, by kernel_rfl, by kernel_rfl, by kernel_rfl, by kernel_rfl, by kernel_rfl⟩
  refine Ground.open G ?_
  intro T B D TE TW
  wrow_args hpre hlay hrd hwl hlo
  rename_i xs _ _ _ _ _ _ _ l vs _ hL _ w1 r0 hI hr hlen _
  have hfa := Top.law tp KX T.g hmg
  subst hfa
  have hlen' : xs.length ≤ 1000 := Nat.le_trans (Int.ofNat_le.mp (Int.not_lt.mp hlen)) (show 63 ≤ 1000 by decide)
  obtain ⟨H', hrun⟩ := law_true xs
  have hall := well_list w1 hL
  refine wpAny_mono (call_law (n := 100) tp KX T.g T.b T.builtins T.nolimit ?_ hall.1 hall.2 hlen' hrun) (fun v s' q => ?_) fun _ _ x => x.elim
  · exact ⟨rfl, by decide, by decide⟩
  · obtain ⟨rfl, q1, q2, q3⟩ := q
    refine GoodW.toG ⟨.inl ⟨_, .bool true, [], rfl, ?_, ?_, ?_, ?_⟩, q3, q2, q1.trans hg⟩
    · intro cls; rfl
    · exact .bool _
    · first | kernel_rfl | (unfold ClaimW.post; rfl) | (simp [Challenge.rw_nt0201_01]; done) | (show decide _ = true; simp)
    · intro _; exact ⟨List.nodup_nil, fun a ha => by cases ha⟩
end Mine
theorem PySem.Challenge.cw_nt0201_01_holds : PySem.Challenge.rw_nt0201_01.Holds :=
 Mine.top
