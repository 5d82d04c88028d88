import PyProof.Rows.All
import Wide.FinOn
import OpenK.AllK
import Wide.All
import Lean
import PySem.Challenge.RW_nt0061_01
open PyProof.Rows PySem PySem.Calls PySem.SeqAt PySem.Spec PySem.W
set_option maxHeartbeats 8000000
namespace Mine.Internal
set_option linter.defProp false
def Pw:=@List.append_assoc
def Px:=@List.length_append
def Py:=@Nat.le_trans
def Pz:=@Option.some.inj
def PA:=@List.length_map
def PB:=@decide_eq_true
def PC:=@beq_eq_false_iff_ne
def PD:=@List.getElem?_eq_some_iff
def PE:=@wpAny_bind
def PF:=@List.getElem?_eq_getElem
def PG:=@Exists.elim
def PH:=@List.mem_singleton
def PI:=@congrArg
def PJ:=@Bool.and_eq_true
def PK:=@Nat.lt_of_le_of_lt
def PM:=@Option.bind_eq_some_iff
def PN:=@List.getElem?_append_left
def PP:=@of_decide_eq_true
def PQ:=@List.getElem?_map
def PS:=@Nat.le_refl
def PT:=@Fast.te14364793385576792824
def PU:=@Nat.lt_of_lt_of_le
def PV:=@List.getElem?_append_right
def PW:=@List.map_append
def PX:=@List.lookup_cons
def PY:=@List.mem_append
def PZ:=@List.mem_cons
def P1:=@List.concat_eq_append
def P2:=@beq_self_eq_true
def P3:=@wpAny_pure
def P4:=@beq_iff_eq
def P5:=@Int.lt_of_lt_of_le
def P6:=@decide_eq_false
def P7:=@Fast.te10110043849684766642
def P8:=@List.length_cons
def P9:=@Option.map_eq_some_iff
def Qa:=@Nat.lt_of_succ_lt
def Qb:=@List.length_take
def Qc:=@Bool.false_ne_true
def Qd:=@Int.natCast_nonneg
noncomputable section
set_option bootstrap.genMatcherCode false
set_option genCtorIdx false
set_option genSizeOf false
set_option Elab.async false
set_option maxRecDepth 100000
set_option genSizeOfSpec false
set_option genInjectivity false
set_option linter.unusedVariables false
set_option tactic.hygienic false
set_option genCtorIdx true in
inductive V where
 |none
 |bool (b:Bool)
 |int (i:Int)
 |str (s:Str)
 |tup (xs:List V)
 |lst (xs:List V)
 |rng (a b:Int)
 |ref (n:Nat)
 |inst (c:Str) (n:Nat)
 |fn (c m:Str)
 |cls (c:Str)
 |bi (id:String)
 |ty (T:String)
 |jd (es:List (Str×List Str))
inductive ab where
 |list (xs:List V)
 |dict (es:List (Str×V))
 |tdict (es:List (V×V))
noncomputable abbrev Hp:=List ab
set_option genCtorIdx true in
inductive Sl where
 |g
 |v (o:Option V)
 |cv (o:Option V)
 |f (x:V)
 |x
noncomputable abbrev Loc:=List (Str×Sl)
noncomputable def Loc.put:Loc->Str->V->Option Loc
 |[],_,_=>Option.none
 |(y,s)::r,x,v=>if x==y then(match s with | .v _=>some ((y,.v (some v))::r) | .cv _=>some ((y,.cv (some v))::r) | _=>Option.none)else(Loc.put r x v).map ((y,s) :: ·)
set_option genCtorIdx true in
inductive Fl where
 |next | brk | cont
 |ret (v:V)
inductive Src where
 |kw (k:Nat)
 |dflt (v:V)
structure aA where
 params:List Str
 shapes:List (Nat×List Str×List Src)
 scope:Scope
 body:List Stmt
structure cF where
 attrs:List Str
 meths:List Str
structure Tab where
 fns:List ((Str×Str)×aA)
 cls:List (Str×cF)
 glob:List (Str×V)
noncomputable abbrev aD:=Str->Str->List V->List (Str×V)->Hp->V->Hp->Prop
noncomputable def asI:V->Option Int
 |.int i=>some i
 |_=>Option.none
noncomputable def asS:V->Option Str
 |.str s=>some s
 |_=>Option.none
noncomputable def asT:V->Option (List V)
 |.tup xs=>some xs
 |_=>Option.none
noncomputable def isN:V->Bool
 |.none=>true
 |_=>false
noncomputable def tm:List V->Option V
 |[x]=>some x
 |_=>Option.none
noncomputable def Cz:List V->Option (V×V)
 |[x,y]=>some (x,y)
 |_=>Option.none
noncomputable def els{α β:Type}(o:Option α)(f:α->Option β)(g:Option β):Option β:=match o with
 |some a=>f a
 |Option.none=>g
def iiI{β:Type}(f:Int->Int->Option β)(a b:V):Option β:=(asI a).bind fun x=>(asI b).bind fun y=>f x y
noncomputable def dz{β:Type}(c:Option ab)(f:List V->Option β)(g:List (Str×V)->Option β):Option β:=match c with
 |some (.list xs)=>f xs
 |some (.dict es)=>g es
 |_=>Option.none
def ur{β:Type}(J:Hp)(o:V)(f:Nat->List V->Option β)(g:Nat->List (Str×V)->Option β):Option β:=match o with
 |.ref n=>dz J[n]? (f n) (g n)
 |_=>Option.none
noncomputable abbrev AK:=Option (Int ⊕ Str)
noncomputable def aOf:V->Option AK
 |.none=>some Option.none
 |.bool b=>some (some (.inl (if b then 1 else 0)))
 |.int i=>some (some (.inl i))
 |.str s=>some (some (.inr s))
 |_=>Option.none
noncomputable def Kx:List V->Option (List AK)
 |[]=>some []
 |x::xs=>(aOf x).bind fun a=>(Kx xs).bind fun as=>some (a::as)
def lA(v:V):Option (List AK):=(asT v).bind Kx
noncomputable def jt(k:List AK):List (V×V)->Option V
 |[]=>Option.none
 |p::r=>if lA p.1=some k then some p.2 else jt k r
noncomputable def zv(k:List AK)(x v:V):List (V×V)->List (V×V)
 |[]=>[(x,v)]
 |p::r=>if lA p.1=some k then(p.1,v)::r else p::zv k x v r
noncomputable def Ky{β:Type}(c:Option ab)(f:List (V×V)->Option β):Option β:=match c with
 |some (.tdict es)=>f es
 |some (.dict es)=>(match es with | []=>f [] | _=>Option.none)
 |_=>Option.none
def tn{β:Type}(J:Hp)(o:V)(f:Nat->List (V×V)->Option β):Option β:=match o with
 |.ref n=>Ky J[n]? (f n)
 |_=>Option.none
noncomputable def ut:List V->Option (List Str)
 |[]=>some []
 |x::xs=>(asS x).bind fun a=>(ut xs).bind fun as=>some (a::as)
noncomputable def cW(J:Hp):V->Option (List V)
 |.lst xs=>some xs
 |.tup xs=>some xs
 |.ref n=>dz J[n]? some fun _=>Option.none
 |_=>Option.none
noncomputable def ba(J:Hp):V->Option (List V)
 |.lst xs=>some xs
 |.ref n=>dz J[n]? some fun _=>Option.none
 |_=>Option.none
noncomputable def gz(f:V->V->Option Bool):List V->List V->Option Bool
 |x::xs,y::ys=>(f x y).bind fun b=>(gz f xs ys).bind fun c=>some (b&&c)
 |[],[]=>some true
 |_,_=>some false
def CA(f:V->V->Option Bool)(xs ys:List V):Option Bool:=if xs.length=ys.length then gz f xs ys else some false
noncomputable def eqV:Nat->V->V->Option Bool
 |0,_,_=>Option.none
 |n+1,a,b=>match a with
  |.none=>(match b with
   |.none=>some true
   |.bool _=>some false
   |.int _=>some false
   |.str _=>some false
   |_=>Option.none)
  |.bool x=>(match b with
   |.bool y=>some (x==y)
   |.none=>some false
   |.str _=>some false
   |_=>Option.none)
  |.int x=>(match b with
   |.int y=>some (x==y)
   |.none=>some false
   |.str _=>some false
   |_=>Option.none)
  |.str x=>(match b with
   |.str y=>some (x==y)
   |.none=>some false
   |.bool _=>some false
   |.int _=>some false
   |_=>Option.none)
  |.tup xs=>(match b with
   |.tup ys=>if xs.length=ys.length then gz (eqV n) xs ys else Option.none
   |_=>Option.none)
  |.lst xs=>(match b with
   |.lst ys=>CA (eqV n) xs ys
   |_=>Option.none)
  |_=>Option.none
def eqI(J:Hp)(a b:V):Option Bool:=els (ba J a) (fun xs=>(ba J b).bind fun ys=>CA (eqV 5) xs ys) (eqV 6 a b)
noncomputable def pJ(f:V->V->Option Bool)(x:V):List V->Option Bool
 |[]=>some false
 |y::ys=>(f y x).bind fun b=>(pJ f x ys).bind fun c=>some (b||c)
def inI(J:Hp)(x c:V):Option Bool:=els (cW J c) (fun xs=>pJ (eqV 6) x xs) (els (lA x) (fun k=>tn J c fun _ es=>some (jt k es).isSome) (ur J c (fun _ _=>Option.none) fun _ es=>(asS x).map fun s=>(es.lookup s).isSome))
noncomputable def bM(J:Hp):V->Option Bool
 |.none=>some false
 |.bool b=>some b
 |.str s=>if decide (s.length<1000)then some (s.length != 0)else Option.none
 |.tup xs=>if decide (xs.length<=1000000)then some (xs.length != 0)else Option.none
 |.lst xs=>if decide (xs.length<=1000000)then some (xs.length != 0)else Option.none
 |.int i=>some (i != 0)
 |_=>Option.none
noncomputable def bw(t:Bool)(xs:List V)(J:Hp):V×Hp:=if t then(.ref J.length,J++[.list xs])else(.lst xs,J)
noncomputable def aR(i:Int):Bool:=decide (-(2^62)<i)&&decide (i<2^62)
noncomputable def bp(xs:List V):Bool:=decide (xs.length<=1000000)
def c8(t:Bool)(op:Operator)(a b:V)(J:Hp):Option (V×Hp):=match op with
 |.Add=>els (asI a) (fun x=>(asI b).map fun y=>(.int (x+y),J)) (els (asT a)
  (fun xs=>(asT b).bind fun ys=>if bp (xs++ys)&&xs.length != 0&&ys.length != 0 then some (.tup (xs++ys),J)else Option.none)
  ((ba J a).bind fun xs=>(ba J b).bind fun ys=>if bp (xs++ys)then some (bw t (xs++ys) J)else Option.none))
 |.Sub=>iiI (fun x y=>some (.int (x-y),J)) a b
 |.Mult=>els (asI a) (fun x=>(asI b).bind fun y=>if aR x&&aR y then some (.int (x*y),J)else Option.none)
  ((asI b).bind fun y=>(ba J a).bind fun xs=>if decide (0<=y)&&decide (y<1000)&&decide (xs.length<1000)then some (bw t (List.replicate y.toNat xs).flatten J)else Option.none)
 |.FloorDiv=>iiI (fun x y=>if decide (0<y)&&decide (y<1000000000)then some (.int (x.fdiv y),J)else Option.none) a b
 |.Mod=>iiI (fun x y=>if decide (0<y)then some (.int (x.fmod y),J)else Option.none) a b
 |_=>Option.none
def unI(op:UnaryOp)(a:V)(J:Hp):Option V:=match op with
 |.USub=>(asI a).map fun x=>.int (-x)
 |.Not=>(bM J a).map fun b=>.bool (!b)
 |_=>Option.none
def isQ(a b:V):Option Bool:=if isN b then(match a with
 |.none=>some true
 |.int _=>some false
 |.str _=>some false
 |.inst _ _=>some false
 |_=>Option.none)else Option.none
def aM(J:Hp)(op:CmpOp)(a b:V):Option Bool:=match op with
 |.Eq=>eqI J a b
 |.NotEq=>(eqI J a b).map (!·)
 |.Lt=>iiI (fun x y=>some (decide (x<y))) a b
 |.LtE=>iiI (fun x y=>some (decide (x<=y))) a b
 |.Gt=>iiI (fun x y=>some (decide (y<x))) a b
 |.GtE=>iiI (fun x y=>some (decide (y<=x))) a b
 |.In=>inI J a b
 |.NotIn=>(inI J a b).map (!·)
 |.Is=>isQ a b
 |.IsNot=>(isQ a b).map (!·)
noncomputable def qO:Const->Option V
 |.none=>some .none
 |.bool b=>some (.bool b)
 |.int i=>some (.int i)
 |.str s=>some (.str s)
 |_=>Option.none
def gH(xs:List V)(k:Int):Option V :=
 if aR k then(seqIndex? k xs.length).bind fun j=>xs[j]? else Option.none
def ai(J:Hp)(o i:V):Option V:=els (cW J o) (fun xs=>(asI i).bind fun k=>gH xs k) (els (lA i) (fun k=>tn J o fun _ es=>jt k es) (ur J o (fun _ _=>Option.none) fun _ es=>(asS i).bind fun s=>es.lookup s))
noncomputable def d7(x:Str)(v:V):List (Str×V)->List (Str×V)
 |[]=>[(x,v)]
 |(y,w)::r=>if x==y then(y,v)::r else(y,w)::d7 x v r
def u3(es:List (Str×V)):List (Str×V):=es.foldl (fun a q=>d7 q.1 q.2 a) []
def d8(J:Hp)(o i v:V):Option Hp:=els (lA i) (fun k=>tn J o fun n es=>if decide (es.length<900)then some (J.set n (.tdict (zv k i v es)))else Option.none) <| ur J o
 (fun n xs=>(asI i).bind fun k=>if aR k then(seqIndex? k xs.length).map fun j=>J.set n (.list (xs.set j v))else Option.none)
 (fun n es=>(asS i).bind fun s=>if decide (es.length<900)then some (J.set n (.dict (d7 s v es)))else Option.none)
def pK(v:V):Option (Option Int):=els (asI v) (fun i=>if aR i then some (some i)else Option.none) (if isN v then some Option.none else Option.none)
noncomputable def lB(xs:List V)(lo hi:Option Int):List V:=(xs.drop (kms_lo lo xs.length)).take (kms_hi hi xs.length-kms_lo lo xs.length)
def aG(t:Bool)(J:Hp)(o lo hi st:V):Option (V×Hp) :=
 (ba J o).bind fun xs=>if bp xs then els (asI st) (fun i=>if isN lo&&isN hi&&decide (i = -1)then some (bw t xs.reverse J)else Option.none)
  (if isN st then(pK lo).bind fun a=>(pK hi).bind fun b=>some (bw t (lB xs a b) J)else Option.none)else Option.none
noncomputable def BC:V->Bool
 |.bi _=>false
 |_=>true
def xA{β:Type}(T:Tab)(J:Hp)(o:V)(k:Str->Nat->cF->List (Str×V)->Option β):Option β:=match o with
 |.inst c n=>(T.cls.lookup c).bind fun cd=>dz J[n]? (fun _=>Option.none) (k c n cd)
 |_=>Option.none
def cG(T:Tab)(J:Hp)(o:V)(a:Str):Option V:=xA T J o fun _ _ cd es=>if cd.attrs.contains a then(es.lookup a).bind fun v=>if BC v then some v else Option.none else Option.none
def cH(T:Tab)(J:Hp)(o:V)(a:Str)(v:V):Option Hp:=xA T J o fun _ n cd es=>if cd.attrs.contains a then(if decide (es.length<900)then some (J.set n (.dict (d7 a v es)))else Option.none)else Option.none
inductive MK where
 |bi (id:String)
 |fn (c:Str)
def cg(T:Tab)(J:Hp)(o:V)(a:Str):Option MK:=match o with
 |.inst c n=>xA T J (.inst c n) fun c _ cd es=>if cd.meths.contains a then(if(es.lookup a).isNone then some (.fn c)else Option.none)else Option.none
 |.jd _=>if a==("get":Str)then some (.bi "dict.get")else Option.none
 |.lst _=>if a==("index":Str)then some (.bi "list.index")else Option.none
 |.ref n=>ur J (.ref n) (fun _ _=>if a==("append":Str)then some (.bi "list.append")else if a==("pop":Str)then some (.bi "list.pop")else Option.none) fun _ _=>if a==("get":Str)then some (.bi "dict.get")else Option.none
 |_=>Option.none
noncomputable def Mk(o:Option (List Str))(d:V):V:=match o with
 |some l=>.tup (l.map .str)
 |Option.none=>d
def aS(J:Hp)(id:String)(o:V)(args:List V):Option (V×Hp):=match o with
 |.jd es=>if id=="dict.get" then(Cz args).bind fun p=>(asS p.1).map fun k=>(Mk (es.lookup k) p.2,J)else Option.none
 |.lst xs=>if id=="list.index" then(tm args).bind fun a=>(asS a).bind fun x=>if bp xs then(ut xs).bind fun ss=>(ss.findIdx? (· == x)).map fun(k:Nat)=>(V.int (k:Int),J)else Option.none else Option.none
 |.ref n=>ur J (.ref n)
  (fun n xs=>if id=="list.append" then(tm args).bind fun x=>if bp xs then some (.none,J.set n (.list (xs++[x])))else Option.none
   else if id=="list.pop" then(if args.isEmpty then xs.getLast?.bind fun y=>if bp xs then some (y,J.set n (.list xs.dropLast))else Option.none else Option.none)
   else Option.none)
  fun _ es=>if id=="dict.get" then els (tm args) (fun k=>(asS k).map fun k=>((es.lookup k).getD .none,J)) ((Cz args).bind fun p=>(asS p.1).map fun k=>((es.lookup k).getD p.2,J))else Option.none
 |_=>Option.none
noncomputable def Ei:List V->Option (List Int)
 |[]=>some []
 |x::xs=>(asI x).bind fun a=>(Ei xs).map fun l=>a::l
noncomputable def BD:V->Option Bool
 |.bool _=>some true
 |.none=>some false
 |.str _=>some false
 |_=>Option.none
noncomputable def Ml:V->Option String
 |.ty T=>some T
 |_=>Option.none
def biI(t:Bool)(id:String)(args:List V)(J:Hp):Option (V×Hp) :=
 if id=="len" then(tm args).bind fun x=>els (cW J x) (fun xs=>if bp xs then some (.int xs.length,J)else Option.none) (tn J x fun _ es=>if decide (es.length<1000)then some (.int es.length,J)else Option.none)
 else if id=="isinstance" then(Cz args).bind fun p=>(Ml p.2).bind fun T=>if T=="bool" then(BD p.1).map fun b=>(.bool b,J)else Option.none
 else if id=="max" then(Cz args).bind fun p=>iiI (fun a b=>some (.int (if b>a then b else a),J)) p.1 p.2
 else if id=="sum" then(tm args).bind fun x=>(ba J x).bind fun xs=>(Ei xs).map fun l=>(.int l.sum,J)
 else Option.none
def tyI(t:Bool)(T:String)(args:List V)(J:Hp):Option (V×Hp) :=
 if T=="int" then(tm args).bind fun x=>(asI x).map fun i=>(.int i,J)
 else if T=="list" then(tm args).bind fun x=>(ba J x).bind fun xs=>if bp xs then some (bw t xs J)else Option.none
 else if T=="tuple" then(tm args).bind fun x=>els (asT x) (fun xs=>some (.tup xs,J)) ((ba J x).bind fun xs=>if bp xs then some (.tup xs,J)else Option.none)
 else if T=="range" then els (tm args) (fun x=>(asI x).bind fun b=>if aR b then some (.rng 0 b,J)else Option.none)
  ((Cz args).bind fun p=>iiI (fun a b=>if aR a&&aR b then some (.rng a b,J)else Option.none) p.1 p.2)
 else Option.none
set_option genCtorIdx true in
inductive It where
 |seq (v:V)
 |enm (v:V)
 |rng (a b:Int)
def jx(J:Hp)(v:V):Option It:=match v with
 |.rng a b=>if aR a&&aR b then some (.rng a b)else Option.none
 |.ref n=>dz J[n]? (fun _=>some (.seq v)) fun _=>Option.none
 |.lst _=>some (.seq v)
 |.tup _=>some (.seq v)
 |_=>Option.none
noncomputable def bX(J:Hp):It->Option Nat
 |.seq v=>(cW J v).map (·.length)
 |.enm v=>(ba J v).map (·.length)
 |.rng a b=>some (b-a).toNat
noncomputable def iC(J:Hp)(i:Nat):It->Option V
 |.seq v=>(cW J v).bind (·[i]?)
 |.enm v=>((ba J v).bind (·[i]?)).map fun x=>.tup [.int i,x]
 |.rng a _=>some (.int (a+i))
noncomputable def NV:Option Sl->Bool
 |some (.cv _)=>true
 |some (.f _)=>true
 |_=>false
noncomputable def Mm:Option Sl->Sl
 |some (.cv (some v))=>.f v
 |some (.f v)=>.f v
 |_=>.x
def qE(scope:Scope)(loc:Loc):Loc:=scope.names.map fun p=>(p.1,match p.2 with
 |.local=>.v Option.none
 |.free=>Mm (loc.lookup p.1)
 |.globalImplicit=>.g
 |_=>.x)
noncomputable def gI:Option Expr->Option Str
 |some (.Constant (.str s) _ _)=>some s
 |_=>Option.none
noncomputable def Ej(t e:Expr):Bool:=match t,e with
 |.Tuple _ _ _,.Tuple vs _ _=>vs.all (foldedForSure 8) || !(vs.all (constantsAlone 8))
 |_,_=>true
noncomputable def Hu:Expr->Bool
 |.ListComp .. => true
 |.SetComp .. => true
 |.DictComp .. => true
 |_=>false
noncomputable def bZ:List Expr->List V->Loc->Option Loc
 |[],[],loc=>some loc
 |.Name x _::es,v::vs,loc=>(loc.put x v).bind (bZ es vs)
 |_,_,_=>Option.none
noncomputable def pL(T:Tab)(loc:Loc)(x:Str):Option V:=if x==("__debug__":Str)||x==("__classdict__":Str)then Option.none else(loc.lookup x).bind fun sl=>match sl with
 |.v o=>o
 |.cv o=>o
 |.f v=>some v
 |.g=>T.glob.lookup x
 |.x=>Option.none
def u4(scope:Scope)(loc:Loc):Bool:=scope.names.all (fun p=>p.2 != .free||NV (loc.lookup p.1))&&decide (scope.kind=.function)&&scope.names.all (fun p=>p.2==.local||p.2==.free||p.2==.globalImplicit)&&decide ((scope.names.map (·.1)).Nodup)
noncomputable def pM(t:Expr):It->Bool
 |.enm _=>(match t with | .Tuple .. => true | _=>false)
 |_=>true
noncomputable def eV:Expr->Bool
 |.Starred .. => false
 |_=>true
noncomputable def zw:Expr->Bool
 |.Call (.Name _ _) [] [] _=>false
 |_=>true
def xB(o:Expr)(args:List Expr)(kws:List Keyword):Bool:=args.all eV&&kws.all (·.arg.isSome)&&decide (args.length+kws.length<20)&&zw o
def xC(args:List Expr)(kws:List Keyword):Bool:=args.all eV&&kws.all (·.arg.isSome)
noncomputable def u5:V->Bool
 |.ty n=>n=="enumerate"
 |_=>false
noncomputable def qP:Nat:=200
noncomputable def CB(kw:List (Str×V)):List Src->Option (List V)
 |[]=>some []
 |.kw k::r=>(kw[k]?).bind fun p=>(CB kw r).map (p.2 :: ·)
 |.dflt v::r=>(CB kw r).map (v :: ·)
def pN(fd:aA)(args:List V)(kw:List (Str×V)):Option (List (Str×V)) :=
 (fd.shapes.find? fun s=>s.1==args.length&&s.2.1==kw.map (·.1)).bind fun s =>
  (CB kw s.2.2).bind fun r=>if(args++r).length=fd.params.length then some (fd.params.zip (args++r))else Option.none
noncomputable def lc(scope:Scope)(binds:List (Str×V)):Loc:=scope.names.map fun p=>(p.1,match p.2 with
 |.local=>.v (binds.lookup p.1)
 |.cell=>.cv (binds.lookup p.1)
 |_=>.g)
inductive Ans where
 |v (x:V)
 |p (x:V) (s:Hp)
 |s (s:Hp)
 |k (x:MK)
 |l (f:Fl) (l:Loc) (s:Hp)
 |i (x:It)
 |b (x:Bool)
 |t (x:Bool)
 |m (x y:List Ans)
 |o
 |c
noncomputable abbrev An:=List Ans
noncomputable def qQ(o:Option V)(a:An)(k:V->An->Prop):Prop:=match a with
 |.v x::r=>o=some x/\k x r
 |.c::r=>(match o with | some x=>k x r | Option.none=>False)
 |_=>False
noncomputable def CC(o:Option (V×Hp))(a:An)(k:V->Hp->An->Prop):Prop:=match a with
 |.p x s::r=>o=some (x,s)/\k x s r
 |.c::r=>(match o with | some x=>k x.1 x.2 r | Option.none=>False)
 |_=>False
noncomputable def Kz(o:Option Hp)(a:An)(k:Hp->An->Prop):Prop:=match a with
 |.s x::r=>o=some x/\k x r
 |.c::r=>(match o with | some x=>k x r | Option.none=>False)
 |_=>False
noncomputable def Mn(o:Option MK)(a:An)(k:MK->An->Prop):Prop:=match a with
 |.k x::r=>o=some x/\k x r
 |.c::r=>(match o with | some x=>k x r | Option.none=>False)
 |_=>False
noncomputable def Hv(o:Option Bool)(a:An)(k:Bool->An->Prop):Prop:=match a with
 |.t x::r=>o=some x/\k x r
 |.c::r=>(match o with | some x=>k x r | Option.none=>False)
 |_=>False
noncomputable def qR(o:Option Bool)(a:An)(x y:An->Prop):Prop:=match a with
 |.b c::r=>(match o with | some d=>d=c/\(match c with | true=>x r | false=>y r) | Option.none=>False)
 |.t c::r=>o=some c/\(match c with | true=>x r | false=>y r)
 |.m p q::_=>(match o with | some d=>(d=true->x p)/\(d=false->y q) | Option.none=>False)
 |_=>False
noncomputable def Ek(F:V->Hp->Prop)(a:An)(k:V->Hp->An->Prop):Prop:=match a with
 |.p x s::r=>F x s/\k x s r
 |_=>False
noncomputable def KB(F:Fl->Loc->Hp->Prop)(a:An)(k:Fl->Loc->Hp->An->Prop):Prop:=match a with
 |.l f l s::r=>F f l s/\k f l s r
 |_=>False
noncomputable def zx(o:Option It)(a:An)(k:It->An->Prop):Prop:=match a with
 |.i x::r=>o=some x/\k x r
 |.c::r=>(match o with | some x=>k x r | Option.none=>False)
 |_=>False
noncomputable def opB:BoolOp->Bool->Bool->Bool
 |.And,a,b=>a&&b
 |.Or,a,b=>a||b
noncomputable def pO:BoolOp->Bool->Bool
 |.And,b => !b
 |.Or,b=>b
noncomputable def brB(op:BoolOp)(v:V)(J:Hp)(a:An)(rest:An->(V->Hp->An->Prop)->Prop)(k:V->Hp->An->Prop):Prop:=match a with
 |.o::r=>(match v with
  |.bool b=>rest r fun v2 J2 a2=>(match v2 with | .bool b2=>J2=J/\k (.bool (opB op b b2)) J a2 | _=>False)
  |_=>False)
 |a=>(match op with
  |.And=>qR (bM J v) a (fun a=>rest a k) (fun a=>k v J a)
  |.Or=>qR (bM J v) a (fun a=>k v J a) (fun a=>rest a k))
noncomputable def KC(cs:aD)(mk:MK)(J:Hp)(o:V)(a:Str)(args:List V)(kw:List (Str×V))(n:An)(k:V->Hp->An->Prop):Prop:=match mk with
 |.fn c=>Ek (cs c a (o::args) kw J) n k
 |.bi id=>(match kw with | []=>CC (aS J id o args) n k | _=>False)
noncomputable def to(cs:aD)(t:Bool)(f:V)(args:List V)(kw:List (Str×V))(J:Hp)(n:An)(k:V->Hp->An->Prop):Prop:=match f with
 |.fn c m=>Ek (cs c m args kw J) n k
 |.cls c=>(match n with | .s s::r=>cs c ("__init__":Str) (.inst c J.length::args) kw (J++[.dict []]) .none s/\k (.inst c J.length) s r | _=>False)
 |.bi id=>(match kw with | []=>CC (biI t id args J) n k | _=>False)
 |.ty T=>(match kw with | []=>CC (tyI t T args J) n k | _=>False)
 |_=>False
noncomputable abbrev KQ:=V->Hp->An->Prop
abbrev KL:=Loc->Hp->An->Prop
abbrev KF:=Fl->Loc->Hp->An->Prop
noncomputable def hU(asg:V->Loc->Hp->An->KL->Prop)(body:Loc->Hp->An->KF->Prop)(it:It)(N:Nat)(k:Fl->Loc->Hp->Prop):Nat->Loc->Hp->Prop
 |0,loc,J=>bX J it=some N/\k .next loc J
 |n+1,loc,J=>bX J it=some N/\∃v a,iC J (N-(n+1)) it=some v/\asg v loc J a fun loc J a=>body loc J a fun f loc J _=>match f with
  |.next=>hU asg body it N k n loc J
  |.cont=>hU asg body it N k n loc J
  |.brk=>k .next loc J
  |.ret v=>k (.ret v) loc J
noncomputable def gJ(test:Loc->Hp->An->KQ->Prop)(body:Loc->Hp->An->KF->Prop)(k:Fl->Loc->Hp->Prop):Nat->Loc->Hp->Prop
 |0,_,_=>False
 |n+1,loc,J=>∃a,test loc J a fun v J a=>qR (bM J v) a (fun a=>body loc J a fun f loc J _=>match f with
  |.next=>gJ test body k n loc J
  |.cont=>gJ test body k n loc J
  |.brk=>k .next loc J
  |.ret v=>k (.ret v) loc J) fun _=>k .next loc J
noncomputable def gr(test:Loc->Hp->An->KQ->Prop)(body:Loc->Hp->An->KF->Prop)(loc:Loc)(J:Hp)(f:Fl)(l:Loc)(s:Hp):Prop:=gJ test body (fun f' l' s'=>f'=f/\l'=l/\s'=s) qP loc J
noncomputable def pP(asg:V->Loc->Hp->An->KL->Prop)(test:Loc->Hp->An->(Bool->Hp->An->Prop)->Prop)(elt:Loc->Hp->An->KQ->Prop)(it:It)(N:Nat)(k:List V->Hp->Prop):Nat->Loc->Hp->List V->Prop
 |0,_,J,acc=>bX J it=some N/\k acc J
 |n+1,loc,J,acc=>(bX J it=some N/\bp acc=true)/\∃v a,iC J (N-(n+1)) it=some v/\asg v loc J a fun loc J a=>test loc J a fun c J a=>match c with
  |false=>pP asg test elt it N k n loc J acc
  |true=>elt loc J a fun y J _=>pP asg test elt it N k n loc J (acc++[y])
noncomputable def mn(asg:V->Loc->Hp->An->KL->Prop)(test:Loc->Hp->An->(Bool->Hp->An->Prop)->Prop)(elt:Loc->Hp->An->KQ->Prop)(t:Bool)(v:V)(loc:Loc)(J:Hp)(x:V)(s:Hp):Prop :=
 ∃it N,jx J v=some it/\bX J it=some N/\pP asg test elt it N (fun acc J=>bp acc=true/\bw t acc J=(x,s)) N loc J []
noncomputable def ge(asg:V->Loc->Hp->An->KL->Prop)(body:Loc->Hp->An->KF->Prop)(tg:Expr)(it:It)(loc:Loc)(J:Hp)(f:Fl)(l:Loc)(s:Hp):Prop :=
 ∃N,bX J it=some N/\pM tg it=true/\hU asg body it N (fun f' l' s'=>f'=f/\l'=l/\s'=s) N loc J
mutual
noncomputable def bj(T:Tab)(mt:Pos->Bool)(cs:aD):Expr->Loc->Hp->An->KQ->Prop
 |.Constant c _ _,_,J,a,k=>(match qO c with | some v=>k v J a | Option.none=>False)
 |.Name x _,loc,J,a,k=>(match pL T loc x with | some v=>k v J a | Option.none=>False)
 |.BinOp l op r pos,loc,J,a,k=>bj T mt cs l loc J a fun x J a=>bj T mt cs r loc J a fun y J a=>CC (c8 (mt pos) op x y J) a k
 |.UnaryOp op x _,loc,J,a,k=>bj T mt cs x loc J a fun v J a=>qQ (unI op v J) a fun v a=>k v J a
 |.BoolOp op es _,loc,J,a,k=>runB T mt cs op es loc J a k
 |.IfExp t b e _,loc,J,a,k=>bj T mt cs t loc J a fun v J a=>qR (bM J v) a (fun a=>bj T mt cs b loc J a k) (fun a=>bj T mt cs e loc J a k)
 |.Dict keys vals pos,loc,J,a,k=>(match keys.mapM gI with
  |some ks=>(ks.length=vals.length/\ks.length<=15)/\runEs T mt cs vals loc J a fun vs J a=>k (.ref J.length) (J++[.dict (u3 (ks.zip vs))]) a
  |Option.none=>False)
 |.List es pos,loc,J,a,k=>runEs T mt cs es loc J a fun vs J a=>bp vs=true/\k (bw (mt pos) vs J).1 (bw (mt pos) vs J).2 a
 |.Tuple es _ _,loc,J,a,k=>runEs T mt cs es loc J a fun vs J a=>bp vs=true/\k (.tup vs) J a
 |.Compare l ops rs _,loc,J,a,k=>bj T mt cs l loc J a fun x J a=>runC T mt cs x ops rs loc J a k
 |.Call (.Attribute o at' apos) args kws pos,loc,J,a,k=>(apos.endLine==pos.line&&xB o args kws)=true/\bj T mt cs o loc J a fun ov J a=>Mn (cg T J ov at') a fun mk a=>runEs T mt cs args loc J a fun as J a=>runK T mt cs kws loc J a fun kw J a=>KC cs mk J ov at' as kw a k
 |.Call (.Name f _) args kws pos,loc,J,a,k=>xC args kws=true/\(match pL T loc f with
  |some g=>runEs T mt cs args loc J a fun as J a=>runK T mt cs kws loc J a fun kw J a=>to cs (mt pos) g as kw J a k
  |Option.none=>False)
 |.Attribute o at' _,loc,J,a,k=>zw o=true/\bj T mt cs o loc J a fun ov J a=>qQ (cG T J ov at') a fun v a=>k v J a
 |.Subscript o (.Slice lo hi st _) pos,loc,J,a,k=>bj T mt cs o loc J a fun ov J a=>runP T mt cs lo loc J a fun x J a=>runP T mt cs hi loc J a fun y J a=>runP T mt cs st loc J a fun z J a=>CC (aG (mt pos) J ov x y z) a k
 |.Subscript o (.Name i ip) pos,loc,J,a,k=>bj T mt cs o loc J a fun ov J a=>bj T mt cs (.Name i ip) loc J a fun iv J a=>qQ (ai J ov iv) a fun v a=>k v J a
 |.Subscript o (.Constant i i2 ip) pos,loc,J,a,k=>bj T mt cs o loc J a fun ov J a=>bj T mt cs (.Constant i i2 ip) loc J a fun iv J a=>qQ (ai J ov iv) a fun v a=>k v J a
 |.Subscript o (.BinOp i1 i2 i3 ip) pos,loc,J,a,k=>bj T mt cs o loc J a fun ov J a=>bj T mt cs (.BinOp i1 i2 i3 ip) loc J a fun iv J a=>qQ (ai J ov iv) a fun v a=>k v J a
 |.Subscript o (.UnaryOp i1 i2 ip) pos,loc,J,a,k=>bj T mt cs o loc J a fun ov J a=>bj T mt cs (.UnaryOp i1 i2 ip) loc J a fun iv J a=>qQ (ai J ov iv) a fun v a=>k v J a
 |.Subscript o (.Call i1 i2 i3 ip) pos,loc,J,a,k=>bj T mt cs o loc J a fun ov J a=>bj T mt cs (.Call i1 i2 i3 ip) loc J a fun iv J a=>qQ (ai J ov iv) a fun v a=>k v J a
 |.Subscript o (.Attribute i1 i2 ip) pos,loc,J,a,k=>bj T mt cs o loc J a fun ov J a=>bj T mt cs (.Attribute i1 i2 ip) loc J a fun iv J a=>qQ (ai J ov iv) a fun v a=>k v J a
 |.Subscript o (.Subscript i1 i2 ip) pos,loc,J,a,k=>bj T mt cs o loc J a fun ov J a=>bj T mt cs (.Subscript i1 i2 ip) loc J a fun iv J a=>qQ (ai J ov iv) a fun v a=>k v J a
 |.ListComp elt [⟨tgt,iter,ifs,as⟩] scope pos,loc,J,a,k=>as=0/\u4 scope loc=true/\bj T mt cs iter loc J a fun v J a=>Ek (mn (runA T mt cs tgt) (runT T mt cs ifs) (bj T mt cs elt) (mt pos) v (qE scope loc) J) a k
 |_,_,_,_,_=>False
noncomputable def runP(T:Tab)(mt:Pos->Bool)(cs:aD):Option Expr->Loc->Hp->An->KQ->Prop
 |Option.none,_,J,a,k=>k .none J a
 |some e,loc,J,a,k=>bj T mt cs e loc J a k
noncomputable def runEs(T:Tab)(mt:Pos->Bool)(cs:aD):List Expr->Loc->Hp->An->(List V->Hp->An->Prop)->Prop
 |[],_,J,a,k=>k [] J a
 |e::es,loc,J,a,k=>bj T mt cs e loc J a fun v J a=>runEs T mt cs es loc J a fun vs J a=>k (v::vs) J a
noncomputable def runK(T:Tab)(mt:Pos->Bool)(cs:aD):List Keyword->Loc->Hp->An->(List (Str×V)->Hp->An->Prop)->Prop
 |[],_,J,a,k=>k [] J a
 |⟨some n,e,_⟩::ks,loc,J,a,k=>bj T mt cs e loc J a fun v J a=>runK T mt cs ks loc J a fun vs J a=>k ((n,v)::vs) J a
 |⟨Option.none,_,_⟩::_,_,_,_,_=>False
noncomputable def runB(T:Tab)(mt:Pos->Bool)(cs:aD):BoolOp->List Expr->Loc->Hp->An->KQ->Prop
 |_,[],_,_,_,_=>False
 |_,[e],loc,J,a,k=>bj T mt cs e loc J a k
 |op,e::e2::es,loc,J,a,k=>bj T mt cs e loc J a fun v J a=>brB op v J a (fun a k=>runB T mt cs op (e2::es) loc J a k) k
noncomputable def runC(T:Tab)(mt:Pos->Bool)(cs:aD):V->List CmpOp->List Expr->Loc->Hp->An->KQ->Prop
 |x,[op],[e],loc,J,a,k=>bj T mt cs e loc J a fun y J a=>Hv (aM J op x y) a fun c a=>k (.bool c) J a
 |x,op::o2::ops,e::e2::es,loc,J,a,k=>bj T mt cs e loc J a fun y J a=>Hv (aM J op x y) a fun c a=>brB .And (.bool c) J a (fun a k=>runC T mt cs y (o2::ops) (e2::es) loc J a k) k
 |_,_,_,_,_,_,_=>False
noncomputable def runT(T:Tab)(mt:Pos->Bool)(cs:aD):List Expr->Loc->Hp->An->(Bool->Hp->An->Prop)->Prop
 |[],_,J,a,k=>k true J a
 |e::es,loc,J,a,k=>bj T mt cs e loc J a fun v J a=>qR (bM J v) a (fun a=>runT T mt cs es loc J a k) (fun a=>k false J a)
noncomputable def runA(T:Tab)(mt:Pos->Bool)(cs:aD):Expr->V->Loc->Hp->An->KL->Prop
 |.Name x _,v,loc,J,a,k=>(match loc.put x v with | some l=>k l J a | Option.none=>False)
 |.Attribute o at' _,v,loc,J,a,k=>bj T mt cs o loc J a fun ov J a=>Kz (cH T J ov at' v) a fun J a=>k loc J a
 |.Subscript o i _,v,loc,J,a,k=>bj T mt cs o loc J a fun ov J a=>bj T mt cs i loc J a fun iv J a=>Kz (d8 J ov iv v) a fun J a=>k loc J a
 |.Tuple es _ _,v,loc,J,a,k=>(match v with
  |.tup vs=>(match bZ es vs loc with | some l=>k l J a | Option.none=>False)
  |_=>False)
 |_,_,_,_,_,_=>False
end
noncomputable def BE(T:Tab)(mt:Pos->Bool)(cs:aD):Expr->Loc->Hp->An->(It->Hp->An->Prop)->Prop
 |.Call (.Name f _) [e] [] pos,loc,J,a,k=>eV e=true/\(match pL T loc f with
  |some g=>bj T mt cs e loc J a fun v J a=>(match u5 g with
   |true=>(ba J v).isSome=true/\k (.enm v) J a
   |false=>to cs (mt pos) g [v] [] J a fun w J a=>zx (jx J w) a fun it a=>k it J a)
  |Option.none=>False)
 |e,loc,J,a,k=>bj T mt cs e loc J a fun w J a=>zx (jx J w) a fun it a=>k it J a
mutual
noncomputable def KD(T:Tab)(mt:Pos->Bool)(cs:aD):Stmt->Loc->Hp->An->KF->Prop
 |.Expr e _,loc,J,a,k=>Hu e=false/\bj T mt cs e loc J a fun v J a=>(match v with
  |.none=>k .next loc J a
  |_=>False)
 |.Pass _,loc,J,a,k=>k .next loc J a
 |.Break _,loc,J,a,k=>k .brk loc J a
 |.Continue _,loc,J,a,k=>k .cont loc J a
 |.Return Option.none _,loc,J,a,k=>k (.ret .none) loc J a
 |.Return (some e) _,loc,J,a,k=>bj T mt cs e loc J a fun v J a=>k (.ret v) loc J a
 |.Assign [t] e _,loc,J,a,k=>Ej t e=true/\bj T mt cs e loc J a fun v J a=>runA T mt cs t v loc J a fun l J a=>k .next l J a
 |.If t b o _,loc,J,a,k=>bj T mt cs t loc J a fun v J a=>qR (bM J v) a (fun a=>runSs T mt cs b loc J a k) (fun a=>runSs T mt cs o loc J a k)
 |.While t b [] _,loc,J,a,k=>KB (gr (bj T mt cs t) (runSs T mt cs b) loc J) a k
 |.For t it b [] _,loc,J,a,k=>BE T mt cs it loc J a fun it J a=>KB (ge (runA T mt cs t) (runSs T mt cs b) t it loc J) a k
 |_,_,_,_,_=>False
noncomputable def runSs(T:Tab)(mt:Pos->Bool)(cs:aD):List Stmt->Loc->Hp->An->KF->Prop
 |[],loc,J,a,k=>k .next loc J a
 |s::ss,loc,J,a,k=>KD T mt cs s loc J a fun f l J a=>(match f with
  |.next=>runSs T mt cs ss l J a k
  |f=>k f l J a)
end
noncomputable def Hw(v:V)(J:Hp):KF:=fun f _ s _=>match f with
 |.ret x=>x=v/\s=J
 |.next=>.none=v/\s=J
 |_=>False
mutual
noncomputable def fy(n:Nat):V->Bool
 |.ref k=>decide (k<n)
 |.inst _ k=>decide (k<n)
 |.tup xs=>refsL n xs
 |.lst xs=>refsL n xs
 |_=>true
noncomputable def refsL(n:Nat):List V->Bool
 |[]=>true
 |x::xs=>fy n x&&refsL n xs
end
noncomputable def bT(n:Nat):ab->Bool
 |.list xs=>refsL n xs
 |.dict es=>refsL n (es.map (·.2))
 |.tdict es=>refsL n (es.map (·.1))&&refsL n (es.map (·.2))
noncomputable def Mo(n:Nat)(v:V)(s1 s:Hp):Prop:=s1=s\/(s=s1.take n/\fy n v=true/\s.all (bT n)=true)
noncomputable def jO(T:Tab)(mt:Pos->Bool):Nat->aD
 |0=>fun _ _ _ _ _ _ _=>False
 |d+1=>fun c m args kw J v s=>∃fd binds a s1,T.fns.lookup (c,m)=some fd/\pN fd args kw=some binds/\runSs T mt (jO T mt d) fd.body (lc fd.scope binds) J a (Hw v s1)/\Mo J.length v s1 s
noncomputable def Ch(a:An)(X:Prop):Prop:=X
theorem z0{e:Prop}(h:e):Ch [] e:=h
theorem zC{r:An}{X:Prop}(c:Ch r X):Ch (.c::r) X:=c
theorem zV{o:Option V}{x:V}{r:An}{X:Prop}(h:o=some x)(c:Ch r X):Ch (.v x::r) (o=some x/\X):=⟨h,c⟩
theorem zP{o:Option (V×Hp)}{x:V}{s:Hp}{r:An}{X:Prop}(h:o=some (x,s))(c:Ch r X):Ch (.p x s::r) (o=some (x,s)/\X):=⟨h,c⟩
theorem zS{o:Option Hp}{s:Hp}{r:An}{X:Prop}(h:o=some s)(c:Ch r X):Ch (.s s::r) (o=some s/\X):=⟨h,c⟩
theorem zK{o:Option MK}{x:MK}{r:An}{X:Prop}(h:o=some x)(c:Ch r X):Ch (.k x::r) (o=some x/\X):=⟨h,c⟩
theorem zI{o:Option It}{x:It}{r:An}{X:Prop}(h:o=some x)(c:Ch r X):Ch (.i x::r) (o=some x/\X):=⟨h,c⟩
theorem zT{o:Option Bool}{x:Bool}{r:An}{X:Prop}(h:o=some x)(c:Ch r X):Ch (.t x::r) (o=some x/\X):=⟨h,c⟩
theorem zF{F:V->Hp->Prop}{x:V}{s:Hp}{r:An}{X:Prop}(h:F x s)(c:Ch r X):Ch (.p x s::r) (F x s/\X):=⟨h,c⟩
theorem zN{cs:aD}{c m:Str}{args:List V}{kw:List (Str×V)}{J s:Hp}{r:An}{X:Prop}(h:cs c m args kw J .none s)(ch:Ch r X):Ch (.s s::r) (cs c m args kw J .none s/\X):=⟨h,ch⟩
theorem zD{cs:aD}{c m:Str}{args:List V}{kw:List (Str×V)}{J s:Hp}{x:V}{r:An}{X:Prop}(h:cs c m args kw J x s)(ch:Ch r X):Ch (.p x s::r) (cs c m args kw J x s/\X):=⟨h,ch⟩
theorem zL{F:Fl->Loc->Hp->Prop}{f:Fl}{l:Loc}{s:Hp}{r:An}{X:Prop}(h:F f l s)(c:Ch r X):Ch (.l f l s::r) (F f l s/\X):=⟨h,c⟩
theorem zA{e:Prop}{r:An}{X:Prop}(h:e)(c:Ch r X):Ch r (e/\X):=⟨h,c⟩
theorem zR{r:An}{X:Prop}(c:Ch r X):Ch r (true=true/\X):=⟨rfl,c⟩
theorem zQ{r:An}{X:Prop}(c:Ch r X):Ch r (false=false/\X):=⟨rfl,c⟩
theorem z1{r:An}{X:Prop}(c:Ch r X):Ch (.b true::r) (true=true/\X):=⟨rfl,c⟩
theorem z2{r:An}{X:Prop}(c:Ch r X):Ch (.b false::r) (false=false/\X):=⟨rfl,c⟩
theorem zH{d c:Bool}{r:An}{X:Prop}(h:d=c)(ch:Ch r X):Ch (.b c::r) (d=c/\X):=⟨h,ch⟩
theorem zO{r:An}{X:Prop}(ch:Ch r X):Ch (.o::r) X:=ch
theorem zM{d:Bool}{p q:An}{X Y:Prop}(f:d=true->Ch p X)(g:d=false->Ch q Y):Ch [.m p q] ((d=true->X)/\(d=false->Y)):=⟨f,g⟩
theorem zB{o:Option Bool}{d:Bool}{p q:An}{X Y:Prop}(h:o=some d)(f:d=true->Ch p X)(g:d=false->Ch q Y):Ch [.m p q] (qR o [.m p q] (fun _=>X) (fun _=>Y)):=by rw[h];exact⟨f,g⟩
theorem Ch.R{r:An}{X:Prop}(c:Ch r X):Ch r (true=true/\X):=zR c
theorem Ch.Q{r:An}{X:Prop}(c:Ch r X):Ch r (false=false/\X):=zQ c
theorem Ch.C{r:An}{X:Prop}(c:Ch r X):Ch (.c::r) X:=c
theorem Ch.O{r:An}{X:Prop}(c:Ch r X):Ch (.o::r) X:=c
theorem Ch.T{r:An}{X:Prop}(c:Ch r X):Ch (.b true::r) (true=true/\X):=z1 c
theorem Ch.F{r:An}{X:Prop}(c:Ch r X):Ch (.b false::r) (false=false/\X):=z2 c
theorem nT{t:Bool}(h:t=true):(!t)=false:=by rw[h];rfl
theorem nF{t:Bool}(h:t=false):(!t)=true:=by rw[h];rfl
theorem xT{α:Type}{t:Bool}{p q x:α}(h:t=true)(e:p=x):cond t p q=x:=by rw[h];exact e
theorem xF{α:Type}{t:Bool}{p q x:α}(h:t=false)(e:q=x):cond t p q=x:=by rw[h];exact e
theorem El{T:Tab}{mt:Pos->Bool}{d:Nat}{c m:Str}{args:List V}{kw:List (Str×V)}{J s:Hp}{v:V}{fd:aA}{binds:List (Str×V)}{a:An}{X:Prop}(f:(v=v/\s=s)->Ch a X)(h1:T.fns.lookup (c,m)=some fd:=by kernel_rfl)(h2:pN fd args kw=some binds:=by kernel_rfl)
 (h:X=runSs T mt (jO T mt d) fd.body (lc fd.scope binds) J a (Hw v s):=by kernel_rfl):jO T mt (d+1) c m args kw J v s :=
 ⟨fd,binds,a,s,h1,h2,h▸f ⟨rfl,rfl⟩,.inl rfl⟩
theorem zE(s:Hp){x v:V}(h:x=v):v=x/\s=s:=⟨h.symm,rfl⟩
theorem zW(s:Hp){r:An}{X:Prop}(c:Ch r X):Ch r (s=s/\X):=⟨rfl,c⟩
theorem af{T:Tab}{mt:Pos->Bool}{d:Nat}{c m:Str}{args:List V}{kw:List (Str×V)}{J s:Hp}{v:V}(fd:aA)(l:List V){a:An}{X:Prop}(f:(v=v/\s=s)->Ch a X)(h1:T.fns.lookup (c,m)=some fd:=by kernel_rfl)(h2:pN fd args kw=some (fd.params.zip l):=by kernel_rfl)
 (h:X=runSs T mt (jO T mt d) fd.body (lc fd.scope (fd.params.zip l)) J a (Hw v s):=by kernel_rfl):jO T mt (d+1) c m args kw J v s:=El f h1 h2 h
universe u
theorem eW{p1:Prop}{p2:Prop}{p3:Prop}{G:Prop}(h:p1/\p2/\p3)(k:p1->p2->p3->G):G:=k h.1 h.2.1 h.2.2
theorem uu{p1:Prop}{α1:Sort u}{p2:α1->Prop}{G:Prop}(h:p1/\∃x1:α1,p2 x1)(k:p1->∀x1:α1,p2 x1->G):G:=PG h.2 fun x1 q1=>k h.1 x1 q1
theorem ae{α1:Sort u}{p1:α1->Prop}{p2:α1->Prop}{G:Prop}(h:∃x1:α1,p1 x1/\p2 x1)(k:∀x1:α1,p1 x1->p2 x1->G):G:=PG h fun x1 q1=>k x1 q1.1 q1.2
theorem gK{α1:Sort u}{α2:Sort u}{p1:α1->α2->Prop}{G:Prop}(h:∃x1:α1,∃x2:α2,p1 x1 x2)(k:∀x1:α1,∀x2:α2,p1 x1 x2->G):G:=PG h fun x1 q1=>PG q1 fun x2 q2=>k x1 x2 q2
theorem KE{p1:Prop}{p2:Prop}{α1:Sort u}{p3:α1->Prop}{G:Prop}(h:p1/\p2/\∃x1:α1,p3 x1)(k:p1->p2->∀x1:α1,p3 x1->G):G:=PG h.2.2 fun x1 q1=>k h.1 h.2.1 x1 q1
theorem KG{p1:Prop}{α1:Sort u}{α2:Sort u}{p2:α1->α2->Prop}{G:Prop}(h:p1/\∃x1:α1,∃x2:α2,p2 x1 x2)(k:p1->∀x1:α1,∀x2:α2,p2 x1 x2->G):G:=PG h.2 fun x1 q1=>PG q1 fun x2 q2=>k h.1 x1 x2 q2
theorem bI{α1:Sort u}{p1:α1->Prop}{p2:α1->Prop}{p3:α1->Prop}{G:Prop}(h:∃x1:α1,p1 x1/\p2 x1/\p3 x1)(k:∀x1:α1,p1 x1->p2 x1->p3 x1->G):G:=PG h fun x1 q1=>k x1 q1.1 q1.2.1 q1.2.2
theorem bu{α1:Sort u}{α2:Sort u}{p1:α1->α2->Prop}{p2:α1->α2->Prop}{G:Prop}(h:∃x1:α1,∃x2:α2,p1 x1 x2/\p2 x1 x2)(k:∀x1:α1,∀x2:α2,p1 x1 x2->p2 x1 x2->G):G:=PG h fun x1 q1=>PG q1 fun x2 q2=>k x1 x2 q2.1 q2.2
theorem bf{α1:Sort u}{α2:Sort u}{α3:Sort u}{p1:α1->α2->α3->Prop}{G:Prop}(h:∃x1:α1,∃x2:α2,∃x3:α3,p1 x1 x2 x3)(k:∀x1:α1,∀x2:α2,∀x3:α3,p1 x1 x2 x3->G):G:=PG h fun x1 q1=>PG q1 fun x2 q2=>PG q2 fun x3 q3=>k x1 x2 x3 q3
theorem BF{p1:Prop}{α1:Sort u}{α2:Sort u}{p2:α1->α2->Prop}{p3:α1->α2->Prop}{G:Prop}(h:p1/\∃x1:α1,∃x2:α2,p2 x1 x2/\p3 x1 x2)(k:p1->∀x1:α1,∀x2:α2,p2 x1 x2->p3 x1 x2->G):G:=PG h.2 fun x1 q1=>PG q1 fun x2 q2=>k h.1 x1 x2 q2.1 q2.2
theorem iQ{α1:Sort u}{p1:α1->Prop}{p2:α1->Prop}{p3:α1->Prop}{p4:α1->Prop}{G:Prop}(h:∃x1:α1,p1 x1/\p2 x1/\p3 x1/\p4 x1)(k:∀x1:α1,p1 x1->p2 x1->p3 x1->p4 x1->G):G:=PG h fun x1 q1=>k x1 q1.1 q1.2.1 q1.2.2.1 q1.2.2.2
theorem cQ{α1:Sort u}{α2:Sort u}{p1:α1->α2->Prop}{p2:α1->α2->Prop}{p3:α1->α2->Prop}{G:Prop}(h:∃x1:α1,∃x2:α2,p1 x1 x2/\p2 x1 x2/\p3 x1 x2)(k:∀x1:α1,∀x2:α2,p1 x1 x2->p2 x1 x2->p3 x1 x2->G):G:=PG h fun x1 q1=>PG q1 fun x2 q2=>k x1 x2 q2.1 q2.2.1 q2.2.2
theorem aU{α1:Sort u}{α2:Sort u}{α3:Sort u}{p1:α1->α2->α3->Prop}{p2:α1->α2->α3->Prop}{G:Prop}(h:∃x1:α1,∃x2:α2,∃x3:α3,p1 x1 x2 x3/\p2 x1 x2 x3)(k:∀x1:α1,∀x2:α2,∀x3:α3,p1 x1 x2 x3->p2 x1 x2 x3->G):G:=PG h fun x1 q1=>PG q1 fun x2 q2=>PG q2 fun x3 q3=>k x1 x2 x3 q3.1 q3.2
theorem qF{α1:Sort u}{α2:Sort u}{α3:Sort u}{α4:Sort u}{p1:α1->α2->α3->α4->Prop}{G:Prop}(h:∃x1:α1,∃x2:α2,∃x3:α3,∃x4:α4,p1 x1 x2 x3 x4)(k:∀x1:α1,∀x2:α2,∀x3:α3,∀x4:α4,p1 x1 x2 x3 x4->G):G:=PG h fun x1 q1=>PG q1 fun x2 q2=>PG q2 fun x3 q3=>PG q3 fun x4 q4=>k x1 x2 x3 x4 q4
theorem iE{p1:Prop}{α1:Sort u}{α2:Sort u}{p2:α1->α2->Prop}{p3:α1->α2->Prop}{p4:α1->α2->Prop}{G:Prop}(h:p1/\∃x1:α1,∃x2:α2,p2 x1 x2/\p3 x1 x2/\p4 x1 x2)(k:p1->∀x1:α1,∀x2:α2,p2 x1 x2->p3 x1 x2->p4 x1 x2->G):G:=PG h.2 fun x1 q1=>PG q1 fun x2 q2=>k h.1 x1 x2 q2.1 q2.2.1 q2.2.2
theorem qS{α1:Sort u}{p1:α1->Prop}{p2:α1->Prop}{p3:α1->Prop}{p4:α1->Prop}{p5:α1->Prop}{G:Prop}(h:∃x1:α1,p1 x1/\p2 x1/\p3 x1/\p4 x1/\p5 x1)(k:∀x1:α1,p1 x1->p2 x1->p3 x1->p4 x1->p5 x1->G):G:=PG h fun x1 q1=>k x1 q1.1 q1.2.1 q1.2.2.1 q1.2.2.2.1 q1.2.2.2.2
theorem gL{α1:Sort u}{p1:α1->Prop}{p2:α1->Prop}{α2:Sort u}{p3:α1->α2->Prop}{p4:α1->α2->Prop}{G:Prop}(h:∃x1:α1,p1 x1/\p2 x1/\∃x2:α2,p3 x1 x2/\p4 x1 x2)(k:∀x1:α1,p1 x1->p2 x1->∀x2:α2,p3 x1 x2->p4 x1 x2->G):G:=PG h fun x1 q1=>PG q1.2.2 fun x2 q2=>k x1 q1.1 q1.2.1 x2 q2.1 q2.2
theorem eX{α1:Sort u}{α2:Sort u}{p1:α1->α2->Prop}{p2:α1->α2->Prop}{p3:α1->α2->Prop}{p4:α1->α2->Prop}{G:Prop}(h:∃x1:α1,∃x2:α2,p1 x1 x2/\p2 x1 x2/\p3 x1 x2/\p4 x1 x2)(k:∀x1:α1,∀x2:α2,p1 x1 x2->p2 x1 x2->p3 x1 x2->p4 x1 x2->G):G:=PG h fun x1 q1=>PG q1 fun x2 q2=>k x1 x2 q2.1 q2.2.1 q2.2.2.1 q2.2.2.2
theorem bg{α1:Sort u}{α2:Sort u}{α3:Sort u}{p1:α1->α2->α3->Prop}{p2:α1->α2->α3->Prop}{p3:α1->α2->α3->Prop}{G:Prop}(h:∃x1:α1,∃x2:α2,∃x3:α3,p1 x1 x2 x3/\p2 x1 x2 x3/\p3 x1 x2 x3)(k:∀x1:α1,∀x2:α2,∀x3:α3,p1 x1 x2 x3->p2 x1 x2 x3->p3 x1 x2 x3->G):G:=PG h fun x1 q1=>PG q1 fun x2 q2=>PG q2 fun x3 q3=>k x1 x2 x3 q3.1 q3.2.1 q3.2.2
theorem Em{α1:Sort u}{α2:Sort u}{α3:Sort u}{α4:Sort u}{p1:α1->α2->α3->α4->Prop}{p2:α1->α2->α3->α4->Prop}{G:Prop}(h:∃x1:α1,∃x2:α2,∃x3:α3,∃x4:α4,p1 x1 x2 x3 x4/\p2 x1 x2 x3 x4)(k:∀x1:α1,∀x2:α2,∀x3:α3,∀x4:α4,p1 x1 x2 x3 x4->p2 x1 x2 x3 x4->G):G:=PG h fun x1 q1=>PG q1 fun x2 q2=>PG q2 fun x3 q3=>PG q3 fun x4 q4=>k x1 x2 x3 x4 q4.1 q4.2
theorem gF{α1:Sort u}{p1:α1->Prop}{p2:α1->Prop}{α2:Sort u}{p3:α1->α2->Prop}{p4:α1->α2->Prop}{p5:α1->α2->Prop}{G:Prop}(h:∃x1:α1,p1 x1/\p2 x1/\∃x2:α2,p3 x1 x2/\p4 x1 x2/\p5 x1 x2)(k:∀x1:α1,p1 x1->p2 x1->∀x2:α2,p3 x1 x2->p4 x1 x2->p5 x1 x2->G):G:=PG h fun x1 q1=>PG q1.2.2 fun x2 q2=>k x1 q1.1 q1.2.1 x2 q2.1 q2.2.1 q2.2.2
theorem nM{α1:Sort u}{α2:Sort u}{p1:α1->α2->Prop}{p2:α1->α2->Prop}{p3:α1->α2->Prop}{p4:α1->α2->Prop}{p5:α1->α2->Prop}{G:Prop}(h:∃x1:α1,∃x2:α2,p1 x1 x2/\p2 x1 x2/\p3 x1 x2/\p4 x1 x2/\p5 x1 x2)(k:∀x1:α1,∀x2:α2,p1 x1 x2->p2 x1 x2->p3 x1 x2->p4 x1 x2->p5 x1 x2->G):G:=PG h fun x1 q1=>PG q1 fun x2 q2=>k x1 x2 q2.1 q2.2.1 q2.2.2.1 q2.2.2.2.1 q2.2.2.2.2
theorem fR{α1:Sort u}{α2:Sort u}{α3:Sort u}{p1:α1->α2->α3->Prop}{p2:α1->α2->α3->Prop}{p3:α1->α2->α3->Prop}{p4:α1->α2->α3->Prop}{G:Prop}(h:∃x1:α1,∃x2:α2,∃x3:α3,p1 x1 x2 x3/\p2 x1 x2 x3/\p3 x1 x2 x3/\p4 x1 x2 x3)(k:∀x1:α1,∀x2:α2,∀x3:α3,p1 x1 x2 x3->p2 x1 x2 x3->p3 x1 x2 x3->p4 x1 x2 x3->G):G:=PG h fun x1 q1=>PG q1 fun x2 q2=>PG q2 fun x3 q3=>k x1 x2 x3 q3.1 q3.2.1 q3.2.2.1 q3.2.2.2
theorem qT{α1:Sort u}{α2:Sort u}{α3:Sort u}{p1:α1->α2->α3->Prop}{p2:α1->α2->α3->Prop}{p3:α1->α2->α3->Prop}{p4:α1->α2->α3->Prop}{p5:α1->α2->α3->Prop}{G:Prop}(h:∃x1:α1,∃x2:α2,∃x3:α3,p1 x1 x2 x3/\p2 x1 x2 x3/\p3 x1 x2 x3/\p4 x1 x2 x3/\p5 x1 x2 x3)(k:∀x1:α1,∀x2:α2,∀x3:α3,p1 x1 x2 x3->p2 x1 x2 x3->p3 x1 x2 x3->p4 x1 x2 x3->p5 x1 x2 x3->G):G:=PG h fun x1 q1=>PG q1 fun x2 q2=>PG q2 fun x3 q3=>k x1 x2 x3 q3.1 q3.2.1 q3.2.2.1 q3.2.2.2.1 q3.2.2.2.2
theorem qU{α1:Sort u}{α2:Sort u}{α3:Sort u}{α4:Sort u}{p1:α1->α2->α3->α4->Prop}{p2:α1->α2->α3->α4->Prop}{p3:α1->α2->α3->α4->Prop}{p4:α1->α2->α3->α4->Prop}{G:Prop}(h:∃x1:α1,∃x2:α2,∃x3:α3,∃x4:α4,p1 x1 x2 x3 x4/\p2 x1 x2 x3 x4/\p3 x1 x2 x3 x4/\p4 x1 x2 x3 x4)(k:∀x1:α1,∀x2:α2,∀x3:α3,∀x4:α4,p1 x1 x2 x3 x4->p2 x1 x2 x3 x4->p3 x1 x2 x3 x4->p4 x1 x2 x3 x4->G):G:=PG h fun x1 q1=>PG q1 fun x2 q2=>PG q2 fun x3 q3=>PG q3 fun x4 q4=>k x1 x2 x3 x4 q4.1 q4.2.1 q4.2.2.1 q4.2.2.2
theorem xE{α1:Sort u}{α2:Sort u}{α3:Sort u}{p1:α1->α2->α3->Prop}{p2:α1->α2->α3->Prop}{p3:α1->α2->α3->Prop}{p4:α1->α2->α3->Prop}{p5:α1->α2->α3->Prop}{p6:α1->α2->α3->Prop}{G:Prop}(h:∃x1:α1,∃x2:α2,∃x3:α3,p1 x1 x2 x3/\p2 x1 x2 x3/\p3 x1 x2 x3/\p4 x1 x2 x3/\p5 x1 x2 x3/\p6 x1 x2 x3)(k:∀x1:α1,∀x2:α2,∀x3:α3,p1 x1 x2 x3->p2 x1 x2 x3->p3 x1 x2 x3->p4 x1 x2 x3->p5 x1 x2 x3->p6 x1 x2 x3->G):G:=PG h fun x1 q1=>PG q1 fun x2 q2=>PG q2 fun x3 q3=>k x1 x2 x3 q3.1 q3.2.1 q3.2.2.1 q3.2.2.2.1 q3.2.2.2.2.1 q3.2.2.2.2.2
theorem bU{J:Hp}{i j:Nat}{c:ab}(h:i≠j):(J.set i c)[j]?=J[j]?:=List.getElem?_set_ne h
theorem db{J:Hp}{i:Nat}{a c:ab}(h:J[i]?=some a):(J.set i c)[i]?=some c:=by
 have:=(PD.mp h).1
 rw[List.getElem?_set_self this]
theorem dW{i:Int}(h1 : -(2^62)<i)(h2:i<2^62):aR i=true:=by unfold aR;rw[PJ];exact⟨PB h1,PB h2⟩
theorem b0{J:Hp}{n:Nat}{xs:List V}(h:J[n]?=some (.list xs)):ba J (.ref n)=some xs:=by show dz J[n]? _ _=_;rw[h];rfl
theorem eY{J:Hp}{n:Nat}{xs:List V}(h:J[n]?=some (.list xs)):cW J (.ref n)=some xs:=b0 h
theorem JZ{J:Hp}{n:Nat}{xs:List V}(h:J[n]?=some (.list xs)):jx J (.ref n)=some (.seq (.ref n)):=by show dz J[n]? _ _=_;rw[h];rfl
theorem u6{J:Hp}{xs:List V}{k:Int}:ai J (.lst xs) (.int k)=gH xs k:=rfl
theorem mq{J:Hp}{o:V}{xs:List V}{k:Int}(h:cW J o=some xs):ai J o (.int k)=gH xs k:=by unfold ai;rw[h];rfl
theorem jP{i:Int}(h:aR i=true):pK (.int i)=some (some i):=if_pos h
theorem mr{t:Bool}{J:Hp}{o lo hi:V}{xs:List V}{a b:Option Int}(h:ba J o=some xs)(hl:bp xs=true)(h1:pK lo=some a)(h2:pK hi=some b):aG t J o lo hi .none=some (bw t (lB xs a b) J):=by
 unfold aG
 rw[h,Option.bind_some,if_pos hl]
 show((pK lo).bind fun a=>(pK hi).bind fun b=>some (bw t (lB xs a b) J))=_
 rw[h1,h2];rfl
theorem u7{J:Hp}{n:Nat}{es:List (Str×V)}{k:Str}{v:V}(h:J[n]?=some (.dict es))(hk:es.lookup k=some v):ai J (.ref n) (.str k)=some v:=by
 show els (dz J[n]? _ _) _ (dz J[n]? _ _)=_
 rw[h];exact hk
theorem BG{s:Hp}{n:Nat}{es:List (Str×V)}{k:Str}{v:V}(h:s[n]?=some (.dict es))(hl:es.length<900):d8 s (.ref n) (.str k) v=some (s.set n (.dict (d7 k v es))):=by
 show dz s[n]? _ _=_
 rw[h];exact if_pos (PB hl)
theorem qV{J:Hp}{c:Nat}{xs:List V}(h:J[c]?=some (.list xs)):aM J .NotEq (.ref c) (.lst [])=some (decide (xs.length≠0)):=by
 show(els (dz J[c]? _ _) _ _).map _=_
 rw[h]
 cases xs <;> rfl
theorem Mp{T:Tab}{J:Hp}{n:Nat}{xs:List V}(h:J[n]?=some (.list xs)):cg T J (.ref n) "pop"=some (.bi "list.pop"):=by show dz J[n]? _ _=_;rw[h];rfl
theorem aZ{T:Tab}{J:Hp}{n:Nat}{xs:List V}(h:J[n]?=some (.list xs)):cg T J (.ref n) "append"=some (.bi "list.append"):=by show dz J[n]? _ _=_;rw[h];rfl
theorem En{J:Hp}{n:Nat}{xs:List V}{x:V}(h:J[n]?=some (.list (xs++[x])))(hl:bp (xs++[x])=true):aS J "list.pop" (.ref n) []=some (x,J.set n (.list xs)):=by
 show dz J[n]? _ _=_
 rw[h]
 show((xs++[x]).getLast?.bind fun y=>if bp (xs++[x])then some (y,J.set n (.list (xs++[x]).dropLast))else none)=_
 rw[List.getLast?_concat,List.dropLast_concat,hl];rfl
theorem dX{J:Hp}{n:Nat}{xs:List V}{x:V}(h:J[n]?=some (.list xs))(hl:bp xs=true):aS J "list.append" (.ref n) [x]=some (.none,J.set n (.list (xs++[x]))):=by
 show dz J[n]? _ _=_
 rw[h];exact if_pos hl
theorem nN{t:Bool}{x y:Int}{J:Hp}(h1:aR x=true)(h2:aR y=true):c8 t .Mult (.int x) (.int y) J=some (.int (x*y),J):=by show(if aR x&&aR y then _ else _)=_;rw[h1,h2];rfl
theorem Mq{t:Bool}{x y:Int}{J:Hp}(h1:0<y)(h2:y<1000000000):c8 t .FloorDiv (.int x) (.int y) J=some (.int (x.fdiv y),J):=by show(if decide (0<y)&&decide (y<1000000000)then _ else _)=_;rw[PB h1,PB h2];rfl
theorem KH{t:Bool}{x y:Int}{J:Hp}(h1:0<y):c8 t .Mod (.int x) (.int y) J=some (.int (x.fmod y),J):=by show(if decide (0<y)then _ else _)=_;rw[PB h1];rfl
theorem dC{a b:Int}(h:0<b):0<=a.fmod b/\a.fmod b<b:=⟨Int.fmod_nonneg_of_pos _ h,Int.fmod_lt_of_pos _ h⟩
theorem bd{F:An->Prop}{a:An}{X:Prop}(c:Ch a X)(h:X=F a:=by kernel_rfl):∃a,F a:=⟨a,Eq.mp h c⟩
noncomputable def bQ:Stmt->Expr
 |.For t _ _ _ _=>t
 |_=>.Tuple [] 0 default
noncomputable def cz:Stmt->List Stmt
 |.For _ _ b _ _=>b
 |.While _ b _ _=>b
 |.If _ b _ _=>b
 |_=>[]
noncomputable def mv:Stmt->Expr
 |.While t _ _ _=>t
 |_=>.Tuple [] 0 default
noncomputable def stE:Stmt->Expr
 |.Assign _ e _=>e
 |.Return (some e) _=>e
 |.Expr e _=>e
 |.For _ i _ _ _=>i
 |.If t _ _ _=>t
 |_=>.Tuple [] 0 default
noncomputable def coE:Expr->Expr
 |.ListComp e _ _ _=>e
 |_=>.Tuple [] 0 default
noncomputable def coG:Expr->Comprehension
 |.ListComp _ [g] _ _=>g
 |_=>⟨.Tuple [] 0 default,.Tuple [] 0 default,[],0⟩
noncomputable def Mr(n:Nat):Expr->Expr
 |.Call _ as _ _=>as.getD n (.Tuple [] 0 default)
 |.Tuple es _ _=>es.getD n (.Tuple [] 0 default)
 |.BinOp l _ r _=>if n=0 then l else r
 |.Compare l _ rs _=>if n=0 then l else rs.getD (n-1) (.Tuple [] 0 default)
 |_=>.Tuple [] 0 default
noncomputable def fQ(n:Nat)(ss:List Stmt):Stmt:=ss.getD n (.Pass default)
abbrev KL3:=Fl->Loc->Hp->Prop
noncomputable abbrev gf(asg:V->Loc->Hp->An->KL->Prop)(body:Loc->Hp->An->KF->Prop)(x:V)(loc:Loc)(J:Hp)(f:Fl)(l:Loc)(s:Hp):Prop :=
 ∀k:KL3,k f l s->∃a,asg x loc J a fun loc J a=>body loc J a fun f l s _=>k f l s
section
variable{asg:V->Loc->Hp->An->KL->Prop}{body:Loc->Hp->An->KF->Prop}{test:Loc->Hp->An->(Bool->Hp->An->Prop)->Prop}{elt:Loc->Hp->An->KQ->Prop}{wt:Loc->Hp->An->KQ->Prop}{it:It}{tg:Expr}
theorem BH{N:Nat}(Inv:Nat->Loc->Hp->Prop)(Ret:V->Loc->Hp->Prop){loc:Loc}{J:Hp}
 (h:∀i loc J,i<N->Inv i loc J->bX J it=some N/\∃x f l s,iC J i it=some x/\gf asg body x loc J f l s/\(((f=.next\/f=.cont)/\Inv (i+1) l s)\/∃v,f=.ret v/\Ret v l s))
 (hN:∀loc J,Inv N loc J->bX J it=some N) (hl:bX J it=some N) (ht:pM tg it=true) (I:Inv 0 loc J) :
 (∃l s,Inv N l s/\ge asg body tg it loc J .next l s)\/∃v l s,Ret v l s/\ge asg body tg it loc J (.ret v) l s:=by
 have key:∀(k:Nat) (loc:Loc) (J:Hp),k<=N->Inv (N-k) loc J->(∃l s,Inv N l s/\hU asg body it N (fun f' l' s'=>f'=.next/\l'=l/\s'=s) k loc J)\/∃v l s,Ret v l s/\hU asg body it N (fun f' l' s'=>f'=.ret v/\l'=l/\s'=s) k loc J:=by
  intro k
  induction k with
  |zero=>exact fun loc J _ I=>.inl ⟨loc,J,I,hN loc J I,rfl,rfl,rfl⟩
  |succ k ih =>
   intro loc J hk I
   obtain⟨h1,x,f,l,s,h2,h3,h4⟩:=h _ _ _ (by omega) I
   rcases h4 with⟨hf,I'⟩ | ⟨v,rfl,hr⟩
   . have e:N-(k+1)+1=N-k:=by lia
     rw[e]at I'
     rcases ih l s (Nat.le_of_succ_le ‹_›) I' with⟨l',s',I2,R⟩ | ⟨v,l',s',I2,R⟩
     . refine .inl ⟨l',s',I2,h1,x,?_⟩
       obtain⟨a,h5⟩:=h3 (fun f loc J=>match f with
        |.next=>hU asg body it N (fun f'' l'' s''=>f''=.next/\l''=l'/\s''=s') k loc J
        |.cont=>hU asg body it N (fun f'' l'' s''=>f''=.next/\l''=l'/\s''=s') k loc J
        |.brk=>Fl.next=.next/\loc=l'/\J=s'
        |.ret v=>Fl.ret v=.next/\loc=l'/\J=s') (by rcases hf with rfl | rfl <;> exact R)
       exact⟨a,h2,h5⟩
     . refine .inr ⟨v,l',s',I2,h1,x,?_⟩
       obtain⟨a,h5⟩:=h3 (fun f loc J=>match f with
        |.next=>hU asg body it N (fun f'' l'' s''=>f''=.ret v/\l''=l'/\s''=s') k loc J
        |.cont=>hU asg body it N (fun f'' l'' s''=>f''=.ret v/\l''=l'/\s''=s') k loc J
        |.brk=>Fl.next=.ret v/\loc=l'/\J=s'
        |.ret w=>Fl.ret w=.ret v/\loc=l'/\J=s') (by rcases hf with rfl | rfl <;> exact R)
       exact⟨a,h2,h5⟩
   . refine .inr ⟨v,l,s,hr,h1,x,?_⟩
     obtain⟨a,h5⟩:=h3 (fun f loc J=>match f with
      |.next=>hU asg body it N (fun f'' l'' s''=>f''=.ret v/\l''=l/\s''=s) k loc J
      |.cont=>hU asg body it N (fun f'' l'' s''=>f''=.ret v/\l''=l/\s''=s) k loc J
      |.brk=>Fl.next=.ret v/\loc=l/\J=s
      |.ret w=>Fl.ret w=.ret v/\loc=l/\J=s) ⟨rfl,rfl,rfl⟩
     exact⟨a,h2,h5⟩
 rcases key N loc J (PS _) (by rw[Nat.sub_self];exact I)with⟨l,s,I2,R⟩ | ⟨v,l,s,I2,R⟩
 .exact .inl ⟨l,s,I2,N,hl,ht,R⟩
 .exact .inr ⟨v,l,s,I2,N,hl,ht,R⟩
theorem eZ{N:Nat}(Inv:Nat->Loc->Hp->Prop){loc:Loc}{J:Hp}
 (h:∀i loc J,i<N->Inv i loc J->bX J it=some N/\∃x f l s,iC J i it=some x/\gf asg body x loc J f l s/\(f=.next\/f=.cont)/\Inv (i+1) l s)
 (hN:∀loc J,Inv N loc J->bX J it=some N) (hl:bX J it=some N) (ht:pM tg it=true) (I:Inv 0 loc J):∃l s,Inv N l s/\ge asg body tg it loc J .next l s:=by
 rcases BH (asg:=asg) (body:=body) (tg:=tg) Inv (fun _ _ _=>False) (fun i loc J hi I=>by
  obtain⟨h1,x,f,l,s,h2,h3,h4⟩:=h i loc J hi I
  exact⟨h1,x,f,l,s,h2,h3,.inl h4⟩) hN hl ht I with h | ⟨_,_,_,f,_⟩
 .exact h
 .exact f.elim
noncomputable abbrev uw(asg:V->Loc->Hp->An->KL->Prop)(test:Loc->Hp->An->(Bool->Hp->An->Prop)->Prop)(elt:Loc->Hp->An->KQ->Prop)(x:V)(loc:Loc)(J:Hp)(p:Bool)(y:V)(l:Loc)(s:Hp):Prop :=
 ∀k:Bool->V->Loc->Hp->Prop,k p y l s->∃a,asg x loc J a fun loc J a=>test loc J a fun c J a=>match c with
  |false=>k false .none loc J
  |true=>elt loc J a fun y J _=>k true y loc J
theorem mw{N:Nat}(Inv:Nat->Loc->Hp->List V->Prop){loc:Loc}{J:Hp}{v:V}{t:Bool}(hi:jx J v=some it)(hl:bX J it=some N)
 (h:∀i loc J acc,i<N->Inv i loc J acc->(bX J it=some N/\bp acc=true)/\∃x p y l s,iC J i it=some x/\uw asg test elt x loc J p y l s/\Inv (i+1) l s (cond p (acc++[y]) acc))
 (hN:∀loc J acc,Inv N loc J acc->bX J it=some N/\bp acc=true) (I:Inv 0 loc J []) :
 ∃acc s l,Inv N l s acc/\mn asg test elt t v loc J (bw t acc s).1 (bw t acc s).2:=by
 have key:∀(k:Nat) (loc:Loc) (J:Hp) (acc:List V),k<=N->Inv (N-k) loc J acc->∃acc' s l,Inv N l s acc'/\pP asg test elt it N (fun a J=>bp a=true/\bw t a J=((bw t acc' s).1,(bw t acc' s).2)) k loc J acc:=by
  intro k
  induction k with
  |zero=>exact fun loc J acc _ I=>⟨acc,J,loc,I,(hN loc J acc I).1,(hN loc J acc I).2,rfl⟩
  |succ k ih =>
   intro loc J acc hk I
   obtain⟨h1,x,p,y,l,s,h2,h3,I'⟩:=h _ _ _ _ (by omega) I
   have e:N-(k+1)+1=N-k:=by lia
   rw[e]at I'
   refine aU (ih l s _ (Nat.le_of_succ_le ‹_›) I') ?_;rintro acc' s' l' I2 R
   obtain⟨a,h5⟩:=h3 (fun p y loc J=>pP asg test elt it N (fun a J=>bp a=true/\bw t a J=((bw t acc' s').1,(bw t acc' s').2)) k loc J (cond p (acc++[y]) acc)) R
   exact⟨acc',s',l',I2,h1,x,a,h2,h5⟩
 refine aU (key N loc J [] (PS _) (by rw[Nat.sub_self];exact I)) ?_;rintro acc s l I2 R
 exact⟨acc,s,l,I2,it,N,hi,hl,R⟩
noncomputable abbrev ld(test:Loc->Hp->An->KQ->Prop)(body:Loc->Hp->An->KF->Prop)(loc:Loc)(J:Hp)(c:Bool)(f:Fl)(l:Loc)(s:Hp):Prop :=
 ∀k:Bool->Fl->Loc->Hp->Prop,k c f l s->∃a,test loc J a fun v J a=>qR (bM J v) a (fun a=>body loc J a fun f l s _=>k true f l s) fun _=>k false .next loc J
theorem mx(Inv:Nat->Loc->Hp->Prop)(End:Loc->Hp->Prop)
 (h:∀n loc J,Inv n loc J->∃c f l s,ld wt body loc J c f l s/\((c=false/\f=.next/\End l s)\/(c=true/\(f=.next\/f=.cont)/\∃m,m<n/\Inv m l s))) :
 ∀(n:Nat) (loc:Loc) (J:Hp) (N:Nat),n<N->Inv n loc J->∃l s,End l s/\gJ wt body (fun f' l' s'=>f'=.next/\l'=l/\s'=s) N loc J:=by
 intro n
 induction n using Nat.strongRecOn with
 |_ n ih =>
  intro loc J N hN I
  refine Em (h n loc J I) ?_;rintro c f l s h1 h2
  cases N with
  |zero=>exact absurd ‹_› (Nat.not_lt_zero _)
  |succ N =>
   rcases h2 with⟨rfl,rfl,he⟩ | ⟨rfl,hf,m,hm,I'⟩
   . obtain⟨a,h3⟩:=h1 (fun c f loc J=>match c with
      |false=>Fl.next=.next/\loc=l/\J=s
      |true=>(match f with
       |.next=>gJ wt body (fun f' l' s'=>f'=.next/\l'=l/\s'=s) N loc J
       |.cont=>gJ wt body (fun f' l' s'=>f'=.next/\l'=l/\s'=s) N loc J
       |.brk=>Fl.next=.next/\loc=l/\J=s
       |.ret v=>Fl.ret v=.next/\loc=l/\J=s)) ⟨rfl,rfl,rfl⟩
     exact⟨l,s,he,a,h3⟩
   . refine bu (ih m hm l s N (by lia) I') ?_;rintro l' s' he R
     obtain⟨a,h3⟩:=h1 (fun c f loc J=>match c with
      |false=>Fl.next=.next/\loc=l'/\J=s'
      |true=>(match f with
       |.next=>gJ wt body (fun f' l'' s''=>f'=.next/\l''=l'/\s''=s') N loc J
       |.cont=>gJ wt body (fun f' l'' s''=>f'=.next/\l''=l'/\s''=s') N loc J
       |.brk=>Fl.next=.next/\loc=l'/\J=s'
       |.ret v=>Fl.ret v=.next/\loc=l'/\J=s')) (by rcases hf with rfl | rfl <;> exact R)
     exact⟨l',s',he,a,h3⟩
end
theorem aB{T:Tab}{J:Hp}{c a:Str}{n:Nat}{es:List (Str×V)}{v:V}(cd:cF)(h:J[n]?=some (.dict es))(h3:es.lookup a=some v)(h4:BC v=true)(h1:T.cls.lookup c=some cd:=by kernel_rfl)(h2:cd.attrs.contains a=true:=by kernel_rfl):cG T J (.inst c n) a=some v:=by
 show((T.cls.lookup c).bind fun cd=>dz J[n]? _ _)=_
 rw[h1,h]
 show(if cd.attrs.contains a then _ else _)=_
 rw[h2,h3]
 exact if_pos h4
theorem e7{T:Tab}{J:Hp}{c a:Str}{n:Nat}{es:List (Str×V)}{v:V}(cd:cF)(h:J[n]?=some (.dict es))(h1:T.cls.lookup c=some cd)(h2:cd.attrs.contains a=true)(h3:es.length<900):cH T J (.inst c n) a v=some (J.set n (.dict (d7 a v es))):=by
 show((T.cls.lookup c).bind fun cd=>dz J[n]? _ _)=_
 rw[h1,h]
 show(if cd.attrs.contains a then _ else _)=_
 rw[h2]
 exact if_pos (PB h3)
theorem fT{T:Tab}{J:Hp}{c a:Str}{n:Nat}{es:List (Str×V)}(cd:cF)(h:J[n]?=some (.dict es))(h1:T.cls.lookup c=some cd)(h2:cd.meths.contains a=true)(h3:es.lookup a=none):cg T J (.inst c n) a=some (.fn c):=by
 show((T.cls.lookup c).bind fun cd=>dz J[n]? _ _)=_
 rw[h1,h]
 show(if cd.meths.contains a then _ else _)=_
 rw[h2,h3];rfl
theorem ux{T:Tab}{J:Hp}{n:Nat}{es:List (Str×V)}(h:J[n]?=some (.dict es)):cg T J (.ref n) "get"=some (.bi "dict.get"):=by show dz J[n]? _ _=_;rw[h];rfl
theorem BI{J:Hp}{n:Nat}{es:List (Str×V)}{k:Str}(h:J[n]?=some (.dict es)):aS J "dict.get" (.ref n) [.str k]=some ((es.lookup k).getD .none,J):=by
 show dz J[n]? _ _=_
 rw[h];rfl
theorem qG{J:Hp}{n:Nat}{es:List (Str×V)}{k:Str}(h:J[n]?=some (.dict es)):inI J (.str k) (.ref n)=some (es.lookup k).isSome:=by
 show els (dz J[n]? _ _) _ (dz J[n]? _ _)=_
 rw[h];rfl
theorem my{T:Tab}{mt:Pos->Bool}{d:Nat}{c m:Str}{args:List V}{kw:List (Str×V)}{J s:Hp}{v:V}(h:jO T mt d c m args kw J v s)(h1:fy J.length v=true)(h2:(s.take J.length).all (bT J.length)=true):jO T mt d c m args kw J v (s.take J.length):=by
 cases d with
 |zero=>exact False.elim h
 |succ d =>
  obtain⟨fd,binds,a,s1,e1,e2,e3,g⟩:=h
  refine⟨fd,binds,a,s1,e1,e2,e3,.inr ⟨?_,h1,h2⟩⟩
  rcases g with rfl | ⟨rfl,_,_⟩
  .rfl
  .rw[List.take_take,Nat.min_self]
noncomputable def kOf:Value->Option AK
 |.none=>some Option.none
 |.bool b=>some (some (.inl (if b then 1 else 0)))
 |.int i _=>some (some (.inl i))
 |.str s _=>some (some (.inr s))
 |_=>Option.none
noncomputable def J0(w:World):AK->Int
 |Option.none=>reduceHash 0xFCA86420
 |some (.inl i)=>hashInt i
 |some (.inr s)=>hashStr w s
theorem NW{v w:Value}{a b:AK}{A:Around}{s:Shared}(ha:kOf v=some a)(hb:kOf w=some b):EqAt A s v w (decide (a=b)):=by
 have no:∀ {i:Int}{x:Str},decide ((some (.inl i):AK)=some (.inr x))=false:=P6 (fun e=>nomatch e)
 have no':∀ {i:Int}{x:Str},decide ((some (.inr x):AK)=some (.inl i))=false:=P6 (fun e=>nomatch e)
 have ii:∀ {i j:Int},decide ((some (.inl i):AK)=some (.inl j))=(i==j):=by
  intro i j;rw[Bool.eq_iff_iff,decide_eq_true_iff,P4,Option.some_inj,Sum.inl.injEq]
 have ss:∀ {i j:Str},decide ((some (.inr i):AK)=some (.inr j))=(i==j):=by
  intro i j;rw[Bool.eq_iff_iff,decide_eq_true_iff,P4,Option.some_inj,Sum.inr.injEq]
 cases v with
 |none =>
  cases ha
  cases w with
  |none=>cases hb;exact .same _
  |bool y=>cases hb;exact .none_bool y
  |int y u=>cases hb;exact .none_int y u
  |str y u=>cases hb;exact .none_str y u
  |_=>exact nomatch hb
 |bool x =>
  cases ha
  cases w with
  |none=>cases hb;exact .bool_none x
  |bool y=>cases hb;rw[ii];cases x <;> cases y <;> exact EqAt.bool_bool _ _
  |int y u=>cases hb;rw[ii];exact .bool_int x y u
  |str y u=>cases hb;rw[no];exact .bool_str x y u
  |_=>exact nomatch hb
 |int x t =>
  cases ha
  cases w with
  |none=>cases hb;exact .int_none x t
  |bool y=>cases hb;rw[ii];exact .int_bool x t y
  |int y u=>cases hb;rw[ii];exact .int_int x t y u
  |str y u=>cases hb;rw[no];exact .int_str x t y u
  |_=>exact nomatch hb
 |str x t =>
  cases ha
  cases w with
  |none=>cases hb;exact .str_none x t
  |bool y=>cases hb;rw[no'];exact .str_bool x t y
  |int y u=>cases hb;rw[no'];exact .str_int x t y u
  |str y u=>cases hb;rw[ss];exact .str_str x t y u
  |_=>exact nomatch hb
 |_=>exact nomatch ha
theorem KI{prog:Program}{w:World}{A:Around}{E:Value->Shared->Prop}{s:Shared}{k:AK}{v:Value}{Q:Int->Shared->Prop}(h:kOf v=some k)(q:Q (J0 w k) { s with toks:=s.toks+1}):wpAny (model prog w) A (PySem.pyHash v) Q E s:=by
 cases v with
 |none =>
  cases h
  exact pyHash_slot (T:="NoneType") rfl F.slot_NoneType_hash F.entry_NoneType_hash (F.args_NoneType_hash_1 _) (beq_builtin_none _) (.inl rfl) (PE (P3 (PE (wpAny_mkInt (P3 ⟨_,_,rfl,q⟩)))))
 |bool b =>
  cases h
  refine pyHash_slot (T:="bool") rfl F.slot_bool_hash entry_int_hash (args_int_hash _) (beq_builtin_none _) (.inl rfl) ?_
  cases b
  .exact(show wpAny _ _ (do ret (<- mkInt 0)) _ _ s from PE (wpAny_mkInt (P3 ⟨_,_,rfl,q⟩)))
  .exact(show wpAny _ _ (do ret (<- mkInt 1)) _ _ s from PE (wpAny_mkInt (P3 ⟨_,_,rfl,q⟩)))
 |int i t=>cases h;exact wpAny_pyHash_int q
 |str i t=>cases h;exact wpAny_pyHash_str q
 |_=>exact nomatch h
def J6(prog:Program)(w:World):KeyKind prog w AK where
 is:=fun k v=>decide (kOf v=some k)
 hash:=J0 w
 inj:=fun v a b ha hb=>Pz ((PP ha).symm.trans (PP hb))
 byValue:=fun k v h=>by
  have h:=PP h
  cases v <;> first | rfl | exact nomatch h
 pyHash:=fun h q=>KI (PP h) q
 eqBool:=fun ha hb q=>NW (PP ha) (PP hb) _ _ _ _ q
 «strs»:=fun k x t v h=>by
  have h:=PP h
  cases h
  cases v with
  |str y u =>
   refine Bool.eq_iff_iff.mpr ⟨fun q=>?_,fun q=>?_⟩
   . have q:some (some (Sum.inr y))=some (some (Sum.inr x):AK):=PP q
     exact P4.mpr (Sum.inr.inj (Pz (Pz q)))
   .exact PB (PI (fun z=>some (some (Sum.inr z):AK)) (P4.mp q))
  |_=>exact P6 (fun e=>nomatch e)
abbrev tK(prog:Program)(w:World):HeapKind prog w (List AK):=tupleKind (J6 prog w)
theorem bE{α β:Type}{P:Prop}{x:Option α}{f:α->Option β}{r:β}(h:x.bind f=some r)(k:∀a,x=some a->f a=some r->P):P:=by
 cases x with
 |none=>cases h
 |some a=>exact k a rfl h
theorem ax{α:Type}{P:Prop}{x:α}(h:Option.none=some x):P:=by cases h
theorem mE{α β:Type}{P:Prop}{x:Option α}{f:α->β}{r:β}(h:x.map f=some r)(k:∀a,x=some a->f a=r->P):P:=by
 cases x with
 |none=>cases h
 |some a=>exact k a rfl (Pz h)
theorem ifE{β:Type}{P:Prop}{c:Prop}[Decidable c]{x:Option β}{r:β}(h:(if c then x else Option.none)=some r)(k:c->x=some r->P):P:=by
 by_cases hc:c
 .rw[if_pos hc]at h;exact k hc h
 .rw[if_neg hc]at h;exact ax h
theorem jy{γ β:Type}[BEq γ][LawfulBEq γ]{P:Prop}{a b:γ}{x y:Option β}{r:β}(h:(if a==b then x else y)=some r)(k1:a=b->x=some r->P)(k2:y=some r->P):P:=by
 by_cases hc:a==b
 .rw[if_pos hc]at h;exact k1 (P4.mp hc) h
 .rw[if_neg hc]at h;exact k2 h
theorem lC{α β:Type}{P:Prop}{o:Option α}{f:α->Option β}{g:Option β}{r:β}(h:els o f g=some r)(k1:∀a,o=some a->f a=some r->P)(k2:o=Option.none->g=some r->P):P:=by
 cases o with
 |none=>exact k2 rfl h
 |some a=>exact k1 a rfl h
theorem jQ{args:List V}{x:V}(h:tm args=some x):args=[x]:=by
 cases args with
 |nil=>exact ax h
 |cons y r=>cases r with
  |nil=>exact PI (fun z=>[z]) (Pz h)
  |cons _ _=>exact ax h
theorem xG{args:List V}{p:V×V}(h:Cz args=some p):args=[p.1,p.2]:=by
 cases args with
 |nil=>exact ax h
 |cons y r=>cases r with
  |nil=>exact ax h
  |cons z r=>cases r with
   |nil=>exact PI (fun z:V×V=>[z.1,z.2]) (Pz h)
   |cons _ _=>exact ax h
inductive ag{α β:Type}(R:α->β->Prop):List α->List β->Prop where
 |nil:ag R [] []
 |cons {x y xs ys}:R x y->ag R xs ys->ag R (x::xs) (y::ys)
namespace ag
variable{α β:Type}{R R':α->β->Prop}{xs xs':List α}{ys ys':List β}
theorem length(t:ag R xs ys):xs.length=ys.length:=by
 induction t with
 |nil=>rfl
 |cons _ _ ih=>exact PI (· + 1) ih
theorem mono(h:∀x y,R x y->R' x y)(t:ag R xs ys):ag R' xs ys:=by
 induction t with
 |nil=>exact .nil
 |cons a _ ih=>exact .cons (h _ _ a) ih
theorem append(t:ag R xs ys)(k:ag R xs' ys'):ag R (xs++xs') (ys++ys'):=by
 induction t with
 |nil=>exact k
 |cons a _ ih=>exact .cons a ih
theorem get{i:Nat}{x:α}(t:ag R xs ys)(e:xs[i]?=some x):∃y,ys[i]?=some y/\R x y:=by
 induction t generalizing i with
 |nil=>exact nomatch e
 |cons a _ ih=>cases i with
  |zero=>exact⟨_,rfl,Pz e▸a⟩
  |succ i=>exact ih e
theorem flip(t:ag R xs ys):ag (fun y x=>R x y) ys xs:=by
 induction t with
 |nil=>exact .nil
 |cons a _ ih=>exact .cons a ih
theorem get'{i:Nat}{y:β}(t:ag R xs ys)(e:ys[i]?=some y):∃x,xs[i]?=some x/\R x y:=t.flip.get e
theorem set{x:α}{y:β}(i:Nat)(t:ag R xs ys)(h:R x y):ag R (xs.set i x) (ys.set i y):=by
 induction t generalizing i with
 |nil=>exact .nil
 |cons a t ih=>cases i with
  |zero=>exact .cons h t
  |succ i=>exact .cons a (ih i)
theorem take(i:Nat)(t:ag R xs ys):ag R (xs.take i) (ys.take i):=by
 induction t generalizing i with
 |nil=>rw[List.take_nil,List.take_nil];exact .nil
 |cons a t ih=>cases i with
  |zero=>exact .nil
  |succ i=>exact .cons a (ih i)
theorem drop(i:Nat)(t:ag R xs ys):ag R (xs.drop i) (ys.drop i):=by
 induction t generalizing i with
 |nil=>rw[List.drop_nil,List.drop_nil];exact .nil
 |cons a t ih=>cases i with
  |zero=>exact .cons a t
  |succ i=>exact ih i
theorem reverse(t:ag R xs ys):ag R xs.reverse ys.reverse:=by
 induction t with
 |nil=>exact .nil
 |cons a _ ih=>rw[List.reverse_cons,List.reverse_cons];exact ih.append (.cons a .nil)
theorem replicate(h:ag R xs ys)(n:Nat):ag R (List.replicate n xs).flatten (List.replicate n ys).flatten:=by
 induction n with
 |zero=>exact .nil
 |succ n ih=>rw[List.replicate_succ,List.replicate_succ,List.flatten_cons,List.flatten_cons];exact h.append ih
theorem dropLast(h:ag R xs ys):ag R xs.dropLast ys.dropLast:=by
 rw[List.dropLast_eq_take,List.dropLast_eq_take,h.length];exact h.take _
theorem mem(h:ag R xs ys){y:β}(hy:y∈ys):∃x∈xs,R x y:=by
 obtain⟨i,hi⟩:=List.getElem?_of_mem hy
 refine ae (h.get' hi) ?_;rintro x h1 h2
 exact⟨x,List.mem_of_getElem? h1,h2⟩
theorem no(h:ag R [] ys){G:List β->Prop}(g:G []):G ys:=by
 cases h;exact g
theorem un{x:α}(h:ag R (x::xs) ys){G:List β->Prop}(g:∀y ys,R x y->ag R xs ys->G (y::ys)):G ys:=by
 cases h with | cons a t=>exact g _ _ a t
theorem one{x:α}(h:ag R [x] ys){G:List β->Prop}(g:∀y,R x y->G [y]):G ys:=h.un fun y _ r t=>t.no (G:=fun ys=>G (y::ys)) (g y r)
theorem two{x y:α}(h:ag R [x,y] ys){G:List β->Prop}(g:∀a b,R x a->R y b->G [a,b]):G ys:=h.un fun a _ r t=>t.one (G:=fun ys=>G (a::ys)) fun b q=>g a b r q
end ag
structure Ctx where
 prog:Program
 w:World
 K:Frag
 h₀:Heap
 mg:Str->Option Value
 mb:Str->Option Value
 clA:Str->Option Addr
 fnA:Str->Str->Option Addr
 Z₀:List (Addr×Obj)
structure aT(C:Ctx):Prop where
 g:C.h₀.Ns mainGlobals C.mg
 b:C.h₀.Ns builtinsNs C.mb
 nolimit:C.h₀.NoLimit
 builtins:∀x:Str,x ≠ "__name__" -> C.mb x=bootBuiltins x
 kin:C.K.In C.h₀
structure Map where
 am:List Addr
 Z:List (Addr×Obj)
noncomputable abbrev ju(its:Array Value)(n:Nat):Obj:={ cls:=.type "tuple",data:=.seq its n}
noncomputable abbrev gM(es:List DictEntry)(n:Nat):Obj:={ cls:=.type "dict",data:=.dict es.toArray n}
noncomputable def J7(o:Obj)(a b:Int):Prop:=∃t u v:Tok,o={ cls:=.type "range",data:=.fields #[.int a t,.int b u,.int 1 v]}
noncomputable def lD(s:Str)(v:Value):Prop:=∃t,v=.str s t
noncomputable def lE(Z:List (Addr×Obj))(l:List Str)(v:Value):Prop:=∃b vals n,v=.ref b/\(b,ju vals n)∈Z/\ag lD l vals.toList
noncomputable def zy(C:Ctx)(Z:List (Addr×Obj))(p:Str×List Str)(e:DictEntry):Prop:=e.hash=PyData.keyHash C.w.params p.1/\lD p.1 e.key/\lE Z p.2 e.val
mutual
noncomputable def ac(C:Ctx)(O:Map):V->Value->Prop
 |.none,v=>v=.none
 |.bool b,v=>v=.bool b
 |.int i,v=>∃t,v=.int i t
 |.str s,v=>∃t,v=.str s t
 |.tup xs,v=>∃a vals n,v=.ref a/\(a,ju vals n)∈O.Z/\VRelL C O xs vals.toList
 |.lst xs,v=>∃a vals n,v=.ref a/\(a,listOf vals n)∈O.Z/\VRelL C O xs vals.toList
 |.rng a b,v=>∃x o,v=.ref x/\(x,o)∈O.Z/\J7 o a b
 |.ref n,v=>∃a,v=.ref a/\O.am[n]?=some a
 |.inst c n,v=>∃x dx K,v=.ref x/\C.clA c=some K/\(x,instObj K dx)∈O.Z/\O.am[n]?=some dx
 |.fn c m,v=>∃a,v=.ref a/\C.fnA c m=some a
 |.cls c,v=>∃a,v=.ref a/\C.clA c=some a
 |.bi id,v=>v=.builtin id
 |.ty T,v=>v=.type T
 |.jd es,v=>∃a ents n,v=.ref a/\a≠sysModules/\(a,gM ents n)∈O.Z/\ag (zy C O.Z) es ents
noncomputable def VRelL(C:Ctx)(O:Map):List V->List Value->Prop
 |[],vs=>vs=[]
 |x::xs,vs=>∃v r,vs=v::r/\ac C O x v/\VRelL C O xs r
end
theorem aL{C:Ctx}{O:Map}:∀ {xs:List V}{vs:List Value},VRelL C O xs vs↔ag (ac C O) xs vs
 |[],vs=>by
  constructor
  .intro h;cases(show vs=[]from h);exact .nil
  . intro h
    cases h
    rfl
 |x::xs,vs=>by
  show(∃_ _,_/\_/\_)↔_
  constructor
  .rintro⟨v,r,rfl,h1,h2⟩;exact .cons h1 (aL.mp h2)
  .intro h;cases h with | cons h1 h2=>exact⟨_,_,rfl,h1,aL.mpr h2⟩
structure Map.Le(O O':Map):Prop where
 pre:∃t,O'.am=O.am++t
 sub:∀p∈O.Z,p∈O'.Z
theorem Map.Le.refl(O:Map):O.Le O:=⟨⟨[],by simp⟩,fun _ h=>h⟩
theorem Map.Le.trans{a b c:Map}(h:a.Le b)(k:b.Le c):a.Le c:=by
 obtain⟨⟨t,ht⟩,hs⟩:=h
 obtain⟨⟨u,hu⟩,ks⟩:=k
 exact⟨⟨t++u,by rw[hu,ht,Pw]⟩,fun p hp=>ks p (hs p hp)⟩
theorem Map.Le.get{O O':Map}(h:O.Le O'){n:Nat}{a:Addr}(e:O.am[n]?=some a):O'.am[n]?=some a:=by
 obtain⟨t,ht⟩:=h.pre
 rw[ht]
 have:n<O.am.length:=(PD.mp e).1
 rw[PN this];exact e
theorem Map.Le.mem{O O':Map}(h:O.Le O'){a:Addr}(e:a∈O.am):a∈O'.am:=by
 obtain⟨t,ht⟩:=h.pre
 rw[ht];exact List.mem_append_left _ e
theorem lE.mono{Z Z':List (Addr×Obj)}(h:∀p∈Z,p∈Z'){l:List Str}{v:Value}:lE Z l v->lE Z' l v:=fun⟨b,vals,n,e,m,r⟩=>⟨b,vals,n,e,h _ m,r⟩
mutual
theorem ac.mono{C:Ctx}{O O':Map}(h:O.Le O'):∀(x:V) {v:Value},ac C O x v->ac C O' x v
 |.none,_,r=>r
 |.bool _,_,r=>r
 |.int _,_,r=>r
 |.str _,_,r=>r
 |.tup xs,_,r=>by
  show ∃_ _ _,_/\_/\_
  refine bg (r) ?_;rintro a vals n e m t
  exact⟨a,vals,n,e,h.sub _ m,VRelL.mono h xs t⟩
 |.lst xs,_,r=>by
  show ∃_ _ _,_/\_/\_
  refine bg (r) ?_;rintro a vals n e m t
  exact⟨a,vals,n,e,h.sub _ m,VRelL.mono h xs t⟩
 |.rng _ _,_,r=>by
  show ∃_ _,_/\_/\_
  refine cQ (r) ?_;rintro a o e m t
  exact⟨a,o,e,h.sub _ m,t⟩
 |.ref _,_,r=>by
  show ∃_,_/\_
  refine ae (r) ?_;rintro a e m
  exact⟨a,e,h.get m⟩
 |.inst _ _,_,r=>by
  show ∃_ _ _,_/\_/\_/\_
  refine fR (r) ?_;rintro a dx K e k m t
  exact⟨a,dx,K,e,k,h.sub _ m,h.get t⟩
 |.fn _ _,_,r=>r
 |.cls _,_,r=>r
 |.bi _,_,r=>r
 |.ty _,_,r=>r
 |.jd _,_,r=>by
  show ∃_ _ _,_/\_/\_/\_
  refine fR (r) ?_;rintro a ents n e lo m t
  exact⟨a,ents,n,e,lo,h.sub _ m,t.mono fun p e ⟨h1,h2,h3⟩=>⟨h1,h2,h3.mono h.sub⟩⟩
theorem VRelL.mono{C:Ctx}{O O':Map}(h:O.Le O'):∀(xs:List V) {vs:List Value},VRelL C O xs vs->VRelL C O' xs vs
 |[],_,r=>r
 |x::xs,_,r=>by
  show ∃_ _,_/\_/\_
  refine cQ (r) ?_;rintro v q e m t
  exact⟨v,q,e,ac.mono h x m,VRelL.mono h xs t⟩
end
theorem cE{C:Ctx}{O O':Map}(h:O.Le O'){xs:List V}{vs:List Value}(r:ag (ac C O) xs vs):ag (ac C O') xs vs:=r.mono fun x _=>ac.mono h x
noncomputable def fo(C:Ctx)(O:Map)(p:Str×V)(e:DictEntry):Prop:=e.hash=PyData.keyHash C.w.params p.1/\lD p.1 e.key/\ac C O p.2 e.val
noncomputable abbrev tkC(C:Ctx):HeapKind C.prog C.w (List AK):=tK C.prog C.w
noncomputable def ic(C:Ctx)(O:Map)(p:V×V)(x:List AK×Addr×Value):Prop:=lA p.1=some x.1/\ac C O p.1 (.ref x.2.1)/\ac C O p.2 x.2.2
noncomputable def mz(C:Ctx)(O:Map)(c:ab)(o:Obj):Prop:=match c with
 |.list xs=>∃vals n,o=listOf vals n/\ag (ac C O) xs vals.toList
 |.dict es=>∃ents n,o=gM ents n/\ag (fo C O) es ents/\(es.map (·.1)).Nodup
 |.tdict es=>∃xs n,o=gM (xs.map (entryOfKey (tkC C))) n/\ag (ic C O) es xs/\(xs.map (·.1)).Nodup
theorem mz.mono{C:Ctx}{O O':Map}(h:O.Le O'){c:ab}{o:Obj}(r:mz C O c o):mz C O' c o:=by
 cases c with
 |list xs=>refine bu (r) ?_;rintro vals n e t;exact⟨vals,n,e,cE h t⟩
 |dict es=>refine cQ (r) ?_;rintro vals n e t q;exact⟨vals,n,e,t.mono fun p e ⟨h1,h2,h3⟩=>⟨h1,h2,ac.mono h _ h3⟩,q⟩
 |tdict es=>refine cQ (r) ?_;rintro vals n e t q;exact⟨vals,n,e,t.mono fun p e h1=>⟨h1.1,ac.mono h _ h1.2.1,ac.mono h _ h1.2.2⟩,q⟩
theorem mz.notFreed{C:Ctx}{O:Map}{c:ab}{o:Obj}(r:mz C O c o):o.isFreed=false:=by
 cases c with
 |list xs=>refine bu (r) ?_;rintro vals n e t;subst e;rfl
 |dict es=>refine bu (r) ?_;rintro vals n e t;subst e;rfl
 |tdict es=>refine bu (r) ?_;rintro vals n e t;subst e;rfl
structure ap(C:Ctx)(O:Map)(J:Hp)(h:Heap):Prop where
 base:∀b o,C.h₀.get? b=some o->h.get? b=some o
 len:O.am.length=J.length
 fresh:∀a∈O.am,C.h₀.get? a=none
 nodup:O.am.Nodup
 low:∀a∈O.am,a≠sysModules
 z₀:∀p∈C.Z₀,p∈O.Z
 z:∀p∈O.Z,h.get? p.1=some p.2
 zam:∀p∈O.Z,p.1∉O.am
 cell:∀(n:Nat) (c:ab) (a:Addr),J[n]?=some c->O.am[n]?=some a->∃o,h.get? a=some o/\mz C O c o
structure al(O O':Map)(s s':Shared):Prop where
 le:O.Le O'
 keep:∀b o,b∉O.am->s.heap.get? b=some o->s'.heap.get? b=some o
 new:∀a∈O'.am,a∉O.am->s.heap.get? a=none
 newZ:∀p∈O'.Z,p∈O.Z\/(p.1∉O.am->s.heap.get? p.1=none)
 same:∃h tk,s'={ s with heap:=h,toks:=tk}
theorem al.refl(O:Map)(s:Shared):al O O s s:=⟨.refl _,fun _ _ _ e=>e,fun _ h k=>absurd h k,fun _ h=>.inl h,⟨s.heap,s.toks,rfl⟩⟩
theorem al.trans{a b c:Map}{s s' s'':Shared}(h:al a b s s')(k:al b c s' s''):al a c s s'':=by
 refine⟨h.le.trans k.le,fun x o hx e=>k.keep x o (fun hb=>?_) (h.keep x o hx e),fun x hx na=>?_,fun p hp=>?_,?_⟩
 .have:=h.new x hb hx;rw[e]at this;cases this
 . by_cases hb:x∈b.am
   .exact h.new x hb na
   . cases q:s.heap.get? x with
     |none=>rfl
     |some o=>have:=k.new x hx hb;rw[h.keep x o na q]at this;cases this
 . rcases k.newZ p hp with hp | hp
   .exact h.newZ p hp
   . refine .inr fun na=>?_
     by_cases hb:p.1∈b.am
     .exact h.new _ hb na
     . cases q:s.heap.get? p.1 with
       |none=>rfl
       |some o=>have:=hp hb;rw[h.keep _ o na q]at this;cases this
 . refine gK (h.same) ?_;rintro h1 t1 rfl
   refine gK (k.same) ?_;rintro h2 t2 rfl
   exact⟨h2,t2,rfl⟩
theorem al.toks(O:Map)(s:Shared)(t:Nat):al O O s { s with toks:=t}:=⟨.refl _,fun _ _ _ e=>e,fun _ h k=>absurd h k,fun _ h=>.inl h,⟨s.heap,t,rfl⟩⟩
section
variable{C:Ctx}{O O':Map}{J J':Hp}{h h':Heap}{s s':Shared}
theorem ap.at(I:ap C O J h)(k:∀b o,h.get? b=some o->h'.get? b=some o):ap C O J h' :=
 ⟨fun b o e=>k b o (I.base b o e),I.len,I.fresh,I.nodup,I.low,I.z₀,fun p hp=>k _ _ (I.z p hp),I.zam,fun n c a e1 e2=>by refine ae (I.cell n c a e1 e2) ?_;rintro o ho r;exact⟨o,k _ _ ho,r⟩⟩
theorem al.at(k:∀b o,s.heap.get? b=some o->h'.get? b=some o){t:Nat}:al O O s { s with heap:=h',toks:=t} :=
 ⟨.refl _,fun b o _ e=>k b o e,fun _ h k=>absurd h k,fun _ h=>.inl h,⟨h',t,rfl⟩⟩
theorem ap.lt(I:ap C O J h){a:Addr}(ha:a∈O.am):a<h.objs.size:=by
 obtain⟨n,hn⟩:=List.getElem?_of_mem ha
 have hl:n<J.length:=I.len▸(PD.mp hn).1
 refine ae (I.cell n J[n] a (by simp[hl]) hn) ?_;rintro o ho _
 exact Heap.lt_size ho
theorem ap.frozen(I:ap C O J h){o:Obj}(hf:o.isFreed=false:=by rfl):ap C ⟨O.am,(h.objs.size,o)::O.Z⟩ J (h.push o):=by
 have le:O.Le ⟨O.am,(h.objs.size,o)::O.Z⟩:=⟨⟨[],by simp⟩,fun p hp=>.tail _ hp⟩
 refine⟨fun b x e=>Heap.get?_push_of_some _ (I.base b x e),I.len,I.fresh,I.nodup,I.low,fun p hp=>.tail _ (I.z₀ p hp),fun p hp=>?_,fun p hp=>?_,fun n c a e1 e2=>?_⟩
 . rcases PZ.mp hp with rfl | hp
   .exact Heap.get?_push_size _ hf
   .exact Heap.get?_push_of_some _ (I.z p hp)
 . rcases PZ.mp hp with rfl | hp
   .intro ha;exact absurd (I.lt ha) (Nat.lt_irrefl _)
   .exact I.zam p hp
 . refine ae (I.cell n c a e1 e2) ?_;rintro o' ho r
   exact⟨o',Heap.get?_push_of_some _ ho,r.mono le⟩
theorem gg(h:Heap):h.get? h.objs.size=none:=by
 cases q:h.get? h.objs.size with
 |none=>rfl
 |some o'=>exact absurd (Heap.lt_size q) (Nat.lt_irrefl _)
theorem al.frozen{o x:Obj}{t:Nat}:al O ⟨O.am,(s.heap.objs.size,x)::O.Z⟩ s { s with heap:=s.heap.push o,toks:=t} :=
 ⟨⟨⟨[],by simp⟩,fun p hp=>.tail _ hp⟩,fun b x _ e=>Heap.get?_push_of_some _ e,fun _ h k=>absurd h k,fun p hp=>by
  rcases PZ.mp hp with rfl | hp
  .exact .inr fun _=>gg _
  .exact .inl hp,⟨_,t,rfl⟩⟩
theorem ap.track(K:aT C)(I:ap C O J h){o:Obj}{c:ab}(r:mz C O c o):ap C ⟨O.am++[h.objs.size],O.Z⟩ (J++[c]) (h.push o):=by
 have le:O.Le ⟨O.am++[h.objs.size],O.Z⟩:=⟨⟨_,rfl⟩,fun p hp=>hp⟩
 refine⟨fun b x e=>Heap.get?_push_of_some _ (I.base b x e),by simp[I.len],fun a ha=>?_,?_,fun a ha=>?_,I.z₀,fun p hp=>Heap.get?_push_of_some _ (I.z p hp),fun p hp ha=>?_,fun n c' a e1 e2=>?_⟩
 . rcases PY.mp ha with ha | ha
   .exact I.fresh a ha
   . rw[PH.mp ha]
     cases q:C.h₀.get? h.objs.size with
     |none=>rfl
     |some o'=>exact absurd (Heap.lt_size (I.base _ _ q)) (Nat.lt_irrefl _)
 . refine List.nodup_append.mpr ⟨I.nodup,by simp,fun a ha b hb=>?_⟩
   rw[PH.mp hb]
   intro e;subst e
   exact absurd (I.lt ha) (Nat.lt_irrefl _)
 . rcases PY.mp ha with ha | ha
   .exact I.low a ha
   . rw[PH.mp ha]
     refine ae (K.nolimit) ?_;rintro _ hn _
     refine aU (hn) ?_;rintro o' _ _ ho' _
     have:=Heap.lt_size (I.base _ _ ho')
     exact Nat.ne_of_gt (Nat.lt_trans (by decide) this)
 . rcases PY.mp ha with ha | ha
   .exact I.zam p hp ha
   . have:=Heap.lt_size (I.z p hp)
     rw[PH.mp ha]at this
     exact Nat.lt_irrefl _ this
 . by_cases hn:n<J.length
   . rw[PN hn]at e1
     rw[PN (by rw[I.len];exact hn)]at e2
     refine ae (I.cell n c' a e1 e2) ?_;rintro o' ho r'
     exact⟨o',Heap.get?_push_of_some _ ho,r'.mono le⟩
   . have e:n=J.length:=by
      have:=(PD.mp e1).1
      simp at this;lia
     subst e
     simp at e1;subst e1
     rw[<- I.len]at e2
     simp at e2;subst e2
     exact⟨o,Heap.get?_push_size _ r.notFreed,r.mono le⟩
theorem al.track(I:ap C O J s.heap){o:Obj}{t:Nat}:al O ⟨O.am++[s.heap.objs.size],O.Z⟩ s { s with heap:=s.heap.push o,toks:=t} :=
 ⟨⟨⟨_,rfl⟩,fun p hp=>hp⟩,fun b x _ e=>Heap.get?_push_of_some _ e,fun a ha k=>by
  rcases PY.mp ha with ha | ha
  .exact absurd ha k
  . rw[PH.mp ha]
    cases q:s.heap.get? s.heap.objs.size with
    |none=>rfl
    |some o'=>exact absurd (Heap.lt_size q) (Nat.lt_irrefl _),fun _ h=>.inl h,⟨_,t,rfl⟩⟩
theorem ap.turn(I:ap C O J h){n:Nat}{a:Addr}{c:ab}{o:Obj}(ha:O.am[n]?=some a)(hs:∀b,b≠a->∀x,h.get? b=some x->h'.get? b=some x)(ho:h'.get? a=some o)(r:mz C O c o):ap C O (J.set n c) h':=by
 have hm:a∈O.am:=List.mem_of_getElem? ha
 refine⟨fun b x e=>hs b (fun q=>?_) x (I.base b x e),by simp[I.len],I.fresh,I.nodup,I.low,I.z₀,fun p hp=>hs _ (fun q=>I.zam p hp (by rw[q];exact hm)) _ (I.z p hp),I.zam,fun k c' b e1 e2=>?_⟩
 .subst q;rw[I.fresh b hm]at e;cases e
 . by_cases hk:k=n
   . subst hk
     rw[ha]at e2;cases e2
     have hl:k<J.length:=I.len▸(PD.mp ha).1
     rw[List.getElem?_set_self hl]at e1
     cases e1
     exact⟨o,ho,r⟩
   . rw[List.getElem?_set_ne (Ne.symm hk)]at e1
     refine ae (I.cell k c' b e1 e2) ?_;rintro o' ho' r'
     refine⟨o',hs b (fun q=>?_) _ ho',r'⟩
     subst q
     have l1:=(PD.mp ha).1
     have l2:=(PD.mp e2).1
     have:=(List.getElem_inj (i:=k) (j:=n) (h₀:=l2) (h₁:=l1) I.nodup).mp (by rw[(PD.mp ha).2,(PD.mp e2).2])
     exact hk this
theorem al.turn{n:Nat}{a:Addr}{t:Nat}(ha:O.am[n]?=some a)(hs:∀b,b≠a->∀x,s.heap.get? b=some x->h'.get? b=some x):al O O s { s with heap:=h',toks:=t} :=
 ⟨.refl _,fun b o hb e=>hs b (fun q=>hb (q▸List.mem_of_getElem? ha)) o e,fun _ h k=>absurd h k,fun _ h=>.inl h,⟨h',t,rfl⟩⟩
noncomputable def eL(C:Ctx)(O:Map)(s:Shared)(J':Hp)(r:V)(Q:Value->Shared->Prop):Prop:=∀O' s' v,al O O' s s'->ap C O' J' s'.heap->ac C O' r v->Q v s'
theorem eL.at{C:Ctx}{O:Map}{s:Shared}{J' J1:Hp}{r r1:V}{Q:Value->Shared->Prop}(P:eL C O s J' r Q)(h:some (r1,J1)=some (r,J')):eL C O s J1 r1 Q:=by cases h;exact P
theorem eL.after{Q:Value->Shared->Prop}{r:V}(R:al O O' s s')(P:eL C O s J' r Q):eL C O' s' J' r Q:=fun O'' s'' v R' I' r'=>P O'' s'' v (R.trans R') I' r'
theorem eL.here{Q:Value->Shared->Prop}{r:V}{v:Value}(P:eL C O s J r Q)(I:ap C O J s.heap)(h:ac C O r v):Q v s:=P O s v (.refl _ _) I h
theorem eL.tok{Q:Value->Shared->Prop}{r:V}{v:Value}(P:eL C O s J r Q)(I:ap C O J s.heap)(t:Nat)(h:ac C O r v):Q v { s with toks:=t}:=P O _ v (.toks _ _ _) I h
structure tp(A:Around)(d:Nat):Prop where
 handled:A.handled=none
 depth:A.depth+8*d+8<=recursionLimit
 units:A.units+64*d+256<=cLine
end
section
variable{C:Ctx}{O:Map}{J:Hp}{s:Shared}{v:V}{val:Value}{G:Value->Prop}
theorem vNo:ac C O .none .none:=by simp only[ac]
theorem vBl{b:Bool}:ac C O (.bool b) (.bool b):=by simp only[ac]
theorem vIn{i:Int}{t:Tok}:ac C O (.int i) (.int i t):=by simp only[ac];exact⟨t,rfl⟩
theorem vSt{x:Str}{t:Tok}:ac C O (.str x) (.str x t):=by simp only[ac];exact⟨t,rfl⟩
theorem elI{i:Int}(r:ac C O (.int i) val)(g:∀t,G (.int i t)):G val:=by
 simp only[ac]at r;obtain⟨t,rfl⟩:=r;exact g t
theorem elS{x:Str}(r:ac C O (.str x) val)(g:∀t,G (.str x t)):G val:=by
 simp only[ac]at r;obtain⟨t,rfl⟩:=r;exact g t
theorem elT{xs:List V}(r:ac C O (.tup xs) val)(g:∀a vals n,(a,ju vals n)∈O.Z->ag (ac C O) xs vals.toList->G (.ref a)):G val:=by
 simp only[ac]at r;refine bg (r) ?_;rintro a vals n rfl m t;exact g a vals n m (aL.mp t)
theorem elL{xs:List V}(r:ac C O (.lst xs) val)(g:∀a vals n,(a,listOf vals n)∈O.Z->ag (ac C O) xs vals.toList->G (.ref a)):G val:=by
 simp only[ac]at r;refine bg (r) ?_;rintro a vals n rfl m t;exact g a vals n m (aL.mp t)
theorem elR{n:Nat}(r:ac C O (.ref n) val)(g:∀a,O.am[n]?=some a->G (.ref a)):G val:=by
 simp only[ac]at r;refine ae (r) ?_;rintro a rfl ha;exact g a ha
theorem elN(r:ac C O .none val)(g:G .none):G val:=by
 simp only[ac]at r;subst r;exact g
theorem elB{b:Bool}(r:ac C O (.bool b) val)(g:G (.bool b)):G val:=by
 simp only[ac]at r;subst r;exact g
theorem KJ(e:isN v=true):v=.none:=by
 cases v with
 |none=>rfl
 |_=>exact nomatch e
theorem KK{i:Int}(e:asI v=some i):v=.int i:=by
 cases v with
 |int j=>exact PI V.int (Pz e)
 |_=>exact ax e
theorem KM{x:Str}(e:asS v=some x):v=.str x:=by
 cases v with
 |str j=>exact PI V.str (Pz e)
 |_=>exact ax e
theorem qW{xs:List V}(e:asT v=some xs):v=.tup xs:=by
 cases v with
 |tup j=>exact PI V.tup (Pz e)
 |_=>exact ax e
theorem qX(e:isN v=true)(r:ac C O v val)(g:G .none):G val:=elN (KJ e▸r) g
theorem fp{i:Int}(e:asI v=some i)(r:ac C O v val)(g:∀t,G (.int i t)):G val:=elI (KK e▸r) g
theorem jR{x:Str}(e:asS v=some x)(r:ac C O v val)(g:∀t,G (.str x t)):G val:=elS (KM e▸r) g
theorem zz{xs:List V}(e:asT v=some xs)(r:ac C O v val)(g:∀a vals n,(a,ju vals n)∈O.Z->ag (ac C O) xs vals.toList->G (.ref a)):G val:=elT (qW e▸r) g
theorem iR{β:Type}{f:Int->Int->Option β}{a b:V}{va vb:Value}{r:β}(e:iiI f a b=some r)(ra:ac C O a va)(rb:ac C O b vb){G:Value->Value->Prop}(g:∀x y t u,f x y=some r->G (.int x t) (.int y u)):G va vb :=
 bE e fun x hx e=>bE e fun y hy e=>fp (G:=fun va=>G va vb) hx ra fun t=>fp (G:=fun vb=>G (.int x t) vb) hy rb fun u=>g x y t u e
theorem Eo{β:Type}{P:Prop}{c:Option ab}{f:List V->Option β}{g:List (Str×V)->Option β}{r:β}(e:dz c f g=some r)(k1:∀xs,c=some (.list xs)->f xs=some r->P)(k2:∀es,c=some (.dict es)->g es=some r->P):P:=by
 cases c with
 |none=>exact ax e
 |some c=>cases c with
  |list xs=>exact k1 xs rfl e
  |dict es=>exact k2 es rfl e
  |tdict _=>exact ax e
theorem xH{β:Type}{n:Nat}{f:List V->Option β}{g:List (Str×V)->Option β}{r:β}(I:ap C O J s.heap)(e:dz J[n]? f g=some r)(ro:ac C O (.ref n) val)
 (k1:∀xs a vals k,J[n]?=some (.list xs)->O.am[n]?=some a->s.heap.get? a=some (listOf vals k)->ag (ac C O) xs vals.toList->f xs=some r->G (.ref a))
 (k2:∀es a ents k,J[n]?=some (.dict es)->O.am[n]?=some a->s.heap.get? a=some (gM ents k)->ag (fo C O) es ents->(es.map (·.1)).Nodup->g es=some r->G (.ref a)):G val:=by
 refine elR ro fun a ha=>Eo e (fun xs hn e=>?_) fun es hn e=>?_
 . refine ae (I.cell n _ a hn ha) ?_;rintro o ho ⟨vals,k,rfl,t⟩
   exact k1 xs a vals k hn ha ho t e
 . refine ae (I.cell n _ a hn ha) ?_;rintro o ho ⟨ents,k,rfl,t,nd⟩
   exact k2 es a ents k hn ha ho t nd e
theorem u8{β:Type}{o:V}{f:Nat->List V->Option β}{g:Nat->List (Str×V)->Option β}{r:β}(I:ap C O J s.heap)(e:ur J o f g=some r)(ro:ac C O o val)
 (k1:∀n xs a vals k,J[n]?=some (.list xs)->O.am[n]?=some a->s.heap.get? a=some (listOf vals k)->ag (ac C O) xs vals.toList->f n xs=some r->G (.ref a))
 (k2:∀n es a ents k,J[n]?=some (.dict es)->O.am[n]?=some a->s.heap.get? a=some (gM ents k)->ag (fo C O) es ents->(es.map (·.1)).Nodup->g n es=some r->G (.ref a)):G val:=by
 cases o with
 |ref n=>exact xH I e ro (k1 n) (k2 n)
 |_=>exact ax e
theorem fe{xs:List V}(I:ap C O J s.heap)(e:ba J v=some xs)(r:ac C O v val)(g:∀a vals n,s.heap.get? a=some (listOf vals n)->ag (ac C O) xs vals.toList->G (.ref a)):G val:=by
 cases v with
 |lst ys=>cases e;exact elL r fun a vals n m t=>g a vals n (I.z _ m) t
 |ref n=>exact xH I e r (fun _ a vals k _ _ ho t e=>g a vals k ho (Pz e▸t)) fun _ _ _ _ _ _ _ _ _ e=>ax e
 |_=>exact ax e
theorem qY{xs:List V}(I:ap C O J s.heap)(e:cW J v=some xs)(r:ac C O v val)(g1:∀a vals n,s.heap.get? a=some (listOf vals n)->ag (ac C O) xs vals.toList->G (.ref a))(g2:∀a vals n,(a,ju vals n)∈O.Z->ag (ac C O) xs vals.toList->G (.ref a)):G val:=by
 cases v with
 |tup ys=>cases e;exact elT r fun a vals n m t=>g2 a vals n m t
 |lst ys=>exact fe (v:=.lst ys) I e r g1
 |ref n=>exact fe (v:=.ref n) I e r g1
 |_=>exact ax e
end
theorem kG{C:Ctx}{O:Map}{J:Hp}{s:Shared}(I:ap C O J s.heap){v:V}{xs:List V}{val:Value}(e:ba J v=some xs)(r:ac C O v val):∃a vals n,val=.ref a/\s.heap.get? a=some (listOf vals n)/\ag (ac C O) xs vals.toList:=by
 apply fe I e r;intro a vals n ho t;exact⟨a,vals,n,rfl,ho,t⟩
section
variable{C:Ctx}{O:Map}{J:Hp}{s:Shared}
theorem Ms{v:V}{val:Value}{a:AK}(e:aOf v=some a)(r:ac C O v val):kOf val=some a:=by
 cases v with
 |none=>exact elN (G:=fun v=>kOf v=some a) r e
 |bool b=>exact elB (G:=fun v=>kOf v=some a) r e
 |int i=>exact elI (G:=fun v=>kOf v=some a) r fun _=>e
 |str i=>exact elS (G:=fun v=>kOf v=some a) r fun _=>e
 |_=>exact ax e
theorem Ep{xs:List V}{vs:List Value}{k:List AK}(e:Kx xs=some k)(t:ag (ac C O) xs vs):ItemsAre (J6 C.prog C.w) k vs:=by
 induction t generalizing k with
 |nil=>cases e;exact .nil
 |cons r _ ih =>
  refine bE e fun a h1 e=>bE e fun as h2 e=>?_
  cases e
  exact .cons (PB (Ms h1 r)) (ih h2)
theorem zG{v:V}{val:Value}{k:List AK}{G:Value->Prop}(I:ap C O J s.heap)(e:lA v=some k)(r:ac C O v val)(g:∀a,(tkC C).is s.heap k a->ac C O v (.ref a)->G (.ref a)):G val:=by
 refine bE e fun xs h1 e=>?_
 refine elT (G:=fun val=>ac C O v val->G val) (qW h1▸r) (fun a vals n m t r=>g a ⟨_,_,_,I.z _ m,rfl,rfl,Ep e t⟩ r) r
theorem KO{v:V}{a:Addr}{k:List AK}(I:ap C O J s.heap)(e:lA v=some k)(r:ac C O v (.ref a)):(tkC C).is s.heap k a:=by
 refine bE e fun xs h1 e=>?_
 have r:ac C O (.tup xs) (.ref a):=qW h1▸r
 simp only[ac]at r
 refine bg (r) ?_;rintro b vals n q m t
 cases q
 exact⟨_,_,_,I.z _ m,rfl,rfl,Ep e (aL.mp t)⟩
theorem xI{es:List (V×V)}{xs:List (List AK×Addr×Value)}{a:Addr}{n:Nat}(I:ap C O J s.heap)(ho:s.heap.get? a=some (gM (xs.map (entryOfKey (tkC C))) n))(t:ag (ic C O) es xs)(nd:(xs.map (·.1)).Nodup):s.heap.DictOfH (tkC C) a xs :=
 ⟨_,_,n,ho,⟨rfl,rfl,rfl⟩,rfl,rfl,fun x hx=>by refine ae (t.mem hx) ?_;rintro p _ h;exact KO I h.1 h.2.1,nd⟩
theorem Er{es:List (V×V)}{xs:List (List AK×Addr×Value)}{a:Addr}{h:Heap}(D:h.DictOfH (tkC C) a xs)(t:ag (ic C O) es xs):∃o,h.get? a=some o/\mz C O (.tdict es) o:=by
 refine qT (D) ?_;rintro⟨c,dd,dat,sl⟩ ents n ho ⟨e1,e2,e3⟩ ed he ⟨_,nd⟩
 simp only at e1 e2 e3 ed
 subst e1 e2 e3 ed
 exact⟨_,ho,xs,n,by rw[<- he],t,nd⟩
theorem u9{β:Type}{o:V}{vo:Value}{f:Nat->List (V×V)->Option β}{r:β}{G:Value->Prop}(I:ap C O J s.heap)(e:tn J o f=some r)(ro:ac C O o vo)
 (g:∀n es a xs,O.am[n]?=some a->s.heap.DictOfH (tkC C) a xs->ag (ic C O) es xs->f n es=some r->G (.ref a)):G vo:=by
 cases o with
 |ref n =>
  apply elR ro;intro a ha
  have e:Ky J[n]? (f n)=some r:=e
  cases hn:J[n]? with
  |none=>rw[hn]at e;exact ax e
  |some c =>
   rw[hn]at e
   refine ae (I.cell n c a hn ha) ?_;intro o ho r'
   cases c with
   |list xs=>exact ax e
   |tdict es =>
    refine cQ (r') ?_;rintro xs m rfl t nd
    exact g n es a xs ha (xI I ho t nd) t e
   |dict es =>
    cases es with
    |cons _ _=>exact ax e
    |nil =>
     refine cQ (r') ?_;rintro ents m rfl t nd
     cases t
     exact g n [] a [] ha (xI (es:=[]) (n:=m) I ho .nil .nil) .nil e
 |_=>exact ax e
theorem xJ{es:List (V×V)}{xs:List (List AK×Addr×Value)}(t:ag (ic C O) es xs)(k:List AK):(∀v,jt k es=some v->∃p,atKey xs k=some p/\ac C O v p.2)/\(jt k es=none->atKey xs k=none):=by
 induction t with
 |nil=>exact⟨fun v h=>ax h,fun _=>rfl⟩
 |@cons p x es xs h _ ih =>
  unfold jt
  by_cases hx:x.1=k
  . rw[if_pos (h.1.trans (PI some hx))]
    have:atKey (x::xs) k=some x.2:=by unfold atKey;rw[List.find?_cons,PB hx];rfl
    rw[this]
    exact⟨fun v e=>⟨x.2,rfl,Pz e▸h.2.2⟩,fun h=>nomatch h⟩
  . rw[if_neg (by rw[h.1];exact fun e=>hx (Pz e))]
    have:atKey (x::xs) k=atKey xs k:=by unfold atKey;rw[List.find?_cons,P6 hx]
    rw[this]
    exact ih
theorem zJ{es:List (V×V)}{xs:List (List AK×Addr×Value)}(t:ag (ic C O) es xs)(k:List AK):(atKey xs k).isSome=(jt k es).isSome:=by
 obtain⟨l1,l2⟩:=xJ t k
 cases q:jt k es with
 |none=>rw[l2 q];rfl
 |some v=>refine ae (l1 v q) ?_;rintro p hp _;rw[hp];rfl
theorem Hx{es:List (V×V)}{xs:List (List AK×Addr×Value)}{k:List AK}{a:Addr}{x v:V}{val:Value}(t:ag (ic C O) es xs)(nd:(xs.map (·.1)).Nodup)(hk:lA x=some k)(rx:ac C O x (.ref a))(rv:ac C O v val):ag (ic C O) (zv k x v es) (storedH xs k a val):=by
 induction t with
 |nil=>exact .cons ⟨hk,rx,rv⟩ .nil
 |@cons p y es xs h t ih =>
  rw[List.map_cons,List.nodup_cons]at nd
  unfold zv
  by_cases hx:y.1=k
  . rw[if_pos (h.1.trans (PI some hx))]
    have:storedH (y::xs) k a val=(y.1,y.2.1,val)::xs:=by
     have e:atKey (y::xs) k=some y.2:=by unfold atKey;rw[List.find?_cons,PB hx];rfl
     rw[storedH_old e,List.map_cons,map_putAt_of_not_mem xs k val (hx▸nd.1)]
     unfold putAt;rw[if_pos hx]
    rw[this]
    exact .cons ⟨h.1,h.2.1,rv⟩ t
  . rw[if_neg (by rw[h.1];exact fun e=>hx (Pz e))]
    have:storedH (y::xs) k a val=y::storedH xs k a val:=by
     have e:atKey (y::xs) k=atKey xs k:=by unfold atKey;rw[List.find?_cons,P6 hx]
     unfold storedH
     rw[e]
     split
     .rw[List.map_cons];unfold putAt;rw[if_neg hx]
     .rfl
    rw[this]
    exact .cons h (ih nd.2)
theorem Hy{xs:List V}{vals:List Value}{ss:List Str}(e:ut xs=some ss)(t:ag (ac C O) xs vals):ag (fun s v=>∃t,v=Value.str s t) ss vals:=by
 induction t generalizing ss with
 |nil=>cases e;exact .nil
 |cons r _ ih =>
  refine bE e fun a h1 e=>bE e fun as h2 e=>?_
  cases e
  exact .cons (jR (G:=fun v=>∃t,v=Value.str a t) h1 r fun t=>⟨t,rfl⟩) (ih h2)
end
theorem isL{s:Shared}{a:Addr}{vals:Array Value}{n:Nat}(h:s.heap.get? a=some (listOf vals n)):s.heap.IsList a vals:=⟨_,h,rfl,n,rfl⟩
section
variable{C:Ctx}{O:Map}{J:Hp}{s:Shared}{A:Around}
theorem cn(I:ap C O J s.heap){a:Addr}{vals:Array Value}{n:Nat}(m:(a,ju vals n)∈O.Z):s.heap.IsTuple a vals:=⟨_,I.z _ m,rfl,n,rfl⟩
theorem nP(I:ap C O J s.heap){a:Addr}{vals:Array Value}{n:Nat}(m:(a,listOf vals n)∈O.Z):s.heap.IsList a vals:=⟨_,I.z _ m,rfl,n,rfl⟩
noncomputable def uy(f:V->V->Option Bool)(xs ys:List V)(j:Nat):Bool:=match xs[j]?,ys[j]? with
 |some x,some y=>f x y==some true
 |_,_=>false
theorem qZ{f:V->V->Option Bool}{xs ys:List V}{b:Bool}(hl:xs.length=ys.length)(e:gz f xs ys=some b):
 (∀j x y,xs[j]?=some x->ys[j]?=some y->f x y=some (uy f xs ys j))/\b=(List.range xs.length).all (uy f xs ys):=by
 induction xs generalizing ys b with
 |nil=>cases ys with
  |nil=>exact⟨fun j x y h=>(nomatch h),(Pz e).symm⟩
  |cons _ _=>exact absurd hl (Nat.succ_ne_zero _).symm
 |cons x xs ih=>cases ys with
  |nil=>exact absurd hl (Nat.succ_ne_zero _)
  |cons y ys =>
   refine bE e fun b1 h1 e=>bE e fun b2 h2 e=>?_
   obtain⟨g1,g2⟩:=ih (Nat.succ.inj hl) h2
   have e0:uy f (x::xs) (y::ys) 0=b1:=by
    show(f x y==some true)=b1
    rw[h1];cases b1 <;> rfl
   refine⟨fun j u v hu hv=>?_,?_⟩
   . cases j with
     |zero=>rw[e0,<- Pz hu,<- Pz hv,h1]
     |succ j=>exact g1 j u v hu hv
   . rw[<- Pz e,g2,P8,List.range_succ_eq_map,List.all_cons,List.all_map,e0]
     rfl
theorem xK{R:V->Value->Prop}{xs:List V}{vals:Array Value}(r:ag R xs vals.toList){j:Nat}(h:j<vals.size):∃x,xs[j]?=some x/\R x vals[j]:=by
 refine r.get' ?_
 rw[Array.getElem?_toList];exact Array.getElem?_eq_getElem h
theorem bJ{R:V->Value->Prop}{xs:List V}{vals:Array Value}(r:ag R xs vals.toList):xs.length=vals.size:=r.length.trans Array.length_toList
theorem Es{f:V->V->Option Bool}{xs ys:List V}{b:Bool}(hl:xs.length=ys.length)(e:gz f xs ys=some b)(h:∀(j:Nat) (x y:V),xs[j]?=some x->ys[j]?=some y->∀r,f x y=some r->r=true):b=true:=by
 obtain⟨g1,g2⟩:=qZ hl e
 rw[g2,List.all_eq_true]
 intro j hj
 have hj:j<xs.length:=List.mem_range.mp hj
 have hx:=PF hj
 have hy:=PF (hl▸hj)
 exact h j _ _ hx hy _ (g1 j _ _ hx hy)
inductive EqC(f:V->V->Option Bool):V->V->Bool->Prop where
 |nn:EqC f .none .none true
 |bb (x y:Bool):EqC f (.bool x) (.bool y) (x==y)
 |ii (x y:Int):EqC f (.int x) (.int y) (x==y)
 |ss (x y:Str):EqC f (.str x) (.str y) (x==y)
 |tt (xs ys:List V) (r:Bool) (hl:xs.length=ys.length) (h:gz f xs ys=some r):EqC f (.tup xs) (.tup ys) r
 |ll (xs ys:List V) (r:Bool) (h:CA f xs ys=some r):EqC f (.lst xs) (.lst ys) r
 |nb (x:Bool):EqC f .none (.bool x) false
 |ni (x:Int):EqC f .none (.int x) false
 |ns (x:Str):EqC f .none (.str x) false
 |bn (x:Bool):EqC f (.bool x) .none false
 |bs (x:Bool) (y:Str):EqC f (.bool x) (.str y) false
 |«in» (x:Int):EqC f (.int x) .none false
 |«is» (x:Int) (y:Str):EqC f (.int x) (.str y) false
 |sn (x:Str):EqC f (.str x) .none false
 |sb (x:Str) (y:Bool):EqC f (.str x) (.bool y) false
 |si (x:Str) (y:Int):EqC f (.str x) (.int y) false
theorem Et{n:Nat}{a b:V}{r:Bool}(e:eqV (n+1) a b=some r):EqC (eqV n) a b r:=by
 cases a with
 |none =>
  cases b with
  |none=>exact Pz e▸.nn
  |bool x=>exact Pz e▸.nb x
  |int x=>exact Pz e▸.ni x
  |str x=>exact Pz e▸.ns x
  |_=>exact ax e
 |bool x =>
  cases b with
  |none=>exact Pz e▸.bn x
  |bool y=>exact Pz e▸.bb x y
  |str y=>exact Pz e▸.bs x y
  |_=>exact ax e
 |int x =>
  cases b with
  |none=>exact Pz e▸.in x
  |int y=>exact Pz e▸.ii x y
  |str y=>exact Pz e▸.is x y
  |_=>exact ax e
 |str x =>
  cases b with
  |none=>exact Pz e▸.sn x
  |bool y=>exact Pz e▸.sb x y
  |int y=>exact Pz e▸.si x y
  |str y=>exact Pz e▸.ss x y
  |_=>exact ax e
 |tup xs =>
  cases b with
  |tup ys =>
   have e:(if xs.length=ys.length then gz (eqV n) xs ys else none)=some r:=e
   by_cases hl:xs.length=ys.length
   .rw[if_pos hl]at e;exact .tt xs ys r hl e
   .rw[if_neg hl]at e;exact ax e
  |_=>exact ax e
 |lst xs =>
  cases b with
  |lst ys=>exact .ll xs ys r e
  |_=>exact ax e
 |_=>exact ax e
theorem q5(I:ap C O J s.heap){a:Addr}{o o':Obj}(m:(a,o)∈O.Z)(m':(a,o')∈O.Z):o=o':=Pz ((I.z _ m).symm.trans (I.z _ m'))
noncomputable def kV:V->Nat
 |.none=>0
 |.bool _=>1
 |.int _=>2
 |.str _=>3
 |_=>4
noncomputable def Eu:Value->Nat
 |.none=>0
 |.bool _=>1
 |.int _ _=>2
 |.str _ _=>3
 |_=>4
theorem J8{a:V}{v:Value}(r:ac C O a v)(h:kV a<4):Eu v=kV a:=by
 cases a with
 |none=>exact elN (G:=fun v=>Eu v=0) r rfl
 |bool b=>exact elB (G:=fun v=>Eu v=1) r rfl
 |int i=>exact elI (G:=fun v=>Eu v=2) r fun _=>rfl
 |str i=>exact elS (G:=fun v=>Eu v=3) r fun _=>rfl
 |_=>exact absurd h (Nat.lt_irrefl 4)
theorem lg{a b:V}{v:Value}{P:Prop}(ra:ac C O a v)(rb:ac C O b v)(h:(decide (kV a<4)&&decide (kV b<4)&&decide (kV a≠kV b))=true):P:=by
 rw[PJ,PJ]at h
 exact absurd ((J8 ra (PP h.1.1)).symm.trans (J8 rb (PP h.1.2))) (PP h.2)
theorem Ev{f:V->V->Option Bool}{a b:V}{r:Bool}{v:Value}(c:EqC f a b r)(I:ap C O J s.heap)(hf:∀x y v q,f x y=some q->ac C O x v->ac C O y v->q=true)(ra:ac C O a v)(rb:ac C O b v):r=true:=by
 have seq:∀ {xs ys:List V}{vals:Array Value}{r:Bool},ag (ac C O) xs vals.toList->ag (ac C O) ys vals.toList->gz f xs ys=some r->r=true:=fun t t' e =>
  Es ((bJ t).trans (bJ t').symm) e fun j x y hx hy r' e'=>by
   refine ae (t.get hx) ?_;rintro v hv rx
   refine ae (t'.get hy) ?_;rintro v' hv' ry
   exact hf x y v r' e' rx (Pz (hv.symm.trans hv')▸ry)
 induction c with
 |nn=>rfl
 |bb x y=>exact P4.mpr (Value.bool.inj (ra.symm.trans rb))
 |ii x y=>obtain⟨t,ht⟩:=ra;obtain⟨u,hu⟩:=rb;exact P4.mpr (Value.int.inj (ht.symm.trans hu)).1
 |ss x y=>obtain⟨t,ht⟩:=ra;obtain⟨u,hu⟩:=rb;exact P4.mpr (Value.str.inj (ht.symm.trans hu)).1
 |tt xs ys _ hl h =>
  refine bg (ra) ?_;rintro a vals k ha m t
  refine bg (rb) ?_;rintro b vals' k' hb m' t'
  cases Value.ref.inj (ha.symm.trans hb)
  cases q5 I m m'
  exact seq (aL.mp t) (aL.mp t') h
 |ll xs ys _ h =>
  refine bg (ra) ?_;rintro a vals k ha m t
  refine bg (rb) ?_;rintro b vals' k' hb m' t'
  cases Value.ref.inj (ha.symm.trans hb)
  cases q5 I m m'
  have t:=aL.mp t
  have t':=aL.mp t'
  exact seq t t' ((if_pos ((bJ t).trans (bJ t').symm)).symm.trans h)
 |nb x=>exact lg ra rb rfl
 |ni x=>exact lg ra rb rfl
 |ns x=>exact lg ra rb rfl
 |bn x=>exact lg ra rb rfl
 |bs x y=>exact lg ra rb rfl
 |«in» x=>exact lg ra rb rfl
 |«is» x y=>exact lg ra rb rfl
 |sn x=>exact lg ra rb rfl
 |sb x y=>exact lg ra rb rfl
 |si x y=>exact lg ra rb rfl
theorem Ew(n:Nat){a b:V}{v:Value}{r:Bool}(e:eqV n a b=some r)(I:ap C O J s.heap)(ra:ac C O a v)(rb:ac C O b v):r=true:=by
 induction n generalizing a b v r with
 |zero=>exact ax e
 |succ n ih=>exact Ev (Et e) I (fun _ _ _ _ e rx ry=>ih e rx ry) ra rb
theorem Ex{xs ys:List V}{vals vals':Array Value}{f:V->V->Option Bool}{r:Bool}(t:ag (ac C O) xs vals.toList)(t':ag (ac C O) ys vals'.toList)(hl:xs.length=ys.length)
 (e:gz f xs ys=some r) (hf:∀x y v w q,f x y=some q->ac C O x v->ac C O y w->EqAt A s v w q):(∀j (h1:j<vals.size) (h2:j<vals'.size),EqAt A s vals[j] vals'[j] (uy f xs ys j))/\vals.size=vals'.size/\(List.range vals.size).all (uy f xs ys)=r:=by
 obtain⟨g1,g2⟩:=qZ hl e
 refine⟨fun j h1 h2=>?_,by rw[<- bJ t,<- bJ t',hl],by rw[<- bJ t,g2]⟩
 refine ae (xK t h1) ?_;rintro x hx rx
 refine ae (xK t' h2) ?_;rintro y hy ry
 exact hf _ _ _ _ _ (g1 j x y hx hy) rx ry
theorem xL{a b:Addr}{xs ys:List V}{vals vals':Array Value}{f:V->V->Option Bool}{r:Bool}(hu:A.units<cLine)(L:s.heap.IsList a vals)(L':s.heap.IsList b vals')(t:ag (ac C O) xs vals.toList)(t':ag (ac C O) ys vals'.toList)
 (e:CA f xs ys=some r) (hf:∀x y v w q,f x y=some q->ac C O x v->ac C O y w->EqAt A.in1 s v w q):RcAt A s (.ref a) (.ref b) r/\RcNeAt A s (.ref a) (.ref b) (!r):=by
 unfold CA at e
 by_cases hl:xs.length=ys.length
 . rw[if_pos hl]at e
   refine eW (Ex t t' hl e hf) ?_;rintro he hsz hr
   exact⟨hr▸RcAt.lists L L' hsz hu he,hr▸RcNeAt.lists L L' hsz hu he⟩
 . rw[if_neg hl]at e
   have hsz:(vals.size != vals'.size)=true:=bne_iff_ne.mpr fun q=>hl ((bJ t).trans (q.trans (bJ t').symm))
   exact Pz e▸⟨.lists_lengths L L' hsz hu,.lists_lengths L L' hsz hu⟩
theorem CD{a b:Addr}{xs ys:List V}{vals vals':Array Value}{f:V->V->Option Bool}{r:Bool}(hu:A.units<cLine)(L:s.heap.IsTuple a vals)(L':s.heap.IsTuple b vals')(t:ag (ac C O) xs vals.toList)(t':ag (ac C O) ys vals'.toList)
 (hl:xs.length=ys.length) (e:gz f xs ys=some r) (hf:∀x y v w q,f x y=some q->ac C O x v->ac C O y w->EqAt A.in1 s v w q):RcAt A s (.ref a) (.ref b) r/\RcNeAt A s (.ref a) (.ref b) (!r):=by
 refine eW (Ex t t' hl e hf) ?_;rintro he hsz hr
 have q:((List.range (min vals.size vals'.size)).all (uy f xs ys)&&vals.size==vals'.size)=r:=by
  rw[<- hsz,Nat.min_self,hr,P2,Bool.and_true]
 exact⟨q▸RcAt.tuples L L' hu he,q▸RcNeAt.tuples L L' hu he⟩
theorem BJ{a b:Addr}{r:Bool}(h:a=b->r=true)(rc:RcAt A s (.ref a) (.ref b) r/\RcNeAt A s (.ref a) (.ref b) (!r)):EqAt A s (.ref a) (.ref b) r/\RcAt A s (.ref a) (.ref b) r/\RcNeAt A s (.ref a) (.ref b) (!r):=by
 refine⟨?_,rc⟩
 by_cases hab:a=b
 .rw[h hab,hab];exact .same _
 .exact .of_refs hab rc.1
theorem KP{f:V->V->Option Bool}{a b:V}{r:Bool}{va vb:Value}(c:EqC f a b r)(I:ap C O J s.heap)(hu:A.units<cLine)(hs:∀v,ac C O a v->ac C O b v->r=true)(hf:∀x y v w q,f x y=some q->ac C O x v->ac C O y w->EqAt A.in1 s v w q)
 (ra:ac C O a va) (rb:ac C O b vb):EqAt A s va vb r/\RcAt A s va vb r/\RcNeAt A s va vb (!r):=by
 induction c with
 |nn=>apply elN ra;apply elN rb;exact⟨.same _,.none_none,.none_none⟩
 |bb x y=>apply elB ra;apply elB rb;exact⟨.bool_bool _ _,.bool_bool _ _,.bool_bool _ _⟩
 |ii x y=>apply elI ra;intro _;apply elI rb;intro _;exact⟨.int_int _ _ _ _,.int_int _ _ _ _,.int_int _ _ _ _⟩
 |ss x y=>apply elS ra;intro _;apply elS rb;intro _;exact⟨.str_str _ _ _ _,.str_str _ _ _ _,.str_str _ _ _ _⟩
 |tt xs ys _ hl h =>
  refine elT (G:=fun va=>ac C O _ va->EqAt A s va vb _/\RcAt A s va vb _/\RcNeAt A s va vb _) ra (fun a vals k m t ra=>?_) ra
  refine elT (G:=fun vb=>ac C O _ vb->EqAt A s _ vb _/\RcAt A s _ vb _/\RcNeAt A s _ vb _) rb (fun b vals' k' m' t' rb=>?_) rb
  exact BJ (fun q=>hs _ ra (q▸rb)) (CD hu (cn I m) (cn I m') t t' hl h hf)
 |ll xs ys _ h =>
  refine elL (G:=fun va=>ac C O _ va->EqAt A s va vb _/\RcAt A s va vb _/\RcNeAt A s va vb _) ra (fun a vals k m t ra=>?_) ra
  refine elL (G:=fun vb=>ac C O _ vb->EqAt A s _ vb _/\RcAt A s _ vb _/\RcNeAt A s _ vb _) rb (fun b vals' k' m' t' rb=>?_) rb
  exact BJ (fun q=>hs _ ra (q▸rb)) (xL hu (nP I m) (nP I m') t t' h hf)
 |nb x=>apply elN ra;apply elB rb;exact⟨.none_bool _,.none_bool _,.none_bool _⟩
 |ni x=>apply elN ra;apply elI rb;intro _;exact⟨.none_int _ _,.none_int _ _,.none_int _ _⟩
 |ns x=>apply elN ra;apply elS rb;intro _;exact⟨.none_str _ _,.none_str _ _,.none_str _ _⟩
 |bn x=>apply elB ra;apply elN rb;exact⟨.bool_none _,.bool_none _,.bool_none _⟩
 |bs x y=>apply elB ra;apply elS rb;intro _;exact⟨.bool_str _ _ _,.bool_str _ _ _,.bool_str _ _ _⟩
 |«in» x=>apply elI ra;intro _;apply elN rb;exact⟨.int_none _ _,.int_none _ _,.int_none _ _⟩
 |«is» x y=>apply elI ra;intro _;apply elS rb;intro _;exact⟨.int_str _ _ _ _,.int_str _ _ _ _,.int_str _ _ _ _⟩
 |sn x=>apply elS ra;intro _;apply elN rb;exact⟨.str_none _ _,.str_none _ _,.str_none _ _⟩
 |sb x y=>apply elS ra;intro _;apply elB rb;exact⟨.str_bool _ _ _,.str_bool _ _ _,.str_bool _ _ _⟩
 |si x y=>apply elS ra;intro _;apply elI rb;intro _;exact⟨.str_int _ _ _ _,.str_int _ _ _ _,.str_int _ _ _ _⟩
theorem ve(n:Nat){A:Around}{a b:V}{va vb:Value}{r:Bool}(e:eqV n a b=some r)(I:ap C O J s.heap)(ra:ac C O a va)(rb:ac C O b vb)(hu:A.units+n<cLine):EqAt A s va vb r/\RcAt A s va vb r/\RcNeAt A s va vb (!r):=by
 induction n generalizing A a b va vb r with
 |zero=>exact ax e
 |succ n ih=>exact KP (Et e) I (PK (Nat.le_add_right _ _) ‹_›) (fun v ra rb=>Ew (n+1) e I ra rb) (fun x y v w q e rx ry=>(ih e rx ry (by show A.units+1+n<cLine;lia)).1) ra rb
theorem Ey(I:ap C O J s.heap){a b:V}{va vb:Value}{r:Bool}(e:eqI J a b=some r)(ra:ac C O a va)(rb:ac C O b vb)(hu:A.units+16<cLine):RcAt A s va vb r/\RcNeAt A s va vb (!r):=by
 refine lC e (fun xs hx e=>bE e fun ys hy e=>?_) fun _ e=>(ve 6 e I ra rb (by lia)).2
 exact fe (G:=fun va=>RcAt A s va vb _/\RcNeAt A s va vb _) I hx ra fun a vals n ho t=>fe (G:=fun vb=>RcAt A s _ vb _/\RcNeAt A s _ vb _) I hy rb fun b vals' n' ho' t' =>
  xL (PK (Nat.le_add_right _ _) ‹_›) (isL ho) (isL ho') t t' e fun x y v w q eq rx ry=>(ve 5 eq I rx ry (by show A.units+1+5<cLine;lia)).1
theorem zU{f:V->V->Option Bool}{x:V}{xs:List V}{b:Bool}(e:pJ f x xs=some b):(∀y∈xs,∃c,f y x=some c)/\(b=true↔∃y∈xs,f y x=some true):=by
 induction xs generalizing b with
 |nil =>
  rw[<- Pz e]
  exact⟨fun _ h=>absurd h List.not_mem_nil,fun h=>absurd h Qc,fun⟨_,h,_⟩=>absurd h List.not_mem_nil⟩
 |cons y ys ih =>
  refine bE e fun b1 h1 e=>bE e fun b2 h2 e=>?_
  obtain⟨g1,g2⟩:=ih h2
  rw[<- Pz e]
  refine⟨List.forall_mem_cons.mpr ⟨⟨_,h1⟩,g1⟩,?_⟩
  rw[Bool.or_eq_true,g2]
  constructor
  . rintro(h | ⟨z,hz,h⟩)
    .exact⟨y,.head _,by rw[h1,h]⟩
    .exact⟨z,.tail _ hz,h⟩
  . rintro⟨z,hz,h⟩
    rcases PZ.mp hz with rfl | hz
    .rw[h1]at h;exact .inl (Pz h)
    .exact .inr ⟨z,hz,h⟩
open Classical in
theorem Ez(I:ap C O J s.heap){x:V}{xs:List V}{vx:Value}{vals:Array Value}{b:Bool}(e:pJ (eqV 6) x xs=some b)(t:ag (ac C O) xs vals.toList)(rx:ac C O x vx)(hu:A.units+16<cLine):
 ∃g:Value->Bool,(∀y,y∈vals->EqAt A s y vx (g y))/\vals.any g=b:=by
 obtain⟨g1,g2⟩:=zU e
 refine⟨fun v=>decide (∃y∈xs,ac C O y v/\eqV 6 y x=some true),fun v hv=>?_,?_⟩
 . refine ae (t.mem (Array.mem_toList_iff.mpr hv)) ?_;rintro y hy ry
   by_cases q:∃y∈xs,ac C O y v/\eqV 6 y x=some true
   . refine bI (q) ?_;rintro z hz rz ez
     show EqAt A s v vx (decide _)
     rw[PB (p:=∃y∈xs,ac C O y v/\eqV 6 y x=some true) ⟨z,hz,rz,ez⟩]
     exact(ve 6 ez I rz rx (by lia)).1
   . show EqAt A s v vx (decide _)
     rw[P6 q]
     obtain⟨c,hc⟩:=g1 y hy
     cases c with
     |true=>exact absurd ⟨y,hy,ry,hc⟩ q
     |false=>exact(ve 6 hc I ry rx (by lia)).1
 . rw[Bool.eq_iff_iff,g2,Array.any_eq_true]
   constructor
   . rintro⟨i,hi,h⟩
     refine bI (PP h) ?_;rintro y hy ry ey
     exact⟨y,hy,ey⟩
   . rintro⟨y,hy,ey⟩
     obtain⟨i,hi⟩:=List.getElem?_of_mem hy
     refine ae (t.get hi) ?_;rintro v hv rv
     rw[Array.getElem?_toList]at hv
     obtain⟨hl,hv⟩:=Array.getElem?_eq_some_iff.mp hv
     exact⟨i,hl,by rw[hv];exact PB ⟨y,hy,rv,ey⟩⟩
end
section
variable{C:Ctx}{O:Map}{J J':Hp}{s:Shared}{A:Around}{d:Nat}{E:Value->Shared->Prop}
theorem tp.u{A:Around}{d:Nat}(R:tp A d):A.units+16<cLine:=by have:=R.units;lia
theorem dN{xs:List V}(h:bp xs=true):xs.length<=1000000:=PP h
theorem q6(I:ap C O J s.heap){v:V}{val:Value}{b:Bool}(e:bM J v=some b)(r:ac C O v val){Q:Bool->Shared->Prop}(h:∀t,Q b { s with toks:=t}):
 wpAny (model C.prog C.w) A (truthy val) Q E s:=by
 have h0:=h s.toks
 have seq:∀ {xs:List V}{vals:Array Value},ag (ac C O) xs vals.toList->decide (xs.length<=1000000)=true->vals.size<=1000000/\(xs.length != 0)=(!vals.isEmpty):=fun t hx=>by
  have hl:=bJ t
  exact⟨hl▸PP hx,by rw[hl,Array.isEmpty];rfl⟩
 cases v with
 |none=>cases e;apply elN r;exact PyProof.Rows.truthy_none h0
 |bool x=>cases e;apply elB r;exact wpAny_truthy_bool h0
 |int x=>cases e;apply elI r;intro t;exact PyProof.Rows.truthy_int h0
 |str x =>
  refine ifE e fun hx e=>?_
  have hx:=PP hx
  apply elS r;intro t
  refine PySem.P.truthy_str (by lia) ?_
  have:((x.length:Int) != 0)=b:=by
   rw[<- Pz e,Bool.eq_iff_iff];simp only[bne_iff_ne,ne_eq];lia
  rw[this];exact h _
 |tup xs =>
  refine ifE e fun hx e=>?_
  apply elT r;intro a vals n m t
  obtain⟨h1,h2⟩:=seq t hx
  exact PyProof.Rows.truthy_tuple (items:=vals) (cn I m) (Int.lt_of_le_of_lt (Int.ofNat_le.mpr ‹_›) (by decide)) (by rw[<- h2,Pz e];exact h _)
 |lst xs =>
  refine ifE e fun hx e=>?_
  apply elL r;intro a vals n m t
  obtain⟨h1,h2⟩:=seq t hx
  exact wpAny_truthy_list (items:=vals) (isL (I.z _ m)) (Int.lt_of_le_of_lt (Int.ofNat_le.mpr ‹_›) (by decide)) (by rw[<- h2,Pz e];exact h _)
 |_=>exact ax e
theorem kH(K:aT C)(I:ap C O J s.heap){xs:List V}{vals:Array Value}(t:ag (ac C O) xs vals.toList){tr:Bool}{J':Hp}{r:V}(e:bw tr xs J=(r,J')){Q:Value->Shared->Prop}(P:eL C O s J' r Q)(tk:Nat):
 Q (.ref s.heap.objs.size) { s with heap:=s.heap.push { cls:=.type "list",data:=.seq vals},toks:=tk}:=by
 unfold bw at e
 cases tr with
 |true =>
  cases e
  refine P ⟨O.am++[s.heap.objs.size],O.Z⟩ _ _ (al.track I) (I.track K ⟨vals,0,rfl,t⟩) ?_
  simp only[ac]
  exact⟨_,rfl,by rw[<- I.len];simp⟩
 |false =>
  cases e
  refine P ⟨O.am,(s.heap.objs.size,listOf vals 0)::O.Z⟩ _ _ al.frozen (I.frozen (o:=listOf vals 0)) ?_
  simp only[ac]
  exact⟨_,vals,0,rfl,.head _,aL.mpr (cE ⟨⟨[],by simp⟩,fun p hp=>.tail _ hp⟩ t)⟩
theorem lF(I:ap C O J s.heap){xs:List V}{vals:Array Value}(t:ag (ac C O) xs vals.toList){Q:Value->Shared->Prop}(P:eL C O s J (.tup xs) Q)(tk:Nat):
 Q (.ref s.heap.objs.size) { s with heap:=s.heap.push { cls:=.type "tuple",data:=.seq vals},toks:=tk}:=by
 refine P ⟨O.am,(s.heap.objs.size,ju vals 0)::O.Z⟩ _ _ al.frozen (I.frozen (o:=ju vals 0)) ?_
 simp only[ac]
 exact⟨_,vals,0,rfl,.head _,aL.mpr (cE ⟨⟨[],by simp⟩,fun p hp=>.tail _ hp⟩ t)⟩
theorem zX(K:aT C)(I:ap C O J s.heap){xs:List V}{vals:List Value}(t:ag (ac C O) xs vals)(hl:bp xs=true){tr:Bool}{J':Hp}{r:V}(e:bw tr xs J=(r,J')){Q:Value->Shared->Prop}(P:eL C O s J' r Q):
 wpAny (model C.prog C.w) A (newList vals) Q E s:=by
 have:=dN hl
 have hv:=t.length
 exact wpAny_newObj_type (kH K I (vals:=vals.toArray) (by simpa using t) e P s.toks) (by show vals.toArray.size<=sizeLine;rw[List.size_toArray,sizeLine_eq];exact Py (Nat.le_of_eq (Eq.symm ‹_›)) (Py ‹_› (by decide)))
theorem xM(I:ap C O J s.heap){xs:List V}{vals:List Value}(t:ag (ac C O) xs vals)(hl:bp xs=true){Q:Value->Shared->Prop}(P:eL C O s J (.tup xs) Q):
 wpAny (model C.prog C.w) A (newTuple vals) Q E s:=by
 have:=dN hl
 have hv:=t.length
 exact wpAny_newObj_type (lF I (vals:=vals.toArray) (by simpa using t) P s.toks) (by show vals.toArray.size<=sizeLine;rw[List.size_toArray,sizeLine_eq];exact Py (Nat.le_of_eq (Eq.symm ‹_›)) (Py ‹_› (by decide)))
theorem gN{i:Int}(h:aR i=true): -(2^62)<i/\i<2^62:=by
 obtain⟨a,b⟩:=Bool.and_eq_true_iff.mp h
 exact⟨PP a,PP b⟩
theorem q7{α:Type}(xs:Array α):∀(n:Nat) (acc:Array α),(List.foldl (fun x1 x2=>x1++x2) acc (List.replicate n xs)).toList=acc.toList++(List.replicate n xs.toList).flatten
 |0,acc=>by simp
 |n+1,acc=>by rw[List.replicate_succ,List.replicate_succ,List.foldl_cons,q7 xs n,List.flatten_cons];simp
theorem KR(K:aT C)(I:ap C O J s.heap){t:Bool}{op:Operator}{a b r:V}{va vb:Value}(e:c8 t op a b J=some (r,J'))(ra:ac C O a va)(rb:ac C O b vb){Q:Value->Shared->Prop}(P:eL C O s J' r Q):
 wpAny (model C.prog C.w) A (binaryOp op va vb) Q E s:=by
 cases op with
 |Add =>
  refine lC e (fun x hx e=>mE e fun y hy e=>?_) fun _ e=>lC e (fun xs hx e=>bE e fun ys hy e=>ifE e fun hc e=>?_) fun _ e=>bE e fun xs hx e=>bE e fun ys hy e=>ifE e fun hc e=>?_
  . apply fp hx ra;intro t;apply fp hy rb;intro u
    exact PyProof.Rows.add_int ((P.at (PI some e)).tok I _ vIn)
  . replace P:=P.at e
    rw[PJ,PJ,bne_iff_ne,bne_iff_ne]at hc
    have hlen:=dN hc.1.1
    apply zz hx ra;intro a vals n m t;apply zz hy rb;intro b vals' n' m' t'
    have l1:=bJ t
    have l2:=bJ t'
    rw[Px]at hlen
    exact PySem.P.add_tuple (t:=a) (b:=b) (items:=vals) (items2:=vals') (n:=n) (n2:=n') (I.z _ m) (I.z _ m') (fun hq=>hc.1.2 (l1.trans (PP hq))) (fun hq=>hc.2 (l2.trans (PP hq)))
     (lF I (vals:=vals++vals') (by rw[Array.toList_append];exact t.append t') P s.toks) (by rw[sizeLine_eq];lia)
  . have hlen:=dN hc
    apply fe I hx ra;intro a vals n ho t;apply fe I hy rb;intro b vals' n' ho' t'
    have l1:=bJ t
    have l2:=bJ t'
    rw[Px]at hlen
    exact concat_meets ⟨_,ho,rfl⟩ ⟨_,ho',rfl⟩ noFill_list_add seq_list_add PySem.F.slot_list_add PySem.F.entry_list_add (PySem.F.args_list_add_2 _ _) (list_addW a b vals vals' n n' none none #[] #[] (by rw[sizeLine_eq];lia))
     ⟨ho,ho',kH K I (vals:=vals++vals') (by rw[Array.toList_append];exact t.append t') (Pz e) P s.toks⟩
 |Sub =>
  apply iR e ra rb;intro x y t u e
  exact PyProof.Rows.sub_int ((P.at e).tok I _ vIn)
 |Mult =>
  refine lC e (fun x hx e=>bE e fun y hy e=>ifE e fun hc e=>?_) fun _ e=>bE e fun y hy e=>bE e fun xs hx e=>ifE e fun hc e=>?_
  . apply fp hx ra;intro t;apply fp hy rb;intro u
    have h1:=gN (Bool.and_eq_true_iff.mp hc).1
    exact PyProof.Rows.mul_int ((P.at e).tok I _ vIn) (IntMulOk.of_left (intBits_le_64 (by lia) (by lia)))
  . rw[PJ,PJ,decide_eq_true_eq,decide_eq_true_eq,decide_eq_true_eq]at hc
    apply fe I hx ra;intro a vals n ho t;apply fp hy rb;intro u
    have l1:=bJ t
    have hz:vals.size*y.toNat<=2^24:=by
     have:vals.size*y.toNat<=1000*1000:=Nat.mul_le_mul (by lia) (by lia)
     exact Py ‹_› (by decide)
    refine wpAny_binaryOp_repeat_ref (T:="list") (U:="int") (by decide) ⟨_,ho,rfl⟩ (fun s'=>typeIs_int s' y u) noFill_list_mul PySem.F.fills_int_mul PySem.F.slot_int_rmul repeat_list PySem.F.slot_int_index.lookup
     (call_meets PySem.F.slot_int_rmul (typeIs_int s y u) PySem.F.entry_int_rmul (PySem.F.args_int_rmul_2 _ _) (int___rmul___int_list y u a vals n)
      ⟨ho,rfl,⟨_,ho,rfl⟩,call_meets PySem.F.slot_list_mul ⟨_,ho,rfl⟩ PySem.F.entry_list_mul (PySem.F.args_list_mul_2 _ _)
       (AutoListH.list___mul___list_int_3 a vals n y u (by simp[Builtin.List.listFitsIndex];lia) (by lia) (by simp[Builtin.List.listTooLong,sizeLine];exact Py ‹_› (by decide)))
       ⟨ho,kH K I ?_ (Pz e) P s.toks⟩⟩)
    rw[q7]
    by_cases hv:vals.isEmpty=true
    . rw[if_pos hv]
      have:xs=[]:=List.length_eq_zero_iff.mp (l1.trans (by simpa [Array.isEmpty]using hv))
      subst this
      simp;exact .nil
    . rw[if_neg hv]
      simpa using t.replicate y.toNat
 |FloorDiv =>
  apply iR e ra rb;intro x y t u e
  refine ifE e fun hc e=>?_
  rw[PJ,decide_eq_true_eq,decide_eq_true_eq]at hc
  exact floordiv_int (by lia) ((P.at e).tok I _ vIn) (.inl (PyProof.noPylong_small (by omega)))
 |Mod =>
  apply iR e ra rb;intro x y t u e
  refine ifE e fun hc e=>?_
  have hc:=PP hc
  exact mod_int' (by lia) ((P.at e).tok I _ vIn)
 |_=>exact ax e
end
section
variable{C:Ctx}{O:Map}{J J':Hp}{s:Shared}{A:Around}{d:Nat}{E:Value->Shared->Prop}
noncomputable abbrev sK(C:Ctx):=strKind C.prog C.w
noncomputable def KV(C:Ctx)(O:Map)(p:Str×V)(q:Str×Value):Prop:=q.1=p.1/\ac C O p.2 q.2
theorem vg{es:List (Str×V)}{kvs:List (Str×Value)}(t:ag (KV C O) es kvs):kvs.map (·.1)=es.map (·.1):=by
 induction t with
 |nil=>rfl
 |cons h _ ih=>rw[List.map_cons,List.map_cons,ih,h.1]
theorem EA{es:List (Str×V)}{ents:List DictEntry}(t:ag (fo C O) es ents):∃kvs,Pairs (sK C) ents kvs/\ag (KV C O) es kvs/\KeysOf (sK C) ents.toArray:=by
 induction t with
 |nil=>exact⟨[],.nil,.nil,fun e h=>by simp at h⟩
 |@cons p e es ents h _ ih =>
  refine bI (ih) ?_;rintro kvs h1 h2 h3
  refine eW (h) ?_;rintro hh ⟨tk,hk⟩ hv
  have is:(sK C).is p.1 e.key=true:=by rw[hk];exact strKind_is _ _ _ _
  refine⟨(p.1,e.val)::kvs,.cons is rfl h1,.cons ⟨rfl,hv⟩ h2,fun x hx=>?_⟩
  rcases PZ.mp (by simpa using hx)with rfl | hx
  .exact⟨p.1,is,hh⟩
  .exact h3 x (by simpa using hx)
theorem zY{es:List (Str×V)}{kvs:List (Str×Value)}{ents:List DictEntry}(h1:Pairs (sK C) ents kvs)(h2:ag (KV C O) es kvs)(h3:∀e∈ents,∃k,(sK C).is k e.key=true/\e.hash=(sK C).hash k):ag (fo C O) es ents:=by
 induction h1 generalizing es with
 |nil=>cases h2;exact .nil
 |@cons e kv ents kvs i1 i2 _ ih =>
  cases h2 with
  |@cons p _ es _ k1 k2 =>
   refine .cons ?_ (ih k2 fun e he=>h3 e (.tail _ he))
   refine ae (h3 e (.head _)) ?_;rintro k a b
   have:k=kv.1:=(sK C).inj _ _ _ a i1
   subst this
   refine⟨?_,?_,?_⟩
   .rw[<- k1.1];exact b
   .rw[<- k1.1];exact Value.isStrOf_shape i1
   .rw[i2];exact k1.2
theorem gh{es:List (Str×V)}{ents:List DictEntry}{n:Nat}{h:Heap}{a:Addr}(ho:h.get? a=some (gM ents n))(t:ag (fo C O) es ents)(nd:(es.map (·.1)).Nodup):∃kvs,h.DictOf (sK C) a kvs/\ag (KV C O) es kvs:=by
 refine bI (EA t) ?_;rintro kvs h1 h2 h3
 exact⟨kvs,⟨_,ents.toArray,n,ho,⟨rfl,rfl,rfl⟩,rfl,h3,by simpa using h1,by rw[vg h2];exact nd⟩,h2⟩
theorem pQ{es:List (Str×V)}{kvs:List (Str×Value)}{h:Heap}{a:Addr}(D:h.DictOf (sK C) a kvs)(t:ag (KV C O) es kvs):∃o,h.get? a=some o/\mz C O (.dict es) o:=by
 refine xE (D) ?_;rintro⟨c,dd,dat,sl⟩ ents n ho ⟨e1,e2,e3⟩ ed hk hp nd
 simp only at e1 e2 e3 ed
 subst e1 e2 e3 ed
 exact⟨_,ho,ents.toList,n,by simp[gM],zY hp t fun e he=>hk e (Array.mem_toList_iff.mp he),by rw[<- vg t];exact nd⟩
theorem xN{α:Type}{R:α->Value->Prop}{es:List (Str×α)}{kvs:List (Str×Value)}(t:ag (fun p q=>q.1=p.1/\R p.2 q.2) es kvs)(x:Str):(∀v,es.lookup x=some v->∃val,valueAt kvs x=some val/\R v val)/\(es.lookup x=none->valueAt kvs x=none):=by
 induction t with
 |nil=>exact⟨fun v h=>ax h,fun _=>rfl⟩
 |@cons p q es kvs h _ ih =>
  obtain⟨y,w⟩:=p
  rw[PX]
  by_cases hx:x=y
  . subst hx
    rw[P2]
    refine⟨fun v e=>?_,fun h=>nomatch h⟩
    exact⟨q.2,by simp[valueAt,h.1],Pz e▸h.2⟩
  . rw[PC.mpr hx]
    have:valueAt (q::kvs) x=valueAt kvs x:=by
     unfold valueAt
     rw[List.find?_cons,P6 (h.1▸Ne.symm hx)]
    rw[this]
    exact ih
theorem lG{es:List (Str×V)}{kvs:List (Str×Value)}(t:ag (KV C O) es kvs)(x:Str):(∀v,es.lookup x=some v->∃val,valueAt kvs x=some val/\ac C O v val)/\(es.lookup x=none->valueAt kvs x=none):=xN t x
theorem uz{es:List (Str×V)}{kvs:List (Str×Value)}(t:ag (KV C O) es kvs)(x:Str){d:V}{vd:Value}(r:ac C O d vd):ac C O ((es.lookup x).getD d) ((valueAt kvs x).getD vd):=by
 obtain⟨l1,l2⟩:=lG t x
 cases q:es.lookup x with
 |none=>rw[l2 q];exact r
 |some v=>refine ae (l1 v q) ?_;rintro val hv rv;rw[hv];exact rv
theorem CE{es:List (Str×V)}{kvs:List (Str×Value)}(t:ag (KV C O) es kvs)(x:Str):(valueAt kvs x).isSome=(es.lookup x).isSome:=by
 obtain⟨l1,l2⟩:=lG t x
 cases q:es.lookup x with
 |none=>rw[l2 q];rfl
 |some v=>refine ae (l1 v q) ?_;rintro val hv rv;rw[hv];rfl
theorem q8{es:List (Str×V)}{kvs:List (Str×Value)}(t:ag (KV C O) es kvs)(nd:(es.map (·.1)).Nodup)(x:Str){v:V}{val:Value}(r:ac C O v val):ag (KV C O) (d7 x v es) (stored kvs x val):=by
 induction t with
 |nil=>exact .cons ⟨rfl,r⟩ .nil
 |@cons p q es kvs h t ih =>
  obtain⟨k1,k2⟩:=h
  obtain⟨y,w⟩:=p
  simp only at k1 k2
  rw[List.map_cons,List.nodup_cons]at nd
  unfold d7
  by_cases hx:x=y
  . subst hx
    rw[P2,if_pos rfl]
    have hn:x∉kvs.map (·.1):=by rw[vg t];exact nd.1
    have e:stored (q::kvs) x val=(q.1,val)::kvs:=by
     unfold stored
     rw[if_pos (by simp[k1]),List.map_cons,if_pos k1,map_store_of_not_mem kvs _ val hn]
    rw[e]
    exact .cons ⟨k1,r⟩ t
  . rw[PC.mpr hx,if_neg Qc]
    have hq:q.1≠x:=by rw[k1];exact fun e=>hx e.symm
    have e:stored (q::kvs) x val=q::stored kvs x val:=by
     unfold stored
     rw[List.any_cons,P6 hq,Bool.false_or]
     split
     .rw[List.map_cons,if_neg hq]
     .rfl
    rw[e]
    exact .cons ⟨k1,k2⟩ (ih nd.2)
theorem nQ(x:Str)(v:V):∀es:List (Str×V),(d7 x v es).map (·.1)=es.map (·.1)\/((d7 x v es).map (·.1)=es.map (·.1)++[x]/\x∉es.map (·.1))
 |[]=>.inr ⟨rfl,by simp⟩
 |(y,w)::r=>by
  unfold d7
  by_cases hx:x=y
  .subst hx;rw[P2,if_pos rfl];exact .inl rfl
  . rw[PC.mpr hx,if_neg Qc]
    rcases nQ x v r with h | ⟨h,k⟩
    .exact .inl (by rw[List.map_cons,List.map_cons,h])
    .exact .inr ⟨by rw[List.map_cons,List.map_cons,h];rfl,by simp[hx];simpa using k⟩
theorem rh{x:Str}{v:V}{es:List (Str×V)}(nd:(es.map (·.1)).Nodup):((d7 x v es).map (·.1)).Nodup:=by
 rcases nQ x v es with h | ⟨h,k⟩
 .rw[h];exact nd
 . rw[h]
   exact List.nodup_append.mpr ⟨nd,by simp,fun a ha b hb=>by rw[PH.mp hb];rintro rfl;exact k ha⟩
theorem iS(I:ap C O J s.heap){n:Nat}{a:Addr}(e:O.am[n]?=some a):(a==sysModules)=false:=PC.mpr (I.low a (List.mem_of_getElem? e))
theorem J9(R:tp A d)(I:ap C O J s.heap){x c:V}{vx vc:Value}{b:Bool}(e:inI J x c=some b)(rx:ac C O x vx)(rc:ac C O c vc){Q:Value->Shared->Prop}:
 ((∀t,Q (.bool b) { s with toks:=t})->wpAny (model C.prog C.w) A (compareOp .In vx vc) Q E s)/\((∀t,Q (.bool (!b)) { s with toks:=t})->wpAny (model C.prog C.w) A (compareOp .NotIn vx vc) Q E s):=by
 have hu:A.in1.units+16<cLine:=by have:=R.units;show A.units+1+16<cLine;lia
 refine lC e (fun xs hx e=>?_) fun _ e=>lC e (fun k hk e=>?_) fun _ e=>?_
 . apply qY I hx rc
   . intro a vals n ho t
     refine ae (Ez (A:=A.in1) I e t rx hu) ?_;rintro g hg rfl
     exact⟨fun h=>in_listAt g (isL ho) hg (h s.toks),fun h=>notIn_listAt g (isL ho) hg (h s.toks)⟩
   . intro a vals n m t
     refine ae (Ez (A:=A.in1) I e t rx hu) ?_;rintro g hg rfl
     exact⟨fun h=>in_tupleAt g (cn I m) hg (h s.toks),fun h=>notIn_tupleAt g (cn I m) hg (h s.toks)⟩
 . apply u9 I e rc;intro n es a xs ha D t e
   have hb:=(zJ t k).trans (Pz e)
   have hr:(tkC C).room A.in1:=by have:=R.units;show A.units+1<cLine;exact PK (Nat.le_add_right _ _) ‹_›
   apply zG I hk rx;intro b kb _
   exact⟨fun h=>wpAny_in_heap hr kb (iS I ha) D (by rw[hb];exact h _),fun h=>wpAny_notIn_heap hr kb (iS I ha) D (by rw[hb];exact h _)⟩
 . apply u8 I e rc
   . intro n xs a vals k hn ha ho t e
     exact ax e
   . intro n es a ents k hn ha ho t nd e
     refine mE e fun x hx e=>?_
     apply jR hx rx;intro tk
     refine ae (gh ho t nd) ?_;rintro kvs D kv
     have hb:=(CE kv x).trans e
     exact⟨fun h=>wpAny_in_of (strKind_is _ _ _ _) (iS I ha) D.mapOf (by rw[hb];exact h _),fun h=>wpAny_notIn_of (strKind_is _ _ _ _) (iS I ha) D.mapOf (by rw[hb];exact h _)⟩
theorem EB{a b:V}{va vb:Value}{r:Bool}(e:isQ a b=some r)(ra:ac C O a va)(rb:ac C O b vb){Q:Value->Shared->Prop}:(Q (.bool r) s->wpAny (model C.prog C.w) A (compareOp .Is va vb) Q E s)/\(Q (.bool (!r)) s->wpAny (model C.prog C.w) A (compareOp .IsNot va vb) Q E s):=by
 refine ifE e fun hb e=>?_
 apply qX hb rb
 cases a with
 |none=>apply elN ra;exact Pz e▸⟨fun h=>is_none h,fun h=>isNot_none h⟩
 |int i=>apply elI ra;intro t;exact Pz e▸⟨fun h=>is_none h,fun h=>isNot_none h⟩
 |str i=>apply elS ra;intro t;exact Pz e▸⟨fun h=>is_none h,fun h=>isNot_none h⟩
 |inst c n =>
  simp only[ac]at ra
  refine aU (ra) ?_;rintro x dx K rfl _
  exact Pz e▸⟨fun h=>is_none h,fun h=>isNot_none h⟩
 |_=>exact ax e
theorem zZ(R:tp A d)(I:ap C O J s.heap){op:CmpOp}{a b:V}{va vb:Value}{r:Bool}(e:aM J op a b=some r)(ra:ac C O a va)(rb:ac C O b vb){Q:Value->Shared->Prop}(h:∀t,Q (.bool r) { s with toks:=t}):
 wpAny (model C.prog C.w) A (compareOp op va vb) Q E s:=by
 have h0:=h s.toks
 cases op with
 |Eq=>exact(Ey I e ra rb R.u).1 _ _ _ _ h0
 |NotEq=>exact mE e fun q e er=>(Ey I e ra rb R.u).2 _ _ _ _ (er▸h0)
 |Lt=>apply iR e ra rb;intro x y t u e;exact PyProof.Rows.lt_int (Pz e▸h0)
 |LtE=>apply iR e ra rb;intro x y t u e;exact PyProof.Rows.le_int (Pz e▸h0)
 |Gt=>apply iR e ra rb;intro x y t u e;exact PyProof.Rows.gt_int (Pz e▸h0)
 |GtE=>apply iR e ra rb;intro x y t u e;exact PyProof.Rows.ge_int (Pz e▸h0)
 |In=>exact(J9 R I e ra rb).1 h
 |NotIn=>exact mE e fun q e er=>(J9 R I e ra rb).2 (er▸h)
 |Is=>exact(EB e ra rb).1 h0
 |IsNot=>exact mE e fun q e er=>(EB e ra rb).2 (er▸h0)
theorem Mt(I:ap C O J s.heap){op:UnaryOp}{a r:V}{va:Value}(e:unI op a J=some r)(ra:ac C O a va){Q:Value->Shared->Prop}(P:eL C O s J r Q):
 wpAny (model C.prog C.w) A (unaryOp op va) Q E s:=by
 cases op with
 |USub =>
  refine mE e fun i hi e=>?_
  apply fp hi ra;intro t
  exact PyProof.Rows.neg_int (P.tok I _ (e▸vIn))
 |Not=>exact mE e fun q e er=>PyProof.Rows.not_of (q6 I e ra fun t=>P.tok I _ (er▸vBl))
 |_=>exact ax e
theorem EC(I:ap C O J s.heap){c:Const}{r:V}{env:Env}(e:qO c=some r){Q:Value->Shared->Prop}(P:eL C O s J r Q):
 wpAny (model C.prog C.w) A (constValue env c) Q E s:=by
 cases c with
 |none=>exact P3 (P.here I (v:=.none) (Pz e▸vNo))
 |bool b=>exact P3 (P.here I (v:=.bool _) (Pz e▸vBl))
 |int i=>exact wpAny_mkInt (P.tok I _ (v:=.int _ _) (Pz e▸vIn))
 |str x=>exact wpAny_mkText (P.tok I _ (v:=.str _ _) (Pz e▸vSt))
 |_=>exact ax e
theorem pR{k:Int}{n j:Nat}(e:seqIndex? k n=some j):j<n/\(0<=k->j=k.toNat)/\(k<0->j=(k+n).toNat /\ -(n:Int)<=k):=by
 unfold seqIndex? at e
 by_cases h:k<0
 . simp only[h,if_true]at e
   split at e
   . rename_i hc
     simp only[PJ,decide_eq_true_eq]at hc
     cases e
     exact⟨by lia,fun q=>absurd ‹_› (Int.not_lt.mpr ‹_›),fun _=>⟨rfl,by lia⟩⟩
   .exact ax e
 . simp only[h,if_false]at e
   split at e
   . rename_i hc
     simp only[PJ,decide_eq_true_eq]at hc
     cases e
     exact⟨by omega,fun _=>rfl,fun q=>absurd q h⟩
   .exact ax e
theorem CG(I:ap C O J s.heap){xs:List V}{k:Int}{r:V}{a:Addr}{vals:Array Value}{u:Tok}(e:gH xs k=some r)(t:ag (ac C O) xs vals.toList)(L:s.heap.IsList a vals){Q:Value->Shared->Prop}(P:eL C O s J r Q):
 wpAny (model C.prog C.w) A (getItem (.ref a) (.int k u)) Q E s:=by
 unfold gH at e
 split at e
 . rename_i hs
   obtain⟨b1,b2⟩:=gN hs
   refine bE e fun j hj hx=>?_
   refine ae (t.get hx) ?_;rintro y hy ry
   rw[Array.getElem?_toList]at hy
   refine eW (pR hj) ?_;rintro g1 g2 g3
   have hl:=bJ t
   by_cases h:k<0
   . obtain⟨g3,g4⟩:=g3 h
     rw[hl]at g3 g4
     exact wpAny_getItem_list_neg L h g4 (by lia) (by rw[<- g3];exact hy) (P.here I ry)
   .exact wpAny_getItem_list L (Int.not_lt.mp ‹_›) (P5 ‹_› (by decide)) (by rw[<- g2 (Int.not_lt.mp ‹_›)];exact hy) (P.here I ry)
 .exact ax e
theorem z5(I:ap C O J s.heap){xs:List V}{k:Int}{r:V}{a:Addr}{vals:Array Value}{n:Nat}{u:Tok}(e:gH xs k=some r)(t:ag (ac C O) xs vals.toList)(L:s.heap.get? a=some (ju vals n)){Q:Value->Shared->Prop}(P:eL C O s J r Q):
 wpAny (model C.prog C.w) A (getItem (.ref a) (.int k u)) Q E s:=by
 unfold gH at e
 split at e
 . rename_i hs
   obtain⟨b1,b2⟩:=gN hs
   refine bE e fun j hj hx=>?_
   refine ae (t.get hx) ?_;rintro y hy ry
   rw[Array.getElem?_toList]at hy
   have hl:=bJ t
   rw[hl]at hj
   exact PyProof.Rows.getItem_tuple ⟨_,L,rfl,n,rfl⟩ (by lia) (P5 ‹_› (by decide)) hj hy (P.here I ry)
 .exact ax e
theorem ED(I:ap C O J s.heap){o i r:V}{vo vi:Value}(e:ai J o i=some r)(ro:ac C O o vo)(ri:ac C O i vi){value slice:Expr}(hu:A.units+1<cLine)(hs:∃ops,subscripted slice false vo vi=operate ops (getItem vo vi)){Q:Value->Shared->Prop}(P:eL C O s J r Q):
 wpAny (model C.prog C.w) A (subscriptTail value slice vo vi) Q E s:=by
 refine lC e (fun xs hx e=>bE e fun k hk e=>?_) fun _ e=>lC e (fun k hk e=>?_) fun _ e=>?_
 . revert hs
   apply fp hk ri;intro u
   apply qY I hx ro
   . rintro a vals n ho t ⟨ops,hs⟩
     exact tail_any ⟨_,ho,rfl⟩ list_getitem_lookup (CG I e t (isL ho) P) hs
   . rintro a vals n m t ⟨ops,hs⟩
     exact tail_any ⟨_,I.z _ m,rfl⟩ PyProof.Rows.slot_tuple_getitem.lookup (z5 I e t (I.z _ m) P) hs
 . revert hs
   apply u9 I e ro;intro n es a xs ha D t e
   apply zG I hk ri;rintro b kb _ ⟨ops,hs⟩
   refine ae ((xJ t k).1 r e) ?_;rintro p hp rv
   exact tail_any D.typeIs slot_dict_getitem.lookup (wpAny_getItem_heap hu kb D hp (P.tok I _ rv)) hs
 . revert hs
   apply u8 I e ro
   . intro n xs a vals k hn ha ho t e
     exact ax e
   . intro n es a ents k hn ha ho t nd e
     refine bE e fun x hx e=>?_
     apply jR hx ri;rintro u ⟨ops,hs⟩
     refine ae (gh ho t nd) ?_;rintro kvs D kv
     refine ae ((lG kv x).1 r e) ?_;rintro val hv rv
     exact tail_any ⟨_,ho,rfl⟩ slot_dict_getitem.lookup (wpAny_getItem_of (strKind_is _ _ _ _) D.mapOf hv (P.tok I _ rv)) hs
noncomputable def Ka(C:Ctx)(O:Map)(s:Shared)(J':Hp)(Q:Shared->Prop):Prop:=∀O' s',al O O' s s'->ap C O' J' s'.heap->Q s'
theorem EE(I:ap C O J s.heap){o i v:V}{vo vi vv:Value}(e:d8 J o i v=some J')(ro:ac C O o vo)(ri:ac C O i vi)(rv:ac C O v vv){Q:Unit->Shared->Prop}(hu:A.units+1<cLine)(P:Ka C O s J' (Q ())):
 wpAny (model C.prog C.w) A (setItem vo vi vv) Q E s:=by
 refine lC e (fun k hk e=>?_) fun _ e=>?_
 . apply u9 I e ro;intro n es a xs ha D t e
   refine ifE e fun hz e=>?_
   have hz:=PP hz
   cases e
   apply zG I hk ri;intro b kb rb
   refine wpAny_setItem_heap (knd:=tkC C) hu kb D (fun h' D' hs=>?_) (by rw[<- t.length,sizeLine_eq];exact Nat.le_of_lt (PU ‹_› (by decide)))
   have nd:(xs.map (·.1)).Nodup:=by refine qT (D) ?_;rintro _ _ _ _ _ _ _ ⟨_,nd⟩;exact nd
   refine ae (Er D' (Hx t nd hk rb rv)) ?_;rintro o' ho' r'
   have hsame:∀b,b≠a->∀x,s.heap.get? b=some x->h'.get? b=some x:=fun b hb x hx=>(hs.2 b hb).trans hx
   exact P O _ (al.turn ha hsame) (I.turn ha hsame ho' r')
 apply u8 I e ro
 . intro n xs a vals c hn ha ho t e
   refine bE e fun x hx e=>ifE e fun hs e=>mE e fun j hj e=>?_
   subst e
   apply fp hx ri;intro u
   obtain⟨b1,b2⟩:=gN hs
   refine eW (pR hj) ?_;rintro g1 g2 g3
   have hl:=bJ t
   have fin:Q () { s with heap:=s.heap.update a (Obj.mapSeq (·.setIfInBounds j vv))}:=by
    have hsame:∀b,b≠a->∀x,s.heap.get? b=some x->(s.heap.update a (Obj.mapSeq (·.setIfInBounds j vv))).get? b=some x:=fun b hb x hx=>((Heap.SameBut.update s.heap a _).2 b hb).trans hx
    refine P O _ (al.turn ha hsame) (I.turn ha hsame (Heap.get?_update_self _ ho rfl) ⟨vals.setIfInBounds j vv,c,by simp[Obj.mapSeq],?_⟩)
    rw[Array.toList_setIfInBounds]
    exact t.set j rv
   by_cases h:x<0
   . obtain⟨g3,g4⟩:=g3 h
     rw[hl]at g3 g4
     exact ki_setBack ho h g4 (by lia) (by rw[<- g3];exact fin)
   .exact ki_setAt ho (Int.not_lt.mp ‹_›) (P5 ‹_› (by decide)) (by lia) (by rw[<- g2 (Int.not_lt.mp ‹_›)];exact fin)
 . intro n es a ents c hn ha ho t nd e
   refine bE e fun x hx e=>ifE e fun hz e=>?_
   have hz:=PP hz
   cases e
   apply jR hx ri;intro u
   refine ae (gh ho t nd) ?_;rintro kvs D kv
   refine wpAny_setItem_pairs (strKind_is _ _ _ _) D (fun h' D' hs=>?_) (by rw[<- kv.length,sizeLine_eq];exact Nat.le_of_lt (PU ‹_› (by decide)))
   refine ae (pQ D' (q8 kv nd x rv)) ?_;rintro o' ho' r'
   have hsame:∀b,b≠a->∀x,s.heap.get? b=some x->h'.get? b=some x:=fun b hb x hx=>(hs.2 b hb).trans hx
   exact P O _ (al.turn ha hsame) (I.turn ha hsame ho' r')
end
noncomputable def Kv(C:Ctx)(O:Map)(p:Str×V)(q:Str×Value):Prop:=q.1=p.1/\ac C O p.2 q.2
noncomputable def vh(C:Ctx)(kw:List Value)(x:Src)(v:Value):Prop:=match x with
 |.kw k=>kw[k]?=some v
 |.dflt d=>ac C ⟨[],C.Z₀⟩ d v
noncomputable def mB(sc:Scope):Bool:=decide (sc.kind=.function) && !sc.isCoroutine && !sc.isGenerator&&sc.names.all (fun p=>p.2==.local||p.2==.cell||p.2==.globalImplicit)&&decide ((sc.names.map (·.1)).Nodup)&&sc.names.all (fun p=>p.1 != ("__debug__":Str))
inductive Mu(C:Ctx)(c m:Str)(fd:aA):Prop where
 |mk {f oc od osl name qual params dV kV doc pm an cdv ct} (h1:C.fnA c m=some f) (h2:C.K.lookup f=some ⟨oc,od,.func (fnOf name qual params fd.body fd.scope dV kV doc pm an cdv ct),osl⟩) (h3:codeIn C.K cdv qual=true) (h4:isFn C.K (.ref f)=true)
  (h5:∀sh∈fd.shapes,∀vals kwv:List Value,vals.length=sh.1->kwv.length=sh.2.1.length->∃r,ag (vh C kwv) sh.2.2 r /\
   ∀S,peek C.K S (bindArgs (fnOf name qual params fd.body fd.scope dV kV doc pm an cdv ct) ⟨vals,sh.2.1.zip kwv⟩)=some (fd.params.zip (vals++r))):Mu C c m fd
structure CH(C:Ctx)(c m:Str)(fd:aA):Prop where
 ok:mB fd.scope=true
 params:∀x∈fd.params,fd.scope.names.lookup x=some .local\/fd.scope.names.lookup x=some .cell
 pnodup:fd.params.Nodup
 at_:Mu C c m fd
inductive uB(C:Ctx)(c:Str)(cd:cF):Prop where
 |mk {a fI:Addr} (h1:C.clA c=some a) (h2:plainGet C.K a ""=true) (h3:hasDictIn C.K a=true) (h4:findIn C.K (.ref a) "__setattr__"=some (some (.builtin "object.__setattr__"))) (h5:plainOver C.K a=true) (h6:makesIn C.K a=true)
  (h7:findIn C.K (.ref a) "__init__"=some (some (.ref fI))) (h8:C.fnA c "__init__"=some fI) (h9:isFn C.K (.ref fI)=true) (h10:keepIn C.K (.ref a)=true) (h11:∀x∈cd.attrs,findIn C.K (.ref a) x=some none)
  (h12:∀x∈cd.meths,∃f,findIn C.K (.ref a) x=some (some (.ref f))/\C.fnA c x=some f/\isFn C.K (.ref f)=true):uB C c cd
structure cp(C:Ctx)(T:Tab):Prop where
 fns:∀c m fd,T.fns.lookup (c,m)=some fd->CH C c m fd
 cls:∀c cd,T.cls.lookup c=some cd->uB C c cd
 glob:∀x v,T.glob.lookup x=some v->∃val,ac C ⟨[],C.Z₀⟩ v val/\(nsIn C.K mainGlobals x=some (some val)\/(nsIn C.K mainGlobals x=some none/\bootBuiltins x=some val/\x ≠ "__name__"))
 fnv:∀c m f,C.fnA c m=some f->keepIn C.K (.ref f)=true
 clv:∀c a,C.clA c=some a->∃cd,T.cls.lookup c=some cd
section
variable{C:Ctx}{T:Tab}{O:Map}{J J':Hp}{s:Shared}{A:Around}{d:Nat}{E:Value->Shared->Prop}
theorem lH(K:aT C)(I:ap C O J s.heap):C.K.In s.heap:=K.kin.keeps I.base
theorem CI{v:V}{val:Value}(r:ac C O v val)(hb:∀id,v≠.bi id):handedIn val=true:=by
 cases v with
 |none=>simp only[ac]at r;subst r;rfl
 |bool b=>simp only[ac]at r;subst r;rfl
 |int i=>simp only[ac]at r;obtain⟨t,rfl⟩:=r;rfl
 |str i=>simp only[ac]at r;obtain⟨t,rfl⟩:=r;rfl
 |tup xs=>simp only[ac]at r;refine aU (r) ?_;rintro a vals n rfl _;rfl
 |lst xs=>simp only[ac]at r;refine aU (r) ?_;rintro a vals n rfl _;rfl
 |rng a b=>simp only[ac]at r;refine bu (r) ?_;rintro a o rfl _;rfl
 |ref n=>simp only[ac]at r;refine ae (r) ?_;rintro a rfl _;rfl
 |inst c n=>simp only[ac]at r;refine aU (r) ?_;rintro a dx K rfl _;rfl
 |fn c m=>simp only[ac]at r;refine ae (r) ?_;rintro a rfl _;rfl
 |cls c=>simp only[ac]at r;refine ae (r) ?_;rintro a rfl _;rfl
 |bi id=>exact absurd rfl (hb id)
 |ty T=>simp only[ac]at r;subst r;rfl
 |jd es=>simp only[ac]at r;refine aU (r) ?_;rintro a ents n rfl _;rfl
theorem pS{p:Str×V}{e:DictEntry}(h:fo C O p e)(x:Str):e.key.isStr x=(x==p.1):=by
 refine eW (h) ?_;rintro _ ⟨t,ht⟩ _
 rw[ht]
 show(p.1==x)=_
 rw[Bool.eq_iff_iff,P4,P4]
 exact eq_comm
theorem pT{p:Str×V}{e:DictEntry}(h:fo C O p e):e.refKey=false:=by
 refine eW (h) ?_;rintro _ ⟨t,ht⟩ _
 obtain⟨hs,k,v⟩:=e
 simp only at ht
 subst ht
 rfl
theorem vj{es:List (Str×V)}{ents:List DictEntry}(t:ag (fo C O) es ents)(x:Str):(ents.any (·.refKey))=false/\(∀v,es.lookup x=some v->∃val,getL x ents=some (some val)/\ac C O v val)/\(es.lookup x=none->getL x ents=some none/\ents.any (·.key.isStr x)=false):=by
 have nr:∀ {es:List (Str×V)}{ents:List DictEntry},ag (fo C O) es ents->(ents.any (·.refKey))=false:=by
  intro es ents t
  induction t with
  |nil=>rfl
  |cons h _ ih=>rw[List.any_cons,pT h,ih];rfl
 refine⟨nr t,?_⟩
 induction t with
 |nil=>exact⟨fun v h=>by simp at h,fun _=>⟨rfl,rfl⟩⟩
 |@cons p e es ents h t ih =>
  have hk:=pS h x
  obtain⟨y,w⟩:=p
  simp only at hk
  have n1:=nr t
  rw[PX]
  by_cases hx:x=y
  . subst hx
    rw[P2]
    refine⟨fun v q=>?_,fun q=>by cases q⟩
    cases q
    rw[P2]at hk
    exact⟨e.val,by unfold getL;rw[List.find?_cons,hk],h.2.2⟩
  . rw[PC.mpr hx]at hk ⊢
    have:getL x (e::ents)=getL x ents:=by
     unfold getL
     rw[List.find?_cons,hk,List.any_cons,pT h,Bool.false_or]
    rw[this]
    exact⟨ih.1,fun q=>⟨(ih.2 q).1,by rw[List.any_cons,hk,(ih.2 q).2];rfl⟩⟩
theorem Hz{es:List (Str×V)}{ents:List DictEntry}(t:ag (fo C O) es ents)(x:Str){v:V}{val:Value}{k:Tok}(r:ac C O v val):ag (fo C O) (d7 x v es) (putL x (PyData.keyHash C.w.params x) (.str x k) val ents):=by
 induction t with
 |nil=>exact .cons ⟨rfl,⟨k,rfl⟩,r⟩ .nil
 |@cons p e es ents h t ih =>
  have hk:=pS h x
  obtain⟨y,w⟩:=p
  simp only at hk
  unfold d7 putL
  rw[hk]
  by_cases hx:x=y
  . subst hx
    rw[P2,if_pos rfl,if_pos rfl]
    exact .cons ⟨h.1,h.2.1,r⟩ t
  . rw[PC.mpr hx,if_neg Qc,if_neg Qc]
    exact .cons h ih
theorem vm{β:Type}{o:V}{k:Str->Nat->cF->List (Str×V)->Option β}{r:β}{vo:Value}{G:Value->Prop}(TO:cp C T)(I:ap C O J s.heap)(e:xA T J o k=some r)(ro:ac C O o vo)
 (g:∀c n cd es x dx a ents m,plainGet C.K a ""=true->hasDictIn C.K a=true->findIn C.K (.ref a) "__setattr__"=some (some (.builtin "object.__setattr__"))->plainOver C.K a=true->(∀x∈cd.attrs,findIn C.K (.ref a) x=some none) ->
  (∀x∈cd.meths,∃f,findIn C.K (.ref a) x=some (some (.ref f))/\C.fnA c x=some f/\isFn C.K (.ref f)=true)->PySem.W.InstAt s.heap x (instObj a dx) a (some (gM ents m))->s.heap.get? dx=some (gM ents m)->O.am[n]?=some dx->ag (fo C O) es ents->(es.map (·.1)).Nodup->k c n cd es=some r->G (.ref x)):G vo:=by
 cases o with
 |inst c n =>
  refine bE e fun cd hc e=>Eo e (fun _ _ e=>ax e) fun es hn e=>?_
  simp only[ac]at ro
  refine fR (ro) ?_;rintro x dx a rfl ha m hd
  refine ae (I.cell n _ dx hn hd) ?_;rintro o ho ⟨ents,k,rfl,t,nd⟩
  obtain @⟨ka',fI,h1,h2,h3,h4,h5,h6,h7,h8,h9,h10,h11,h12⟩:=TO.cls c cd hc
  cases Pz (ha.symm.trans h1)
  exact g c n cd es x dx a ents k h2 h3 h4 h5 h11 h12 ⟨I.z _ m,rfl,rfl,ho⟩ ho hd t nd e
 |_=>exact ax e
theorem KS(K:aT C)(TO:cp C T)(I:ap C O J s.heap){o r:V}{a:Str}{vo:Value}{ex:Bool}(e:cG T J o a=some r)(ro:ac C O o vo){Q:Value->Shared->Prop}(P:eL C O s J r Q):
 wpAny (model C.prog C.w) A (getAttr vo a ex) Q E s:=by
 apply vm TO I e ro;intro c n cd es x dx ka ents k h2 h3 h4 h5 h11 h12 IA ho hd t nd e
 refine ifE e fun hat e=>bE e fun v e e'=>ifE e' fun hb e'=>?_
 cases e'
 refine ae ((vj t a).2.1 r e) ?_;rintro val hv rv
 exact get_value (lH K I) IA (plainGet_of h2).1 (findObj_own h3 (h11 a (List.contains_iff_mem.mp hat)) rfl hv) (CI rv fun id q=>by subst q;cases hb) (P.tok I _ rv)
theorem KT(K:aT C)(TO:cp C T)(I:ap C O J s.heap){o v:V}{a:Str}{vo vv:Value}(e:cH T J o a v=some J')(ro:ac C O o vo)(rv:ac C O v vv){Q:Unit->Shared->Prop}(P:Ka C O s J' (Q ())):
 wpAny (model C.prog C.w) A (setAttr vo a vv) Q E s:=by
 apply vm TO I e ro;intro c n cd es x dx ka ents k h2 h3 h4 h5 h11 h12 IA ho hd t nd e
 refine ifE e fun hat e=>ifE e fun hz e=>?_
 have hz:=PP hz
 cases e
 have X:=lH K I
 have ht:takerIn C.K ka a=some none:=by unfold takerIn;rw[h11 a (List.contains_iff_mem.mp hat)];rfl
 refine set_plain X IA h4 (osa_open (s:={ s with toks:=s.toks+1}) X IA h5 ht fun b=>?_)
 refine ae (PySem.W.any_some h3) ?_;rintro cd' hcd hd'
 refine PE (P3 (PE (PE (wpAny_loadPart IA.at_ (PE (Looks.here (s:={ s with toks:=s.toks+1}) (looks_clsIn X hcd) ?_))))))
 rw[hd']
 refine P3 (a:=some dx) (PE (P3 (PE ?_)))
 unfold nsSet
 refine PE (PE (wpAny_askSetting (P3 (PE (wpAny_mkText (PE (wpAny_loadPart ho ?_)))))))
 refine eW (vj t a) ?_;rintro g1 g2 g3
 have cc:(!ents.toArray.any (·.key.isStr a)&&ents.toArray.any (·.refKey))=false:=by
  rw[<- Array.any_toList,<- Array.any_toList]
  show(_&&ents.any (·.refKey))=false
  rw[g1,Bool.and_false]
 dsimp only
 rw[aRefKeyMayBeTheName_at,cc]
 refine wpAny_updatePart ho ?_
 have hnew:Obj.putName a (PyData.keyHash C.w.params a) (.str a (s.toks+1)) vv (gM ents k)=gM (putL a (PyData.keyHash C.w.params a) (.str a (s.toks+1)) vv ents) (putN a ents k):=putName_dict a _ _ vv ents k
 have hsame:∀b,b≠dx->∀y,s.heap.get? b=some y->(s.heap.update dx (Obj.putName a (PyData.keyHash C.w.params a) (.str a (s.toks+1)) vv)).get? b=some y:=fun b hb y hy=>((Heap.SameBut.update s.heap dx _).2 b hb).trans hy
 have hget:(s.heap.update dx (Obj.putName a (PyData.keyHash C.w.params a) (.str a (s.toks+1)) vv)).get? dx=some (gM (putL a (PyData.keyHash C.w.params a) (.str a (s.toks+1)) vv ents) (putN a ents k)):=by
  rw[<- hnew];exact Heap.get?_update_self _ ho (by rw[hnew];rfl)
 have hp:=Hz t a (k:=s.toks+1) rv
 have hlen:(putL a (PyData.keyHash C.w.params a) (.str a (s.toks+1)) vv ents).length<=901:=by
  rw[<- hp.length]
  rcases nQ a v es with q | ⟨q,_⟩
  .have:=PI List.length q;simp at this;lia
  .have:=PI List.length q;simp at this;lia
 refine PE (wpAny_lookBehind hget (pastItsLine_dict (by rw[List.size_toArray,sizeLine_eq];exact Py ‹_› (by decide))) ?_)
 exact P3 (P O _ (al.turn hd hsame) (I.turn hd hsame hget ⟨_,_,rfl,hp,rh nd⟩))
theorem BK{v:V}{val:Value}{p:Option Int}(e:pK v=some p)(r:ac C O v val):IsPart val p:=by
 refine lC e (fun i hi e=>ifE e fun _ e=>?_) fun _ e=>ifE e fun hn e=>?_
 .apply fp hi r;intro t;exact Pz e▸.int _ _
 .apply qX hn r;exact Pz e▸.none
theorem EF(K:aT C)(I:ap C O J s.heap){t:Bool}{o lo hi st r:V}{vo vl vu vs:Value}(e:aG t J o lo hi st=some (r,J'))(ro:ac C O o vo)(rl:ac C O lo vl)(ru:ac C O hi vu)(rs:ac C O st vs)
 {value slice:Expr} (hs:∀x,∃ops,subscripted slice false vo (.ref x)=operate ops (getItem vo (.ref x))) {Q:Value->Shared->Prop} (P:eL C O s J' r Q) :
 wpAny (model C.prog C.w) A (newFields "slice" [vl,vu,vs]) (fun i s₂=>wpAny (model C.prog C.w) A (subscriptTail value slice vo i) Q E s₂) E s:=by
 refine bE e fun xs hx e=>ifE e fun hl e=>?_
 have hl:=dN hl
 revert hs
 apply fe I hx ro;intro a vals n ho tl hs
 have hlen:=bJ tl
 refine wpAny_newObj_type ?_ (by show _<=sizeLine+2;rw[sizeLine_eq];simp)
 obtain⟨ops,hs⟩:=hs s.heap.objs.size
 have L:=Heap.IsList.push (isL ho) { cls:=.type "slice",data:=.fields #[vl,vu,vs]}
 have k1:∀b x,s.heap.get? b=some x->(s.heap.push { cls:=.type "slice",data:=.fields #[vl,vu,vs]}).get? b=some x:=fun b x hx=>Heap.get?_push_of_some _ hx
 have I1:=I.at k1
 have R1:al O O s { s with heap:=s.heap.push { cls:=.type "slice",data:=.fields #[vl,vu,vs]}}:=al.at (t:=s.toks) k1
 refine tail_any (s:={ s with heap:=s.heap.push { cls:=.type "slice",data:=.fields #[vl,vu,vs]}}) L.typeIs list_getitem_lookup ?_ hs
 have fin:∀ {l u k:Option Int}{ys:List V},IsPart vl l->IsPart vu u->IsPart vs k->k≠some 0->bw t ys J=(r,J')->ag (ac C O) ys (slicePick vals l u k).toList ->
  wpAny (model C.prog C.w) A (getItem (.ref a) (.ref s.heap.objs.size)) Q E { s with heap:=s.heap.push { cls:=.type "slice",data:=.fields #[vl,vu,vs]}}:=fun pl pu pk h0 e q =>
  wpAny_getItem_list_slice L (Heap.IsSliceOf.new ..) pl pu pk h0 (kH K I1 q e (P.after R1) s.toks) (by rw[sizeLine_eq];exact Py (Nat.le_of_eq (Eq.symm ‹_›)) (Py ‹_› (by decide)))
 refine lC e (fun k hk e=>ifE e fun hc e=>?_) fun _ e=>ifE e fun hn e=>bE e fun l hl' e=>bE e fun u hu' e=>?_
 . rw[PJ,PJ,decide_eq_true_eq]at hc
   refine fp (G:=fun v=>IsPart v (some k)) hk rs (fun _=>.int _ _) |> fun ps=>?_
   refine fin (qX (G:=fun v=>IsPart v none) hc.1.1 rl .none) (qX (G:=fun v=>IsPart v none) hc.1.2 ru .none) ps (by rw[hc.2];simp) (Pz e) ?_
   rw[hc.2,krv_pick]
   exact tl.reverse
 . refine fin (BK hl' rl) (BK hu' ru) (qX (G:=fun v=>IsPart v none) hn rs .none) (by simp) (Pz e) ?_
   rw[kms_pick_eq]
   unfold lB kms_pick
   rw[hlen,Array.length_toList]
   exact(tl.drop _).take _
end
section
variable{C:Ctx}{T:Tab}{O:Map}{J J':Hp}{s:Shared}{A:Around}{d:Nat}{E:Value->Shared->Prop}
theorem HA{d:Addr}{xs:List (List AK×Addr×Value)}(hd:(d==sysModules)=false)(D:s.heap.DictOfH (tkC C) d xs)(hfit:(xs.length:Int)<2^63){Q:Value->Shared->Prop}(h:Q (.int xs.length (s.toks+1)) { s with toks:=s.toks+1+1}):wpAny (model C.prog C.w) A (call (.builtin "len") [.ref d]) Q E s:=by
 refine Calls.call_function_entry kind_len plain_len entry_len (args_len1 _) ?_
 obtain⟨o,es,ep,ho,hc,hdat,he,his,hn⟩:=D
 have m:MeetsIn C.prog C.w (Builtin.«dict.__len__» ⟨[.ref d],[]⟩) (fun _ R s'=>s'.heap.get? d=some o/\R (.ok (.ret (.int xs.length s'.toks))) { s' with toks:=s'.toks+1}):=.of_wp fun A R s ⟨ho,h⟩=>by
  show wpAny _ _ (dictSize d >>= _) _ _ s
  unfold dictSize
  refine PE (PE (wpAny_dictEntries ho hdat (P3 ?_)))
  show wpAny _ _ (Builtin.Dict.pendingCount d >>= _) _ _ s
  refine PE (wpAny_pendingCount_other hd ?_)
  refine wpAny_ret_mkInt ?_
  rw[Nat.add_zero,size_of_entries he];exact h
 unfold Builtin.«len»
 refine PE (m:=oneArg "len" _) (P3 ?_)
 refine PE (m:=callSpecial? (.ref d) (Str.ofString "__len__")) (wpAny_callSpecial?_slot (name:=Str.ofString "__len__") ⟨o,ho,hc.1⟩ PySem.F.slot_dict_len (call_meetsIn PySem.F.slot_dict_len ⟨o,ho,hc.1⟩ PySem.F.entry_dict_len (PySem.F.args_dict_len_1 _) m ⟨ho,?_⟩))
 show wpAny _ _ _ _ _ { s with toks:=s.toks+1}
 refine PE (wpAny_holding (P3 ?_))
 refine PE (wpAny_letGo ?_)
 show wpAny _ _ (if((xs.length:Nat):Int)<0 then _ else _) _ _ _
 rw[if_neg (by lia)]
 show wpAny _ _ (if((xs.length:Nat):Int)≥2^63 then _ else _) _ _ _
 rw[if_neg (by lia)]
 exact PE (wpAny_mkInt (P3 ⟨_,rfl,h⟩))
theorem CJ(I:ap C O J s.heap){a:V}{va:Value}{b:Bool}(e:BD a=some b)(ra:ac C O a va){Q:Value->Shared->Prop}(h:∀t,Q (.bool b) { s with toks:=t}):wpAny (model C.prog C.w) A (call (.builtin "isinstance") [va,.type "bool"]) Q E s:=by
 cases a with
 |none=>apply elN ra;exact IsiPair.NoneType_bool (Pz e▸h _)
 |bool i=>apply elB ra;exact IsiPair.bool_bool (Pz e▸h _)
 |str i=>apply elS ra;intro t;exact IsiPair.str_bool (Pz e▸h _)
 |_=>exact ax e
theorem HB{v:V}{T:String}(e:Ml v=some T):v=.ty T:=by
 cases v with
 |ty j=>exact PI V.ty (Pz e)
 |_=>exact ax e
theorem BL:∀ {xs:List V}{vals:List Value}{l:List Int},Ei xs=some l->ag (ac C O) xs vals->∃ys:List (Int×Tok),vals=ys.map (fun p=>.int p.1 p.2)/\ys.map (·.1)=l
 |[],_,l,e,.nil=>⟨[],rfl,by cases e;rfl⟩
 |x::xs,_,l,e,.cons r rs=>bE e fun a h1 e=>mE e fun l' h2 e=>by
  obtain⟨ys,q1,q2⟩:=BL h2 rs
  apply fp h1 r;intro t
  exact⟨(a,t)::ys,by rw[q1];rfl,by rw[List.map_cons,q2];exact e⟩
theorem Mv(K:aT C)(hh:A.handled=none)(I:ap C O J s.heap){t:Bool}{id:String}{args:List V}{vals:List Value}{r:V}(e:biI t id args J=some (r,J'))(ra:ag (ac C O) args vals){Q:Value->Shared->Prop}(P:eL C O s J' r Q):
 wpAny (model C.prog C.w) A (call (.builtin id) vals) Q E s:=by
 refine jy e (fun hid e=>?_) fun e=>jy e (fun hid e=>?_) fun e=>jy e (fun hid e=>?_) fun e=>jy e (fun hid e=>?_) fun e=>ax e
 . subst hid
   refine bE e fun x h1 e=>lC e (fun xs hx e=>ifE e fun hl e=>?_) fun _ e=>?_
   rotate_left
   . rw[jQ h1]at ra
     apply ag.one ra;intro v r1
     apply u9 I e r1;intro n es a xs ha D t e
     refine ifE e fun hz e=>?_
     have hz:=PP hz
     have hl:=t.length
     exact HA (iS I ha) D (by lia) ((P.at e).tok I _ (hl▸vIn))
   rw[jQ h1]at ra
   have hl:=dN hl
   replace P:=P.at e
   apply ag.one ra;intro v r1
   apply qY I hx r1
   . intro a vs n ho tl
     have hlen:=bJ tl
     exact call_len_list (isL ho) (by lia) (P.tok I _ (hlen▸vIn))
   . intro a vs n m tl
     have hlen:=bJ tl
     exact PyProof.Rows.len_tuple (cn I m) (by lia) (P.tok I _ (hlen▸vIn))
 . subst hid
   refine bE e fun p h1 e=>bE e fun T hT e=>jy e (fun q e=>?_) fun e=>ax e
   subst q
   rw[xG h1]at ra
   apply ag.two ra;intro v w r1 r2
   rw[HB hT]at r2
   simp only[ac]at r2
   subst r2
   exact mE e fun b e er=>CJ I e r1 fun t=>(P.at (PI some er)).tok I t vBl
 . subst hid
   refine bE e fun p h1 e=>?_
   rw[xG h1]at ra
   apply ag.two ra;intro v w r1 r2
   apply iR e r1 r2;intro x y t u e
   refine max_two_ints hh fun h' tk hk=>?_
   by_cases q:y>x
   .rw[if_pos q]at e ⊢;exact P.at e O _ _ (al.at hk) (I.at hk) vIn
   .rw[if_neg q]at e ⊢;exact P.at e O _ _ (al.at hk) (I.at hk) vIn
 . subst hid
   refine bE e fun x h1 e=>bE e fun xs hx e=>mE e fun l hl e=>?_
   rw[jQ h1]at ra
   apply ag.one ra;intro v r1
   apply fe I hx r1;intro a vals n ho tl
   obtain⟨ys,q1,q2⟩:=BL hl tl
   have hv:vals=intItems ys.toArray:=by
    apply Array.toList_inj.mp;rw[q1];unfold intItems;simp
   refine sum_intListG hh (xs:=ys.toArray) (hv▸isL ho) fun h' tk t' hk=>?_
   rw[preSum_eq,List.take_of_length_le (by simp),show ys.toArray.toList=ys from rfl,q2]
   exact P.at (PI some e) O _ _ (al.at hk) (I.at hk) vIn
theorem z6(K:aT C)(I:ap C O J s.heap){xs:List V}{vals:Array Value}{c:Nat}{h':Heap}(t:ag (ac C O) xs vals.toList)(k:∀b o',s.heap.get? b=some o'->h'.get? b=some o')(ho:h'.get? s.heap.objs.size=some (listOf vals c))
 {tr:Bool}{r:V} (e:bw tr xs J=(r,J')) {Q:Value->Shared->Prop} (P:eL C O s J' r Q) (tk:Nat):Q (.ref s.heap.objs.size) { s with heap:=h',toks:=tk}:=by
 have fresh:s.heap.get? s.heap.objs.size=none:=by
  cases q:s.heap.get? s.heap.objs.size with
  |none=>rfl
  |some o=>exact absurd (Heap.lt_size q) (Nat.lt_irrefl _)
 have hnew:∀a∈O.am,a≠s.heap.objs.size:=fun a ha q=>by have:=I.lt ha;rw[q]at this;exact Nat.lt_irrefl _ this
 unfold bw at e
 cases tr with
 |true =>
  cases e
  have I1:=(I.track (o:=listOf vals c) (c:=.list xs) K ⟨vals,c,rfl,t⟩)
  have le:O.Le ⟨O.am++[s.heap.objs.size],O.Z⟩:=⟨⟨_,rfl⟩,fun p hp=>hp⟩
  refine P ⟨O.am++[s.heap.objs.size],O.Z⟩ _ _ ⟨le,fun b o _ e=>k b o e,fun a ha na=>?_,fun p hp=>.inl hp,⟨h',tk,rfl⟩⟩ ⟨fun b o e=>k b o (I.base b o e),I1.len,I1.fresh,I1.nodup,I1.low,I1.z₀,fun p hp=>k _ _ (I.z p hp),I1.zam,fun n c' a e1 e2=>?_⟩ ?_
  . rcases PY.mp ha with ha | ha
    .exact absurd ha na
    .rw[PH.mp ha];exact fresh
  . by_cases hn:n<J.length
    . rw[PN hn]at e1
      rw[PN (by rw[I.len];exact hn)]at e2
      refine ae (I.cell n c' a e1 e2) ?_;rintro o' ho' r'
      exact⟨o',k _ _ ho',r'.mono le⟩
    . have en:n=J.length:=by
       have:=(PD.mp e1).1
       simp at this;lia
      subst en
      simp at e1;subst e1
      rw[<- I.len]at e2
      simp at e2;subst e2
      exact⟨_,ho,vals,c,rfl,cE le t⟩
  . simp only[ac]
    exact⟨_,rfl,by rw[<- I.len];simp⟩
 |false =>
  cases e
  have le:O.Le ⟨O.am,(s.heap.objs.size,listOf vals c)::O.Z⟩:=⟨⟨[],by simp⟩,fun p hp=>.tail _ hp⟩
  refine P ⟨O.am,(s.heap.objs.size,listOf vals c)::O.Z⟩ _ _ ⟨le,fun b o _ e=>k b o e,fun _ h k=>absurd h k,fun p hp=>by
   rcases PZ.mp hp with rfl | hp
   .exact .inr fun _=>fresh
   .exact .inl hp,⟨h',tk,rfl⟩⟩ ⟨fun b o e=>k b o (I.base b o e),I.len,I.fresh,I.nodup,I.low,fun p hp=>.tail _ (I.z₀ p hp),fun p hp=>?_,fun p hp=>?_,fun n c' a e1 e2=>?_⟩ ?_
  . rcases PZ.mp hp with rfl | hp
    .exact ho
    .exact k _ _ (I.z p hp)
  . rcases PZ.mp hp with rfl | hp
    .exact fun ha=>hnew _ ha rfl
    .exact I.zam p hp
  . refine ae (I.cell n c' a e1 e2) ?_;rintro o' ho' r'
    exact⟨o',k _ _ ho',r'.mono le⟩
  . simp only[ac]
    exact⟨_,vals,c,rfl,.head _,aL.mpr (cE le t)⟩
theorem xO(I:ap C O J s.heap){o:Obj}{a b:Int}(h:J7 o a b){Q:Value->Shared->Prop}(P:eL C O s J (.rng a b) Q)(tk:Nat):Q (.ref s.heap.objs.size) { s with heap:=s.heap.push o,toks:=tk}:=by
 have hf:o.isFreed=false:=by refine bf (h) ?_;rintro _ _ _ rfl;rfl
 refine P ⟨O.am,(s.heap.objs.size,o)::O.Z⟩ _ _ al.frozen (I.frozen hf) ?_
 simp only[ac]
 exact⟨_,o,rfl,.head _,h⟩
theorem Mw(K:aT C)(I:ap C O J s.heap){t:Bool}{id:String}{args:List V}{vals:List Value}{r:V}(e:tyI t id args J=some (r,J'))(ra:ag (ac C O) args vals){Q:Value->Shared->Prop}(P:eL C O s J' r Q):
 wpAny (model C.prog C.w) A (call (.type id) vals) Q E s:=by
 refine jy e (fun hid e=>?_) fun e=>jy e (fun hid e=>?_) fun e=>jy e (fun hid e=>?_) fun e=>jy e (fun hid e=>?_) fun e=>ax e
 . subst hid
   refine bE e fun x h1 e=>mE e fun i hi e=>?_
   rw[jQ h1]at ra
   apply ag.one ra;intro v r1
   apply fp hi r1;intro t
   exact call_int_int ((P.at (PI some e)).here I vIn)
 . subst hid
   refine bE e fun x h1 e=>bE e fun xs hx e=>ifE e fun hl e=>?_
   rw[jQ h1]at ra
   have hl:=dN hl
   apply ag.one ra;intro v r1
   apply fe I hx r1;intro a vs n ho tl
   have hlen:=bJ tl
   exact call_list_seq (hsz:=by rw[sizeLine_eq];exact Py (Nat.le_of_eq (Eq.symm ‹_›)) (Py ‹_› (by decide))) a (.inl rfl) ho rfl rfl fun h' c' hk hD=>z6 K I tl hk hD (Pz e) P s.toks
 . subst hid
   refine bE e fun x h1 e=>lC e (fun xs hx e=>?_) fun _ e=>bE e fun xs hx e=>ifE e fun hl e=>?_
   . rw[jQ h1]at ra
     apply ag.one ra;intro v r1
     apply zz hx r1;intro a vals n m tl
     exact call_tuple_same (cn I m) ((P.at e).here I (by simp only[ac];exact⟨a,vals,n,rfl,m,aL.mpr tl⟩))
   rw[jQ h1]at ra
   have hl:=dN hl
   replace P:=P.at e
   apply ag.one ra;intro v r1
   apply fe I hx r1;intro a vs n ho tl
   have hlen:=bJ tl
   exact call_tuple_list (hsz:=by rw[sizeLine_eq];exact Py (Nat.le_of_eq (Eq.symm ‹_›)) (Py ‹_› (by decide))) (isL ho) fun h' hk=>lF (s:={ s with heap:=h'}) (I.at hk) tl (P.after (al.at (t:=s.toks) hk)) s.toks
 . subst hid
   refine lC e (fun x h1 e=>bE e fun b hb e=>ifE e fun hs e=>?_) fun _ e=>bE e fun p h1 e=>?_
   . rw[jQ h1]at ra
     obtain⟨b1,b2⟩:=gN hs
     apply ag.one ra;intro v r1
     apply fp hb r1;intro u
     exact call_range_1 (xO I ⟨_,_,_,rfl⟩ (P.at e) _)
   . rw[xG h1]at ra
     apply ag.two ra;intro v w r1 r2
     apply iR e r1 r2;intro x y t u e
     refine ifE e fun hs e=>?_
     exact call_range_2 (xO I ⟨_,_,_,rfl⟩ (P.at e) _)
end
section
variable{C:Ctx}{T:Tab}{O:Map}{J J':Hp}{s:Shared}{A:Around}{d:Nat}{E:Value->Shared->Prop}
noncomputable def Mx(C:Ctx)(k:MK)(a:Str)(f:Value):Prop:=match k with
 |.fn c=>∃x,C.fnA c a=some x/\f=.ref x
 |.bi id=>f=.builtin id
theorem vn(K:aT C)(TO:cp C T)(I:ap C O J s.heap){o:V}{a:Str}{k:MK}{vo:Value}{pl:Sem Bool}(e:cg T J o a=some k)(ro:ac C O o vo){Q:Value×List Value->Shared->Prop}
 (h:∀f,Mx C k a f->Q (f,[vo]) s):wpAny (model C.prog C.w) A (getMethod vo a pl) Q E s:=by
 have dict:∀ {x ents n},s.heap.get? x=some (gM ents n)->(if a==("get":Str)then some (MK.bi "dict.get")else none)=some k->vo=.ref x->wpAny (model C.prog C.w) A (getMethod vo a pl) Q E s:=fun{x ents n} ho e hv=>by
  subst hv
  refine jy e (fun hid e=>?_) fun e=>ax e
  subst hid
  cases e
  exact getMethod_builtin (T:="dict") ⟨_,ho,rfl⟩ PySem.F.plainAttrs_dict PySem.F.slot_dict_get PySem.F.type_dict_get (fun y q=>by cases q;exact⟨_,ho,rfl⟩) (h _ rfl)
 cases o with
 |inst c n =>
  replace e:xA T J (.inst c n) (fun c _ cd es=>if cd.meths.contains a then(if(es.lookup a).isNone then some (MK.fn c)else Option.none)else Option.none)=some k:=e
  revert h
  apply vm TO I e ro;intro c n cd es x dx ka ents k h2 h3 h4 h5 h11 h12 IA ho hd t nd e h
  refine ifE e fun hat e=>ifE e fun hl e=>?_
  cases e
  refine bI (h12 a (List.contains_iff_mem.mp hat)) ?_;rintro f g1 g2 g3
  have hg:=((vj t a).2.2 (Option.isNone_iff_eq_none.mp hl)).1
  refine method_fn (lH K I) IA (plainGet_of h2).1 (plainGet_of h2).2 g1 (P4.mp g3) ?_ (h _ ⟨f,g2,rfl⟩)
  show(getL a ents).map _=some false
  rw[hg];rfl
 |jd es =>
  simp only[ac]at ro
  refine fR (ro) ?_;rintro x ents n rfl lo m t
  exact dict (I.z _ m) e rfl
 |lst xs =>
  refine jy e (fun hid e=>?_) fun e=>ax e
  subst hid
  cases e
  revert h
  apply elL ro;intro x vals n m t h
  exact getMethod_builtin (T:="list") ⟨_,I.z _ m,rfl⟩ PySem.F.plainAttrs_list PySem.F.slot_list_index PySem.F.type_list_index (fun y q=>by cases q;exact⟨_,I.z _ m,rfl⟩) (h _ rfl)
 |ref n =>
  revert h dict
  apply xH I e ro
  . intro xs x vals c hn hx ho t e h _
    refine jy e (fun hid e=>?_) fun e=>jy e (fun hid e=>?_) fun e=>ax e
    . subst hid
      cases e
      exact getMethod_list_append ho rfl rfl (h _ rfl)
    . subst hid
      cases e
      exact getMethod_builtin (T:="list") ⟨_,ho,rfl⟩ PySem.F.plainAttrs_list PySem.F.slot_list_pop PySem.F.type_list_pop (fun y q=>by cases q;exact⟨_,ho,rfl⟩) (h _ rfl)
  . intro es x ents c hn hx ho t nd e h dict
    exact dict ho e rfl
 |_=>exact ax e
theorem KU{es:List (Str×List Str)}{ents:List DictEntry}{Z:List (Addr×Obj)}(t:ag (zy C Z) es ents):∃kvs:List (Str×Value),Pairs (sK C) ents kvs/\ag (fun p q=>q.1=p.1/\lE Z p.2 q.2) es kvs/\KeysOf (sK C) ents.toArray:=by
 induction t with
 |nil=>exact⟨[],.nil,.nil,fun e h=>by simp at h⟩
 |@cons p e es ents h _ ih =>
  refine bI (ih) ?_;rintro kvs h1 h2 h3
  refine eW (h) ?_;rintro hh ⟨tk,hk⟩ hv
  have is:(sK C).is p.1 e.key=true:=by rw[hk];exact strKind_is _ _ _ _
  refine⟨(p.1,e.val)::kvs,.cons is rfl h1,.cons ⟨rfl,hv⟩ h2,fun x hx=>?_⟩
  rcases PZ.mp (by simpa using hx)with rfl | hx
  .exact⟨p.1,is,hh⟩
  .exact h3 x (by simpa using hx)
theorem z7{l:List Str}{val:Value}(h:lE O.Z l val):ac C O (.tup (l.map .str)) val:=by
 obtain⟨b,vals,n,rfl,m,t⟩:=h
 simp only[ac]
 refine⟨b,vals,n,rfl,m,aL.mpr ?_⟩
 generalize vals.toList=vl at t ⊢
 induction t with
 |nil=>exact .nil
 |cons h _ ih=>exact .cons (by simp only[ac];exact h) ih
theorem vp{a:Addr}{f:Str->Option Value}{args:List Value}{k:Str}{vk vd:Value}(M:s.heap.MapOf (sK C) a f)(ho:s.TypeIs (.ref a) "dict")(lo:(a==sysModules)=false)(rk:∃t,vk=.str k t)(ha:args=[vk,vd]\/(args=[vk]/\vd=.none)){Q:Value->Shared->Prop}(h:Q ((f k).getD vd) { s with toks:=s.toks+1}):
 wpAny (model C.prog C.w) A (call (.builtin "dict.get") (.ref a::args)) Q E s:=by
 obtain⟨t,rfl⟩:=rk
 rcases ha with rfl | ⟨rfl,rfl⟩
 .exact call_meetsIn PySem.F.slot_dict_get ho PySem.F.entry_dict_get (by first | exact PySem.F.args_dict_get_3 _ _ _ | exact PySem.args_dict_get_default _ _ _) (meets_dict_get_default (knd:=sK C) _ (strKind_is _ _ _ _) lo _) ⟨_,M,h⟩
 .exact call_meetsIn PySem.F.slot_dict_get ho PySem.F.entry_dict_get (by first | exact PySem.F.args_dict_get_2 _ _ | exact PySem.args_dict_get _ _) (meets_dict_get (knd:=sK C) _ (strKind_is _ _ _ _) lo) ⟨_,M,h⟩
theorem CK(K:aT C)(I:ap C O J s.heap){id:String}{o r:V}{args:List V}{vo:Value}{vals:List Value}(e:aS J id o args=some (r,J'))(ro:ac C O o vo)(ra:ag (ac C O) args vals){Q:Value->Shared->Prop}(P:eL C O s J' r Q):
 wpAny (model C.prog C.w) A (call (.builtin id) (vo::vals)) Q E s:=by
 cases o with
 |jd es =>
  refine jy e (fun hid e=>bE e fun p h1 e=>mE e fun k hk e9=>?_) fun e=>ax e
  subst hid
  rw[xG h1]at ra
  simp only[ac]at ro
  refine fR (ro) ?_;rintro a ents n rfl lo m t
  refine bI (KU t) ?_;rintro kvs p1 p2 p3
  have mp:s.heap.MapOf (sK C) a (valueAt kvs):=⟨_,ents.toArray,n,I.z _ m,⟨rfl,rfl,rfl⟩,rfl,p3,fun k=>by
   rw[<- p1.find k];unfold findBy;rw[List.find?_toArray]⟩
  apply ag.two ra;intro v w r1 r2
  refine vp (k:=k) (vd:=w) mp ⟨_,I.z _ m,rfl⟩ (PC.mpr lo) ?_ (.inl rfl) ?_
  .apply jR hk r1;intro t;exact⟨t,rfl⟩
  . refine(P.at (PI some e9)).tok I _ ?_
    obtain⟨l1,l2⟩:=xN p2 k
    cases q:es.lookup k with
    |none=>rw[l2 q];exact r2
    |some l=>refine ae (l1 l q) ?_;rintro val hv tv;rw[hv];exact z7 tv
 |lst xs =>
  refine jy e (fun hid e=>bE e fun y h1 e=>bE e fun x hx e=>ifE e fun hl e=>bE e fun ss h2 e=>mE e fun j hj e9=>?_) fun e=>ax e
  subst hid
  rw[jQ h1]at ra
  have hl:=dN hl
  apply elL ro;intro a vals n m t
  have hlen:=bJ t
  have ts:=Hy h2 t
  obtain⟨j1,j2,j3⟩:=List.findIdx?_eq_some_iff_getElem.mp hj
  have gs:∀i (hi:i<vals.size),∃(hs:i<ss.length) (t:Tok),vals[i]=.str ss[i] t:=fun i hi=>by
   have q:vals.toList[i]?=some vals[i]:=by rw[Array.getElem?_toList];exact Array.getElem?_eq_getElem hi
   refine ae (ts.get' q) ?_;rintro z hz ⟨t,ht⟩
   obtain⟨hs,hz⟩:=PD.mp hz
   exact⟨hs,t,by rw[ht,hz]⟩
  have sz:ss.length=vals.size:=ts.length.trans Array.length_toList
  apply ag.one ra;intro v r1
  apply jR hx r1;intro u
  refine call_meets PySem.F.slot_list_index ⟨_,I.z _ m,rfl⟩ PySem.F.entry_list_index (PySem.F.args_list_index_2 _ _) (list_indexAt a vals n none #[] (.str x u) (fun v=>match v with | .str z _=>z==x | _=>false) j (Nat.lt_of_lt_of_eq ‹_› ‹_›) (by lia) ?_ ?_) ⟨I.z _ m,fun w hw=>?_,(P.at (PI some e9)).tok I _ vIn⟩
  . obtain⟨hs,t,ht⟩:=gs j (Nat.lt_of_lt_of_eq ‹_› ‹_›)
    rw[ht];exact j2
  . intro i hi hij
    obtain⟨hs,t,ht⟩:=gs i hi
    rw[ht];exact Bool.not_eq_true _▸j3 i hij
  . obtain⟨i,hi,rfl⟩:=Array.mem_iff_getElem.mp hw
    obtain⟨hs,t,ht⟩:=gs i hi
    rw[ht];exact .str_str _ _ _ _
 |ref n =>
  apply xH I e ro
  . intro xs x vals c hn hx ho t e
    have hlen:=bJ t
    refine jy e (fun hid e=>bE e fun y h1 e=>ifE e fun hl e9=>?_) fun e=>jy e (fun hid e=>ifE e fun h0 e=>bE e fun y hy e=>ifE e fun hl e9=>?_) fun e=>ax e
    . subst hid
      rw[jQ h1]at ra
      have hl:=dN hl
      replace P:=P.at e9
      apply ag.one ra;intro v r1
      refine wpAny_list_append_plain (hsz:=by rw[sizeLine_eq];exact Py (Nat.le_of_eq (Eq.symm ‹_›)) (Py ‹_› (by decide))) ⟨c,ho⟩ fun h' hp hs=>?_
      obtain⟨k2,hp⟩:=hp
      have hsame:∀b,b≠x->∀y,s.heap.get? b=some y->h'.get? b=some y:=fun b hb y hy=>(hs.2 b hb).trans hy
      refine P O _ _ (al.turn hx hsame) (I.turn hx hsame hp ⟨_,k2,rfl,?_⟩) vNo
      rw[Array.toList_push]
      exact t.append (.cons r1 .nil)
    . subst hid
      rw[List.isEmpty_iff.mp h0]at ra
      have hl:=dN hl
      replace P:=P.at e9
      apply ag.no ra
      have hne:0<xs.length:=List.length_pos_of_mem (List.mem_of_getLast? hy)
      rw[List.getLast?_eq_getElem?]at hy
      refine ae (t.get hy) ?_;rintro vy hvy rvy
      rw[Array.getElem?_toList,hlen]at hvy
      refine call_meets PySem.F.slot_list_pop ⟨_,ho,rfl⟩ PySem.F.entry_list_pop (PySem.F.args_list_pop_1 _) (PySem.MeetsSeq.list_pop_last x _ c vy hvy (by rw[sizeLine_eq];exact Py (Nat.le_of_eq (Eq.symm ‹_›)) (Py ‹_› (by decide)))) ⟨ho,?_⟩
      have hsame:∀b,b≠x->∀y,s.heap.get? b=some y->(s.heap.update x (Obj.mapSeq fun xs=>xs.eraseIdxIfInBounds (vals.size-1))).get? b=some y:=fun b hb y hy=>((Heap.SameBut.update s.heap x _).2 b hb).trans hy
      refine P O _ _ (al.turn hx hsame) (I.turn hx hsame (Heap.get?_update_self _ ho rfl) ⟨_,_,rfl,?_⟩) rvy
      have:(vals.eraseIdxIfInBounds (vals.size-1)).toList=vals.toList.dropLast:=by
       unfold Array.eraseIdxIfInBounds
       rw[dif_pos (by omega),Array.toList_eraseIdx,<- Array.length_toList];exact List.eraseIdx_length_sub_one
      rw[this]
      exact t.dropLast
  . intro es x ents c hn hx ho t nd e
    refine jy e (fun hid e=>lC e (fun y h1 e=>mE e fun k hk e9=>?_) fun _ e=>bE e fun p h1 e=>mE e fun k hk e9=>?_) fun e=>ax e
    . subst hid
      rw[jQ h1]at ra
      refine ae (gh ho t nd) ?_;rintro kvs D kv
      apply ag.one ra;intro v r1
      refine vp (k:=k) D.mapOf ⟨_,ho,rfl⟩ (iS I hx) ?_ (.inr ⟨rfl,rfl⟩) ((P.at (PI some e9)).tok I _ (uz kv k vNo))
      apply jR hk r1;intro t;exact⟨t,rfl⟩
    . subst hid
      rw[xG h1]at ra
      refine ae (gh ho t nd) ?_;rintro kvs D kv
      apply ag.two ra;intro v w r1 r2
      refine vp (k:=k) (vd:=w) D.mapOf ⟨_,ho,rfl⟩ (iS I hx) ?_ (.inl rfl) ((P.at (PI some e9)).tok I _ (uz kv k r2))
      apply jR hk r1;intro t;exact⟨t,rfl⟩
 |_=>exact ax e
end
structure bC(L:List Addr)(O O':Map)(s s':Shared):Prop where
 le:O.Le O'
 keep:∀b o,b∉O.am->b∉L->s.heap.get? b=some o->s'.heap.get? b=some o
 live:∀b o,b∉O.am->s.heap.get? b=some o->∃o',s'.heap.get? b=some o'
 new:∀a∈O'.am,a∉O.am->s.heap.get? a=none
 newZ:∀p∈O'.Z,p∈O.Z\/(p.1∉O.am->s.heap.get? p.1=none)
 same:∃h tk,s'={ s with heap:=h,toks:=tk}
theorem al.x{L:List Addr}{O O':Map}{s s':Shared}(h:al O O' s s'):bC L O O' s s':=⟨h.le,fun b o h1 _ e=>h.keep b o h1 e,fun b o h1 e=>⟨o,h.keep b o h1 e⟩,h.new,h.newZ,h.same⟩
theorem bC.refl(L:List Addr)(O:Map)(s:Shared):bC L O O s s:=(al.refl O s).x
theorem bC.trans{L:List Addr}{a b c:Map}{s s' s'':Shared}(h:bC L a b s s')(k:bC L b c s' s''):bC L a c s s'':=by
 have nb:∀x o,x∉a.am->s.heap.get? x=some o->x∉b.am:=fun x o na e hb=>by have:=h.new x hb na;rw[e]at this;cases this
 refine⟨h.le.trans k.le,fun x o hx hL e=>k.keep x o (nb x o hx e) hL (h.keep x o hx hL e),fun x o hx e=>?_,fun x hx na=>?_,fun p hp=>?_,?_⟩
 . obtain⟨o',e'⟩:=h.live x o hx e
   exact k.live x o' (nb x o hx e) e'
 . by_cases hb:x∈b.am
   .exact h.new x hb na
   . cases q:s.heap.get? x with
     |none=>rfl
     |some o=>obtain⟨o',e'⟩:=h.live x o na q;have:=k.new x hx hb;rw[e']at this;cases this
 . rcases k.newZ p hp with hp | hp
   .exact h.newZ p hp
   . refine .inr fun na=>?_
     by_cases hb:p.1∈b.am
     .exact h.new _ hb na
     . cases q:s.heap.get? p.1 with
       |none=>rfl
       |some o=>obtain⟨o',e'⟩:=h.live _ o na q;have:=hp hb;rw[e']at this;cases this
 . refine gK (h.same) ?_;rintro h1 t1 rfl
   refine gK (k.same) ?_;rintro h2 t2 rfl
   exact⟨h2,t2,rfl⟩
theorem al.thenX{L:List Addr}{a b c:Map}{s s' s'':Shared}(h:al a b s s')(k:bC L b c s' s'')(hL:∀x∈L,s.heap.get? x=none):al a c s s'':=by
 have nb:∀x o,x∉a.am->s.heap.get? x=some o->x∉b.am:=fun x o na e hb=>by have:=h.new x hb na;rw[e]at this;cases this
 have j:=(h.x (L:=L)).trans k
 refine⟨j.le,fun x o hx e=>k.keep x o (nb x o hx e) (fun q=>?_) (h.keep x o hx e),j.new,j.newZ,j.same⟩
 rw[hL x q]at e;cases e
noncomputable def NY(L:List Addr)(C:Ctx)(O:Map)(env:Env)(m:Str->Option Value)(h:Heap)(x:Str):Sl->Prop
 |.g=>env.kindOf x=some .globalImplicit
 |.v none=>env.kindOf x=some .local
 |.v (some v)=>∃val,ac C O v val/\env.kindOf x=some .local/\m x=some val
 |.cv none=>env.kindOf x=some .cell/\∃c v,env.cells.lookup x=some c/\c∈L/\h.IsCell c v
 |.cv (some v)=>∃val,ac C O v val/\env.kindOf x=some .cell/\∃c,env.cells.lookup x=some c/\c∈L/\h.IsCell c (some val)
 |.f v=>∃val,ac C O v val/\(env.kindOf x=some .cell\/env.kindOf x=some .free)/\∃c,env.cells.lookup x=some c/\h.IsCell c (some val)
 |.x=>True
structure aK(C:Ctx)(L:List Addr)(O:Map)(env:Env)(loc:Loc)(h:Heap):Prop where
 kind:env.scope.kind=.function
 glob:env.globals=mainGlobals
 bi:env.builtins=builtinsNs
 own:env.locals∈L
 off:∀a∈L,a∉O.am/\(∀p∈O.Z,p.1≠a)/\C.h₀.get? a=none
 here:∀a∈L,∃o,h.get? a=some o
 inj:∀x y c,env.cells.lookup x=some c->env.cells.lookup y=some c->x=y
 apart:∀x c,env.cells.lookup x=some c->c≠env.locals
 cells:∀x c,env.cells.lookup x=some c->c∉O.am/\∃o,h.get? c=some o
 ns:∃m,h.Ns env.locals m/\∀x sl,loc.lookup x=some sl->NY L C O env m h x sl
section
variable{C:Ctx}{T:Tab}{mt:Pos->Bool}{L:List Addr}{O O':Map}{J J':Hp}{s s':Shared}{A:Around}{d:Nat}{E:Value->Shared->Prop}{env:Env}{loc loc':Loc}{h h':Heap}
theorem iF{c:Addr}{v:Option Value}(x:Heap.IsCell h c v)(hk:∀o,h.get? c=some o->h'.get? c=some o):Heap.IsCell h' c v:=let ⟨o,ho,hd⟩:=x;⟨o,hk o ho,hd⟩
theorem rj{a m}(hn:Heap.Ns h a m)(hk:∀o,h.get? a=some o->h'.get? a=some o):Heap.Ns h' a m:=let ⟨o,es,ep,e,r⟩:=hn;⟨o,es,ep,hk _ e,r⟩
theorem aK.keeps(W:aK C L O env loc s.heap)(R:al O O' s s'):aK C L O' env loc s'.heap:=by
 have old:∀a,a∉O.am->(∃o,s.heap.get? a=some o)->a∉O'.am:=fun a na ⟨o,e⟩ q=>by have:=R.new a q na;rw[e]at this;cases this
 refine ae (W.ns) ?_;rintro m hn hs
 refine⟨W.kind,W.glob,W.bi,W.own,fun a ha=>?_,fun a ha=>?_,W.inj,W.apart,fun x c hc=>?_,m,rj hn fun o e=>R.keep _ o (W.off _ W.own).1 e,fun x sl e=>?_⟩
 . refine eW (W.off a ha) ?_;rintro h1 h2 h3
   refine⟨old a h1 (W.here a ha),fun p hp q=>?_,h3⟩
   rcases R.newZ p hp with hp | hp
   .exact h2 p hp q
   . obtain⟨o,e⟩:=W.here a ha
     have:=hp (by rw[q];exact h1)
     rw[q,e]at this;cases this
 . obtain⟨o,e⟩:=W.here a ha
   exact⟨o,R.keep a o (W.off a ha).1 e⟩
 . refine uu (W.cells x c hc) ?_;rintro h1 o e
   exact⟨old c h1 ⟨o,e⟩,o,R.keep _ o h1 e⟩
 . have:=hs x sl e
   cases sl with
   |g=>exact this
   |v o =>
    cases o with
    |none=>exact this
    |some v =>
     refine ae (this) ?_;rintro val r q
     exact⟨val,ac.mono R.le _ r,q⟩
   |cv o =>
    cases o with
    |none =>
     refine iE (this) ?_;rintro h1 c v h2 h3 h4
     exact⟨h1,c,v,h2,h3,iF h4 fun o e=>R.keep _ o (W.off c h3).1 e⟩
    |some v =>
     refine gF (this) ?_;rintro val r h1 c h2 h3 h4
     exact⟨val,ac.mono R.le _ r,h1,c,h2,h3,iF h4 fun o e=>R.keep _ o (W.off c h3).1 e⟩
   |f v =>
    refine gL (this) ?_;rintro val r q c h2 h5
    exact⟨val,ac.mono R.le _ r,q,c,h2,iF h5 fun o e=>R.keep _ o (W.cells _ _ h2).1 e⟩
   |x=>trivial
theorem ap.own(I:ap C O J h)(off:∀a∈L,a∉O.am/\(∀p∈O.Z,p.1≠a)/\C.h₀.get? a=none)(hk:∀b o,b∉L->h.get? b=some o->h'.get? b=some o):ap C O J h' :=
 ⟨fun b o e=>hk b o (fun q=>by rw[(off b q).2.2]at e;cases e) (I.base b o e),I.len,I.fresh,I.nodup,I.low,I.z₀,fun p hp=>hk _ _ (fun q=>(off _ q).2.1 p hp rfl) (I.z p hp),I.zam,fun n c a e1 e2=>by
  refine ae (I.cell n c a e1 e2) ?_;rintro o ho r
  exact⟨o,hk a o (fun q=>(off a q).1 (List.mem_of_getElem? e2)) ho,r⟩⟩
noncomputable def EG(s0:Sl)(v:V)(s1:Sl):Prop:=((∃o,s0=.v o)/\s1=.v (some v))\/((∃o,s0=.cv o)/\s1=.cv (some v))
theorem xP:∀ {loc loc':Loc}{x:Str}{v:V},loc.put x v=some loc'->∃s0 s1,loc.lookup x=some s0/\EG s0 v s1/\∀y,loc'.lookup y=if y=x then some s1 else loc.lookup y
 |[],_,_,_,e=>by simp[Loc.put]at e
 |(z,sl)::r,loc',x,v,e=>by
  unfold Loc.put at e
  by_cases hx:x=z
  . subst hx
    rw[P2,if_pos rfl]at e
    have fin:∀s1,EG sl v s1->loc'=(x,s1)::r->∃s0 s1,List.lookup x ((x,sl)::r)=some s0/\EG s0 v s1/\∀y,List.lookup y loc'=if y=x then some s1 else List.lookup y ((x,sl)::r):=by
     rintro s1 hs rfl
     refine⟨sl,s1,?_,hs,fun y=>?_⟩
     .rw[PX,P2]
     . rw[PX,PX]
       by_cases hy:y=x
       .subst hy;simp
       .simp[hy,PC.mpr hy]
    split at e
    .exact fin _ (.inl ⟨⟨_,rfl⟩,rfl⟩) (by cases e;rfl)
    .exact fin _ (.inr ⟨⟨_,rfl⟩,rfl⟩) (by cases e;rfl)
    .exact ax e
  . rw[PC.mpr hx,if_neg Qc]at e
    refine ae (P9.mp e) ?_;rintro l hl rfl
    refine cQ (xP hl) ?_;rintro s0 s1 h1 h2 h3
    refine⟨s0,s1,?_,h2,fun y=>?_⟩
    .rw[PX,PC.mpr hx];exact h1
    . rw[PX,PX]
      by_cases hy:y=z
      .subst hy;simp[Ne.symm hx]
      .rw[PC.mpr hy];exact h3 y
noncomputable def lj(C:Ctx)(L:List Addr)(O:Map)(s:Shared)(J':Hp)(env:Env)(loc':Loc)(Q:Shared->Prop):Prop :=
 ∀O' s',bC L O O' s s'->ap C O' J' s'.heap->aK C L O' env loc' s'.heap->Q s'
theorem z8(I:ap C O J s.heap)(W:aK C L O env loc s.heap){x:Str}{v:V}{val:Value}(e:loc.put x v=some loc')(r:ac C O v val){Q:Unit->Shared->Prop}(P:lj C L O s J env loc' (Q ())):
 wpAny (model C.prog C.w) A (storeName env x val) Q E s:=by
 refine cQ (xP e) ?_;rintro s0 s1 h1 hput h2
 refine ae (W.ns) ?_;rintro m hn hs
 have hloc:(env.kindOf x=some .local/\s1=.v (some v))\/((env.kindOf x=some .cell/\∃c v,env.cells.lookup x=some c/\c∈L/\s.heap.IsCell c v)/\s1=.cv (some v)):=by
  have h0:=hs _ _ h1
  rcases hput with⟨⟨_ | w,rfl⟩,q⟩ | ⟨⟨_ | w,rfl⟩,q⟩
  .exact .inl ⟨h0,q⟩
  .refine bI (h0) ?_;rintro _ _ a _;exact .inl ⟨a,q⟩
  .exact .inr ⟨h0,q⟩
  .refine gF (h0) ?_;rintro _ _ a c b d f;exact .inr ⟨⟨a,c,_,b,d,f⟩,q⟩
 rcases hloc with⟨hl,rfl⟩ | ⟨⟨hl,c,v₀,hc,hcL,hcv⟩,rfl⟩
 . refine wpAny_storeName_local hl hn (fun h' hn' hs'=>?_) (by rw[W.kind];rfl)
   have hk:∀b o,b≠env.locals->s.heap.get? b=some o->h'.get? b=some o:=fun b o hb q=>(hs'.2 b hb).trans q
   have hlive:∀b o,s.heap.get? b=some o->∃o',h'.get? b=some o':=fun b o q=>by
    by_cases hb:b=env.locals
    .subst hb;refine aU (hn') ?_;rintro o' _ _ q' _;exact⟨o',q'⟩
    .exact⟨o,hk b o hb q⟩
   refine P O _ ⟨.refl _,fun b o _ hb q=>hk b o (fun e=>hb (e▸W.own)) q,fun b o _ q=>hlive b o q,fun _ h k=>absurd h k,fun _ h=>.inl h,⟨h',_,rfl⟩⟩
    (I.own W.off fun b o hb q=>hk b o (fun e=>hb (e▸W.own)) q) ⟨W.kind,W.glob,W.bi,W.own,W.off,fun a ha=>?_,W.inj,W.apart,fun y c hy=>?_,_,hn',fun y sl q=>?_⟩
   .obtain⟨o,q⟩:=W.here a ha;exact hlive a o q
   .refine uu (W.cells y c hy) ?_;rintro h1 o q;exact⟨h1,hlive c o q⟩
   . rw[h2]at q
     by_cases hy:y=x
     . subst hy
       rw[if_pos rfl]at q;cases q
       exact⟨val,r,hl,if_pos rfl⟩
     . rw[if_neg hy]at q
       have:=hs y sl q
       have kc:∀ {c v},env.cells.lookup y=some c->s.heap.IsCell c v->h'.IsCell c v:=fun hc x=>iF x fun o q=>hk _ o (W.apart _ _ hc) q
       cases sl with
       |g=>exact this
       |v o =>
        cases o with
        |none=>exact this
        |some v =>
         refine bI (this) ?_;rintro val' r' q1 q2
         exact⟨val',r',q1,(if_neg hy).trans q2⟩
       |cv o =>
        cases o with
        |none =>
         refine iE (this) ?_;rintro h1 c v h2 h3 h4
         exact⟨h1,c,v,h2,h3,kc h2 h4⟩
        |some v =>
         refine gF (this) ?_;rintro val' r' h1 c h2 h3 h4
         exact⟨val',r',h1,c,h2,h3,kc h2 h4⟩
       |f v =>
        refine gL (this) ?_;rintro val' r' q c h2 h5
        exact⟨val',r',q,c,h2,kc h2 h5⟩
       |x=>trivial
 . refine wpAny_storeName_cell W.kind hl hc hcv fun h' hc' hs'=>?_
   have hk:∀b o,b≠c->s.heap.get? b=some o->h'.get? b=some o:=fun b o hb q=>(hs'.2 b hb).trans q
   have hlive:∀b o,s.heap.get? b=some o->∃o',h'.get? b=some o':=fun b o q=>by
    by_cases hb:b=c
    .subst hb;refine ae (hc') ?_;rintro o' q' _;exact⟨o',q'⟩
    .exact⟨o,hk b o hb q⟩
   refine P O _ ⟨.refl _,fun b o _ hb q=>hk b o (fun e=>hb (e▸hcL)) q,fun b o _ q=>hlive b o q,fun _ h k=>absurd h k,fun _ h=>.inl h,⟨h',s.toks,rfl⟩⟩
    (I.own W.off fun b o hb q=>hk b o (fun e=>hb (e▸hcL)) q) ⟨W.kind,W.glob,W.bi,W.own,W.off,fun a ha=>?_,W.inj,W.apart,fun y c hy=>?_,m,rj hn fun o q=>hk _ o (Ne.symm (W.apart _ _ hc)) q,fun y sl q=>?_⟩
   .obtain⟨o,q⟩:=W.here a ha;exact hlive a o q
   .refine uu (W.cells y c hy) ?_;rintro h1 o q;exact⟨h1,hlive c o q⟩
   . rw[h2]at q
     by_cases hy:y=x
     . subst hy
       rw[if_pos rfl]at q;cases q
       exact⟨val,r,hl,c,hc,hcL,hc'⟩
     . rw[if_neg hy]at q
       have:=hs y sl q
       have kc:∀ {c' v},env.cells.lookup y=some c'->s.heap.IsCell c' v->h'.IsCell c' v:=fun{c'} _ hc'' x'=>iF x' fun o q=>hk _ o (fun e=>hy (W.inj y x c (e▸hc'') hc)) q
       cases sl with
       |g=>exact this
       |v o =>
        cases o with
        |none=>exact this
        |some v =>
         refine bI (this) ?_;rintro val' r' q1 q2
         exact⟨val',r',q1,q2⟩
       |cv o =>
        cases o with
        |none =>
         refine iE (this) ?_;rintro h1 c v h2 h3 h4
         exact⟨h1,c,v,h2,h3,kc h2 h4⟩
        |some v =>
         refine gF (this) ?_;rintro val' r' h1 c h2 h3 h4
         exact⟨val',r',h1,c,h2,h3,kc h2 h4⟩
       |f v =>
        refine gL (this) ?_;rintro val' r' q c h2 h5
        exact⟨val',r',q,c,h2,kc h2 h5⟩
       |x=>trivial
theorem xQ(I:ap C O J h){v:V}{val:Value}(r:ac C ⟨[],C.Z₀⟩ v val):ac C O v val:=ac.mono ⟨⟨O.am,by simp⟩,fun p hp=>I.z₀ p hp⟩ v r
theorem vq(K:aT C)(TO:cp C T)(I:ap C O J s.heap)(W:aK C L O env loc s.heap){x:Str}{r:V}{pos:Pos}(e:pL T loc x=some r){Q:Value->Shared->Prop}(P:∀v,ac C O r v->Q v s):
 wpAny (model C.prog C.w) A (eval (.Name x pos) env) Q E s:=by
 unfold pL at e
 split at e
 .exact ax e
 . rename_i hd
   have hd:(x==("__debug__":Str))=false/\(x==("__classdict__":Str))=false:=by
    rw[Bool.not_eq_true,Bool.or_eq_false_iff]at hd;exact hd
   refine ae (W.ns) ?_;rintro m hn hs
   cases hl:loc.lookup x with
   |none=>rw[hl]at e;exact ax e
   |some sl =>
   rw[hl]at e
   cases sl with
   |v o =>
    have e:o=some r:=e
    subst e
    refine bI (hs _ _ hl) ?_;rintro val rv q1 q2
    exact wpAny_Name (wpAny_loadName_local W.kind q1 hn q2 (P _ rv)) hd.1
   |cv o =>
    have e:o=some r:=e
    subst e
    refine gF (hs _ _ hl) ?_;rintro val rv q1 c h2 h3 h4
    exact wpAny_Name (wpAny_loadName_cell W.kind q1 h2 h4 (P _ rv)) hd.1
   |f v =>
    cases(show some v=some r from e)
    refine gL (hs _ _ hl) ?_;rintro val rv q c h2 h5
    rcases q with q | q
    .exact wpAny_Name (wpAny_loadName_cell W.kind q h2 h5 (P _ rv)) hd.1
    .exact wpAny_Name (wpAny_loadName_free W.kind q h2 h5 (P _ rv) hd.2) hd.1
   |g =>
    have e:T.glob.lookup x=some r:=e
    have hg:=hs _ _ hl
    refine ae (TO.glob _ _ e) ?_;rintro val rv q
    have G:s.heap.Ns mainGlobals C.mg:=K.g.keeps I.base
    have B:s.heap.Ns builtinsNs C.mb:=K.b.keeps I.base
    have X:=lH K I
    rcases q with q | ⟨q1,q2,q3⟩
    .exact Name_function_global W.kind hg (loadGlobal_global (W.glob▸G) (mg_of X G q) (P _ (xQ I rv))) hd.1
    .exact Name_function_global W.kind hg (loadGlobal_builtin (W.glob▸G) (mg_none_of X G q1) (W.bi▸B) ((K.builtins x q3).trans q2) (P _ (xQ I rv))) hd.1
   |x=>exact ax e
end
noncomputable def xR(o:Option (List V))(h:Heap)(Ia l:Addr)(i:Nat):Prop:=match o with
 |some _=>h.IsTupleIter Ia l i
 |Option.none=>h.IsListIter Ia l i
noncomputable def dY(C:Ctx)(O:Map)(h:Heap)(it:It)(i:Nat)(Ia Ja:Addr):Prop:=match it with
 |.seq v=>∃l,ac C O v (.ref l)/\xR (asT v) h Ia l i
 |.enm v=>∃l old,ac C O v (.ref l)/\IsEnum h Ia Ja i old/\h.IsListIter Ja l i/\Ia≠Ja
 |.rng a b=>IsRangeIter h Ia (a+i) (((b-a).toNat:Int)-i) 1
structure Off(C:Ctx)(O:Map)(h:Heap)(a:Addr):Prop where
 am:a∉O.am
 Z:∀p∈O.Z,p.1≠a
 h₀:C.h₀.get? a=none
 here:∃o,h.get? a=some o
structure jS(Ia Ja:Addr)(O O':Map)(s s':Shared):Prop where
 am:O'.am=O.am
 sub:∀p∈O.Z,p∈O'.Z
 newZ:∀p∈O'.Z,p∈O.Z\/s.heap.get? p.1=none
 keep:∀b o,b≠Ia->b≠Ja->s.heap.get? b=some o->s'.heap.get? b=some o
 same:∃h tk,s'={ s with heap:=h,toks:=tk}
section
variable{C:Ctx}{T:Tab}{mt:Pos->Bool}{L:List Addr}{O₀ O O':Map}{J J':Hp}{s₀ s s':Shared}{A:Around}{d:Nat}{E:Value->Shared->Prop}{env:Env}{loc loc':Loc}{h h':Heap}{it:It}{i:Nat}{Ia Ja a:Addr}
theorem Off.keeps(μ:Off C O s.heap a)(R:bC L O O' s s'):Off C O' s'.heap a:=by
 obtain⟨o,e⟩:=μ.here
 refine⟨fun q=>?_,fun p hp q=>?_,μ.h₀,R.live a o μ.am e⟩
 .have:=R.new a q μ.am;rw[e]at this;cases this
 . rcases R.newZ p hp with hp | hp
   .exact μ.Z p hp q
   . have:=hp (by rw[q];exact μ.am)
     rw[q,e]at this;cases this
theorem Off.step(μ:Off C O s.heap a)(R:jS Ia Ja O O' s s')(e':∃o,s'.heap.get? a=some o):Off C O' s'.heap a:=by
 obtain⟨o,e⟩:=μ.here
 refine⟨by rw[R.am];exact μ.am,fun p hp q=>?_,μ.h₀,e'⟩
 rcases R.newZ p hp with hp | hp
 .exact μ.Z p hp q
 .rw[q,e]at hp;cases hp
theorem jS.le(R:jS Ia Ja O O' s s'):O.Le O':=⟨⟨[],by rw[R.am];simp⟩,R.sub⟩
theorem bC.step(R:bC L O₀ O s₀ s)(S:jS Ia Ja O O' s s')(h1:s₀.heap.get? Ia=none)(h2:s₀.heap.get? Ja=none):bC L O₀ O' s₀ s':=by
 have ne:∀b o,s₀.heap.get? b=some o->b≠Ia/\b≠Ja:=fun b o e=>⟨fun q=>(by rw[q,h1]at e;cases e),fun q=>(by rw[q,h2]at e;cases e)⟩
 refine⟨R.le.trans S.le,fun b o hb hL e=>S.keep b o (ne b o e).1 (ne b o e).2 (R.keep b o hb hL e),fun b o hb e=>?_,fun x hx na=>R.new x (S.am▸hx) na,fun p hp=>?_,?_⟩
 . obtain⟨o',e'⟩:=R.live b o hb e
   exact⟨o',S.keep b o' (ne b o e).1 (ne b o e).2 e'⟩
 . rcases S.newZ p hp with hp | hp
   .exact R.newZ p hp
   . refine .inr fun na=>?_
     cases q:s₀.heap.get? p.1 with
     |none=>rfl
     |some o=>obtain⟨o',e'⟩:=R.live _ o na q;rw[e']at hp;cases hp
 . refine gK (R.same) ?_;rintro h1 t1 rfl
   refine gK (S.same) ?_;rintro h2 t2 rfl
   exact⟨h2,t2,rfl⟩
theorem ap.step(I:ap C O J s.heap)(S:jS Ia Ja O O' s s')(μ1:Off C O s.heap Ia)(μ2:Off C O s.heap Ja)(hz:∀p∈O'.Z,p∉O.Z->s'.heap.get? p.1=some p.2):ap C O' J s'.heap:=by
 have ka:∀a∈O.am,a≠Ia/\a≠Ja:=fun a ha=>⟨fun q=>μ1.am (q▸ha),fun q=>μ2.am (q▸ha)⟩
 refine⟨fun b o e=>S.keep b o (fun q=>by rw[q,μ1.h₀]at e;cases e) (fun q=>by rw[q,μ2.h₀]at e;cases e) (I.base b o e),by rw[S.am];exact I.len,by rw[S.am];exact I.fresh,by rw[S.am];exact I.nodup,by rw[S.am];exact I.low,
  fun p hp=>S.sub p (I.z₀ p hp),fun p hp=>?_,fun p hp=>?_,fun n c x e1 e2=>?_⟩
 . by_cases hm:p∈O.Z
   .exact S.keep _ _ (μ1.Z p hm) (μ2.Z p hm) (I.z p hm)
   .exact hz p hp hm
 . rw[S.am]
   rcases S.newZ p hp with hp | hp
   .exact I.zam p hp
   . intro ha
     obtain⟨n,hn⟩:=List.getElem?_of_mem ha
     have hl:n<J.length:=I.len▸(PD.mp hn).1
     refine ae (I.cell n J[n] _ (by simp[hl]) hn) ?_;rintro o ho _
     rw[ho]at hp;cases hp
 . rw[S.am]at e2
   refine ae (I.cell n c x e1 e2) ?_;rintro o ho r
   have:=ka x (List.mem_of_getElem? e2)
   exact⟨o,S.keep x o this.1 this.2 ho,r.mono S.le⟩
theorem aK.step(W:aK C L O env loc s.heap)(S:jS Ia Ja O O' s s')(h1:Ia∉L)(h2:Ja∉L)(hc:∀x c,env.cells.lookup x=some c->c≠Ia/\c≠Ja):aK C L O' env loc s'.heap:=by
 have kL:∀a∈L,∀o,s.heap.get? a=some o->s'.heap.get? a=some o:=fun a ha o e=>S.keep a o (fun q=>h1 (q▸ha)) (fun q=>h2 (q▸ha)) e
 have kC:∀ {x c v},env.cells.lookup x=some c->s.heap.IsCell c v->s'.heap.IsCell c v:=fun hx e=>iF e fun o q=>S.keep _ o (hc _ _ hx).1 (hc _ _ hx).2 q
 refine ae (W.ns) ?_;rintro m hn hs
 refine⟨W.kind,W.glob,W.bi,W.own,fun a ha=>?_,fun a ha=>?_,W.inj,W.apart,fun x c hx=>?_,m,rj hn (kL _ W.own),fun x sl e=>?_⟩
 . refine eW (W.off a ha) ?_;rintro g1 g2 g3
   refine⟨by rw[S.am];exact g1,fun p hp q=>?_,g3⟩
   rcases S.newZ p hp with hp | hp
   .exact g2 p hp q
   . obtain⟨o,e⟩:=W.here a ha
     rw[q,e]at hp;cases hp
 . obtain⟨o,e⟩:=W.here a ha
   exact⟨o,kL a ha o e⟩
 . refine uu (W.cells x c hx) ?_;rintro g1 o e
   exact⟨by rw[S.am];exact g1,o,S.keep _ o (hc _ _ hx).1 (hc _ _ hx).2 e⟩
 . have:=hs x sl e
   cases sl with
   |g=>exact this
   |v o =>
    cases o with
    |none=>exact this
    |some v =>
     refine ae (this) ?_;rintro val r q
     exact⟨val,ac.mono S.le _ r,q⟩
   |cv o =>
    cases o with
    |none =>
     refine iE (this) ?_;rintro g1 c v g2 g3 g4
     exact⟨g1,c,v,g2,g3,kC g2 g4⟩
    |some v =>
     refine gF (this) ?_;rintro val r g1 c g2 g3 g4
     exact⟨val,ac.mono S.le _ r,g1,c,g2,g3,kC g2 g4⟩
   |f v =>
    refine gL (this) ?_;rintro val r q c g2 g5
    exact⟨val,ac.mono S.le _ r,q,c,g2,kC g2 g5⟩
   |x=>trivial
theorem dY.keeps(t:dY C O s.heap it i Ia Ja)(R:bC L O O' s s')(μ1:Off C O s.heap Ia)(μ2:Off C O s.heap Ja)(h1:Ia∉L)(h2:Ja∉L):dY C O' s'.heap it i Ia Ja:=by
 have k1:∀o,s.heap.get? Ia=some o->s'.heap.get? Ia=some o:=fun o e=>R.keep Ia o μ1.am h1 e
 have k2:∀o,s.heap.get? Ja=some o->s'.heap.get? Ja=some o:=fun o e=>R.keep Ja o μ2.am h2 e
 have kt:∀ {l},s.heap.IsTupleIter Ia l i->s'.heap.IsTupleIter Ia l i:=fun⟨o,e,r⟩=>⟨o,k1 _ e,r⟩
 have kl:∀ {l},s.heap.IsListIter Ia l i->s'.heap.IsListIter Ia l i:=fun⟨o,e,r⟩=>⟨o,k1 _ e,r⟩
 cases it with
 |rng a b=>exact k1 _ t
 |enm v =>
  refine eX (t) ?_;rintro l old r q1 ⟨o,e,q2⟩ q3
  exact⟨l,old,ac.mono R.le _ r,k1 _ q1,⟨o,k2 _ e,q2⟩,q3⟩
 |seq v =>
  refine ae (t) ?_;rintro l r q
  refine⟨l,ac.mono R.le _ r,?_⟩
  cases hT:asT v with
  |some _=>rw[hT]at q;exact kt q
  |none=>rw[hT]at q;exact kl q
theorem jT{target:Expr}{v:Value}{o:Obj}{n:String}{vs:Array Value}{Q:Unit->Shared->Prop}(ho:s.heap.get? Ia=some o)(hc:o.cls=.type n)(hd:o.data=.fields vs)
 (hn:["enumerate","zip","dict_itemiterator","dict_reverseitemiterator","odict_iterator","itertools.zip_longest","itertools.pairwise"].contains n=false) (h:Q () s) :
 wpAny (model C.prog C.w) A (letOwnedTupleGo target (.ref Ia) v) Q E s:=by
 unfold letOwnedTupleGo
 cases target <;> first
  |exact P3 h
  |(cases v <;> first
   |exact P3 h
   |(refine PE (wpAny_load ho ?_);rw[hc,hd];dsimp only;rw[hn];exact P3 h))
theorem EH(I:ap C O J s.heap){xs:List V}{v:V}{l:Addr}(r:ac C O (.tup xs) (.ref l))(e:xs[i]?=some v):∃vals val,s.heap.IsTuple l vals/\vals[i]?=some val/\ac C O v val:=by
 simp only[ac]at r
 refine bg (r) ?_;rintro a vals n q m t
 cases q
 refine ae ((aL.mp t).get e) ?_;rintro y h1 h2
 exact⟨vals,y,cn I m,by rw[<- Array.getElem?_toList];exact h1,h2⟩
theorem uC(I:ap C O J s.heap){xs:List V}{x v:V}{l:Addr}(hx:ba J x=some xs)(r:ac C O x (.ref l))(e:xs[i]?=some v):∃vals val,s.heap.IsList l vals/\vals[i]?=some val/\ac C O v val:=by
 refine bg (kG I hx r) ?_;rintro a vals n q ho t
 cases q
 refine ae (t.get e) ?_;rintro y h1 h2
 exact⟨vals,y,isL ho,by rw[<- Array.getElem?_toList];exact h1,h2⟩
theorem lm{x:V}{xs:List V}(h:cW J x=some xs)(ht:asT x=none):ba J x=some xs:=by
 cases x with
 |tup _=>exact nomatch ht
 |_=>exact h
theorem uD(I:ap C O J s.heap)(t:dY C O s.heap it i Ia Ja)(μ1:Off C O s.heap Ia)(μ2:Off C O s.heap Ja){N:Nat}{v:V}(hN:bX J it=some N)(hi:i<N)(e:iC J i it=some v){tgt:Expr}(ht:pM tgt it=true)
 {F:Shared->Prop}{G:Value->Shared->Prop}{E':Value->Shared->Prop}
 (P:∀O' s' val,jS Ia Ja O O' s s'->ap C O' J s'.heap->dY C O' s'.heap it (i+1) Ia Ja->Off C O' s'.heap Ia->Off C O' s'.heap Ja->ac C O' v val->G val s') :
 wpAny (model C.prog C.w) A (pyNext (.ref Ia)) (fun r s₁=>match r with | none=>F s₁ | some val=>wpAny (model C.prog C.w) A (letOwnedTupleGo tgt (.ref Ia) val) (fun _ s₁'=>G val s₁') E' s₁) E s:=by
 have σ2:∀ {s':Shared},Heap.SameBut Ia s.heap s'.heap->(∃o,s'.heap.get? Ia=some o)->∃o,s'.heap.get? Ja=some o:=fun hs h1=>by
  by_cases q:Ja=Ia
  .rw[q];exact h1
  . obtain⟨o,e⟩:=μ2.here
    exact⟨o,(hs.2 _ q).trans e⟩
 have simple:∀ {h':Heap}{tk:Nat},Heap.SameBut Ia s.heap h'->jS Ia Ja O O s { s with heap:=h',toks:=tk}:=fun{h'} {tk} hs =>
  ⟨rfl,fun _ h=>h,fun _ h=>.inl h,fun b o h1 _ e=>(hs.2 b h1).trans e,⟨h',tk,rfl⟩⟩
 have fin:∀ {h':Heap}{tk:Nat}{val:Value},Heap.SameBut Ia s.heap h'->(∃o,h'.get? Ia=some o)->dY C O h' it (i+1) Ia Ja->ac C O v val->G val { s with heap:=h',toks:=tk}:=fun{h'} {tk} {val} hs h1 t' r=>by
  have S:=simple (tk:=tk) hs
  exact P O _ val S (I.step S μ1 μ2 fun p hp hm=>absurd hp hm) t' (μ1.step S h1) (μ2.step S (σ2 (s':={ s with heap:=h',toks:=tk}) hs h1)) r
 cases it with
 |rng a b =>
  simp only[bX,Option.some.injEq]at hN
  simp only[iC,Option.some.injEq]at e
  have t:IsRangeIter s.heap Ia (a+i) (((b-a).toNat:Int)-i) 1:=t
  refine wpAny_pyNext_range_item t (by lia) fun h' ht' hs=>?_
  refine jT (s:={ s with heap:=h',toks:=s.toks+1}) ht' rfl rfl (by decide) ?_
  refine fin hs ⟨_,ht'⟩ ?_ (by subst e;simp only[ac];exact⟨_,rfl⟩)
  show IsRangeIter h' Ia (a+(i+1:Nat)) (((b-a).toNat:Int)-(i+1:Nat)) 1
  have e1:a+((i+1:Nat):Int)=a+i+1:=by lia
  have e2:((b-a).toNat:Int)-((i+1:Nat):Int)=((b-a).toNat:Int)-i-1:=by lia
  rw[e1,e2];exact ht'
 |seq x =>
  simp only[iC]at e
  refine bE e fun xs hx e=>?_
  refine ae ((t:∃l,ac C O x (.ref l)/\xR (asT x) s.heap Ia l i)) ?_;rintro l r q
  cases hT:asT x with
  |some ys =>
   rw[hT]at q
   cases qW hT
   cases hx
   refine cQ (EH I r e) ?_;rintro vals val h1 h2 h3
   refine wpAny_pyNext_tuple_item q h1 h2 fun h' ht' hs=>?_
   refine bI (id ht') ?_;rintro o ho hc hd
   exact jT (s:={ s with heap:=h'}) ho hc hd (by decide) (fin (tk:=s.toks) hs ⟨_,ho⟩ ⟨l,r,ht'⟩ h3)
  |none =>
   rw[hT]at q
   refine cQ (uC I (lm hx hT) r e) ?_;rintro vals val h1 h2 h3
   refine wpAny_pyNext_list_item q h1 h2 fun h' ht' hs=>?_
   refine bI (id ht') ?_;rintro o ho hc hd
   exact jT (s:={ s with heap:=h'}) ho hc hd (by decide) (fin (tk:=s.toks) hs ⟨_,ho⟩ ⟨l,r,by rw[hT];exact ht'⟩ h3)
 |enm x =>
  simp only[iC]at e
  refine ae (P9.mp e) ?_;rintro y e' rfl
  refine bE e' fun xs hx e=>?_
  refine eX ((t:∃l old,ac C O x (.ref l)/\IsEnum s.heap Ia Ja i old/\s.heap.IsListIter Ja l i/\Ia≠Ja)) ?_;rintro l old r q1 q2 q3
  refine cQ (uC I hx r e) ?_;rintro vals val h1 h2 h3
  cases tgt with
  |Tuple elts x1 pt =>
   refine wpAny_pyNext_enum_item q1 q2 h1 h2 q3 fun h' g1 g2 g3 g4 g5=>?_
   refine wpAny_letOwnedTupleGo_enum (s:={ s with heap:=h',toks:=s.toks+1}) g1 fun h₂ k1 k2=>?_
   have k2:Heap.SameBut Ia h' h₂:=k2
   have hIa:Ia<s.heap.objs.size:=Heap.lt_size q1
   have g3':h₂.get? s.heap.objs.size=some (ju #[.int i s.toks,val] 0):=(k2.2 _ (Nat.ne_of_gt hIa)).trans g3
   have S:jS Ia Ja O ⟨O.am,(s.heap.objs.size,ju #[.int i s.toks,val] 0)::O.Z⟩ s { s with heap:=h₂,toks:=s.toks+1} :=
    ⟨rfl,fun p hp=>.tail _ hp,fun p hp=>by
     rcases PZ.mp hp with rfl | hp
     .exact .inr (gg _)
     .exact .inl hp,fun b o n1 n2 e=>(k2.2 b n1).trans (g5 b o n1 n2 e),⟨h₂,_,rfl⟩⟩
   refine ae (g2) ?_;rintro o ho hr
   have hJ:h₂.get? Ja=some o:=(k2.2 _ (Ne.symm q3)).trans ho
   have k1':IsEnum h₂ Ia Ja ((i+1:Nat):Int) val:=by
    have:((i+1:Nat):Int)=(i:Int)+1:=Int.natCast_succ _
    rw[this];exact k1
   refine P _ _ _ S (I.step S μ1 μ2 fun p hp hm=>?_) ⟨l,val,ac.mono S.le _ r,k1',⟨o,hJ,hr⟩,q3⟩ (μ1.step S ⟨_,k1⟩) (μ2.step S ⟨_,hJ⟩) ?_
   . rcases PZ.mp hp with rfl | hp
     .exact g3'
     .exact absurd hp hm
   . simp only[ac]
     refine⟨_,#[.int i s.toks,val],0,rfl,.head _,?_⟩
     exact aL.mpr (.cons (by simp only[ac];exact⟨_,rfl⟩) (.cons (ac.mono S.le _ h3) .nil))
  |_=>exact nomatch ht
theorem xU(hh:A.handled=none)(I:ap C O J s.heap)(t:dY C O s.heap it i Ia Ja)(μ1:Off C O s.heap Ia)(μ2:Off C O s.heap Ja){N:Nat}(hN:bX J it=some N)(hi:i=N)
 {Q:Option Value->Shared->Prop} (P:∀s',jS Ia Ja O O s s'->ap C O J s'.heap->Q none s') :
 wpAny (model C.prog C.w) A (pyNext (.ref Ia)) Q E s:=by
 have fin:∀ {x:Addr}{h':Heap},x=Ia\/x=Ja->Heap.ExtBut x s.heap h'->Q none { s with heap:=h'}:=fun{x} {h'} hx hs=>by
  have S:jS Ia Ja O O s { s with heap:=h'}:=⟨rfl,fun _ h=>h,fun _ h=>.inl h,fun b o h1 h2 e=>hs b o (by rcases hx with rfl | rfl;exact h1;exact h2) e,⟨h',s.toks,rfl⟩⟩
  exact P _ S (I.step S μ1 μ2 fun p hp hm=>absurd hp hm)
 subst hi
 cases it with
 |rng a b =>
  simp only[bX,Option.some.injEq]at hN
  have t:IsRangeIter s.heap Ia (a+i) (((b-a).toNat:Int)-i) 1:=t
  exact wpAny_pyNext_range_end hh t (by lia) fun h' hs=>fin (.inl rfl) hs
 |seq x =>
  simp only[bX,P9]at hN
  refine ae (hN) ?_;rintro xs hx hl
  refine ae ((t:∃l,ac C O x (.ref l)/\xR (asT x) s.heap Ia l _)) ?_;rintro l r q
  cases hT:asT x with
  |some ys =>
   rw[hT]at q
   cases qW hT
   cases hx
   simp only[ac]at r
   refine bg (r) ?_;rintro a vals n q' m tl
   cases q'
   have hsz:=bJ (aL.mp tl)
   exact wpAny_pyNext_tuple_end hh q (cn I m) (by rw[Array.getElem?_eq_none];lia) fun h' hs=>fin (.inl rfl) hs
  |none =>
   rw[hT]at q
   refine bg (kG I (lm hx hT) r) ?_;rintro a vals n q' ho tl
   cases q'
   have hsz:=bJ tl
   exact wpAny_pyNext_list_end hh q (isL ho) (by rw[Array.getElem?_eq_none];lia) fun h' hs=>fin (.inl rfl) hs
 |enm x =>
  simp only[bX,P9]at hN
  refine ae (hN) ?_;rintro xs hx hl
  refine eX ((t:∃l old,ac C O x (.ref l)/\IsEnum s.heap Ia Ja i old/\s.heap.IsListIter Ja l i/\Ia≠Ja)) ?_;rintro l old r q1 q2 q3
  refine bg (kG I hx r) ?_;rintro a vals n q' ho tl
  cases q'
  have hsz:=bJ tl
  exact wpAny_pyNext_enum_end hh q1 q2 (isL ho) (by rw[Array.getElem?_eq_none];lia) fun h' hs=>fin (.inr rfl) hs
theorem iT(I:ap C O J s.heap)(ha:s.heap.get? a=none)(e:∃o,h'.get? a=some o):Off C O h' a:=by
 refine⟨fun q=>?_,fun p hp q=>?_,?_,e⟩
 . obtain⟨n,hn⟩:=List.getElem?_of_mem q
   have hl:n<J.length:=I.len▸(PD.mp hn).1
   refine ae (I.cell n J[n] _ (by simp[hl]) hn) ?_;rintro o ho _
   rw[ho]at ha;cases ha
 . have:=I.z p hp
   rw[q,ha]at this;cases this
 . cases q:C.h₀.get? a with
   |none=>rfl
   |some o=>rw[I.base a o q]at ha;cases ha
set_option tactic.hygienic true in
theorem vz(I:ap C O J s.heap){v:V}{val:Value}(e:jx J v=some it)(r:ac C O v val){Q:Value->Shared->Prop}
 (P:∀s' Ia Ja,al O O s s'->ap C O J s'.heap->dY C O s'.heap it 0 Ia Ja->s.heap.get? Ia=none->s.heap.get? Ja=none->Off C O s'.heap Ia->Off C O s'.heap Ja->(∀s Q E',dY C O s.heap it 0 Ia Ja->Q (.ref Ia) s->wpAny (model C.prog C.w) A (pyIter (.ref Ia)) Q E' s)->Q (.ref Ia) s') :
 wpAny (model C.prog C.w) A (pyIter val) Q E s:=by
 have fin:∀ {o:Obj},o.isFreed=false->dY C O (s.heap.push o) it 0 s.heap.objs.size s.heap.objs.size->(∀s' Q E',dY C O s'.heap it 0 s.heap.objs.size s.heap.objs.size->Q (.ref s.heap.objs.size) s'->wpAny (model C.prog C.w) A (pyIter (.ref s.heap.objs.size)) Q E' s')->Q (.ref s.heap.objs.size) { s with heap:=s.heap.push o}:=fun{o} hf t hi=>by
  have k:∀b x,s.heap.get? b=some x->(s.heap.push o).get? b=some x:=fun b x hx=>Heap.get?_push_of_some _ hx
  have hs:=gg s.heap
  have μ:Off C O (s.heap.push o) s.heap.objs.size:=iT I hs ⟨_,Heap.get?_push_size _ hf⟩
  exact P _ _ _ (al.at (t:=s.toks) k) (I.at k) t hs hs μ μ hi
 have list:∀ {a:Addr}{vals:Array Value},some (It.seq v)=some it->s.heap.IsList a vals->asT v=none->ac C O v (.ref a)->wpAny (model C.prog C.w) A (pyIter (.ref a)) Q E s:=fun{a vals} e L hT r0=>by
  cases e
  refine wpAny_pyIter_list L (fin rfl ⟨a,r0,?_⟩ fun s' Q E' t h=>?_)
  .rw[hT];exact⟨_,Heap.get?_push_size _ rfl,rfl,rfl⟩
  . refine ae ((t:∃l,_/\xR (asT v) _ _ l _)) ?_;rintro l _ t
    rw[hT]at t
    exact wpAny_pyIter_listiter t h
 cases v with
 |rng a b =>
  refine ifE e fun hs e=>?_
  rw[PJ]at hs
  obtain⟨a1,a2⟩:=gN hs.1
  obtain⟨b1,b2⟩:=gN hs.2
  cases e
  simp only[ac]at r
  refine cQ (r) ?_;rintro x o rfl m ⟨t,u,w,rfl⟩
  refine wpAny_pyIter_range (I.z _ m) (small_one (Int.le_of_lt ‹_›) a2 (Int.le_of_lt ‹_›) b2) ?_
  refine fin rfl ?_ fun s' Q E' t h=>wpAny_pyIter_rangeiter t h
  have e2:Builtin.Range.rangeSize a b 1=((b-a).toNat:Int):=by rw[rangeSize_one];split <;> grind
  show IsRangeIter _ _ (a+(0:Nat)) (((b-a).toNat:Int)-(0:Nat)) 1
  rw[e2]
  have h0:=Heap.get?_push_size s.heap (o:={ cls:=.type "range_iterator",data:=.fields #[rawInt a,rawInt ((b-a).toNat:Int),rawInt 1]}) rfl
  simpa using h0
 |ref n =>
  refine xH (G:=fun val=>ac C O (.ref n) val->wpAny (model C.prog C.w) A (pyIter val) Q E s) I e r (fun xs a vals k hn ha ho t e r0=>list e (isL ho) rfl r0) (fun _ _ _ _ _ _ _ _ _ e=>ax e) r
 |lst xs =>
  refine elL (G:=fun val=>ac C O (.lst xs) val->wpAny (model C.prog C.w) A (pyIter val) Q E s) r (fun a vals n m t r0=>list e (nP I m) rfl r0) r
 |tup xs =>
  refine elT (G:=fun val=>ac C O (.tup xs) val->wpAny (model C.prog C.w) A (pyIter val) Q E s) r (fun a vals n m t r0=>?_) r
  cases e
  refine wpAny_pyIter_tuple (cn I m) (fin rfl ⟨a,r0,(⟨_,Heap.get?_push_size _ rfl,rfl,rfl⟩:Heap.IsTupleIter _ _ _ _)⟩ fun s' Q E' t h=>?_)
  refine ae ((t:∃l,_/\xR (asT (.tup xs)) _ _ l _)) ?_;rintro l _ t
  exact wpAny_pyIter_tupleiter t h
 |_=>exact ax e
theorem HC(I:ap C O J s.heap){v:V}{val:Value}{xs:List V}(e:ba J v=some xs)(r:ac C O v val){Q:Value->Shared->Prop}
 (P:∀s' Ia Ja,al O O s s'->ap C O J s'.heap->dY C O s'.heap (.enm v) 0 Ia Ja->s.heap.get? Ia=none->s.heap.get? Ja=none->Off C O s'.heap Ia->Off C O s'.heap Ja->(∀s Q E',dY C O s.heap (.enm v) 0 Ia Ja->Q (.ref Ia) s->wpAny (model C.prog C.w) A (pyIter (.ref Ia)) Q E' s)->Q (.ref Ia) s') :
 wpAny (model C.prog C.w) A (call (.type "enumerate") [val]) Q E s:=by
 refine bg (kG I e r) ?_;rintro a vals n rfl ho t
 refine call_enumerate_list (isL ho) fun h' h1 h2 h3 k=>?_
 have n1:s.heap.get? (s.heap.objs.size+1)=none:=by
  cases q:s.heap.get? (s.heap.objs.size+1)with
  |none=>rfl
  |some o'=>exact absurd (Heap.lt_size q) (Nat.not_lt.mpr (Nat.le_succ _))
 have n2:=gg s.heap
 refine ae (id h2) ?_;rintro o ho' hr
 exact P { s with heap:=h'} _ _ (al.at (t:=s.toks) k) (I.at k) ⟨a,.none,r,h1,h2,Nat.succ_ne_self _⟩ n1 n2 (iT I n1 ⟨_,h1⟩) (iT I n2 ⟨_,ho'⟩) fun s Q E' t h=>by
  refine cQ (t) ?_;rintro l old _ t _
  exact wpAny_pyIter_enum t h
end
structure c9(A:Around)(d:Nat):Prop where
 handled:A.handled=none
 depth:A.depth+8*d+12<=recursionLimit
 units:A.units+64*d+288<=cLine
theorem c9.room{A:Around}{d:Nat}(h:c9 A d):tp A d:=⟨h.handled,by have:=h.depth;lia,by have:=h.units;lia⟩
theorem c9.under{A:Around}{d:Nat}(h:c9 A d)(x:Addr)(vals:List Value)(kw:List (Str×Value)):tp (A.under (.builtin "type.__call__" ⟨.ref x::vals,kw⟩)) d :=
 ⟨h.handled,by have:=h.depth;show A.depth+1+_+_<=_;lia,by have:=h.units;show A.units+1+_+_<=_;lia⟩
theorem tp.deeper{A:Around}{d:Nat}(h:tp A (d+1))(env:Env):c9 (A.deeper env) d :=
 ⟨h.handled,by have:=h.depth;show A.depth+1+_+_<=_;lia,by have:=h.units;show A.units+3+_+_<=_;lia⟩
theorem iU{o:Option V}{a:An}{k:V->An->Prop}(h:qQ o a k):∃x r,o=some x/\k x r:=by
 rcases a with _ | ⟨q,r⟩
 .exact False.elim h
 cases q with
 |v x=>exact⟨_,_,h.1,h.2⟩
 |c=>cases o with
  |none=>exact False.elim h
  |some x=>exact⟨_,_,rfl,h⟩
 |_=>exact False.elim h
theorem fZ{o:Option (V×Hp)}{a:An}{k:V->Hp->An->Prop}(h:CC o a k):∃x s r,o=some (x,s)/\k x s r:=by
 rcases a with _ | ⟨q,r⟩
 .exact False.elim h
 cases q with
 |p x s=>exact⟨_,_,_,h.1,h.2⟩
 |c=>cases o with
  |none=>exact False.elim h
  |some x=>exact⟨_,_,_,rfl,h⟩
 |_=>exact False.elim h
theorem BM{o:Option Hp}{a:An}{k:Hp->An->Prop}(h:Kz o a k):∃x r,o=some x/\k x r:=by
 rcases a with _ | ⟨q,r⟩
 .exact False.elim h
 cases q with
 |s x=>exact⟨_,_,h.1,h.2⟩
 |c=>cases o with
  |none=>exact False.elim h
  |some x=>exact⟨_,_,rfl,h⟩
 |_=>exact False.elim h
theorem BN{o:Option MK}{a:An}{k:MK->An->Prop}(h:Mn o a k):∃x r,o=some x/\k x r:=by
 rcases a with _ | ⟨q,r⟩
 .exact False.elim h
 cases q with
 |k x=>exact⟨_,_,h.1,h.2⟩
 |c=>cases o with
  |none=>exact False.elim h
  |some x=>exact⟨_,_,rfl,h⟩
 |_=>exact False.elim h
theorem BO{o:Option It}{a:An}{k:It->An->Prop}(h:zx o a k):∃x r,o=some x/\k x r:=by
 rcases a with _ | ⟨q,r⟩
 .exact False.elim h
 cases q with
 |i x=>exact⟨_,_,h.1,h.2⟩
 |c=>cases o with
  |none=>exact False.elim h
  |some x=>exact⟨_,_,rfl,h⟩
 |_=>exact False.elim h
theorem mC{o:Option Bool}{a:An}{k:Bool->An->Prop}(h:Hv o a k):∃x r,o=some x/\k x r:=by
 rcases a with _ | ⟨q,r⟩
 .exact False.elim h
 cases q with
 |t x=>exact⟨_,_,h.1,h.2⟩
 |c=>cases o with
  |none=>exact False.elim h
  |some x=>exact⟨_,_,rfl,h⟩
 |_=>exact False.elim h
theorem iV{F:V->Hp->Prop}{a:An}{k:V->Hp->An->Prop}(h:Ek F a k):∃x s r,F x s/\k x s r:=by
 rcases a with _ | ⟨q,r⟩
 .exact False.elim h
 cases q with
 |p x s=>exact⟨_,_,_,h.1,h.2⟩
 |_=>exact False.elim h
theorem BP{F:Fl->Loc->Hp->Prop}{a:An}{k:Fl->Loc->Hp->An->Prop}(h:KB F a k):∃f l s r,F f l s/\k f l s r:=by
 rcases a with _ | ⟨q,r⟩
 .exact False.elim h
 cases q with
 |l f l s=>exact⟨_,_,_,_,h.1,h.2⟩
 |_=>exact False.elim h
theorem hV{o:Option Bool}{a:An}{x y:An->Prop}(h:qR o a x y):∃c,o=some c/\(c=true->∃r,x r)/\(c=false->∃r,y r):=by
 rcases a with _ | ⟨q,r⟩
 .exact False.elim h
 have g:∀c:Bool,(match c with | true=>x r | false=>y r)->(c=true->∃r,x r)/\(c=false->∃r,y r):=fun c h=>by
  cases c with
  |true=>exact⟨fun _=>⟨_,h⟩,fun q=>(nomatch q)⟩
  |false=>exact⟨fun q=>(nomatch q),fun _=>⟨_,h⟩⟩
 cases q with
 |b c=>cases o with
  |none=>exact False.elim h
  |some d=>exact⟨c,PI some h.1,g c h.2⟩
 |t c=>exact⟨c,h.1,g c h.2⟩
 |m p q=>cases o with
  |none=>exact False.elim h
  |some d=>exact⟨d,rfl,fun e=>⟨_,h.1 e⟩,fun e=>⟨_,h.2 e⟩⟩
 |_=>exact False.elim h
theorem nR{op:BoolOp}{v:V}{J:Hp}{a:An}{rest:An->KQ->Prop}{k:KQ}(ad:∀r k',rest r k'->∃v s a,k' v s a)(h:brB op v J a rest k):
 ∃b,bM J v=some b/\(pO op b=false->∃r k',rest r k'/\∀v2 J2 a2,k' v2 J2 a2->∃a3,k v2 J2 a3)/\(pO op b=true->∃a3,k v J a3):=by
 have gen:∀a,(match(generalizing:=false) op with
  |.And=>qR (bM J v) a (fun a=>rest a k) (fun a=>k v J a)
  |.Or=>qR (bM J v) a (fun a=>k v J a) (fun a=>rest a k))->∃b,bM J v=some b/\(pO op b=false->∃r k',rest r k'/\∀v2 J2 a2,k' v2 J2 a2->∃a3,k v2 J2 a3)/\(pO op b=true->∃a3,k v J a3):=fun a h=>by
  cases op with
  |And =>
   refine bI (hV h) ?_;rintro c e h1 h2
   refine⟨c,e,fun s=>?_,fun s=>h2 (by cases c <;> first | rfl | cases s)⟩
   obtain⟨r,h1⟩:=h1 (by cases c <;> first | rfl | cases s)
   exact⟨r,k,h1,fun _ _ _ h=>⟨_,h⟩⟩
  |Or =>
   refine bI (hV h) ?_;rintro c e h1 h2
   refine⟨c,e,fun s=>?_,fun s=>h1 (by cases c <;> first | rfl | cases s)⟩
   obtain⟨r,h2⟩:=h2 (by cases c <;> first | rfl | cases s)
   exact⟨r,k,h2,fun _ _ _ h=>⟨_,h⟩⟩
 rcases a with _ | ⟨q,r⟩
 .exact gen _ h
 cases q with
 |o=>cases v with
  |bool b =>
   refine⟨b,rfl,fun s=>⟨r,_,h,fun v2 J2 a2 hk=>?_⟩,fun s=>?_⟩
   . cases v2 with
     |bool b2 =>
      obtain⟨rfl,hk⟩:=hk
      refine⟨a2,?_⟩
      cases op <;> cases b <;> first | exact hk | cases s
     |_=>exact False.elim hk
   . refine bf (ad _ _ h) ?_;rintro v2 J2 a2 hk
     cases v2 with
     |bool b2 =>
      obtain⟨rfl,hk⟩:=hk
      refine⟨a2,?_⟩
      cases op <;> cases b <;> first | exact hk | cases s
     |_=>exact False.elim hk
  |_=>exact False.elim h
 |_=>exact gen _ h
noncomputable abbrev M(C:Ctx):=model C.prog C.w
noncomputable def BQ(C:Ctx)(O:Map):Fl->Flow->Prop
 |.next,f=>f=.next
 |.brk,f=>f=.brk
 |.cont,f=>f=.cont
 |.ret v,f=>∃val,f=.ret val/\ac C O v val
noncomputable def pU(C:Ctx)(L:List Addr)(O:Map)(s:Shared)(J':Hp)(env:Env)(loc':Loc)(fl:Fl)(Q:Flow->Shared->Prop):Prop :=
 ∀O' s' f,bC L O O' s s'->ap C O' J' s'.heap->aK C L O' env loc' s'.heap->BQ C O' fl f->Q f s'
noncomputable def ie(C:Ctx)(cs:aD)(d:Nat):Prop:=∀ {A:Around}{c m:Str}{f:Addr}{args:List V}{kw:List (Str×V)}{J J':Hp}{r:V}{O:Map}{s:Shared}{vals:List Value}{kwp:List (Str×Value)}{R:Result->Shared->Prop},
 cs c m args kw J r J'->C.fnA c m=some f->tp A d->ap C O J s.heap->ag (ac C O) args vals->ag (Kv C O) kw kwp ->
 (∀O' s' v,al O O' s s'->ap C O' J' s'.heap->ac C O' r v->R (.ok (.ret v)) s')->codeAny (M C) A (.call (.ref f) ⟨vals,kwp⟩) R s
structure fz(C:Ctx)(T:Tab)(mt:Pos->Bool)(cs:aD)(d:Nat)(ss:List Stmt):Prop where
 run:∀ {A:Around}{L:List Addr}{env:Env}{loc:Loc}{J:Hp}{a:An}{k:KF}{O:Map}{s:Shared}{Q:Flow->Shared->Prop}{E:Value->Shared->Prop},
  runSs T mt cs ss loc J a k->c9 A d->ap C O J s.heap->aK C L O env loc s.heap->(∀f l J' a',k f l J' a'->pU C L O s J' env l f Q)->wpAny (M C) A (execs ss env) Q E s
theorem xV{kindOf:Str->Option NameKind}{x:Str}(hx:kindOf x=some .local):∀(binds:List (Str×Value)) (m:Str->Option Value),(binds.map (·.1)).Nodup->bindL kindOf binds m x=(match binds.lookup x with | some v=>some v | none=>m x)
 |[],m,_=>rfl
 |(n,v)::r,m,hn=>by
  unfold bindL
  rw[xV hx r _ (List.nodup_cons.mp hn).2,PX]
  by_cases q:x=n
  . subst q
    rw[P2,if_pos hx]
    have:r.lookup x=none:=by
     rw[List.lookup_eq_none_iff]
     intro p hp
     rw[bne_iff_ne]
     rintro rfl
     exact(List.nodup_cons.mp hn).1 (List.mem_map.mpr ⟨p,hp,rfl⟩)
    rw[this]
    exact if_pos rfl
  . rw[PC.mpr q]
    cases r.lookup x with
    |some w=>rfl
    |none =>
     dsimp only
     split
     .exact if_neg q
     .rfl
theorem xW{kindOf:Str->Option NameKind}{x:Str}(hx:kindOf x≠some .local):∀(binds:List (Str×Value)) (m:Str->Option Value),(binds.map (·.1)).Nodup->bindC kindOf binds m x=(match binds.lookup x with | some v=>some v | none=>m x)
 |[],m,_=>rfl
 |(n,v)::r,m,hn=>by
  unfold bindC
  rw[xW hx r _ (List.nodup_cons.mp hn).2,PX]
  by_cases q:x=n
  . subst q
    rw[P2,if_neg hx]
    have:r.lookup x=none:=by
     rw[List.lookup_eq_none_iff]
     intro p hp
     rw[bne_iff_ne]
     rintro rfl
     exact(List.nodup_cons.mp hn).1 (List.mem_map.mpr ⟨p,hp,rfl⟩)
    rw[this]
    exact if_pos rfl
  . rw[PC.mpr q]
    cases r.lookup x with
    |some w=>rfl
    |none =>
     dsimp only
     split
     .rfl
     .exact if_neg q
theorem rm{C:Ctx}{O:Map}:∀ {ps:List Str}{vs:List V}{vals:List Value}{x:Str},ag (ac C O) vs vals->(∀v,(ps.zip vs).lookup x=some v->∃val,(ps.zip vals).lookup x=some val/\ac C O v val)/\((ps.zip vs).lookup x=none->(ps.zip vals).lookup x=none)
 |[],_,_,_,_=>by simp
 |_::_,_,_,_,.nil=>by simp
 |p::ps,_,_,x,.cons h t=>by
  rw[List.zip_cons_cons,List.zip_cons_cons,PX,PX]
  by_cases q:x=p
  . subst q
    simp only[P2]
    exact⟨fun v e=>by cases e;exact⟨_,rfl,h⟩,fun e=>by cases e⟩
  . simp only[PC.mpr q]
    exact rm t
theorem iW{α β:Type}{f:α->β}{x:Str}{k:NameKind}:∀ {l:List (Str×NameKind)}{g:Str->NameKind->Sl}{sl:Sl},(l.map fun p=>(p.1,g p.1 p.2)).lookup x=some sl->∃k,l.lookup x=some k/\sl=g x k
 |[],_,_,e=>by simp at e
 |(y,k)::r,g,sl,e=>by
  rw[List.map_cons,PX]at e
  rw[PX]
  by_cases q:x=y
  . subst q
    simp only[P2]at e ⊢
    exact⟨k,rfl,(Pz e).symm⟩
  . simp only[PC.mpr q]at e ⊢
    exact iW (α:=α) (β:=β) (f:=f) (k:=k) e
section
variable{C:Ctx}{T:Tab}{mt:Pos->Bool}{cs:aD}{d:Nat}
theorem vA{kw:List (Str×V)}{kwp:List (Str×Value)}{O:Map}(hz:∀p∈C.Z₀,p∈O.Z)(hk:ag (Kv C O) kw kwp):∀ {srcs:List Src}{rs:List V}{r:List Value},CB kw srcs=some rs->ag (vh C (kwp.map (·.2))) srcs r->ag (ac C O) rs r
 |[],rs,r,e,h=>by cases h;cases e;exact .nil
 |.kw k::t,rs,r,e,h=>by
  cases h with | cons h1 h2 =>
  unfold CB at e
  refine ae (PM.mp e) ?_;rintro p hp e
  refine ae (P9.mp e) ?_;rintro q hq rfl
  refine ae (hk.get hp) ?_;rintro y hy ⟨e1,e2⟩
  have h1:(kwp.map (·.2))[k]?=some _:=h1
  rw[PQ,hy]at h1
  cases h1
  exact .cons e2 (vA hz hk hq h2)
 |.dflt v::t,rs,r,e,h=>by
  cases h with | cons h1 h2 =>
  unfold CB at e
  refine ae (P9.mp e) ?_;rintro q hq rfl
  exact .cons (ac.mono ⟨⟨O.am,by simp⟩,hz⟩ _ h1) (vA hz hk hq h2)
theorem CL{kw:List (Str×V)}{kwp:List (Str×Value)}{O:Map}(h:ag (Kv C O) kw kwp):kwp=(kw.map (·.1)).zip (kwp.map (·.2)):=by
 induction h with
 |nil=>rfl
 |@cons p q _ _ h _ ih=>rw[List.map_cons,List.map_cons,List.zip_cons_cons,<- ih,<- h.1]
theorem My(K:aT C){c m:Str}{fd:aA}{f:Addr}(F:CH C c m fd)(hf:C.fnA c m=some f)(B:fz C T mt cs d fd.body){A:Around}{args:List V}{kw:List (Str×V)}{J J':Hp}{r:V}{O:Map}{s:Shared}{vals:List Value}{kwp:List (Str×Value)}{R:Result->Shared->Prop}
 {binds:List (Str×V)}{an:An} (hb:pN fd args kw=some binds) (he:runSs T mt cs fd.body (lc fd.scope binds) J an (Hw r J'))
 (hR:tp A (d+1)) (I:ap C O J s.heap) (ra:ag (ac C O) args vals) (rk:ag (Kv C O) kw kwp)
 (P:∀O' s' v,al O O' s s'->ap C O' J' s'.heap->ac C O' r v->R (.ok (.ret v)) s'):codeAny (M C) A (.call (.ref f) ⟨vals,kwp⟩) R s:=by
 obtain @⟨f',oc,od,osl,name,qual,params,dV,kV,doc,pm,an,cdv,ct,h1,h2,h3,h4,h5⟩:=F.at_
 rw[hf]at h1;cases h1
 have ok:=F.ok
 unfold mB at ok
 simp only[PJ,decide_eq_true_eq,Bool.not_eq_true']at ok
 obtain⟨⟨⟨⟨⟨k1,k2⟩,k3⟩,k4⟩,k5⟩,k6⟩:=ok
 have X:=lH K I
 unfold pN at hb
 obtain⟨sh,hsh,hb⟩:=PM.mp hb
 obtain⟨rs,hrs,hb⟩:=PM.mp hb
 split at hb
 . rename_i hlen
   cases hb
   have hm:=List.mem_of_find?_eq_some hsh
   have hq:=List.find?_some hsh
   simp only[PJ,P4]at hq
   obtain⟨q1,q2⟩:=hq
   refine ae (h5 sh hm vals (kwp.map (·.2)) (by rw[q1,ra.length]) (by rw[q2];simp[rk.length])) ?_;rintro rv hrv hpk
   have hkw:kwp=sh.2.1.zip (kwp.map (·.2)):=by rw[q2];exact CL rk
   rw[<- hkw]at hpk
   have rr:=vA I.z₀ rk hrs hrv
   have rall:=ra.append rr
   have BT:=kp_binds X hpk
   have hkeys:(fd.params.zip (vals++rv)).map (·.1)=fd.params:=by
    rw[List.map_fst_zip];rw[<- rall.length,hlen];exact PS _
   have hroom:A.depth<recursionLimit:=by have:=hR.depth;lia
   have kinds:∀x∈fd.params.zip (vals++rv),fd.scope.names.lookup x.1=some .local\/(fd.scope.names.lookup x.1=some .cell/\((cellsFrom (s.heap.objs.size+1) fd.scope.names []).lookup x.1).isSome=true):=fun x hx=>by
    have:x.1∈fd.params:=by rw[<- hkeys];exact List.mem_map.mpr ⟨x,hx,rfl⟩
    rcases F.params _ this with q | q
    .exact .inl q
    .exact .inr ⟨q,cellsFrom_some _ _ _ (.inl q)⟩
   refine codeAny_call_function hroom (X _ _ h2) rfl k2 k3 rfl (codeRec_of X h3) (BT _ _ _ _ ?_)
   refine wpAny_newFunctionEnv_cells k1 kinds fun env henv s₁ hin=>?_
   obtain⟨⟨⟨h',tk,rfl⟩,hns,hkeep,hfresh⟩,hcell,hapart,habove⟩:=hin
   refine⟨K.nolimit.keeps fun b o e=>hkeep b o (I.base b o e),codeAny_func ?_⟩
   have hscope:env.scope=fd.scope:=by rw[henv];rfl
   have hkind:∀x,env.kindOf x=fd.scope.names.lookup x:=fun x=>by show env.scope.names.lookup x=_;rw[hscope]
   have hLnone:s.heap.get? env.locals=none:=by
    cases q:s.heap.get? env.locals with
    |none=>rfl
    |some o=>exact absurd (Heap.lt_size q) (Nat.not_lt.mpr hfresh)
   have hcnone:∀x cc,(x,cc)∈env.cells->s.heap.get? cc=none:=fun x cc hx=>by
    cases q:s.heap.get? cc with
    |none=>rfl
    |some o=>exact absurd (Nat.lt_trans (PK hfresh (habove x cc hx)) (Heap.lt_size q)) (Nat.lt_irrefl _)
   have hLall:∀a∈env.locals::env.cells.map (·.2),s.heap.get? a=none:=fun a ha=>by
    rcases PZ.mp ha with rfl | ha
    .exact hLnone
    . refine ae (List.mem_map.mp ha) ?_;rintro p hp rfl
      exact hcnone p.1 p.2 hp
   have cellHere:∀x cc,env.cells.lookup x=some cc->∃o,h'.get? cc=some o:=fun x cc hx=>by
    refine ae (hcell x cc hx) ?_;rintro o e _;exact⟨o,e⟩
   have lookOf:∀p∈env.cells,env.cells.lookup p.1=some p.2\/∃q,env.cells.lookup p.1=some q:=fun p hp=>by
    cases q:env.cells.lookup p.1 with
    |some v=>exact .inr ⟨v,rfl⟩
    |none=>rw[List.lookup_eq_none_iff]at q;have:=q p hp;simp at this
   have I1:ap C O J h':=I.at hkeep
   have R1:al O O s { s with heap:=h',toks:=tk}:=al.at hkeep
   have ndc:∀x cc cc',(x,cc)∈env.cells->(x,cc')∈env.cells->env.cells.lookup x=some cc\/True:=fun _ _ _ _ _=>.inr trivial
   have V1:aK C (env.locals::(env.cells.map (·.2)).filter fun cc=>(h'.get? cc).isSome) O env (lc fd.scope (fd.params.zip (args++rs))) h':=by
    have hsub:∀a∈(env.locals::(env.cells.map (·.2)).filter fun cc=>(h'.get? cc).isSome),a∈env.locals::env.cells.map (·.2):=fun a ha=>by
     rcases PZ.mp ha with rfl | ha
     .exact .head _
     .exact .tail _ (List.mem_filter.mp ha).1
    refine⟨by rw[hscope];exact k1,by rw[henv];rfl,by rw[henv];rfl,.head _,fun a ha=>?_,fun a ha=>?_,fun x y cc hx hy=>?_,fun x cc hx=>?_,fun x cc hx=>?_,_,hns,fun x sl hsl=>?_⟩
    . have μ:=iT (h':=s.heap) (C:=C) (a:=a) I (hLall a (hsub a ha))
      refine⟨fun q=>?_,fun p hp q=>?_,?_⟩
      . exact absurd (I.lt q) (by
         rcases PZ.mp (hsub a ha)with rfl | hb
         .exact Nat.not_lt.mpr hfresh
         . refine ae (List.mem_map.mp hb) ?_;rintro p hp rfl
           exact Nat.not_lt.mpr (Nat.le_of_lt (PK hfresh (habove p.1 p.2 hp))))
      .have:=I.z p hp;rw[q,hLall a (hsub a ha)]at this;cases this
      . cases q:C.h₀.get? a with
        |none=>rfl
        |some o=>have:=I.base a o q;rw[hLall a (hsub a ha)]at this;cases this
    . rcases PZ.mp ha with rfl | ha
      .refine aU (hns) ?_;rintro o _ _ e _;exact⟨o,e⟩
      .exact Option.isSome_iff_exists.mp (List.mem_filter.mp ha).2
    .exact name_of_addr hapart (mem_of_lookup hx) (mem_of_lookup hy)
    .exact Nat.ne_of_gt (habove x cc (mem_of_lookup hx))
    . refine⟨fun q=>?_,cellHere x cc hx⟩
      have:=I.lt q
      exact absurd (Nat.lt_trans (PK hfresh (habove x cc (mem_of_lookup hx))) this) (Nat.lt_irrefl _)
    . unfold lc at hsl
      obtain⟨k,hk,rfl⟩:=iW (α:=Nat) (β:=Nat) (f:=id) (k:=.local) (g:=fun y k=>match k with
       |.local=>.v ((fd.params.zip (args++rs)).lookup y)
       |.cell=>.cv ((fd.params.zip (args++rs)).lookup y)
       |_=>.g) hsl
      have hkx:env.kindOf x=some k:=(hkind x).trans hk
      obtain⟨z1,z2⟩:=rm (x:=x) (ps:=fd.params) rall
      have nd:((fd.params.zip (vals++rv)).map (·.1)).Nodup:=by rw[hkeys];exact F.pnodup
      have memc:∀cc,env.cells.lookup x=some cc->cc∈(env.locals::(env.cells.map (·.2)).filter fun cc=>(h'.get? cc).isSome):=fun cc hc=>by
       refine .tail _ (List.mem_filter.mpr ⟨List.mem_map.mpr ⟨_,mem_of_lookup hc,rfl⟩,?_⟩)
       obtain⟨o,e⟩:=cellHere x cc hc
       rw[e];rfl
      have hmem:=List.all_eq_true.mp k4 (x,k) (mem_of_lookup hk)
      cases k with
      |«local» =>
       have bl:=xV (x:=x) hkx (fd.params.zip (vals++rv)) (fun _=>none) nd
       cases q:(fd.params.zip (args++rs)).lookup x with
       |some v =>
        obtain⟨val,w1,w2⟩:=z1 v q
        rw[w1]at bl
        exact⟨val,w2,hkx,bl⟩
       |none=>exact hkx
      |cell =>
       obtain⟨cc,hcc⟩:=Option.isSome_iff_exists.mp (cellsFrom_some (x:=x) fd.scope.names (s.heap.objs.size+1) [] (.inl hk))
       have hcc:env.cells.lookup x=some cc:=by rw[henv];exact hcc
       have bc:=xW (x:=x) (kindOf:=env.kindOf) (by rw[hkx];decide) (fd.params.zip (vals++rv)) (fun _=>none) nd
       have hv:=hcell x cc hcc
       rw[bc]at hv
       cases q:(fd.params.zip (args++rs)).lookup x with
       |some v =>
        obtain⟨val,w1,w2⟩:=z1 v q
        rw[w1]at hv
        exact⟨val,w2,hkx,cc,hcc,memc cc hcc,hv⟩
       |none =>
        exact⟨hkx,cc,_,hcc,memc cc hcc,hv⟩
      |globalImplicit=>exact hkx
      |_=>cases hmem
   refine B.run he (hR.deeper env) I1 V1 fun fl loc' J₁ a' hend O' s' fv RX I' V' hfl=>?_
   have RR:al O O' s s':=R1.thenX RX fun a ha=>hLall a (by
    rcases PZ.mp ha with rfl | ha
    .exact .head _
    .exact .tail _ (List.mem_filter.mp ha).1)
   cases fl with
   |ret x =>
    obtain⟨rfl,rfl⟩:=hend
    obtain⟨val,rfl,hv⟩:=hfl
    exact P O' s' val RR I' hv
   |next =>
    obtain⟨rfl,rfl⟩:=hend
    have:fv=.next:=hfl
    subst this
    exact P O' s' .none RR I' (by simp only[ac])
   |_=>exact False.elim hend
 .cases hb
mutual
theorem ac.cut{C:Ctx}{l:List Addr}{l':List Addr}{Z:List (Addr×Obj)}:∀(x:V) {v:Value},fy l.length x=true->ac C ⟨l++l',Z⟩ x v->ac C ⟨l,Z⟩ x v
 |.ref k,v,h,r=>by
  simp only[ac]at r ⊢
  refine ae (r) ?_;rintro a e q
  exact⟨a,e,(PN (PP h)).symm.trans q⟩
 |.inst c k,v,h,r=>by
  simp only[ac]at r ⊢
  refine fR (r) ?_;rintro x dx K e h1 h2 q
  exact⟨x,dx,K,e,h1,h2,(PN (PP h)).symm.trans q⟩
 |.tup xs,v,h,r=>by
  simp only[ac]at r ⊢
  refine bg (r) ?_;rintro a vals n e h1 q
  exact⟨a,vals,n,e,h1,VRelL.cut xs h q⟩
 |.lst xs,v,h,r=>by
  simp only[ac]at r ⊢
  refine bg (r) ?_;rintro a vals n e h1 q
  exact⟨a,vals,n,e,h1,VRelL.cut xs h q⟩
 |.none,v,h,r=>r
 |.bool _,v,h,r=>r
 |.int _,v,h,r=>r
 |.str _,v,h,r=>r
 |.rng _ _,v,h,r=>by simp only[ac]at r ⊢;exact r
 |.fn _ _,v,h,r=>r
 |.cls _,v,h,r=>r
 |.bi _,v,h,r=>r
 |.ty _,v,h,r=>r
 |.jd _,v,h,r=>by simp only[ac]at r ⊢;exact r
theorem VRelL.cut{C:Ctx}{l:List Addr}{l':List Addr}{Z:List (Addr×Obj)}:∀(xs:List V) {vs:List Value},refsL l.length xs=true->VRelL C ⟨l++l',Z⟩ xs vs->VRelL C ⟨l,Z⟩ xs vs
 |[],vs,h,r=>r
 |x::xs,vs,h,r=>by
  simp only[VRelL]at r ⊢
  refine cQ (r) ?_;rintro v w e h1 h2
  have h:(fy l.length x&&refsL l.length xs)=true:=h
  rw[PJ]at h
  exact⟨v,w,e,ac.cut x h.1 h1,VRelL.cut xs h.2 h2⟩
end
theorem HD{C:Ctx}{l l':List Addr}{Z:List (Addr×Obj)}{xs:List V}{vs:List Value}(h:refsL l.length xs=true)(r:ag (ac C ⟨l++l',Z⟩) xs vs):ag (ac C ⟨l,Z⟩) xs vs:=aL.mp (VRelL.cut xs h (aL.mpr r))
theorem EI{C:Ctx}{l l':List Addr}{Z:List (Addr×Obj)}{es:List (Str×V)}{ents:List DictEntry}(t:ag (fo C ⟨l++l',Z⟩) es ents):refsL l.length (es.map (·.2))=true->ag (fo C ⟨l,Z⟩) es ents:=by
 induction t with
 |nil=>exact fun _=>.nil
 |@cons p e es ents h _ ih =>
  intro q
  have q:(fy l.length p.2&&refsL l.length (es.map (·.2)))=true:=q
  rw[PJ]at q
  exact .cons ⟨h.1,h.2.1,ac.cut _ q.1 h.2.2⟩ (ih q.2)
theorem CM{C:Ctx}{l l':List Addr}{Z:List (Addr×Obj)}{es:List (V×V)}{ents:List (List AK×Addr×Value)}(t:ag (ic C ⟨l++l',Z⟩) es ents):refsL l.length (es.map (·.1))=true->refsL l.length (es.map (·.2))=true->ag (ic C ⟨l,Z⟩) es ents:=by
 induction t with
 |nil=>exact fun _ _=>.nil
 |@cons p e es ents h _ ih =>
  intro q w
  have q:(fy l.length p.1&&refsL l.length (es.map (·.1)))=true:=q
  have w:(fy l.length p.2&&refsL l.length (es.map (·.2)))=true:=w
  rw[PJ]at q w
  exact .cons ⟨h.1,ac.cut _ q.1 h.2.1,ac.cut _ w.1 h.2.2⟩ (ih q.2 w.2)
theorem mz.cut{C:Ctx}{l l':List Addr}{Z:List (Addr×Obj)}{c:ab}{o:Obj}(h:bT l.length c=true)(r:mz C ⟨l++l',Z⟩ c o):mz C ⟨l,Z⟩ c o:=by
 cases c with
 |list xs=>refine bu (r) ?_;rintro vals n e t;exact⟨vals,n,e,HD h t⟩
 |dict es=>refine cQ (r) ?_;rintro ents n e t q;exact⟨ents,n,e,EI t h,q⟩
 |tdict es =>
  refine cQ (r) ?_;rintro ents n e t nd
  have h:(refsL l.length (es.map (·.1))&&refsL l.length (es.map (·.2)))=true:=h
  rw[PJ]at h
  exact⟨ents,n,e,CM t h.1 h.2,nd⟩
theorem Mz{C:Ctx}{O O':Map}{J s1 s2:Hp}{s s':Shared}{h:Heap}{v:V}{val:Value}(I0:ap C O J h)(g:Mo J.length v s1 s2)(R:al O O' s s')(I:ap C O' s1 s'.heap)(r:ac C O' v val):
 ∃O'',al O O'' s s'/\ap C O'' s2 s'.heap/\ac C O'' v val:=by
 rcases g with rfl | ⟨rfl,g1,g2⟩
 .exact⟨O',R,I,r⟩
 . obtain⟨am,Z⟩:=O'
   obtain⟨l',e⟩:=R.le.pre
   have e:am=O.am++l':=e
   subst e
   have hl:=I0.len
   rw[<- hl]at g1 g2 ⊢
   refine⟨⟨O.am,Z⟩,⟨⟨⟨[],by simp⟩,R.le.sub⟩,R.keep,fun a h1 h2=>absurd h1 h2,R.newZ,R.same⟩,⟨I.base,?_,fun a ha=>I.fresh a (List.mem_append_left _ ha),(List.nodup_append.mp I.nodup).1,fun a ha=>I.low a (List.mem_append_left _ ha),I.z₀,I.z,fun p hp hm=>I.zam p hp (List.mem_append_left _ hm),fun n c a e1 e2=>?_⟩,ac.cut v g1 r⟩
   . have:=I.len
     simp at this
     simp
     lia
   . have hn:n<O.am.length:=(PD.mp e2).1
     have e3:s1[n]?=some c:=by rw[List.getElem?_take]at e1;rw[if_pos hn]at e1;exact e1
     refine ae (I.cell n c a e3 (by show(O.am++l')[n]?=_;rw[PN hn];exact e2)) ?_;rintro o ho hc
     exact⟨o,ho,hc.cut (List.all_eq_true.mp g2 c (List.mem_of_getElem? e1))⟩
theorem MA(K:aT C)(TO:cp C T)(B:∀(cs:aD) (d:Nat),ie C cs d->∀ss,fz C T mt cs d ss)(d:Nat):ie C (jO T mt d) d:=by
 induction d with
 |zero=>exact fun e=>False.elim e
 |succ d ih =>
  intro A c m f args kw J J' r O s vals kwp R e hf hR I ra rk P
  refine qU (e) ?_;rintro fd binds an s1 hfd hb e g
  refine My K (TO.fns c m fd hfd) hf (B _ d ih fd.body) hb e hR I ra rk fun O' s' v R' I' r'=>?_
  refine bI (Mz I g R' I' r') ?_;rintro O'' R2 I2 r2
  exact P O'' s' v R2 I2 r2
end
structure aE(C:Ctx)(T:Tab)(mt:Pos->Bool)(cs:aD)(d:Nat)(e:Expr):Prop where
 run:∀ {A:Around}{L:List Addr}{env:Env}{loc:Loc}{J:Hp}{a:An}{k:KQ}{O:Map}{s:Shared}{Q:Value->Shared->Prop}{E:Value->Shared->Prop},
  bj T mt cs e loc J a k->c9 A d->ap C O J s.heap->aK C L O env loc s.heap->(∀v J' a',k v J' a'->eL C O s J' v Q)->wpAny (M C) A (eval e env) Q E s
 ad:∀ {loc:Loc}{J:Hp}{a:An}{k:KQ},bj T mt cs e loc J a k->∃v J' a',k v J' a'
noncomputable def uE(C:Ctx)(O:Map)(s:Shared)(J':Hp)(b:Bool)(Q:Bool->Shared->Prop):Prop:=∀O' s',al O O' s s'->ap C O' J' s'.heap->Q b s'
noncomputable def pV(C:Ctx)(O:Map)(s:Shared)(J':Hp)(v:V)(Q:Bool->Shared->Prop):Prop:=∃b,bM J' v=some b/\uE C O s J' b Q
noncomputable def MB(C:Ctx)(O:Map)(s:Shared)(J':Hp)(rs:List V)(Q:List Value->Shared->Prop):Prop:=∀O' s' vs,al O O' s s'->ap C O' J' s'.heap->ag (ac C O') rs vs->Q vs s'
structure fq(C:Ctx)(T:Tab)(mt:Pos->Bool)(cs:aD)(d:Nat)(e:Expr):Prop where
 run:∀ {A:Around}{L:List Addr}{env:Env}{loc:Loc}{J:Hp}{a:An}{k:KQ}{O:Map}{s:Shared}{Q:Bool->Shared->Prop}{E:Value->Shared->Prop},
  bj T mt cs e loc J a k->c9 A d->ap C O J s.heap->aK C L O env loc s.heap->(∀v J' a',k v J' a'->pV C O s J' v Q)->wpAny (M C) A (isTrue e env (eval e env)) Q E s
structure d9(C:Ctx)(T:Tab)(mt:Pos->Bool)(cs:aD)(d:Nat)(e:Expr):Prop where
 run:∀ {A:Around}{L:List Addr}{env:Env}{loc:Loc}{J:Hp}{a:An}{k:KL}{v:V}{val:Value}{O:Map}{s:Shared}{Q:Unit->Shared->Prop}{E:Value->Shared->Prop},
  runA T mt cs e v loc J a k->ac C O v val->c9 A d->ap C O J s.heap->aK C L O env loc s.heap->(∀l J' a',k l J' a'->lj C L O s J' env l (Q ()))->wpAny (M C) A (assign e env val) Q E s
structure cJ(C:Ctx)(T:Tab)(mt:Pos->Bool)(cs:aD)(d:Nat)(es:List Expr):Prop where
 items:∀ {A:Around}{L:List Addr}{env:Env}{loc:Loc}{J:Hp}{a:An}{k:List V->Hp->An->Prop}{O:Map}{s:Shared}{pos:Pos}{Q:List Value->Shared->Prop}{E:Value->Shared->Prop},
  runEs T mt cs es loc J a k->c9 A d->ap C O J s.heap->aK C L O env loc s.heap->(∀rs J' a',k rs J' a'->MB C O s J' rs Q)->wpAny (M C) A (spliced (backTo pos (starEach es env))) Q E s
 pairs:∀ {A:Around}{L:List Addr}{env:Env}{loc:Loc}{J:Hp}{a:An}{k:List V->Hp->An->Prop}{keys:List (Option Expr)}{ks:List Str}{O:Map}{s:Shared}{pos:Pos}{Q:List (Value×Value)->Shared->Prop}{E:Value->Shared->Prop},
  runEs T mt cs es loc J a k->keys.mapM gI=some ks->ks.length=es.length->c9 A d->ap C O J s.heap->aK C L O env loc s.heap ->
  (∀rs J' a',k rs J' a'->∀O' s' ps,al O O' s s'->ap C O' J' s'.heap->ag (fun p q=>lD p.1 q.1/\ac C O' p.2 q.2) (ks.zip rs) ps->Q ps s')->wpAny (M C) A (evalPairs (pairTrees keys es env pos)) Q E s
 bool:∀ {A:Around}{L:List Addr}{env:Env}{loc:Loc}{J:Hp}{a:An}{k:KQ}{op:BoolOp}{O:Map}{s:Shared}{pos:Pos}{Q:Value->Shared->Prop}{E:Value->Shared->Prop},
  runB T mt cs op es loc J a k->c9 A d->ap C O J s.heap->aK C L O env loc s.heap->(∀v J' a',k v J' a'->eL C O s J' v Q)->wpAny (M C) A (boolOp pos op (evalEach es env)) Q E s
 all:∀ {A:Around}{L:List Addr}{env:Env}{loc:Loc}{J:Hp}{a:An}{k:KQ}{op:BoolOp}{O:Map}{s:Shared}{Q:Bool->Shared->Prop}{E:Value->Shared->Prop},
  runB T mt cs op es loc J a k->c9 A d->ap C O J s.heap->aK C L O env loc s.heap->(∀v J' a',k v J' a'->pV C O s J' v Q)->wpAny (M C) A (allTrue op es env) Q E s
 chain:∀ {A:Around}{L:List Addr}{env:Env}{loc:Loc}{J:Hp}{a:An}{k:KQ}{x:V}{va:Value}{ops:List CmpOp}{O:Map}{s:Shared}{pos:Pos}{Q:Value->Shared->Prop}{E:Value->Shared->Prop},
  runC T mt cs x ops es loc J a k->ac C O x va->c9 A d->ap C O J s.heap->aK C L O env loc s.heap->(∀v J' a',k v J' a'->eL C O s J' v Q)->wpAny (M C) A (compareChain pos va ops (markedEach ops es (evalEach es env))) Q E s
 tchain:∀ {A:Around}{L:List Addr}{env:Env}{loc:Loc}{J:Hp}{a:An}{k:KQ}{x:V}{va:Value}{ops:List CmpOp}{O:Map}{s:Shared}{pos:Pos}{Q:Bool->Shared->Prop}{E:Value->Shared->Prop},
  runC T mt cs x ops es loc J a k->ac C O x va->c9 A d->ap C O J s.heap->aK C L O env loc s.heap->(∀v J' a',k v J' a'->pV C O s J' v Q)->wpAny (M C) A (testChain pos va ops (markedEach ops es (evalEach es env))) Q E s
 tests:∀ {A:Around}{L:List Addr}{env:Env}{loc:Loc}{J:Hp}{a:An}{k:Bool->Hp->An->Prop}{O:Map}{s:Shared}{Q:Bool->Shared->Prop}{E:Value->Shared->Prop},
  runT T mt cs es loc J a k->c9 A d->ap C O J s.heap->aK C L O env loc s.heap->(∀b J' a',k b J' a'->uE C O s J' b Q) ->
  wpAny (M C) A (forIn es true fun c r=>if r=true then do let ok<-isTrue c env (eval c env);pure (ForInStep.yield ok)else pure (ForInStep.yield r)) Q E s
 adE:∀ {loc:Loc}{J:Hp}{a:An}{k:List V->Hp->An->Prop},runEs T mt cs es loc J a k->∃v J' a',k v J' a'
 adB:∀ {op:BoolOp}{loc:Loc}{J:Hp}{a:An}{k:KQ},runB T mt cs op es loc J a k->∃v J' a',k v J' a'
 adC:∀ {x:V}{ops:List CmpOp}{loc:Loc}{J:Hp}{a:An}{k:KQ},runC T mt cs x ops es loc J a k->∃v J' a',k v J' a'
noncomputable def kwN(ks:List Keyword):List Str:=ks.filterMap (·.arg)
structure lp(C:Ctx)(T:Tab)(mt:Pos->Bool)(cs:aD)(d:Nat)(ks:List Keyword):Prop where
 run:∀ {A:Around}{L:List Addr}{env:Env}{loc:Loc}{J:Hp}{a:An}{k:List (Str×V)->Hp->An->Prop}{O:Map}{s:Shared}{pos:Pos}{Q:List Value->Shared->Prop}{E:Value->Shared->Prop},
  runK T mt cs ks loc J a k->c9 A d->ap C O J s.heap->aK C L O env loc s.heap ->
  (∀rs J' a',k rs J' a'->∀O' s' vs,al O O' s s'->ap C O' J' s'.heap->ag (Kv C O') rs ((kwN ks).zip vs)->Q vs s')->wpAny (M C) A (evalAll ((backToKw pos (keywordEach ks env)).map (·.2))) Q E s
 ad:∀ {loc:Loc}{J:Hp}{a:An}{k:List (Str×V)->Hp->An->Prop},runK T mt cs ks loc J a k->∃v J' a',k v J' a'
structure iX(C:Ctx)(T:Tab)(mt:Pos->Bool)(cs:aD)(d:Nat)(o:Option Expr):Prop where
 run:∀ {A:Around}{L:List Addr}{env:Env}{loc:Loc}{J:Hp}{a:An}{k:KQ}{O:Map}{s:Shared}{Q:Value->Shared->Prop}{E:Value->Shared->Prop},
  runP T mt cs o loc J a k->c9 A d->ap C O J s.heap->aK C L O env loc s.heap->(∀v J' a',k v J' a'->eL C O s J' v Q)->wpAny (M C) A (valueOrNone (evalOpt o env)) Q E s
 ad:∀ {loc:Loc}{J:Hp}{a:An}{k:KQ},runP T mt cs o loc J a k->∃v J' a',k v J' a'
section
variable{C:Ctx}{T:Tab}{mt:Pos->Bool}{cs:aD}{d:Nat}
theorem uE.after{O O':Map}{s s':Shared}{J':Hp}{b:Bool}{Q:Bool->Shared->Prop}(R:al O O' s s')(P:uE C O s J' b Q):uE C O' s' J' b Q:=fun O'' s'' R' I'=>P O'' s'' (R.trans R') I'
theorem pV.after{O O':Map}{s s':Shared}{J':Hp}{v:V}{Q:Bool->Shared->Prop}(R:al O O' s s')(P:pV C O s J' v Q):pV C O' s' J' v Q:=P.elim fun b h=>⟨b,h.1,h.2.after R⟩
theorem pV.at{O:Map}{s:Shared}{J':Hp}{v:V}{b:Bool}{Q:Bool->Shared->Prop}(P:pV C O s J' v Q)(h:bM J' v=some b):uE C O s J' b Q:=P.elim fun c q=>by
 have:c=b:=Pz (q.1.symm.trans h)
 exact this▸q.2
theorem fC{e:Expr}(h:aE C T mt cs d e)(he:∀env whole,isTrue e env whole=(do let v<-whole;standAt e.pos;holding [v] (truthy v))):fq C T mt cs d e:=by
 refine⟨fun e1 R I W P=>?_⟩
 refine isTrue_plain (h.run e1 R I W fun v J' a' hk O' s' val R' I' r=>?_) (he _ _)
 refine ae (P _ _ _ hk) ?_;rintro b e2 P
 exact q6 I' e2 r fun t=>P O' _ (R'.trans (al.toks _ _ t)) I'
theorem dT{e:Expr}(h:∀v loc J a k,runA T mt cs e v loc J a k->False):d9 C T mt cs d e:=⟨fun e1=>(h _ _ _ _ _ e1).elim⟩
theorem EJ(c:Const)(k:_)(p:Pos):aE C T mt cs d (.Constant c k p):=by
 have key:∀ {loc:Loc}{J:Hp}{a:An}{k1:KQ},bj T mt cs (.Constant c k p) loc J a k1->∃v,qO c=some v/\k1 v J a:=fun{loc J a k1} h=>by
  have h:(match qO c with | some v=>k1 v J a | Option.none=>False):=h
  cases q:qO c with
  |none=>rw[q]at h;exact h.elim
  |some v=>rw[q]at h;exact⟨v,rfl,h⟩
 exact⟨fun e R I W P=>(key e).elim fun v h=>EC I h.1 (P _ _ _ h.2),fun e=>(key e).elim fun v h=>⟨_,_,_,h.2⟩⟩
theorem mD{x:Str}{loc:Loc}{P:V->Prop}(h:match pL T loc x with | some v=>P v | Option.none=>False):∃v,pL T loc x=some v/\P v:=by
 cases q:pL T loc x with
 |none=>rw[q]at h;exact h.elim
 |some v=>rw[q]at h;exact⟨v,rfl,h⟩
theorem HE(K:aT C)(TO:cp C T)(x:Str)(p:Pos):aE C T mt cs d (.Name x p):=by
 refine⟨fun{A L env loc J a k O s Q E} e R I W P=>?_,fun{loc J a k} e=>?_⟩
 . refine ae (mD (P:=fun v=>k v J a) e) ?_;rintro v hv h
   exact vq K TO I W hv fun v r=>(P _ _ _ h).here I r
 . refine ae (mD (P:=fun v=>k v J a) e) ?_;rintro v hv h
   exact⟨_,_,_,h⟩
theorem EK(K:aT C){l r:Expr}{op:Operator}{p:Pos}(hl:aE C T mt cs d l)(hr:aE C T mt cs d r):aE C T mt cs d (.BinOp l op r p):=by
 refine⟨fun h R I W P=>?_,fun h=>?_⟩
 . refine wpAny_BinOp (hl.run h R I W fun v1 J1 a1 h1 O1 s1 a R1 I1 r1=>hr.run h1 R I1 (W.keeps R1) fun v2 J2 a2 h2 O2 s2 b R2 I2 r2=>?_)
   refine aU (fZ h2) ?_;rintro x J3 r e hk
   exact KR K I2 e (ac.mono R2.le _ r1) r2 ((P _ _ _ hk).after (R1.trans R2))
 . refine bf (hl.ad h) ?_;rintro _ _ _ h
   refine bf (hr.ad h) ?_;rintro _ _ _ h
   refine aU (fZ h) ?_;rintro _ _ _ _ h
   exact⟨_,_,_,h⟩
theorem HF{x:Expr}{op:UnaryOp}{p:Pos}(hx:aE C T mt cs d x):aE C T mt cs d (.UnaryOp op x p):=by
 refine⟨fun h R I W P=>?_,fun h=>?_⟩
 . refine wpAny_UnaryOp (hx.run h R I W fun v1 J1 a1 h1 O1 s1 a R1 I1 r1=>?_)
   refine bu (iU h1) ?_;rintro v r e hk
   exact Mt I1 e r1 ((P _ _ _ hk).after R1)
 . refine bf (hx.ad h) ?_;rintro _ _ _ h
   refine bu (iU h) ?_;rintro _ _ _ h
   exact⟨_,_,_,h⟩
theorem EL{x:Expr}{p:Pos}(hx:fq C T mt cs d x):fq C T mt cs d (.UnaryOp .Not x p):=by
 refine⟨fun h R I W P=>?_⟩
 show wpAny _ _ (do return !(<- isTrue x _ (eval x _))) _ _ _
 refine PE (hx.run h R I W fun v J' a' h=>?_)
 refine bu (iU h) ?_;rintro w r e hk
 refine ae (P9.mp e) ?_;rintro b hb rfl
 exact⟨b,hb,fun O' s' R' I'=>P3 ((P _ _ _ hk).at rfl O' s' R' I')⟩
theorem CN{op:BoolOp}{es:List Expr}{p:Pos}(h:cJ C T mt cs d es):aE C T mt cs d (.BoolOp op es p):=⟨fun e R I W P=>h.bool e R I W P,fun e=>h.adB e⟩
theorem xX{op:BoolOp}{es:List Expr}{p:Pos}(h:cJ C T mt cs d es):fq C T mt cs d (.BoolOp op es p):=⟨fun e R I W P=>h.all e R I W P⟩
theorem EM{t b o:Expr}{p:Pos}(ht:fq C T mt cs d t)(ht':aE C T mt cs d t)(hb:aE C T mt cs d b)(ho:aE C T mt cs d o):aE C T mt cs d (.IfExp t b o p):=by
 refine⟨fun h R I W P=>?_,fun h=>?_⟩
 . refine wpAny_IfExp (ht.run h R I W fun v J' a' h=>?_)
   refine bI (hV h) ?_;rintro c hc h1 h2
   refine⟨c,hc,fun O1 s1 R1 I1=>?_⟩
   cases c with
   |true=>exact(h1 rfl).elim fun r h=>hb.run h R I1 (W.keeps R1) fun v J a hk=>(P v J a hk).after R1
   |false=>exact(h2 rfl).elim fun r h=>ho.run h R I1 (W.keeps R1) fun v J a hk=>(P v J a hk).after R1
 . refine bf (ht'.ad h) ?_;rintro _ _ _ h
   refine bI (hV h) ?_;rintro c hc h1 h2
   cases c with
   |true=>exact(h1 rfl).elim fun r h=>hb.ad h
   |false=>exact(h2 rfl).elim fun r h=>ho.ad h
theorem z9{t b o:Expr}{p:Pos}(ht:fq C T mt cs d t)(hb:fq C T mt cs d b)(ho:fq C T mt cs d o):fq C T mt cs d (.IfExp t b o p):=by
 refine⟨fun{A L env loc J a k O s Q E} h R I W P=>?_⟩
 show wpAny _ _ (do if<-isTrue t env (eval t env)then isTrue b env (eval b env)else isTrue o env (eval o env)) _ _ _
 refine PE (ht.run h R I W fun v J' a' h=>?_)
 refine bI (hV h) ?_;rintro c hc h1 h2
 refine⟨c,hc,fun O1 s1 R1 I1=>?_⟩
 cases c with
 |true=>exact(h1 rfl).elim fun r h=>hb.run h R I1 (W.keeps R1) fun v J a hk=>(P v J a hk).after R1
 |false=>exact(h2 rfl).elim fun r h=>ho.run h R I1 (W.keeps R1) fun v J a hk=>(P v J a hk).after R1
theorem HG(K:aT C){es:List Expr}{p:Pos}(h:cJ C T mt cs d es):aE C T mt cs d (.List es p) :=
 ⟨fun e R I W P=>List_ (h.items e R I W fun rs J1 a1 h1 O1 s1 vals R1 I1 r1=>zX K I1 r1 h1.1 rfl ((P _ _ _ h1.2).after R1)),fun e=>by
  refine bf (h.adE e) ?_;rintro _ _ _ h
  exact⟨_,_,_,h.2⟩⟩
theorem EN{es:List Expr}{k:Nat}{p:Pos}(h:cJ C T mt cs d es):aE C T mt cs d (.Tuple es k p) :=
 ⟨fun e R I W P=>Tuple_ (h.items e R I W fun rs J1 a1 h1 O1 s1 vals R1 I1 r1=>xM I1 r1 h1.1 ((P _ _ _ h1.2).after R1)),fun e=>by
  refine bf (h.adE e) ?_;rintro _ _ _ h
  exact⟨_,_,_,h.2⟩⟩
theorem Aa{l:Expr}{ops:List CmpOp}{rs:List Expr}{p:Pos}(hl:aE C T mt cs d l)(h:cJ C T mt cs d rs):aE C T mt cs d (.Compare l ops rs p):=by
 refine⟨fun{A L env loc J a k O s Q E} e R I W P=>?_,fun e=>?_⟩
 . show wpAny _ _ (do compareChain p (<- eval l env) ops (markedEach ops rs (evalEach rs env))) _ _ _
   exact PE (hl.run e R I W fun v1 J1 a1 h1 O1 s1 a R1 I1 r1=>h.chain h1 r1 R I1 (W.keeps R1) fun v J a hk=>(P v J a hk).after R1)
 . refine bf (hl.ad e) ?_;rintro _ _ _ e
   exact h.adC e
theorem vC{l:Expr}{ops:List CmpOp}{rs:List Expr}{p:Pos}(hl:aE C T mt cs d l)(h:cJ C T mt cs d rs):fq C T mt cs d (.Compare l ops rs p):=by
 refine⟨fun{A L env loc J a k O s Q E} e R I W P=>?_⟩
 show wpAny _ _ (do testChain p (<- eval l env) ops (markedEach ops rs (evalEach rs env))) _ _ _
 exact PE (hl.run e R I W fun v1 J1 a1 h1 O1 s1 a R1 I1 r1=>h.tchain h1 r1 R I1 (W.keeps R1) fun v J a hk=>(P v J a hk).after R1)
theorem BR{o:Expr}{a:Str}{env:Env}{whole:Sem Value}(h:zw o=true):attributeBase o a env whole=whole:=by
 cases o with
 |Call f as ks p=>cases f with
  |Name n q=>cases as with
   |nil=>cases ks with
    |nil=>exact Bool.noConfusion h
    |cons _ _=>rfl
   |cons _ _=>rfl
  |_=>rfl
 |_=>rfl
theorem HH(K:aT C)(TO:cp C T){o:Expr}{a:Str}{p:Pos}(ho:aE C T mt cs d o):aE C T mt cs d (.Attribute o a p):=by
 refine⟨fun{A L env loc J an k O s Q E} e R I W P=>?_,fun e=>?_⟩
 . obtain⟨hbo,e⟩:=e
   show wpAny _ _ (do
    let o'<-attributeBase o a env (eval o env)
    standAt p.atName
    let r<-holding [o'] (getAttr o' a true)
    letTemporaryGo o o' r
    pure r) _ _ _
   rw[BR hbo]
   refine PE (ho.run e R I W fun v1 J1 a1 h1 O1 s1 a R1 I1 r1=>PE (wpAny_standAt (PE (wpAny_holding ?_))))
   refine bu (iU h1) ?_;rintro v r hv hk
   exact KS K TO I1 hv r1 fun O2 s2 v R2 I2 r2=>PE (wpAny_letTemporaryGo (P3 (P _ _ _ hk O2 s2 v (R1.trans R2) I2 r2)))
 . refine bf (ho.ad e.2) ?_;rintro _ _ _ h
   refine bu (iU h) ?_;rintro _ _ _ h
   exact⟨_,_,_,h⟩
theorem BS(slice:Expr)(o i:Value):∃ops,subscripted slice false o i=operate ops (getItem o i):=by
 cases slice with
 |Slice a b c p=>cases c <;> exact⟨_,rfl⟩
 |_=>exact⟨_,rfl⟩
theorem EO{o i:Expr}{p:Pos}(ho:aE C T mt cs d o)(hi:aE C T mt cs d i)(hn:∀loc J a k,bj T mt cs (.Subscript o i p) loc J a k->bj T mt cs o loc J a fun ov J a=>bj T mt cs i loc J a fun iv J a=>qQ (ai J ov iv) a fun v a=>k v J a):aE C T mt cs d (.Subscript o i p):=by
 refine⟨fun e R I W P=>?_,fun e=>?_⟩
 . refine Subscript_ (ho.run (hn _ _ _ _ e) R I W fun v1 J1 a1 h1 O1 s1 a R1 I1 r1=>hi.run h1 R I1 (W.keeps R1) fun v2 J2 a2 h2 O2 s2 b R2 I2 r2=>?_)
   refine bu (iU h2) ?_;rintro v r hv hk
   exact ED I2 hv (ac.mono R2.le _ r1) r2 (by have:=R.units;lia) (BS _ _ _) ((P _ _ _ hk).after (R1.trans R2))
 . refine bf (ho.ad (hn _ _ _ _ e)) ?_;rintro _ _ _ h
   refine bf (hi.ad h) ?_;rintro _ _ _ h
   refine bu (iU h) ?_;rintro _ _ _ h
   exact⟨_,_,_,h⟩
theorem EQ(K:aT C){o:Expr}{lo hi st:Option Expr}{p q:Pos}(ho:aE C T mt cs d o)(hl:iX C T mt cs d lo)(hu:iX C T mt cs d hi)(hs:iX C T mt cs d st):aE C T mt cs d (.Subscript o (.Slice lo hi st q) p):=by
 refine⟨fun{A L env loc J a k O s Q E} e R I W P=>?_,fun e=>?_⟩
 . refine Subscript_ (ho.run e R I W fun v1 J1 a1 h1 O1 s1 a R1 I1 r1=>?_)
   show wpAny _ _ (do
    let l<-valueOrNone (evalOpt lo env)
    let u<-holding [l] (valueOrNone (evalOpt hi env))
    let s<-holding [l,u] (valueOrNone (evalOpt st env))
    newFields "slice" [l,u,s]) _ _ _
   refine PE (hl.run h1 R I1 (W.keeps R1) fun v2 J2 a2 h2 O2 s2 l R2 I2 r2=>PE (wpAny_holding (hu.run h2 R I2 ((W.keeps R1).keeps R2) fun v3 J3 a3 h3 O3 s3 u R3 I3 r3=>PE (wpAny_holding (hs.run h3 R I3 (((W.keeps R1).keeps R2).keeps R3) fun v4 J4 a4 h4 O4 s4 t R4 I4 r4=>?_)))))
   refine aU (fZ h4) ?_;rintro v J5 r e hk
   have l2:=R3.le.trans R4.le
   exact EF K I4 e (ac.mono (R2.le.trans l2) _ r1) (ac.mono l2 _ r2) (ac.mono R4.le _ r3) r4 (fun x=>BS _ _ _) ((P _ _ _ hk).after (R1.trans (R2.trans (R3.trans R4))))
 . refine bf (ho.ad e) ?_;rintro _ _ _ h
   refine bf (hl.ad h) ?_;rintro _ _ _ h
   refine bf (hu.ad h) ?_;rintro _ _ _ h
   refine bf (hs.ad h) ?_;rintro _ _ _ h
   refine aU (fZ h) ?_;rintro _ _ _ _ h
   exact⟨_,_,_,h⟩
theorem CP:iX C T mt cs d none:=⟨fun e R I W P=>P3 ((P _ _ _ e).here I (by simp only[ac])),fun e=>⟨_,_,_,e⟩⟩
theorem CQ{e:Expr}(h:aE C T mt cs d e):iX C T mt cs d (some e):=⟨fun e1 R I W P=>h.run e1 R I W P,fun e1=>h.ad e1⟩
theorem vD:lp C T mt cs d []:=⟨fun e R I W P=>kwAll_nil (P _ _ _ e _ _ [] (.refl _ _) I .nil),fun e=>⟨_,_,_,e⟩⟩
theorem ER{n:Str}{e:Expr}{p:Pos}{ks:List Keyword}(h:aE C T mt cs d e)(hk:lp C T mt cs d ks):lp C T mt cs d (⟨some n,e,p⟩::ks):=by
 refine⟨fun e R I W P=>?_,fun e=>?_⟩
 . refine kwAll_cons (h.run e R I W fun v1 J1 a1 h1 O1 s1 a R1 I1 r1=>hk.run h1 R I1 (W.keeps R1) fun rs J2 a2 h2 O2 s2 vs R2 I2 r2=>P _ _ _ h2 _ _ _ (R1.trans R2) I2 ?_)
   exact .cons ⟨rfl,ac.mono R2.le _ r1⟩ r2
 . refine bf (h.ad e) ?_;rintro _ _ _ h
   refine bf (hk.ad h) ?_;rintro _ _ _ h
   exact⟨_,_,_,h⟩
theorem ES{e:Expr}{p:Pos}{ks:List Keyword}:lp C T mt cs d (⟨none,e,p⟩::ks):=⟨fun e=>False.elim e,fun e=>False.elim e⟩
theorem rn{pos:Pos}{env:Env}:∀ {ks:List Keyword},ks.all (·.arg.isSome)=true->(backToKw pos (keywordEach ks env)).filterMap (·.1)=kwN ks/\(backToKw pos (keywordEach ks env)).all (·.1.isSome)=true/\(backToKw pos (keywordEach ks env)).any (·.1.isNone)=false
 |[],_=>⟨rfl,rfl,rfl⟩
 |⟨none,_,_⟩::_,h=>nomatch h
 |⟨some n,e,p⟩::ks,h=>by
  refine eW (rn (pos:=pos) (env:=env) (ks:=ks) h) ?_;rintro h1 h2 h3
  exact⟨PI (n :: ·) h1,h2,h3⟩
end
section
variable{C:Ctx}{T:Tab}{mt:Pos->Bool}{cs:aD}{d:Nat}
theorem uF{e:Expr}{rest:List Expr}{env:Env}{loc:Loc}{J:Hp}{a:An}{k:KQ}(h:bj T mt cs e loc J a k):starEach (e::rest) env=(false,eval e env)::starEach rest env:=by
 cases e <;> first | rfl | exact False.elim h
theorem Kb{e:Expr}{loc:Loc}{J:Hp}{a:An}{k:KQ}(h:bj T mt cs e loc J a k)(op:CmpOp):behindInMarks op e=false:=by
 cases e <;> first | rfl | exact False.elim h
theorem uG{e:Expr}{loc:Loc}{J:Hp}{a:An}{k:KQ}(h:bj T mt cs e loc J a k)(env:Env)(x:Value):foldedSetIterable e env x=pure x:=by
 cases e <;> first | rfl | exact False.elim h
theorem lI{pos:Pos}{env:Env}:∀ {es:List Expr},es.all eV=true->(backTo pos (starEach es env)).any (·.1)=false/\(starEach es env).all (!·.1)=true
 |[],_=>⟨rfl,rfl⟩
 |e::es,h=>by
  have h:(eV e&&es.all eV)=true:=h
  rw[PJ]at h
  have hc:starEach (e::es) env=(false,eval e env)::starEach es env:=by
   have h1:=h.1
   cases e <;> first | rfl | exact absurd h1 Qc
  have ih:=lI (pos:=pos) (env:=env) h.2
  rw[hc]
  exact⟨ih.1,ih.2⟩
theorem pW{A:Around}{env:Env}{s:Shared}{Q:Bool->Shared->Prop}{E:Value->Shared->Prop}(h:Q false s):∀es:List Expr,
 wpAny (M C) A (forIn es false fun c r=>if r=true then do let ok<-isTrue c env (eval c env);pure (ForInStep.yield ok)else pure (ForInStep.yield r)) Q E s
 |[]=>P3 h
 |e::es=>by
  rw[List.forIn_cons]
  exact PE (P3 (pW h es))
theorem CR:cJ C T mt cs d []:=by
 refine⟨fun e R I W P=>wpAny_items_nil (P _ _ _ e _ _ [] (.refl _ _) I .nil),fun{A L env loc J a k keys ks O s pos Q E} e hk hl R I W P=>?_,fun e=>False.elim e,fun e=>False.elim e,fun{A L env loc J a k x va ops O s pos Q E} e=>?_,fun{A L env loc J a k x va ops O s pos Q E} e=>?_,fun e R I W P=>P3 (P _ _ _ e _ _ (.refl _ _) I),fun e=>⟨_,_,_,e⟩,fun e=>False.elim e,fun{x ops loc J a k} e=>?_⟩
 . have:ks=[]:=List.length_eq_zero_iff.mp hl
   subst this
   have:keys=[]:=by
    cases keys with
    |nil=>rfl
    |cons k r =>
     rw[List.mapM_cons]at hk
     refine ae (PM.mp hk) ?_;rintro _ _ hk
     refine ae (PM.mp hk) ?_;rintro _ _ hk
     cases hk
   subst this
   exact pairTrees_nil_walk (P _ _ _ e _ _ [] (.refl _ _) I .nil)
 .rcases ops with _ | ⟨op,_ | ⟨o2,ops⟩⟩ <;> exact False.elim e
 .rcases ops with _ | ⟨op,_ | ⟨o2,ops⟩⟩ <;> exact False.elim e
 .rcases ops with _ | ⟨op,_ | ⟨o2,ops⟩⟩ <;> exact False.elim e
theorem pX{k:Option Expr}{x:Str}(h:gI k=some x):∃n p,k=some (.Constant (.str x) n p):=by
 cases k with
 |none=>exact ax h
 |some e=>cases e with
  |Constant c n p=>cases c with
   |str s=>exact⟨n,p,by rw[Pz h]⟩
   |_=>exact ax h
  |_=>exact ax h
theorem uI{e:Expr}{env:Env}{loc:Loc}{J:Hp}{an:An}{A:Around}{L:List Addr}{O:Map}{s:Shared}{x:V}{va:Value}{β:Type}{Q:β->Shared->Prop}{E:Value->Shared->Prop}{op:CmpOp}{k1:Bool->V->Hp->An->Prop}{pos:Pos}{z:Value->Value->Sem β}{y:Value->Sem β}(he:aE C T mt cs d e)
 (h:bj T mt cs e loc J an fun y J a=>Hv (aM J op x y) a fun c a=>k1 c y J a) (ra:ac C O x va) (R:c9 A d) (I:ap C O J s.heap) (W:aK C L O env loc s.heap)
 (P:∀c yv J' a',k1 c yv J' a'->∀O' s' rv,al O O' s s'->ap C O' J' s'.heap->ac C O' yv rv->wpAny (M C) A (if c=true then z (.bool c) rv else y (.bool c)) Q E s') :
 wpAny (M C) A (do
  let rv<-holding [va] (eval e env)
  standAt pos
  let c<-holding [va,rv] (compareOp op va rv)
  release [va,rv] [c]
  if<-holding [c,rv] (truthy c)then z c rv else y c) Q E s:=by
 refine PE (wpAny_holding (he.run h R I W fun v1 J1 a1 h1 O1 s1 rv R1 I1 r1=>PE (wpAny_standAt (PE (wpAny_holding ?_)))))
 refine bu (mC h1) ?_;rintro c r hc hk
 refine zZ R.room I1 hc (ac.mono R1.le _ ra) r1 fun t=>PE (wpAny_release (PE (wpAny_holding (wpAny_truthy_bool ?_))))
 exact P _ _ _ _ hk O1 _ _ (R1.trans (al.toks _ _ _)) I1 r1
theorem Ab{e:Expr}{es:List Expr}(he:aE C T mt cs d e)(ht:fq C T mt cs d e)(hs:cJ C T mt cs d es):cJ C T mt cs d (e::es):=by
 have adB:∀ {op:BoolOp}{loc:Loc}{J:Hp}{a:An}{k:KQ},runB T mt cs op (e::es) loc J a k->∃v J' a',k v J' a':=fun{op loc J a k} h=>by
  cases es with
  |nil=>exact he.ad h
  |cons e2 es =>
   refine bf (he.ad h) ?_;rintro v J1 a1 h
   refine bI (nR (fun _ _ h=>hs.adB h) h) ?_;rintro b hb h1 h2
   cases q:pO op b with
   |true=>exact(h2 q).elim fun a h=>⟨_,_,_,h⟩
   |false =>
    refine bu (h1 q) ?_;rintro r k' h3 h4
    refine bf (hs.adB h3) ?_;rintro _ _ _ h5
    exact(h4 _ _ _ h5).elim fun a h=>⟨_,_,_,h⟩
 have adC:∀ {x:V}{ops:List CmpOp}{loc:Loc}{J:Hp}{a:An}{k:KQ},runC T mt cs x ops (e::es) loc J a k->∃v J' a',k v J' a':=fun{x ops loc J a k} h=>by
  rcases ops with _ | ⟨op,_ | ⟨o2,ops⟩⟩
  .cases es <;> exact False.elim h
  . cases es with
    |nil =>
     refine bf (he.ad h) ?_;rintro v J1 a1 h
     refine bu (mC h) ?_;rintro _ _ _ h
     exact⟨_,_,_,h⟩
    |cons e2 es=>exact False.elim h
  . cases es with
    |nil=>exact False.elim h
    |cons e2 es =>
     refine bf (he.ad h) ?_;rintro v J1 a1 h
     refine bu (mC h) ?_;rintro _ _ _ h
     refine bI (nR (fun _ _ h=>hs.adC h) h) ?_;rintro b hb h1 h2
     cases q:pO .And b with
     |true=>exact(h2 q).elim fun a h=>⟨_,_,_,h⟩
     |false =>
      refine bu (h1 q) ?_;rintro r k' h3 h4
      refine bf (hs.adC h3) ?_;rintro _ _ _ h5
      exact(h4 _ _ _ h5).elim fun a h=>⟨_,_,_,h⟩
 refine⟨fun{A L env loc J a k O s pos Q E} h R I W P=>?_,fun{A L env loc J a k keys ks O s pos Q E} h hk hl R I W P=>?_,fun{A L env loc J a k op O s pos Q E} h R I W P=>?_,fun{A L env loc J a k op O s Q E} h R I W P=>?_,
  fun{A L env loc J a k x va ops O s pos Q E} h ra R I W P=>?_,fun{A L env loc J a k x va ops O s pos Q E} h ra R I W P=>?_,fun{A L env loc J a k O s Q E} h R I W P=>?_,fun h=>?_,adB,adC⟩
 . refine wpAny_items_cons (he.run h R I W fun v1 J1 a1 h1 O1 s1 a R1 I1 r1=>hs.items h1 R I1 (W.keeps R1) fun v2 J2 a2 h2 O2 s2 vs R2 I2 r2=>?_) (uF h)
   exact P _ _ _ h2 _ _ _ (R1.trans R2) I2 (.cons (ac.mono R2.le _ r1) r2)
 . cases keys with
   |nil=>cases hk;cases hl
   |cons key keys =>
    rw[List.mapM_cons]at hk
    refine ae (PM.mp hk) ?_;rintro x hx hk
    refine ae (PM.mp hk) ?_;rintro xs hxs hk
    cases hk
    refine gK (pX hx) ?_;rintro n p rfl
    refine pairTrees_cons_walk ?_
    show wpAny _ _ (constValue env (.str x)) _ _ _
    refine wpAny_mkText ?_
    have R0:al O O s { s with toks:=s.toks+1}:=al.toks _ _ _
    refine he.run h R I (W.keeps R0) fun v1 J1 a1 h1 O1 s1 a R1 I1 r1=>hs.pairs h1 hxs (Nat.succ.inj hl) R I1 ((W.keeps R0).keeps R1) fun v2 J2 a2 h2 O2 s2 vs R2 I2 r2=>?_
    exact P _ _ _ h2 _ _ _ (R0.trans (R1.trans R2)) I2 (.cons ⟨⟨_,rfl⟩,ac.mono R2.le _ r1⟩ r2)
 . cases es with
   |nil=>exact he.run h R I W P
   |cons e2 es =>
    show wpAny _ _ (do
     let v<-eval e env
     standAt pos
     let t<-holding [v] (truthy v)
     match op,t with
     |.And,false | .Or,true=>pure v
     |_,_=>boolOp pos op (evalEach (e2::es) env)) _ _ _
    refine PE (he.run h R I W fun v1 J1 a1 h1 O1 s1 a R1 I1 r1=>PE (wpAny_standAt (PE (wpAny_holding ?_))))
    refine bI (nR (fun _ _ h=>hs.adB h) h1) ?_;rintro b hb h1 h2
    refine q6 I1 hb r1 fun t=>?_
    have Rt:al O O1 s { s1 with toks:=t}:=R1.trans (al.toks _ _ _)
    have go:pO op b=false->wpAny (M C) A (boolOp pos op (evalEach (e2::es) env)) Q E { s1 with toks:=t}:=fun q=>by
     refine bu (h1 q) ?_;rintro r k' h3 h4
     exact hs.bool h3 R I1 (W.keeps Rt) fun v J a hk=>(h4 _ _ _ hk).elim fun a hk=>(P _ _ _ hk).after Rt
    cases op <;> cases b
    .exact(h2 rfl).elim fun a hk=>P3 (P _ _ _ hk _ _ _ Rt I1 r1)
    .exact go rfl
    .exact go rfl
    .exact(h2 rfl).elim fun a hk=>P3 (P _ _ _ hk _ _ _ Rt I1 r1)
 . show wpAny _ _ (do
    match op,<- isTrue e env (eval e env)with
    |.And,false=>pure false
    |.Or,true=>pure true
    |_,_=>allTrue op es env) _ _ _
   cases es with
   |nil =>
    refine PE (ht.run h R I W fun v J' a' hk=>?_)
    refine ae (P _ _ _ hk) ?_;rintro b hb P
    refine⟨b,hb,fun O1 s1 R1 I1=>?_⟩
    cases op <;> cases b <;> exact P3 (P _ _ R1 I1)
   |cons e2 es =>
    refine PE (ht.run h R I W fun v J' a' h1=>?_)
    refine bI (nR (fun _ _ h=>hs.adB h) h1) ?_;rintro b hb h1 h2
    refine⟨b,hb,fun O1 s1 R1 I1=>?_⟩
    have go:pO op b=false->wpAny (M C) A (allTrue op (e2::es) env) Q E s1:=fun q=>by
     refine bu (h1 q) ?_;rintro r k' h3 h4
     exact hs.all h3 R I1 (W.keeps R1) fun v J a hk=>(h4 _ _ _ hk).elim fun a hk=>(P _ _ _ hk).after R1
    cases op <;> cases b
    .exact(h2 rfl).elim fun a hk=>P3 ((P _ _ _ hk).at hb _ _ R1 I1)
    .exact go rfl
    .exact go rfl
    .exact(h2 rfl).elim fun a hk=>P3 ((P _ _ _ hk).at hb _ _ R1 I1)
 . rcases ops with _ | ⟨op,_ | ⟨o2,ops⟩⟩
   .cases es <;> exact False.elim h
   . cases es with
     |nil =>
      show wpAny _ _ (do let rv<-holding [va] (markedBehindIn op e (eval e env));standAt pos;operate [va,rv] (compareOp op va rv)) _ _ _
      rw[markedBehindIn_of_false (Kb h op)]
      refine PE (wpAny_holding (he.run h R I W fun v1 J1 a1 h1 O1 s1 rv R1 I1 r1=>PE (wpAny_standAt (wpAny_operate' ?_))))
      refine bu (mC h1) ?_;rintro c r hc hk
      exact zZ R.room I1 hc (ac.mono R1.le _ ra) r1 fun t=>P _ _ _ hk _ _ _ (R1.trans (al.toks _ _ _)) I1 (by simp only[ac])
     |cons e2 es=>exact False.elim h
   . cases es with
     |nil=>exact False.elim h
     |cons e2 es =>
      show wpAny (M C) A (do
       let rv<-holding [va] (eval e env)
       standAt pos
       let c<-holding [va,rv] (compareOp op va rv)
       release [va,rv] [c]
       if<-holding [c,rv] (truthy c)then compareChain pos rv (o2::ops) (markedEach (o2::ops) (e2::es) (evalEach (e2::es) env))else pure c) Q E s
      refine uI (z:=fun c rv=>compareChain pos rv (o2::ops) (markedEach (o2::ops) (e2::es) (evalEach (e2::es) env))) (y:=fun c=>pure c) (k1:=fun c y J a=>brB .And (.bool c) J a (fun a k=>runC T mt cs y (o2::ops) (e2::es) loc J a k) k) he h ra R I W fun c yv J' a' hk O' s' rv R' I' r'=>?_
      refine bI (nR (fun _ _ h=>hs.adC h) hk) ?_;rintro b hb h1 h2
      cases hb
      cases c with
      |true =>
       refine bu (h1 rfl) ?_;rintro r k' h3 h4
       rw[if_pos rfl]
       exact hs.chain h3 r' R I' (W.keeps R') fun v J a hk=>(h4 _ _ _ hk).elim fun a hk=>(P _ _ _ hk).after R'
      |false=>exact(h2 rfl).elim fun a hk=>P3 (P _ _ _ hk _ _ _ R' I' (by simp only[ac]))
 . rcases ops with _ | ⟨op,_ | ⟨o2,ops⟩⟩
   .cases es <;> exact False.elim h
   . cases es with
     |nil =>
      show wpAny _ _ (do let rv<-holding [va] (markedBehindIn op e (eval e env));standAt pos;let c<-operate [va,rv] (compareOp op va rv);holding [c] (truthy c)) _ _ _
      rw[markedBehindIn_of_false (Kb h op)]
      refine PE (wpAny_holding (he.run h R I W fun v1 J1 a1 h1 O1 s1 rv R1 I1 r1=>PE (wpAny_standAt (PE (wpAny_operate' ?_)))))
      refine bu (mC h1) ?_;rintro c r hc hk
      exact zZ R.room I1 hc (ac.mono R1.le _ ra) r1 fun t=>wpAny_holding (wpAny_truthy_bool ((P _ _ _ hk).at rfl _ _ (R1.trans (al.toks _ _ _)) I1))
     |cons e2 es=>exact False.elim h
   . cases es with
     |nil=>exact False.elim h
     |cons e2 es =>
      show wpAny (M C) A (do
       let rv<-holding [va] (eval e env)
       standAt pos
       let c<-holding [va,rv] (compareOp op va rv)
       release [va,rv] [c]
       if<-holding [c,rv] (truthy c)then testChain pos rv (o2::ops) (markedEach (o2::ops) (e2::es) (evalEach (e2::es) env))else pure false) Q E s
      refine uI (z:=fun c rv=>testChain pos rv (o2::ops) (markedEach (o2::ops) (e2::es) (evalEach (e2::es) env))) (y:=fun c=>pure false) (k1:=fun c y J a=>brB .And (.bool c) J a (fun a k=>runC T mt cs y (o2::ops) (e2::es) loc J a k) k) he h ra R I W fun c yv J' a' hk O' s' rv R' I' r'=>?_
      refine bI (nR (fun _ _ h=>hs.adC h) hk) ?_;rintro b hb h1 h2
      cases hb
      cases c with
      |true =>
       refine bu (h1 rfl) ?_;rintro r k' h3 h4
       rw[if_pos rfl]
       exact hs.tchain h3 r' R I' (W.keeps R') fun v J a hk=>(h4 _ _ _ hk).elim fun a hk=>(P _ _ _ hk).after R'
      |false=>exact(h2 rfl).elim fun a hk=>P3 ((P _ _ _ hk).at rfl _ _ R' I')
 . rw[List.forIn_cons]
   refine PE ?_
   rw[if_pos rfl]
   refine PE (ht.run h R I W fun v J' a' h=>?_)
   refine bI (hV h) ?_;rintro b hb h1 h2
   refine⟨b,hb,fun O1 s1 R1 I1=>P3 ?_⟩
   cases b with
   |true=>exact(h1 rfl).elim fun a h=>hs.tests h R I1 (W.keeps R1) fun b J a hk=>(P _ _ _ hk).after R1
   |false=>exact(h2 rfl).elim fun a hk=>pW (P _ _ _ hk _ _ R1 I1) _
 . refine bf (he.ad h) ?_;rintro _ _ _ h
   refine bf (hs.adE h) ?_;rintro _ _ _ h
   exact⟨_,_,_,h⟩
end
section
variable{C:Ctx}{T:Tab}{mt:Pos->Bool}{cs:aD}{d:Nat}
noncomputable def rp(C:Ctx)(f:Value):Prop:=∀h,C.K.In h->∃k,(k=Keeper.frame\/k=Keeper.machine\/k=Keeper.boundFrame)/\Looks (M C) h (keeperOf f) k
theorem xY(id:String):rp C (.builtin id):=fun h _=>⟨.machine,.inr (.inl rfl),Looks.of_pure rfl⟩
theorem xZ(id:String):rp C (.type id):=fun h _=>⟨.machine,.inr (.inl rfl),Looks.of_pure rfl⟩
theorem nS{a:Addr}(h:keepIn C.K (.ref a)=true):rp C (.ref a):=fun hp X=>keeps_K h hp X
theorem mF(K:aT C){args:List Expr}{kws:List Keyword}(ha:cJ C T mt cs d args)(hk:lp C T mt cs d kws)(pa:args.all eV=true)(pk:kws.all (·.arg.isSome)=true){A:Around}{L:List Addr}{env:Env}{loc:Loc}{J:Hp}{a:An}{k:List V->List (Str×V)->Hp->An->Prop}{O:Map}{s:Shared}{pos:Pos}{f:Value}{first:List Value}{Q:Value->Shared->Prop}{E:Value->Shared->Prop}
 (e:runEs T mt cs args loc J a fun as J a=>runK T mt cs kws loc J a fun kw J a=>k as kw J a) (kf:rp C f) (R:c9 A d) (I:ap C O J s.heap) (W:aK C L O env loc s.heap)
 (P:∀as kw J' a',k as kw J' a'->∀O' s' vs kwp,al O O' s s'->ap C O' J' s'.heap->aK C L O' env loc s'.heap->ag (ac C O') as vs->ag (Kv C O') kw kwp->wpAny (M C) A (call f (first++vs) kwp) Q E s') :
 wpAny (M C) A (callWith pos f first (backTo pos (starEach args env)) (backToKw pos (keywordEach kws env))) Q E s:=by
 refine eW (rn (pos:=pos) (env:=env) pk) ?_;rintro n1 n2 n3
 refine callWith_of (P:=C.K.In) (by rw[(lI pa).1,n3];rfl) kf ?_
 have fin:∀ {as:List V}{J1:Hp}{a1:An} (h:runK T mt cs kws loc J1 a1 fun kw J a=>k as kw J a) {O1:Map}{s1:Shared}{vs:List Value},al O O1 s s1->ap C O1 J1 s1.heap->ag (ac C O1) as vs ->
  wpAny (M C) A (evalAll ((backToKw pos (keywordEach kws env)).map (·.2))) (fun ks s₂=>(fun(a:Args) s₁=>C.K.In s₁.heap/\wpAny (M C) A (call f (first++a.pos) a.kw) Q E s₁) ⟨vs,((backToKw pos (keywordEach kws env)).filterMap (·.1)).zip ks⟩ s₂) E s1:=fun{as J1 a1} h {O1 s1 vs} R1 I1 r1 =>
  hk.run h R I1 (W.keeps R1) fun rs J2 a2 h2 O2 s2 ks R2 I2 r2=>by
   rw[n1]
   exact⟨lH K I2,P _ _ _ _ h2 O2 s2 _ _ (R1.trans R2) I2 ((W.keeps R1).keeps R2) (cE R2.le r1) r2⟩
 cases args with
 |nil=>exact evalArgs_kw2_nil n2 (fin e (.refl _ _) I .nil)
 |cons e1 rest=>exact evalArgs_kw2 n2 (ha.items e R I W fun rs J1 a1 h1 O1 s1 vs R1 I1 r1=>fin h1 R1 I1 r1) (uF (k:=fun v J a=>runEs T mt cs rest loc J a fun vs J a=>runK T mt cs kws loc J a fun kw J a=>k (v::vs) kw J a) e)
theorem BU(K:aT C){O:Map}{J:Hp}{h:Heap}(I:ap C O J h){a:Addr}(ha:h.objs.size<=a):a≠sysModules:=by
 refine ae (K.nolimit) ?_;rintro _ hn _
 refine aU (hn) ?_;rintro o' _ _ ho' _
 have:=Heap.lt_size (I.base _ _ ho')
 exact Nat.ne_of_gt (PU (Nat.lt_trans (by decide) this) ha)
theorem BV(K:aT C)(TO:cp C T)(CS:ie C cs d){A:Around}{f:V}{vf:Value}{as:List V}{kw:List (Str×V)}{J:Hp}{n:An}{k:KQ}{t:Bool}{O:Map}{s:Shared}{vs:List Value}{kwp:List (Str×Value)}{Q:Value->Shared->Prop}{E:Value->Shared->Prop}
 (e:to cs t f as kw J n k) (rf:ac C O f vf) (R:c9 A d) (I:ap C O J s.heap) (ra:ag (ac C O) as vs) (rk:ag (Kv C O) kw kwp) (P:∀v J' a',k v J' a'->eL C O s J' v Q) :
 wpAny (M C) A (call vf vs kwp) Q E s:=by
 cases f with
 |fn c m =>
  refine aU (iV e) ?_;rintro r J' an e hk
  simp only[ac]at rf
  refine ae (rf) ?_;rintro a rfl ha
  exact wpAny_call (CS e ha R.room I ra rk fun O' s' v R' I' r'=>P _ _ _ hk O' s' v R' I' r')
 |cls c =>
  simp only[ac]at rf
  refine ae (rf) ?_;rintro a rfl ha
  have e:∃J' an,cs c ("__init__":Str) (.inst c J.length::as) kw (J++[.dict []]) .none J'/\k (.inst c J.length) J' an:=by
   rcases n with _ | ⟨q,r⟩
   .exact False.elim e
   cases q with
   |s x=>exact⟨_,_,e⟩
   |_=>exact False.elim e
  refine bu (e) ?_;rintro J' an hc hk
  obtain⟨cd,hcd⟩:=TO.clv c a ha
  obtain @⟨a',fI,h1,h2,h3,h4,h5,h6,h7,h8,h9,h10,h11,h12⟩:=TO.cls c cd hcd
  rw[ha]at h1;cases h1
  have X:=lH K I
  obtain⟨hp,g,dd,tk,os⟩:=s
  refine wpAny_call (make_core (makes_of X h6) (looks_findIn X h7) (fun self=>bind_fn X self (P4.mp h9)) (.inl rfl) ?_)
  have I1:ap C ⟨O.am++[hp.objs.size],O.Z⟩ (J++[.dict []]) (hp.push emptyDict):=I.track (o:=emptyDict) (c:=.dict []) K ⟨[],0,rfl,.nil,.nil⟩
  have I2:=I1.frozen (o:=instObj a hp.objs.size)
  have R1:al O ⟨O.am++[hp.objs.size],O.Z⟩ ⟨hp,g,dd,tk,os⟩ ⟨hp.push emptyDict,g,dd,tk,os⟩:=al.track (s:=⟨hp,g,dd,tk,os⟩) I (t:=tk)
  have R2:al ⟨O.am++[hp.objs.size],O.Z⟩ ⟨O.am++[hp.objs.size],((hp.push emptyDict).objs.size,instObj a hp.objs.size)::O.Z⟩ ⟨hp.push emptyDict,g,dd,tk,os⟩ ⟨(hp.push emptyDict).push (instObj a hp.objs.size),g,dd,tk,os⟩ :=
   al.frozen (s:=⟨hp.push emptyDict,g,dd,tk,os⟩) (t:=tk)
  have R12:=R1.trans R2
  rw[Heap.size_push]at I2 R12
  have rx:ac C ⟨O.am++[hp.objs.size],(hp.objs.size+1,instObj a hp.objs.size)::O.Z⟩ (.inst c J.length) (.ref (hp.objs.size+1)):=by
   simp only[ac]
   exact⟨_,hp.objs.size,a,rfl,ha,.head _,by rw[<- I.len];simp⟩
  refine CS hc h8 (R.under a vs kwp) I2 (.cons rx (cE R12.le ra)) (rk.mono fun p q h=>⟨h.1,ac.mono R12.le _ h.2⟩) fun O' s' v R' I' r'=>?_
  simp only[ac]at r'
  subst r'
  exact⟨rfl,P _ _ _ hk O' s' _ (R12.trans R') I' (ac.mono R'.le _ rx)⟩
 |bi id =>
  simp only[ac]at rf
  subst rf
  cases kw with
  |nil =>
   refine aU (fZ e) ?_;rintro r J' an e hk
   cases rk;exact Mv (t:=t) K R.handled I e ra (P _ _ _ hk)
  |cons _ _=>exact False.elim e
 |ty id =>
  simp only[ac]at rf
  subst rf
  cases kw with
  |nil =>
   refine aU (fZ e) ?_;rintro r J' an e hk
   cases rk;exact Mw (t:=t) K I e ra (P _ _ _ hk)
  |cons _ _=>exact False.elim e
 |_=>exact False.elim e
theorem HI{cs:aD}{t:Bool}{f:V}{as:List V}{kw:List (Str×V)}{J:Hp}{n:An}{k:KQ}(e:to cs t f as kw J n k):∃v J' a',k v J' a':=by
 cases f with
 |fn c m=>refine aU (iV e) ?_;rintro r J' an e hk;exact⟨_,_,_,hk⟩
 |cls c =>
  rcases n with _ | ⟨q,r⟩
  .exact False.elim e
  cases q with
  |s x=>exact⟨_,_,_,e.2⟩
  |_=>exact False.elim e
 |bi id=>cases kw with
  |nil=>refine aU (fZ e) ?_;rintro r J' an e hk;exact⟨_,_,_,hk⟩
  |cons _ _=>exact False.elim e
 |ty id=>cases kw with
  |nil=>refine aU (fZ e) ?_;rintro r J' an e hk;exact⟨_,_,_,hk⟩
  |cons _ _=>exact False.elim e
 |_=>exact False.elim e
noncomputable def Ac:V->Prop
 |.fn .. => True
 |.cls .. => True
 |.bi .. => True
 |.ty .. => True
 |_=>False
theorem pY{cs:aD}{t:Bool}{f:V}{as:List V}{kw:List (Str×V)}{J:Hp}{n:An}{k:KQ}(e:to cs t f as kw J n k):Ac f:=by
 cases f <;> first | exact True.intro | exact False.elim e
theorem BW(TO:cp C T){f:V}{vf:Value}{O:Map}(rf:ac C O f vf)(e:Ac f):rp C vf:=by
 cases f with
 |fn c m =>
  simp only[ac]at rf
  refine ae (rf) ?_;rintro a rfl ha
  exact nS (TO.fnv c m a ha)
 |cls c =>
  simp only[ac]at rf
  refine ae (rf) ?_;rintro a rfl ha
  obtain⟨cd,hcd⟩:=TO.clv c a ha
  obtain @⟨a',fI,h1,h2,h3,h4,h5,h6,h7,h8,h9,h10,h11,h12⟩:=TO.cls c cd hcd
  rw[ha]at h1;cases h1
  exact nS h10
 |bi id=>simp only[ac]at rf;subst rf;exact xY id
 |ty id=>simp only[ac]at rf;subst rf;exact xZ id
 |_=>exact False.elim e
theorem vE{args:List Expr}{kws:List Keyword}(ha:cJ C T mt cs d args)(hk:lp C T mt cs d kws){loc:Loc}{J:Hp}{a:An}{k:List V->List (Str×V)->Hp->An->Prop}
 (e:runEs T mt cs args loc J a fun as J a=>runK T mt cs kws loc J a fun kw J a=>k as kw J a):∃as kw J' a',k as kw J' a':=by
 refine bf (ha.adE e) ?_;rintro as _ _ h
 refine bf (hk.ad h) ?_;rintro kw _ _ h
 exact⟨_,_,_,_,h⟩
theorem BX{args:List Expr}{kws:List Keyword}(h:xC args kws=true):args.all eV=true/\kws.all (·.arg.isSome)=true:=PJ _ _▸h
theorem HJ(K:aT C)(TO:cp C T)(CS:ie C cs d){x:Str}{p:Pos}{args:List Expr}{kws:List Keyword}{pos:Pos}(ha:cJ C T mt cs d args)(hk:lp C T mt cs d kws):aE C T mt cs d (.Call (.Name x p) args kws pos):=by
 refine⟨fun{A L env loc J a k O s Q E} e R I W P=>?_,fun{loc J a k} e=>?_⟩
 . obtain⟨hf,e⟩:=e
   refine ae (mD (P:=fun g=>runEs T mt cs args loc J a fun as J a=>runK T mt cs kws loc J a fun kw J a=>to cs (mt pos) g as kw J a k) e) ?_;rintro g hg e
   refine qF (vE ha hk e) ?_;rintro as kw _ _ hc
   show wpAny _ _ (do callWith pos (<- eval (.Name x p) env) [] (backTo pos (starEach args env)) (backToKw pos (keywordEach kws env))) _ _ _
   refine PE (vq K TO I W hg fun vf rf=>?_)
   exact mF K ha hk (BX hf).1 (BX hf).2 e (BW TO rf (pY hc)) R I W fun as kw J1 a1 h1 O1 s1 vs kwp R1 I1 W1 ra rk =>
    BV K TO CS h1 (ac.mono R1.le _ rf) R I1 ra rk fun v J a hk=>(P _ _ _ hk).after R1
 . obtain⟨hf,e⟩:=e
   refine ae (mD (P:=fun g=>runEs T mt cs args loc J a fun as J a=>runK T mt cs kws loc J a fun kw J a=>to cs (mt pos) g as kw J a k) e) ?_;rintro g hg e
   refine qF (vE ha hk e) ?_;rintro as kw _ _ hc
   exact HI hc
theorem ya(env:Env)(pos:Pos):∀(es:List Expr),(backTo pos (starEach es env)).all (!·.1)=(starEach es env).all (!·.1):=fun es=>by
 unfold backTo
 rw[List.all_map]
 rfl
theorem HK(K:aT C)(TO:cp C T)(CS:ie C cs d){o:Expr}{a:Str}{args:List Expr}{kws:List Keyword}{apos pos:Pos}(ho:aE C T mt cs d o)(ha:cJ C T mt cs d args)(hk:lp C T mt cs d kws):aE C T mt cs d (.Call (.Attribute o a apos) args kws pos):=by
 refine⟨fun{A L env loc J an k O s Q E} e R I W P=>?_,fun{loc J an k} e=>?_⟩
 . obtain⟨hf,e⟩:=e
   rw[PJ,P4]at hf
   obtain⟨hl,hf⟩:=hf
   unfold xB at hf
   simp only[PJ,decide_eq_true_eq]at hf
   obtain⟨⟨⟨f1,f2⟩,f3⟩,f4⟩:=hf
   refine eW (rn (pos:=pos) (env:=env) f2) ?_;rintro n1 n2 n3
   have form:methodCallForm (args.length+kws.length) (backTo pos (starEach args env)) (backToKw pos (keywordEach kws env))=true:=by
    unfold methodCallForm
    rw[ya,(lI (pos:=pos) (env:=env) f1).2,n2]
    simp only[Bool.and_self,Bool.true_and,decide_eq_true_eq]
    split <;> lia
   show wpAny _ _ (do
    let ov<-attributeBase o a env (eval o env)
    standAt apos.atName
    methodCall o a apos pos env ov (args.length+kws.length) (backTo pos (starEach args env)) (backToKw pos (keywordEach kws env))) _ _ _
   rw[BR f4]
   refine PE (ho.run e R I W fun ov J1 a1 h1 O1 s1 ovv R1 I1 r1=>PE (wpAny_standAt ?_))
   refine bu (BN h1) ?_;rintro mk a2 ek h2
   unfold methodCall
   rw[form]
   refine PE (wpAny_holding ?_)
   show wpAny _ _ (getMethod ovv a _) _ _ _
   refine vn K TO I1 ek r1 fun f hkf=>?_
   dsimp only
   unfold methodCallPos
   rw[if_pos (by rw[hl];simp)]
   refine PE (P3 ?_)
   cases mk with
   |fn c =>
    refine ae (hkf) ?_;rintro x hx rfl
    refine mF (k:=fun as kw J a3=>Ek (cs c a (ov::as) kw J) a3 k) K ha hk f1 f2 h2 (nS (TO.fnv c a x hx)) R I1 (W.keeps R1) fun as kw J2 a3 h3 O2 s2 vs kwp R2 I2 W2 ra rk=>?_
    refine aU (iV h3) ?_;rintro r J3 a4 e hk
    exact wpAny_call (CS e hx R.room I2 (.cons (ac.mono R2.le _ r1) ra) rk fun O' s' v R' I' r'=>P _ _ _ hk O' s' v ((R1.trans R2).trans R') I' r')
   |bi id =>
    have hkf:f=.builtin id:=hkf
    subst hkf
    refine mF (k:=fun as kw J a3=>KC cs (.bi id) J ov a as kw a3 k) K ha hk f1 f2 h2 (xY id) R I1 (W.keeps R1) fun as kw J2 a3 h3 O2 s2 vs kwp R2 I2 W2 ra rk=>?_
    cases kw with
    |nil =>
     refine aU (fZ h3) ?_;rintro r J3 a4 e hk
     cases rk;exact CK K I2 e (ac.mono R2.le _ r1) ra ((P _ _ _ hk).after (R1.trans R2))
    |cons _ _=>exact False.elim h3
 . refine bf (ho.ad e.2) ?_;rintro ov _ _ h
   refine bu (BN h) ?_;rintro mk _ _ h
   refine qF (vE (k:=fun as kw J a3=>KC cs mk J ov a as kw a3 k) ha hk h) ?_;rintro as kw _ _ h
   cases mk with
   |fn c=>refine aU (iV h) ?_;rintro r J' an e hk;exact⟨_,_,_,hk⟩
   |bi id=>cases kw with
    |nil=>refine aU (fZ h) ?_;rintro r J' an e hk;exact⟨_,_,_,hk⟩
    |cons _ _=>exact False.elim h
theorem jU(K:aT C){O O':Map}{J:Hp}{s s₁:Shared}{D:Addr}{c:ab}{o:Obj}{h':Heap}{tk:Nat}(R:al O O' s s₁)(I:ap C O' J s₁.heap)(hD:s.heap.get? D=none)(μ:Off C O' s₁.heap D)(hl:D≠sysModules)
 (k:∀b x,b≠D->s₁.heap.get? b=some x->h'.get? b=some x) (ho:h'.get? D=some o) (r:mz C O' c o) :
 ap C ⟨O'.am++[D],O'.Z⟩ (J++[c]) h'/\al O ⟨O'.am++[D],O'.Z⟩ s { s₁ with heap:=h',toks:=tk}:=by
 have le:O'.Le ⟨O'.am++[D],O'.Z⟩:=⟨⟨_,rfl⟩,fun p hp=>hp⟩
 refine⟨⟨fun b x e=>k b x (fun q=>by rw[q,μ.h₀]at e;cases e) (I.base b x e),by simp[I.len],fun a ha=>?_,?_,fun a ha=>?_,I.z₀,fun p hp=>k _ _ (μ.Z p hp) (I.z p hp),fun p hp ha=>?_,fun n c' a e1 e2=>?_⟩,⟨R.le.trans le,fun b x hb e=>k b x (fun q=>by rw[q,hD]at e;cases e) (R.keep b x hb e),fun a ha na=>?_,R.newZ,?_⟩⟩
 . rcases PY.mp ha with ha | ha
   .exact I.fresh a ha
   .rw[PH.mp ha];exact μ.h₀
 . refine List.nodup_append.mpr ⟨I.nodup,by simp,fun a ha b hb=>?_⟩
   rw[PH.mp hb]
   rintro rfl
   exact μ.am ha
 . rcases PY.mp ha with ha | ha
   .exact I.low a ha
   .rw[PH.mp ha];exact hl
 . rcases PY.mp ha with ha | ha
   .exact I.zam p hp ha
   .exact μ.Z p hp (PH.mp ha)
 . by_cases hn:n<J.length
   . rw[PN hn]at e1
     rw[PN (by rw[I.len];exact hn)]at e2
     refine ae (I.cell n c' a e1 e2) ?_;rintro o' ho' r'
     exact⟨o',k a o' (fun q=>μ.am (q▸List.mem_of_getElem? e2)) ho',r'.mono le⟩
   . have e:n=J.length:=by
      have:=(PD.mp e1).1
      simp at this;lia
     subst e
     simp at e1;subst e1
     rw[<- I.len]at e2
     simp at e2;subst e2
     exact⟨o,ho,r.mono le⟩
 . rcases PY.mp ha with ha | ha
   .exact R.new a ha na
   .rw[PH.mp ha];exact hD
 . refine gK (R.same) ?_;rintro h1 t1 rfl
   exact⟨h',tk,rfl⟩
theorem mG{O O':Map}{J:Hp}{s s₁:Shared}{D:Addr}{o:Obj}{h':Heap}{tk:Nat}(R:al O O' s s₁)(I:ap C O' J s₁.heap)(hD:s.heap.get? D=none)(μ:Off C O' s₁.heap D)
 (k:∀b x,b≠D->s₁.heap.get? b=some x->h'.get? b=some x) (ho:h'.get? D=some o) :
 ap C ⟨O'.am,(D,o)::O'.Z⟩ J h'/\al O ⟨O'.am,(D,o)::O'.Z⟩ s { s₁ with heap:=h',toks:=tk}:=by
 have le:O'.Le ⟨O'.am,(D,o)::O'.Z⟩:=⟨⟨[],by simp⟩,fun p hp=>.tail _ hp⟩
 refine⟨⟨fun b x e=>k b x (fun q=>by rw[q,μ.h₀]at e;cases e) (I.base b x e),I.len,I.fresh,I.nodup,I.low,fun p hp=>.tail _ (I.z₀ p hp),fun p hp=>?_,fun p hp=>?_,fun n c' a e1 e2=>?_⟩,⟨R.le.trans le,fun b x hb e=>k b x (fun q=>by rw[q,hD]at e;cases e) (R.keep b x hb e),R.new,fun p hp=>?_,?_⟩⟩
 . rcases PZ.mp hp with rfl | hp
   .exact ho
   .exact k _ _ (μ.Z p hp) (I.z p hp)
 . rcases PZ.mp hp with rfl | hp
   .exact μ.am
   .exact I.zam p hp
 . refine ae (I.cell n c' a e1 e2) ?_;rintro o' ho' r'
   exact⟨o',k a o' (fun q=>μ.am (q▸List.mem_of_getElem? e2)) ho',r'.mono le⟩
 . rcases PZ.mp hp with rfl | hp
   .exact .inr fun _=>hD
   .exact R.newZ p hp
 . refine gK (R.same) ?_;rintro h1 t1 rfl
   exact⟨h',tk,rfl⟩
theorem Ad(K:aT C){O O':Map}{J J':Hp}{s s₁:Shared}{D:Addr}{xs:List V}{vals:Array Value}{n:Nat}{h':Heap}{tk:Nat}{t:Bool}{r:V}{Q:Value->Shared->Prop}(R:al O O' s s₁)(I:ap C O' J s₁.heap)(hD:s.heap.get? D=none)(μ:Off C O' s₁.heap D)(hl:D≠sysModules)
 (k:∀b x,b≠D->s₁.heap.get? b=some x->h'.get? b=some x) (ho:h'.get? D=some (listOf vals n)) (rl:ag (ac C O') xs vals.toList) (e:bw t xs J=(r,J')) (P:eL C O s J' r Q):Q (.ref D) { s₁ with heap:=h',toks:=tk}:=by
 cases t with
 |true =>
  cases e
  obtain⟨h1,h2⟩:=jU (tk:=tk) K R I hD μ hl k ho (c:=.list xs) ⟨vals,n,rfl,rl⟩
  exact P _ _ _ h2 h1 (by simp only[ac];exact⟨_,rfl,by rw[<- I.len];simp⟩)
 |false =>
  cases e
  obtain⟨h1,h2⟩:=mG (tk:=tk) R I hD μ k ho
  refine P _ _ _ h2 h1 ?_
  simp only[ac]
  exact⟨_,vals,n,rfl,.head _,aL.mpr (cE ⟨⟨[],by simp⟩,fun p hp=>.tail _ hp⟩ rl)⟩
theorem Ae{O:Map}{es:List (Str×V)}{ps:List (Value×Value)}(h:ag (fun p q=>lD p.1 q.1/\ac C O p.2 q.2) es ps):Carries (sK C) ps ((es.map (·.1)).zip (ps.map (·.2)))/\ag (KV C O) es ((es.map (·.1)).zip (ps.map (·.2))):=by
 induction h with
 |nil=>exact⟨trivial,.nil⟩
 |@cons p q es ps h1 _ ih =>
  obtain⟨⟨t,ht⟩,h2⟩:=h1
  refine⟨⟨?_,rfl,ih.1⟩,.cons ⟨rfl,h2⟩ ih.2⟩
  rw[ht];exact strKind_is _ _ _ _
theorem CT{O:Map}{es:List (Str×V)}{kvs:List (Str×Value)}(h:ag (KV C O) es kvs):∀ {a:List (Str×V)}{b:List (Str×Value)},ag (KV C O) a b->(a.map (·.1)).Nodup->ag (KV C O) (es.foldl (fun a q=>d7 q.1 q.2 a) a) (merged b kvs)/\((es.foldl (fun a q=>d7 q.1 q.2 a) a).map (·.1)).Nodup:=by
 induction h with
 |nil=>exact fun h n=>⟨h,n⟩
 |@cons p q es kvs h1 _ ih =>
  intro a b h n
  have:=q8 h n p.1 (v:=p.2) (val:=q.2) h1.2
  rw[<- h1.1]at this
  have e:p.1=q.1:=h1.1.symm
  rw[List.foldl_cons]
  refine ih (b:=stored b q.1 q.2) ?_ (rh n)
  rw[e];exact this
theorem yb:∀ {keys:List (Option Expr)}{ks:List Str},keys.mapM gI=some ks->keys.length=ks.length/\keys.all (·.isSome)=true
 |[],ks,h=>by cases h;exact⟨rfl,rfl⟩
 |k::keys,ks,h=>by
  rw[List.mapM_cons]at h
  refine ae (PM.mp h) ?_;rintro x hx h
  refine ae (PM.mp h) ?_;rintro xs hxs h
  cases h
  obtain⟨h1,h2⟩:=yb hxs
  refine gK (pX hx) ?_;rintro n p rfl
  exact⟨by rw[P8,P8,h1],by rw[List.all_cons,h2];rfl⟩
theorem HL(K:aT C){keys:List (Option Expr)}{vals:List Expr}{pos:Pos}(h:cJ C T mt cs d vals):aE C T mt cs d (.Dict keys vals pos):=by
 have key:∀ {loc:Loc}{J:Hp}{a:An}{k:KQ},bj T mt cs (.Dict keys vals pos) loc J a k->∃ks,keys.mapM gI=some ks/\(ks.length=vals.length/\ks.length<=15)/\runEs T mt cs vals loc J a fun vs J a=>k (.ref J.length) (J++[.dict (u3 (ks.zip vs))]) a:=fun{loc J a k} e=>by
  have e:(match keys.mapM gI with
   |some ks=>(ks.length=vals.length/\ks.length<=15)/\runEs T mt cs vals loc J a fun vs J a=>k (.ref J.length) (J++[.dict (u3 (ks.zip vs))]) a
   |Option.none=>False):=e
  cases q:keys.mapM gI with
  |none=>rw[q]at e;exact e.elim
  |some ks=>rw[q]at e;exact⟨ks,rfl,e⟩
 refine⟨fun{A L env loc J a k O s Q E} e R I W P=>?_,fun e=>?_⟩
 . refine bI (key e) ?_;rintro ks hks ⟨hlen1,hlen2⟩ e
   obtain⟨hkl,hall⟩:=yb hks
   by_cases h0:keys=[]
   . subst h0
     have:ks=[]:=List.length_eq_zero_iff.mp hkl.symm
     subst this
     have:vals=[]:=List.length_eq_zero_iff.mp hlen1.symm
     subst this
     refine wpAny_Dict_empty ?_
     have I1:ap C ⟨O.am++[s.heap.objs.size],O.Z⟩ (J++[.dict []]) (s.heap.push emptyDict):=I.track (o:=emptyDict) (c:=.dict []) K ⟨[],0,rfl,.nil,.nil⟩
     exact P _ _ _ e _ _ _ (al.track I (t:=s.toks)) I1 (by simp only[ac];exact⟨_,rfl,by rw[<- I.len];simp⟩)
   . refine wpAny_Dict_walk (knd:=sK C) hall (by rw[hkl,hlen1]) h0 (by rw[hkl];exact hlen2) ?_
     have k0:∀b x,s.heap.get? b=some x->(s.heap.push emptyDict).get? b=some x:=fun b x hx=>Heap.get?_push_of_some _ hx
     have R0:al O O s { s with heap:=s.heap.push emptyDict}:=al.at (t:=s.toks) k0
     have μ0:Off C O (s.heap.push emptyDict) s.heap.objs.size:=iT I (gg _) ⟨_,Heap.get?_push_size _ rfl⟩
     refine h.pairs e hks hlen1 R (I.at k0) (W.keeps R0) fun rs J1 a1 h1 O1 s1 ps R1 I1 r1=>?_
     obtain⟨c1,c2⟩:=Ae r1
     have μ1:Off C O1 s1.heap s.heap.objs.size:=Off.keeps (s:={ s with heap:=s.heap.push emptyDict}) (L:=[]) μ0 R1.x
     have hD:s1.heap.get? s.heap.objs.size=some emptyDict:=R1.keep _ _ μ0.am (Heap.get?_push_size _ rfl)
     obtain⟨m1,m2⟩:=CT c2 (a:=[]) (b:=[]) .nil .nil
     refine⟨_,c1,⟨_,#[],0,hD,⟨rfl,rfl,rfl⟩,rfl,(fun e h=>by simp at h),.nil,.nil⟩,fun h' D' hs=>?_⟩
     refine ae (pQ D' m1) ?_;rintro o ho hc
     obtain⟨g1,g2⟩:=jU (tk:=s1.toks+ps.length) K (R0.trans R1) I1 (gg _) μ1 (BU K I (PS _)) (fun b x hb q=>(hs.2 b hb).trans q) ho hc
     refine P _ _ _ h1 _ _ _ g2 g1 ?_
     simp only[ac]
     exact⟨_,rfl,by rw[<- I1.len];simp⟩
 . refine bI (key e) ?_;rintro ks hks _ e
   refine bf (h.adE e) ?_;rintro _ _ _ e
   exact⟨_,_,_,e⟩
end
section
variable{C:Ctx}{T:Tab}{mt:Pos->Bool}{cs:aD}{d:Nat}
theorem vF{A:Around}{R:Result->Shared->Prop}{s:Shared}{elt target iter:Expr}{ifs:List Expr}{scope:Scope}{pos:Pos}{it acc:Value}{env:Env}(I:Nat->Shared->Prop)
 (turn:∀n s,I n s->wpAny (M C) A (pyNext it) (fun r s₁=>match r with
  |none=>R (.ok .next) s₁
  |some v=>wpAny (M C) A (letOwnedTupleGo target it v) (fun _ s₁'=>wpAny (M C) A (assign target env v) (fun _ s₂ =>
   wpAny (M C) A (forIn ifs true fun c r=>if r=true then do let ok<-isTrue c env (eval c env);pure (ForInStep.yield ok)else pure (ForInStep.yield r)) (fun ok s₃ =>
    if ok=true then wpAny (M C) A (eval elt env) (fun x s₄ =>
     wpAny (M C) A (call (.builtin "list.append") [acc,x]) (fun _ s₅=>∃m,m<n/\I m s₅) (notedBy (M C) A env fun e s'=>R (.error e) s') s₄) (notedBy (M C) A env fun e s'=>R (.error e) s') s₃
    else ∃m,m<n/\I m s₃) (notedBy (M C) A env fun e s'=>R (.error e) s') s₂) (notedBy (M C) A env fun e s'=>R (.error e) s') s₁') (notedBy (M C) A env fun e s'=>R (.error e) s') s₁) (notedBy (M C) A env fun e s'=>R (.error e) s') s)
 (n:Nat) (h:I n s):codeAny (M C) A (.compLoop (.ListComp elt [⟨target,iter,ifs,0⟩] scope pos) 0 it acc env) R s:=by
 refine codeAny_loop rfl I (fun n s hI=>?_) n h
 show wpAny _ A ((compTurn (.ListComp elt [⟨target,iter,ifs,0⟩] scope pos) 0 it acc env).onRaise (fun x=>do noteFrame x env;theTreesLotGoes x)) _ _ s
 refine wpAny_noted ?_
 rw[compTurn_list]
 refine PE (wpAny_standAt (PE (wpAny_mono (turn n s hI) (fun r s₁ h₁=>?_) fun _ _ h'=>h')))
 cases r with
 |none=>exact P3 h₁
 |some v =>
  refine PE (wpAny_mono h₁ (fun _ s₁' h₁'=>?_) fun _ _ h'=>h')
  refine PE (wpAny_mono h₁' (fun _ s₂ h₂=>PE (wpAny_mono h₂ (fun ok s₃ h₃=>?_) fun _ _ h'=>h')) fun _ _ h'=>h')
  cases ok with
  |false=>exact P3 ⟨rfl,h₃⟩
  |true =>
   exact PE (PE (wpAny_mono h₃ (fun x s₄ h₄=>PE (wpAny_mono h₄ (fun _ s₅ h₅=>P3 (P3 ⟨rfl,h₅⟩)) fun _ _ h'=>h')) fun _ _ h'=>h'))
theorem bC.nil{O O':Map}{s s':Shared}(h:bC [] O O' s s'):al O O' s s':=(al.refl O s).thenX h fun _ h=>(nomatch h)
theorem vG{env:Env}(get:Str->Option Addr)(f:Str×NameKind->List (Str×Addr)->Sem (ForInStep (List (Str×Addr))))(hf:∀name kind cs,f (name,kind) cs=if kind==.free then(do let a<-cellOf env name;pure (.yield ((name,a)::cs)))else pure (.yield cs)):
 ∀(names:List (Str×NameKind)) (acc:List (Str×Addr)),(∀p∈names,p.2=.free->∃c,env.cells.lookup p.1=some c)->(∀p∈acc,env.cells.lookup p.1=some p.2) ->
 ∃cl,forIn names acc f=pure cl/\(∀p∈cl,env.cells.lookup p.1=some p.2)/\(∀p∈names,p.2=.free->∃c,(p.1,c)∈cl)/\(∀p∈acc,p∈cl)
 |[],acc,_,ha=>⟨acc,rfl,ha,fun _ h=>(nomatch h),fun _ h=>h⟩
 |(n,k)::r,acc,hn,ha=>by
  rw[List.forIn_cons,hf]
  by_cases hk:k=.free
  . subst hk
    obtain⟨c,hc⟩:=hn (n,.free) (.head _) rfl
    have hc':cellOf env n=pure c:=by unfold cellOf;rw[hc]
    obtain⟨cl,h1,h2,h3,h4⟩:=vG get f hf r ((n,c)::acc) (fun p hp=>hn p (.tail _ hp)) (fun p hp=>by
     rcases PZ.mp hp with rfl | hp
     .exact hc
     .exact ha p hp)
    refine⟨cl,?_,h2,fun p hp hq=>?_,fun p hp=>h4 p (.tail _ hp)⟩
    .rw[hc'];exact h1
    . rcases PZ.mp hp with rfl | hp
      .exact⟨c,h4 _ (.head _)⟩
      .exact h3 p hp hq
  . refine iQ (vG get f hf r acc (fun p hp=>hn p (.tail _ hp)) ha) ?_;rintro cl h1 h2 h3 h4
    refine⟨cl,?_,h2,fun p hp hq=>?_,h4⟩
    . have:(k==NameKind.free)=false:=by simpa using hk
      rw[this];exact h1
    . rcases PZ.mp hp with rfl | hp
      .exact absurd hq hk
      .exact h3 p hp hq
theorem Af{env:Env}{scope:Scope}(h:∀p∈scope.names,p.2=.free->∃c,env.cells.lookup p.1=some c):∃cl,closureFor scope env=pure cl/\(∀p∈cl,env.cells.lookup p.1=some p.2)/\(∀p∈scope.names,p.2=.free->∃c,(p.1,c)∈cl):=by
 have key:∀f:Str×NameKind->List (Str×Addr)->Sem (ForInStep (List (Str×Addr))),closureFor scope env=(forIn scope.names [] f >>= fun r=>pure r)->(∀name kind cs,f (name,kind) cs=if kind==.free then(do let a<-cellOf env name;pure (.yield ((name,a)::cs)))else pure (.yield cs)) ->
  ∃cl,closureFor scope env=pure cl/\(∀p∈cl,env.cells.lookup p.1=some p.2)/\(∀p∈scope.names,p.2=.free->∃c,(p.1,c)∈cl):=fun f e hf=>by
  refine iQ (vG (env:=env) (fun _=>none) f hf scope.names [] h (fun _ h=>(nomatch h))) ?_;rintro cl h1 h2 h3 _
  exact⟨cl,by rw[e,h1];rfl,h2,h3⟩
 exact key _ rfl fun name kind cs=>by cases hk:kind==NameKind.free <;> simp[hk]
theorem CU{l:List (Str×Addr)}{g:Str->Option Addr}(h:∀p∈l,g p.1=some p.2){x:Str}{c:Addr}(hm:(x,c)∈l):l.lookup x=some c:=by
 induction l with
 |nil=>cases hm
 |cons p r ih =>
  obtain⟨y,b⟩:=p
  rw[PX]
  by_cases q:x=y
  . subst q
    rw[P2]
    have e1:=h (x,b) (.head _)
    have e2:=h (x,c) hm
    rw[e1]at e2;exact e2
  . rw[PC.mpr q]
    rcases PZ.mp hm with e | hm
    .cases e;exact absurd rfl q
    .exact ih (fun p hp=>h p (.tail _ hp)) hm
theorem jV{env:Env}{x:Str}{k:NameKind}:∀ {names:List (Str×NameKind)},names.lookup x=some k ->
 (names.map fun(n,k)=>if(k==NameKind.free&&env.scope.kind==.function&&env.kindOf n==some .cell)then(n,NameKind.cell)else(n,k)).lookup x=some (if(k==NameKind.free&&env.scope.kind==.function&&env.kindOf x==some .cell)then .cell else k)
 |[],h=>by simp at h
 |(n,k')::r,h=>by
  rw[List.map_cons]
  show List.lookup x ((if(k'==NameKind.free&&env.scope.kind==.function&&env.kindOf n==some .cell)=true then(n,NameKind.cell)else(n,k'))::_)=_
  by_cases q:x=n
  . subst q
    rw[PX,P2]at h
    cases h
    split <;> rw[PX,P2]
  . rw[PX,PC.mpr q]at h
    have ih:=@jV env x k r h
    split <;> (rw[PX,PC.mpr q];exact ih)
theorem jS.x{Ia Ja:Addr}{O O':Map}{s s':Shared}(S:jS Ia Ja O O' s s')(l:∀a,a=Ia\/a=Ja->∃o,s'.heap.get? a=some o):bC [Ia,Ja] O O' s s' :=
 ⟨S.le,fun b o _ h e=>S.keep b o (fun q=>h (q▸.head _)) (fun q=>h (q▸.tail _ (.head _))) e,fun b o _ e=>by
  by_cases h:b=Ia\/b=Ja
  .exact l b h
  .exact⟨o,S.keep b o (fun q=>h (.inl q)) (fun q=>h (.inr q)) e⟩,fun a ha na=>absurd (S.am▸ha) na,fun p hp=>(S.newZ p hp).imp id fun e _=>e,S.same⟩
structure HM(C:Ctx)(O O':Map)(J':Hp)(s s':Shared)(D Cl:Addr)(acc:List V):Prop where
 reach:al O O' s s'
 inv:ap C O' J' s'.heap
 offD:Off C O' s'.heap D
 offC:Off C O' s'.heap Cl
 newD:s.heap.get? D=none
 newC:s.heap.get? Cl=none
 low:D≠sysModules
 ne:D≠Cl
 ns:∃m,s'.heap.Ns Cl m
 list:∃vals k,s'.heap.get? D=some (listOf vals k)/\ag (ac C O') acc vals.toList
set_option tactic.hygienic true in
theorem ET{A:Around}{L:List Addr}{O:Map}{J:Hp}{s:Shared}{env:Env}{loc:Loc}{scope:Scope}(W:aK C L O env loc s.heap)(hok:u4 scope loc=true):
 ∃cl,closureFor scope env=pure cl/\(∀p∈cl,env.cells.lookup p.1=some p.2)/\(∀p∈scope.names,p.2=.free->∃c,(p.1,c)∈cl)/\scope.kind=.function/\(∀x∈scope.names,x.2≠.cell)/\(∀x∈scope.names,x.2=.local->scope.names.lookup x.1=some .local) /\
  (∀p∈scope.names,p.2=.local\/p.2=.free\/p.2=.globalImplicit):=by
 unfold u4 at hok
 simp only[PJ,decide_eq_true_eq]at hok
 obtain⟨⟨⟨k1,k2⟩,k3⟩,k4⟩:=hok
 have kinds:∀p∈scope.names,p.2=.local\/p.2=.free\/p.2=.globalImplicit:=fun p hp=>by
  have:=List.all_eq_true.mp k3 p hp
  simp only[Bool.or_eq_true,P4]at this
  rcases this with(q | q) | q
  .exact .inl q
  .exact .inr (.inl q)
  .exact .inr (.inr q)
 refine ae (W.ns) ?_;rintro m hn hs
 obtain⟨cl,h1,h2,h3⟩:=Af (env:=env) (scope:=scope) fun p hp hf=>by
  have:=List.all_eq_true.mp k1 p hp
  rw[hf]at this
  simp only[bne_self_eq_false,Bool.false_or]at this
  cases hl:loc.lookup p.1 with
  |none=>rw[hl]at this;exact Bool.noConfusion this
  |some sl =>
   rw[hl]at this
   have hh:=hs _ _ hl
   cases sl with
   |cv o=>cases o with
    |none=>refine BF (hh) ?_;rintro _ c _ hc _;exact⟨c,hc⟩
    |some v=>refine gL (hh) ?_;rintro _ _ _ c hc _;exact⟨c,hc⟩
   |f v=>refine gL (hh) ?_;rintro _ _ _ c hc _;exact⟨c,hc⟩
   |_=>exact Bool.noConfusion this
 refine⟨cl,h1,h2,h3,k2,fun x hx q=>?_,fun x hx hl=>?_,kinds⟩
 .rcases kinds x hx with e | e | e <;> rw[e]at q <;> cases q
 . cases q:scope.names.lookup x.1 with
   |none=>rw[List.lookup_eq_none_iff]at q;have:=q x hx;simp at this
   |some k =>
    have hm:=mem_of_lookup q
    have:(x.1,k)=x:=by
     obtain⟨i,hi,e1⟩:=List.mem_iff_getElem.mp hm
     obtain⟨j,hj,e2⟩:=List.mem_iff_getElem.mp hx
     have hij:i=j:=by
      refine(List.getElem_inj (i:=i) (j:=j) (h₀:=by simpa using hi) (h₁:=by simpa using hj) k4).mp ?_
      rw[List.getElem_map,List.getElem_map,e1,e2]
     subst hij
     rw[<- e1,e2]
    rw[<- this]at hl
    exact PI some hl
theorem KW{J:Hp}{v:V}{it:It}{tgt:Expr}(e1:jx J v=some it):pM tgt it=true:=by
 cases it with
 |enm w =>
  cases v with
  |rng a b=>exact ifE e1 fun _ e=>nomatch e
  |ref n=>exact Eo e1 (fun _ _ e=>nomatch e) fun _ _ e=>ax e
  |lst _=>exact nomatch e1
  |tup _=>exact nomatch e1
  |_=>exact ax e1
 |_=>rfl
structure lq(C:Ctx)(it:It)(Ia Ja D:Addr)(O1:Map)(s1:Shared)(acc:List V)(vals:Array Value)(k:Nat)(j:Nat)(O:Map)(s:Shared):Prop where
 rx:al O1 O s1 s
 t:dY C O s.heap it j Ia Ja
 oi:Off C O s.heap Ia
 oj:Off C O s.heap Ja
 od:Off C O s.heap D
 hd:s.heap.get? D=some (listOf vals k)
 r:ag (ac C O) acc vals.toList
inductive vI(C:Ctx)(it:It)(N:Nat)(Ia Ja D Cl:Addr)(O1:Map)(s1:Shared)(cenv:Env)(F:Nat->Loc->Hp->List V->Prop)(n:Nat)(s:Shared):Prop where
 |mk {O:Map}{J:Hp}{cloc:Loc}{acc:List V}{vals:Array Value}{k:Nat} (hn:n<=N) (S:lq C it Ia Ja D O1 s1 acc vals k (N-n) O s) (I:ap C O J s.heap) (W:aK C [Cl] O cenv cloc s.heap) (ec:F n cloc J acc):vI C it N Ia Ja D Cl O1 s1 cenv F n s
section
variable{it:It}{Ia Ja D Cl:Addr}{O1 O O2:Map}{s1 s s2:Shared}{acc:List V}{vals:Array Value}{k j j':Nat}
theorem lq.more{L:List Addr}(S:lq C it Ia Ja D O1 s1 acc vals k j O s)(R:bC L O O2 s s2)(hI:Ia∉L)(hJ:Ja∉L)(hD:D∉L)(hL:∀a∈L,s1.heap.get? a=none):lq C it Ia Ja D O1 s1 acc vals k j O2 s2 :=
 ⟨S.rx.thenX R hL,S.t.keeps R S.oi S.oj hI hJ,S.oi.keeps R,S.oj.keeps R,S.od.keeps R,R.keep _ _ S.od.am hD S.hd,cE R.le S.r⟩
theorem lq.far(S:lq C it Ia Ja D O1 s1 acc vals k j O s)(R:al O O2 s s2):lq C it Ia Ja D O1 s1 acc vals k j O2 s2 :=
 S.more (L:=[]) R.x (fun h=>nomatch h) (fun h=>nomatch h) (fun h=>nomatch h) fun _ h=>nomatch h
theorem lq.next(S:lq C it Ia Ja D O1 s1 acc vals k j O s)(T:jS Ia Ja O O2 s s2)(nI:s1.heap.get? Ia=none)(nJ:s1.heap.get? Ja=none)(iD:D≠Ia)(jD:D≠Ja)(t:dY C O2 s2.heap it j' Ia Ja)(oi:Off C O2 s2.heap Ia)(oj:Off C O2 s2.heap Ja):lq C it Ia Ja D O1 s1 acc vals k j' O2 s2 :=
 have hd:=T.keep _ _ iD jD S.hd
 ⟨(bC.step (L:=[]) S.rx.x T nI nJ).nil,t,oi,oj,S.od.step T ⟨_,hd⟩,hd,cE T.le S.r⟩
end
set_option tactic.hygienic true in
theorem CV(K:aT C){elt tgt iter:Expr}{ifs:List Expr}{scope:Scope}{pos:Pos}(htgt:d9 C T mt cs d tgt)(hifs:cJ C T mt cs d ifs)(helt:aE C T mt cs d elt)
 {A:Around}{cenv:Env}{O1:Map}{s1 s4:Shared}{use:Option (Value->Sem Unit)}{Q:Value->Shared->Prop}{E:Value->Shared->Prop}{it:It}{N:Nat}{kk:List V->Hp->Prop}{Ia Ja D Cl:Addr}{J:Hp}{v0:V} (R:c9 A d)
 (e1:jx J v0=some it) (nIa:s1.heap.get? Ia=none) (nJa:s1.heap.get? Ja=none) (n1D:s1.heap.get? D=none) (n1C:s1.heap.get? Cl=none) (iaC:Cl≠Ia) (jaC:Cl≠Ja) (iaD:D≠Ia) (jaD:D≠Ja) (hDC:D≠Cl) (hcl:cenv.locals=Cl)
 (cne:∀x c,cenv.cells.lookup x=some c->c≠Ia/\c≠Ja/\c≠D)
 (F:∀acc' J2,kk acc' J2->∀O' s' vals k,al O1 O' s1 s'->ap C O' J2 s'.heap->Off C O' s'.heap D->Off C O' s'.heap Cl->(∃m,s'.heap.Ns Cl m)->s'.heap.get? D=some (listOf vals k)->ag (ac C O') acc' vals.toList->compPost (M C) A E use Q (.ref D) Cl (.ok .next) s')
 (I0:vI C it N Ia Ja D Cl O1 s1 cenv (pP (runA T mt cs tgt) (runT T mt cs ifs) (bj T mt cs elt) it N kk) N s4) :
 codeAny (M C) A (.compLoop (.ListComp elt [⟨tgt,iter,ifs,0⟩] scope pos) 0 (.ref Ia) (.ref D) cenv) (compPost (M C) A E use Q (.ref D) Cl) s4:=by
 refine vF (vI C it N Ia Ja D Cl O1 s1 cenv (pP (runA T mt cs tgt) (runT T mt cs ifs) (bj T mt cs elt) it N kk)) ?_ N I0
 rintro n s' ⟨hn,S,I',W',ec⟩
 rename_i O' J' cloc acc vals k
 cases n with
 |zero =>
  refine xU (it:=it) R.handled I' S.t S.oi S.oj ec.1 (Nat.sub_zero N) fun s'' T I''=>?_
  have kp:∀b o,b≠Ia->b≠Ja->s'.heap.get? b=some o->s''.heap.get? b=some o:=T.keep
  refine ae (W'.ns) ?_;rintro m' hn' _
  rw[hcl]at hn'
  have hD':=kp _ _ iaD jaD S.hd
  refine F _ _ ec.2 O' s'' vals k (bC.step (L:=[]) S.rx.x T nIa nJa).nil I'' (S.od.step T ⟨_,hD'⟩) ?_ ⟨m',rj hn' fun o e=>kp _ o iaC jaC e⟩ hD' S.r
  refine eW (W'.off Cl (.head _)) ?_;rintro g1 g2 g3
  refine aU (hn') ?_;rintro o _ _ e _
  exact⟨g1,g2,g3,o,kp _ o iaC jaC e⟩
 |succ n =>
  refine BF (ec) ?_;rintro⟨clen,lacc⟩ v an ev ea
  have inC:∀ {x:Addr},Cl≠x->x∉[Cl]:=fun h q=>by cases q with | head=>exact h rfl | tail _ q=>exact nomatch q
  refine uD (it:=it) (N:=N) I' S.t S.oi S.oj clen (by omega) ev (KW e1) fun μa sa val Ta Ia' ta OIa OJa rv=>?_
  have Sa:=S.next Ta nIa nJa iaD jaD ta OIa OJa
  have Wa:=W'.step Ta (inC iaC) (inC jaC) fun x c hx=>⟨(cne x c hx).1,(cne x c hx).2.1⟩
  refine htgt.run ea rv R Ia' Wa fun cloc1 σa a2 eb μb sb RXb Ib Wb=>?_
  have Sb:=Sa.more RXb (inC iaC) (inC jaC) (inC (Ne.symm hDC)) fun a ha=>by cases ha with | head=>exact n1C | tail _ q=>exact nomatch q
  refine hifs.tests eb R Ib Wb fun b σb a3 ec μc sc Rc Ic=>?_
  have Sc:=Sb.far Rc
  have Wc:=Wb.keeps Rc
  have hidx:N-(n+1)+1=N-n:=by grind
  rw[hidx]at Sc
  cases b with
  |false =>
   rw[if_neg Qc]
   exact⟨n,Nat.lt_succ_self _,.mk (Nat.le_of_succ_le ‹_›) Sc Ic Wc ec⟩
  |true =>
   rw[if_pos rfl]
   refine helt.run ec R Ic Wc fun y σd a4 ed μd sd yv Rd Id rd=>?_
   have Sd:=Sc.far Rd
   have hsz:vals.size<=sizeLine:=by
    have h2:=dN lacc
    have h3:=bJ Sd.r
    rw[sizeLine_eq];exact Py (Nat.le_of_eq (Eq.symm ‹_›)) (Py ‹_› (by decide))
   refine wpAny_list_append_plain (hsz:=hsz) ⟨k,Sd.hd⟩ fun h' hp hs=>?_
   obtain⟨k',hp⟩:=hp
   have T5:jS D D μd μd sd { sd with heap:=h'}:=⟨rfl,fun _ h=>h,fun _ h=>.inl h,fun b o hb _ e=>(hs.2 b hb).trans e,⟨h',sd.toks,rfl⟩⟩
   have X5:=T5.x fun a ha=>by rcases ha with rfl | rfl <;> exact⟨_,hp⟩
   have inD:∀ {x:Addr},D≠x->x∉[D,D]:=fun h q=>by
    cases q with
    |head=>exact h rfl
    |tail _ q =>
     cases q with
     |head=>exact h rfl
     |tail _ q=>exact nomatch q
   refine⟨n,Nat.lt_succ_self _,.mk (acc:=acc++[y]) (vals:=vals.push yv) (Nat.le_of_succ_le ‹_›) ⟨Sd.rx.thenX X5 fun a ha=>?_,Sd.t.keeps X5 Sd.oi Sd.oj (inD iaD) (inD jaD),Sd.oi.keeps X5,Sd.oj.keeps X5,Sd.od.keeps X5,hp,?_⟩ (Id.step T5 Sd.od Sd.od fun p hp hm=>absurd hp hm) ((Wc.keeps Rd).step T5 (inC (Ne.symm hDC)) (inC (Ne.symm hDC)) fun x c hx=>⟨(cne x c hx).2.2,(cne x c hx).2.2⟩) ed⟩
   . cases ha with
     |head=>exact n1D
     |tail _ q =>
      cases q with
      |head=>exact n1D
      |tail _ q=>exact nomatch q
   . rw[Array.toList_push]
     exact Sd.r.append (.cons rd .nil)
set_option tactic.hygienic true in
theorem yc(K:aT C){elt tgt iter:Expr}{ifs:List Expr}{scope:Scope}{pos pos':Pos}(hi:aE C T mt cs d iter)(htgt:d9 C T mt cs d tgt)(hifs:cJ C T mt cs d ifs)(helt:aE C T mt cs d elt)
 {A:Around}{L:List Addr}{env:Env}{loc:Loc}{J:Hp}{a:An}{k1:KQ}{O:Map}{s:Shared}{use:Option (Value->Sem Unit)}{Q:Value->Shared->Prop}{E:Value->Shared->Prop}
 (hok:u4 scope loc=true) (e0:bj T mt cs iter loc J a k1) (R:c9 A d) (I:ap C O J s.heap) (W:aK C L O env loc s.heap)
 (ρ:∀v J1 a1,k1 v J1 a1->∃it N kk,jx J1 v=some it/\bX J1 it=some N/\pP (runA T mt cs tgt) (runT T mt cs ifs) (bj T mt cs elt) it N kk N (qE scope loc) J1 []/\∀acc' J2,kk acc' J2->∀O' s' D Cl,HM C O O' J2 s s' D Cl acc'->compPost (M C) A E use Q (.ref D) Cl (.ok .next) s') :
 wpAny (M C) A (comprehension (.ListComp elt [⟨tgt,iter,ifs,0⟩] scope pos) scope env pos' (newList []) false (eval iter env) use) Q E s:=by
 obtain⟨cl,c1,c2,c3,c4,c5,c6,c7⟩:=ET (A:=A) (J:=J) (s:=s) W hok
 refine wpAny_comprehension_free rfl (uG e0 env) c1 c4 c6 ?_
 refine hi.run e0 R I W fun v0 J1 a1 hk1 O1 s1 xv R1 I1 r1=>?_
 obtain⟨it,N,kk,e1,e2,e3,F⟩:=ρ _ _ _ hk1
 have W1:=W.keeps R1
 refine vz I1 e1 r1 fun s2 Ia Ja R2 I2 t2 nIa nJa OIa2 OJa2 self=>?_
 have W2:=W1.keeps R2
 refine wpAny_newObj_type (wpAny_newFunctionEnv c5 (by intro y hy;simp at hy) (fun h₁ hns₁ hsb₁=>?_) c4)
 dsimp only at hns₁ hsb₁ ⊢
 generalize hH2:s2.heap.push { cls:=.type "list",dict:=none,data:=.seq ([]:List Value).toArray}=ρ2 at hns₁ hsb₁ ⊢
 generalize hD:s2.heap.objs.size=D
 generalize hCl:ρ2.objs.size=Cl at hns₁ hsb₁ ⊢
 have hC:Cl=D+1:=by rw[<- hCl,<- hH2,Heap.size_push,hD]
 have hDC:D≠Cl:=by rw[hC];exact Nat.ne_of_lt (Nat.lt_succ_self _)
 have below:∀b o,s2.heap.get? b=some o->b≠Cl/\b≠D:=fun b o e=>by
  have:=Heap.lt_size e
  rw[hD]at this
  exact⟨by rw[hC];exact Nat.ne_of_lt (Nat.lt_succ_of_lt this),Nat.ne_of_lt this⟩
 have old:∀b o,s2.heap.get? b=some o->h₁.get? b=some o:=fun b o e=>hsb₁.extBut b o (below b o e).1 (Heap.get?_push_of_some _ (hH2▸Heap.get?_push_of_some _ e))
 have hacc:h₁.get? D=some (listOf #[] 0):=hsb₁.extBut _ _ hDC (Heap.get?_push_of_some _ (by rw[<- hH2,<- hD];exact Heap.get?_push_size _ rfl))
 have n2D:s2.heap.get? D=none:=hD▸gg _
 have n2C:s2.heap.get? Cl=none:=by
  cases q:s2.heap.get? Cl with
  |none=>rfl
  |some o=>exact absurd rfl (below _ o q).1
 have back:∀ {x:Addr},s2.heap.get? x=none->s1.heap.get? x=none:=fun{x} h=>by
  cases q:s1.heap.get? x with
  |none=>rfl
  |some o =>
   by_cases hx:x∈O1.am
   . obtain⟨n,hn⟩:=List.getElem?_of_mem hx
     have hl:n<J1.length:=I2.len▸(PD.mp hn).1
     refine ae (I2.cell n J1[n] _ (by simp[hl]) hn) ?_;rintro o ho _
     rw[ho]at h;cases h
   .rw[R2.keep x o hx q]at h;cases h
 have back0:∀ {x:Addr},s1.heap.get? x=none->s.heap.get? x=none:=fun{x} h=>by
  cases q:s.heap.get? x with
  |none=>rfl
  |some o =>
   by_cases hx:x∈O.am
   . obtain⟨n,hn⟩:=List.getElem?_of_mem (R1.le.mem hx)
     have hl:n<J1.length:=I1.len▸(PD.mp hn).1
     refine ae (I1.cell n J1[n] _ (by simp[hl]) hn) ?_;rintro o ho _
     rw[ho]at h;cases h
   .rw[R1.keep x o hx q]at h;cases h
 have n1D:=back n2D
 have n1C:=back n2C
 generalize hs4:({ s2 with heap:=h₁,toks:=s2.toks+([]:List (Str×Value)).length}:Shared)=s4
 have hh4:s4.heap=h₁:=by rw[<- hs4]
 have R24:al O1 O1 s2 s4:=by rw[<- hs4];exact al.at (t:=s2.toks+([]:List (Str×Value)).length) old
 have I4:ap C O1 J1 s4.heap:=by rw[hh4];exact I2.at old
 have R14:=R2.trans R24
 have neI:∀ {a x:Addr},s2.heap.get? x=none->(∃o,s2.heap.get? a=some o)->a≠x:=fun{a x} h ⟨o,e⟩ q=>by rw[q,h]at e;cases e
 have iaD:=neI n2D OIa2.here
 have iaC:=neI n2C OIa2.here
 have jaD:=neI n2D OJa2.here
 have jaC:=neI n2C OJa2.here
 have OD4:Off C O1 s4.heap D:=iT (h':=s4.heap) I2 n2D ⟨_,hh4▸hacc⟩
 have OC4:Off C O1 s4.heap Cl:=iT (h':=s4.heap) I2 n2C (by refine aU (hns₁) ?_;rintro o _ _ e _;exact⟨o,hh4▸e⟩)
 have OIa4:Off C O1 s4.heap Ia:=OIa2.keeps (L:=[]) R24.x
 have OJa4:Off C O1 s4.heap Ja:=OJa2.keeps (L:=[]) R24.x
 have t4:dY C O1 s4.heap it 0 Ia Ja:=t2.keeps (L:=[]) R24.x OIa2 OJa2 (by simp) (by simp)
 generalize hcenv:({ newEnv scope Cl env.globals cl env.qual none .none (some env) builtinsNs with scope:=relabel scope env}:Env)=cenv
 have cells2:∀x c,cl.lookup x=some c->env.cells.lookup x=some c:=fun x c h=>c2 (x,c) (mem_of_lookup h)
 have hcc:cenv.cells=cl:=by rw[<- hcenv];rfl
 have hck:∀x,cenv.kindOf x=(relabel scope env).names.lookup x:=fun x=>by rw[<- hcenv];rfl
 have hcl:cenv.locals=Cl:=by rw[<- hcenv];rfl
 have W4:aK C [Cl] O1 cenv (qE scope loc) s4.heap:=by
  have W24:=W2.keeps R24
  refine ae (W24.ns) ?_;rintro m' hn' hs'
  refine⟨by rw[<- hcenv];exact c4,by rw[<- hcenv];exact W.glob,by rw[<- hcenv];exact W.bi,by rw[hcl];simp,fun a ha=>?_,fun a ha=>?_,fun x y c hx hy=>?_,fun x c hx=>?_,fun x c hx=>?_,_,by rw[hcl,hh4];exact hns₁,fun x sl hsl=>?_⟩
  .rw[PH.mp ha];exact⟨OC4.am,OC4.Z,OC4.h₀⟩
  .rw[PH.mp ha];exact OC4.here
  .rw[hcc]at hx hy;exact W.inj x y c (cells2 x c hx) (cells2 y c hy)
  . rw[hcc]at hx;rw[hcl]
    refine uu (W2.cells x c (cells2 x c hx)) ?_;rintro _ o e
    exact(below c o e).1
  .rw[hcc]at hx;exact W24.cells x c (cells2 x c hx)
  . unfold qE at hsl
    obtain⟨k,hk,rfl⟩:=iW (α:=Nat) (β:=Nat) (f:=id) (k:=.local) (g:=fun y k=>match k with
     |.local=>.v none
     |.free=>Mm (loc.lookup y)
     |.globalImplicit=>.g
     |_=>.x) hsl
    have hkx:cenv.kindOf x=some (if(k==NameKind.free&&env.scope.kind==.function&&env.kindOf x==some .cell)then .cell else k):=(hck x).trans (jV hk)
    cases k with
    |«local»=>exact hkx
    |globalImplicit=>exact hkx
    |free =>
     have hkx':cenv.kindOf x=some .cell\/cenv.kindOf x=some .free:=by
      split at hkx
      .exact .inl hkx
      .exact .inr hkx
     obtain⟨c,hc⟩:=c3 (x,.free) (mem_of_lookup hk) rfl
     have hcl':=CU (g:=fun x=>env.cells.lookup x) c2 hc
     have hce:=c2 _ hc
     have hce:env.cells.lookup x=some c:=hce
     dsimp only
     cases hlv:loc.lookup x with
     |none=>trivial
     |some sl=>cases sl with
      |cv o=>cases o with
       |none=>trivial
       |some v =>
        obtain⟨val,w1,w2,c',w3,w4,w5⟩:=hs' _ _ hlv
        have w3:env.cells.lookup x=some c':=w3
        rw[hce]at w3;cases w3
        exact⟨val,w1,hkx',c,by rw[hcc];exact hcl',w5⟩
      |f v =>
       obtain⟨val,w1,w2,c',w3,w5⟩:=hs' _ _ hlv
       have w3:env.cells.lookup x=some c':=w3
       rw[hce]at w3;cases w3
       exact⟨val,w1,hkx',c,by rw[hcc];exact hcl',w5⟩
      |_=>trivial
    |_=>trivial
 have cne:∀x c,cenv.cells.lookup x=some c->c≠Ia/\c≠Ja/\c≠D:=fun x c hx=>by
  rw[hcc]at hx
  obtain⟨_,o,e⟩:=W1.cells x c (cells2 x c hx)
  exact⟨fun q=>by(rw[q,nIa]at e;cases e),fun q=>by(rw[q,nJa]at e;cases e),fun q=>by(rw[q,n1D]at e;cases e)⟩
 have F':∀acc' J2,kk acc' J2->∀O' s' vals k,al O1 O' s1 s'->ap C O' J2 s'.heap->Off C O' s'.heap D->Off C O' s'.heap Cl->(∃m,s'.heap.Ns Cl m)->s'.heap.get? D=some (listOf vals k)->ag (ac C O') acc' vals.toList->compPost (M C) A E use Q (.ref D) Cl (.ok .next) s' :=
  fun acc' J2 hk O' s' vals k RX I' oD oC hm hD' r=>F _ _ hk O' s' D Cl ⟨R1.trans RX,I',oD,oC,back0 n1D,back0 n1C,BU K I2 (by rw[hD];exact PS _),hDC,hm,vals,k,hD',r⟩
 have loop:codeAny (M C) A (.compLoop (.ListComp elt [⟨tgt,iter,ifs,0⟩] scope pos) 0 (.ref Ia) (.ref D) cenv) (compPost (M C) A E use Q (.ref D) Cl) s4 :=
  CV K htgt hifs helt R e1 nIa nJa n1D n1C (Ne.symm iaC) (Ne.symm jaC) (Ne.symm iaD) (Ne.symm jaD) hDC hcl cne F'
   (.mk (PS _) ⟨R14,by rw[Nat.sub_self];exact t4,OIa4,OJa4,OD4,hh4▸hacc,.nil⟩ I4 W4 e3)
 have hEnv:∀x:Env,x=newEnv scope Cl env.globals cl env.qual none .none (some env) builtinsNs->({ x with scope:=relabel scope env}:Env)=cenv:=fun x hx=>by rw[hx];exact hcenv
 have goal:codeAny (M C) A (.compStart (.ListComp elt [⟨tgt,iter,ifs,0⟩] scope pos) 0 (.ref Ia) (.ref D) cenv) (compPost (M C) A E use Q (.ref D) Cl) s4 :=
  codeAny_compStart_list loop (self s4 _ _ t4 loop)
 exact goal
theorem HN(K:aT C){elt tgt iter:Expr}{ifs:List Expr}{n:Int}{scope:Scope}{pos:Pos}(hi:aE C T mt cs d iter)(htgt:d9 C T mt cs d tgt)(hifs:cJ C T mt cs d ifs)(helt:aE C T mt cs d elt):
 aE C T mt cs d (.ListComp elt [⟨tgt,iter,ifs,n⟩] scope pos):=by
 refine⟨fun{A L env loc J a k O s Q E} e R I W P=>?_,fun{loc J a k} e=>?_⟩
 . refine eW (e) ?_;rintro rfl hok e
   rw[eval_ListComp]
   refine yc K hi htgt hifs helt hok e R I W fun v J1 a1 hk=>?_
   refine aU (iV hk) ?_;rintro x J2 r ⟨it,N,h1,h2,h3⟩ hk
   refine⟨it,N,_,h1,h2,h3,fun acc' J3 hm O' s' D Cl X=>?_⟩
   obtain⟨m,hn⟩:=X.ns
   refine⟨m,hn,fun h' hs=>?_⟩
   refine bu (X.list) ?_;rintro vals k hD rl
   have S:jS Cl Cl O' O' s' { s' with heap:=h'}:=⟨rfl,fun _ h=>h,fun _ h=>.inl h,fun b o hb _ e=>(hs.2 b hb).trans e,⟨h',s'.toks,rfl⟩⟩
   have I1:=X.inv.step S X.offC X.offC fun p hp hm=>absurd hp hm
   have hD':=S.keep _ _ X.ne X.ne hD
   have R1:al O O' s { s' with heap:=h'}:=(bC.step (L:=[]) X.reach.x S X.newC X.newC).nil
   exact Ad (s₁:={ s' with heap:=h'}) (h':=h') (tk:=s'.toks) K R1 I1 X.newD (X.offD.step S ⟨_,hD'⟩) X.low (fun b x _ e=>e) hD' rl hm.2 (P _ _ _ hk)
 . refine eW (e) ?_;rintro _ _ e
   refine bf (hi.ad e) ?_;rintro _ _ _ h
   refine aU (iV h) ?_;rintro _ _ _ _ h
   exact⟨_,_,_,h⟩
end
section
variable{C:Ctx}{T:Tab}{mt:Pos->Bool}{cs:aD}{d:Nat}
theorem lj.after{L:List Addr}{O O':Map}{s s':Shared}{J':Hp}{env:Env}{loc:Loc}{Q:Shared->Prop}(R:al O O' s s')(P:lj C L O s J' env loc Q):lj C L O' s' J' env loc Q:=fun O'' s'' R' I W=>P O'' s'' (R.x.trans R') I W
theorem lj.afterX{L:List Addr}{O O':Map}{s s':Shared}{J':Hp}{env:Env}{loc:Loc}{Q:Shared->Prop}(R:bC L O O' s s')(P:lj C L O s J' env loc Q):lj C L O' s' J' env loc Q:=fun O'' s'' R' I W=>P O'' s'' (R.trans R') I W
theorem yd(x:Str)(p:Pos):d9 C T mt cs d (.Name x p):=by
 refine⟨fun{A L env loc J a k v val O s Q E} e r R I W P=>?_⟩
 have e:(match loc.put x v with | some l=>k l J a | Option.none=>False):=e
 cases q:loc.put x v with
 |none=>rw[q]at e;exact e.elim
 |some l=>rw[q]at e;exact wpAny_assign_Name (z8 I W q r (P _ _ _ e))
theorem ye(K:aT C)(TO:cp C T){o:Expr}{a:Str}{p:Pos}(ho:aE C T mt cs d o):d9 C T mt cs d (.Attribute o a p):=by
 refine⟨fun{A L env loc J an k v val O s Q E} e r R I W P=>?_⟩
 show wpAny _ _ (do
  let ov<-holding [val] (eval o env)
  standAt p.atName
  holding [val,ov] (setAttr ov a val)
  release [val,ov] []) _ _ _
 refine PE (wpAny_holding (ho.run e R I W fun v1 J1 a1 h1 O1 s1 ov R1 I1 r1=>PE (wpAny_standAt (PE (wpAny_holding ?_)))))
 refine bu (BM h1) ?_;rintro J2 a2 hs hk
 exact KT K TO I1 hs r1 (ac.mono R1.le _ r) fun O2 s2 R2 I2=>wpAny_release (P _ _ _ hk O2 s2 (R1.trans R2).x I2 (W.keeps (R1.trans R2)))
theorem Ag{o i:Expr}{p:Pos}(ho:aE C T mt cs d o)(hi:aE C T mt cs d i):d9 C T mt cs d (.Subscript o i p):=by
 refine⟨fun{A L env loc J an k v val O s Q E} e r R I W P=>?_⟩
 show wpAny _ _ (do
  let ov<-holding [val] (eval o env)
  let iv<-holding [val,ov] (eval i env)
  standAt p
  holding [val,ov,iv] (setItem ov iv val)
  release (match(generalizing:=false) i with | .Slice _ _ none _=>[iv,val,ov] | _=>[val,ov,iv]) []) _ _ _
 refine PE (wpAny_holding (ho.run e R I W fun v1 J1 a1 h1 O1 s1 ov R1 I1 r1=>PE (wpAny_holding (hi.run h1 R I1 (W.keeps R1) fun v2 J2 a2 h2 O2 s2 iv R2 I2 r2=>PE (wpAny_standAt (PE (wpAny_holding ?_)))))))
 refine bu (BM h2) ?_;rintro J3 a3 hs hk
 exact EE I2 hs (ac.mono R2.le _ r1) r2 (ac.mono (R1.trans R2).le _ r) (by have:=R.units;lia) fun O3 s3 R3 I3=>wpAny_release (P _ _ _ hk O3 s3 ((R1.trans R2).trans R3).x I3 (W.keeps ((R1.trans R2).trans R3)))
theorem kI{e:Expr}{es:List Expr}{v:V}{vs:List V}{loc l:Loc}(h:bZ (e::es) (v::vs) loc=some l):∃x p l1,e=.Name x p/\loc.put x v=some l1/\bZ es vs l1=some l:=by
 cases e with
 |Name x p =>
  refine ae (PM.mp h) ?_;rintro l1 h1 h2
  exact⟨x,p,l1,rfl,h1,h2⟩
 |_=>cases h
theorem fU{es:List Expr}:∀ {vs:List V}{loc l:Loc},bZ es vs loc=some l->es.length=vs.length:=by
 induction es with
 |nil=>intro vs loc l h;cases vs with
  |nil=>rfl
  |cons _ _=>cases h
 |cons e es ih=>intro vs loc l h;cases vs with
  |nil=>cases e <;> cases h
  |cons v vs =>
   refine bg (kI h) ?_;rintro x p l1 rfl h1 h2
   rw[P8,P8,ih h2]
theorem EU{A:Around}{L:List Addr}{env:Env}{E:Value->Shared->Prop}{es:List Expr}:∀ {vs:List V}{vals:List Value}{loc loc':Loc}{J:Hp}{O:Map}{s:Shared}{Q:Unit->Shared->Prop},
 bZ es vs loc=some loc'->ag (ac C O) vs vals->ap C O J s.heap->aK C L O env loc s.heap->lj C L O s J env loc' (Q ()) ->
 wpAny (M C) A (assignInOrder ((assignEach es env).map (·.2)) vals) Q E s:=by
 induction es with
 |nil =>
  intro vs vals loc loc' J O s Q e h I W P
  have:=fU e
  have:vs=[]:=List.length_eq_zero_iff.mp this.symm
  subst this
  cases e;cases h
  exact P3 (P _ _ (.refl _ _ _) I W)
 |cons e0 es ih =>
  intro vs vals loc loc' J O s Q e h I W P
  have:=fU e
  cases vs with
  |nil=>cases this
  |cons v vs =>
   cases h with | cons h1 h2 =>
   refine bg (kI e) ?_;rintro x p l1 rfl hl e
   refine PE (wpAny_holding (wpAny_assign_Name (z8 I W hl h1 fun O1 s1 R1 I1 W1=>?_)))
   exact ih e (cE R1.le h2) I1 W1 (P.afterX R1)
theorem Ah{env:Env}{es:List Expr}:∀ {vs:List V}{loc loc':Loc},bZ es vs loc=some loc'->(assignEach es env).length=vs.length/\(assignEach es env).findIdx? (·.1)=none:=by
 induction es with
 |nil =>
  intro vs loc loc' e
  exact⟨fU e,rfl⟩
 |cons e0 es ih =>
  intro vs loc loc' e
  have:=fU e
  cases vs with
  |nil=>cases this
  |cons v vs =>
   refine bg (kI e) ?_;rintro x p l1 rfl hl e
   obtain⟨h1,h2⟩:=ih e
   have h0:assignEach (.Name x p::es) env=(false,assign (.Name x p) env)::assignEach es env:=rfl
   rw[h0]
   exact⟨by rw[P8,P8,h1],by rw[List.findIdx?_cons,h2];rfl⟩
theorem BY{es:List Expr}{n:Nat}{p:Pos}{v:V}{loc:Loc}{J:Hp}{a:An}{k:KL}(e:runA T mt cs (.Tuple es n p) v loc J a k):∃vs l,v=.tup vs/\bZ es vs loc=some l/\k l J a:=by
 cases v with
 |tup vs =>
  have e:(match bZ es vs loc with | some l=>k l J a | Option.none=>False):=e
  cases q:bZ es vs loc with
  |none=>rw[q]at e;exact e.elim
  |some l=>rw[q]at e;exact⟨_,_,rfl,q,e⟩
 |_=>exact False.elim e
theorem vJ{es:List Expr}{k:Nat}{p:Pos}:d9 C T mt cs d (.Tuple es k p):=by
 refine⟨fun{A L env loc J an k v val O s Q E} e r R I W P=>?_⟩
 refine cQ (BY e) ?_;rintro vs l rfl hl hk
 simp only[ac]at r
 refine bg (r) ?_;rintro a vals n rfl m t
 have t:=aL.mp t
 obtain⟨n1,n2⟩:=Ah (env:=env) hl
 refine wpAny_assign_Tuple R.handled (cn I m) (by rw[n1,t.length];simp) n2 fun h' hx=>?_
 have k':∀b x,s.heap.get? b=some x->h'.get? b=some x:=fun b x hb=>hx b x (Nat.ne_of_lt (Heap.lt_size hb)) hb
 have R1:al O O s { s with heap:=h'}:=al.at (t:=s.toks) k'
 exact EU (s:={ s with heap:=h'}) hl t (I.at k') (W.keeps R1) ((P _ _ _ hk).after R1)
noncomputable def Kc(C:Ctx)(T:Tab)(mt:Pos->Bool)(cs:aD)(d:Nat):Expr->Prop
 |.Attribute o _ _=>aE C T mt cs d o
 |.Slice lo hi st _=>iX C T mt cs d lo/\iX C T mt cs d hi/\iX C T mt cs d st
 |_=>True
structure lJ(C:Ctx)(T:Tab)(mt:Pos->Bool)(cs:aD)(d:Nat)(e:Expr):Prop where
 eval:aE C T mt cs d e
 test:fq C T mt cs d e
 assign:d9 C T mt cs d e
 parts:Kc C T mt cs d e
structure BZ(C:Ctx)(T:Tab)(mt:Pos->Bool)(cs:aD)(d:Nat)(g:Comprehension):Prop where
 tgt:lJ C T mt cs d g.target
 iter:lJ C T mt cs d g.iter
 ifs:cJ C T mt cs d g.ifs
structure Ai(C:Ctx)(T:Tab)(mt:Pos->Bool)(cs:aD)(d:Nat)(gs:List Comprehension):Prop where
 all:∀g∈gs,BZ C T mt cs d g
theorem CW{g:Comprehension}{gs:List Comprehension}(h1:BZ C T mt cs d g)(h2:Ai C T mt cs d gs):Ai C T mt cs d (g::gs):=⟨fun x h=>by
 rcases PZ.mp h with rfl | h
 .exact h1
 .exact h2.all x h⟩
theorem mH{e:Expr}(h:∀loc J a k,bj T mt cs e loc J a k->False):aE C T mt cs d e:=⟨fun e=>(h _ _ _ _ e).elim,fun e=>(h _ _ _ _ e).elim⟩
theorem eE{e:Expr}(h:∀loc J a k,bj T mt cs e loc J a k->False)(h2:∀v loc J a k,runA T mt cs e v loc J a k->False)(hp:Kc C T mt cs d e):lJ C T mt cs d e :=
 ⟨mH h,⟨fun e=>(h _ _ _ _ e).elim⟩,⟨fun e=>(h2 _ _ _ _ _ e).elim⟩,hp⟩
theorem EV(K:aT C)(TO:cp C T)(CS:ie C cs d){f:Expr}{args:List Expr}{kws:List Keyword}{pos:Pos}(hf:lJ C T mt cs d f)(ha:cJ C T mt cs d args)(hk:lp C T mt cs d kws):aE C T mt cs d (.Call f args kws pos):=by
 cases f <;> first
  |exact HJ K TO CS ha hk
  |exact HK K TO CS hf.parts ha hk
  |exact mH fun _ _ _ _ h=>h
theorem HP(K:aT C){o i:Expr}{p:Pos}(ho:lJ C T mt cs d o)(hi:lJ C T mt cs d i):aE C T mt cs d (.Subscript o i p):=by
 cases i <;> first
  |exact EO ho.eval hi.eval (fun _ _ _ _ h=>h)
  |exact EQ K ho.eval hi.parts.1 hi.parts.2.1 hi.parts.2.2
  |exact mH fun _ _ _ _ h=>h
mutual
theorem ca(K:aT C)(TO:cp C T)(CS:ie C cs d):∀e:Expr,lJ C T mt cs d e
 |.BoolOp op es p=>have h:=listsOK K TO CS es;⟨CN h,xX h,dT fun _ _ _ _ _ h=>h,trivial⟩
 |.NamedExpr .. => eE (fun _ _ _ _ h=>h) (fun _ _ _ _ _ h=>h) trivial
 |.BinOp l op r p=>have h:=EK K (op:=op) (p:=p) (ca K TO CS l).eval (ca K TO CS r).eval;⟨h,fC h fun _ _=>rfl,dT fun _ _ _ _ _ h=>h,trivial⟩
 |.UnaryOp op x p=>by
  have hx:=ca K TO CS x
  have h:aE C T mt cs d (.UnaryOp op x p):=HF hx.eval
  refine⟨h,?_,dT fun _ _ _ _ _ h=>h,trivial⟩
  cases op with
  |Not=>exact EL hx.test
  |_=>exact fC h fun _ _=>rfl
 |.Lambda .. => eE (fun _ _ _ _ h=>h) (fun _ _ _ _ _ h=>h) trivial
 |.IfExp t b o p =>
  have ht:=ca K TO CS t
  have hb:=ca K TO CS b
  have ho:=ca K TO CS o
  ⟨EM ht.test ht.eval hb.eval ho.eval,z9 ht.test hb.test ho.test,dT fun _ _ _ _ _ h=>h,trivial⟩
 |.Dict keys vals p=>have h:=HL K (keys:=keys) (pos:=p) (listsOK K TO CS vals);⟨h,fC h fun _ _=>rfl,dT fun _ _ _ _ _ h=>h,trivial⟩
 |.Set .. => eE (fun _ _ _ _ h=>h) (fun _ _ _ _ _ h=>h) trivial
 |.ListComp elt gens scope p=>by
  have he:=ca K TO CS elt
  have hg:=gensOK K TO CS gens
  have h:aE C T mt cs d (.ListComp elt gens scope p):=by
   rcases gens with _ | ⟨⟨tgt,iter,ifs,a⟩,_ | ⟨g2,gs⟩⟩
   .exact mH fun _ _ _ _ h=>h
   . have:=hg.all _ (.head _)
     exact HN K this.iter.eval this.tgt.assign this.ifs he.eval
   .exact mH fun _ _ _ _ h=>h
  exact⟨h,fC h fun _ _=>rfl,dT fun _ _ _ _ _ h=>h,trivial⟩
 |.SetComp .. => eE (fun _ _ _ _ h=>h) (fun _ _ _ _ _ h=>h) trivial
 |.DictComp .. => eE (fun _ _ _ _ h=>h) (fun _ _ _ _ _ h=>h) trivial
 |.GeneratorExp .. => eE (fun _ _ _ _ h=>h) (fun _ _ _ _ _ h=>h) trivial
 |.Await .. => eE (fun _ _ _ _ h=>h) (fun _ _ _ _ _ h=>h) trivial
 |.Yield .. => eE (fun _ _ _ _ h=>h) (fun _ _ _ _ _ h=>h) trivial
 |.YieldFrom .. => eE (fun _ _ _ _ h=>h) (fun _ _ _ _ _ h=>h) trivial
 |.Compare l ops rs p=>have hl:=ca K TO CS l;have hr:=listsOK K TO CS rs;⟨Aa hl.eval hr,vC hl.eval hr,dT fun _ _ _ _ _ h=>h,trivial⟩
 |.Call f args kws p=>have h:=EV K TO CS (pos:=p) (ca K TO CS f) (listsOK K TO CS args) (kwsOK K TO CS kws);⟨h,fC h fun _ _=>rfl,dT fun _ _ _ _ _ h=>h,trivial⟩
 |.FormattedValue .. => eE (fun _ _ _ _ h=>h) (fun _ _ _ _ _ h=>h) trivial
 |.JoinedStr .. => eE (fun _ _ _ _ h=>h) (fun _ _ _ _ _ h=>h) trivial
 |.Constant c k p=>have h:=EJ c k p;⟨h,fC h fun _ _=>rfl,dT fun _ _ _ _ _ h=>h,trivial⟩
 |.Attribute o a p=>have ho:=ca K TO CS o;have h:=HH K TO (a:=a) (p:=p) ho.eval;⟨h,fC h fun _ _=>rfl,ye K TO ho.eval,ho.eval⟩
 |.Subscript o i p=>have ho:=ca K TO CS o;have hi:=ca K TO CS i;have h:=HP K (p:=p) ho hi;⟨h,fC h fun _ _=>rfl,Ag ho.eval hi.eval,trivial⟩
 |.Starred .. => eE (fun _ _ _ _ h=>h) (fun _ _ _ _ _ h=>h) trivial
 |.Name x p=>have h:=HE K TO x p;⟨h,fC h fun _ _=>rfl,yd x p,trivial⟩
 |.List es p=>have h:=HG K (p:=p) (listsOK K TO CS es);⟨h,fC h fun _ _=>rfl,dT fun _ _ _ _ _ h=>h,trivial⟩
 |.Tuple es k p=>have h:=EN (k:=k) (p:=p) (listsOK K TO CS es);⟨h,fC h fun _ _=>rfl,vJ,trivial⟩
 |.Slice lo hi st p=>eE (fun _ _ _ _ h=>h) (fun _ _ _ _ _ h=>h) ⟨partOK K TO CS lo,partOK K TO CS hi,partOK K TO CS st⟩
theorem listsOK(K:aT C)(TO:cp C T)(CS:ie C cs d):∀es:List Expr,cJ C T mt cs d es
 |[]=>CR
 |e::es=>have h:=ca K TO CS e;Ab h.eval h.test (listsOK K TO CS es)
theorem kwsOK(K:aT C)(TO:cp C T)(CS:ie C cs d):∀ks:List Keyword,lp C T mt cs d ks
 |[]=>vD
 |⟨some n,e,p⟩::ks=>ER (ca K TO CS e).eval (kwsOK K TO CS ks)
 |⟨none,e,p⟩::ks=>ES
theorem partOK(K:aT C)(TO:cp C T)(CS:ie C cs d):∀o:Option Expr,iX C T mt cs d o
 |none=>CP
 |some e=>CQ (ca K TO CS e).eval
theorem Kd(K:aT C)(TO:cp C T)(CS:ie C cs d):∀g:Comprehension,BZ C T mt cs d g
 |⟨t,i,ifs,a⟩=>⟨ca K TO CS t,ca K TO CS i,listsOK K TO CS ifs⟩
theorem gensOK(K:aT C)(TO:cp C T)(CS:ie C cs d):∀gs:List Comprehension,Ai C T mt cs d gs
 |[]=>⟨fun _ h=>(nomatch h)⟩
 |g::gs=>CW (Kd K TO CS g) (gensOK K TO CS gs)
end
end
section
variable{C:Ctx}{T:Tab}{mt:Pos->Bool}{cs:aD}{d:Nat}
structure ig(C:Ctx)(T:Tab)(mt:Pos->Bool)(cs:aD)(d:Nat)(st:Stmt):Prop where
 run:∀ {A:Around}{L:List Addr}{env:Env}{loc:Loc}{J:Hp}{a:An}{k:KF}{O:Map}{s:Shared}{Q:Flow->Shared->Prop}{E:Value->Shared->Prop},
  KD T mt cs st loc J a k->c9 A d->ap C O J s.heap->aK C L O env loc s.heap->(∀f l J' a',k f l J' a'->pU C L O s J' env l f Q)->wpAny (M C) A (exec st env) Q E s
theorem pU.after{L:List Addr}{O O':Map}{s s':Shared}{J':Hp}{env:Env}{loc:Loc}{fl:Fl}{Q:Flow->Shared->Prop}(R:al O O' s s')(P:pU C L O s J' env loc fl Q):pU C L O' s' J' env loc fl Q:=fun O'' s'' f R' I W h=>P O'' s'' f (R.x.trans R') I W h
theorem pU.afterX{L:List Addr}{O O':Map}{s s':Shared}{J':Hp}{env:Env}{loc:Loc}{fl:Fl}{Q:Flow->Shared->Prop}(R:bC L O O' s s')(P:pU C L O s J' env loc fl Q):pU C L O' s' J' env loc fl Q:=fun O'' s'' f R' I W h=>P O'' s'' f (R.trans R') I W h
theorem vK{O:Map}{f:Flow}(h:BQ C O .next f):f=.next:=h
theorem Aj{O:Map}{f:Flow}(h:BQ C O .brk f):f=.brk:=h
theorem vL{O:Map}{f:Flow}(h:BQ C O .cont f):f=.cont:=h
theorem vM:fz C T mt cs d []:=⟨fun e R I W P=>wpAny_execs_nil (P _ _ _ _ e _ _ .next (.refl _ _ _) I W rfl)⟩
theorem tq{st:Stmt}{ss:List Stmt}(h:ig C T mt cs d st)(hs:fz C T mt cs d ss):fz C T mt cs d (st::ss):=by
 refine⟨fun e R I W P=>?_⟩
 refine wpAny_execs_cons (h.run e R I W fun f l1 J1 a1 e O1 s1 fl R1 I1 W1 hf=>?_)
 cases f with
 |next=>cases vK hf;exact hs.run e R I1 W1 fun f l J a hk=>(P _ _ _ _ hk).afterX R1
 |brk=>cases Aj hf;exact P _ _ _ _ e _ _ _ R1 I1 W1 rfl
 |cont=>cases vL hf;exact P _ _ _ _ e _ _ _ R1 I1 W1 rfl
 |ret v =>
  refine ae (hf) ?_;rintro val rfl hv
  exact P _ _ _ _ e _ _ _ R1 I1 W1 ⟨val,rfl,hv⟩
theorem HQ{e:Expr}{p:Pos}(h:aE C T mt cs d e):ig C T mt cs d (.Expr e p):=by
 refine⟨fun{A L env loc J a k O s Q E} e1 R I W P=>?_⟩
 obtain⟨hc,e1⟩:=e1
 refine wpAny_Expr (h.run e1 R I W fun v J1 a1 h1 O1 s1 val R1 I1 r1=>?_) (by unfold interactive;rw[W.kind];rfl) ?_
 . cases v with
   |none =>
    simp only[ac]at r1
    subst r1
    exact P _ _ _ _ h1 _ _ .next R1.x I1 (W.keeps R1) rfl
   |_=>exact False.elim h1
 .cases e <;> first | rfl | exact absurd hc.symm Qc
theorem CY{e:Expr}{p:Pos}(h:aE C T mt cs d e):ig C T mt cs d (.Return (some e) p) :=
 ⟨fun e1 R I W P=>wpAny_Return_some (h.run e1 R I W fun v J1 a1 h1 O1 s1 v R1 I1 r1=>P _ _ _ _ h1 _ _ _ R1.x I1 (W.keeps R1) ⟨v,rfl,r1⟩)⟩
theorem MC{t:Expr}{b o:List Stmt}{p:Pos}(ht:fq C T mt cs d t)(hb:fz C T mt cs d b)(ho:fz C T mt cs d o):ig C T mt cs d (.If t b o p):=by
 refine⟨fun e1 R I W P=>?_⟩
 refine wpAny_If (ht.run e1 R I W fun v J1 a1 h=>?_)
 refine bI (hV h) ?_;rintro c hc h1 h2
 refine⟨c,hc,fun O1 s1 R1 I1=>?_⟩
 cases c with
 |true=>exact(h1 rfl).elim fun a h=>hb.run h R I1 (W.keeps R1) fun f l J a hk=>(P _ _ _ _ hk).after R1
 |false=>exact(h2 rfl).elim fun a h=>ho.run h R I1 (W.keeps R1) fun f l J a hk=>(P _ _ _ _ hk).after R1
inductive B5(C:Ctx)(L:List Addr)(O0:Map)(s0:Shared)(env:Env)(F:Nat->Loc->Hp->Prop)(n:Nat)(s:Shared):Prop where
 |mk {O:Map}{l:Loc}{J:Hp} (X:bC L O0 O s0 s) (I:ap C O J s.heap) (W:aK C L O env l s.heap) (e:F n l J):B5 C L O0 s0 env F n s
theorem Al{t:Expr}{b:List Stmt}(ht:fq C T mt cs d t)(hb:fz C T mt cs d b){A:Around}{L:List Addr}{env:Env}{O:Map}{s s':Shared}{kk:Fl->Loc->Hp->Prop}{E0:Value->Shared->Prop}{G R0:Flow->Shared->Prop}{n:Nat}(R:c9 A d)
 (h:B5 C L O s env (gJ (bj T mt cs t) (runSs T mt cs b) kk) n s')
 (hE:∀s1 O1 l J,kk .next l J->bC L O O1 s s1->ap C O1 J s1.heap->aK C L O1 env l s1.heap->R0 .next s1/\G .brk s1)
 (hR:∀s1 O1 l J v val,kk (.ret v) l J->bC L O O1 s s1->ap C O1 J s1.heap->aK C L O1 env l s1.heap->ac C O1 v val->G (.ret val) s1)
 (hG:∀m s1 f,m<n->B5 C L O s env (gJ (bj T mt cs t) (runSs T mt cs b) kk) m s1->f=.next\/f=.cont->G f s1) :
 wpAny (M C) A (isTrue t env (eval t env)) (fun c s₂=>if c then wpAny (M C) A (execs b env) G E0 s₂ else wpAny (M C) A (execs [] env) R0 E0 s₂) E0 s':=by
 obtain⟨RX,I',W',ew⟩:=h
 cases n with
 |zero=>exact False.elim ew
 |succ n =>
  obtain⟨an,ew⟩:=ew
  refine ht.run ew R I' W' fun v J2 a2 h=>?_
  obtain⟨c,hc,h1,h2⟩:=hV h
  refine⟨c,hc,fun O2 s2 R2 I2=>?_⟩
  have W2:=W'.keeps R2
  have RX2:=RX.trans R2.x
  cases c with
  |false=>exact(h2 rfl).elim fun _ hk=>wpAny_execs_nil (hE _ _ _ _ hk RX2 I2 W2).1
  |true =>
   refine(h1 rfl).elim fun a3 h1=>hb.run h1 R I2 W2 fun f l2 J4 a4 ew O3 s3 fl3 R3 I3 W3 hf=>?_
   have RX3:=RX2.trans R3
   cases f with
   |next=>cases vK hf;exact hG n _ _ (Nat.lt_succ_self _) (.mk RX3 I3 W3 ew) (.inl rfl)
   |cont=>cases vL hf;exact hG n _ _ (Nat.lt_succ_self _) (.mk RX3 I3 W3 ew) (.inr rfl)
   |brk=>cases Aj hf;exact(hE _ _ _ _ ew RX3 I3 W3).2
   |ret v =>
    obtain⟨val,rfl,hv⟩:=hf
    exact hR _ _ _ _ _ _ ew RX3 I3 W3 hv
theorem EW{t:Expr}{b:List Stmt}{p:Pos}(ht:fq C T mt cs d t)(hb:fz C T mt cs d b):ig C T mt cs d (.While t b [] p):=by
 refine⟨fun{A L env loc J a k O s Q E} e1 R I W P=>?_⟩
 obtain⟨fl,loc',J',a',e1,hk⟩:=BP e1
 have P:=P _ _ _ _ hk
 refine wpAny_While (codeAny_whileLoop (B5 C L O s env (gJ (bj T mt cs t) (runSs T mt cs b) (fun f' l' s'=>f'=fl/\l'=loc'/\s'=J'))) (fun n s' h=>Al ht hb R h ?_ ?_ ?_) qP (.mk (.refl _ _ _) I W e1))
 . rintro s1 O1 l J ⟨rfl,rfl,rfl⟩ X I W
   exact⟨P _ _ .next X I W rfl,P _ _ .next X I W rfl⟩
 . rintro s1 O1 l J v val ⟨rfl,rfl,rfl⟩ X I W hv
   exact P _ _ _ X I W ⟨val,rfl,hv⟩
 . rintro m s1 f hm h (rfl | rfl)
   .exact⟨m,hm,h⟩
   .exact⟨m,hm,h⟩
noncomputable def oneArg(X:V->Prop):List V->List (Str×V)->Prop
 |[v],[]=>X v
 |_,_=>False
theorem Am{X:V->Prop}:∀ {vs:List V}{kw:List (Str×V)},oneArg X vs kw->∃v,vs=[v]/\kw=[]/\X v
 |[v],[],h=>⟨v,rfl,rfl,h⟩
 |[],_,h=>h.elim
 |_::_::_,_,h=>h.elim
 |[_],_::_,h=>h.elim
theorem CZ{g:V}(h:u5 g=true):g=.ty "enumerate":=by
 cases g with
 |ty n=>exact PI V.ty (P4.mp h)
 |_=>cases h
noncomputable def HR(T:Tab)(mt:Pos->Bool)(cs:aD)(e:Expr):Prop:=∀loc J a k,BE T mt cs e loc J a k=bj T mt cs e loc J a fun w J a=>zx (jx J w) a fun it a=>k it J a
theorem Ao(T:Tab)(mt:Pos->Bool)(cs:aD)(e:Expr):(∃f p e1 pos,e=.Call (.Name f p) [e1] [] pos)\/HR T mt cs e:=by
 cases e with
 |Call f args kws pos =>
  cases f with
  |Name x p =>
   rcases args with _ | ⟨a,_ | ⟨b,args⟩⟩
   .exact .inr fun _ _ _ _=>rfl
   . cases kws with
     |nil=>exact .inl ⟨_,_,_,_,rfl⟩
     |cons _ _=>exact .inr fun _ _ _ _=>rfl
   .exact .inr fun _ _ _ _=>rfl
  |_=>exact .inr fun _ _ _ _=>rfl
 |_=>exact .inr fun _ _ _ _=>rfl
noncomputable def yf(C:Ctx)(k:It->Hp->An->Prop)(L:List Addr)(env:Env)(loc:Loc)(O:Map)(s:Shared)(Q:Value->Shared->Prop):Prop :=
 ∀it J1 a1,k it J1 a1->∀O1 s1 s2 Ia Ja,al O O1 s s1->aK C L O1 env loc s1.heap->al O1 O1 s1 s2->ap C O1 J1 s2.heap->dY C O1 s2.heap it 0 Ia Ja->s1.heap.get? Ia=none->s1.heap.get? Ja=none->Off C O1 s2.heap Ia->Off C O1 s2.heap Ja->Q (.ref Ia) s2
theorem C0(K:aT C)(TO:cp C T)(CS:ie C cs d){f:Str}{p pos:Pos}{e1:Expr}(hL:cJ C T mt cs d [e1])
 {A:Around}{L:List Addr}{env:Env}{loc:Loc}{J:Hp}{a:An}{k:It->Hp->An->Prop}{O:Map}{s:Shared}{Q:Value->Shared->Prop}{E:Value->Shared->Prop}
 (e0:BE T mt cs (.Call (.Name f p) [e1] [] pos) loc J a k) (R:c9 A d) (I:ap C O J s.heap) (W:aK C L O env loc s.heap) (P:yf C k L env loc O s Q) :
 wpAny (M C) A (do callWith pos (<- eval (.Name f p) env) [] (backTo pos (starEach [e1] env)) (backToKw pos (keywordEach [] env))) (fun x s₁=>wpAny (M C) A (pyIter x) Q E s₁) E s:=by
 obtain⟨pa,e0⟩:=e0
 obtain⟨g,hg,e0⟩:=mD (P:=fun g=>bj T mt cs e1 loc J a fun v J a=>(match u5 g with
  |true=>(ba J v).isSome=true/\k (.enm v) J a
  |false=>to cs (mt pos) g [v] [] J a fun w J a=>zx (jx J w) a fun it a=>k it J a)) e0
 refine PE (vq K TO I W hg fun vf rf=>?_)
 have pa:[e1].all eV=true:=by show(eV e1&&true)=true;rw[pa];rfl
 cases hen:u5 g with
 |true =>
  rw[hen]at e0
  have rf:ac C O (.ty "enumerate") vf:=CZ hen▸rf
  simp only[ac]at rf
  subst rf
  refine mF (a:=a) (k:=fun vs kw J a=>oneArg (fun v=>(ba J v).isSome=true/\k (.enm v) J a) vs kw) K hL vD pa rfl e0 (xZ _) R I W fun as kw J1 a1 h1 O1 s1 vs kwp R1 I1 W1 ra rk=>?_
  obtain⟨v,rfl,rfl,hx,hk⟩:=Am h1
  cases rk
  cases ra with | cons r1 r2 =>
  cases r2
  obtain⟨xs,hx⟩:=Option.isSome_iff_exists.mp hx
  exact HC I1 hx r1 fun s2 Ia Ja R2 I2 t2 n1 n2 μ1 μ2 self=>self s2 _ _ t2 (P _ _ _ hk O1 s1 s2 Ia Ja R1 W1 R2 I2 t2 n1 n2 μ1 μ2)
 |false =>
  rw[hen]at e0
  have hcal:Ac g:=by
   obtain⟨vs,_,_,h⟩:=hL.adE (k:=fun vs J a=>oneArg (fun v=>to cs (mt pos) g [v] [] J a fun w J a=>zx (jx J w) a fun it a=>k it J a) vs []) e0
   obtain⟨v,rfl,_,h⟩:=Am h
   exact pY h
  refine mF (a:=a) (k:=fun vs kw J a=>oneArg (fun v=>to cs (mt pos) g [v] [] J a fun w J a=>zx (jx J w) a fun it a=>k it J a) vs kw) K hL vD pa rfl e0 (BW TO rf hcal) R I W fun as kw J1 a1 h1 O1 s1 vs kwp R1 I1 W1 ra rk=>?_
  obtain⟨v,rfl,rfl,h1⟩:=Am h1
  refine BV K TO CS h1 (ac.mono R1.le _ rf) R I1 ra rk fun w J2 a2 h2 O2 s2 x R2 I2 r2=>?_
  obtain⟨it,a3,hi,hk⟩:=BO h2
  exact vz I2 hi r2 fun s3 Ia Ja R3 I3 t3 n1 n2 μ1 μ2 _=>P _ _ _ hk O2 s2 s3 Ia Ja (R1.trans R2) (W1.keeps R2) R3 I3 t3 n1 n2 μ1 μ2
theorem EY(K:aT C)(TO:cp C T)(CS:ie C cs d){e:Expr}(h:aE C T mt cs d e)(hl:∀f p e1 pos,e=.Call (.Name f p) [e1] [] pos->cJ C T mt cs d [e1])
 {A:Around}{L:List Addr}{env:Env}{loc:Loc}{J:Hp}{a:An}{k:It->Hp->An->Prop}{O:Map}{s:Shared}{Q:Value->Shared->Prop}{E:Value->Shared->Prop}
 (e0:BE T mt cs e loc J a k) (R:c9 A d) (I:ap C O J s.heap) (W:aK C L O env loc s.heap) (P:yf C k L env loc O s Q) :
 wpAny (M C) A (eval e env) (fun x s₁=>wpAny (M C) A (pyIter x) Q E s₁) E s/\∀x,foldedSetIterable e env x=pure x:=by
 rcases Ao T mt cs e with⟨f,p,e1,pos,rfl⟩ | hg
 .exact⟨C0 K TO CS (hl f p e1 pos rfl) e0 R I W P,fun _=>rfl⟩
 . rw[hg]at e0
   refine⟨h.run e0 R I W fun v J1 a1 h1 O1 s1 x R1 I1 r1=>?_,uG e0 env⟩
   obtain⟨it,a2,hi,hk⟩:=BO h1
   exact vz I1 hi r1 fun s2 Ia Ja R2 I2 t2 n1 n2 μ1 μ2 _=>P _ _ _ hk O1 s1 s2 Ia Ja R1 (W.keeps R1) R2 I2 t2 n1 n2 μ1 μ2
structure EZ(C:Ctx)(L:List Addr)(it:It)(Ia Ja:Addr)(O0:Map)(s0:Shared)(j:Nat)(O:Map)(s:Shared):Prop where
 x:bC L O0 O s0 s
 t:dY C O s.heap it j Ia Ja
 oi:Off C O s.heap Ia
 oj:Off C O s.heap Ja
inductive vN(C:Ctx)(L:List Addr)(it:It)(N:Nat)(Ia Ja:Addr)(O0:Map)(s0:Shared)(env:Env)(F:Nat->Loc->Hp->Prop)(n:Nat)(s:Shared):Prop where
 |mk {O:Map}{l:Loc}{J:Hp} (hn:n<=N) (S:EZ C L it Ia Ja O0 s0 (N-n) O s) (I:ap C O J s.heap) (W:aK C L O env l s.heap) (e:F n l J):vN C L it N Ia Ja O0 s0 env F n s
theorem EZ.more{L:List Addr}{it:It}{Ia Ja:Addr}{O0 O O2:Map}{s0 s s2:Shared}{j:Nat}(S:EZ C L it Ia Ja O0 s0 j O s)(R:bC L O O2 s s2)(hI:Ia∉L)(hJ:Ja∉L):EZ C L it Ia Ja O0 s0 j O2 s2 :=
 ⟨S.x.trans R,S.t.keeps R S.oi S.oj hI hJ,S.oi.keeps R,S.oj.keeps R⟩
theorem E1{t:Expr}{b:List Stmt}(ht:d9 C T mt cs d t)(hb:fz C T mt cs d b){A:Around}{L:List Addr}{env:Env}{O:Map}{s s':Shared}{it:It}{N:Nat}{Ia Ja:Addr}{kk:Fl->Loc->Hp->Prop}{E0:Value->Shared->Prop}{G R0:Flow->Shared->Prop}{n:Nat}(R:c9 A d)
 (htgt:pM t it=true) (n1:s.heap.get? Ia=none) (n2:s.heap.get? Ja=none) (iaL:Ia∉L) (jaL:Ja∉L) (cne:∀x c,env.cells.lookup x=some c->c≠Ia/\c≠Ja)
 (h:vN C L it N Ia Ja O s env (hU (runA T mt cs t) (runSs T mt cs b) it N kk) n s')
 (hE:∀s1 O1 l J,kk .next l J->bC L O O1 s s1->ap C O1 J s1.heap->aK C L O1 env l s1.heap->R0 .next s1/\G .brk s1)
 (hR:∀s1 O1 l J v val,kk (.ret v) l J->bC L O O1 s s1->ap C O1 J s1.heap->aK C L O1 env l s1.heap->ac C O1 v val->G (.ret val) s1)
 (hG:∀m s1 f,m<n->vN C L it N Ia Ja O s env (hU (runA T mt cs t) (runSs T mt cs b) it N kk) m s1->f=.next\/f=.cont->G f s1) :
 wpAny (M C) A (pyNext (.ref Ia)) (fun r s₁=>match r with
  |none=>wpAny (M C) A (execs [] env) R0 E0 s₁
  |some v=>wpAny (M C) A (letOwnedTupleGo t (.ref Ia) v) (fun _ s₁'=>wpAny (M C) A (assign t env v) (fun _ s₂=>wpAny (M C) A (execs b env) G E0 s₂) E0 s₁') E0 s₁) E0 s':=by
 obtain⟨hn,S,I',W',el⟩:=h
 cases n with
 |zero=>exact xU (it:=it) R.handled I' S.t S.oi S.oj el.1 (Nat.sub_zero N) fun s'' X I''=>wpAny_execs_nil (hE _ _ _ _ el.2 (S.x.step X n1 n2) I'' (W'.step X iaL jaL cne)).1
 |succ n =>
  obtain⟨clen,v,an,ev,ea⟩:=el
  refine uD (it:=it) (N:=N) I' S.t S.oi S.oj clen (by omega) ev htgt fun μa sa val Xa Ia' ta OIa OJa rv=>?_
  have Sa:EZ C L it Ia Ja O s (N-(n+1)+1) μa sa:=⟨S.x.step Xa n1 n2,ta,OIa,OJa⟩
  have hidx:N-(n+1)+1=N-n:=by lia
  rw[hidx]at Sa
  refine ht.run ea rv R Ia' (W'.step Xa iaL jaL cne) fun la σa a3 eb μb sb RXb Ib Wb=>?_
  have Sb:=Sa.more RXb iaL jaL
  refine hb.run eb R Ib Wb fun f lb σb a4 el μc sc fc RXc Ic Wc hf=>?_
  have Sc:=Sb.more RXc iaL jaL
  cases f with
  |next=>cases vK hf;exact hG n _ _ (Nat.lt_succ_self _) (.mk (Nat.le_of_succ_le hn) Sc Ic Wc el) (.inl rfl)
  |cont=>cases vL hf;exact hG n _ _ (Nat.lt_succ_self _) (.mk (Nat.le_of_succ_le hn) Sc Ic Wc el) (.inr rfl)
  |brk=>cases Aj hf;exact(hE _ _ _ _ el Sc.x Ic Wc).2
  |ret v =>
   obtain⟨val,rfl,hv⟩:=hf
   exact hR _ _ _ _ _ _ el Sc.x Ic Wc hv
theorem KY(K:aT C)(TO:cp C T)(CS:ie C cs d){t it:Expr}{b:List Stmt}{p:Pos}(hi:aE C T mt cs d it)(hl:∀f p e1 pos,it=.Call (.Name f p) [e1] [] pos->cJ C T mt cs d [e1])(ht:d9 C T mt cs d t)(hb:fz C T mt cs d b):ig C T mt cs d (.For t it b [] p):=by
 refine⟨fun{A L env loc J a k O s Q E} e0 R I W P=>?_⟩
 have RUN:=fun{Q:Value->Shared->Prop}{E:Value->Shared->Prop} P=>EY (Q:=Q) (E:=E) K TO CS hi hl e0 R I W P
 refine wpAny_For (RUN (Q:=fun it' s₂=>codeAny (M C) A (.forLoop t it' b [] env) (fun r s'=>match r with | .ok f=>Q f s' | .error e=>cameBackBy (M C) A env E e s') s₂) (E:=E) ?_).1 (RUN (Q:=fun _ _=>True) (E:=E) fun _ _ _ _ _ _ _ _ _ _ _ _ _ _ _ _ _ _=>trivial).2
 intro iter J1 a1 h1 O1 s1 s2 Ia Ja R1 W1 R2 I2 t2 n1 n2 μ1 μ2
 obtain⟨fl,loc',J',a2,⟨N,hN,htgt,e1⟩,hk⟩:=BP h1
 have P:=P _ _ _ _ hk
 have ex1:∀ {a x:Addr},s1.heap.get? x=none->(∃o,s1.heap.get? a=some o)->a≠x:=fun{a x} h ⟨o,e⟩ q=>by rw[q,h]at e;cases e
 refine codeAny_forLoop_any (vN C L iter N Ia Ja O1 s1 env (hU (runA T mt cs t) (runSs T mt cs b) iter N (fun f' l' s'=>f'=fl/\l'=loc'/\s'=J')))
  (fun n s' h=>E1 ht hb R htgt n1 n2 (fun q=>ex1 n1 (W1.here _ q) rfl) (fun q=>ex1 n2 (W1.here _ q) rfl) (fun x c hx=>⟨ex1 n1 (W1.cells x c hx).2,ex1 n2 (W1.cells x c hx).2⟩) h ?_ ?_ ?_) N
  (.mk (PS _) ⟨R2.x,by rw[Nat.sub_self];exact t2,μ1,μ2⟩ I2 (W1.keeps R2) e1)
 . rintro s3 O3 l J ⟨rfl,rfl,rfl⟩ X I W
   exact⟨P _ _ .next (R1.x.trans X) I W rfl,P _ _ .next (R1.x.trans X) I W rfl⟩
 . rintro s3 O3 l J v val ⟨rfl,rfl,rfl⟩ X I W hv
   exact P _ _ _ (R1.x.trans X) I W ⟨val,rfl,hv⟩
 . rintro m s3 f hm h (rfl | rfl)
   .exact⟨m,hm,h⟩
   .exact⟨m,hm,h⟩
end
section
variable{C:Ctx}{T:Tab}{mt:Pos->Bool}{cs:aD}{d:Nat}
theorem jW:∀ {loc l1 l2:Loc}{x y:Str}{v w:V},loc.put x v=some l1->l1.put y w=some l2->x≠y->∃l3,loc.put y w=some l3/\l3.put x v=some l2
 |[],_,_,_,_,_,_,h,_,_=>by simp[Loc.put]at h
 |(z,sl)::r,l1,l2,x,y,v,w,h,k,ne=>by
  by_cases hx:x=z
  . subst hx
    have hy:(y==x)=false:=PC.mpr (Ne.symm ne)
    have fin:∀s1,(Loc.put ((x,sl)::r) x v=some ((x,s1)::r))->(∀r',Loc.put ((x,sl)::r') x v=some ((x,s1)::r'))->∃l3,Loc.put ((x,sl)::r) y w=some l3/\l3.put x v=some l2:=fun s1 e1 e2=>by
     rw[h]at e1;cases e1
     unfold Loc.put at k
     rw[hy,if_neg Qc]at k
     refine ae (P9.mp k) ?_;rintro r' hr rfl
     refine⟨(x,sl)::r',?_,e2 r'⟩
     unfold Loc.put
     rw[hy,if_neg Qc,hr];rfl
    have un:∀r',Loc.put ((x,sl)::r') x v=(match(generalizing:=false) sl with | .v _=>some ((x,.v (some v))::r') | .cv _=>some ((x,.cv (some v))::r') | _=>Option.none):=fun r'=>by
     unfold Loc.put;rw[P2,if_pos rfl];try (cases sl <;> rfl)
    cases sl with
    |v _=>exact fin _ (un r) un
    |cv _=>exact fin _ (un r) un
    |_=>rw[un]at h;cases h
  . have hx':(x==z)=false:=PC.mpr hx
    have h0:=h
    unfold Loc.put at h
    rw[hx',if_neg Qc]at h
    refine ae (P9.mp h) ?_;rintro r1 hr1 rfl
    by_cases hy:y=z
    . subst hy
      have un:∀r',Loc.put ((y,sl)::r') y w=(match(generalizing:=false) sl with | .v _=>some ((y,.v (some w))::r') | .cv _=>some ((y,.cv (some w))::r') | _=>Option.none):=fun r'=>by
       unfold Loc.put;rw[P2,if_pos rfl];try (cases sl <;> rfl)
      have fin:∀s1,l2=(y,s1)::r1->Loc.put ((y,sl)::r) y w=some ((y,s1)::r)->∃l3,Loc.put ((y,sl)::r) y w=some l3/\l3.put x v=some l2:=by
       rintro s1 rfl e2
       refine⟨_,e2,?_⟩
       unfold Loc.put
       rw[hx',if_neg Qc,hr1];rfl
      rw[un]at k
      have e2:=un r
      cases sl with
      |v _=>cases k;exact fin _ rfl e2
      |cv _=>cases k;exact fin _ rfl e2
      |_=>cases k
    . have hy':(y==z)=false:=PC.mpr hy
      unfold Loc.put at k
      rw[hy',if_neg Qc]at k
      refine ae (P9.mp k) ?_;rintro r2 hr2 rfl
      refine ae (jW hr1 hr2 ne) ?_;rintro r3 h3 h4
      refine⟨(z,sl)::r3,?_,?_⟩
      . unfold Loc.put
        rw[hy',if_neg Qc,h3];rfl
      . unfold Loc.put
        rw[hx',if_neg Qc,h4];rfl
theorem E2{e t:Expr}{line:Nat}{env:Env}{loc:Loc}{J:Hp}{a:An}{k:KQ}(h:bj T mt cs e loc J a k):
 swapsWithSole [t] e line env=pure false\/(swapsWithSole [t] e line env=pure true/\∃elt gens scope q x px,e=.ListComp elt gens scope q/\t=.Name x px):=by
 cases e with
 |ListComp elt gens scope q =>
  cases t with
  |Name x px =>
   have:swapsWithSole [.Name x px] (.ListComp elt gens scope q) line env=pure (env.blockKind==.function&&env.kindOf x==some .local&&px.line==(Expr.ListComp elt gens scope q).pos.line
    && !(scope.names.any fun(n,k)=>n==x&&(k==.local||k==.cell))):=rfl
   cases hb:(env.blockKind==.function&&env.kindOf x==some .local&&px.line==(Expr.ListComp elt gens scope q).pos.line
    && !(scope.names.any fun(n,k)=>n==x&&(k==.local||k==.cell)))with
   |true=>exact .inr ⟨by rw[this,hb],elt,gens,scope,q,x,px,rfl,rfl⟩
   |false=>exact .inl (by rw[this,hb])
  |_=>exact .inl rfl
 |SetComp _ _ _ _=>exact False.elim h
 |DictComp _ _ _ _ _=>exact False.elim h
 |_=>exact .inl rfl
theorem Ap{t:Expr}{v:V}{loc:Loc}{J:Hp}{a:An}{k:KL}(h:runA T mt cs t v loc J a k)(env:Env):(assignEach [t] env).map (·.2)=[assign t env]:=by
 cases t <;> first | rfl | exact False.elim h
theorem yg{f:Expr->Option Str}:∀ {ts:List Expr},(ts.filterMap f).length=ts.length->∀t∈ts,∃x,f t=some x
 |[],_,_,h=>(nomatch h)
 |t::ts,e,x,hx=>by
  cases q:f t with
  |none =>
   rw[List.filterMap_cons_none q]at e
   have:=List.length_filterMap_le f ts
   simp at e;lia
  |some y =>
   rw[List.filterMap_cons_some q]at e
   rcases PZ.mp hx with rfl | hx
   .exact⟨y,q⟩
   .exact yg (by simpa using e) x hx
theorem B6{f:Expr->Option Str}:∀ {ts:List Expr},(ts.filterMap f).length=ts.length->ts.map f=(ts.filterMap f).map some
 |[],_=>rfl
 |t::ts,e=>by
  obtain⟨x,hx⟩:=yg e t (.head _)
  rw[List.filterMap_cons_some hx]at e ⊢
  rw[List.map_cons,List.map_cons,hx,B6 (by simpa using e)]
theorem yh{ts:List Expr}{f:Expr->Option Str}(h1:ts.length=2\/ts.length=3)(h2:(ts.filterMap f).length=ts.length)(h3:(ts.filterMap f).eraseDups.length=(ts.filterMap f).length)(hf:∀t x,f t=some x->∃q,t=.Name x q):
 ((ts.filterMap f).length=2\/(ts.filterMap f).length=3)/\(ts.filterMap f).Nodup/\(ts.filterMap f).length=ts.length/\(∀(i:Nat) x,(ts.filterMap f)[i]?=some x->∃q,ts[i]?=some (.Name x q)):=by
 have hl:(ts.filterMap f).length=2\/(ts.filterMap f).length=3:=by rw[h2];exact h1
 refine⟨hl,?_,h2,fun i x hx=>?_⟩
 . generalize ts.filterMap f=ns at hl h3
   rcases ns with _ | ⟨a,_ | ⟨b,_ | ⟨c,_ | ⟨e,ns⟩⟩⟩⟩
   .simp at hl
   .simp at hl
   . have:a≠b:=by
      rintro rfl
      simp[List.eraseDups_cons]at h3
     simp[this]
   . have g1:a≠b:=by
      rintro rfl
      simp only[List.eraseDups_cons,List.filter_cons,P2,Bool.not_true,Bool.false_eq_true,if_false,List.filter_nil]at h3
      split at h3 <;> simp[List.eraseDups_cons]at h3
     have g2:a≠c:=by
      rintro rfl
      simp only[List.eraseDups_cons,List.filter_cons,P2,Bool.not_true,Bool.false_eq_true,if_false,List.filter_nil]at h3
      split at h3 <;> simp[List.eraseDups_cons]at h3
     have g3:b≠c:=by
      rintro rfl
      have e1:(!(b==a))=true:=by simpa using Ne.symm g1
      simp[List.eraseDups_cons,Ne.symm g1]at h3
     simp[g1,g2,g3]
   .simp at hl
 . have:=B6 h2
   have e:=PI (fun l=>l[i]?) this
   simp only[PQ,hx,Option.map_some]at e
   refine ae (P9.mp e) ?_;rintro t ht e
   obtain⟨q,rfl⟩:=hf t x e
   exact⟨q,ht⟩
noncomputable def B7(t e:Expr)(env:Env)(r:Sem (Option (List Str))):Prop:=r=pure none\/∃ts k p vs k' p' names,t=.Tuple ts k p/\e=.Tuple vs k' p'/\r=pure (some names)/\(names.length=2\/names.length=3)/\names.Nodup /\
 names.length=ts.length/\(∀(i:Nat) x,names[i]?=some x->∃q,ts[i]?=some (.Name x q))
theorem HS{α:Type}{x y z:α}{P:α->Prop}{c1 c2 c3 c4 c5:Bool}(h0:P x)(h5:c5=true->c4=true)(h:c1=false->c3=false->P y):P (if c1 then x else if c2 then x else if c3 then x else if c4 then x else if c5 then z else y):=by
 cases c1
 . cases c2
   . cases c3
     . cases c4
       . cases c5
         .exact h rfl rfl
         .exact absurd (h5 rfl) Qc
       .exact h0
     .exact h0
   .exact h0
 .exact h0
theorem Aq{t e:Expr}{env:Env}(ht:Ej t e=true)(hl:∀ts p,t≠.List ts p):B7 t e env (swappedStores [t] e env):=by
 cases t with
 |Tuple ts k p =>
  cases e with
  |Tuple vs k' p' =>
   refine HS (P:=B7 (.Tuple ts k p) (.Tuple vs k' p') env) (c4:=vs.all (foldedForSure 8)) (c5:=vs.all (constantsAlone 8)) (.inl rfl) (fun h5=>?_) fun h1 h3=>.inr ⟨ts,k,p,vs,k',p',_,rfl,rfl,rfl,?_⟩
   . have ht:(vs.all (foldedForSure 8) || !(vs.all (constantsAlone 8)))=true:=ht
     rw[h5]at ht
     cases q:vs.all (foldedForSure 8)with
     |true=>rfl
     |false=>rw[q]at ht;cases ht
   . rw[Bool.or_eq_false_iff,Bool.or_eq_false_iff]at h1
     rw[Bool.or_eq_false_iff]at h3
     have l:=h1.1.1
     rw[Bool.not_eq_false',Bool.or_eq_true,P4,P4]at l
     refine yh l (bne_eq_false_iff_eq.mp h3.1) (bne_eq_false_iff_eq.mp h3.2) ?_
     intro t x hx
     cases t with
     |Name y q =>
      have hx:(if env.kindOf y==some .local&&q.line==(ts.head?.map (·.pos.line)).getD 0 then some y else none)=some x:=hx
      split at hx
      .cases hx;exact⟨q,rfl⟩
      .cases hx
     |_=>cases hx
  |_=>exact .inl rfl
 |List ts p=>exact absurd rfl (hl ts p)
 |_=>exact .inl rfl
noncomputable def jX:List Str->List V->Loc->Option Loc
 |[],[],loc=>some loc
 |x::xs,v::vs,loc=>(loc.put x v).bind (jX xs vs)
 |_,_,_=>none
theorem yi{A:Around}{L:List Addr}{env:Env}{E:Value->Shared->Prop}:∀ {xs:List Str}{vs:List V}{vals:List Value}{loc loc':Loc}{J:Hp}{O:Map}{s:Shared}{Q:Unit->Shared->Prop},
 jX xs vs loc=some loc'->ag (ac C O) vs vals->ap C O J s.heap->aK C L O env loc s.heap->lj C L O s J env loc' (Q ()) ->
 wpAny (M C) A (assignInOrder (xs.map fun n=>bindName env n) vals) Q E s
 |[],[],_,_,_,_,_,_,_,e,h,I,W,P=>by cases e;cases h;exact P3 (P _ _ (.refl _ _ _) I W)
 |x::xs,v::vs,_,_,_,_,_,_,_,e,h,I,W,P=>by
  cases h with | cons h1 h2 =>
  refine ae (PM.mp e) ?_;rintro l hl e
  refine PE (wpAny_holding (wpAny_bindName (z8 I W hl h1 fun O1 s1 R1 I1 W1=>?_)))
  exact yi e (cE R1.le h2) I1 W1 (P.afterX R1)
 |[],_::_,_,_,_,_,_,_,_,e,_,_,_,_=>by cases e
 |_::_,[],_,_,_,_,_,_,_,e,_,_,_,_=>by cases e
theorem C3{ts:List Expr}:∀ {names:List Str}{vs:List V}{loc loc':Loc},names.length=ts.length->(∀(i:Nat) x,names[i]?=some x->∃q,ts[i]?=some (.Name x q))->bZ ts vs loc=some loc'->jX names vs loc=some loc':=by
 induction ts with
 |nil =>
  intro names vs loc loc' hl hn e
  have:names=[]:=List.length_eq_zero_iff.mp hl
  subst this
  have:=fU e
  have:vs=[]:=List.length_eq_zero_iff.mp this.symm
  subst this
  exact e
 |cons t ts ih =>
  intro names vs loc loc' hl hn e
  have hv:=fU e
  cases vs with
  |nil=>cases hv
  |cons v vs =>
   cases names with
   |nil=>cases hl
   |cons n names =>
    refine bg (kI e) ?_;rintro x p l1 rfl h1 h2
    obtain⟨q,hq⟩:=hn 0 n rfl
    cases hq
    show(loc.put n v).bind (jX names vs)=_
    rw[h1]
    exact ih (by simpa using hl) (fun i x hx=>hn (i+1) x hx) h2
theorem Ar{names:List Str}{vs:List V}{loc loc':Loc}(hl:names.length=2\/names.length=3)(nd:names.Nodup)(e:jX names vs loc=some loc'):jX names.reverse vs.reverse loc=some loc':=by
 rcases names with _ | ⟨a,_ | ⟨b,_ | ⟨c,_ | ⟨x,ns⟩⟩⟩⟩
 .simp at hl
 .simp at hl
 . rcases vs with _ | ⟨v,_ | ⟨w,_ | ⟨u,vs⟩⟩⟩
   .cases e
   .refine ae (PM.mp e) ?_;rintro l _ e;cases e
   . refine ae (PM.mp e) ?_;rintro l1 e1 e
     refine ae (PM.mp e) ?_;rintro l2 e2 e
     cases e
     have ne:a≠b:=by simp at nd;exact nd
     refine ae (jW e1 e2 ne) ?_;rintro l3 h1 h2
     show(loc.put b w).bind (fun l=>(l.put a v).bind (jX [] []))=_
     rw[h1,Option.bind_some,h2];rfl
   . refine ae (PM.mp e) ?_;rintro l _ e
     refine ae (PM.mp e) ?_;rintro l _ e;cases e
 . rcases vs with _ | ⟨v,_ | ⟨w,_ | ⟨u,_ | ⟨y,vs⟩⟩⟩⟩
   .cases e
   .refine ae (PM.mp e) ?_;rintro l _ e;cases e
   . refine ae (PM.mp e) ?_;rintro l _ e
     refine ae (PM.mp e) ?_;rintro l _ e;cases e
   . refine ae (PM.mp e) ?_;rintro l1 e1 e
     refine ae (PM.mp e) ?_;rintro l2 e2 e
     refine ae (PM.mp e) ?_;rintro l3 e3 e
     cases e
     have ne:(a≠b/\a≠c)/\b≠c:=by
      simp at nd
      exact⟨⟨nd.1.1,nd.1.2⟩,nd.2⟩
     refine ae (jW e2 e3 ne.2) ?_;rintro m1 g1 g2
     refine ae (jW e1 g1 ne.1.2) ?_;rintro m2 g3 g4
     refine ae (jW g4 g2 ne.1.1) ?_;rintro m3 g5 g6
     show(loc.put c u).bind (fun l=>(l.put b w).bind (fun l=>(l.put a v).bind (jX [] [])))=_
     rw[g3,Option.bind_some,g5,Option.bind_some,g6];rfl
   . refine ae (PM.mp e) ?_;rintro l _ e
     refine ae (PM.mp e) ?_;rintro l _ e
     refine ae (PM.mp e) ?_;rintro l _ e;cases e
 .simp at hl
theorem vP{elt:Expr}{gens:List Comprehension}{scope:Scope}{q:Pos}{loc:Loc}{J:Hp}{a:An}{k:KQ}(h:bj T mt cs (.ListComp elt gens scope q) loc J a k):∃tgt iter ifs,gens=[⟨tgt,iter,ifs,0⟩]:=by
 rcases gens with _ | ⟨⟨tgt,iter,ifs,n⟩,_ | ⟨g2,gs⟩⟩
 .exact False.elim h
 .obtain⟨rfl,h⟩:=h;exact⟨_,_,_,rfl⟩
 .exact False.elim h
theorem yj(K:aT C){O O':Map}{J J':Hp}{s s₁:Shared}{D:Addr}{xs:List V}{vals:Array Value}{n:Nat}{h':Heap}{tk:Nat}{t:Bool}{r:V}(R:al O O' s s₁)(I:ap C O' J s₁.heap)(hD:s.heap.get? D=none)(μ:Off C O' s₁.heap D)(hl:D≠sysModules)
 (k:∀b x,b≠D->s₁.heap.get? b=some x->h'.get? b=some x) (ho:h'.get? D=some (listOf vals n)) (rl:ag (ac C O') xs vals.toList) (e:bw t xs J=(r,J')) :
 ∃O'',ap C O'' J' h'/\al O O'' s { s₁ with heap:=h',toks:=tk}/\ac C O'' r (.ref D)/\∀a,a≠D->Off C O' s₁.heap a->Off C O'' h' a:=by
 cases t with
 |true =>
  cases e
  obtain⟨h1,h2⟩:=jU (tk:=tk) K R I hD μ hl k ho (c:=.list xs) ⟨vals,n,rfl,rl⟩
  refine⟨_,h1,h2,by simp only[ac];exact⟨_,rfl,by rw[<- I.len];simp⟩,fun a ha Oa=>⟨fun q=>?_,Oa.Z,Oa.h₀,?_⟩⟩
  . rcases PY.mp q with q | q
    .exact Oa.am q
    .exact ha (PH.mp q)
  .obtain⟨o,e⟩:=Oa.here;exact⟨o,k a o ha e⟩
 |false =>
  cases e
  obtain⟨h1,h2⟩:=mG (tk:=tk) R I hD μ k ho
  refine⟨_,h1,h2,?_,fun a ha Oa=>⟨Oa.am,fun p hp=>?_,Oa.h₀,?_⟩⟩
  . simp only[ac]
    exact⟨_,vals,n,rfl,.head _,aL.mpr (cE ⟨⟨[],by simp⟩,fun p hp=>.tail _ hp⟩ rl)⟩
  . rcases PZ.mp hp with rfl | hp
    .exact Ne.symm ha
    .exact Oa.Z p hp
  .obtain⟨o,e⟩:=Oa.here;exact⟨o,k a o ha e⟩
structure HT(C:Ctx)(T:Tab)(mt:Pos->Bool)(cs:aD)(d:Nat)(e:Expr):Prop where
 of:∀elt tgt iter ifs scope q,e=.ListComp elt [⟨tgt,iter,ifs,0⟩] scope q->aE C T mt cs d elt/\BZ C T mt cs d ⟨tgt,iter,ifs,0⟩
theorem MD(K:aT C)(TO:cp C T)(CS:ie C cs d)(e:Expr):HT C T mt cs d e:=⟨fun elt tgt iter ifs scope q _=>⟨(ca K TO CS elt).eval,Kd K TO CS _⟩⟩
theorem C4(K:aT C)(TO:cp C T)(CS:ie C cs d){t e:Expr}{p:Pos}:ig C T mt cs d (.Assign [t] e p):=by
 have ht:=ca (mt:=mt) K TO CS t
 have he:=ca (mt:=mt) K TO CS e
 have hg:=MD (mt:=mt) K TO CS e
 refine⟨fun{A L env loc J a k O s Q E} e1 R I W P=>?_⟩
 obtain⟨htup,e1⟩:=e1
 have stores:(assignEach [t] env).map (·.2)=[assign t env]:=by
  refine bf (he.eval.ad e1) ?_;rintro _ _ _ h
  exact Ap h env
 have nolist:∀ts q,t≠.List ts q:=by
  rintro ts q rfl
  refine bf (he.eval.ad e1) ?_;rintro _ _ _ h
  exact h
 show wpAny _ _ (do
  standAt p
  if<-swapsWithSole [t] e p.line env then do
   evalThenUse e env fun v=>assignAll v ((assignEach [t] env).map (·.2))
   pure .next
  else do
   let v<-eval e env
   assignStores env v (<- swappedStores [t] e env) ((assignEach [t] env).map (·.2))) _ _ _
 rw[stores]
 refine PE (wpAny_standAt ?_)
 rcases E2 (t:=t) (line:=p.line) (env:=env) e1 with q | ⟨q,elt,gens,scope,pp,x,px,rfl,rfl⟩
 . rw[q]
   refine PE (P3 ?_)
   rw[if_neg Qc]
   refine PE (he.eval.run e1 R I W fun v J1 a1 h1 O1 s1 val R1 I1 r1=>?_)
   have W1:=W.keeps R1
   rcases Aq (env:=env) htup nolist with q | ⟨ts,k',p1,vs,k'',p',names,rfl,rfl,q,n1,n2,n3,n4⟩
   . rw[q]
     refine PE (P3 ?_)
     show wpAny _ _ (do assign t env val;pure Flow.next) _ _ _
     exact PE (ht.assign.run h1 r1 R I1 W1 fun l J2 a2 hk O2 s2 R2 I2 W2=>P3 (P _ _ _ _ hk _ _ .next (R1.x.trans R2) I2 W2 rfl))
   . rw[q]
     refine PE (P3 ?_)
     refine cQ (BY h1) ?_;rintro ws l2 rfl e5 hk
     simp only[ac]at r1
     refine bg (r1) ?_;rintro a vals n rfl m tl
     have tl:=aL.mp tl
     have pr:=Ar n1 n2 (C3 n3 n4 e5)
     have hsz:names.length=vals.size:=by rw[n3,fU e5];exact bJ tl
     show wpAny _ _ (do
      rule "assign.swapped-stores"
      let items<-unpackItems (.ref a) names.length none
      assignInOrder (names.reverse.map fun n=>bindName env n) items.reverse
      pure Flow.next) _ _ _
     rw[hsz]
     refine PE (wpAny_rule (PE (wpAny_unpackItems_tuple R.handled (cn I1 m) fun h' hx=>?_)))
     have k1:∀b x,s1.heap.get? b=some x->h'.get? b=some x:=fun b x hb=>hx b x (Nat.ne_of_lt (Heap.lt_size hb)) hb
     have R2:al O1 O1 s1 { s1 with heap:=h'}:=al.at (t:=s1.toks) k1
     exact PE (yi (s:={ s1 with heap:=h'}) pr tl.reverse (I1.at k1) (W1.keeps R2) fun O3 s3 R3 I3 W3=>P3 (P _ _ _ _ hk _ _ .next ((R1.trans R2).x.trans R3) I3 W3 rfl))
 . rw[q]
   refine PE (P3 ?_)
   rw[if_pos rfl]
   refine bf (vP e1) ?_;rintro tgt iter ifs rfl
   obtain⟨he1,hg1⟩:=hg.of _ _ _ _ _ _ rfl
   refine eW (e1) ?_;rintro _ hok e1
   show wpAny _ _ (do
    (do
     let _<-comprehension (.ListComp elt [⟨tgt,iter,ifs,0⟩] scope pp) scope env (firstIterPos [⟨tgt,iter,ifs,0⟩] pp) (newList []) false (eval iter env) (some fun v=>assignAll v [assign (.Name x px) env])
     pure ())
    pure Flow.next) _ _ _
   refine PE (PE (yc K hg1.iter.eval hg1.tgt.assign hg1.ifs he1 hok e1 R I W fun v J1 a1 hk=>?_))
   refine aU (iV hk) ?_;rintro xv J2 r ⟨it,N,h1,h2,h3⟩ hk
   refine⟨it,N,_,h1,h2,h3,fun acc' J3 hm O' s' D Cl X=>?_⟩
   refine bu (X.list) ?_;rintro vals k' hD rl
   obtain⟨m,hn⟩:=X.ns
   have aCl:∀a,(∃o,s.heap.get? a=some o)->a≠Cl:=fun a ⟨o,e⟩ q=>by rw[q,X.newC]at e;cases e
   show wpAny _ _ (assign (.Name x px) env (.ref D)) _ _ _
   refine iQ (yj (s₁:=s') (h':=s'.heap) (tk:=s'.toks) K X.reach X.inv X.newD X.offD X.low (fun b x _ e=>e) hD rl hm.2) ?_;rintro O2 I2 R2 r2 off2
   have R2:al O O2 s s':=R2
   have OC:Off C O2 s'.heap Cl:=off2 Cl (Ne.symm X.ne) X.offC
   have clL:Cl∉L:=fun q=>aCl _ (W.here _ q) rfl
   have cne:∀x c,env.cells.lookup x=some c->c≠Cl:=fun x c hx=>aCl _ (W.cells x c hx).2
   refine(ht.assign.run hk r2 R I2 (W.keeps R2) fun l J4 a4 hk O3 s3 R3 I3 W3=>?_)
   have OC3:=OC.keeps R3
   refine⟨m,rj hn fun o e=>R3.keep _ o OC.am clL e,fun h' hs=>P3 ?_⟩
   have S:jS Cl Cl O3 O3 s3 { s3 with heap:=h'}:=⟨rfl,fun _ h=>h,fun _ h=>.inl h,fun b o hb _ e=>(hs.2 b hb).trans e,⟨h',s3.toks,rfl⟩⟩
   exact P3 (P _ _ _ _ hk _ _ .next ((R2.x.trans R3).step S X.newC X.newC) (I3.step S OC3 OC3 fun p hp hm=>absurd hp hm) (W3.step S clL clL fun x c hx=>⟨cne x c hx,cne x c hx⟩) rfl)
theorem bN{st:Stmt}(h:∀loc J a k,KD T mt cs st loc J a k->False):ig C T mt cs d st:=⟨fun e=>(h _ _ _ _ e).elim⟩
theorem HU(K:aT C)(TO:cp C T)(CS:ie C cs d){t it:Expr}{b:List Stmt}{p:Pos}(hb:fz C T mt cs d b):ig C T mt cs d (.For t it b [] p) :=
 KY K TO CS (ca K TO CS it).eval (fun _ _ _ _ _=>listsOK K TO CS _) (ca K TO CS t).assign hb
mutual
theorem KZ(K:aT C)(TO:cp C T)(CS:ie C cs d):∀st:Stmt,ig C T mt cs d st
 |.Expr e p=>HQ (ca K TO CS e).eval
 |.Pass p=>⟨fun e R I W P=>wpAny_Pass (P _ _ _ _ e _ _ .next (.refl _ _ _) I W rfl)⟩
 |.Break p=>⟨fun e R I W P=>wpAny_Break (P _ _ _ _ e _ _ .brk (.refl _ _ _) I W rfl)⟩
 |.Continue p=>⟨fun e R I W P=>wpAny_Continue (P _ _ _ _ e _ _ .cont (.refl _ _ _) I W rfl)⟩
 |.Return none p=>⟨fun e R I W P=>wpAny_Return_none (P _ _ _ _ e _ _ (.ret .none) (.refl _ _ _) I W ⟨.none,rfl,by simp only[ac]⟩)⟩
 |.Return (some e) p=>CY (ca K TO CS e).eval
 |.Assign [t] e p=>C4 K TO CS
 |.Assign [] e p=>bN fun _ _ _ _ h=>h
 |.Assign (_::_::_) e p=>bN fun _ _ _ _ h=>h
 |.If t b o p=>MC (ca K TO CS t).test (execsOK K TO CS b) (execsOK K TO CS o)
 |.While t b [] p=>EW (ca K TO CS t).test (execsOK K TO CS b)
 |.While _ _ (_::_) _=>bN fun _ _ _ _ h=>h
 |.For t it b [] p=>HU K TO CS (execsOK K TO CS b)
 |.For _ _ _ (_::_) _=>bN fun _ _ _ _ h=>h
 |.FunctionDef .. => bN fun _ _ _ _ h=>h
 |.AsyncFunctionDef .. => bN fun _ _ _ _ h=>h
 |.ClassDef .. => bN fun _ _ _ _ h=>h
 |.Delete .. => bN fun _ _ _ _ h=>h
 |.TypeAlias .. => bN fun _ _ _ _ h=>h
 |.AugAssign .. => bN fun _ _ _ _ h=>h
 |.AnnAssign .. => bN fun _ _ _ _ h=>h
 |.AsyncFor .. => bN fun _ _ _ _ h=>h
 |.With .. => bN fun _ _ _ _ h=>h
 |.AsyncWith .. => bN fun _ _ _ _ h=>h
 |.Match .. => bN fun _ _ _ _ h=>h
 |.Raise .. => bN fun _ _ _ _ h=>h
 |.Try .. => bN fun _ _ _ _ h=>h
 |.TryStar .. => bN fun _ _ _ _ h=>h
 |.Assert .. => bN fun _ _ _ _ h=>h
 |.Import .. => bN fun _ _ _ _ h=>h
 |.ImportFrom .. => bN fun _ _ _ _ h=>h
 |.Global .. => bN fun _ _ _ _ h=>h
 |.Nonlocal .. => bN fun _ _ _ _ h=>h
theorem execsOK(K:aT C)(TO:cp C T)(CS:ie C cs d):∀ss:List Stmt,fz C T mt cs d ss
 |[]=>vM
 |st::ss=>tq (KZ K TO CS st) (execsOK K TO CS ss)
end
theorem ME(K:aT C)(TO:cp C T)(d:Nat):ie C (jO T mt d) d:=MA K TO (fun cs d CS ss=>execsOK K TO CS ss) d
theorem As(K:aT C)(TO:cp C T)(d:Nat)(ss:List Stmt):fz C T mt (jO T mt d) d ss:=execsOK K TO (ME K TO d) ss
end
noncomputable def fdO:Option Obj->FuncData
 |some ⟨_,_,.func fd,_⟩=>fd
 |_=>default
def aV(K:Frag)(a:Addr):FuncData:=fdO (K.lookup a)
noncomputable def bm(fd:FuncData)(shapes:List (Nat×List Str×List Src)):aA:=⟨fd.params.args.map (·.arg),shapes,fd.scope,match fd.body with | .stmts b=>b | _=>[]⟩
noncomputable def pZ:Value->Str
 |.str s _=>s
 |_=>""
noncomputable def Ke:Option Obj->List Str
 |some ⟨_,_,.seq vs _,_⟩=>vs.toList.map pZ
 |_=>[]
noncomputable def nU(K:Frag):Value->List Str
 |.ref a=>Ke (K.lookup a)
 |_=>[]
noncomputable def MF(K:Frag)(f:Value->V):Option Obj->V
 |some ⟨_,_,.seq vs _,_⟩=>.tup (vs.toList.map f)
 |some ⟨_,_,.dict es _,_⟩=>.jd (es.toList.map fun e=>(pZ e.key,nU K e.val))
 |_=>.none
noncomputable def vOf(K:Frag):Nat->Value->V
 |0,_=>.none
 |n+1,v=>match v with
  |.bool b=>.bool b
  |.int i _=>.int i
  |.str s _=>.str s
  |.ref a=>MF K (vOf K n) (K.lookup a)
  |_=>.none
def vAt(K:Frag)(x:Str):V:=match nsIn K mainGlobals x with
 |some (some v)=>vOf K 4 v
 |_=>.none
noncomputable def enF(c m:Str)(fd:aA):(Str×Str)×aA:=((c,m),fd)
noncomputable def enA(c m:Str)(a:Addr):(Str×Str)×Addr:=((c,m),a)
noncomputable def enC(c:Str)(as ms:List Str):Str×cF:=(c,⟨as,ms⟩)
noncomputable def enG(x:Str)(v:V):Str×V:=(x,v)
noncomputable def enK(x:Str)(a:Addr):Str×Addr:=(x,a)
noncomputable def pr:Program:=PySem.Challenge.rw_nt0061_01.row.toRowW.1
noncomputable def tI(i:Nat):Stmt:=(pr.main.body[i]?).getD (.Pass ⟨0,0,0,0⟩)
noncomputable def cB:Stmt->List Stmt
 |.ClassDef _ _ _ b .. => b
 |_=>[]
noncomputable def cI(i j:Nat):Stmt:=((cB (tI i))[j]?).getD (.Pass ⟨0,0,0,0⟩)
noncomputable def cS:Stmt->Scope
 |.ClassDef _ _ _ _ _ _ s .. => s
 |_=>pr.main.scope
noncomputable def fA:Stmt->Arguments
 |.FunctionDef _ a .. => a
 |_=>⟨[],[],none,[],[],none,[]⟩
noncomputable def fB:Stmt->List Stmt
 |.FunctionDef _ _ b .. => b
 |_=>[]
noncomputable def fS:Stmt->Scope
 |.FunctionDef _ _ _ _ _ _ s .. => s
 |_=>pr.main.scope
noncomputable def fP:Stmt->Pos
 |.FunctionDef _ _ _ _ _ _ _ _ _ p=>p
 |_=>⟨0,0,0,0⟩
noncomputable abbrev sO:String->Str:=Str.ofString
noncomputable abbrev vs(s:String)(n:Nat):Value:=.str (Str.ofString s) n
noncomputable abbrev vr(n:Nat):Value:=.ref n
noncomputable abbrev vt(s:String):Value:=.type s
noncomputable abbrev vi(i:Int)(n:Nat):Value:=.int i n
noncomputable abbrev de(P:Params)(s:String)(n:Nat)(v:Value):DictEntry:=⟨PyData.keyHash P (Str.ofString s),.str (Str.ofString s) n,v⟩
noncomputable abbrev dl(P:Params)(s:String)(n r:Nat):DictEntry:=de P s n (.ref r)
noncomputable abbrev oB(c:Value)(d:Data):Obj:=⟨c,none,d,List.toArray []⟩
noncomputable abbrev oT(l:List Value):Obj:=⟨.type "tuple",none,.seq (List.toArray l) 0,List.toArray []⟩
noncomputable abbrev PO:=Params->PySem.Obj
noncomputable abbrev TP:=Params->BT
noncomputable abbrev q(o:PO)(l r:TP):TP:=fun P=>.node (o P) (l P) (r P)
noncomputable abbrev e:TP:=fun _=>.nil
noncomputable abbrev f(o:PO):TP:=q o e e
noncomputable def hq0:PO:=fun _=>(oT [])
noncomputable def hq1:PO:=fun _=>(oB Value.none (Data.fields (List.toArray [])))
noncomputable def hq2(x0:String)(x1 x2 x3:Nat)(x4:Int)(x5 x6:Nat)(x7:Int)(x8:Nat):PO:=fun _=>(oB (vt "code") (Data.fields (List.toArray [(vs x0 x1),(vs x0 x2),(vs "/claim/cut.py" x3),(vi x4 0),(vi 0 0),(vi 0 0),(vi 0 0),(vi 0 0),(vr x5),(Value.bool Bool.false),(vi 181 0),(vr x6),Value.none,Value.none,Value.none,Value.none,(vi x7 0),(vi x4 0),(vs "/claim/cut.py" x8)])))
noncomputable def hq3(x0 x1:Nat)(x2:String)(x3:Nat):PO:=fun _=>(Obj.mk (vt "frame") none Data.plain (List.toArray [(Option.some (vr x0)),(Option.some (vr 3)),(Option.some (vr x1)),none,(Option.some (vs x2 x3)),none,(Option.some (vr 0))]))
noncomputable def hq4(x0:String)(x1 x2:Nat):PO:=fun _=>(oB Value.none (Data.func (FuncData.mk (sO x0) (sO x0) (fA (tI x1)) (FuncBody.stmts (fB (tI x2))) (fS (tI x2)) 0 [] Value.none Value.none Value.none Value.none none Value.none Value.none 0)))
noncomputable def hq5(x0:String)(x1:Nat)(x2:String)(x3 x4:Nat)(x5 x6:Int)(x7 x8 x9 x10 x11:Nat)(x12:Int)(x13:Nat):PO:=fun _=>(oB (vt "code") (Data.fields (List.toArray [(vs x0 x1),(vs x2 x3),(vs "/claim/cut.py" x4),(vi x5 0),(vi x6 0),(vi 0 0),(vi 0 0),(vi 3 0),(vr x7),(Value.bool Bool.true),(vi 181 0),(vr x8),Value.none,(vr x9),(vr x10),(vr x11),(vi x12 0),(vi x5 0),(vs "/claim/cut.py" x13)])))
noncomputable def hq6(x0:String)(x1 x2:Nat)(x3:String)(x4 x5:Nat):PO:=fun _=>(oB (vt "function") (Data.func (FuncData.mk (sO x0) (sO x0) (fA (tI x1)) (FuncBody.stmts (fB (tI x2))) (fS (tI x2)) 3 [] Value.none Value.none Value.none (vs x3 x4) none (vr x5) Value.none 0)))
noncomputable def hq7:PO:=fun _=>(oB (vt "builtin_function_or_method") (Data.fields (List.toArray [(Value.builtin "type.__prepare__"),(vt "type")])))
noncomputable def hq8(x0:String)(x1:Nat)(x2:String)(x3:Nat):PO:=fun _=>(oT [(vs x0 x1),(vs x2 x3)])
noncomputable def hq9(x0 x1:String)(x2 x3:Nat):PO:=fun _=>(oB Value.none (Data.func (FuncData.mk (sO x0) (sO x1) (fA (cI x2 x3)) (FuncBody.stmts (fB (cI x2 x3))) (fS (cI x2 x3)) 0 [] Value.none Value.none Value.none Value.none none Value.none Value.none 0)))
noncomputable def HV(x0 x1:String)(x2 x3 x4:Nat)(x5:String)(x6 x7:Nat):PO:=fun _=>(oB (vt "function") (Data.func (FuncData.mk (sO x0) (sO x1) (fA (cI x2 x3)) (FuncBody.stmts (fB (cI x2 x3))) (fS (cI x2 x3)) 3 [] (vr x4) Value.none Value.none (vs x5 x6) none (vr x7) Value.none 0)))
noncomputable def At(x0 x1:Nat):PO:=fun _=>(oB (vt "getset_descriptor") (Data.fields (List.toArray [(vs "__weakref__" x0),(vr x1),(Value.builtin "ExceptionGroup.__weakref__"),Value.none])))
noncomputable def yk(x0:Nat):PO:=fun _=>(oB (vt "super") (Data.fields (List.toArray [(vr x0),(vr x0),(vr x0)])))
noncomputable def yl(x0:Nat):PO:=fun _=>(oB (vt "builtin_function_or_method") (Data.fields (List.toArray [(Value.builtin "object.__init_subclass__"),(vr x0)])))
noncomputable def jY(x0:String)(x1:Nat)(x2:String)(x3:Nat)(x4:String)(x5:Nat)(x6:String)(x7:Nat):PO:=fun _=>(oT [(vs x0 x1),(vs x2 x3),(vs x4 x5),(vs x6 x7)])
noncomputable def C5(x0:String)(x1 x2 x3 x4:Nat):PO:=fun _=>(Obj.mk (vt "type") none (Data.cls (ClassData.mk (sO x0) [(vt "object")] [(vr x1),(vt "object")] x2 (sO x0) Bool.true [] [] Bool.false none Bool.false)) (List.toArray [none,none,(Option.some (vs x0 x3)),(Option.some (vs x0 x4)),(Option.some (Value.builtin "object.__new__")),(Option.some (Value.bool Bool.true))]))
noncomputable def C6(x0 x1:Nat):PO:=fun _=>(oB (vt "getset_descriptor") (Data.fields (List.toArray [(vs "__dict__" x0),(vr x1),(Value.builtin "function.__dict__"),(Value.builtin "function.__dict__#set")])))
noncomputable def iY(x0 x1:String)(x2 x3:Nat)(x4:String)(x5 x6:Nat):PO:=fun _=>(oB (vt "function") (Data.func (FuncData.mk (sO x0) (sO x1) (fA (cI x2 x3)) (FuncBody.stmts (fB (cI x2 x3))) (fS (cI x2 x3)) 3 [] Value.none Value.none Value.none (vs x4 x5) none (vr x6) Value.none 0)))
noncomputable def E3(x0:String)(x1:Nat)(x2:String)(x3 x4:Nat)(x5 x6:Int)(x7 x8 x9:Nat)(x10:Int)(x11:Nat):PO:=fun _=>(oB (vt "code") (Data.fields (List.toArray [(vs x0 x1),(vs x2 x3),(vs "/claim/cut.py" x4),(vi x5 0),(vi x6 0),(vi 0 0),(vi 0 0),(vi 3 0),(vr x7),(Value.bool Bool.true),(vi 181 0),(vr x8),Value.none,Value.none,Value.none,(vr x9),(vi x10 0),(vi x5 0),(vs "/claim/cut.py" x11)])))
def o45:=hq2 "<module>" 182 183 184 1 11 12 185 186
def o46:=hq3 13 3 "__main__" 164
noncomputable def o49:PO:=fun P=>(oB Value.none (Data.dict (List.toArray [(de P "type.__subclasses__.Exception.0" 223 (vi 39 0)),(de P "type.__subclasses__.Exception.n" 224 (vi 1 0))]) 2))
noncomputable def o50:PO:=fun P=>(oB (vt "dict") (Data.dict (List.toArray [(de P "__name__" 165 (vs "unicore.base" 194)),(de P "__doc__" 166 Value.none),(de P "__package__" 167 Value.none),(de P "__loader__" 168 (Value.builtin "__main__.__loader__#opaque")),(de P "__spec__" 169 Value.none),(dl P "__annotations__" 170 6),(dl P "__builtins__" 171 4),(de P "__file__" 173 (vs "/claim/cut.py" 172)),(de P "__cached__" 174 Value.none),(dl P "_wall" 193 21),(de P "MAX_CODE" 197 (vi 1114111 196)),(dl P "UniError" 226 39)]) 12))
noncomputable def o51:PO:=fun P=>(oB Value.none (Data.fields (List.toArray [(vi 1 0),(vi 0 0),(vr 20),(vi 6 0),(vi 0 0),(vr 27)])))
noncomputable def o54:PO:=fun P=>(oT [(vs "k" 190)])
def o56:=hq4 "_wall" 0 0
def o57:=hq5 "_wall" 187 "_wall" 188 189 1 1 15 16 17 18 19 191 192
def o58:=hq6 "_wall" 0 0 "__main__" 164 20
noncomputable def o59:PO:=fun P=>(oT [(vt "Exception")])
noncomputable def o61:PO:=fun P=>(oB (vt "dict") (Data.dict (List.toArray [(de P "__module__" 205 (vs "unicore.base" 194)),(de P "__qualname__" 207 (vs "UniError" 206)),(de P "__firstlineno__" 209 (vi 6 208)),(dl P "__init__" 217 36),(dl P "__static_attributes__" 219 37)]) 5))
noncomputable def o63:PO:=fun P=>(oB Value.none (Data.fields (List.toArray [(vi 8 0),(vi 4 0),(vr 35)])))
def o64:=hq2 "UniError" 200 201 202 6 25 26 203 204
def o65:=hq3 27 24 "unicore.base" 194
noncomputable def o66:PO:=fun P=>(oT [Value.none])
def o69:=hq8 "self" 213 "told" 214
def o71:=hq9 "__init__" "UniError.__init__" 3 0
def o72:=hq5 "__init__" 210 "UniError.__init__" 211 212 8 2 30 31 32 33 34 215 216
def o73:=HV "__init__" "UniError.__init__" 3 0 29 "unicore.base" 194 35
noncomputable def o74:PO:=fun P=>(oT [(vs "told" 218)])
noncomputable def o75:PO:=fun P=>(oB (vt "dict") (Data.dict (List.toArray [(de P "__module__" 205 (vs "unicore.base" 194)),(de P "__firstlineno__" 209 (vi 6 208)),(dl P "__init__" 217 36),(dl P "__static_attributes__" 219 37),(dl P "__weakref__" 221 40),(de P "__doc__" 222 Value.none)]) 3))
noncomputable def o76:PO:=fun P=>(Obj.mk (vt "type") none (Data.cls (ClassData.mk (sO "UniError") [(vt "Exception")] [(vr 39),(vt "Exception"),(vt "BaseException"),(vt "object")] 38 (sO "UniError") Bool.true [] [] Bool.false none Bool.false)) (List.toArray [(Option.some (vr 22)),none,(Option.some (vs "UniError" 198)),(Option.some (vs "UniError" 206)),(Option.some (Value.builtin "Exception.__new__")),(Option.some (Value.bool Bool.true))]))
def o77:=At 220 39
def o78:=yk 39
def o79:=yl 39
noncomputable def o80:PO:=fun P=>(oB (vt "dict") (Data.dict (List.toArray [(de P "__name__" 165 (vs "unicore.linebreaks" 254)),(de P "__doc__" 166 Value.none),(de P "__package__" 167 Value.none),(de P "__loader__" 168 (Value.builtin "__main__.__loader__#opaque")),(de P "__spec__" 169 Value.none),(dl P "__annotations__" 170 6),(dl P "__builtins__" 171 4),(de P "__file__" 173 (vs "/claim/cut.py" 172)),(de P "__cached__" 174 Value.none),(dl P "_wall" 193 21),(de P "MAX_CODE" 197 (vi 1114111 196)),(dl P "UniError" 226 39),(dl P "BadRule" 242 52),(dl P "place_by_half" 253 61),(dl P "LINE_HARD" 260 62),(dl P "LINE_BARE" 267 63),(dl P "LINE_MARKS" 270 64),(dl P "LINE_PLAIN" 274 65),(dl P "LINE_CLOSING" 280 66),(dl P "LINE_AHEAD_OF_OPENING" 290 67),(dl P "LINE_BEHIND_CLOSING" 305 68),(dl P "LINE_ALPHABETIC" 308 69),(dl P "LINE_IDEOGRAPHIC" 312 70)]) 23))
noncomputable def o81:PO:=fun P=>(oB Value.none (Data.fields (List.toArray [(vi 1 0),(vi 0 0),(vr 20),(vi 6 0),(vi 0 0),(vr 27),(vi 10 0),(vi 0 0),(vr 48),(vi 12 0),(vi 0 0),(vr 60)])))
noncomputable def o82:PO:=fun P=>(Obj.mk (vt "type") none (Data.cls (ClassData.mk (sO "UniError") [(vt "Exception")] [(vr 39),(vt "Exception"),(vt "BaseException"),(vt "object")] 38 (sO "UniError") Bool.true [] [(vr 52)] Bool.false none Bool.false)) (List.toArray [(Option.some (vr 22)),none,(Option.some (vs "UniError" 198)),(Option.some (vs "UniError" 206)),(Option.some (Value.builtin "Exception.__new__")),(Option.some (Value.bool Bool.true))]))
noncomputable def o83:PO:=fun P=>(oT [(vr 39)])
noncomputable def o85:PO:=fun P=>(oB (vt "dict") (Data.dict (List.toArray [(de P "__module__" 234 (vs "unicore.base" 194)),(de P "__qualname__" 236 (vs "BadRule" 235)),(de P "__firstlineno__" 238 (vi 10 237)),(dl P "__static_attributes__" 239 50)]) 4))
def o88:=hq2 "BadRule" 229 230 231 10 46 47 232 233
def o89:=hq3 48 45 "unicore.base" 194
noncomputable def o91:PO:=fun P=>(oB (vt "dict") (Data.dict (List.toArray [(de P "__module__" 234 (vs "unicore.base" 194)),(de P "__firstlineno__" 238 (vi 10 237)),(dl P "__static_attributes__" 239 50),(de P "__doc__" 240 Value.none)]) 2))
noncomputable def o92:PO:=fun P=>(Obj.mk (vt "type") none (Data.cls (ClassData.mk (sO "BadRule") [(vr 39)] [(vr 52),(vr 39),(vt "Exception"),(vt "BaseException"),(vt "object")] 51 (sO "BadRule") Bool.true [] [] Bool.false none Bool.false)) (List.toArray [(Option.some (vr 43)),none,(Option.some (vs "BadRule" 227)),(Option.some (vs "BadRule" 235)),(Option.some (Value.builtin "Exception.__new__")),(Option.some (Value.bool Bool.true))]))
def o93:=yk 52
def o94:=yl 52
noncomputable def o97:PO:=fun P=>(oT [(vs "firsts" 246),(vs "number" 247),(vs "low" 248),(vs "high" 249),(vs "middle" 250)])
def o99:=hq4 "place_by_half" 5 5
def mI:=hq5 "place_by_half" 243 "place_by_half" 244 245 12 2 55 56 57 58 59 251 252
def mJ:=hq6 "place_by_half" 5 5 "unicore.base" 194 60
def mK:=jY "BK" 256 "CR" 257 "LF" 258 "NL" 259
noncomputable def mL:PO:=fun P=>(oT [(vs "BK" 261),(vs "CR" 262),(vs "LF" 263),(vs "NL" 264),(vs "SP" 265),(vs "ZW" 266)])
def mO:=hq8 "CM" 268 "ZWJ" 269
noncomputable def mP:PO:=fun P=>(oT [(vs "AI" 271),(vs "SG" 272),(vs "XX" 273)])
noncomputable def mR:PO:=fun P=>(oT [(vs "CL" 275),(vs "CP" 276),(vs "EX" 277),(vs "IS" 278),(vs "SY" 279)])
noncomputable def mT:PO:=fun P=>(oT [(vs "BK" 281),(vs "CR" 282),(vs "LF" 283),(vs "NL" 284),(vs "OP" 285),(vs "QU" 286),(vs "GL" 287),(vs "SP" 288),(vs "ZW" 289)])
noncomputable def mV:PO:=fun P=>(oT [(vs "SP" 291),(vs "GL" 292),(vs "WJ" 293),(vs "CL" 294),(vs "QU" 295),(vs "CP" 296),(vs "EX" 297),(vs "IS" 298),(vs "SY" 299),(vs "BK" 300),(vs "CR" 301),(vs "LF" 302),(vs "NL" 303),(vs "ZW" 304)])
def mX:=hq8 "AL" 306 "HL" 307
noncomputable def mZ:PO:=fun P=>(oT [(vs "ID" 309),(vs "EB" 310),(vs "EM" 311)])
noncomputable def NZ:PO:=fun P=>(oB (vt "dict") (Data.dict (List.toArray [(de P "__name__" 165 (vs "unicore.linebreaks" 254)),(de P "__doc__" 166 Value.none),(de P "__package__" 167 Value.none),(de P "__loader__" 168 (Value.builtin "__main__.__loader__#opaque")),(de P "__spec__" 169 Value.none),(dl P "__annotations__" 170 6),(dl P "__builtins__" 171 4),(de P "__file__" 173 (vs "/claim/cut.py" 172)),(de P "__cached__" 174 Value.none),(dl P "_wall" 193 21),(de P "MAX_CODE" 197 (vi 1114111 196)),(dl P "UniError" 226 39),(dl P "BadRule" 242 52),(dl P "place_by_half" 253 61),(dl P "LINE_HARD" 260 62),(dl P "LINE_BARE" 267 63),(dl P "LINE_MARKS" 270 64),(dl P "LINE_PLAIN" 274 65),(dl P "LINE_CLOSING" 280 66),(dl P "LINE_AHEAD_OF_OPENING" 290 67),(dl P "LINE_BEHIND_CLOSING" 305 68),(dl P "LINE_ALPHABETIC" 308 69),(dl P "LINE_IDEOGRAPHIC" 312 70),(dl P "LINE_AFFIXES" 315 71),(dl P "LINE_SYLLABIC" 321 72),(dl P "LINE_INNER" 325 73),(dl P "LINE_WIDE" 329 74),(dl P "LINE_KEPT" 339 75),(dl P "LINE_NUMBERS" 368 90),(dl P "LINE_JAMO" 389 91),(dl P "LINE_ITERATION" 396 97),(dl P "LINE_JAMO_RANGES" 415 104),(de P "LINE_FIRST_SYLLABLE" 417 (vi 44032 416)),(de P "LINE_LAST_SYLLABLE" 419 (vi 55203 418)),(de P "LINE_TAILS" 421 (vi 28 420)),(de P "DOTTED_CIRCLE" 423 (vi 9676 422))]) 36))
def nV:=hq8 "PR" 313 "PO" 314
noncomputable def nW:PO:=fun P=>(oT [(vs "JL" 316),(vs "JV" 317),(vs "JT" 318),(vs "H2" 319),(vs "H3" 320)])
noncomputable def nX:PO:=fun P=>(oT [(vs "NU" 322),(vs "SY" 323),(vs "IS" 324)])
noncomputable def nY:PO:=fun P=>(oT [(vs "F" 326),(vs "W" 327),(vs "H" 328)])
noncomputable def nZ:PO:=fun P=>(oT [(vs "AL" 330),(vs "HL" 331),(vs "ID" 332),(vs "NU" 333),(vs "JL" 334),(vs "JV" 335),(vs "JT" 336),(vs "H2" 337),(vs "H3" 338)])
def oa:=hq8 "CL" 340 "PO" 341
def ob:=hq8 "CP" 342 "PO" 343
def oe:=hq8 "CL" 344 "PR" 345
def og:=hq8 "CP" 346 "PR" 347
def oh:=hq8 "NU" 348 "PO" 349
def ol:=hq8 "NU" 350 "PR" 351
def om:=hq8 "PO" 352 "OP" 353
def oo:=hq8 "PO" 354 "NU" 355
def oq:=hq8 "PR" 356 "OP" 357
def ot:=hq8 "PR" 358 "NU" 359
def ou:=hq8 "HY" 360 "NU" 361
def ow:=hq8 "IS" 362 "NU" 363
def ox:=hq8 "NU" 364 "NU" 365
def oy:=hq8 "SY" 366 "NU" 367
noncomputable def oz:PO:=fun P=>(oT [(vr 76),(vr 77),(vr 78),(vr 79),(vr 80),(vr 81),(vr 82),(vr 83),(vr 84),(vr 85),(vr 86),(vr 87),(vr 88),(vr 89)])
noncomputable def oA:PO:=fun P=>(oB (vt "dict") (Data.dict (List.toArray [(dl P "JL" 369 92),(dl P "JV" 374 93),(dl P "H2" 377 94),(dl P "JT" 380 95),(dl P "H3" 382 96)]) 5))
def oE:=jY "JL" 370 "JV" 371 "H2" 372 "H3" 373
def oF:=hq8 "JV" 375 "JT" 376
def oG:=hq8 "JV" 378 "JT" 379
noncomputable def oH:PO:=fun P=>(oT [(vs "JT" 381)])
noncomputable def oI:PO:=fun P=>(oT [(vs "JT" 383)])
noncomputable def oJ:PO:=fun P=>(oT [(vi 12293 390),(vi 12347 391),(vi 12445 392),(vi 12446 393),(vi 12541 394),(vi 12542 395)])
noncomputable def oK:PO:=fun P=>(oT [(vi 4352 397),(vi 4447 398),(vs "JL" 399)])
noncomputable def oL:PO:=fun P=>(oT [(vi 4448 400),(vi 4519 401),(vs "JV" 402)])
noncomputable def oM:PO:=fun P=>(oT [(vi 4520 403),(vi 4607 404),(vs "JT" 405)])
noncomputable def oN:PO:=fun P=>(oT [(vi 43360 406),(vi 43388 407),(vs "JL" 408)])
noncomputable def oO:PO:=fun P=>(oT [(vi 55216 409),(vi 55238 410),(vs "JV" 411)])
noncomputable def oP:PO:=fun P=>(oT [(vi 55243 412),(vi 55291 413),(vs "JT" 414)])
noncomputable def oQ:PO:=fun P=>(oT [(vr 98),(vr 99),(vr 100),(vr 101),(vr 102),(vr 103)])
noncomputable def N3:PO:=fun P=>(oB (vt "dict") (Data.dict (List.toArray [(de P "__name__" 165 (vs "unicore.linebreaks" 254)),(de P "__doc__" 166 Value.none),(de P "__package__" 167 Value.none),(de P "__loader__" 168 (Value.builtin "__main__.__loader__#opaque")),(de P "__spec__" 169 Value.none),(dl P "__annotations__" 170 6),(dl P "__builtins__" 171 4),(de P "__file__" 173 (vs "/claim/cut.py" 172)),(de P "__cached__" 174 Value.none),(dl P "_wall" 193 21),(de P "MAX_CODE" 197 (vi 1114111 196)),(dl P "UniError" 226 39),(dl P "BadRule" 242 52),(dl P "place_by_half" 253 61),(dl P "LINE_HARD" 260 62),(dl P "LINE_BARE" 267 63),(dl P "LINE_MARKS" 270 64),(dl P "LINE_PLAIN" 274 65),(dl P "LINE_CLOSING" 280 66),(dl P "LINE_AHEAD_OF_OPENING" 290 67),(dl P "LINE_BEHIND_CLOSING" 305 68),(dl P "LINE_ALPHABETIC" 308 69),(dl P "LINE_IDEOGRAPHIC" 312 70),(dl P "LINE_AFFIXES" 315 71),(dl P "LINE_SYLLABIC" 321 72),(dl P "LINE_INNER" 325 73),(dl P "LINE_WIDE" 329 74),(dl P "LINE_KEPT" 339 75),(dl P "LINE_NUMBERS" 368 90),(dl P "LINE_JAMO" 389 91),(dl P "LINE_ITERATION" 396 97),(dl P "LINE_JAMO_RANGES" 415 104),(de P "LINE_FIRST_SYLLABLE" 417 (vi 44032 416)),(de P "LINE_LAST_SYLLABLE" 419 (vi 55203 418)),(de P "LINE_TAILS" 421 (vi 28 420)),(de P "DOTTED_CIRCLE" 423 (vi 9676 422)),(dl P "LineHow" 458 122),(dl P "line_hangul" 468 133),(dl P "line_class" 478 140)]) 39))
noncomputable def N4:PO:=fun P=>(oB Value.none (Data.fields (List.toArray [(vi 1 0),(vi 0 0),(vr 20),(vi 6 0),(vi 0 0),(vr 27),(vi 10 0),(vi 0 0),(vr 48),(vi 12 0),(vi 0 0),(vr 60),(vi 45 0),(vi 0 0),(vr 110),(vi 55 0),(vi 0 0),(vr 132),(vi 62 0),(vi 0 0),(vr 139)])))
noncomputable def rq:PO:=fun P=>(oB (vt "dict") (Data.dict (List.toArray [(de P "__module__" 431 (vs "unicore.linebreaks" 254)),(de P "__qualname__" 433 (vs "LineHow" 432)),(de P "__firstlineno__" 435 (vi 45 434)),(dl P "__init__" 447 119),(dl P "__static_attributes__" 451 120)]) 5))
noncomputable def rt:PO:=fun P=>(oB Value.none (Data.fields (List.toArray [(vi 47 0),(vi 4 0),(vr 118)])))
def rA:=hq2 "LineHow" 426 427 428 45 108 109 429 430
def rB:=hq3 110 107 "unicore.linebreaks" 254
noncomputable def qj:PO:=fun P=>(oT [(vs "strict" 436),(Value.bool Bool.false),(vs "pairs" 437)])
def qk:=jY "self" 441 "strictness" 442 "keep_all" 443 "numbers" 444
def rC:=hq9 "__init__" "LineHow.__init__" 29 0
def ql:=hq5 "__init__" 438 "LineHow.__init__" 439 440 47 4 113 114 115 116 117 445 446
def qm:=HV "__init__" "LineHow.__init__" 29 0 112 "unicore.linebreaks" 254 118
noncomputable def qn:PO:=fun P=>(oT [(vs "keep_all" 448),(vs "numbers" 449),(vs "strictness" 450)])
noncomputable def qo:PO:=fun P=>(oB (vt "dict") (Data.dict (List.toArray [(de P "__module__" 431 (vs "unicore.linebreaks" 254)),(de P "__firstlineno__" 435 (vi 45 434)),(dl P "__init__" 447 119),(dl P "__static_attributes__" 451 120),(dl P "__dict__" 453 123),(dl P "__weakref__" 455 124),(de P "__doc__" 456 Value.none)]) 4))
def qp:=C5 "LineHow" 122 121 424 432
def qq:=C6 452 122
def qr:=At 454 122
def rD:=yk 122
def rE:=yl 122
def qs:=jY "code" 462 "first" 463 "last" 464 "word" 465
def rF:=hq4 "line_hangul" 30 30
def qt:=hq5 "line_hangul" 459 "line_hangul" 460 461 55 1 127 128 129 130 131 466 467
def qv:=hq6 "line_hangul" 30 30 "unicore.linebreaks" 254 132
def qw:=jY "code" 472 "data" 473 "how" 474 "word" 475
def rG:=hq4 "line_class" 31 31
def qx:=hq5 "line_class" 469 "line_class" 470 471 62 3 134 135 136 137 138 476 477
def qy:=hq6 "line_class" 31 31 "unicore.linebreaks" 254 139
noncomputable def N5:PO:=fun P=>(oB (vt "dict") (Data.dict (List.toArray [(de P "__name__" 165 (vs "unicore.linebreaks" 254)),(de P "__doc__" 166 Value.none),(de P "__package__" 167 Value.none),(de P "__loader__" 168 (Value.builtin "__main__.__loader__#opaque")),(de P "__spec__" 169 Value.none),(dl P "__annotations__" 170 6),(dl P "__builtins__" 171 4),(de P "__file__" 173 (vs "/claim/cut.py" 172)),(de P "__cached__" 174 Value.none),(dl P "_wall" 193 21),(de P "MAX_CODE" 197 (vi 1114111 196)),(dl P "UniError" 226 39),(dl P "BadRule" 242 52),(dl P "place_by_half" 253 61),(dl P "LINE_HARD" 260 62),(dl P "LINE_BARE" 267 63),(dl P "LINE_MARKS" 270 64),(dl P "LINE_PLAIN" 274 65),(dl P "LINE_CLOSING" 280 66),(dl P "LINE_AHEAD_OF_OPENING" 290 67),(dl P "LINE_BEHIND_CLOSING" 305 68),(dl P "LINE_ALPHABETIC" 308 69),(dl P "LINE_IDEOGRAPHIC" 312 70),(dl P "LINE_AFFIXES" 315 71),(dl P "LINE_SYLLABIC" 321 72),(dl P "LINE_INNER" 325 73),(dl P "LINE_WIDE" 329 74),(dl P "LINE_KEPT" 339 75),(dl P "LINE_NUMBERS" 368 90),(dl P "LINE_JAMO" 389 91),(dl P "LINE_ITERATION" 396 97),(dl P "LINE_JAMO_RANGES" 415 104),(de P "LINE_FIRST_SYLLABLE" 417 (vi 44032 416)),(de P "LINE_LAST_SYLLABLE" 419 (vi 55203 418)),(de P "LINE_TAILS" 421 (vi 28 420)),(de P "DOTTED_CIRCLE" 423 (vi 9676 422)),(dl P "LineHow" 458 122),(dl P "line_hangul" 468 133),(dl P "line_class" 478 140),(dl P "LineUnit" 512 157),(dl P "line_units" 525 168)]) 41))
noncomputable def N6:PO:=fun P=>(oB Value.none (Data.fields (List.toArray [(vi 1 0),(vi 0 0),(vr 20),(vi 6 0),(vi 0 0),(vr 27),(vi 10 0),(vi 0 0),(vr 48),(vi 12 0),(vi 0 0),(vr 60),(vi 45 0),(vi 0 0),(vr 110),(vi 55 0),(vi 0 0),(vr 132),(vi 62 0),(vi 0 0),(vr 139),(vi 73 0),(vi 0 0),(vr 146),(vi 80 0),(vi 0 0),(vr 167)])))
noncomputable def tu:PO:=fun P=>(oB (vt "dict") (Data.dict (List.toArray [(de P "__module__" 486 (vs "unicore.linebreaks" 254)),(de P "__qualname__" 488 (vs "LineUnit" 487)),(de P "__firstlineno__" 490 (vi 73 489)),(dl P "__init__" 500 154),(dl P "__static_attributes__" 505 155)]) 5))
noncomputable def tw:PO:=fun P=>(oB Value.none (Data.fields (List.toArray [(vi 75 0),(vi 4 0),(vr 153)])))
def tx:=hq2 "LineUnit" 481 482 483 73 144 145 484 485
def tz:=hq3 146 143 "unicore.linebreaks" 254
def rH:=jY "self" 494 "word" 495 "code" 496 "at" 497
def tA:=hq9 "__init__" "LineUnit.__init__" 32 0
def rI:=hq5 "__init__" 491 "LineUnit.__init__" 492 493 75 4 148 149 150 151 152 498 499
def rJ:=iY "__init__" "LineUnit.__init__" 32 0 "unicore.linebreaks" 254 153
def rK:=jY "at" 501 "code" 502 "is_joined" 503 "word" 504
noncomputable def rL:PO:=fun P=>(oB (vt "dict") (Data.dict (List.toArray [(de P "__module__" 486 (vs "unicore.linebreaks" 254)),(de P "__firstlineno__" 490 (vi 73 489)),(dl P "__init__" 500 154),(dl P "__static_attributes__" 505 155),(dl P "__dict__" 507 158),(dl P "__weakref__" 509 159),(de P "__doc__" 510 Value.none)]) 4))
def rM:=C5 "LineUnit" 157 156 479 487
def rN:=C6 506 157
def rO:=At 508 157
def tB:=yk 157
def tC:=yl 157
noncomputable def rP:PO:=fun P=>(oT [(vs "text" 516),(vs "data" 517),(vs "how" 518),(vs "found" 519),(vs "at" 520),(vs "code" 521),(vs "word" 522)])
def tD:=hq4 "line_units" 33 33
def rQ:=hq5 "line_units" 513 "line_units" 514 515 80 3 162 163 164 165 166 523 524
def rR:=hq6 "line_units" 33 33 "unicore.linebreaks" 254 167
noncomputable def N7:PO:=fun P=>(oB (vt "dict") (Data.dict (List.toArray [(de P "__name__" 165 (vs "unicore.linebreaks" 254)),(de P "__doc__" 166 Value.none),(de P "__package__" 167 Value.none),(de P "__loader__" 168 (Value.builtin "__main__.__loader__#opaque")),(de P "__spec__" 169 Value.none),(dl P "__annotations__" 170 6),(dl P "__builtins__" 171 4),(de P "__file__" 173 (vs "/claim/cut.py" 172)),(de P "__cached__" 174 Value.none),(dl P "_wall" 193 21),(de P "MAX_CODE" 197 (vi 1114111 196)),(dl P "UniError" 226 39),(dl P "BadRule" 242 52),(dl P "place_by_half" 253 61),(dl P "LINE_HARD" 260 62),(dl P "LINE_BARE" 267 63),(dl P "LINE_MARKS" 270 64),(dl P "LINE_PLAIN" 274 65),(dl P "LINE_CLOSING" 280 66),(dl P "LINE_AHEAD_OF_OPENING" 290 67),(dl P "LINE_BEHIND_CLOSING" 305 68),(dl P "LINE_ALPHABETIC" 308 69),(dl P "LINE_IDEOGRAPHIC" 312 70),(dl P "LINE_AFFIXES" 315 71),(dl P "LINE_SYLLABIC" 321 72),(dl P "LINE_INNER" 325 73),(dl P "LINE_WIDE" 329 74),(dl P "LINE_KEPT" 339 75),(dl P "LINE_NUMBERS" 368 90),(dl P "LINE_JAMO" 389 91),(dl P "LINE_ITERATION" 396 97),(dl P "LINE_JAMO_RANGES" 415 104),(de P "LINE_FIRST_SYLLABLE" 417 (vi 44032 416)),(de P "LINE_LAST_SYLLABLE" 419 (vi 55203 418)),(de P "LINE_TAILS" 421 (vi 28 420)),(de P "DOTTED_CIRCLE" 423 (vi 9676 422)),(dl P "LineHow" 458 122),(dl P "line_hangul" 468 133),(dl P "line_class" 478 140),(dl P "LineUnit" 512 157),(dl P "line_units" 525 168),(dl P "LineView" 599 213),(dl P "line_rule_hard" 609 224)]) 43))
noncomputable def N8:PO:=fun P=>(oB Value.none (Data.fields (List.toArray [(vi 1 0),(vi 0 0),(vr 20),(vi 6 0),(vi 0 0),(vr 27),(vi 10 0),(vi 0 0),(vr 48),(vi 12 0),(vi 0 0),(vr 60),(vi 45 0),(vi 0 0),(vr 110),(vi 55 0),(vi 0 0),(vr 132),(vi 62 0),(vi 0 0),(vr 139),(vi 73 0),(vi 0 0),(vr 146),(vi 80 0),(vi 0 0),(vr 167),(vi 91 0),(vi 0 0),(vr 174),(vi 120 0),(vi 0 0),(vr 223)])))
noncomputable def vQ:PO:=fun P=>(oB (vt "dict") (Data.dict (List.toArray [(de P "__module__" 533 (vs "unicore.linebreaks" 254)),(de P "__qualname__" 535 (vs "LineView" 534)),(de P "__firstlineno__" 537 (vi 91 536)),(dl P "__init__" 552 182),(dl P "word" 560 189),(dl P "solid_word" 568 196),(dl P "is_quote" 577 203),(dl P "is_narrow" 585 210),(dl P "__static_attributes__" 592 211)]) 9))
noncomputable def vR:PO:=fun P=>(oB Value.none (Data.fields (List.toArray [(vi 93 0),(vi 4 0),(vr 181),(vi 109 0),(vi 4 0),(vr 188),(vi 112 0),(vi 4 0),(vr 195),(vi 115 0),(vi 4 0),(vr 202),(vi 118 0),(vi 4 0),(vr 209)])))
def vS:=hq2 "LineView" 528 529 530 91 172 173 531 532
def vU:=hq3 174 171 "unicore.linebreaks" 254
noncomputable def tE:PO:=fun P=>(oT [(vs "self" 541),(vs "text" 542),(vs "data" 543),(vs "how" 544),(vs "last" 545),(vs "many" 546),(vs "is_number" 547),(vs "place" 548),(vs "unit" 549)])
def vV:=hq9 "__init__" "LineView.__init__" 34 0
def tF:=hq5 "__init__" 538 "LineView.__init__" 539 540 93 4 176 177 178 179 180 550 551
def tG:=iY "__init__" "LineView.__init__" 34 0 "unicore.linebreaks" 254 181
def tH:=hq8 "self" 556 "place" 557
def vW:=hq9 "word" "LineView.word" 34 1
def tJ:=hq5 "word" 553 "LineView.word" 554 555 109 2 183 184 185 186 187 558 559
def tL:=iY "word" "LineView.word" 34 1 "unicore.linebreaks" 254 188
def tM:=hq8 "self" 564 "place" 565
def vX:=hq9 "solid_word" "LineView.solid_word" 34 2
def tN:=hq5 "solid_word" 561 "LineView.solid_word" 562 563 112 2 190 191 192 193 194 566 567
def tO:=iY "solid_word" "LineView.solid_word" 34 2 "unicore.linebreaks" 254 195
noncomputable def tP:PO:=fun P=>(oT [(vs "self" 572),(vs "place" 573),(vs "kind" 574)])
def vY:=hq9 "is_quote" "LineView.is_quote" 34 3
def tQ:=hq5 "is_quote" 569 "LineView.is_quote" 570 571 115 3 197 198 199 200 201 575 576
def tR:=iY "is_quote" "LineView.is_quote" 34 3 "unicore.linebreaks" 254 202
def tS:=hq8 "self" 581 "place" 582
def vZ:=hq9 "is_narrow" "LineView.is_narrow" 34 4
def tT:=hq5 "is_narrow" 578 "LineView.is_narrow" 579 580 118 2 204 205 206 207 208 583 584
def tU:=iY "is_narrow" "LineView.is_narrow" 34 4 "unicore.linebreaks" 254 209
noncomputable def tV:PO:=fun P=>(oT [(vs "data" 586),(vs "how" 587),(vs "numeric" 588),(vs "regional" 589),(vs "solid" 590),(vs "units" 591)])
noncomputable def tW:PO:=fun P=>(oB (vt "dict") (Data.dict (List.toArray [(de P "__module__" 533 (vs "unicore.linebreaks" 254)),(de P "__firstlineno__" 537 (vi 91 536)),(dl P "__init__" 552 182),(dl P "word" 560 189),(dl P "solid_word" 568 196),(dl P "is_quote" 577 203),(dl P "is_narrow" 585 210),(dl P "__static_attributes__" 592 211),(dl P "__dict__" 594 214),(dl P "__weakref__" 596 215),(de P "__doc__" 597 Value.none)]) 4))
def tX:=C5 "LineView" 213 212 526 534
def tY:=C6 593 213
def tZ:=At 595 213
def wa:=yk 213
def wb:=yl 213
def t6:=jY "view" 603 "at" 604 "a" 605 "b" 606
def wc:=hq4 "line_rule_hard" 35 35
def t7:=hq5 "line_rule_hard" 600 "line_rule_hard" 601 602 120 2 218 219 220 221 222 607 608
def t8:=hq6 "line_rule_hard" 35 35 "unicore.linebreaks" 254 223
noncomputable def dq0(P:Params):=[(de P "__name__" 165 (vs "unicore.linebreaks" 254)),(de P "__doc__" 166 Value.none),(de P "__package__" 167 Value.none),(de P "__loader__" 168 (Value.builtin "__main__.__loader__#opaque")),(de P "__spec__" 169 Value.none),(dl P "__annotations__" 170 6),(dl P "__builtins__" 171 4),(de P "__file__" 173 (vs "/claim/cut.py" 172)),(de P "__cached__" 174 Value.none),(dl P "_wall" 193 21),(de P "MAX_CODE" 197 (vi 1114111 196)),(dl P "UniError" 226 39),(dl P "BadRule" 242 52),(dl P "place_by_half" 253 61),(dl P "LINE_HARD" 260 62),(dl P "LINE_BARE" 267 63),(dl P "LINE_MARKS" 270 64),(dl P "LINE_PLAIN" 274 65),(dl P "LINE_CLOSING" 280 66),(dl P "LINE_AHEAD_OF_OPENING" 290 67),(dl P "LINE_BEHIND_CLOSING" 305 68),(dl P "LINE_ALPHABETIC" 308 69),(dl P "LINE_IDEOGRAPHIC" 312 70),(dl P "LINE_AFFIXES" 315 71),(dl P "LINE_SYLLABIC" 321 72),(dl P "LINE_INNER" 325 73),(dl P "LINE_WIDE" 329 74),(dl P "LINE_KEPT" 339 75),(dl P "LINE_NUMBERS" 368 90),(dl P "LINE_JAMO" 389 91),(dl P "LINE_ITERATION" 396 97),(dl P "LINE_JAMO_RANGES" 415 104),(de P "LINE_FIRST_SYLLABLE" 417 (vi 44032 416)),(de P "LINE_LAST_SYLLABLE" 419 (vi 55203 418)),(de P "LINE_TAILS" 421 (vi 28 420)),(de P "DOTTED_CIRCLE" 423 (vi 9676 422)),(dl P "LineHow" 458 122),(dl P "line_hangul" 468 133),(dl P "line_class" 478 140),(dl P "LineUnit" 512 157),(dl P "line_units" 525 168),(dl P "LineView" 599 213),(dl P "line_rule_hard" 609 224),(dl P "line_rule_spaces" 617 231),(dl P "line_rule_glue" 627 238),(dl P "line_rule_closing" 637 245),(dl P "line_rule_quotes" 646 252),(dl P "line_rule_over_spaces" 656 259),(dl P "line_rule_signs" 667 266),(dl P "line_rule_letters" 677 273),(dl P "line_is_number" 685 280),(dl P "line_rule_expression" 697 287),(dl P "line_rule_numbers" 705 294),(dl P "line_rule_syllables" 715 301),(dl P "line_is_aksara" 724 308)]
def N9:PO:=fun P=>(oB (vt "dict") (Data.dict (List.toArray (dq0 P)) 55))
noncomputable def Ob:PO:=fun P=>(oB Value.none (Data.fields (List.toArray [(vi 1 0),(vi 0 0),(vr 20),(vi 6 0),(vi 0 0),(vr 27),(vi 10 0),(vi 0 0),(vr 48),(vi 12 0),(vi 0 0),(vr 60),(vi 45 0),(vi 0 0),(vr 110),(vi 55 0),(vi 0 0),(vr 132),(vi 62 0),(vi 0 0),(vr 139),(vi 73 0),(vi 0 0),(vr 146),(vi 80 0),(vi 0 0),(vr 167),(vi 91 0),(vi 0 0),(vr 174),(vi 120 0),(vi 0 0),(vr 223),(vi 129 0),(vi 0 0),(vr 230),(vi 135 0),(vi 0 0),(vr 237),(vi 142 0),(vi 0 0),(vr 244),(vi 149 0),(vi 0 0),(vr 251),(vi 156 0),(vi 0 0),(vr 258),(vi 163 0),(vi 0 0),(vr 265),(vi 177 0),(vi 0 0),(vr 272),(vi 186 0),(vi 0 0),(vr 279),(vi 188 0),(vi 0 0),(vr 286),(vi 199 0),(vi 0 0),(vr 293),(vi 203 0),(vi 0 0),(vr 300),(vi 210 0),(vi 0 0),(vr 307)])))
def we:=hq8 "view" 613 "at" 614
def ym:=hq4 "line_rule_spaces" 36 36
def wf:=hq5 "line_rule_spaces" 610 "line_rule_spaces" 611 612 129 2 225 226 227 228 229 615 616
def wg:=hq6 "line_rule_spaces" 36 36 "unicore.linebreaks" 254 230
def wh:=jY "view" 621 "at" 622 "a" 623 "b" 624
def yn:=hq4 "line_rule_glue" 37 37
def wi:=hq5 "line_rule_glue" 618 "line_rule_glue" 619 620 135 2 232 233 234 235 236 625 626
def wj:=hq6 "line_rule_glue" 37 37 "unicore.linebreaks" 254 237
def wk:=jY "view" 631 "at" 632 "b" 633 "is_left" 634
def yo:=hq4 "line_rule_closing" 38 38
def wl:=hq5 "line_rule_closing" 628 "line_rule_closing" 629 630 142 2 239 240 241 242 243 635 636
def wm:=hq6 "line_rule_closing" 38 38 "unicore.linebreaks" 254 244
noncomputable def wn:PO:=fun P=>(oT [(vs "view" 641),(vs "at" 642),(vs "quote" 643)])
def yp:=hq4 "line_rule_quotes" 39 39
def wo:=hq5 "line_rule_quotes" 638 "line_rule_quotes" 639 640 149 2 246 247 248 249 250 644 645
def wp:=hq6 "line_rule_quotes" 39 39 "unicore.linebreaks" 254 251
def wq:=jY "view" 650 "at" 651 "solid" 652 "b" 653
def yq:=hq4 "line_rule_over_spaces" 40 40
def wr:=hq5 "line_rule_over_spaces" 647 "line_rule_over_spaces" 648 649 156 2 253 254 255 256 257 654 655
def wu:=hq6 "line_rule_over_spaces" 40 40 "unicore.linebreaks" 254 258
noncomputable def wv:PO:=fun P=>(oT [(vs "view" 660),(vs "at" 661),(vs "a" 662),(vs "b" 663),(vs "is_parted" 664)])
def yr:=hq4 "line_rule_signs" 41 41
def ww:=hq5 "line_rule_signs" 657 "line_rule_signs" 658 659 163 2 260 261 262 263 264 665 666
def wx:=hq6 "line_rule_signs" 41 41 "unicore.linebreaks" 254 265
def wy:=jY "view" 671 "at" 672 "a" 673 "b" 674
def yt:=hq4 "line_rule_letters" 42 42
def wz:=hq5 "line_rule_letters" 668 "line_rule_letters" 669 670 177 2 267 268 269 270 271 675 676
def wB:=hq6 "line_rule_letters" 42 42 "unicore.linebreaks" 254 272
def wC:=hq8 "view" 681 "place" 682
def yu:=hq4 "line_is_number" 43 43
def wE:=hq5 "line_is_number" 678 "line_is_number" 679 680 186 2 274 275 276 277 278 683 684
def wF:=hq6 "line_is_number" 43 43 "unicore.linebreaks" 254 279
noncomputable def wG:PO:=fun P=>(oT [(vs "view" 689),(vs "at" 690),(vs "a" 691),(vs "b" 692),(vs "is_begun" 693),(vs "end" 694)])
def yw:=hq4 "line_rule_expression" 44 44
def wH:=hq5 "line_rule_expression" 686 "line_rule_expression" 687 688 188 2 281 282 283 284 285 695 696
def wI:=hq6 "line_rule_expression" 44 44 "unicore.linebreaks" 254 286
def wJ:=hq8 "view" 701 "at" 702
def yx:=hq4 "line_rule_numbers" 45 45
def wK:=hq5 "line_rule_numbers" 698 "line_rule_numbers" 699 700 199 2 288 289 290 291 292 703 704
def wL:=hq6 "line_rule_numbers" 45 45 "unicore.linebreaks" 254 293
def wM:=jY "view" 709 "at" 710 "a" 711 "b" 712
def yy:=hq4 "line_rule_syllables" 46 46
def wN:=hq5 "line_rule_syllables" 706 "line_rule_syllables" 707 708 203 2 295 296 297 298 299 713 714
def wO:=hq6 "line_rule_syllables" 46 46 "unicore.linebreaks" 254 300
noncomputable def wP:PO:=fun P=>(oT [(vs "view" 719),(vs "place" 720),(vs "words" 721)])
def yz:=hq4 "line_is_aksara" 47 47
def wQ:=hq5 "line_is_aksara" 716 "line_is_aksara" 717 718 210 3 302 303 304 305 306 722 723
def wR:=hq6 "line_is_aksara" 47 47 "unicore.linebreaks" 254 307
def dq1(P:Params):=dq0 P++[(dl P "line_rule_aksaras" 738 315),(dl P "line_rule_brackets" 748 322),(dl P "line_rule_pictures" 759 329),(dl P "line_verdict" 768 336),(dl P "line_verdicts" 780 343)]
def Oc:PO:=fun P=>(oB (vt "dict") (Data.dict (List.toArray (dq1 P)) 60))
noncomputable def Od:PO:=fun P=>(oB Value.none (Data.fields (List.toArray [(vi 1 0),(vi 0 0),(vr 20),(vi 6 0),(vi 0 0),(vr 27),(vi 10 0),(vi 0 0),(vr 48),(vi 12 0),(vi 0 0),(vr 60),(vi 45 0),(vi 0 0),(vr 110),(vi 55 0),(vi 0 0),(vr 132),(vi 62 0),(vi 0 0),(vr 139),(vi 73 0),(vi 0 0),(vr 146),(vi 80 0),(vi 0 0),(vr 167),(vi 91 0),(vi 0 0),(vr 174),(vi 120 0),(vi 0 0),(vr 223),(vi 129 0),(vi 0 0),(vr 230),(vi 135 0),(vi 0 0),(vr 237),(vi 142 0),(vi 0 0),(vr 244),(vi 149 0),(vi 0 0),(vr 251),(vi 156 0),(vi 0 0),(vr 258),(vi 163 0),(vi 0 0),(vr 265),(vi 177 0),(vi 0 0),(vr 272),(vi 186 0),(vi 0 0),(vr 279),(vi 188 0),(vi 0 0),(vr 286),(vi 199 0),(vi 0 0),(vr 293),(vi 203 0),(vi 0 0),(vr 300),(vi 210 0),(vi 0 0),(vr 307),(vi 214 0),(vi 0 0),(vr 314),(vi 221 0),(vi 0 0),(vr 321),(vi 230 0),(vi 0 0),(vr 328),(vi 241 0),(vi 0 0),(vr 335),(vi 247 0),(vi 0 0),(vr 342)])))
noncomputable def yB:PO:=fun P=>(oT [(vs "view" 728),(vs "at" 729),(vs "a" 730),(vs "b" 731),(vs "every" 732),(vs "is_left" 733),(vs "is_right" 734),(vs "is_held" 735)])
def Au:=hq4 "line_rule_aksaras" 48 48
def yC:=hq5 "line_rule_aksaras" 725 "line_rule_aksaras" 726 727 214 2 309 310 311 312 313 736 737
def yD:=hq6 "line_rule_aksaras" 48 48 "unicore.linebreaks" 254 314
def yE:=jY "view" 742 "at" 743 "a" 744 "b" 745
def Av:=hq4 "line_rule_brackets" 49 49
def yF:=hq5 "line_rule_brackets" 739 "line_rule_brackets" 740 741 221 2 316 317 318 319 320 746 747
def yG:=hq6 "line_rule_brackets" 49 49 "unicore.linebreaks" 254 321
noncomputable def yH:PO:=fun P=>(oT [(vs "view" 752),(vs "at" 753),(vs "a" 754),(vs "b" 755),(vs "code" 756)])
def Aw:=hq4 "line_rule_pictures" 50 50
def yI:=hq5 "line_rule_pictures" 749 "line_rule_pictures" 750 751 230 2 323 324 325 326 327 757 758
def yJ:=hq6 "line_rule_pictures" 50 50 "unicore.linebreaks" 254 328
noncomputable def yK:PO:=fun P=>(oT [(vs "view" 763),(vs "at" 764),(vs "told" 765)])
def Ax:=hq4 "line_verdict" 51 51
def yL:=hq5 "line_verdict" 760 "line_verdict" 761 762 241 2 330 331 332 333 334 766 767
def yM:=hq6 "line_verdict" 51 51 "unicore.linebreaks" 254 335
noncomputable def yN:PO:=fun P=>(oT [(vs "text" 772),(vs "data" 773),(vs "how" 774),(vs "found" 775),(vs "view" 776),(vs "at" 777)])
def Ay:=hq4 "line_verdicts" 52 52
def yO:=hq5 "line_verdicts" 769 "line_verdicts" 770 771 247 3 337 338 339 340 341 778 779
def yP:=hq6 "line_verdicts" 52 52 "unicore.linebreaks" 254 342
noncomputable def dq2(P:Params):=[(de P "__name__" 165 (vs "unicore.ranges" 856)),(de P "__doc__" 166 Value.none),(de P "__package__" 167 Value.none),(de P "__loader__" 168 (Value.builtin "__main__.__loader__#opaque")),(de P "__spec__" 169 Value.none),(dl P "__annotations__" 170 6),(dl P "__builtins__" 171 4),(de P "__file__" 173 (vs "/claim/cut.py" 172)),(de P "__cached__" 174 Value.none),(dl P "_wall" 193 21),(de P "MAX_CODE" 197 (vi 1114111 196)),(dl P "UniError" 226 39),(dl P "BadRule" 242 52),(dl P "place_by_half" 253 61),(dl P "LINE_HARD" 260 62),(dl P "LINE_BARE" 267 63),(dl P "LINE_MARKS" 270 64),(dl P "LINE_PLAIN" 274 65),(dl P "LINE_CLOSING" 280 66),(dl P "LINE_AHEAD_OF_OPENING" 290 67),(dl P "LINE_BEHIND_CLOSING" 305 68),(dl P "LINE_ALPHABETIC" 308 69),(dl P "LINE_IDEOGRAPHIC" 312 70),(dl P "LINE_AFFIXES" 315 71),(dl P "LINE_SYLLABIC" 321 72),(dl P "LINE_INNER" 325 73),(dl P "LINE_WIDE" 329 74),(dl P "LINE_KEPT" 339 75),(dl P "LINE_NUMBERS" 368 90),(dl P "LINE_JAMO" 389 91),(dl P "LINE_ITERATION" 396 97),(dl P "LINE_JAMO_RANGES" 415 104),(de P "LINE_FIRST_SYLLABLE" 417 (vi 44032 416)),(de P "LINE_LAST_SYLLABLE" 419 (vi 55203 418)),(de P "LINE_TAILS" 421 (vi 28 420)),(de P "DOTTED_CIRCLE" 423 (vi 9676 422)),(dl P "LineHow" 458 122),(dl P "line_hangul" 468 133),(dl P "line_class" 478 140),(dl P "LineUnit" 512 157),(dl P "line_units" 525 168),(dl P "LineView" 599 213),(dl P "line_rule_hard" 609 224),(dl P "line_rule_spaces" 617 231),(dl P "line_rule_glue" 627 238),(dl P "line_rule_closing" 637 245),(dl P "line_rule_quotes" 646 252),(dl P "line_rule_over_spaces" 656 259),(dl P "line_rule_signs" 667 266),(dl P "line_rule_letters" 677 273),(dl P "line_is_number" 685 280),(dl P "line_rule_expression" 697 287),(dl P "line_rule_numbers" 705 294),(dl P "line_rule_syllables" 715 301),(dl P "line_is_aksara" 724 308),(dl P "line_rule_aksaras" 738 315),(dl P "line_rule_brackets" 748 322),(dl P "line_rule_pictures" 759 329),(dl P "line_verdict" 768 336),(dl P "line_verdicts" 780 343),(dl P "LineBreaks" 855 396)]
def Oe:PO:=fun P=>(oB (vt "dict") (Data.dict (List.toArray (dq2 P)) 61))
noncomputable def Of:PO:=fun P=>(oB Value.none (Data.fields (List.toArray [(vi 1 0),(vi 0 0),(vr 20),(vi 6 0),(vi 0 0),(vr 27),(vi 10 0),(vi 0 0),(vr 48),(vi 12 0),(vi 0 0),(vr 60),(vi 45 0),(vi 0 0),(vr 110),(vi 55 0),(vi 0 0),(vr 132),(vi 62 0),(vi 0 0),(vr 139),(vi 73 0),(vi 0 0),(vr 146),(vi 80 0),(vi 0 0),(vr 167),(vi 91 0),(vi 0 0),(vr 174),(vi 120 0),(vi 0 0),(vr 223),(vi 129 0),(vi 0 0),(vr 230),(vi 135 0),(vi 0 0),(vr 237),(vi 142 0),(vi 0 0),(vr 244),(vi 149 0),(vi 0 0),(vr 251),(vi 156 0),(vi 0 0),(vr 258),(vi 163 0),(vi 0 0),(vr 265),(vi 177 0),(vi 0 0),(vr 272),(vi 186 0),(vi 0 0),(vr 279),(vi 188 0),(vi 0 0),(vr 286),(vi 199 0),(vi 0 0),(vr 293),(vi 203 0),(vi 0 0),(vr 300),(vi 210 0),(vi 0 0),(vr 307),(vi 214 0),(vi 0 0),(vr 314),(vi 221 0),(vi 0 0),(vr 321),(vi 230 0),(vi 0 0),(vr 328),(vi 241 0),(vi 0 0),(vr 335),(vi 247 0),(vi 0 0),(vr 342),(vi 255 0),(vi 0 0),(vr 349)])))
noncomputable def C7:PO:=fun P=>(oB (vt "dict") (Data.dict (List.toArray [(de P "__module__" 788 (vs "unicore.linebreaks" 254)),(de P "__qualname__" 790 (vs "LineBreaks" 789)),(de P "__firstlineno__" 792 (vi 255 791)),(dl P "__init__" 801 358),(dl P "opportunities" 807 363),(dl P "reasons" 815 370),(dl P "measure" 824 377),(dl P "fit_lines" 835 386),(dl P "even_lines" 845 393),(dl P "__static_attributes__" 848 394)]) 10))
noncomputable def C8:PO:=fun P=>(oB Value.none (Data.fields (List.toArray [(vi 257 0),(vi 4 0),(vr 357),(vi 261 0),(vi 4 0),(vr 362),(vi 264 0),(vi 4 0),(vr 369),(vi 267 0),(vi 4 0),(vr 376),(vi 270 0),(vi 4 0),(vr 385),(vi 273 0),(vi 4 0),(vr 392)])))
def C9:=hq2 "LineBreaks" 783 784 785 255 347 348 786 787
def Da:=hq3 349 346 "unicore.linebreaks" 254
noncomputable def Az:PO:=fun P=>(oT [Value.none])
noncomputable def AA:PO:=fun P=>(oT [(vs "self" 796),(vs "data" 797),(vs "how" 798)])
def Db:=hq9 "__init__" "LineBreaks.__init__" 53 0
def AB:=hq5 "__init__" 793 "LineBreaks.__init__" 794 795 257 3 352 353 354 355 356 799 800
def AC:=HV "__init__" "LineBreaks.__init__" 53 0 351 "unicore.linebreaks" 254 357
def Dc:=hq9 "opportunities" "LineBreaks.opportunities" 53 1
def AD:=E3 "opportunities" 802 "LineBreaks.opportunities" 803 804 261 2 359 360 361 805 806
def AE:=iY "opportunities" "LineBreaks.opportunities" 53 1 "unicore.linebreaks" 254 362
def AF:=hq8 "self" 811 "text" 812
def Dd:=hq9 "reasons" "LineBreaks.reasons" 53 2
def AG:=hq5 "reasons" 808 "LineBreaks.reasons" 809 810 264 2 364 365 366 367 368 813 814
def AH:=iY "reasons" "LineBreaks.reasons" 53 2 "unicore.linebreaks" 254 369
noncomputable def AI:PO:=fun P=>(oT [(vs "self" 819),(vs "text" 820),(vs "widths" 821)])
def De:=hq9 "measure" "LineBreaks.measure" 53 3
def AJ:=hq5 "measure" 816 "LineBreaks.measure" 817 818 267 3 371 372 373 374 375 822 823
def AL:=iY "measure" "LineBreaks.measure" 53 3 "unicore.linebreaks" 254 376
noncomputable def AM:PO:=fun P=>(oT [(vr 378)])
noncomputable def AN:PO:=fun P=>(oT [(vs "self" 828),(vs "text" 829),(vs "widths" 830),(vs "most" 831),(vs "inner" 832)])
def Df:=hq9 "fit_lines" "LineBreaks.fit_lines" 53 4
def AO:=hq5 "fit_lines" 825 "LineBreaks.fit_lines" 826 827 270 5 380 381 382 383 384 833 834
def AP:=HV "fit_lines" "LineBreaks.fit_lines" 53 4 379 "unicore.linebreaks" 254 385
def AQ:=jY "self" 839 "text" 840 "widths" 841 "most" 842
def Dg:=hq9 "even_lines" "LineBreaks.even_lines" 53 5
def AR:=hq5 "even_lines" 836 "LineBreaks.even_lines" 837 838 273 4 387 388 389 390 391 843 844
def AS:=iY "even_lines" "LineBreaks.even_lines" 53 5 "unicore.linebreaks" 254 392
def AT:=hq8 "data" 846 "how" 847
noncomputable def AU:PO:=fun P=>(oB (vt "dict") (Data.dict (List.toArray [(de P "__module__" 788 (vs "unicore.linebreaks" 254)),(de P "__firstlineno__" 792 (vi 255 791)),(dl P "__init__" 801 358),(dl P "opportunities" 807 363),(dl P "reasons" 815 370),(dl P "measure" 824 377),(dl P "fit_lines" 835 386),(dl P "even_lines" 845 393),(dl P "__static_attributes__" 848 394),(dl P "__dict__" 850 397),(dl P "__weakref__" 852 398),(de P "__doc__" 853 Value.none)]) 4))
def AV:=C5 "LineBreaks" 396 395 781 789
def AW:=C6 849 396
def AX:=At 851 396
def Dh:=yk 396
def Di:=yl 396
noncomputable def dq3(P:Params):=[(de P "__name__" 165 (vs "unicore.data" 935)),(de P "__doc__" 166 Value.none),(de P "__package__" 167 Value.none),(de P "__loader__" 168 (Value.builtin "__main__.__loader__#opaque")),(de P "__spec__" 169 Value.none),(dl P "__annotations__" 170 6),(dl P "__builtins__" 171 4),(de P "__file__" 173 (vs "/claim/cut.py" 172)),(de P "__cached__" 174 Value.none),(dl P "_wall" 193 21),(de P "MAX_CODE" 197 (vi 1114111 196)),(dl P "UniError" 226 39),(dl P "BadRule" 242 52),(dl P "place_by_half" 253 61),(dl P "LINE_HARD" 260 62),(dl P "LINE_BARE" 267 63),(dl P "LINE_MARKS" 270 64),(dl P "LINE_PLAIN" 274 65),(dl P "LINE_CLOSING" 280 66),(dl P "LINE_AHEAD_OF_OPENING" 290 67),(dl P "LINE_BEHIND_CLOSING" 305 68),(dl P "LINE_ALPHABETIC" 308 69),(dl P "LINE_IDEOGRAPHIC" 312 70),(dl P "LINE_AFFIXES" 315 71),(dl P "LINE_SYLLABIC" 321 72),(dl P "LINE_INNER" 325 73),(dl P "LINE_WIDE" 329 74),(dl P "LINE_KEPT" 339 75),(dl P "LINE_NUMBERS" 368 90),(dl P "LINE_JAMO" 389 91),(dl P "LINE_ITERATION" 396 97),(dl P "LINE_JAMO_RANGES" 415 104),(de P "LINE_FIRST_SYLLABLE" 417 (vi 44032 416)),(de P "LINE_LAST_SYLLABLE" 419 (vi 55203 418)),(de P "LINE_TAILS" 421 (vi 28 420)),(de P "DOTTED_CIRCLE" 423 (vi 9676 422)),(dl P "LineHow" 458 122),(dl P "line_hangul" 468 133),(dl P "line_class" 478 140),(dl P "LineUnit" 512 157),(dl P "line_units" 525 168),(dl P "LineView" 599 213),(dl P "line_rule_hard" 609 224),(dl P "line_rule_spaces" 617 231),(dl P "line_rule_glue" 627 238),(dl P "line_rule_closing" 637 245),(dl P "line_rule_quotes" 646 252),(dl P "line_rule_over_spaces" 656 259),(dl P "line_rule_signs" 667 266),(dl P "line_rule_letters" 677 273),(dl P "line_is_number" 685 280),(dl P "line_rule_expression" 697 287),(dl P "line_rule_numbers" 705 294),(dl P "line_rule_syllables" 715 301),(dl P "line_is_aksara" 724 308),(dl P "line_rule_aksaras" 738 315),(dl P "line_rule_brackets" 748 322),(dl P "line_rule_pictures" 759 329),(dl P "line_verdict" 768 336),(dl P "line_verdicts" 780 343),(dl P "LineBreaks" 855 396),(dl P "range_are_like" 865 407),(dl P "RangeMap" 934 452)]
def Og:PO:=fun P=>(oB (vt "dict") (Data.dict (List.toArray (dq3 P)) 63))
noncomputable def Oh:PO:=fun P=>(oB Value.none (Data.fields (List.toArray [(vi 1 0),(vi 0 0),(vr 20),(vi 6 0),(vi 0 0),(vr 27),(vi 10 0),(vi 0 0),(vr 48),(vi 12 0),(vi 0 0),(vr 60),(vi 45 0),(vi 0 0),(vr 110),(vi 55 0),(vi 0 0),(vr 132),(vi 62 0),(vi 0 0),(vr 139),(vi 73 0),(vi 0 0),(vr 146),(vi 80 0),(vi 0 0),(vr 167),(vi 91 0),(vi 0 0),(vr 174),(vi 120 0),(vi 0 0),(vr 223),(vi 129 0),(vi 0 0),(vr 230),(vi 135 0),(vi 0 0),(vr 237),(vi 142 0),(vi 0 0),(vr 244),(vi 149 0),(vi 0 0),(vr 251),(vi 156 0),(vi 0 0),(vr 258),(vi 163 0),(vi 0 0),(vr 265),(vi 177 0),(vi 0 0),(vr 272),(vi 186 0),(vi 0 0),(vr 279),(vi 188 0),(vi 0 0),(vr 286),(vi 199 0),(vi 0 0),(vr 293),(vi 203 0),(vi 0 0),(vr 300),(vi 210 0),(vi 0 0),(vr 307),(vi 214 0),(vi 0 0),(vr 314),(vi 221 0),(vi 0 0),(vr 321),(vi 230 0),(vi 0 0),(vr 328),(vi 241 0),(vi 0 0),(vr 335),(vi 247 0),(vi 0 0),(vr 342),(vi 255 0),(vi 0 0),(vr 349),(vi 276 0),(vi 0 0),(vr 406),(vi 278 0),(vi 0 0),(vr 413)])))
def Dj:=hq8 "one" 861 "other" 862
def E4:=hq4 "range_are_like" 55 55
def Dk:=hq5 "range_are_like" 858 "range_are_like" 859 860 276 2 401 402 403 404 405 863 864
def Dl:=hq6 "range_are_like" 55 55 "unicore.ranges" 856 406
noncomputable def E5:PO:=fun P=>(oB (vt "dict") (Data.dict (List.toArray [(de P "__module__" 873 (vs "unicore.ranges" 856)),(de P "__qualname__" 875 (vs "RangeMap" 874)),(de P "__firstlineno__" 877 (vi 278 876)),(dl P "__init__" 885 421),(dl P "get" 893 428),(dl P "put" 908 435),(dl P "ranges" 915 442),(dl P "set_of" 923 449),(dl P "__static_attributes__" 927 450)]) 9))
noncomputable def E6:PO:=fun P=>(oB Value.none (Data.fields (List.toArray [(vi 280 0),(vi 4 0),(vr 420),(vi 285 0),(vi 4 0),(vr 427),(vi 288 0),(vi 4 0),(vr 434),(vi 303 0),(vi 4 0),(vr 441),(vi 306 0),(vi 4 0),(vr 448)])))
def E7:=hq2 "RangeMap" 868 869 870 278 411 412 871 872
def E8:=hq3 413 410 "unicore.ranges" 856
def Dm:=hq8 "self" 881 "default" 882
def E9:=hq9 "__init__" "RangeMap.__init__" 56 0
def Dn:=hq5 "__init__" 878 "RangeMap.__init__" 879 880 280 2 415 416 417 418 419 883 884
def Do:=iY "__init__" "RangeMap.__init__" 56 0 "unicore.ranges" 856 420
def Dp:=hq8 "self" 889 "code" 890
def Fa:=hq9 "get" "RangeMap.get" 56 1
def Dq:=hq5 "get" 886 "RangeMap.get" 887 888 285 2 422 423 424 425 426 891 892
def Dr:=iY "get" "RangeMap.get" 56 1 "unicore.ranges" 856 427
noncomputable def Ds:PO:=fun P=>(oT [(vs "self" 897),(vs "first" 898),(vs "last" 899),(vs "value" 900),(vs "low" 901),(vs "high" 902),(vs "behind" 903),(vs "starts" 904),(vs "values" 905)])
def Fb:=hq9 "put" "RangeMap.put" 56 2
def Dt:=hq5 "put" 894 "RangeMap.put" 895 896 288 4 429 430 431 432 433 906 907
def Du:=iY "put" "RangeMap.put" 56 2 "unicore.ranges" 856 434
noncomputable def Dv:PO:=fun P=>(oT [(vs "self" 912)])
def Fc:=hq9 "ranges" "RangeMap.ranges" 56 3
def Dw:=hq5 "ranges" 909 "RangeMap.ranges" 910 911 303 1 436 437 438 439 440 913 914
def Dx:=iY "ranges" "RangeMap.ranges" 56 3 "unicore.ranges" 856 441
def Dy:=hq8 "self" 919 "value" 920
def Fd:=hq9 "set_of" "RangeMap.set_of" 56 4
def Dz:=hq5 "set_of" 916 "RangeMap.set_of" 917 918 306 2 443 444 445 446 447 921 922
def DB:=iY "set_of" "RangeMap.set_of" 56 4 "unicore.ranges" 856 448
noncomputable def DC:PO:=fun P=>(oT [(vs "default" 924),(vs "starts" 925),(vs "values" 926)])
noncomputable def DD:PO:=fun P=>(oB (vt "dict") (Data.dict (List.toArray [(de P "__module__" 873 (vs "unicore.ranges" 856)),(de P "__firstlineno__" 877 (vi 278 876)),(dl P "__init__" 885 421),(dl P "get" 893 428),(dl P "put" 908 435),(dl P "ranges" 915 442),(dl P "set_of" 923 449),(dl P "__static_attributes__" 927 450),(dl P "__dict__" 929 453),(dl P "__weakref__" 931 454),(de P "__doc__" 932 Value.none)]) 4))
def DE:=C5 "RangeMap" 452 451 866 874
def DF:=C6 928 452
def DG:=At 930 452
def Fe:=yk 452
def Ff:=yl 452
noncomputable def dq4(P:Params):=[(de P "__name__" 165 (vs "law_nt0061_01" 1004)),(de P "__doc__" 166 Value.none),(de P "__package__" 167 Value.none),(de P "__loader__" 168 (Value.builtin "__main__.__loader__#opaque")),(de P "__spec__" 169 Value.none),(dl P "__annotations__" 170 6),(dl P "__builtins__" 171 4),(de P "__file__" 173 (vs "/claim/cut.py" 172)),(de P "__cached__" 174 Value.none),(dl P "_wall" 193 21),(de P "MAX_CODE" 197 (vi 1114111 196)),(dl P "UniError" 226 39),(dl P "BadRule" 242 52),(dl P "place_by_half" 253 61),(dl P "LINE_HARD" 260 62),(dl P "LINE_BARE" 267 63),(dl P "LINE_MARKS" 270 64),(dl P "LINE_PLAIN" 274 65),(dl P "LINE_CLOSING" 280 66),(dl P "LINE_AHEAD_OF_OPENING" 290 67),(dl P "LINE_BEHIND_CLOSING" 305 68),(dl P "LINE_ALPHABETIC" 308 69),(dl P "LINE_IDEOGRAPHIC" 312 70),(dl P "LINE_AFFIXES" 315 71),(dl P "LINE_SYLLABIC" 321 72),(dl P "LINE_INNER" 325 73),(dl P "LINE_WIDE" 329 74),(dl P "LINE_KEPT" 339 75),(dl P "LINE_NUMBERS" 368 90),(dl P "LINE_JAMO" 389 91),(dl P "LINE_ITERATION" 396 97),(dl P "LINE_JAMO_RANGES" 415 104),(de P "LINE_FIRST_SYLLABLE" 417 (vi 44032 416)),(de P "LINE_LAST_SYLLABLE" 419 (vi 55203 418)),(de P "LINE_TAILS" 421 (vi 28 420)),(de P "DOTTED_CIRCLE" 423 (vi 9676 422)),(dl P "LineHow" 458 122),(dl P "line_hangul" 468 133),(dl P "line_class" 478 140),(dl P "LineUnit" 512 157),(dl P "line_units" 525 168),(dl P "LineView" 599 213),(dl P "line_rule_hard" 609 224),(dl P "line_rule_spaces" 617 231),(dl P "line_rule_glue" 627 238),(dl P "line_rule_closing" 637 245),(dl P "line_rule_quotes" 646 252),(dl P "line_rule_over_spaces" 656 259),(dl P "line_rule_signs" 667 266),(dl P "line_rule_letters" 677 273),(dl P "line_is_number" 685 280),(dl P "line_rule_expression" 697 287),(dl P "line_rule_numbers" 705 294),(dl P "line_rule_syllables" 715 301),(dl P "line_is_aksara" 724 308),(dl P "line_rule_aksaras" 738 315),(dl P "line_rule_brackets" 748 322),(dl P "line_rule_pictures" 759 329),(dl P "line_verdict" 768 336),(dl P "line_verdicts" 780 343),(dl P "LineBreaks" 855 396),(dl P "range_are_like" 865 407),(dl P "RangeMap" 934 452),(dl P "data_defaults" 944 463),(dl P "Data" 1003 501),(dl P "_law_deck" 1011 510)]
def Oi:PO:=fun P=>(oB (vt "dict") (Data.dict (List.toArray (dq4 P)) 66))
noncomputable def Oj:PO:=fun P=>(oB Value.none (Data.fields (List.toArray [(vi 1 0),(vi 0 0),(vr 20),(vi 6 0),(vi 0 0),(vr 27),(vi 10 0),(vi 0 0),(vr 48),(vi 12 0),(vi 0 0),(vr 60),(vi 45 0),(vi 0 0),(vr 110),(vi 55 0),(vi 0 0),(vr 132),(vi 62 0),(vi 0 0),(vr 139),(vi 73 0),(vi 0 0),(vr 146),(vi 80 0),(vi 0 0),(vr 167),(vi 91 0),(vi 0 0),(vr 174),(vi 120 0),(vi 0 0),(vr 223),(vi 129 0),(vi 0 0),(vr 230),(vi 135 0),(vi 0 0),(vr 237),(vi 142 0),(vi 0 0),(vr 244),(vi 149 0),(vi 0 0),(vr 251),(vi 156 0),(vi 0 0),(vr 258),(vi 163 0),(vi 0 0),(vr 265),(vi 177 0),(vi 0 0),(vr 272),(vi 186 0),(vi 0 0),(vr 279),(vi 188 0),(vi 0 0),(vr 286),(vi 199 0),(vi 0 0),(vr 293),(vi 203 0),(vi 0 0),(vr 300),(vi 210 0),(vi 0 0),(vr 307),(vi 214 0),(vi 0 0),(vr 314),(vi 221 0),(vi 0 0),(vr 321),(vi 230 0),(vi 0 0),(vr 328),(vi 241 0),(vi 0 0),(vr 335),(vi 247 0),(vi 0 0),(vr 342),(vi 255 0),(vi 0 0),(vr 349),(vi 276 0),(vi 0 0),(vr 406),(vi 278 0),(vi 0 0),(vr 413),(vi 309 0),(vi 0 0),(vr 462),(vi 321 0),(vi 0 0),(vr 469),(vi 342 0),(vi 0 0),(vr 509)])))
def Fg:=hq8 "found" 940 "name" 941
def HW:=hq4 "data_defaults" 64 58
def Fh:=hq5 "data_defaults" 937 "data_defaults" 938 939 309 0 457 458 459 460 461 942 943
def Fi:=hq6 "data_defaults" 64 58 "unicore.data" 935 462
noncomputable def HX:PO:=fun P=>(oB (vt "dict") (Data.dict (List.toArray [(de P "__module__" 952 (vs "unicore.data" 935)),(de P "__qualname__" 954 (vs "Data" 953)),(de P "__firstlineno__" 956 (vi 321 955)),(dl P "__init__" 963 477),(dl P "put" 974 484),(dl P "get" 983 491),(dl P "map_of" 991 498),(dl P "__static_attributes__" 996 499)]) 8))
noncomputable def HY:PO:=fun P=>(oB Value.none (Data.fields (List.toArray [(vi 323 0),(vi 4 0),(vr 476),(vi 329 0),(vi 4 0),(vr 483),(vi 332 0),(vi 4 0),(vr 490),(vi 337 0),(vi 4 0),(vr 497)])))
def HZ:=hq2 "Data" 947 948 949 321 467 468 950 951
def H0:=hq3 469 466 "unicore.data" 935
noncomputable def Fj:PO:=fun P=>(oT [(vs "self" 960)])
def H1:=hq9 "__init__" "Data.__init__" 59 0
def Fk:=hq5 "__init__" 957 "Data.__init__" 958 959 323 1 471 472 473 474 475 961 962
def Fm:=iY "__init__" "Data.__init__" 59 0 "unicore.data" 935 476
noncomputable def Fn:PO:=fun P=>(oT [(vs "self" 967),(vs "name" 968),(vs "first" 969),(vs "last" 970),(vs "value" 971)])
def H2:=hq9 "put" "Data.put" 59 1
def Fo:=hq5 "put" 964 "Data.put" 965 966 329 5 478 479 480 481 482 972 973
def Fp:=iY "put" "Data.put" 59 1 "unicore.data" 935 483
noncomputable def Fq:PO:=fun P=>(oT [(vs "self" 978),(vs "name" 979),(vs "code" 980)])
def H3:=hq9 "get" "Data.get" 59 2
def Fs:=hq5 "get" 975 "Data.get" 976 977 332 3 485 486 487 488 489 981 982
def Ft:=iY "get" "Data.get" 59 2 "unicore.data" 935 490
def Fu:=hq8 "self" 987 "name" 988
def H4:=hq9 "map_of" "Data.map_of" 59 3
def Fv:=hq5 "map_of" 984 "Data.map_of" 985 986 337 2 492 493 494 495 496 989 990
def Fw:=iY "map_of" "Data.map_of" 59 3 "unicore.data" 935 497
def Fx:=jY "defaults" 992 "maps" 993 "properties" 994 "words" 995
noncomputable def Fy:PO:=fun P=>(oB (vt "dict") (Data.dict (List.toArray [(de P "__module__" 952 (vs "unicore.data" 935)),(de P "__firstlineno__" 956 (vi 321 955)),(dl P "__init__" 963 477),(dl P "put" 974 484),(dl P "get" 983 491),(dl P "map_of" 991 498),(dl P "__static_attributes__" 996 499),(dl P "__dict__" 998 502),(dl P "__weakref__" 1000 503),(de P "__doc__" 1001 Value.none)]) 4))
def Fz:=C5 "Data" 501 500 945 953
def FA:=C6 997 501
def FB:=At 999 501
def H5:=yk 501
def H6:=yl 501
def H7:=hq4 "_law_deck" 61 61
def FC:=E3 "_law_deck" 1006 "_law_deck" 1007 1008 342 1 506 507 508 1009 1010
def FD:=hq6 "_law_deck" 61 61 "law_nt0061_01" 1004 509
def dq5(P:Params):=dq4 P++[(dl P "_law_draw" 1021 517),(dl P "_law_pick" 1029 524),(dl P "_law_sorts" 1035 529),(dl P "_law_class" 1044 536),(dl P "_law_units" 1055 543),(dl P "_law_is_figure" 1063 550),(dl P "_law_is_aksara" 1070 557),(dl P "_law_figures" 1081 564),(dl P "_law_ahead" 1097 571),(dl P "_law_joined" 1117 578),(dl P "_law_places" 1123 583),(dl P "_law_drawn" 1129 588)]
def Ok:PO:=fun P=>(oB (vt "dict") (Data.dict (List.toArray (dq5 P)) 78))
noncomputable def Ol:PO:=fun P=>(oB Value.none (Data.fields (List.toArray [(vi 1 0),(vi 0 0),(vr 20),(vi 6 0),(vi 0 0),(vr 27),(vi 10 0),(vi 0 0),(vr 48),(vi 12 0),(vi 0 0),(vr 60),(vi 45 0),(vi 0 0),(vr 110),(vi 55 0),(vi 0 0),(vr 132),(vi 62 0),(vi 0 0),(vr 139),(vi 73 0),(vi 0 0),(vr 146),(vi 80 0),(vi 0 0),(vr 167),(vi 91 0),(vi 0 0),(vr 174),(vi 120 0),(vi 0 0),(vr 223),(vi 129 0),(vi 0 0),(vr 230),(vi 135 0),(vi 0 0),(vr 237),(vi 142 0),(vi 0 0),(vr 244),(vi 149 0),(vi 0 0),(vr 251),(vi 156 0),(vi 0 0),(vr 258),(vi 163 0),(vi 0 0),(vr 265),(vi 177 0),(vi 0 0),(vr 272),(vi 186 0),(vi 0 0),(vr 279),(vi 188 0),(vi 0 0),(vr 286),(vi 199 0),(vi 0 0),(vr 293),(vi 203 0),(vi 0 0),(vr 300),(vi 210 0),(vi 0 0),(vr 307),(vi 214 0),(vi 0 0),(vr 314),(vi 221 0),(vi 0 0),(vr 321),(vi 230 0),(vi 0 0),(vr 328),(vi 241 0),(vi 0 0),(vr 335),(vi 247 0),(vi 0 0),(vr 342),(vi 255 0),(vi 0 0),(vr 349),(vi 276 0),(vi 0 0),(vr 406),(vi 278 0),(vi 0 0),(vr 413),(vi 309 0),(vi 0 0),(vr 462),(vi 321 0),(vi 0 0),(vr 469),(vi 342 0),(vi 0 0),(vr 509),(vi 347 0),(vi 0 0),(vr 516),(vi 359 0),(vi 0 0),(vr 523),(vi 361 0),(vi 0 0),(vr 528),(vi 371 0),(vi 0 0),(vr 535),(vi 380 0),(vi 0 0),(vr 542),(vi 389 0),(vi 0 0),(vr 549),(vi 393 0),(vi 0 0),(vr 556),(vi 395 0),(vi 0 0),(vr 563),(vi 406 0),(vi 0 0),(vr 570),(vi 432 0),(vi 0 0),(vr 577),(vi 467 0),(vi 0 0),(vr 582),(vi 477 0),(vi 0 0),(vr 587)])))
def H8:=jY "deck" 1015 "below" 1016 "figure" 1017 "cell" 1018
def K1:=hq4 "_law_draw" 62 62
def H9:=hq5 "_law_draw" 1012 "_law_draw" 1013 1014 347 2 511 512 513 514 515 1019 1020
def Ie:=hq6 "_law_draw" 62 62 "law_nt0061_01" 1004 516
def Ig:=hq8 "deck" 1025 "some" 1026
def K2:=hq4 "_law_pick" 63 63
def Ih:=hq5 "_law_pick" 1022 "_law_pick" 1023 1024 359 2 518 519 520 521 522 1027 1028
def Ii:=hq6 "_law_pick" 63 63 "law_nt0061_01" 1004 523
def K3:=hq4 "_law_sorts" 64 64
def Ij:=E3 "_law_sorts" 1030 "_law_sorts" 1031 1032 361 0 525 526 527 1033 1034
def Ik:=hq6 "_law_sorts" 64 64 "law_nt0061_01" 1004 528
noncomputable def Il:PO:=fun P=>(oT [(vs "sort" 1039),(vs "strictness" 1040),(vs "name" 1041)])
def K4:=hq4 "_law_class" 65 65
def Im:=hq5 "_law_class" 1036 "_law_class" 1037 1038 371 2 530 531 532 533 534 1042 1043
def Io:=hq6 "_law_class" 65 65 "law_nt0061_01" 1004 535
noncomputable def Ip:PO:=fun P=>(oT [(vs "sorts" 1048),(vs "strictness" 1049),(vs "found" 1050),(vs "sort" 1051),(vs "name" 1052)])
def K5:=hq4 "_law_units" 66 66
def Iq:=hq5 "_law_units" 1045 "_law_units" 1046 1047 380 2 537 538 539 540 541 1053 1054
def Ir:=hq6 "_law_units" 66 66 "law_nt0061_01" 1004 542
def Iu:=hq8 "names" 1059 "at" 1060
def K6:=hq4 "_law_is_figure" 67 67
def Iv:=hq5 "_law_is_figure" 1056 "_law_is_figure" 1057 1058 389 2 544 545 546 547 548 1061 1062
def Iw:=hq6 "_law_is_figure" 67 67 "law_nt0061_01" 1004 549
noncomputable def Ix:PO:=fun P=>(oT [(vs "unit" 1067)])
def K7:=hq4 "_law_is_aksara" 68 68
def Iy:=hq5 "_law_is_aksara" 1064 "_law_is_aksara" 1065 1066 393 1 551 552 553 554 555 1068 1069
def Iz:=hq6 "_law_is_aksara" 68 68 "law_nt0061_01" 1004 556
noncomputable def IB:PO:=fun P=>(oT [(vs "names" 1074),(vs "k" 1075),(vs "is_whole" 1076),(vs "a" 1077),(vs "b" 1078)])
def K8:=hq4 "_law_figures" 69 69
def IC:=hq5 "_law_figures" 1071 "_law_figures" 1072 1073 395 3 558 559 560 561 562 1079 1080
def ID:=hq6 "_law_figures" 69 69 "law_nt0061_01" 1004 563
noncomputable def IE:PO:=fun P=>(oT [(vs "units" 1085),(vs "names" 1086),(vs "k" 1087),(vs "how" 1088),(vs "a" 1089),(vs "b" 1090),(vs "j" 1091),(vs "last" 1092),(vs "opens" 1093),(vs "shuts" 1094)])
def K9:=hq4 "_law_ahead" 70 70
def IF:=hq5 "_law_ahead" 1082 "_law_ahead" 1083 1084 406 4 565 566 567 568 569 1095 1096
def IG:=hq6 "_law_ahead" 70 70 "law_nt0061_01" 1004 570
noncomputable def IH:PO:=fun P=>(oT [(vs "units" 1101),(vs "names" 1102),(vs "k" 1103),(vs "how" 1104),(vs "a" 1105),(vs "b" 1106),(vs "wide" 1107),(vs "letters" 1108),(vs "jamo" 1109),(vs "pictures" 1110),(vs "near" 1111),(vs "far" 1112),(vs "j" 1113),(vs "kept" 1114)])
def La:=hq4 "_law_joined" 71 71
def II:=hq5 "_law_joined" 1098 "_law_joined" 1099 1100 432 4 572 573 574 575 576 1115 1116
def IJ:=hq6 "_law_joined" 71 71 "law_nt0061_01" 1004 577
def Lb:=hq4 "_law_places" 72 72
def IK:=E3 "_law_places" 1118 "_law_places" 1119 1120 467 2 579 580 581 1121 1122
def IL:=hq6 "_law_places" 72 72 "law_nt0061_01" 1004 582
def Lc:=hq4 "_law_drawn" 73 73
def IM:=E3 "_law_drawn" 1124 "_law_drawn" 1125 1126 477 2 584 585 586 1127 1128
def IN:=hq6 "_law_drawn" 73 73 "law_nt0061_01" 1004 587
def dq6(P:Params):=dq5 P++[(dl P "_law_data" 1141 595),(dl P "law" 1157 602)]
def Ld:PO:=fun P=>(oB (vt "dict") (Data.dict (List.toArray (dq6 P)) 80))
noncomputable def MG:PO:=fun P=>(oB Value.none (Data.fields (List.toArray [(vi 1 0),(vi 0 0),(vr 20),(vi 6 0),(vi 0 0),(vr 27),(vi 10 0),(vi 0 0),(vr 48),(vi 12 0),(vi 0 0),(vr 60),(vi 45 0),(vi 0 0),(vr 110),(vi 55 0),(vi 0 0),(vr 132),(vi 62 0),(vi 0 0),(vr 139),(vi 73 0),(vi 0 0),(vr 146),(vi 80 0),(vi 0 0),(vr 167),(vi 91 0),(vi 0 0),(vr 174),(vi 120 0),(vi 0 0),(vr 223),(vi 129 0),(vi 0 0),(vr 230),(vi 135 0),(vi 0 0),(vr 237),(vi 142 0),(vi 0 0),(vr 244),(vi 149 0),(vi 0 0),(vr 251),(vi 156 0),(vi 0 0),(vr 258),(vi 163 0),(vi 0 0),(vr 265),(vi 177 0),(vi 0 0),(vr 272),(vi 186 0),(vi 0 0),(vr 279),(vi 188 0),(vi 0 0),(vr 286),(vi 199 0),(vi 0 0),(vr 293),(vi 203 0),(vi 0 0),(vr 300),(vi 210 0),(vi 0 0),(vr 307),(vi 214 0),(vi 0 0),(vr 314),(vi 221 0),(vi 0 0),(vr 321),(vi 230 0),(vi 0 0),(vr 328),(vi 241 0),(vi 0 0),(vr 335),(vi 247 0),(vi 0 0),(vr 342),(vi 255 0),(vi 0 0),(vr 349),(vi 276 0),(vi 0 0),(vr 406),(vi 278 0),(vi 0 0),(vr 413),(vi 309 0),(vi 0 0),(vr 462),(vi 321 0),(vi 0 0),(vr 469),(vi 342 0),(vi 0 0),(vr 509),(vi 347 0),(vi 0 0),(vr 516),(vi 359 0),(vi 0 0),(vr 523),(vi 361 0),(vi 0 0),(vr 528),(vi 371 0),(vi 0 0),(vr 535),(vi 380 0),(vi 0 0),(vr 542),(vi 389 0),(vi 0 0),(vr 549),(vi 393 0),(vi 0 0),(vr 556),(vi 395 0),(vi 0 0),(vr 563),(vi 406 0),(vi 0 0),(vr 570),(vi 432 0),(vi 0 0),(vr 577),(vi 467 0),(vi 0 0),(vr 582),(vi 477 0),(vi 0 0),(vr 587),(vi 481 0),(vi 0 0),(vr 594),(vi 495 0),(vi 0 0),(vr 601)])))
noncomputable def Lf:PO:=fun P=>(oT [(vs "sorts" 1133),(vs "data" 1134),(vs "codes" 1135),(vs "known" 1136),(vs "sort" 1137),(vs "code" 1138)])
def MH:=hq4 "_law_data" 74 74
def Lg:=hq5 "_law_data" 1130 "_law_data" 1131 1132 481 1 589 590 591 592 593 1139 1140
def Lh:=hq6 "_law_data" 74 74 "law_nt0061_01" 1004 594
noncomputable def Li:PO:=fun P=>(oT [(vs "script" 1145),(vs "deck" 1146),(vs "sorts" 1147),(vs "how" 1148),(vs "data" 1149),(vs "codes" 1150),(vs "was" 1151),(vs "due" 1152),(vs "tool" 1153),(vs "at" 1154)])
def MI:=hq4 "law" 75 75
def Lj:=hq5 "law" 1142 "law" 1143 1144 495 1 596 597 598 599 600 1155 1156
def Lk:=hq6 "law" 75 75 "law_nt0061_01" 1004 601
def h46:Params->PySem.Heap:=fun P=>(Heap.mk ⟨[boot_o_0 P,boot_o_1 P,boot_o_2 P,boot_o_3 P,boot_o_4 P,boot_o_5 P,boot_o_6 P,boot_o_7 P,boot_o_8 P,boot_o_9 P,boot_o_10 P,hq0 P,hq1 P,o45 P,o46 P]⟩ (Life.mk [] [] [] 0 [] [] Bool.false (List.toArray []) [] 0 Bool.false Bool.false Bool.false 0 [2000,10,10] Bool.false 0 Bool.true [] [] 0 Bool.false))
def t47:TP:=(q boot_o_0 (q boot_o_1 (q boot_o_3 (f boot_o_7) (f hq0)) (q boot_o_5 (f boot_o_9) (f o45))) (q boot_o_2 (q boot_o_4 (f boot_o_8) (f hq1)) (q boot_o_6 (f boot_o_10) (f o46))))
def t79:TP:=(q boot_o_0 (q boot_o_1 (q o50 (q boot_o_7 (q hq0 (f hq1) e) (q hq7 (f o76) e)) (q hq0 (q o56 (f o72) e) (f o64))) (q boot_o_5 (q boot_o_9 (q o54 (f hq0) e) (q hq0 (f o78) e)) (q o45 (q o58 (f o74) e) (f o66)))) (q o49 (q boot_o_4 (q boot_o_8 (q hq1 (f o69) e) (q o61 (f o77) e)) (q o51 (q o57 (f o73) e) (f o65))) (q boot_o_6 (q boot_o_10 (q hq0 (f o71) e) (q o63 (f o79) e)) (q o46 (q o59 (f o75) e) (f hq0)))))
def IO:TP:=(q boot_o_0 (q boot_o_1 (q o80 (q boot_o_7 (q hq0 (q hq1 (f mL) e) (f hq1)) (q hq7 (f o82) (f hq0))) (q hq0 (q o56 (q o72 (f mT) e) (f o91)) (q o64 (f o83) (f o99)))) (q boot_o_5 (q boot_o_9 (q o54 (q hq0 (f mP) e) (f o89)) (q hq0 (f o78) (f o97))) (q o45 (q o58 (q o74 (f mX) e) (f o93)) (q o66 (f o85) (f mJ))))) (q o49 (q boot_o_4 (q boot_o_8 (q hq1 (q o69 (f mO) e) (f o88)) (q o61 (f o77) (f hq1))) (q o81 (q o57 (q o73 (f mV) e) (f o92)) (q o65 (f hq7) (f mI)))) (q boot_o_6 (q boot_o_10 (q hq0 (q o71 (f mR) e) (f hq0)) (q o63 (f o79) (f hq0))) (q o46 (q o59 (q o75 (f mZ) e) (f o94)) (q hq0 (f hq0) (f mK))))))
def IP:TP:=(q boot_o_0 (q boot_o_1 (q NZ (q boot_o_7 (q hq0 (q hq1 (f mL) (f oH)) (q hq1 (f og) e)) (q hq7 (q o82 (f nV) (f oP)) (q hq0 (f ow) e))) (q hq0 (q o56 (q o72 (f mT) (f oL)) (q o91 (f oo) e)) (q o64 (q o83 (f nZ) e) (q o99 (f oA) e)))) (q boot_o_5 (q boot_o_9 (q o54 (q hq0 (f mP) (f oJ)) (q o89 (f ol) e)) (q hq0 (q o78 (f nX) e) (q o97 (f oy) e))) (q o45 (q o58 (q o74 (f mX) (f oN)) (q o93 (f ot) e)) (q o66 (q o85 (f ob) e) (q mJ (f oF) e))))) (q o49 (q boot_o_4 (q boot_o_8 (q hq1 (q o69 (f mO) (f oI)) (q o88 (f oh) e)) (q o61 (q o77 (f nW) (f oQ)) (q hq1 (f ox) e))) (q o81 (q o57 (q o73 (f mV) (f oM)) (q o92 (f oq) e)) (q o65 (q hq7 (f oa) e) (q mI (f oE) e)))) (q boot_o_6 (q boot_o_10 (q hq0 (q o71 (f mR) (f oK)) (q hq0 (f om) e)) (q o63 (q o79 (f nY) e) (q hq0 (f oz) e))) (q o46 (q o59 (q o75 (f mZ) (f oO)) (q o94 (f ou) e)) (q hq0 (q hq0 (f oe) e) (q mK (f oG) e))))))
def MJ:TP:=(q boot_o_0 (q boot_o_1 (q N3 (q boot_o_7 (q hq0 (q hq1 (q mL (f hq0) e) (f oH)) (q hq1 (f og) (f rB))) (q hq7 (q o82 (q nV (f hq1) e) (f oP)) (q hq0 (f ow) (f qm)))) (q hq0 (q o56 (q o72 (q mT (f rF) e) (f oL)) (q o91 (f oo) (f qk))) (q o64 (q o83 (q nZ (f qx) e) (f rq)) (q o99 (f oA) (f qq))))) (q boot_o_5 (q boot_o_9 (q o54 (q hq0 (q mP (f qs) e) (f oJ)) (q o89 (f ol) (f hq0))) (q hq0 (q o78 (q nX (f hq0) e) (f hq0)) (q o97 (f oy) (f qo)))) (q o45 (q o58 (q o74 (q mX (f qv) e) (f oN)) (q o93 (f ot) (f rC))) (q o66 (q o85 (f ob) (f rt)) (q mJ (f oF) (f rD)))))) (q o49 (q boot_o_4 (q boot_o_8 (q hq1 (q o69 (q mO (f hq1) e) (f oI)) (q o88 (f oh) (f qj))) (q o61 (q o77 (q nW (f qw) e) (f oQ)) (q hq1 (f ox) (f qn)))) (q N4 (q o57 (q o73 (q mV (f qt) e) (f oM)) (q o92 (f oq) (f hq0))) (q o65 (q hq7 (q oa (f qy) e) (f hq0)) (q mI (f oE) (f qr))))) (q boot_o_6 (q boot_o_10 (q hq0 (q o71 (q mR (f hq0) e) (f oK)) (q hq0 (f om) (f hq1))) (q o63 (q o79 (q nY (f rG) e) (f hq7)) (q hq0 (f oz) (f qp)))) (q o46 (q o59 (q o75 (q mZ (f hq0) e) (f oO)) (q o94 (f ou) (f ql))) (q hq0 (q hq0 (f oe) (f rA)) (q mK (f oG) (f rE)))))))
def MM:TP:=(q boot_o_0 (q boot_o_1 (q N5 (q boot_o_7 (q hq0 (q hq1 (q mL (f hq0) e) (q oH (f rO) e)) (q hq1 (q og (f tu) e) (f rB))) (q hq7 (q o82 (q nV (f hq1) e) (q oP (f rQ) e)) (q hq0 (q ow (f hq0) e) (f qm)))) (q hq0 (q o56 (q o72 (q mT (f rF) e) (q oL (f hq1) e)) (q o91 (q oo (f tz) e) (f qk))) (q o64 (q o83 (q nZ (f qx) e) (f rq)) (q o99 (q oA (f rK) e) (f qq))))) (q boot_o_5 (q boot_o_9 (q o54 (q hq0 (q mP (f qs) e) (q oJ (f tC) e)) (q o89 (q ol (f tw) e) (f hq0))) (q hq0 (q o78 (q nX (f hq0) e) (f hq0)) (q o97 (q oy (f rI) e) (f qo)))) (q o45 (q o58 (q o74 (q mX (f qv) e) (q oN (f hq0) e)) (q o93 (q ot (f hq1) e) (f rC))) (q o66 (q o85 (q ob (f hq0) e) (f rt)) (q mJ (q oF (f rM) e) (f rD)))))) (q o49 (q boot_o_4 (q boot_o_8 (q hq1 (q o69 (q mO (f hq1) e) (q oI (f tB) e)) (q o88 (q oh (f hq0) e) (f qj))) (q o61 (q o77 (q nW (f qw) e) (q oQ (f rR) e)) (q hq1 (q ox (f tA) e) (f qn)))) (q N6 (q o57 (q o73 (q mV (f qt) e) (q oM (f rP) e)) (q o92 (q oq (f hq0) e) (f hq0))) (q o65 (q hq7 (q oa (f qy) e) (f hq0)) (q mI (q oE (f rL) e) (f qr))))) (q boot_o_6 (q boot_o_10 (q hq0 (q o71 (q mR (f hq0) e) (q oK (f hq0) e)) (q hq0 (q om (f tx) e) (f hq1))) (q o63 (q o79 (q nY (f rG) e) (f hq7)) (q hq0 (q oz (f rJ) e) (f qp)))) (q o46 (q o59 (q o75 (q mZ (f hq0) e) (q oO (f tD) e)) (q o94 (q ou (f rH) e) (f ql))) (q hq0 (q hq0 (q oe (f hq7) e) (f rA)) (q mK (q oG (f rN) e) (f rE)))))))
def MN:TP:=(q boot_o_0 (q boot_o_1 (q N7 (q boot_o_7 (q hq0 (q hq1 (q mL (f hq0) (f hq1)) (q oH (f rO) (f t7))) (q hq1 (q og (f tu) (f hq0)) (q rB (f vU) e))) (q hq7 (q o82 (q nV (f hq1) (f tP)) (q oP (f rQ) e)) (q hq0 (q ow (f hq0) (f tZ)) (q qm (f hq0) e)))) (q hq0 (q o56 (q o72 (q mT (f rF) (f tN)) (q oL (f hq1) e)) (q o91 (q oo (f tz) (f tV)) (q qk (f hq0) e))) (q o64 (q o83 (q nZ (f qx) (f tR)) (q rq (f vQ) e)) (q o99 (q oA (f rK) (f hq1)) (q qq (f vW) e))))) (q boot_o_5 (q boot_o_9 (q o54 (q hq0 (q mP (f qs) (f hq0)) (q oJ (f tC) e)) (q o89 (q ol (f tw) (f tT)) (q hq0 (f hq1) e))) (q hq0 (q o78 (q nX (f hq0) (f vY)) (q hq0 (f hq0) e)) (q o97 (q oy (f rI) (f wb)) (q qo (f tH) e)))) (q o45 (q o58 (q o74 (q mX (f qv) (f hq0)) (q oN (f hq0) e)) (q o93 (q ot (f hq1) (f tX)) (q rC (f tF) e))) (q o66 (q o85 (q ob (f hq0) (f hq1)) (q rt (f vR) e)) (q mJ (q oF (f rM) (f hq0)) (q rD (f tL) e)))))) (q o49 (q boot_o_4 (q boot_o_8 (q hq1 (q o69 (q mO (f hq1) (f tM)) (q oI (f tB) (f t8))) (q o88 (q oh (f hq0) (f vZ)) (q qj (f hq0) e))) (q o61 (q o77 (q nW (f qw) (f hq0)) (q oQ (f rR) e)) (q hq1 (q ox (f tA) (f wa)) (q qn (f hq1) e)))) (q N8 (q o57 (q o73 (q mV (f qt) (f tO)) (q oM (f rP) e)) (q o92 (q oq (f hq0) (f tW)) (q hq0 (f vV) e))) (q o65 (q hq7 (q oa (f qy) (f hq0)) (q hq0 (f hq0) e)) (q mI (q oE (f rL) (f t6)) (q qr (f tJ) e))))) (q boot_o_6 (q boot_o_10 (q hq0 (q o71 (q mR (f hq0) (f vX)) (q oK (f hq0) e)) (q hq0 (q om (f tx) (f tU)) (q hq1 (f tE) e))) (q o63 (q o79 (q nY (f rG) (f tQ)) (q hq7 (f hq7) e)) (q hq0 (q oz (f rJ) (f hq0)) (q qp (f hq0) e)))) (q o46 (q o59 (q o75 (q mZ (f hq0) (f hq1)) (q oO (f tD) e)) (q o94 (q ou (f rH) (f tY)) (q ql (f tG) e))) (q hq0 (q hq0 (q oe (f hq7) (f tS)) (q rA (f vS) e)) (q mK (q oG (f rN) (f wc)) (q rE (f hq0) e)))))))
def MQ:TP:=(q boot_o_0 (q boot_o_1 (q N9 (q boot_o_7 (q hq0 (q hq1 (q mL (q hq0 (f wq) e) (f hq1)) (q oH (q rO (f wI) e) (f t7))) (q hq1 (q og (q tu (f yt) e) (f hq0)) (q rB (q vU (f hq1) e) (f hq0)))) (q hq7 (q o82 (q nV (q hq1 (f hq0) e) (f tP)) (q oP (q rQ (f hq0) e) (f wg))) (q hq0 (q ow (q hq0 (f wE) e) (f tZ)) (q qm (f hq0) (f hq1))))) (q hq0 (q o56 (q o72 (q mT (q rF (f wu) e) (f tN)) (q oL (q hq1 (f hq0) e) (f we))) (q o91 (q oo (q tz (f hq1) e) (f tV)) (q qk (q hq0 (f wQ) e) (f yo)))) (q o64 (q o83 (q nZ (q qx (f hq0) e) (f tR)) (q rq (q vQ (f yy) e) (f hq0))) (q o99 (q oA (q rK (f wG) e) (f hq1)) (q qq (f vW) (f wo)))))) (q boot_o_5 (q boot_o_9 (q o54 (q hq0 (q mP (q qs (f yq) e) (f hq0)) (q oJ (q tC (f hq1) e) (f hq0))) (q o89 (q ol (q tw (f wB) e) (f tT)) (q hq0 (q hq1 (f hq0) e) (f wk)))) (q hq0 (q o78 (q nX (q hq0 (f ww) e) (f vY)) (q hq0 (q hq0 (f wM) e) (f hq1))) (q o97 (q oy (q rI (f hq0) e) (f wb)) (q qo (f tH) (f hq0))))) (q o45 (q o58 (q o74 (q mX (q qv (f hq1) e) (f hq0)) (q oN (q hq0 (f wK) e) (f ym))) (q o93 (q ot (q hq1 (f hq0) e) (f tX)) (q rC (f tF) (f wm)))) (q o66 (q o85 (q ob (q hq0 (f wy) e) (f hq1)) (q rt (q vR (f wO) e) (f wi))) (q mJ (q oF (q rM (f yw) e) (f hq0)) (q rD (f tL) (f hq0))))))) (q o49 (q boot_o_4 (q boot_o_8 (q hq1 (q o69 (q mO (q hq1 (f hq0) e) (f tM)) (q oI (q tB (f hq0) e) (f t8))) (q o88 (q oh (q hq0 (f wz) e) (f vZ)) (q qj (q hq0 (f wP) e) (f hq1)))) (q o61 (q o77 (q nW (q qw (f yr) e) (f hq0)) (q oQ (q rR (f hq1) e) (f hq0))) (q hq1 (q ox (q tA (f wF) e) (f wa)) (q qn (f hq1) (f wn))))) (q Ob (q o57 (q o73 (q mV (q qt (f hq0) e) (f tO)) (q oM (q rP (f yx) e) (f hq0))) (q o92 (q oq (q hq0 (f wC) e) (f tW)) (q hq0 (q vV (f wR) e) (f wl)))) (q o65 (q hq7 (q oa (q qy (f hq1) e) (f hq0)) (q hq0 (q hq0 (f wN) e) (f yn))) (q mI (q oE (q rL (f hq0) e) (f t6)) (q qr (f tJ) (f wp)))))) (q boot_o_6 (q boot_o_10 (q hq0 (q o71 (q mR (q hq0 (f wr) e) (f vX)) (q oK (q hq0 (f wJ) e) (f hq1))) (q hq0 (q om (q tx (f hq0) e) (f tU)) (q hq1 (q tE (f yz) e) (f hq0)))) (q o63 (q o79 (q nY (q rG (f wx) e) (f tQ)) (q hq7 (q hq7 (f hq0) e) (f wh))) (q hq0 (q oz (q rJ (f hq1) e) (f hq0)) (q qp (f hq0) (f yp))))) (q o46 (q o59 (q o75 (q mZ (q hq0 (f wv) e) (f hq1)) (q oO (q tD (f wL) e) (f wf))) (q o94 (q ou (q rH (f yu) e) (f tY)) (q ql (f tG) (f hq0)))) (q hq0 (q hq0 (q oe (q hq7 (f hq0) e) (f tS)) (q rA (q vS (f hq0) e) (f wj))) (q mK (q oG (q rN (f wH) e) (f wc)) (q rE (f hq0) (f hq1))))))))
def MR:TP:=(q boot_o_0 (q boot_o_1 (q Oc (q boot_o_7 (q hq0 (q hq1 (q mL (q hq0 (f wq) e) (q hq1 (f hq0) e)) (q oH (q rO (f wI) e) (f t7))) (q hq1 (q og (q tu (f yt) e) (q hq0 (f yL) e)) (q rB (q vU (f hq1) e) (f hq0)))) (q hq7 (q o82 (q nV (q hq1 (f hq0) e) (q tP (f Aw) e)) (q oP (q rQ (f hq0) e) (f wg))) (q hq0 (q ow (q hq0 (f wE) e) (q tZ (f yP) e)) (q qm (q hq0 (f yB) e) (f hq1))))) (q hq0 (q o56 (q o72 (q mT (q rF (f wu) e) (q tN (f hq0) e)) (q oL (q hq1 (f hq0) e) (f we))) (q o91 (q oo (q tz (f hq1) e) (q tV (f yN) e)) (q qk (q hq0 (f wQ) e) (f yo)))) (q o64 (q o83 (q nZ (q qx (f hq0) e) (q tR (f hq1) e)) (q rq (q vQ (f yy) e) (f hq0))) (q o99 (q oA (q rK (f wG) e) (f hq1)) (q qq (q vW (f yD) e) (f wo)))))) (q boot_o_5 (q boot_o_9 (q o54 (q hq0 (q mP (q qs (f yq) e) (q hq0 (f yF) e)) (q oJ (q tC (f hq1) e) (f hq0))) (q o89 (q ol (q tw (f wB) e) (q tT (f hq0) e)) (q hq0 (q hq1 (f hq0) e) (f wk)))) (q hq0 (q o78 (q nX (q hq0 (f ww) e) (q vY (f yJ) e)) (q hq0 (q hq0 (f wM) e) (f hq1))) (q o97 (q oy (q rI (f hq0) e) (f wb)) (q qo (q tH (f Au) e) (f hq0))))) (q o45 (q o58 (q o74 (q mX (q qv (f hq1) e) (q hq0 (f yH) e)) (q oN (q hq0 (f wK) e) (f ym))) (q o93 (q ot (q hq1 (f hq0) e) (q tX (f Ay) e)) (q rC (q tF (f hq0) e) (f wm)))) (q o66 (q o85 (q ob (q hq0 (f wy) e) (q hq1 (f hq0) e)) (q rt (q vR (f wO) e) (f wi))) (q mJ (q oF (q rM (f yw) e) (f hq0)) (q rD (q tL (f hq1) e) (f hq0))))))) (q o49 (q boot_o_4 (q boot_o_8 (q hq1 (q o69 (q mO (q hq1 (f hq0) e) (q tM (f Av) e)) (q oI (q tB (f hq0) e) (f t8))) (q o88 (q oh (q hq0 (f wz) e) (q vZ (f yM) e)) (q qj (q hq0 (f wP) e) (f hq1)))) (q o61 (q o77 (q nW (q qw (f yr) e) (q hq0 (f yI) e)) (q oQ (q rR (f hq1) e) (f hq0))) (q hq1 (q ox (q tA (f wF) e) (f wa)) (q qn (q hq1 (f hq0) e) (f wn))))) (q Od (q o57 (q o73 (q mV (q qt (f hq0) e) (q tO (f hq1) e)) (q oM (q rP (f yx) e) (f hq0))) (q o92 (q oq (q hq0 (f wC) e) (q tW (f hq0) e)) (q hq0 (q vV (f wR) e) (f wl)))) (q o65 (q hq7 (q oa (q qy (f hq1) e) (q hq0 (f yK) e)) (q hq0 (q hq0 (f wN) e) (f yn))) (q mI (q oE (q rL (f hq0) e) (f t6)) (q qr (q tJ (f hq0) e) (f wp)))))) (q boot_o_6 (q boot_o_10 (q hq0 (q o71 (q mR (q hq0 (f wr) e) (q vX (f yG) e)) (q oK (q hq0 (f wJ) e) (f hq1))) (q hq0 (q om (q tx (f hq0) e) (q tU (f hq1) e)) (q hq1 (q tE (f yz) e) (f hq0)))) (q o63 (q o79 (q nY (q rG (f wx) e) (q tQ (f hq0) e)) (q hq7 (q hq7 (f hq0) e) (f wh))) (q hq0 (q oz (q rJ (f hq1) e) (f hq0)) (q qp (q hq0 (f yC) e) (f yp))))) (q o46 (q o59 (q o75 (q mZ (q hq0 (f wv) e) (q hq1 (f hq0) e)) (q oO (q tD (f wL) e) (f wf))) (q o94 (q ou (q rH (f yu) e) (q tY (f yO) e)) (q ql (q tG (f hq1) e) (f hq0)))) (q hq0 (q hq0 (q oe (q hq7 (f hq0) e) (q tS (f Ax) e)) (q rA (q vS (f hq0) e) (f wj))) (q mK (q oG (q rN (f wH) e) (f wc)) (q rE (q hq0 (f yE) e) (f hq1))))))))
def MT:TP:=(q boot_o_0 (q boot_o_1 (q Oe (q boot_o_7 (q hq0 (q hq1 (q mL (q hq0 (f wq) (f hq0)) (q hq1 (f hq0) e)) (q oH (q rO (f wI) e) (q t7 (f Az) e))) (q hq1 (q og (q tu (f yt) (f Dh)) (q hq0 (f yL) e)) (q rB (q vU (f hq1) e) (q hq0 (f hq0) e)))) (q hq7 (q o82 (q nV (q hq1 (f hq0) (f Dg)) (q tP (f Aw) e)) (q oP (q rQ (f hq0) e) (q wg (f hq0) e))) (q hq0 (q ow (q hq0 (f wE) e) (q tZ (f yP) e)) (q qm (q hq0 (f yB) e) (q hq1 (f De) e))))) (q hq0 (q o56 (q o72 (q mT (q rF (f wu) (f hq0)) (q tN (f hq0) e)) (q oL (q hq1 (f hq0) e) (q we (f hq0) e))) (q o91 (q oo (q tz (f hq1) e) (q tV (f yN) e)) (q qk (q hq0 (f wQ) e) (q yo (f hq0) e)))) (q o64 (q o83 (q nZ (q qx (f hq0) (f AU)) (q tR (f hq1) e)) (q rq (q vQ (f yy) e) (q hq0 (f AE) e))) (q o99 (q oA (q rK (f wG) e) (q hq1 (f hq0) e)) (q qq (q vW (f yD) e) (q wo (f AM) e)))))) (q boot_o_5 (q boot_o_9 (q o54 (q hq0 (q mP (q qs (f yq) (f AO)) (q hq0 (f yF) e)) (q oJ (q tC (f hq1) e) (q hq0 (f hq1) e))) (q o89 (q ol (q tw (f wB) e) (q tT (f hq0) e)) (q hq0 (q hq1 (f hq0) e) (q wk (f AG) e)))) (q hq0 (q o78 (q nX (q hq0 (f ww) (f AS)) (q vY (f yJ) e)) (q hq0 (q hq0 (f wM) e) (q hq1 (f Dc) e))) (q o97 (q oy (q rI (f hq0) e) (q wb (f hq7) e)) (q qo (q tH (f Au) e) (q hq0 (f AL) e))))) (q o45 (q o58 (q o74 (q mX (q qv (f hq1) (f AQ)) (q hq0 (f yH) e)) (q oN (q hq0 (f wK) e) (q ym (f AB) e))) (q o93 (q ot (q hq1 (f hq0) e) (q tX (f Ay) e)) (q rC (q tF (f hq0) e) (q wm (f AI) e)))) (q o66 (q o85 (q ob (q hq0 (f wy) (f AW)) (q hq1 (f hq0) e)) (q rt (q vR (f wO) e) (q wi (f hq1) e))) (q mJ (q oF (q rM (f yw) e) (q hq0 (f C9) e)) (q rD (q tL (f hq1) e) (q hq0 (f hq1) e))))))) (q o49 (q boot_o_4 (q boot_o_8 (q hq1 (q o69 (q mO (q hq1 (f hq0) (f Df)) (q tM (f Av) e)) (q oI (q tB (f hq0) e) (q t8 (f hq0) e))) (q o88 (q oh (q hq0 (f wz) (f Di)) (q vZ (f yM) e)) (q qj (q hq0 (f wP) e) (q hq1 (f Dd) e)))) (q o61 (q o77 (q nW (q qw (f yr) (f AR)) (q hq0 (f yI) e)) (q oQ (q rR (f hq1) e) (q hq0 (f hq1) e))) (q hq1 (q ox (q tA (f wF) e) (q wa (f hq0) e)) (q qn (q hq1 (f hq0) e) (q wn (f AJ) e))))) (q Of (q o57 (q o73 (q mV (q qt (f hq0) (f hq1)) (q tO (f hq1) e)) (q oM (q rP (f yx) e) (q hq0 (f Db) e))) (q o92 (q oq (q hq0 (f wC) e) (q tW (f hq0) e)) (q hq0 (q vV (f wR) e) (q wl (f hq1) e)))) (q o65 (q hq7 (q oa (q qy (f hq1) (f AV)) (q hq0 (f yK) e)) (q hq0 (q hq0 (f wN) e) (q yn (f hq0) e))) (q mI (q oE (q rL (f hq0) e) (q t6 (f C8) e)) (q qr (q tJ (f hq0) e) (q wp (f hq0) e)))))) (q boot_o_6 (q boot_o_10 (q hq0 (q o71 (q mR (q hq0 (f wr) (f AP)) (q vX (f yG) e)) (q oK (q hq0 (f wJ) e) (q hq1 (f AA) e))) (q hq0 (q om (q tx (f hq0) e) (q tU (f hq1) e)) (q hq1 (q tE (f yz) e) (q hq0 (f AH) e)))) (q o63 (q o79 (q nY (q rG (f wx) (f AT)) (q tQ (f hq0) e)) (q hq7 (q hq7 (f hq0) e) (q wh (f AD) e))) (q hq0 (q oz (q rJ (f hq1) e) (q hq0 (f C7) e)) (q qp (q hq0 (f yC) e) (q yp (f hq0) e))))) (q o46 (q o59 (q o75 (q mZ (q hq0 (f wv) (f hq0)) (q hq1 (f hq0) e)) (q oO (q tD (f wL) e) (q wf (f AC) e))) (q o94 (q ou (q rH (f yu) e) (q tY (f yO) e)) (q ql (q tG (f hq1) e) (q hq0 (f hq0) e)))) (q hq0 (q hq0 (q oe (q hq7 (f hq0) (f AX)) (q tS (f Ax) e)) (q rA (q vS (f hq0) e) (q wj (f AF) e))) (q mK (q oG (q rN (f wH) e) (q wc (f Da) e)) (q rE (q hq0 (f yE) e) (q hq1 (f AN) e))))))))
def MU:TP:=(q boot_o_0 (q boot_o_1 (q Og (q boot_o_7 (q hq0 (q hq1 (q mL (q hq0 (f wq) (f hq0)) (q hq1 (f hq0) (f Fd))) (q oH (q rO (f wI) (f hq0)) (q t7 (f Az) e))) (q hq1 (q og (q tu (f yt) (f Dh)) (q hq0 (f yL) e)) (q rB (q vU (f hq1) (f Ds)) (q hq0 (f hq0) e)))) (q hq7 (q o82 (q nV (q hq1 (f hq0) (f Dg)) (q tP (f Aw) (f Fe))) (q oP (q rQ (f hq0) (f hq1)) (q wg (f hq0) e))) (q hq0 (q ow (q hq0 (f wE) (f Dl)) (q tZ (f yP) e)) (q qm (q hq0 (f yB) (f hq0)) (q hq1 (f De) e))))) (q hq0 (q o56 (q o72 (q mT (q rF (f wu) (f hq0)) (q tN (f hq0) (f DD))) (q oL (q hq1 (f hq0) (f E9)) (q we (f hq0) e))) (q o91 (q oo (q tz (f hq1) (f Dj)) (q tV (f yN) e)) (q qk (q hq0 (f wQ) (f Du)) (q yo (f hq0) e)))) (q o64 (q o83 (q nZ (q qx (f hq0) (f AU)) (q tR (f hq1) e)) (q rq (q vQ (f yy) (f Dq)) (q hq0 (f AE) e))) (q o99 (q oA (q rK (f wG) (f hq0)) (q hq1 (f hq0) e)) (q qq (q vW (f yD) (f hq0)) (q wo (f AM) e)))))) (q boot_o_5 (q boot_o_9 (q o54 (q hq0 (q mP (q qs (f yq) (f AO)) (q hq0 (f yF) (f DB))) (q oJ (q tC (f hq1) (f Dm)) (q hq0 (f hq1) e))) (q o89 (q ol (q tw (f wB) (f hq0)) (q tT (f hq0) e)) (q hq0 (q hq1 (f hq0) (f Fb)) (q wk (f AG) e)))) (q hq0 (q o78 (q nX (q hq0 (f ww) (f AS)) (q vY (f yJ) e)) (q hq0 (q hq0 (f wM) (f hq0)) (q hq1 (f Dc) e))) (q o97 (q oy (q rI (f hq0) (f hq7)) (q wb (f hq7) e)) (q qo (q tH (f Au) (f Dw)) (q hq0 (f AL) e))))) (q o45 (q o58 (q o74 (q mX (q qv (f hq1) (f AQ)) (q hq0 (f yH) (f DF))) (q oN (q hq0 (f wK) (f Do)) (q ym (f AB) e))) (q o93 (q ot (q hq1 (f hq0) (f E4)) (q tX (f Ay) e)) (q rC (q tF (f hq0) (f hq1)) (q wm (f AI) e)))) (q o66 (q o85 (q ob (q hq0 (f wy) (f AW)) (q hq1 (f hq0) e)) (q rt (q vR (f wO) (f hq0)) (q wi (f hq1) e))) (q mJ (q oF (q rM (f yw) (f E7)) (q hq0 (f C9) e)) (q rD (q tL (f hq1) (f Dy)) (q hq0 (f hq1) e))))))) (q o49 (q boot_o_4 (q boot_o_8 (q hq1 (q o69 (q mO (q hq1 (f hq0) (f Df)) (q tM (f Av) (f Dz))) (q oI (q tB (f hq0) (f hq1)) (q t8 (f hq0) e))) (q o88 (q oh (q hq0 (f wz) (f Di)) (q vZ (f yM) e)) (q qj (q hq0 (f wP) (f hq0)) (q hq1 (f Dd) e)))) (q o61 (q o77 (q nW (q qw (f yr) (f AR)) (q hq0 (f yI) (f Ff))) (q oQ (q rR (f hq1) (f Dp)) (q hq0 (f hq1) e))) (q hq1 (q ox (q tA (f wF) (f hq0)) (q wa (f hq0) e)) (q qn (q hq1 (f hq0) (f Fc)) (q wn (f AJ) e))))) (q Oh (q o57 (q o73 (q mV (q qt (f hq0) (f hq1)) (q tO (f hq1) (f DE))) (q oM (q rP (f yx) (f Dn)) (q hq0 (f Db) e))) (q o92 (q oq (q hq0 (f wC) (f hq0)) (q tW (f hq0) e)) (q hq0 (q vV (f wR) (f hq0)) (q wl (f hq1) e)))) (q o65 (q hq7 (q oa (q qy (f hq1) (f AV)) (q hq0 (f yK) e)) (q hq0 (q hq0 (f wN) (f Dr)) (q yn (f hq0) e))) (q mI (q oE (q rL (f hq0) (f E6)) (q t6 (f C8) e)) (q qr (q tJ (f hq0) (f hq1)) (q wp (f hq0) e)))))) (q boot_o_6 (q boot_o_10 (q hq0 (q o71 (q mR (q hq0 (f wr) (f AP)) (q vX (f yG) (f DC))) (q oK (q hq0 (f wJ) (f hq0)) (q hq1 (f AA) e))) (q hq0 (q om (q tx (f hq0) (f hq1)) (q tU (f hq1) e)) (q hq1 (q tE (f yz) (f Dt)) (q hq0 (f AH) e)))) (q o63 (q o79 (q nY (q rG (f wx) (f AT)) (q tQ (f hq0) e)) (q hq7 (q hq7 (f hq0) (f Fa)) (q wh (f AD) e))) (q hq0 (q oz (q rJ (f hq1) (f E5)) (q hq0 (f C7) e)) (q qp (q hq0 (f yC) (f Dx)) (q yp (f hq0) e))))) (q o46 (q o59 (q o75 (q mZ (q hq0 (f wv) (f hq0)) (q hq1 (f hq0) (f DG))) (q oO (q tD (f wL) (f hq0)) (q wf (f AC) e))) (q o94 (q ou (q rH (f yu) (f Dk)) (q tY (f yO) e)) (q ql (q tG (f hq1) (f Dv)) (q hq0 (f hq0) e)))) (q hq0 (q hq0 (q oe (q hq7 (f hq0) (f AX)) (q tS (f Ax) e)) (q rA (q vS (f hq0) (f hq1)) (q wj (f AF) e))) (q mK (q oG (q rN (f wH) (f E8)) (q wc (f Da) e)) (q rE (q hq0 (f yE) (f hq0)) (q hq1 (f AN) e))))))))
def MW:TP:=(q boot_o_0 (q boot_o_1 (q Oi (q boot_o_7 (q hq0 (q hq1 (q mL (q hq0 (f wq) (f hq0)) (q hq1 (f hq0) (f Fd))) (q oH (q rO (f wI) (f hq0)) (q t7 (f Az) (f hq1)))) (q hq1 (q og (q tu (f yt) (f Dh)) (q hq0 (f yL) (f Fi))) (q rB (q vU (f hq1) (f Ds)) (q hq0 (f hq0) (f hq0))))) (q hq7 (q o82 (q nV (q hq1 (f hq0) (f Dg)) (q tP (f Aw) (f Fe))) (q oP (q rQ (f hq0) (f hq1)) (q wg (f hq0) (f Fq)))) (q hq0 (q ow (q hq0 (f wE) (f Dl)) (q tZ (f yP) (f hq0))) (q qm (q hq0 (f yB) (f hq0)) (q hq1 (f De) (f FB)))))) (q hq0 (q o56 (q o72 (q mT (q rF (f wu) (f hq0)) (q tN (f hq0) (f DD))) (q oL (q hq1 (f hq0) (f E9)) (q we (f hq0) (f Fo)))) (q o91 (q oo (q tz (f hq1) (f Dj)) (q tV (f yN) (f hq0))) (q qk (q hq0 (f wQ) (f Du)) (q yo (f hq0) (f Fx))))) (q o64 (q o83 (q nZ (q qx (f hq0) (f AU)) (q tR (f hq1) (f Fg))) (q rq (q vQ (f yy) (f Dq)) (q hq0 (f AE) (f Ft)))) (q o99 (q oA (q rK (f wG) (f hq0)) (q hq1 (f hq0) (f H1))) (q qq (q vW (f yD) (f hq0)) (q wo (f AM) (f hq1))))))) (q boot_o_5 (q boot_o_9 (q o54 (q hq0 (q mP (q qs (f yq) (f AO)) (q hq0 (f yF) (f DB))) (q oJ (q tC (f hq1) (f Dm)) (q hq0 (f hq1) (f hq0)))) (q o89 (q ol (q tw (f wB) (f hq0)) (q tT (f hq0) (f hq7))) (q hq0 (q hq1 (f hq0) (f Fb)) (q wk (f AG) (f Fv))))) (q hq0 (q o78 (q nX (q hq0 (f ww) (f AS)) (q vY (f yJ) (f hq0))) (q hq0 (q hq0 (f wM) (f hq0)) (q hq1 (f Dc) (f H3)))) (q o97 (q oy (q rI (f hq0) (f hq7)) (q wb (f hq7) (f Fj))) (q qo (q tH (f Au) (f Dw)) (q hq0 (f AL) (f H6)))))) (q o45 (q o58 (q o74 (q mX (q qv (f hq1) (f AQ)) (q hq0 (f yH) (f DF))) (q oN (q hq0 (f wK) (f Do)) (q ym (f AB) (f hq0)))) (q o93 (q ot (q hq1 (f hq0) (f E4)) (q tX (f Ay) (f HZ))) (q rC (q tF (f hq0) (f hq1)) (q wm (f AI) (f Fz))))) (q o66 (q o85 (q ob (q hq0 (f wy) (f AW)) (q hq1 (f hq0) (f HW))) (q rt (q vR (f wO) (f hq0)) (q wi (f hq1) (f hq1)))) (q mJ (q oF (q rM (f yw) (f E7)) (q hq0 (f C9) (f Fm))) (q rD (q tL (f hq1) (f Dy)) (q hq0 (f hq1) (f FC)))))))) (q o49 (q boot_o_4 (q boot_o_8 (q hq1 (q o69 (q mO (q hq1 (f hq0) (f Df)) (q tM (f Av) (f Dz))) (q oI (q tB (f hq0) (f hq1)) (q t8 (f hq0) (f Fn)))) (q o88 (q oh (q hq0 (f wz) (f Di)) (q vZ (f yM) (f hq0))) (q qj (q hq0 (f wP) (f hq0)) (q hq1 (f Dd) (f H4))))) (q o61 (q o77 (q nW (q qw (f yr) (f AR)) (q hq0 (f yI) (f Ff))) (q oQ (q rR (f hq1) (f Dp)) (q hq0 (f hq1) (f hq0)))) (q hq1 (q ox (q tA (f wF) (f hq0)) (q wa (f hq0) (f hq1))) (q qn (q hq1 (f hq0) (f Fc)) (q wn (f AJ) (f H5)))))) (q Oj (q o57 (q o73 (q mV (q qt (f hq0) (f hq1)) (q tO (f hq1) (f DE))) (q oM (q rP (f yx) (f Dn)) (q hq0 (f Db) (f Fp)))) (q o92 (q oq (q hq0 (f wC) (f hq0)) (q tW (f hq0) (f HY))) (q hq0 (q vV (f wR) (f hq0)) (q wl (f hq1) (f Fy))))) (q o65 (q hq7 (q oa (q qy (f hq1) (f AV)) (q hq0 (f yK) (f hq0))) (q hq0 (q hq0 (f wN) (f Dr)) (q yn (f hq0) (f hq0)))) (q mI (q oE (q rL (f hq0) (f E6)) (q t6 (f C8) (f Fk))) (q qr (q tJ (f hq0) (f hq1)) (q wp (f hq0) (f H7))))))) (q boot_o_6 (q boot_o_10 (q hq0 (q o71 (q mR (q hq0 (f wr) (f AP)) (q vX (f yG) (f DC))) (q oK (q hq0 (f wJ) (f hq0)) (q hq1 (f AA) (f H2)))) (q hq0 (q om (q tx (f hq0) (f hq1)) (q tU (f hq1) (f HX))) (q hq1 (q tE (f yz) (f Dt)) (q hq0 (f AH) (f Fw))))) (q o63 (q o79 (q nY (q rG (f wx) (f AT)) (q tQ (f hq0) (f hq1))) (q hq7 (q hq7 (f hq0) (f Fa)) (q wh (f AD) (f Fs)))) (q hq0 (q oz (q rJ (f hq1) (f E5)) (q hq0 (f C7) (f hq0))) (q qp (q hq0 (f yC) (f Dx)) (q yp (f hq0) (f hq0)))))) (q o46 (q o59 (q o75 (q mZ (q hq0 (f wv) (f hq0)) (q hq1 (f hq0) (f DG))) (q oO (q tD (f wL) (f hq0)) (q wf (f AC) (f hq1)))) (q o94 (q ou (q rH (f yu) (f Dk)) (q tY (f yO) (f H0))) (q ql (q tG (f hq1) (f Dv)) (q hq0 (f hq0) (f FA))))) (q hq0 (q hq0 (q oe (q hq7 (f hq0) (f AX)) (q tS (f Ax) (f Fh))) (q rA (q vS (f hq0) (f hq1)) (q wj (f AF) (f Fu)))) (q mK (q oG (q rN (f wH) (f E8)) (q wc (f Da) (f hq0))) (q rE (q hq0 (f yE) (f hq0)) (q hq1 (f AN) (f FD)))))))))
def MX:TP:=(q boot_o_0 (q boot_o_1 (q Ok (q boot_o_7 (q hq0 (q hq1 (q mL (q hq0 (q wq (f hq0) e) (f hq0)) (q hq1 (q hq0 (f hq0) e) (f Fd))) (q oH (q rO (q wI (f Ir) e) (f hq0)) (q t7 (f Az) (f hq1)))) (q hq1 (q og (q tu (q yt (f K3) e) (f Dh)) (q hq0 (f yL) (f Fi))) (q rB (q vU (q hq1 (f hq1) e) (f Ds)) (q hq0 (f hq0) (f hq0))))) (q hq7 (q o82 (q nV (q hq1 (q hq0 (f hq1) e) (f Dg)) (q tP (q Aw (f IL) e) (f Fe))) (q oP (q rQ (q hq0 (f hq0) e) (f hq1)) (q wg (f hq0) (f Fq)))) (q hq0 (q ow (q hq0 (q wE (f Im) e) (f Dl)) (q tZ (f yP) (f hq0))) (q qm (q hq0 (q yB (f IE) e) (f hq0)) (q hq1 (f De) (f FB)))))) (q hq0 (q o56 (q o72 (q mT (q rF (q wu (f K1) e) (f hq0)) (q tN (q hq0 (f hq0) e) (f DD))) (q oL (q hq1 (q hq0 (f hq0) e) (f E9)) (q we (f hq0) (f Fo)))) (q o91 (q oo (q tz (q hq1 (f hq1) e) (f Dj)) (q tV (f yN) (f hq0))) (q qk (q hq0 (q wQ (f IC) e) (f Du)) (q yo (f hq0) (f Fx))))) (q o64 (q o83 (q nZ (q qx (q hq0 (f Ih) e) (f AU)) (q tR (q hq1 (f IM) e) (f Fg))) (q rq (q vQ (q yy (f K7) e) (f Dq)) (q hq0 (f AE) (f Ft)))) (q o99 (q oA (q rK (q wG (f Ip) e) (f hq0)) (q hq1 (f hq0) (f H1))) (q qq (q vW (q yD (f IG) e) (f hq0)) (q wo (f AM) (f hq1))))))) (q boot_o_5 (q boot_o_9 (q o54 (q hq0 (q mP (q qs (q yq (f H8) e) (f AO)) (q hq0 (q yF (f II) e) (f DB))) (q oJ (q tC (q hq1 (f hq1) e) (f Dm)) (q hq0 (f hq1) (f hq0)))) (q o89 (q ol (q tw (q wB (f Ik) e) (f hq0)) (q tT (f hq0) (f hq7))) (q hq0 (q hq1 (q hq0 (f hq0) e) (f Fb)) (q wk (f AG) (f Fv))))) (q hq0 (q o78 (q nX (q hq0 (q ww (f hq0) e) (f AS)) (q vY (q yJ (f hq1) e) (f hq0))) (q hq0 (q hq0 (q wM (f Ix) e) (f hq0)) (q hq1 (f Dc) (f H3)))) (q o97 (q oy (q rI (q hq0 (f hq0) e) (f hq7)) (q wb (f hq7) (f Fj))) (q qo (q tH (q Au (f K9) e) (f Dw)) (q hq0 (f AL) (f H6)))))) (q o45 (q o58 (q o74 (q mX (q qv (q hq1 (f Ie) e) (f AQ)) (q hq0 (q yH (f Lb) e) (f DF))) (q oN (q hq0 (q wK (f Iv) e) (f Do)) (q ym (f AB) (f hq0)))) (q o93 (q ot (q hq1 (q hq0 (f hq0) e) (f E4)) (q tX (f Ay) (f HZ))) (q rC (q tF (q hq0 (f hq0) e) (f hq1)) (q wm (f AI) (f Fz))))) (q o66 (q o85 (q ob (q hq0 (q wy (f hq0) e) (f AW)) (q hq1 (f hq0) (f HW))) (q rt (q vR (q wO (f Iz) e) (f hq0)) (q wi (f hq1) (f hq1)))) (q mJ (q oF (q rM (q yw (f K5) e) (f E7)) (q hq0 (f C9) (f Fm))) (q rD (q tL (q hq1 (f hq1) e) (f Dy)) (q hq0 (f hq1) (f FC)))))))) (q o49 (q boot_o_4 (q boot_o_8 (q hq1 (q o69 (q mO (q hq1 (q hq0 (f hq1) e) (f Df)) (q tM (q Av (f La) e) (f Dz))) (q oI (q tB (q hq0 (f hq0) e) (f hq1)) (q t8 (f hq0) (f Fn)))) (q o88 (q oh (q hq0 (q wz (f Ij) e) (f Di)) (q vZ (f yM) (f hq0))) (q qj (q hq0 (q wP (f IB) e) (f hq0)) (q hq1 (f Dd) (f H4))))) (q o61 (q o77 (q nW (q qw (q yr (f Ig) e) (f AR)) (q hq0 (q yI (f hq0) e) (f Ff))) (q oQ (q rR (q hq1 (f hq1) e) (f Dp)) (q hq0 (f hq1) (f hq0)))) (q hq1 (q ox (q tA (q wF (f Io) e) (f hq0)) (q wa (f hq0) (f hq1))) (q qn (q hq1 (q hq0 (f hq0) e) (f Fc)) (q wn (f AJ) (f H5)))))) (q Ol (q o57 (q o73 (q mV (q qt (q hq0 (f H9) e) (f hq1)) (q tO (q hq1 (f hq1) e) (f DE))) (q oM (q rP (q yx (f K6) e) (f Dn)) (q hq0 (f Db) (f Fp)))) (q o92 (q oq (q hq0 (q wC (f Il) e) (f hq0)) (q tW (f hq0) (f HY))) (q hq0 (q vV (q wR (f ID) e) (f hq0)) (q wl (f hq1) (f Fy))))) (q o65 (q hq7 (q oa (q qy (q hq1 (f Ii) e) (f AV)) (q hq0 (q yK (f IN) e) (f hq0))) (q hq0 (q hq0 (q wN (f Iy) e) (f Dr)) (q yn (f hq0) (f hq0)))) (q mI (q oE (q rL (q hq0 (f hq0) e) (f E6)) (q t6 (f C8) (f Fk))) (q qr (q tJ (q hq0 (f hq0) e) (f hq1)) (q wp (f hq0) (f H7))))))) (q boot_o_6 (q boot_o_10 (q hq0 (q o71 (q mR (q hq0 (q wr (f hq0) e) (f AP)) (q vX (q yG (f IJ) e) (f DC))) (q oK (q hq0 (q wJ (f Iu) e) (f hq0)) (q hq1 (f AA) (f H2)))) (q hq0 (q om (q tx (q hq0 (f hq0) e) (f hq1)) (q tU (f hq1) (f HX))) (q hq1 (q tE (q yz (f K8) e) (f Dt)) (q hq0 (f AH) (f Fw))))) (q o63 (q o79 (q nY (q rG (q wx (f K2) e) (f AT)) (q tQ (q hq0 (f Lc) e) (f hq1))) (q hq7 (q hq7 (q hq0 (f hq0) e) (f Fa)) (q wh (f AD) (f Fs)))) (q hq0 (q oz (q rJ (q hq1 (f hq1) e) (f E5)) (q hq0 (f C7) (f hq0))) (q qp (q hq0 (q yC (f IF) e) (f Dx)) (q yp (f hq0) (f hq0)))))) (q o46 (q o59 (q o75 (q mZ (q hq0 (q wv (f hq0) e) (f hq0)) (q hq1 (q hq0 (f IK) e) (f DG))) (q oO (q tD (q wL (f Iw) e) (f hq0)) (q wf (f AC) (f hq1)))) (q o94 (q ou (q rH (q yu (f K4) e) (f Dk)) (q tY (f yO) (f H0))) (q ql (q tG (q hq1 (f hq1) e) (f Dv)) (q hq0 (f hq0) (f FA))))) (q hq0 (q hq0 (q oe (q hq7 (q hq0 (f hq1) e) (f AX)) (q tS (f Ax) (f Fh))) (q rA (q vS (q hq0 (f hq0) e) (f hq1)) (q wj (f AF) (f Fu)))) (q mK (q oG (q rN (q wH (f Iq) e) (f E8)) (q wc (f Da) (f hq0))) (q rE (q hq0 (q yE (f IH) e) (f hq0)) (q hq1 (f AN) (f FD)))))))))
def MY:TP:=(q boot_o_0 (q boot_o_1 (q Ld (q boot_o_7 (q hq0 (q hq1 (q mL (q hq0 (q wq (f hq0) e) (f hq0)) (q hq1 (q hq0 (f hq0) e) (f Fd))) (q oH (q rO (q wI (f Ir) e) (f hq0)) (q t7 (f Az) (f hq1)))) (q hq1 (q og (q tu (q yt (f K3) e) (f Dh)) (q hq0 (q yL (f Lf) e) (f Fi))) (q rB (q vU (q hq1 (f hq1) e) (f Ds)) (q hq0 (f hq0) (f hq0))))) (q hq7 (q o82 (q nV (q hq1 (q hq0 (f hq1) e) (f Dg)) (q tP (q Aw (f IL) e) (f Fe))) (q oP (q rQ (q hq0 (f hq0) e) (f hq1)) (q wg (f hq0) (f Fq)))) (q hq0 (q ow (q hq0 (q wE (f Im) e) (f Dl)) (q tZ (q yP (f hq0) e) (f hq0))) (q qm (q hq0 (q yB (f IE) e) (f hq0)) (q hq1 (f De) (f FB)))))) (q hq0 (q o56 (q o72 (q mT (q rF (q wu (f K1) e) (f hq0)) (q tN (q hq0 (f hq0) e) (f DD))) (q oL (q hq1 (q hq0 (f hq0) e) (f E9)) (q we (f hq0) (f Fo)))) (q o91 (q oo (q tz (q hq1 (f hq1) e) (f Dj)) (q tV (q yN (f Lh) e) (f hq0))) (q qk (q hq0 (q wQ (f IC) e) (f Du)) (q yo (f hq0) (f Fx))))) (q o64 (q o83 (q nZ (q qx (q hq0 (f Ih) e) (f AU)) (q tR (q hq1 (f IM) e) (f Fg))) (q rq (q vQ (q yy (f K7) e) (f Dq)) (q hq0 (f AE) (f Ft)))) (q o99 (q oA (q rK (q wG (f Ip) e) (f hq0)) (q hq1 (f hq0) (f H1))) (q qq (q vW (q yD (f IG) e) (f hq0)) (q wo (f AM) (f hq1))))))) (q boot_o_5 (q boot_o_9 (q o54 (q hq0 (q mP (q qs (q yq (f H8) e) (f AO)) (q hq0 (q yF (f II) e) (f DB))) (q oJ (q tC (q hq1 (f hq1) e) (f Dm)) (q hq0 (f hq1) (f hq0)))) (q o89 (q ol (q tw (q wB (f Ik) e) (f hq0)) (q tT (q hq0 (f MH) e) (f hq7))) (q hq0 (q hq1 (q hq0 (f hq0) e) (f Fb)) (q wk (f AG) (f Fv))))) (q hq0 (q o78 (q nX (q hq0 (q ww (f hq0) e) (f AS)) (q vY (q yJ (f hq1) e) (f hq0))) (q hq0 (q hq0 (q wM (f Ix) e) (f hq0)) (q hq1 (f Dc) (f H3)))) (q o97 (q oy (q rI (q hq0 (f hq0) e) (f hq7)) (q wb (q hq7 (f Lj) e) (f Fj))) (q qo (q tH (q Au (f K9) e) (f Dw)) (q hq0 (f AL) (f H6)))))) (q o45 (q o58 (q o74 (q mX (q qv (q hq1 (f Ie) e) (f AQ)) (q hq0 (q yH (f Lb) e) (f DF))) (q oN (q hq0 (q wK (f Iv) e) (f Do)) (q ym (f AB) (f hq0)))) (q o93 (q ot (q hq1 (q hq0 (f hq0) e) (f E4)) (q tX (q Ay (f hq1) e) (f HZ))) (q rC (q tF (q hq0 (f hq0) e) (f hq1)) (q wm (f AI) (f Fz))))) (q o66 (q o85 (q ob (q hq0 (q wy (f hq0) e) (f AW)) (q hq1 (q hq0 (f hq0) e) (f HW))) (q rt (q vR (q wO (f Iz) e) (f hq0)) (q wi (f hq1) (f hq1)))) (q mJ (q oF (q rM (q yw (f K5) e) (f E7)) (q hq0 (f C9) (f Fm))) (q rD (q tL (q hq1 (f hq1) e) (f Dy)) (q hq0 (f hq1) (f FC)))))))) (q o49 (q boot_o_4 (q boot_o_8 (q hq1 (q o69 (q mO (q hq1 (q hq0 (f hq1) e) (f Df)) (q tM (q Av (f La) e) (f Dz))) (q oI (q tB (q hq0 (f hq0) e) (f hq1)) (q t8 (f hq0) (f Fn)))) (q o88 (q oh (q hq0 (q wz (f Ij) e) (f Di)) (q vZ (q yM (f hq0) e) (f hq0))) (q qj (q hq0 (q wP (f IB) e) (f hq0)) (q hq1 (f Dd) (f H4))))) (q o61 (q o77 (q nW (q qw (q yr (f Ig) e) (f AR)) (q hq0 (q yI (f hq0) e) (f Ff))) (q oQ (q rR (q hq1 (f hq1) e) (f Dp)) (q hq0 (f hq1) (f hq0)))) (q hq1 (q ox (q tA (q wF (f Io) e) (f hq0)) (q wa (q hq0 (f MI) e) (f hq1))) (q qn (q hq1 (q hq0 (f hq0) e) (f Fc)) (q wn (f AJ) (f H5)))))) (q MG (q o57 (q o73 (q mV (q qt (q hq0 (f H9) e) (f hq1)) (q tO (q hq1 (f hq1) e) (f DE))) (q oM (q rP (q yx (f K6) e) (f Dn)) (q hq0 (f Db) (f Fp)))) (q o92 (q oq (q hq0 (q wC (f Il) e) (f hq0)) (q tW (q hq0 (f hq0) e) (f HY))) (q hq0 (q vV (q wR (f ID) e) (f hq0)) (q wl (f hq1) (f Fy))))) (q o65 (q hq7 (q oa (q qy (q hq1 (f Ii) e) (f AV)) (q hq0 (q yK (f IN) e) (f hq0))) (q hq0 (q hq0 (q wN (f Iy) e) (f Dr)) (q yn (f hq0) (f hq0)))) (q mI (q oE (q rL (q hq0 (f hq0) e) (f E6)) (q t6 (f C8) (f Fk))) (q qr (q tJ (q hq0 (f hq0) e) (f hq1)) (q wp (f hq0) (f H7))))))) (q boot_o_6 (q boot_o_10 (q hq0 (q o71 (q mR (q hq0 (q wr (f hq0) e) (f AP)) (q vX (q yG (f IJ) e) (f DC))) (q oK (q hq0 (q wJ (f Iu) e) (f hq0)) (q hq1 (f AA) (f H2)))) (q hq0 (q om (q tx (q hq0 (f hq0) e) (f hq1)) (q tU (q hq1 (f Lg) e) (f HX))) (q hq1 (q tE (q yz (f K8) e) (f Dt)) (q hq0 (f AH) (f Fw))))) (q o63 (q o79 (q nY (q rG (q wx (f K2) e) (f AT)) (q tQ (q hq0 (f Lc) e) (f hq1))) (q hq7 (q hq7 (q hq0 (f hq0) e) (f Fa)) (q wh (f AD) (f Fs)))) (q hq0 (q oz (q rJ (q hq1 (f hq1) e) (f E5)) (q hq0 (q C7 (f Lk) e) (f hq0))) (q qp (q hq0 (q yC (f IF) e) (f Dx)) (q yp (f hq0) (f hq0)))))) (q o46 (q o59 (q o75 (q mZ (q hq0 (q wv (f hq0) e) (f hq0)) (q hq1 (q hq0 (f IK) e) (f DG))) (q oO (q tD (q wL (f Iw) e) (f hq0)) (q wf (f AC) (f hq1)))) (q o94 (q ou (q rH (q yu (f K4) e) (f Dk)) (q tY (q yO (f Li) e) (f H0))) (q ql (q tG (q hq1 (f hq1) e) (f Dv)) (q hq0 (f hq0) (f FA))))) (q hq0 (q hq0 (q oe (q hq7 (q hq0 (f hq1) e) (f AX)) (q tS (q Ax (f hq1) e) (f Fh))) (q rA (q vS (q hq0 (f hq0) e) (f hq1)) (q wj (f AF) (f Fu)))) (q mK (q oG (q rN (q wH (f Iq) e) (f E8)) (q wc (f Da) (f hq0))) (q rE (q hq0 (q yE (f IH) e) (f hq0)) (q hq1 (f AN) (f FD)))))))))
def fD:Params->PySem.Heap:=fun P=>(Heap.mk ⟨[boot_o_0 P,boot_o_1 P,o49 P,Ld P,boot_o_4 P,boot_o_5 P,boot_o_6 P,boot_o_7 P,boot_o_8 P,boot_o_9 P,boot_o_10 P,hq0 P,MG P,o45 P,o46 P,hq0 P,hq1 P,o54 P,hq0 P,o56 P,o57 P,o58 P,o59 P,hq7 P,o61 P,hq0 P,o63 P,o64 P,o65 P,o66 P,hq0 P,hq1 P,o69 P,hq0 P,o71 P,o72 P,o73 P,o74 P,o75 P,o82 P,o77 P,o78 P,o79 P,o83 P,hq7 P,o85 P,hq0 P,hq1 P,o88 P,o89 P,hq0 P,o91 P,o92 P,o93 P,o94 P,hq0 P,hq1 P,o97 P,hq0 P,o99 P,mI P,mJ P,mK P,mL P,mO P,mP P,mR P,mT P,mV P,mX P,mZ P,nV P,nW P,nX P,nY P,nZ P,oa P,ob P,oe P,og P,oh P,ol P,om P,oo P,oq P,ot P,ou P,ow P,ox P,oy P,oz P,oA P,oE P,oF P,oG P,oH P,oI P,oJ P,oK P,oL P,oM P,oN P,oO P,oP P,oQ P,hq0 P,hq7 P,rq P,hq0 P,rt P,rA P,rB P,qj P,hq0 P,hq1 P,qk P,hq0 P,rC P,ql P,qm P,qn P,qo P,qp P,qq P,qr P,rD P,rE P,hq0 P,hq1 P,qs P,hq0 P,rF P,qt P,qv P,hq0 P,hq1 P,qw P,hq0 P,rG P,qx P,qy P,hq0 P,hq7 P,tu P,hq0 P,tw P,tx P,tz P,hq0 P,hq1 P,rH P,hq0 P,tA P,rI P,rJ P,rK P,rL P,rM P,rN P,rO P,tB P,tC P,hq0 P,hq1 P,rP P,hq0 P,tD P,rQ P,rR P,hq0 P,hq7 P,vQ P,hq0 P,vR P,vS P,vU P,hq0 P,hq1 P,tE P,hq0 P,vV P,tF P,tG P,hq0 P,hq1 P,tH P,hq0 P,vW P,tJ P,tL P,hq0 P,hq1 P,tM P,hq0 P,vX P,tN P,tO P,hq0 P,hq1 P,tP P,hq0 P,vY P,tQ P,tR P,hq0 P,hq1 P,tS P,hq0 P,vZ P,tT P,tU P,tV P,tW P,tX P,tY P,tZ P,wa P,wb P,hq0 P,hq1 P,t6 P,hq0 P,wc P,t7 P,t8 P,hq0 P,hq1 P,we P,hq0 P,ym P,wf P,wg P,hq0 P,hq1 P,wh P,hq0 P,yn P,wi P,wj P,hq0 P,hq1 P,wk P,hq0 P,yo P,wl P,wm P,hq0 P,hq1 P,wn P,hq0 P,yp P,wo P,wp P,hq0 P,hq1 P,wq P,hq0 P,yq P,wr P,wu P,hq0 P,hq1 P,wv P,hq0 P,yr P,ww P,wx P,hq0 P,hq1 P,wy P,hq0 P,yt P,wz P,wB P,hq0 P,hq1 P,wC P,hq0 P,yu P,wE P,wF P,hq0 P,hq1 P,wG P,hq0 P,yw P,wH P,wI P,hq0 P,hq1 P,wJ P,hq0 P,yx P,wK P,wL P,hq0 P,hq1 P,wM P,hq0 P,yy P,wN P,wO P,hq0 P,hq1 P,wP P,hq0 P,yz P,wQ P,wR P,hq0 P,hq1 P,yB P,hq0 P,Au P,yC P,yD P,hq0 P,hq1 P,yE P,hq0 P,Av P,yF P,yG P,hq0 P,hq1 P,yH P,hq0 P,Aw P,yI P,yJ P,hq0 P,hq1 P,yK P,hq0 P,Ax P,yL P,yM P,hq0 P,hq1 P,yN P,hq0 P,Ay P,yO P,yP P,hq0 P,hq7 P,C7 P,hq0 P,C8 P,C9 P,Da P,Az P,hq0 P,hq1 P,AA P,hq0 P,Db P,AB P,AC P,hq0 P,hq1 P,Dc P,AD P,AE P,hq0 P,hq1 P,AF P,hq0 P,Dd P,AG P,AH P,hq0 P,hq1 P,AI P,hq0 P,De P,AJ P,AL P,hq0 P,AM P,hq0 P,hq1 P,AN P,hq0 P,Df P,AO P,AP P,hq0 P,hq1 P,AQ P,hq0 P,Dg P,AR P,AS P,AT P,AU P,AV P,AW P,AX P,Dh P,Di P,hq0 P,hq1 P,Dj P,hq0 P,E4 P,Dk P,Dl P,hq0 P,hq7 P,E5 P,hq0 P,E6 P,E7 P,E8 P,hq0 P,hq1 P,Dm P,hq0 P,E9 P,Dn P,Do P,hq0 P,hq1 P,Dp P,hq0 P,Fa P,Dq P,Dr P,hq0 P,hq1 P,Ds P,hq0 P,Fb P,Dt P,Du P,hq0 P,hq1 P,Dv P,hq0 P,Fc P,Dw P,Dx P,hq0 P,hq1 P,Dy P,hq0 P,Fd P,Dz P,DB P,DC P,DD P,DE P,DF P,DG P,Fe P,Ff P,hq0 P,hq1 P,Fg P,hq0 P,HW P,Fh P,Fi P,hq0 P,hq7 P,HX P,hq0 P,HY P,HZ P,H0 P,hq0 P,hq1 P,Fj P,hq0 P,H1 P,Fk P,Fm P,hq0 P,hq1 P,Fn P,hq0 P,H2 P,Fo P,Fp P,hq0 P,hq1 P,Fq P,hq0 P,H3 P,Fs P,Ft P,hq0 P,hq1 P,Fu P,hq0 P,H4 P,Fv P,Fw P,Fx P,Fy P,Fz P,FA P,FB P,H5 P,H6 P,hq0 P,hq1 P,H7 P,FC P,FD P,hq0 P,hq1 P,H8 P,hq0 P,K1 P,H9 P,Ie P,hq0 P,hq1 P,Ig P,hq0 P,K2 P,Ih P,Ii P,hq0 P,hq1 P,K3 P,Ij P,Ik P,hq0 P,hq1 P,Il P,hq0 P,K4 P,Im P,Io P,hq0 P,hq1 P,Ip P,hq0 P,K5 P,Iq P,Ir P,hq0 P,hq1 P,Iu P,hq0 P,K6 P,Iv P,Iw P,hq0 P,hq1 P,Ix P,hq0 P,K7 P,Iy P,Iz P,hq0 P,hq1 P,IB P,hq0 P,K8 P,IC P,ID P,hq0 P,hq1 P,IE P,hq0 P,K9 P,IF P,IG P,hq0 P,hq1 P,IH P,hq0 P,La P,II P,IJ P,hq0 P,hq1 P,Lb P,IK P,IL P,hq0 P,hq1 P,Lc P,IM P,IN P,hq0 P,hq1 P,Lf P,hq0 P,MH P,Lg P,Lh P,hq0 P,hq1 P,Li P,hq0 P,MI P,Lj P,Lk P]⟩ (Life.mk [] [] [] 0 [] [] Bool.false (List.toArray []) [] 0 Bool.false Bool.false Bool.false 0 [2000,10,10] Bool.false 0 Bool.true [] [] 0 Bool.false))
def az:Params->Frag:=fun P=>[(2,o49 P),(3,Ld P),(15,hq0 P),(17,o54 P),(18,hq0 P),(20,o57 P),(21,o58 P),(22,o59 P),(29,o66 P),(30,hq0 P),(32,o69 P),(33,hq0 P),(35,o72 P),(36,o73 P),(37,o74 P),(38,o75 P),(39,o82 P),(40,o77 P),(43,o83 P),(50,hq0 P),(51,o91 P),(52,o92 P),(55,hq0 P),(57,o97 P),(58,hq0 P),(60,mI P),(61,mJ P),(62,mK P),(63,mL P),(64,mO P),(65,mP P),(66,mR P),(67,mT P),(68,mV P),(69,mX P),(70,mZ P),(71,nV P),(72,nW P),(73,nX P),(74,nY P),(75,nZ P),(76,oa P),(77,ob P),(78,oe P),(79,og P),(80,oh P),(81,ol P),(82,om P),(83,oo P),(84,oq P),(85,ot P),(86,ou P),(87,ow P),(88,ox P),(89,oy P),(90,oz P),(91,oA P),(92,oE P),(93,oF P),(94,oG P),(95,oH P),(96,oI P),(97,oJ P),(98,oK P),(99,oL P),(100,oM P),(101,oN P),(102,oO P),(103,oP P),(104,oQ P),(112,qj P),(113,hq0 P),(115,qk P),(116,hq0 P),(118,ql P),(119,qm P),(120,qn P),(121,qo P),(122,qp P),(123,qq P),(124,qr P),(127,hq0 P),(129,qs P),(130,hq0 P),(132,qt P),(133,qv P),(134,hq0 P),(136,qw P),(137,hq0 P),(139,qx P),(140,qy P),(148,hq0 P),(150,rH P),(151,hq0 P),(153,rI P),(154,rJ P),(155,rK P),(156,rL P),(157,rM P),(158,rN P),(159,rO P),(162,hq0 P),(164,rP P),(165,hq0 P),(167,rQ P),(168,rR P),(176,hq0 P),(178,tE P),(179,hq0 P),(181,tF P),(182,tG P),(183,hq0 P),(185,tH P),(186,hq0 P),(188,tJ P),(189,tL P),(190,hq0 P),(192,tM P),(193,hq0 P),(195,tN P),(196,tO P),(197,hq0 P),(199,tP P),(200,hq0 P),(202,tQ P),(203,tR P),(204,hq0 P),(206,tS P),(207,hq0 P),(209,tT P),(210,tU P),(211,tV P),(212,tW P),(213,tX P),(214,tY P),(215,tZ P),(218,hq0 P),(220,t6 P),(221,hq0 P),(223,t7 P),(224,t8 P),(225,hq0 P),(227,we P),(228,hq0 P),(230,wf P),(231,wg P),(232,hq0 P),(234,wh P),(235,hq0 P),(237,wi P),(238,wj P),(239,hq0 P),(241,wk P),(242,hq0 P),(244,wl P),(245,wm P),(246,hq0 P),(248,wn P),(249,hq0 P),(251,wo P),(252,wp P),(253,hq0 P),(255,wq P),(256,hq0 P),(258,wr P),(259,wu P),(260,hq0 P),(262,wv P),(263,hq0 P),(265,ww P),(266,wx P),(267,hq0 P),(269,wy P),(270,hq0 P),(272,wz P),(273,wB P),(274,hq0 P),(276,wC P),(277,hq0 P),(279,wE P),(280,wF P),(281,hq0 P),(283,wG P),(284,hq0 P),(286,wH P),(287,wI P),(288,hq0 P),(290,wJ P),(291,hq0 P),(293,wK P),(294,wL P),(295,hq0 P),(297,wM P),(298,hq0 P),(300,wN P),(301,wO P),(302,hq0 P),(304,wP P),(305,hq0 P),(307,wQ P),(308,wR P),(309,hq0 P),(311,yB P),(312,hq0 P),(314,yC P),(315,yD P),(316,hq0 P),(318,yE P),(319,hq0 P),(321,yF P),(322,yG P),(323,hq0 P),(325,yH P),(326,hq0 P),(328,yI P),(329,yJ P),(330,hq0 P),(332,yK P),(333,hq0 P),(335,yL P),(336,yM P),(337,hq0 P),(339,yN P),(340,hq0 P),(342,yO P),(343,yP P),(351,Az P),(352,hq0 P),(354,AA P),(355,hq0 P),(357,AB P),(358,AC P),(359,hq0 P),(362,AD P),(363,AE P),(364,hq0 P),(366,AF P),(367,hq0 P),(369,AG P),(370,AH P),(371,hq0 P),(373,AI P),(374,hq0 P),(376,AJ P),(377,AL P),(378,hq0 P),(379,AM P),(380,hq0 P),(382,AN P),(383,hq0 P),(385,AO P),(386,AP P),(387,hq0 P),(389,AQ P),(390,hq0 P),(392,AR P),(393,AS P),(394,AT P),(395,AU P),(396,AV P),(397,AW P),(398,AX P),(401,hq0 P),(403,Dj P),(404,hq0 P),(406,Dk P),(407,Dl P),(415,hq0 P),(417,Dm P),(418,hq0 P),(420,Dn P),(421,Do P),(422,hq0 P),(424,Dp P),(425,hq0 P),(427,Dq P),(428,Dr P),(429,hq0 P),(431,Ds P),(432,hq0 P),(434,Dt P),(435,Du P),(436,hq0 P),(438,Dv P),(439,hq0 P),(441,Dw P),(442,Dx P),(443,hq0 P),(445,Dy P),(446,hq0 P),(448,Dz P),(449,DB P),(450,DC P),(451,DD P),(452,DE P),(453,DF P),(454,DG P),(457,hq0 P),(459,Fg P),(460,hq0 P),(462,Fh P),(463,Fi P),(471,hq0 P),(473,Fj P),(474,hq0 P),(476,Fk P),(477,Fm P),(478,hq0 P),(480,Fn P),(481,hq0 P),(483,Fo P),(484,Fp P),(485,hq0 P),(487,Fq P),(488,hq0 P),(490,Fs P),(491,Ft P),(492,hq0 P),(494,Fu P),(495,hq0 P),(497,Fv P),(498,Fw P),(499,Fx P),(500,Fy P),(501,Fz P),(502,FA P),(503,FB P),(506,hq0 P),(509,FC P),(510,FD P),(511,hq0 P),(513,H8 P),(514,hq0 P),(516,H9 P),(517,Ie P),(518,hq0 P),(520,Ig P),(521,hq0 P),(523,Ih P),(524,Ii P),(525,hq0 P),(528,Ij P),(529,Ik P),(530,hq0 P),(532,Il P),(533,hq0 P),(535,Im P),(536,Io P),(537,hq0 P),(539,Ip P),(540,hq0 P),(542,Iq P),(543,Ir P),(544,hq0 P),(546,Iu P),(547,hq0 P),(549,Iv P),(550,Iw P),(551,hq0 P),(553,Ix P),(554,hq0 P),(556,Iy P),(557,Iz P),(558,hq0 P),(560,IB P),(561,hq0 P),(563,IC P),(564,ID P),(565,hq0 P),(567,IE P),(568,hq0 P),(570,IF P),(571,IG P),(572,hq0 P),(574,IH P),(575,hq0 P),(577,II P),(578,IJ P),(579,hq0 P),(582,IK P),(583,IL P),(584,hq0 P),(587,IM P),(588,IN P),(589,hq0 P),(591,Lf P),(592,hq0 P),(594,Lg P),(595,Lh P),(596,hq0 P),(598,Li P),(599,hq0 P),(601,Lj P),(602,Lk P)]
noncomputable def Kf:List Addr:=[2,3,15,17,18,20,21,22,29,30,32,33,35,36,37,38,39,40,43,50,51,52,55,57,58,60,61,62,63,64,65,66,67,68,69,70,71,72,73,74,75,76,77,78,79,80,81,82,83,84,85,86,87,88,89,90,91,92,93,94,95,96,97,98,99,100,101,102,103,104,112,113,115,116,118,119,120,121,122,123,124,127,129,130,132,133,134,136,137,139,140,148,150,151,153,154,155,156,157,158,159,162,164,165,167,168,176,178,179,181,182,183,185,186,188,189,190,192,193,195,196,197,199,200,202,203,204,206,207,209,210,211,212,213,214,215,218,220,221,223,224,225,227,228,230,231,232,234,235,237,238,239,241,242,244,245,246,248,249,251,252,253,255,256,258,259,260,262,263,265,266,267,269,270,272,273,274,276,277,279,280,281,283,284,286,287,288,290,291,293,294,295,297,298,300,301,302,304,305,307,308,309,311,312,314,315,316,318,319,321,322,323,325,326,328,329,330,332,333,335,336,337,339,340,342,343,351,352,354,355,357,358,359,362,363,364,366,367,369,370,371,373,374,376,377,378,379,380,382,383,385,386,387,389,390,392,393,394,395,396,397,398,401,403,404,406,407,415,417,418,420,421,422,424,425,427,428,429,431,432,434,435,436,438,439,441,442,443,445,446,448,449,450,451,452,453,454,457,459,460,462,463,471,473,474,476,477,478,480,481,483,484,485,487,488,490,491,492,494,495,497,498,499,500,501,502,503,506,509,510,511,513,514,516,517,518,520,521,523,524,525,528,529,530,532,533,535,536,537,539,540,542,543,544,546,547,549,550,551,553,554,556,557,558,560,561,563,564,565,567,568,570,571,572,574,575,577,578,579,582,583,584,587,588,589,591,592,594,595,596,598,599,601,602]
noncomputable def vw:Program:=view pr [0,2,3,4,5,7,8,9,10,11,12,13,14,15,16,17,18,19,20,21,22,23,24,25,26,27,28,29,30,31,32,33,34,35,36,37,38,39,40,41,42,43,44,45,46,47,48,49,50,51,52,53,55,56,58,59,61,62,63,64,65,66,67,68,69,70,71,72,73,74,75]
noncomputable def loose:List Str:=[sO "UniError",sO "LINE_JAMO",sO "LineBreaks"]
noncomputable def en:Env:={ scope:=pr.main.scope,locals:=mainNs,globals:=mainNs,cells:=[],code:=.ref 13,frame:=some 14}
noncomputable def bo:List Stmt:=behindTheImports pr
noncomputable def cd:Code:=.body bo en
noncomputable abbrev tf:List Frame:=[topFrame ⟨0,0,0,0⟩]
noncomputable def sg(a b:Nat):List Stmt:=(bo.drop a).take b
noncomputable def S(T:TP)(n t:Nat)(w:World)(os:OsState):SharedT:=⟨T w.params,n,{},⟨[]⟩,{},t,os⟩
noncomputable def ρ(T:Params->Heap)(t:Nat)(w:World)(os:OsState):Shared:=⟨T w.params,⟨[]⟩,{},t,os⟩
theorem MZ(w:World):(fun os=>topGo treeTable pr w 11 (some (.ref 6)) 12 ⟨boot_heap w.params,⟨[]⟩,boot_drawn,boot_toks,os⟩ (topStub pr))=fun os=>some (ρ h46 187 w os,⟨denote treeTable cd,cd,⟨0,0,0,0⟩,tf⟩):=by
 rw[Fast.te15667345088766844465,Fast.te11892475500146522536,PT];kernel_rfl
theorem M0(w:World):(fun os=>segRun treeTable pr w 11 (some (.ref 6)) 1 1 (ρ h46 187 w os) (blockOf bo en cd ⟨0,0,0,0⟩ tf))=fun os=>some (.next,(S t47 15 187 w os).abs,cd,⟨0,0,0,0⟩):=by
 rw[Fast.te14374325043358763698,PT];kernel_rfl
theorem Om(w:World):(fun os=>segRunT treeTable pr w 11 (some (.ref 6)) 1 277 (S t47 15 187 w os) (piecesOf (sg 0 4) en cd ⟨0,0,0,0⟩ tf))=fun os=>some (.next,S t79 43 227 w os,cd,⟨6,0,9,24⟩):=by
 rw[P7,PT];kernel_rfl
theorem On(w:World):(fun os=>segRunT treeTable pr w 11 (some (.ref 6)) 1 394 (S t79 43 227 w os) (piecesOf (sg 4 12) en cd ⟨6,0,9,24⟩ tf))=fun os=>some (.next,S IO 71 313 w os,cd,⟨31,0,31,16⟩):=by
 rw[P7,PT];kernel_rfl
theorem M1(w:World):(fun os=>segRunT treeTable pr (w.withFollow "special-get-raises" false) 11 (some (.ref 6)) 1 331 (S IO 71 313 (w.withFollow "special-get-raises" false) os) (piecesOf (sg 16 13) en cd ⟨31,0,31,16⟩ tf))=fun os=>some (.next,S IP 105 424 (w.withFollow "special-get-raises" false) os,cd,⟨44,0,44,13⟩):=by
 rw[P7,PT];kernel_rfl
theorem M2(w:World):(fun os=>segRunT treeTable pr (w.withFollow "special-get-raises" true) 11 (some (.ref 6)) 1 331 (S IO 71 313 (w.withFollow "special-get-raises" true) os) (piecesOf (sg 16 13) en cd ⟨31,0,31,16⟩ tf))=fun os=>some (.next,S IP 105 424 (w.withFollow "special-get-raises" true) os,cd,⟨44,0,44,13⟩):=by
 rw[P7,PT];kernel_rfl
theorem Oo:∀w:World,(fun os=>segRunT treeTable pr w 11 (some (.ref 6)) 1 331 (S IO 71 313 w os) (piecesOf (sg 16 13) en cd ⟨31,0,31,16⟩ tf))=fun os=>some (.next,S IP 105 424 w os,cd,⟨44,0,44,13⟩):=byRow2 "special-get-raises" M1 M2
theorem Op(w:World):(fun os=>segRunT treeTable pr w 11 (some (.ref 6)) 1 294 (S IP 105 424 w os) (piecesOf (sg 29 3) en cd ⟨44,0,44,13⟩ tf))=fun os=>some (.next,S MJ 141 479 w os,cd,⟨62,0,72,15⟩):=by
 rw[P7,PT];kernel_rfl
theorem Oq(w:World):(fun os=>segRunT treeTable pr w 11 (some (.ref 6)) 1 263 (S MJ 141 479 w os) (piecesOf (sg 32 2) en cd ⟨62,0,72,15⟩ tf))=fun os=>some (.next,S MM 169 526 w os,cd,⟨80,0,90,16⟩):=by
 rw[P7,PT];kernel_rfl
theorem Os(w:World):(fun os=>segRunT treeTable pr w 11 (some (.ref 6)) 1 396 (S MM 169 526 w os) (piecesOf (sg 34 2) en cd ⟨80,0,90,16⟩ tf))=fun os=>some (.next,S MN 225 610 w os,cd,⟨120,0,128,52⟩):=by
 rw[P7,PT];kernel_rfl
theorem Ot(w:World):(fun os=>segRunT treeTable pr w 11 (some (.ref 6)) 1 380 (S MN 225 610 w os) (piecesOf (sg 36 12) en cd ⟨120,0,128,52⟩ tf))=fun os=>some (.next,S MQ 309 725 w os,cd,⟨210,0,213,85⟩):=by
 rw[P7,PT];kernel_rfl
theorem Ou(w:World):(fun os=>segRunT treeTable pr w 11 (some (.ref 6)) 1 167 (S MQ 309 725 w os) (piecesOf (sg 48 5) en cd ⟨210,0,213,85⟩ tf))=fun os=>some (.next,S MR 344 781 w os,cd,⟨247,0,254,16⟩):=by
 rw[P7,PT];kernel_rfl
theorem Ov(w:World):(fun os=>segRunT treeTable pr w 11 (some (.ref 6)) 1 400 (S MR 344 781 w os) (piecesOf (sg 53 2) en cd ⟨247,0,254,16⟩ tf))=fun os=>some (.next,S MT 401 858 w os,cd,⟨275,0,275,8⟩):=by
 rw[P7,PT];kernel_rfl
theorem M3(w:World):(fun os=>segRunT treeTable pr w 11 (some (.ref 6)) 1 398 (S MT 401 858 w os) (piecesOf (sg 55 3) en cd ⟨275,0,275,8⟩ tf))=fun os=>some (.next,S MU 457 937 w os,cd,⟨308,0,308,8⟩):=by
 rw[P7,PT];kernel_rfl
theorem M4(w:World):(fun os=>segRunT treeTable pr w 11 (some (.ref 6)) 1 390 (S MU 457 937 w os) (piecesOf (sg 58 4) en cd ⟨308,0,308,8⟩ tf))=fun os=>some (.next,S MW 511 1012 w os,cd,⟨342,0,346,60⟩):=by
 rw[P7,PT];kernel_rfl
theorem M5(w:World):(fun os=>segRunT treeTable pr w 11 (some (.ref 6)) 1 377 (S MW 511 1012 w os) (piecesOf (sg 62 12) en cd ⟨342,0,346,60⟩ tf))=fun os=>some (.next,S MX 589 1130 w os,cd,⟨477,0,480,109⟩):=by
 rw[P7,PT];kernel_rfl
theorem M6(w:World):(fun os=>segRunT treeTable pr w 11 (some (.ref 6)) 1 73 (S MX 589 1130 w os) (piecesOf (sg 74 2) en cd ⟨477,0,480,109⟩ tf))=fun os=>some (.next,S MY 603 1158 w os,cd,⟨495,0,510,15⟩):=by
 rw[P7,PT];kernel_rfl
theorem M7(w:World):(fun os=>topRun treeTable pr w 11 (some (.ref 6)) 2 (S MY 603 1158 w os).abs ⟨doneF .next,cd,⟨495,0,510,15⟩,tf⟩)=fun os=>some (ρ fD 1158 w os):=by
 rw[Fast.te14082659384304107361,PT];kernel_rfl
theorem IQ:sg 0 4++(sg 4 12++(sg 16 13++(sg 29 3++(sg 32 2++(sg 34 2++(sg 36 12++(sg 48 5++(sg 53 2++(sg 55 3++(sg 58 4++(sg 62 12++(sg 74 2++[]))))))))))))=bo:=by kernel_rfl
noncomputable def M8:Nat:=12+(1+(277+(394+(331+(294+(263+(396+(380+(167+(400+(398+(390+(377+(73+(2)))))))))))))))
theorem M9(w:World)(os:OsState):topRun treeTable pr w 11 (some (.ref 6)) M8 ⟨boot_heap w.params,⟨[]⟩,boot_drawn,boot_toks,os⟩ (topStub pr)=some (ρ fD 1158 w os) :=
 go_top (congrFun (MZ w) os) (piece_block (congrFun (M0 w) os) (Eq.mp (PI (fun l=>topRun treeTable pr w 11 (some (.ref 6)) _ (S t47 15 187 w os).abs (restOf l en cd ⟨0,0,0,0⟩ tf)=some (ρ fD 1158 w os)) IQ)
  (piece_app (segRun_of (congrFun (Om w) os)) (piece_app (segRun_of (congrFun (On w) os)) (piece_app (segRun_of (congrFun (Oo w) os)) (piece_app (segRun_of (congrFun (Op w) os)) (piece_app (segRun_of (congrFun (Oq w) os)) (piece_app (segRun_of (congrFun (Os w) os)) (piece_app (segRun_of (congrFun (Ot w) os)) (piece_app (segRun_of (congrFun (Ou w) os)) (piece_app (segRun_of (congrFun (Ov w) os)) (piece_app (segRun_of (congrFun (M3 w) os)) (piece_app (segRun_of (congrFun (M4 w) os)) (piece_app (segRun_of (congrFun (M5 w) os)) (piece_app (segRun_of (congrFun (M6 w) os)) (piece_nil (congrFun (M7 w) os)))))))))))))))))
theorem IR(P:Params):Kf=(az P).map (·.1):=by kernel_rfl
abbrev hk:Hook:=kHook az Kf IR
noncomputable abbrev row:OpenRow:=PySem.Challenge.rw_nt0061_01.row
abbrev xt(s:Shared):Bool:=xlAt vw [] s&&recOk (RowW.records row.toRowW) s
theorem Ll(w:World):((boot_heap w.params).isNs mainGlobals&&(⟨[]⟩:Array GenState).size==0,(boot_heap w.params).objs.size,(boot_heap w.params).nsMap mainGlobals "__annotations__")=(true,11,some (Value.ref 6)):=by
 rw[Fast.te8920871248978507458];kernel_rfl
theorem Ow(w:World)(os:OsState):(staticsOk (importedModules pr.main.body) (boot_heap w.params) (fD w.params)&&namesBound pr (fD w.params)&&gensDone (ρ fD 1158 w os)&&laidKept (boot_heap w.params) (fD w.params))=true:=by
 rw[Fast.te5923862056798008813];kernel_rfl
theorem Ox(w:World)(os:OsState):PyProof.Rows.seen ((PyProof.Rows.recsOf vw).map (·.name)) (PyProof.Rows.ownsOf vw) [] { ρ fD 1158 w os with gens := #[]}=PyProof.Rows.expectedOf vw:=by
 rw[Fast.te5160383126252970620,Fast.te3399658132070893891,Fast.te5991557255702980513];kernel_rfl
theorem Oy(w:World)(os:OsState):(ρ fD 1158 w os).heap.bltView=bltViewBooted:=by kernel_rfl
theorem Oz(w:World)(os:OsState):((ρ fD 1158 w os).heap.keysOk (looseW vw loose) ((PyProof.Rows.recsOf vw).map (·.name)) ((PyProof.Rows.litsOf vw).map (·.1)) ((PyProof.Rows.clssOf vw (looseW vw loose)).map (·.name))&&(ρ fD 1158 w os).heap.accountedOkI (importedModules pr.main.body)&&(ρ fD 1158 w os).heap.isNs mainGlobals&&(ρ fD 1158 w os).heap.isNs builtinsNs&&PyProof.Rows.tablesOk vw (ρ fD 1158 w os).heap&&xt (ρ fD 1158 w os)&&(if true=true then(ρ fD 1158 w os).gens.size==0 else !leftWithCleanup (ρ fD 1158 w os).gens))=true:=by
 rw[Fast.te10880121769531294198,Fast.te821141287760084731,Fast.te3399658132070893891,Fast.te7409074990110511671,Fast.te13664370479719496447,Fast.te14722251495701143533,Fast.te5923862056798008813,Fast.te10994771534591457954];kernel_rfl
theorem OA(w:World)(os:OsState):PyProof.Rows.tabsOk vw (ρ fD 1158 w os)=true:=by
 rw[Fast.te479339242167458305];kernel_rfl
theorem OB(w:World)(os:OsState):pinSeenD vw (PyProof.Rows.drecsOf vw) (ρ fD 1158 w os)=pinGoodD (PyProof.Rows.drecsOf vw):=by
 rw[Fast.te16090120013241838585,Fast.te3247288618530077131];kernel_rfl
theorem OD(w:World)(os:OsState):PyProof.Rows.plainSeenE vw (looseW vw loose) (ρ fD 1158 w os)=PyProof.Rows.plainGoodE vw (looseW vw loose):=by
 rw[Fast.te2386780881361962483,Fast.te821141287760084731];kernel_rfl
theorem OE(w:World)(os:OsState):PyProof.Rows.plainSeenD vw loose (ρ fD 1158 w os)=PyProof.Rows.plainGoodD vw loose:=by
 rw[Fast.te11698064438423848299];kernel_rfl
theorem OF(w:World)(os:OsState):wideSeen vw (ρ fD 1158 w os)=wideGood vw:=by
 rw[Fast.te7317090234206586261];kernel_rfl
theorem Na(w:World)(os:OsState):clsSeenW vw loose (ρ fD 1158 w os)=clsGoodW vw loose:=by
 rw[Fast.te7369524293546568484];kernel_rfl
theorem IS(w:World):(fun os=>((staticsOk (importedModules pr.main.body) (boot_heap w.params) (fD w.params)&&namesBound pr (fD w.params)&&gensDone (ρ fD 1158 w os)&&laidKept (boot_heap w.params) (fD w.params)),openSeen vw loose (importedModules pr.main.body) xt true (ρ fD 1158 w os),hk.obs (ρ fD 1158 w os)))=fun _=>(true,openGood vw loose,hk.val w):=by
 funext os
 refine looks_pair (Ow w os) (looks_pair ?_ (by kernel_rfl))
 exact looks_pair (Ox w os) (looks_pair (Oy w os) (looks_pair (Oz w os) (looks_pair (OA w os) (looks_pair (OB w os) (looks_pair (OD w os) (looks_pair (OE w os) (looks_pair (OF w os) (Na w os))))))))
theorem Lm:LeftO pr vw loose xt hk.obs hk.val 8380 :=
 LeftO.of_pieces (boot_open (by kernel_rfl) (by decide) (fun s=>by kernel_rfl)) Ll M9 (by decide +kernel) IS
theorem Ln:PySem.Challenge.rw_nt0061_01.wellSaid=true:=by
 rw[Fast.te9446332074065402090];kernel_rfl
noncomputable def dr:DefRec:=⟨"law",fA (tI 75),fB (tI 75),fS (tI 75),fP (tI 75)⟩
theorem hd(T:WalkO vw loose (XL vw []) hk.says row.toRowW dr [] fun f vs=>PySem.call f vs):PySem.Challenge.rw_nt0061_01.Holds:=by
 refine holds_law Ln fun said=>?_
 exact PySem.W.holds_open (q:=vw) (loose:=loose) (Xt:=xt) (XP:=XL vw []) (Yf:=hk.obs) (Ya:=hk.val) (YP:=hk.says) (N:=8380) Lm hk.of hk.keeps (fun s e=>xl_of s (Bool.and_eq_true_iff.mp e).1) XL.keeps (by kernel_rfl) (by kernel_rfl) (by kernel_rfl) (fun s e=>recFacts_of (Bool.and_eq_true_iff.mp e).2) (by kernel_rfl) said (by kernel_rfl) ⟨rfl,rfl,rfl,rfl,rfl,by decide +kernel⟩ (by w_witness2) T
def dD(P:Params):aA:=bm (aV (az P) 61) [(2,[],[])]
def dE(P:Params):aA:=bm (aV (az P) 119) [(1,[],[.dflt (.str "strict"),.dflt (.bool false),.dflt (.str "pairs")]),(1,["strictness"],[.kw 0,.dflt (.bool false),.dflt (.str "pairs")]),(1,["strictness","keep_all","numbers"],[.kw 0,.kw 1,.kw 2])]
def bV(P:Params):aA:=bm (aV (az P) 133) [(1,[],[])]
def gt(P:Params):aA:=bm (aV (az P) 140) [(3,[],[])]
def eM(P:Params):aA:=bm (aV (az P) 154) [(4,[],[])]
def ff(P:Params):aA:=bm (aV (az P) 168) [(3,[],[])]
def dj(P:Params):aA:=bm (aV (az P) 182) [(4,[],[])]
def cK(P:Params):aA:=bm (aV (az P) 189) [(2,[],[])]
def df(P:Params):aA:=bm (aV (az P) 196) [(2,[],[])]
def cA(P:Params):aA:=bm (aV (az P) 203) [(3,[],[])]
def dp(P:Params):aA:=bm (aV (az P) 210) [(2,[],[])]
def eO(P:Params):aA:=bm (aV (az P) 224) [(2,[],[])]
def dZ(P:Params):aA:=bm (aV (az P) 231) [(2,[],[])]
def eP(P:Params):aA:=bm (aV (az P) 238) [(2,[],[])]
def dF(P:Params):aA:=bm (aV (az P) 245) [(2,[],[])]
def d3(P:Params):aA:=bm (aV (az P) 252) [(2,[],[])]
def cL(P:Params):aA:=bm (aV (az P) 259) [(2,[],[])]
def ee(P:Params):aA:=bm (aV (az P) 266) [(2,[],[])]
def dG(P:Params):aA:=bm (aV (az P) 273) [(2,[],[])]
def dn(P:Params):aA:=bm (aV (az P) 280) [(2,[],[])]
def cX(P:Params):aA:=bm (aV (az P) 287) [(2,[],[])]
def dH(P:Params):aA:=bm (aV (az P) 294) [(2,[],[])]
def dg(P:Params):aA:=bm (aV (az P) 301) [(2,[],[])]
def cq(P:Params):aA:=bm (aV (az P) 308) [(3,[],[])]
def dI(P:Params):aA:=bm (aV (az P) 315) [(2,[],[])]
def dq(P:Params):aA:=bm (aV (az P) 322) [(2,[],[])]
def dw(P:Params):aA:=bm (aV (az P) 329) [(2,[],[])]
def fE(P:Params):aA:=bm (aV (az P) 336) [(2,[],[])]
def dJ(P:Params):aA:=bm (aV (az P) 343) [(3,[],[])]
def cR(P:Params):aA:=bm (aV (az P) 358) [(3,[],[]),(2,[],[.dflt .none])]
def aF(P:Params):aA:=bm (aV (az P) 363) [(2,[],[]),(1,["text"],[.kw 0])]
def fu(P:Params):aA:=bm (aV (az P) 370) [(2,[],[])]
def fw(P:Params):aA:=bm (aV (az P) 377) [(3,[],[])]
def eJ(P:Params):aA:=bm (aV (az P) 386) [(5,[],[])]
def ef(P:Params):aA:=bm (aV (az P) 393) [(4,[],[])]
def bP(P:Params):aA:=bm (aV (az P) 407) [(2,[],[])]
def eQ(P:Params):aA:=bm (aV (az P) 421) [(2,[],[])]
def fF(P:Params):aA:=bm (aV (az P) 428) [(2,[],[])]
def ci(P:Params):aA:=bm (aV (az P) 435) [(4,[],[])]
def gi(P:Params):aA:=bm (aV (az P) 442) [(1,[],[])]
def gl(P:Params):aA:=bm (aV (az P) 449) [(2,[],[])]
def dK(P:Params):aA:=bm (aV (az P) 463) [(0,[],[])]
def gu(P:Params):aA:=bm (aV (az P) 477) [(1,[],[])]
def ij(P:Params):aA:=bm (aV (az P) 484) [(5,[],[])]
def ga(P:Params):aA:=bm (aV (az P) 491) [(3,[],[])]
def eF(P:Params):aA:=bm (aV (az P) 498) [(2,[],[])]
def aY(P:Params):aA:=bm (aV (az P) 510) [(1,[],[])]
def e8(P:Params):aA:=bm (aV (az P) 517) [(2,[],[])]
def ik(P:Params):aA:=bm (aV (az P) 524) [(2,[],[])]
def eg(P:Params):aA:=bm (aV (az P) 529) [(0,[],[])]
def gO(P:Params):aA:=bm (aV (az P) 536) [(2,[],[])]
def fG(P:Params):aA:=bm (aV (az P) 543) [(2,[],[])]
def cM(P:Params):aA:=bm (aV (az P) 550) [(2,[],[])]
def ft(P:Params):aA:=bm (aV (az P) 557) [(1,[],[])]
def fV(P:Params):aA:=bm (aV (az P) 564) [(3,[],[])]
def ei(P:Params):aA:=bm (aV (az P) 571) [(4,[],[])]
def fh(P:Params):aA:=bm (aV (az P) 578) [(4,[],[])]
def cZ(P:Params):aA:=bm (aV (az P) 583) [(2,[],[])]
def em(P:Params):aA:=bm (aV (az P) 588) [(2,[],[])]
def gb(P:Params):aA:=bm (aV (az P) 595) [(1,[],[])]
def cw(P:Params):aA:=bm (aV (az P) 602) [(1,[],[])]
def FE(P:Params):List ((Str×Str)×aA):=[
 enF "" "place_by_half" (dD P),
 enF "LineHow" "__init__" (dE P),
 enF "" "line_hangul" (bV P),
 enF "" "line_class" (gt P),
 enF "LineUnit" "__init__" (eM P),
 enF "" "line_units" (ff P),
 enF "LineView" "__init__" (dj P),
 enF "LineView" "word" (cK P),
 enF "LineView" "solid_word" (df P),
 enF "LineView" "is_quote" (cA P),
 enF "LineView" "is_narrow" (dp P),
 enF "" "line_rule_hard" (eO P),
 enF "" "line_rule_spaces" (dZ P),
 enF "" "line_rule_glue" (eP P),
 enF "" "line_rule_closing" (dF P),
 enF "" "line_rule_quotes" (d3 P),
 enF "" "line_rule_over_spaces" (cL P),
 enF "" "line_rule_signs" (ee P),
 enF "" "line_rule_letters" (dG P),
 enF "" "line_is_number" (dn P),
 enF "" "line_rule_expression" (cX P),
 enF "" "line_rule_numbers" (dH P),
 enF "" "line_rule_syllables" (dg P),
 enF "" "line_is_aksara" (cq P),
 enF "" "line_rule_aksaras" (dI P),
 enF "" "line_rule_brackets" (dq P),
 enF "" "line_rule_pictures" (dw P),
 enF "" "line_verdict" (fE P),
 enF "" "line_verdicts" (dJ P),
 enF "LineBreaks" "__init__" (cR P),
 enF "LineBreaks" "opportunities" (aF P),
 enF "LineBreaks" "reasons" (fu P),
 enF "LineBreaks" "measure" (fw P),
 enF "LineBreaks" "fit_lines" (eJ P),
 enF "LineBreaks" "even_lines" (ef P),
 enF "" "range_are_like" (bP P),
 enF "RangeMap" "__init__" (eQ P),
 enF "RangeMap" "get" (fF P),
 enF "RangeMap" "put" (ci P),
 enF "RangeMap" "ranges" (gi P),
 enF "RangeMap" "set_of" (gl P),
 enF "" "data_defaults" (dK P),
 enF "Data" "__init__" (gu P),
 enF "Data" "put" (ij P),
 enF "Data" "get" (ga P),
 enF "Data" "map_of" (eF P),
 enF "" "_law_deck" (aY P),
 enF "" "_law_draw" (e8 P),
 enF "" "_law_pick" (ik P),
 enF "" "_law_sorts" (eg P),
 enF "" "_law_class" (gO P),
 enF "" "_law_units" (fG P),
 enF "" "_law_is_figure" (cM P),
 enF "" "_law_is_aksara" (ft P),
 enF "" "_law_figures" (fV P),
 enF "" "_law_ahead" (ei P),
 enF "" "_law_joined" (fh P),
 enF "" "_law_places" (cZ P),
 enF "" "_law_drawn" (em P),
 enF "" "_law_data" (gb P),
 enF "" "law" (cw P)]
def B8:List ((Str×Str)×Addr):=[
 enA "" "place_by_half" 61,enA "LineHow" "__init__" 119,enA "" "line_hangul" 133,enA "" "line_class" 140,enA "LineUnit" "__init__" 154,enA "" "line_units" 168,enA "LineView" "__init__" 182,enA "LineView" "word" 189,enA "LineView" "solid_word" 196,enA "LineView" "is_quote" 203,enA "LineView" "is_narrow" 210,enA "" "line_rule_hard" 224,enA "" "line_rule_spaces" 231,enA "" "line_rule_glue" 238,enA "" "line_rule_closing" 245,enA "" "line_rule_quotes" 252,enA "" "line_rule_over_spaces" 259,enA "" "line_rule_signs" 266,enA "" "line_rule_letters" 273,enA "" "line_is_number" 280,enA "" "line_rule_expression" 287,enA "" "line_rule_numbers" 294,enA "" "line_rule_syllables" 301,enA "" "line_is_aksara" 308,enA "" "line_rule_aksaras" 315,enA "" "line_rule_brackets" 322,enA "" "line_rule_pictures" 329,enA "" "line_verdict" 336,enA "" "line_verdicts" 343,enA "LineBreaks" "__init__" 358,enA "LineBreaks" "opportunities" 363,enA "LineBreaks" "reasons" 370,enA "LineBreaks" "measure" 377,enA "LineBreaks" "fit_lines" 386,enA "LineBreaks" "even_lines" 393,enA "" "range_are_like" 407,enA "RangeMap" "__init__" 421,enA "RangeMap" "get" 428,enA "RangeMap" "put" 435,enA "RangeMap" "ranges" 442,enA "RangeMap" "set_of" 449,enA "" "data_defaults" 463,enA "Data" "__init__" 477,enA "Data" "put" 484,enA "Data" "get" 491,enA "Data" "map_of" 498,enA "" "_law_deck" 510,enA "" "_law_draw" 517,enA "" "_law_pick" 524,enA "" "_law_sorts" 529,enA "" "_law_class" 536,enA "" "_law_units" 543,enA "" "_law_is_figure" 550,enA "" "_law_is_aksara" 557,enA "" "_law_figures" 564,enA "" "_law_ahead" 571,enA "" "_law_joined" 578,enA "" "_law_places" 583,enA "" "_law_drawn" 588,enA "" "_law_data" 595,enA "" "law" 602]
def FF:List (Str×cF):=[
 enC "LineHow" ["strictness","keep_all","numbers"] [],
 enC "LineUnit" ["word","code","at","is_joined"] [],
 enC "LineView" ["data","how","units","solid","regional","numeric"] ["word","solid_word","is_quote","is_narrow"],
 enC "LineBreaks" ["data","how"] ["opportunities","reasons","measure","fit_lines","even_lines"],
 enC "RangeMap" ["default","starts","values"] ["get","put","ranges","set_of"],
 enC "Data" ["defaults","maps","properties","words"] ["put","get","map_of"]]
def FH:List (Str×Addr):=[enK "LineHow" 122,enK "LineUnit" 157,enK "LineView" 213,enK "LineBreaks" 396,enK "RangeMap" 452,enK "Data" 501]
def AY(P:Params):List (Str×V):=[
 enG "MAX_CODE" (vAt (az P) "MAX_CODE"),
 enG "place_by_half" (.fn "" "place_by_half"),
 enG "LINE_HARD" (vAt (az P) "LINE_HARD"),
 enG "LINE_BARE" (vAt (az P) "LINE_BARE"),
 enG "LINE_MARKS" (vAt (az P) "LINE_MARKS"),
 enG "LINE_PLAIN" (vAt (az P) "LINE_PLAIN"),
 enG "LINE_CLOSING" (vAt (az P) "LINE_CLOSING"),
 enG "LINE_AHEAD_OF_OPENING" (vAt (az P) "LINE_AHEAD_OF_OPENING"),
 enG "LINE_BEHIND_CLOSING" (vAt (az P) "LINE_BEHIND_CLOSING"),
 enG "LINE_ALPHABETIC" (vAt (az P) "LINE_ALPHABETIC"),
 enG "LINE_IDEOGRAPHIC" (vAt (az P) "LINE_IDEOGRAPHIC"),
 enG "LINE_AFFIXES" (vAt (az P) "LINE_AFFIXES"),
 enG "LINE_SYLLABIC" (vAt (az P) "LINE_SYLLABIC"),
 enG "LINE_INNER" (vAt (az P) "LINE_INNER"),
 enG "LINE_WIDE" (vAt (az P) "LINE_WIDE"),
 enG "LINE_KEPT" (vAt (az P) "LINE_KEPT"),
 enG "LINE_NUMBERS" (vAt (az P) "LINE_NUMBERS"),
 enG "LINE_JAMO" (vAt (az P) "LINE_JAMO"),
 enG "LINE_ITERATION" (vAt (az P) "LINE_ITERATION"),
 enG "LINE_JAMO_RANGES" (vAt (az P) "LINE_JAMO_RANGES"),
 enG "LINE_FIRST_SYLLABLE" (vAt (az P) "LINE_FIRST_SYLLABLE"),
 enG "LINE_LAST_SYLLABLE" (vAt (az P) "LINE_LAST_SYLLABLE"),
 enG "LINE_TAILS" (vAt (az P) "LINE_TAILS"),
 enG "DOTTED_CIRCLE" (vAt (az P) "DOTTED_CIRCLE"),
 enG "LineHow" (.cls "LineHow"),
 enG "line_hangul" (.fn "" "line_hangul"),
 enG "line_class" (.fn "" "line_class"),
 enG "LineUnit" (.cls "LineUnit"),
 enG "line_units" (.fn "" "line_units"),
 enG "LineView" (.cls "LineView"),
 enG "line_rule_hard" (.fn "" "line_rule_hard"),
 enG "line_rule_spaces" (.fn "" "line_rule_spaces"),
 enG "line_rule_glue" (.fn "" "line_rule_glue"),
 enG "line_rule_closing" (.fn "" "line_rule_closing"),
 enG "line_rule_quotes" (.fn "" "line_rule_quotes"),
 enG "line_rule_over_spaces" (.fn "" "line_rule_over_spaces"),
 enG "line_rule_signs" (.fn "" "line_rule_signs"),
 enG "line_rule_letters" (.fn "" "line_rule_letters"),
 enG "line_is_number" (.fn "" "line_is_number"),
 enG "line_rule_expression" (.fn "" "line_rule_expression"),
 enG "line_rule_numbers" (.fn "" "line_rule_numbers"),
 enG "line_rule_syllables" (.fn "" "line_rule_syllables"),
 enG "line_is_aksara" (.fn "" "line_is_aksara"),
 enG "line_rule_aksaras" (.fn "" "line_rule_aksaras"),
 enG "line_rule_brackets" (.fn "" "line_rule_brackets"),
 enG "line_rule_pictures" (.fn "" "line_rule_pictures"),
 enG "line_verdict" (.fn "" "line_verdict"),
 enG "line_verdicts" (.fn "" "line_verdicts"),
 enG "LineBreaks" (.cls "LineBreaks"),
 enG "range_are_like" (.fn "" "range_are_like"),
 enG "RangeMap" (.cls "RangeMap"),
 enG "data_defaults" (.fn "" "data_defaults"),
 enG "Data" (.cls "Data"),
 enG "_law_deck" (.fn "" "_law_deck"),
 enG "_law_draw" (.fn "" "_law_draw"),
 enG "_law_pick" (.fn "" "_law_pick"),
 enG "_law_sorts" (.fn "" "_law_sorts"),
 enG "_law_class" (.fn "" "_law_class"),
 enG "_law_units" (.fn "" "_law_units"),
 enG "_law_is_figure" (.fn "" "_law_is_figure"),
 enG "_law_is_aksara" (.fn "" "_law_is_aksara"),
 enG "_law_figures" (.fn "" "_law_figures"),
 enG "_law_ahead" (.fn "" "_law_ahead"),
 enG "_law_joined" (.fn "" "_law_joined"),
 enG "_law_places" (.fn "" "_law_places"),
 enG "_law_drawn" (.fn "" "_law_drawn"),
 enG "_law_data" (.fn "" "_law_data"),
 enG "law" (.fn "" "law"),
 enG "len" (.bi "len"),
 enG "isinstance" (.bi "isinstance"),
 enG "int" (.ty "int"),
 enG "list" (.ty "list"),
 enG "tuple" (.ty "tuple"),
 enG "range" (.ty "range"),
 enG "bool" (.ty "bool"),
 enG "enumerate" (.ty "enumerate")]
def a_T(P:Params):Tab:=⟨FE P,FF,AY P⟩
noncomputable def AZ(p:Pos):Bool:=[(81,12),(97,21),(98,24),(99,23),(248,12),(294,26),(294,35),(346,21),(362,12),(381,12),(471,49),(475,16),(482,34)].contains (p.line,p.col) && !(p.line==248&&p.endCol==27)
abbrev cP(P:Params):=jO (a_T P) AZ
abbrev bt(P:Params)(d:Nat):=runA (a_T P) AZ (cP P d)
abbrev aH(P:Params)(d:Nat):=runSs (a_T P) AZ (cP P d)
abbrev dO(P:Params)(d:Nat):=bj (a_T P) AZ (cP P d)
abbrev jZ(P:Params)(d:Nat):=runT (a_T P) AZ (cP P d)
noncomputable abbrev da(m t:Int):ab:=.dict [("cells",.ref 0),("mixed",.int m),("turn",.int t)]
noncomputable def ivs(l:List Int):List V:=l.map .int
theorem ar{l:List V}(h:l.length<=1000000):bp l=true:=PB h
noncomputable abbrev IT(f:Int):Int:=(f.fmod 2147483629*40692).fmod 2147483647
abbrev FI(f:Int):Int:=(IT f*IT f+707).fmod 2147483587
abbrev Nb(f below:Int):Int:=(((FI f*39373).fmod 2147483579).fdiv 64).fmod below
theorem oR{a b:Int}(h0:0<b)(h1:b<2^62):aR (a.fmod b)=true:=by have:=dC (a:=a) h0;exact dW (by omega) (by omega)
theorem IU{P:Params}{d:Nat}{J:Hp}{m t below x:Int}{cells:List V}
 (ht0:0<=t) (ht1:t<1000000) (hb0:0<below) (hb1:below<1000000000) (hl:cells.length<=100) (hx:1000000<=x) :
 cP P (d+1) "" "_law_draw" [.ref 1,.int below] [] (.list (cells++[.int x])::da m t::J) (.int (x.fmod below)) (.list (cells++[.int (x.fdiv below)])::da m (t+1)::J):=by
 have s2:aR (t+1)=true:=dW (by lia) (by lia)
 have s3:aR (60707*(t+1))=true:=dW (by lia) (by lia)
 have m1:=nN (t:=true) (J:=.list (cells++[.int x])::da m (t+1)::J) (by decide:aR 60707=true) s2
 have m2:=nN (t:=true) (J:=.list (cells++[.int x])::da m (t+1)::J) s3 s2
 have e1:aM (.list (cells++[.int x])::da m (t+1)::J) .NotEq (.ref 0) (.lst [])=some true:=by
  rw[qV (xs:=cells++[.int x]) rfl];simp
 have q1:=En (J:=.list (cells++[.int x])::da m (t+1)::J) (n:=0) rfl (ar (by simp;exact Py ‹_› (by decide)))
 have q2:=dX (J:=.list cells::da m (t+1)::J) (n:=0) (x:=.int (x.fdiv below)) rfl (ar (Py ‹_› (by decide)))
 have d1:decide (1000000<=x)=true:=PB hx
 have v1:=Mq (t:=true) (J:=.list cells::da m (t+1)::J) (x:=x) hb0 hb1
 have v2:=KH (t:=true) (J:=.list (cells++[.int (x.fdiv below)])::da m (t+1)::J) (x:=x) hb0
 exact af (e8 P) ([V.ref 1,V.int below]) (fun z=>(zP m1 (zP m2 (zT e1 (zP q1 (zH d1 (zP v1 (zP q2 (zP v2 (z0 z)))).C.C.R.Q).C).C.C.R.R.T).R.C.C).C).C.C.R.C.C.C.R)
theorem IV{P:Params}{d:Nat}{J:Hp}{m t below x:Int}{cells:List V}
 (ht0:0<=t) (ht1:t<1000000) (hb0:0<below) (hb1:below<1000000000) (hl:cells.length<=100) (hx:¬1000000<=x) :
 cP P (d+1) "" "_law_draw" [.ref 1,.int below] [] (.list (cells++[.int x])::da m t::J) (.int (Nb (m+60707*(t+1)*(t+1)+x.fmod 2147483563) below)) (.list cells::da m (t+1)::J):=by
 have s2:aR (t+1)=true:=dW (by lia) (by lia)
 have s3:aR (60707*(t+1))=true:=dW (by lia) (by lia)
 have m1:=nN (t:=true) (J:=.list (cells++[.int x])::da m (t+1)::J) (by decide:aR 60707=true) s2
 have m2:=nN (t:=true) (J:=.list (cells++[.int x])::da m (t+1)::J) s3 s2
 have e1:aM (.list (cells++[.int x])::da m (t+1)::J) .NotEq (.ref 0) (.lst [])=some true:=by
  rw[qV (xs:=cells++[.int x]) rfl];simp
 have q1:=En (J:=.list (cells++[.int x])::da m (t+1)::J) (n:=0) rfl (ar (by simp;exact Py ‹_› (by decide)))
 have d1:decide (1000000<=x)=false:=P6 hx
 have m3:=nN (t:=true) (J:=.list cells::da m (t+1)::J) (oR (a:=m+60707*(t+1)*(t+1)+x.fmod 2147483563) (b:=2147483629) (by decide) (by decide)) (by decide:aR 40692=true)
 have f2:aR (IT (m+60707*(t+1)*(t+1)+x.fmod 2147483563))=true:=oR (by decide) (by decide)
 have m4:=nN (t:=true) (J:=.list cells::da m (t+1)::J) f2 f2
 have m5:=nN (t:=true) (J:=.list cells::da m (t+1)::J) (x:=FI (m+60707*(t+1)*(t+1)+x.fmod 2147483563)) (oR (by decide) (by decide)) (by decide:aR 39373=true)
 have v2:=KH (t:=true) (J:=.list cells::da m (t+1)::J) (x:=((FI (m+60707*(t+1)*(t+1)+x.fmod 2147483563)*39373).fmod 2147483579).fdiv 64) hb0
 exact af (e8 P) ([V.ref 1,V.int below]) (fun z=>(zP m1 (zP m2 (zT e1 (zP q1 (zH d1 (zP m3 (zP m4 (zP m5 (zP v2 (z0 z)).C.C).C.C).R.C).C.R.C.C.R).C).C.C.R.R.T).R.C.C).C).C.C.R.C.C.C.R)
theorem IW{P:Params}{d:Nat}{J:Hp}{m t below:Int}
 (ht0:0<=t) (ht1:t<1000000) (hb0:0<below) :
 cP P (d+1) "" "_law_draw" [.ref 1,.int below] [] (.list []::da m t::J) (.int (Nb (m+60707*(t+1)*(t+1)) below)) (.list []::da m (t+1)::J):=by
 have s2:aR (t+1)=true:=dW (by lia) (by lia)
 have s3:aR (60707*(t+1))=true:=dW (by lia) (by lia)
 have m1:=nN (t:=true) (J:=.list []::da m (t+1)::J) (by decide:aR 60707=true) s2
 have m2:=nN (t:=true) (J:=.list []::da m (t+1)::J) s3 s2
 have m3:=nN (t:=true) (J:=.list []::da m (t+1)::J) (oR (a:=m+60707*(t+1)*(t+1)) (b:=2147483629) (by decide) (by decide)) (by decide:aR 40692=true)
 have f2:aR (IT (m+60707*(t+1)*(t+1)))=true:=oR (by decide) (by decide)
 have m4:=nN (t:=true) (J:=.list []::da m (t+1)::J) f2 f2
 have m5:=nN (t:=true) (J:=.list []::da m (t+1)::J) (x:=FI (m+60707*(t+1)*(t+1))) (oR (by decide) (by decide)) (by decide:aR 39373=true)
 have v2:=KH (t:=true) (J:=.list []::da m (t+1)::J) (x:=((FI (m+60707*(t+1)*(t+1))*39373).fmod 2147483579).fdiv 64) hb0
 exact af (e8 P) ([V.ref 1,V.int below]) (fun z=>(zP m1 (zP m2 (zP m3 (zP m4 (zP m5 (zP v2 (z0 z)).C.C).C.C).R.C).C.R.F.C.R.C.C).C).C.C.R.C.C.C.R)
noncomputable def lK(t:Int)(h:ab)(g:ab):Prop:=0<=t/\∃(c:List Int) (m:Int),c.length<=8/\h=.list (ivs c)/\g=da m t
theorem DH{t below:Int}{h g:ab}(D:lK t h g)(ht:t<1000000)(hb0:0<below)(hb1:below<1000000000):
 ∃r h' g',0<=r/\r<below/\lK (t+1) h' g'/\∀ {P:Params}{d:Nat}{J:Hp},cP P (d+1) "" "_law_draw" [.ref 1,.int below] [] (h::g::J) (.int r) (h'::g'::J):=by
 refine iE (D) ?_;rintro t0 c m hc rfl rfl
 rcases List.eq_nil_or_concat c with rfl | ⟨c',x,rfl⟩
 .exact⟨_,_,_,(dC hb0).1,(dC hb0).2,⟨Int.add_nonneg ‹_› (by decide),[],m,by simp,rfl,rfl⟩,IW t0 ht hb0⟩
 . have e:ivs (c'.concat x)=ivs c'++[.int x]:=by simp[ivs]
   have hl:c'.length+1<=8:=by simpa using hc
   have hi:(ivs c').length<=100:=by simp[ivs];lia
   rw[e]
   by_cases hx:1000000<=x
   . refine⟨_,_,_,(dC hb0).1,(dC hb0).2,⟨Int.add_nonneg ‹_› (by decide),c'++[x.fdiv below],m,by simp;lia,?_,rfl⟩,IU t0 ht hb0 hb1 hi hx⟩
     simp[ivs]
   .exact⟨_,_,_,(dC hb0).1,(dC hb0).2,⟨Int.add_nonneg ‹_› (by decide),c',m,Nat.le_of_succ_le ‹_›,rfl,rfl⟩,IV t0 ht hb0 hb1 hi hx⟩
theorem j0{xs:List V}{r:Int}{n:Nat}(h:r=n)(hn:n<xs.length)(hs:xs.length<1000000):gH xs r=some (xs[n]'hn):=by
 subst h
 have hs:aR (n:Int)=true:=dW (P5 (by decide) (Qd _)) (Int.lt_trans (Int.ofNat_lt.mpr (Nat.lt_trans ‹_› ‹_›)) (by decide))
 unfold gH
 rw[if_pos hs]
 have:seqIndex? (n:Int) xs.length=some n:=by
  unfold seqIndex?
  simp
  lia
 rw[this,Option.bind_some,PF hn]
theorem Lo{P:Params}{d:Nat}{xs:List V}{r:Int}{v:V}{s s':Hp}(hd:cP P d "" "_law_draw" [.ref 1,.int xs.length] [] s (.int r) s')(hv:ai s' (.lst xs) (.int r)=some v)(hl:biI (AZ { line:=0,col:=0,endLine:=0,endCol:=0}) "len" [.lst xs] s=some (.int xs.length,s)):
 cP P (d+1) "" "_law_pick" [.ref 1,.lst xs] [] s v s':=by
 exact af (ik P) ([V.ref 1,V.lst xs]) (fun z=>(zP hl (zD hd (zV hv (z0 z)))).R.R)
theorem IX{t:Int}{h g:ab}{xs:List V}(D:lK t h g)(ht:t<1000000)(hx:0<xs.length)(hx1:xs.length<1000000):
 ∃v h' g',v∈xs/\lK (t+1) h' g'/\∀ {P:Params}{d:Nat}{J:Hp},cP P (d+2) "" "_law_pick" [.ref 1,.lst xs] [] (h::g::J) v (h'::g'::J):=by
 refine fR (DH (below:=xs.length) D ht (by lia) (by lia)) ?_;rintro r h' g' r0 r1 D' hd
 have hn:r=(r.toNat:Int):=(Int.toNat_of_nonneg ‹_›).symm
 have hlt:r.toNat<xs.length:=by lia
 refine⟨xs[r.toNat],h',g',List.getElem_mem hlt,D',fun{P d J}=>Lo (d:=d+1) hd (j0 hn hlt hx1) ?_⟩
 show(some xs).bind (fun xs=>if bp xs then _ else _)=_
 rw[Option.bind_some,if_pos (ar (Nat.le_of_lt ‹_›))]
theorem IY{ns:List Int}{a b:Option Int}:lB (ivs ns) a b=ivs ((ns.drop (kms_lo a ns.length)).take (kms_hi b ns.length-kms_lo a ns.length)):=by
 unfold lB ivs
 rw[PA,List.map_take,List.map_drop]
theorem qH{ms:List Int}{i:Nat}(h:i<ms.length):(ivs ms)[i]?=some (.int ms[i]):=by
 unfold ivs
 rw[PQ,PF h];rfl
theorem aQ{ms:List Int}:(ivs ms).length=ms.length:=by unfold ivs;rw[PA]
abbrev dkE(P:Params):Expr:=Mr 0 (stE (fQ 0 (aY P).body))
noncomputable abbrev dkC(sl:Option V):Loc:=[(".0",.v none),("cell",.v sl),("int",.g)]
noncomputable abbrev dkL(ns ms:List V)(sl:Option V)(m:Int):Loc:=[("script",.v (some (.lst ns))),("cell",.v sl),("cells",.v (some (.lst ms))),("mixed",.v (some (.int m)))]
theorem DI{P:Params}{d:Nat}{ms:List Int}(hm:ms.length<=8):
 mn (bt P d (coG (dkE P)).target) (jZ P d (coG (dkE P)).ifs) (dO P d (coE (dkE P))) false (.lst (ivs ms)) (dkC none) [] (.lst (ivs ms)) []:=by
 refine PG (mw (t:=false) (v:=.lst (ivs ms)) (it:=.seq (.lst (ivs ms))) (loc:=(dkC none)) (J:=[]) (asg:=bt P d (coG (dkE P)).target) (test:=jZ P d (coG (dkE P)).ifs) (elt:=dO P d (coE (dkE P)))
  (fun i l s acc=>s=[]/\acc=(ivs ms).take i/\∃sl:Option V,l=dkC sl) rfl (PI some aQ) (fun i l s acc hi I=>?_) (fun l s acc I=>?_) ⟨rfl,rfl,none,rfl⟩) fun acc hh=>?_
 . refine KE (I) ?_;rintro rfl rfl sl rfl
   have hlt:((ivs ms).take i).length<=1000000:=by rw[Qb,aQ];exact Py (Nat.min_le_right _ _) (Py ‹_› (by decide))
   refine⟨⟨PI some aQ,ar hlt⟩,.int ms[i],true,.int ms[i],dkC (some (.int ms[i])),[],qH hi,fun k hk=>?_,rfl,?_,_,rfl⟩
   .exact bd (zR (zC (z0 hk)))
   . show(ivs ms).take i++[.int ms[i]]=_
     rw[List.take_add_one,qH hi];rfl
 . refine eW (I) ?_;rintro rfl rfl _
   exact⟨PI some aQ,ar (by rw[Qb,aQ];exact Py (Nat.min_le_right _ _) (Py ‹_› (by decide)))⟩
 . refine bu (hh) ?_;rintro s l ⟨rfl,rfl,_⟩ h
   have e:(ivs ms).take ms.length=ivs ms:=by rw[<- aQ (ms:=ms),List.take_length]
   rw[e]at h
   exact h
theorem DJ{P:Params}{d:Nat}{ms:List Int}{ns:List V}(hm:ms.length<=8):
 ∃m l,ge (bt P d (bQ (fQ 1 (aY P).body))) (aH P d (cz (fQ 1 (aY P).body))) (bQ (fQ 1 (aY P).body)) (.seq (.lst (ivs ms)))
  (dkL ns (ivs ms) none 707) [] .next (dkL ns (ivs ms) l m) []:=by
 refine PG (eZ (N:=ms.length) (it:=.seq (.lst (ivs ms))) (loc:=(dkL ns (ivs ms) none 707)) (J:=[]) (tg:=bQ (fQ 1 (aY P).body)) (asg:=bt P d (bQ (fQ 1 (aY P).body))) (body:=aH P d (cz (fQ 1 (aY P).body)))
  (fun i l s=>s=[]/\∃(m:Int) (sl:Option V),0<=m/\m<2147483587/\l=(dkL ns (ivs ms) sl m))
  (fun i l s hi I=>?_) (fun l s I=>PI some aQ) (PI some aQ) rfl ⟨rfl,707,none,by decide,by decide,rfl⟩) fun l hh=>?_
 . refine iE (I) ?_;rintro rfl m sl h0 h1 rfl
   have s1:=nN (t:=true) (J:=[]) (dW (i:=m) (by lia) (P5 ‹_› (by decide))) (by decide:aR 48271=true)
   refine⟨PI some aQ,.int ms[i],.next,(dkL ns (ivs ms) (some (.int ms[i])) ((m*48271+ms[i].fmod 2147483629+707).fmod 2147483587)),[],qH hi,fun k hk=>?_,.inl rfl,rfl,_,_,(dC (by decide)).1,(dC (by decide)).2,rfl⟩
   exact bd (zR (zP s1 (zC (zC (zC (zC (z0 hk)))))))
 . refine ae (hh) ?_;rintro s ⟨rfl,m,sl,_,_,rfl⟩ h
   exact⟨m,sl,h⟩
theorem Lp{P:Params}{d:Nat}{ns ms:List Int}{m:Int}{sl:Option V}(hm:ms.length<=8)(hs:aG false [] (.lst (ivs ns)) .none (.int 8) .none=some (.lst (ivs ms),[]))
 (hr:aG true [] (.lst (ivs ms)) .none .none (.int (-1))=some (.ref 0,[.list (ivs ms.reverse)]))
 (hl:ge (bt P d (bQ (fQ 1 (aY P).body))) (aH P d (cz (fQ 1 (aY P).body))) (bQ (fQ 1 (aY P).body)) (.seq (.lst (ivs ms)))
  (dkL (ivs ns) (ivs ms) none 707) [] .next (dkL (ivs ns) (ivs ms) sl m) []) :
 cP P (d+1) "" "_law_deck" [.lst (ivs ns)] [] [] (.ref 1) [.list (ivs ms.reverse),da m 0]:=by
 have hc:=DI (P:=P) (d:=d) hm
 exact af (aY P) ([V.lst (ivs ns)]) (fun z=>(zA (rfl:(0:Int)=(0:Int)) (zP hs (zF hc (zL hl (zA (by decide:[Str.ofString "turn",Str.ofString "mixed",Str.ofString "cells"].reverse.length=[(Expr.Name (Str.ofString "cells") { line:=346,col:=21,endLine:=346,endCol:=26}).Subscript (Expr.Slice none none (some (Expr.UnaryOp UnaryOp.USub (Expr.Constant (Const.int 1) 0 { line:=346,col:=30,endLine:=346,endCol:=31}) { line:=346,col:=29,endLine:=346,endCol:=31})) { line:=346,col:=27,endLine:=346,endCol:=31}) { line:=346,col:=21,endLine:=346,endCol:=32},Expr.Name (Str.ofString "mixed") { line:=346,col:=43,endLine:=346,endCol:=48},Expr.Constant (Const.int 0) 0 { line:=346,col:=58,endLine:=346,endCol:=59}].length/\[Str.ofString "turn",Str.ofString "mixed",Str.ofString "cells"].reverse.length<=15) (zP hr (z0 z)).C)).C.R)).R).R)
theorem Lq{P:Params}{d:Nat}{ns:List Int}(hl:ns.length<=63):∃h g,lK 0 h g/\cP P (d+1) "" "_law_deck" [.lst (ivs ns)] [] [] (.ref 1) [h,g]:=by
 generalize hms:(ns.drop (kms_lo none ns.length)).take (kms_hi (some 8) ns.length-kms_lo none ns.length)=ms
 have hml:ms.length<=8:=by
  rw[<- hms,Qb]
  refine Py (Nat.min_le_left _ _) ?_
  unfold kms_hi kms_lo
  simp
  lia
 refine gK (DJ (P:=P) (d:=d) (ns:=ivs ns) hml) ?_;rintro m sl h
 have p1:bp (ivs ns)=true:=ar (by rw[aQ];exact Py ‹_› (by decide))
 have p2:bp (ivs ms)=true:=ar (by rw[aQ];exact Py ‹_› (by decide))
 refine⟨_,_,⟨by decide,ms.reverse,m,by simpa using hml,rfl,rfl⟩,Lp hml ?_ ?_ h⟩
 . show(some (ivs ns)).bind (fun xs=>if bp xs then _ else _)=_
   rw[Option.bind_some,if_pos p1]
   show some (V.lst (lB (ivs ns) none (some 8)),[])=_
   rw[IY,hms]
 . show(some (ivs ms)).bind (fun xs=>if bp xs then _ else _)=_
   rw[Option.bind_some,if_pos p2]
   show some (V.ref 0,[ab.list (ivs ms).reverse])=_
   unfold ivs
   rw[List.map_reverse]
noncomputable def Cut(fs:List Int)(n:Int)(p:Nat):Prop:=p<=fs.length/\(∀i x,i<p->fs[i]?=some x->x<=n)/\(∀i x,p<=i->fs[i]?=some x->n<x)
noncomputable def Asc(fs:List Int):Prop:=∀(i j:Nat) (x y:Int),i<j->fs[i]?=some x->fs[j]?=some y->x<y
theorem Nc(a b:Nat):((a:Int)+b).fdiv 2=(((a+b)/2:Nat):Int):=by
 rw[Int.fdiv_eq_ediv_of_nonneg _ (by decide)]
 lia
noncomputable def OG(fs:List Int)(n:Int)(lo hi:Nat):Prop:=(∀(i:Nat) (x:Int),i<lo->fs[i]?=some x->x<=n)/\(∀(i:Nat) (x:Int),hi<=i->fs[i]?=some x->n<x)
noncomputable abbrev plL(fs:List V)(n lo hi:Int)(sl:Option V):Loc:=[("firsts",.v (some (.lst fs))),("number",.v (some (.int n))),("low",.v (some (.int lo))),("high",.v (some (.int hi))),("middle",.v sl),("len",.g)]
abbrev plS(P:Params):Stmt:=fQ 2 (dD P).body
theorem A5{P:Params}{d:Nat}{J:Hp}{fs:List Int}{n:Int}(ha:Asc fs)(hl:fs.length<=100):
 ∃(p:Nat) (sl:Option V),Cut fs n p/\gr (dO P d (mv (plS P))) (aH P d (cz (plS P))) (plL (ivs fs) n 0 fs.length none) J .next (plL (ivs fs) n p p sl) J:=by
 refine PG (mx (wt:=dO P d (mv (plS P))) (body:=aH P d (cz (plS P)))
  (fun k l s=>s=J/\∃(lo hi:Nat) (sl:Option V),k=hi-lo/\lo<=hi/\hi<=fs.length/\OG fs n lo hi/\l=plL (ivs fs) n lo hi sl)
  (fun l s=>s=J/\∃(p:Nat) (sl:Option V),Cut fs n p/\l=plL (ivs fs) n p p sl) ?_ fs.length (plL (ivs fs) n 0 fs.length none) J qP (by have:qP=200:=rfl;exact PK ‹_› (by decide)) ⟨rfl,0,fs.length,none,rfl,Nat.zero_le _,PS _,⟨fun i x h=>absurd h (Nat.not_lt_zero _),fun i x h hx=>?_⟩,rfl⟩) fun l hh=>?_
 . rintro k l s ⟨rfl,lo,hi,sl,rfl,h1,h2,h3,rfl⟩
   by_cases hlt:lo<hi
   . have z1:decide ((lo:Int)<hi)=true:=PB (Int.ofNat_lt.mpr ‹_›)
     obtain⟨mid,fd,hm1,hm2⟩:∃mid:Nat,((lo:Int)+hi).fdiv 2=(mid:Int)/\lo<=mid/\mid<hi:=⟨(lo+hi)/2,Nc lo hi,by lia,by lia⟩
     obtain⟨x,hx⟩:∃x,fs[mid]?=some x:=⟨_,PF (PU ‹_› ‹_›)⟩
     have hv:(ivs fs)[mid]?=some (.int x):=by unfold ivs;rw[PQ,hx];rfl
     have hml:mid<(ivs fs).length:=by rw[aQ];exact PU ‹_› ‹_›
     have pk:ai s (.lst (ivs fs)) (.int (mid:Int))=some (.int x):=by
      refine u6.trans ?_
      rw[j0 rfl hml (by rw[aQ];exact PK ‹_› (by decide))]
      rw[PF hml]at hv
      exact hv
     have dv:c8 true .FloorDiv (.int ((lo:Int)+hi)) (.int 2) s=some (.int mid,s):=by rw[<- fd];exact Mq (by decide) (by decide)
     by_cases hle:x<=n
     . have z2:decide (x<=n)=true:=PB hle
       refine⟨true,.next,plL (ivs fs) n ((mid:Int)+1) hi (some (.int mid)),s,fun k hk=>?_,.inr ⟨rfl,.inl rfl,hi-(mid+1),by omega,rfl,mid+1,hi,_,rfl,by lia,h2,⟨fun i y hi' hy=>?_,h3.2⟩,rfl⟩⟩
       .exact bd (zC (zH z1 (zR (zC (zP dv (zV pk (zC (zH z2 (zR (zC (z0 hk)))))))))))
       . by_cases q:i=mid
         .subst q;rw[hx]at hy;cases hy;exact hle
         .exact Int.le_of_lt (P5 (ha i _ y x (by lia) hy hx) hle)
     . have z2:decide (x<=n)=false:=P6 hle
       refine⟨true,.next,plL (ivs fs) n lo mid (some (.int mid)),s,fun k hk=>?_,.inr ⟨rfl,.inl rfl,mid-lo,by grind,rfl,lo,mid,_,rfl,by omega,by lia,⟨h3.1,fun i y hi' hy=>?_⟩,rfl⟩⟩
       .exact bd (zC (zH z1 (zR (zC (zP dv (zV pk (zC (zH z2 (zR (z0 hk))))))))))
       . by_cases q:i=mid
         .subst q;rw[hx]at hy;cases hy;exact Int.not_le.mp ‹_›
         . have:=ha _ i x y (by lia) hx hy
           lia
   . have e:hi=lo:=by lia
     subst e
     have z1:decide ((hi:Int)<hi)=false:=P6 (by lia)
     refine⟨false,.next,plL (ivs fs) n hi hi sl,s,fun k hk=>?_,.inl ⟨rfl,rfl,rfl,hi,sl,⟨h2,h3.1,h3.2⟩,rfl⟩⟩
     exact bd (zC (zH z1 (z0 hk)))
 . have:=(PD.mp hx).1
   exact absurd ‹_› (Nat.not_lt.mpr ‹_›)
 . obtain⟨s,⟨rfl,p,sl,hc,rfl⟩,h⟩:=hh
   exact⟨p,sl,hc,h⟩
theorem IZ{P:Params}{d:Nat}{J:Hp}{fs:List Int}{n:Int}{p:Nat}{sl:Option V}(hl:biI true "len" [.lst (ivs fs)] J=some (.int fs.length,J))
 (h:gr (dO P d (mv (plS P))) (aH P d (cz (plS P))) (plL (ivs fs) n 0 fs.length none) J .next (plL (ivs fs) n p p sl) J) :
 cP P (d+1) "" "place_by_half" [.lst (ivs fs),.int n] [] J (.int ((p:Int)-1)) J:=by
 exact af (dD P) ([V.lst (ivs fs),V.int n]) (fun z=>(zP hl (zL h (z0 z).C)).R.R.R)
theorem wS{P:Params}{d:Nat}{J:Hp}{fs:List Int}{n:Int}(ha:Asc fs)(hl:fs.length<=100):
 ∃p:Nat,cP P (d+1) "" "place_by_half" [.lst (ivs fs),.int n] [] J (.int ((p:Int)-1)) J/\Cut fs n p:=by
 obtain⟨p,sl,hc,h⟩:=A5 (P:=P) (d:=d) (J:=J) (n:=n) ha hl
 refine⟨p,IZ ?_ h,hc⟩
 show(some (ivs fs)).bind (fun xs=>if bp xs then _ else _)=_
 rw[Option.bind_some,if_pos (ar (by rw[aQ];exact Py ‹_› (by decide))),aQ]
section
variable{P:Params}{d:Nat}{J:Hp}
theorem Lr{a b:Str}:cP P (d+1) "" "range_are_like" [.str a,.str b] [] J (.bool ((a==b)&&true)) J:=by
 have hs:J=J:=rfl
 exact af (bP P) ([V.str a,V.str b]) (fun z=>(zA hs (z0 z)).C.C.R.C.R.O.C)
theorem Ls{a b:Bool}:cP P (d+1) "" "range_are_like" [.bool a,.bool b] [] J (.bool ((a==b)&&true)) J:=by
 have hs:J=J:=rfl
 exact af (bP P) ([V.bool a,V.bool b]) (fun z=>(zA hs (z0 z)).C.C.R.C.R.O.C)
theorem I5{a:Str}{b:Bool}:cP P (d+1) "" "range_are_like" [.str a,.bool b] [] J (.bool false) J:=by
 exact af (bP P) ([V.str a,V.bool b]) (fun z=>(z0 z).F.C)
theorem I6{a:Bool}{b:Str}:cP P (d+1) "" "range_are_like" [.bool a,.str b] [] J (.bool false) J:=by
 exact af (bP P) ([V.bool a,V.str b]) (fun z=>(z0 z).F.C)
abbrev iZ(dflt:V)(fs:List Int)(vs:List V):ab:=.dict [("default",dflt),("starts",.lst (ivs fs)),("values",.lst vs)]
abbrev rmC(P:Params):cF:=((a_T P).cls.lookup ("RangeMap":Str)).getD ⟨[],[]⟩
theorem Lu{r:Nat}{dflt:V}{fs:List Int}{vs:List V}{c:Int}{p:Nat}{v:V}(hr:J[r]?=some (iZ dflt fs vs))(hp:cP P (d+1) "" "place_by_half" [.lst (ivs fs),.int c] [] J (.int ((p:Int)-1)) J)
 (k3:ai J (.lst vs) (.int ((p:Int)-1))=some v):cP P (d+2) "RangeMap" "get" [.inst "RangeMap" r,.int c] [] J v J:=by
 have k1:cG (a_T P) J (.inst "RangeMap" r) "starts"=some (.lst (ivs fs)):=aB (rmC P) hr rfl rfl
 have k2:cG (a_T P) J (.inst "RangeMap" r) "values"=some (.lst vs):=aB (rmC P) hr rfl rfl
 exact af (fF P) ([V.inst (Str.ofString "RangeMap") r,V.int c]) (fun z=>(zV k2 (zV k1 (zD hp (zV k3 (z0 z)))).R.R).R)
theorem I7{r:Nat}{dflt:V}(hr:J[r]?=some (.dict [])):cP P (d+1) "RangeMap" "__init__" [.inst "RangeMap" r,dflt] [] J .none (J.set r (iZ dflt [0] [dflt])):=by
 have k1:cH (a_T P) J (.inst "RangeMap" r) "default" dflt=some (J.set r (.dict [("default",dflt)])):=e7 (rmC P) hr (by kernel_rfl) (by kernel_rfl) (by simp)
 have k2:cH (a_T P) (J.set r (.dict [("default",dflt)])) (.inst "RangeMap" r) "starts" (.lst [.int 0])=some (J.set r (.dict [("default",dflt),("starts",.lst [.int 0])])):=by
  rw[e7 (rmC P) (db hr) (by kernel_rfl) (by kernel_rfl) (by simp),List.set_set];rfl
 have k3:cH (a_T P) (J.set r (.dict [("default",dflt),("starts",.lst [.int 0])])) (.inst "RangeMap" r) "values" (.lst [dflt])=some (J.set r (iZ dflt [0] [dflt])):=by
  rw[e7 (rmC P) (db hr) (by kernel_rfl) (by kernel_rfl) (by simp),List.set_set];rfl
 exact af (eQ P) ([V.inst (Str.ofString "RangeMap") r,dflt]) (fun z=>(zS k1 (zS k2 (zS k3 (z0 z)).R.R).R.R).R)
end
noncomputable def inS(x:Str):List Str->Bool
 |[]=>false
 |y::ys=>(y==x)||inS x ys
noncomputable abbrev noV(s:Str):V:=.tup [.str "no",.str s]
noncomputable abbrev i4(s:Str):V:=.tup [.str "may",.str s]
noncomputable abbrev rS(s:Str):V:=.tup [.str "must",.str s]
noncomputable abbrev eK:List Str:=["BK","CR","LF","NL"]
noncomputable abbrev cC:List Str:=["AL","HL"]
noncomputable abbrev rT:List Str:=["ID","EB","EM"]
noncomputable abbrev gP:List Str:=["PR","PO"]
noncomputable abbrev A6:List Str:=["JL","JV","JT","H2","H3"]
noncomputable abbrev wT:List Str:=["NU","SY","IS"]
noncomputable abbrev rU:List Str:=["AL","HL","ID","NU","JL","JV","JT","H2","H3"]
def lr(a b:Str):V:=cond (a=="BK") (rS "LB4") (cond ((a=="CR")&&(b=="LF")) (noV "LB5") (cond (inS a eK) (rS "LB5") (cond (inS b eK) (noV "LB6") .none)))
def gB(b s:Str)(j:Bool):V:=cond (inS b ["SP","ZW"]) (noV "LB7") (cond (s=="ZW") (i4 "LB8") (cond j (noV "LB8a") .none))
def ke(a b:Str):V:=cond ((a=="WJ")||(b=="WJ")) (noV "LB11") (cond (a=="GL") (noV "LB12") (cond ((b=="GL") && !inS a ["SP","BA","HY"]) (noV "LB12a") .none))
def dP(a b s nm:Str):V:=cond (inS b ["CL","CP","EX","IS","SY"]) (cond (!((nm=="expression")&&(!(b=="EX")&&(a=="NU")))) (noV "LB13") (cond (s=="OP") (noV "LB14") .none)) (cond (s=="OP") (noV "LB14") .none)
def m6(a b s:Str):V:=cond (inS s ["CL","CP"]&&(b=="NS")) (noV "LB16") (cond ((s=="B2")&&(b=="B2")) (noV "LB17") (cond (a=="SP") (i4 "LB18") .none))
def gd(qi qf:Bool)(q k N:Int)(aq c:Str):V:=cond (qi&&((q==0)||inS aq ["BK","CR","LF","NL","OP","QU","GL","SP","ZW"])) (noV "LB15a") (cond (qf&&((k+1==N)||inS c ["SP","GL","WJ","CL","QU","CP","EX","IS","SY","BK","CR","LF","NL","ZW"])) (noV "LB15b") .none)
def gv(a b a2 st:Str):V:=cond ((a=="QU")||(b=="QU")) (noV "LB19") (cond ((a=="CB")||(b=="CB")) (i4 "LB20") (cond (inS b ["BA","HY","NS"]||(a=="BB")) (noV "LB21") (cond (inS a ["HY","BA"]&&((a2=="HL") && !(b=="HL"))) (noV "LB21a") (cond ((a=="SY")&&(b=="HL")) (noV "LB21b") (cond ((b=="IN") && !((st=="loose")&&(a=="IN"))) (noV "LB22") .none)))))
def dQ(a b:Str):V:=cond ((inS a cC&&(b=="NU"))||((a=="NU")&&inS b cC)) (noV "LB23") (cond (((a=="PR")&&inS b rT)||(inS a rT&&(b=="PO"))) (noV "LB23a") (cond ((inS a gP&&inS b cC)||(inS a cC&&inS b gP)) (noV "LB24") .none))
def gA(a b c:Str)(n1 n2:Bool):V:=cond ((inS a gP&&((b=="NU")||(inS b ["OP","HY"]&&(c=="NU"))))||(inS a ["OP","HY"]&&(b=="NU"))) (noV "LB25") (cond (inS b wT||inS b ["CL","CP"]) (cond n1 (noV "LB25") .none) (cond (inS b gP) (cond (inS a ["CL","CP"]) (cond n2 (noV "LB25") .none) (cond n1 (noV "LB25") .none)) .none))
noncomputable def inP(a b:Str):List (Str×Str)->Bool
 |[]=>false
 |(x,y)::r=>((x==a)&&((y==b)&&true))||inP a b r
noncomputable abbrev yQ:List (Str×Str):=[("CL","PO"),("CP","PO"),("CL","PR"),("CP","PR"),("NU","PO"),("NU","PR"),("PO","OP"),("PO","NU"),("PR","OP"),("PR","NU"),("HY","NU"),("IS","NU"),("NU","NU"),("SY","NU")]
def eo(a b nm:Str)(e:V):V:=cond (nm=="expression") e (cond (inP a b yQ) (noV "LB25") .none)
noncomputable def p0(a:Str):List Str:=cond (a=="JL") ["JL","JV","H2","H3"] (cond (a=="JV") ["JV","JT"] (cond (a=="H2") ["JV","JT"] (cond (a=="JT") ["JT"] (cond (a=="H3") ["JT"] []))))
def qz(a b:Str):V:=cond (inS b (p0 a)) (noV "LB26") (cond ((inS a A6&&(b=="PO"))||((a=="PR")&&inS b A6)) (noV "LB27") (cond (inS a cC&&inS b cC) (noV "LB28") .none))
def t9(a b c:Str)(l r l2 r2:Bool):V:=cond ((((a=="AP")&&r)||(l&&inS b ["VF","VI"]))||((a=="VI")&&(l2&&r2))||(l&&(r&&(c=="VF")))) (noV "LB28a") .none
def qA(a b:Str)(n0 n1:Bool):V:=cond ((a=="IS")&&inS b cC) (noV "LB29") (cond ((inS a cC||(a=="NU"))&&((b=="OP")&&n0)) (noV "LB30") (cond ((a=="CP")&&((inS b cC||(b=="NU"))&&n1)) (noV "LB30") .none))
def m7(a b g:Str)(r:Int)(ep ka:Bool):V:=cond ((a=="RI")&&((b=="RI")&&(r.fmod 2==1))) (noV "LB30a") (cond (b=="EM") (cond ((a=="EB")||(ep&&(g=="Cn"))) (noV "LB30b") (cond (ka&&(inS a rU&&inS b rU)) (noV "keep-all") .none)) (cond (ka&&(inS a rU&&inS b rU)) (noV "keep-all") .none))
section
variable{P:Params}{d n u h D so re un u1:Nat}{J:Hp}{k q N cd r:Int}{a b s c nm a2 st aq g:Str}{j qi qf n1 n2 l rr l2 r2 n0 ep ka:Bool}{e:V}
noncomputable abbrev aC(P:Params)(d n:Nat)(J:Hp)(k:Int)(w:Str):Prop:=cP P d "LineView" "word" [.inst "LineView" n,.int k] [] J (.str w) J
noncomputable abbrev wU(P:Params)(d n:Nat)(J:Hp)(k:Int)(w:Str):Prop:=cP P d "LineView" "solid_word" [.inst "LineView" n,.int k] [] J (.str w) J
noncomputable abbrev wV(P:Params)(d n:Nat)(J:Hp)(k:Int)(kd:Str)(w:Bool):Prop:=cP P d "LineView" "is_quote" [.inst "LineView" n,.int k,.str kd] [] J (.bool w) J
noncomputable abbrev A7(P:Params)(d n:Nat)(J:Hp)(k:Int)(w:Bool):Prop:=cP P d "LineView" "is_narrow" [.inst "LineView" n,.int k] [] J (.bool w) J
noncomputable abbrev lL(P:Params)(d n:Nat)(J:Hp)(k:Int)(ws:List V)(w:Bool):Prop:=cP P d "" "line_is_aksara" [.inst "LineView" n,.int k,.tup ws] [] J (.bool w) J
noncomputable abbrev be(P:Params)(d n:Nat)(J:Hp)(f:Str)(k:Int)(v:V):Prop:=cP P d "" f [.inst "LineView" n,.int k] [] J v J
noncomputable abbrev a7(P:Params)(n:Nat)(J:Hp)(m:Str):Prop:=cg (a_T P) J (.inst "LineView" n) m=some (.fn "LineView")
noncomputable abbrev cN(P:Params)(n:Nat)(J:Hp)(m:Str)(v:V):Prop:=cG (a_T P) J (.inst "LineView" n) m=some v
theorem Lv(hm:a7 P n J "word")(W1:aC P d n J (k-1) a)(W0:aC P d n J k b):be P (d+1) n J "line_rule_hard" k (lr a b):=by
 unfold a7 at hm
 unfold aC at W1
 unfold aC at W0
 unfold be
 exact af (eO P) ([V.inst (Str.ofString "LineView") n,V.int k]) (fun z=>(zK hm (zD W1 (zK hm (zD W0 (zM (fun p42=>(z0 (zE J ((xT p42 rfl):lr a b=_))).R) (fun p42=>(zW J (zM (fun p96=>(z0 (zE J ((xF p42 (xT p96 rfl)):lr a b=_))).R) (fun p96=>(zM (fun p169=>(z0 (zE J ((xF p42 (xF p96 (xT p169 rfl))):lr a b=_))).R) (fun p169=>(zM (fun p293=>(z0 (zE J ((xF p42 (xF p96 (xF p169 (xT p293 rfl)))):lr a b=_))).R) (fun p293=>z0 (zE J ((xF p42 (xF p96 (xF p169 (xF p293 rfl)))):lr a b=_)))).C)).C))).C.O.C)).C.R)).R).C).R.R)
theorem FJ(hm:a7 P n J "word")(hs:a7 P n J "solid_word")(W0:aC P d n J k b)(S1:wU P d n J (k-1) s)(U:cN P n J "units" (.ref u))(I1:ai J (.ref u) (.int (k-1))=some (.inst "LineUnit" u1))(σ1:cG (a_T P) J (.inst "LineUnit" u1) "is_joined"=some (.bool j)):be P (d+1) n J "line_rule_spaces" k (gB b s j):=by
 unfold a7 at hm
 unfold a7 at hs
 unfold aC at W0
 unfold wU at S1
 unfold cN at U
 unfold be
 exact af (dZ P) ([V.inst (Str.ofString "LineView") n,V.int k]) (fun z=>(zK hm (zD W0 (zM (fun p21=>(z0 (zE J ((xT p21 rfl):gB b s j=_))).R) (fun p21=>(zK hs (zD S1 (zM (fun p107=>(z0 (zE J ((xF p21 (xT p107 rfl)):gB b s j=_))).R) (fun p107=>(zV U (zV I1 (zV σ1 (zM (fun p161=>(z0 (zE J ((xF p21 (xF p107 (xT p161 rfl))):gB b s j=_))).R) (fun p161=>z0 (zE J ((xF p21 (xF p107 (xF p161 rfl))):gB b s j=_)))))).C).R.R)).C).C).R)).C.R)).R)
theorem Lw(hm:a7 P n J "word")(W1:aC P d n J (k-1) a)(W0:aC P d n J k b):be P (d+1) n J "line_rule_glue" k (ke a b):=by
 unfold a7 at hm
 unfold aC at W1
 unfold aC at W0
 unfold be
 exact af (eP P) ([V.inst (Str.ofString "LineView") n,V.int k]) (fun z=>(zK hm (zD W1 (zK hm (zD W0 (zW J (zM (fun p65=>(z0 (zE J ((xT p65 rfl):ke a b=_))).R) (fun p65=>(zM (fun p137=>(z0 (zE J ((xF p65 (xT p137 rfl)):ke a b=_))).R) (fun p137=>(zW J (zM (fun p194=>(z0 (zE J ((xF p65 (xF p137 (xT p194 rfl))):ke a b=_))).R) (fun p194=>z0 (zE J ((xF p65 (xF p137 (xF p194 rfl))):ke a b=_))))).C.R.O.C)).C))).C.O.C.R)).R).C).R.R)
theorem DK(hm:a7 P n J "word")(hs:a7 P n J "solid_word")(W1:aC P d n J (k-1) a)(W0:aC P d n J k b)(S1:wU P d n J (k-1) s)(HOW:cN P n J "how" (.inst "LineHow" h))(NM:cG (a_T P) J (.inst "LineHow" h) "numbers"=some (.str nm)):be P (d+1) n J "line_rule_closing" k (dP a b s nm):=by
 unfold a7 at hm
 unfold a7 at hs
 unfold aC at W1
 unfold aC at W0
 unfold wU at S1
 unfold cN at HOW
 unfold be
 exact af (dF P) ([V.inst (Str.ofString "LineView") n,V.int k]) (fun z=>(zK hm (zD W0 (zM (fun p21=>(zV HOW (zV NM (zK hm (zD W1 (zW J (zW J (zM (fun p264=>(z0 (zE J ((xT p21 (xT p264 rfl)):dP a b s nm=_))).R) (fun p264=>(zK hs (zD S1 (zM (fun p427=>(z0 (zE J ((xT p21 (xF p264 (xT p427 rfl))):dP a b s nm=_))).R) (fun p427=>z0 (zE J ((xT p21 (xF p264 (xF p427 rfl))):dP a b s nm=_)))).C).C).R)).C)).C).C).R.O.C.O.C)).R.R.R) (fun p21=>(zK hs (zD S1 (zM (fun p193=>(z0 (zE J ((xF p21 (xT p193 rfl)):dP a b s nm=_))).R) (fun p193=>z0 (zE J ((xF p21 (xF p193 rfl)):dP a b s nm=_)))).C).C).R)).C)).R.R)
theorem FK(hm:a7 P n J "word")(hq:a7 P n J "is_quote")(SO:cN P n J "solid" (.ref so))(SI:ai J (.ref so) (.int (k-1))=some (.int q))(Q1:wV P d n J q "Pi" qi)(WQ:aC P d n J (q-1) aq)(Q0:wV P d n J k "Pf" qf)(U:cN P n J "units" (.ref u))(LN:biI true "len" [.ref u] J=some (.int N,J))(Wn:aC P d n J (k+1) c):be P (d+1) n J "line_rule_quotes" k (gd qi qf q k N aq c):=by
 unfold a7 at hm
 unfold a7 at hq
 unfold cN at SO
 unfold wV at Q1
 unfold aC at WQ
 unfold wV at Q0
 unfold cN at U
 unfold aC at Wn
 unfold be
 exact af (d3 P) ([V.inst (Str.ofString "LineView") n,V.int k]) (fun z=>(zV SO (zV SI (zK hq (zD Q1 (zK hm (zD WQ (zW J (zW J (zM (fun p100=>(z0 (zE J ((xT p100 rfl):gd qi qf q k N aq c=_))).R) (fun p100=>(zK hq (zD Q0 (zV U (zP LN (zK hm (zD Wn (zW J (zW J (zM (fun p586=>(z0 (zE J ((xF p100 (xT p586 rfl)):gd qi qf q k N aq c=_))).R) (fun p586=>z0 (zE J ((xF p100 (xF p586 rfl)):gd qi qf q k N aq c=_)))))).C).C).R.O.C)).R.R.C.O)).R)))).C).C).R.O.C.O)).R).C).R.R)
theorem Lx(hm:a7 P n J "word")(hs:a7 P n J "solid_word")(W1:aC P d n J (k-1) a)(W0:aC P d n J k b)(S1:wU P d n J (k-1) s):be P (d+1) n J "line_rule_over_spaces" k (m6 a b s):=by
 unfold a7 at hm
 unfold a7 at hs
 unfold aC at W1
 unfold aC at W0
 unfold wU at S1
 unfold be
 exact af (cL P) ([V.inst (Str.ofString "LineView") n,V.int k]) (fun z=>(zK hs (zD S1 (zK hm (zD W0 (zW J (zM (fun p68=>(z0 (zE J ((xT p68 rfl):m6 a b s=_))).R) (fun p68=>(zW J (zM (fun p201=>(z0 (zE J ((xF p68 (xT p201 rfl)):m6 a b s=_))).R) (fun p201=>(zK hm (zD W1 (zM (fun p292=>(z0 (zE J ((xF p68 (xF p201 (xT p292 rfl))):m6 a b s=_))).R) (fun p292=>z0 (zE J ((xF p68 (xF p201 (xF p292 rfl))):m6 a b s=_)))).C).C).R))).C.O.C))).C.O.C.R.R)).R).C).R.R)
theorem I8(hm:a7 P n J "word")(W1:aC P d n J (k-1) a)(W0:aC P d n J k b)(W2:aC P d n J (k-2) a2)(HOW:cN P n J "how" (.inst "LineHow" h))(ST:cG (a_T P) J (.inst "LineHow" h) "strictness"=some (.str st)):be P (d+1) n J "line_rule_signs" k (gv a b a2 st):=by
 unfold a7 at hm
 unfold aC at W1
 unfold aC at W0
 unfold aC at W2
 unfold cN at HOW
 unfold be
 exact af (ee P) ([V.inst (Str.ofString "LineView") n,V.int k]) (fun z=>(zK hm (zD W1 (zK hm (zD W0 (zW J (zM (fun p65=>(z0 (zE J ((xT p65 rfl):gv a b a2 st=_))).R) (fun p65=>(zW J (zM (fun p160=>(z0 (zE J ((xF p65 (xT p160 rfl)):gv a b a2 st=_))).R) (fun p160=>(zW J (zM (fun p258=>(z0 (zE J ((xF p65 (xF p160 (xT p258 rfl))):gv a b a2 st=_))).R) (fun p258=>(zK hm (zD W2 (zW J (zW J (zM (fun p464=>(z0 (zE J ((xF p65 (xF p160 (xF p258 (xT p464 rfl)))):gv a b a2 st=_))).R) (fun p464=>(zW J (zM (fun p658=>(z0 (zE J ((xF p65 (xF p160 (xF p258 (xF p464 (xT p658 rfl))))):gv a b a2 st=_))).R) (fun p658=>(zV HOW (zV ST (zW J (zW J (zM (fun p802=>(z0 (zE J ((xF p65 (xF p160 (xF p258 (xF p464 (xF p658 (xT p802 rfl)))))):gv a b a2 st=_))).R) (fun p802=>z0 (zE J ((xF p65 (xF p160 (xF p258 (xF p464 (xF p658 (xF p802 rfl)))))):gv a b a2 st=_))))).C.O.C).C.O.C)).R.R.R))).C.O.C)))).C.O.C).C).R.O.C.R))).C.O.C.R))).C.O.C))).C.O.C.R)).R).C).R.R)
theorem DL(hm:a7 P n J "word")(W1:aC P d n J (k-1) a)(W0:aC P d n J k b):be P (d+1) n J "line_rule_letters" k (dQ a b):=by
 unfold a7 at hm
 unfold aC at W1
 unfold aC at W0
 unfold be
 exact af (dG P) ([V.inst (Str.ofString "LineView") n,V.int k]) (fun z=>(zK hm (zD W1 (zK hm (zD W0 (zW J (zW J (zW J (zM (fun p111=>(z0 (zE J ((xT p111 rfl):dQ a b=_))).R) (fun p111=>(zW J (zW J (zW J (zM (fun p412=>(z0 (zE J ((xF p111 (xT p412 rfl)):dQ a b=_))).R) (fun p412=>(zW J (zW J (zW J (zM (fun p779=>(z0 (zE J ((xF p111 (xF p412 (xT p779 rfl))):dQ a b=_))).R) (fun p779=>z0 (zE J ((xF p111 (xF p412 (xF p779 rfl))):dQ a b=_)))))).C.O.C.O).C.O.C)))).C.O.C.O).C.O.C)))).C.O.C.O).C.O.C.R)).R).C).R.R)
theorem Ly(hm:a7 P n J "word")(W1:aC P d n J (k-1) a)(W0:aC P d n J k b)(Wn:aC P d n J (k+1) c)(X1:cP P d "" "line_is_number" [.inst "LineView" n,.int (k-1)] [] J (.bool n1) J)(X2:cP P d "" "line_is_number" [.inst "LineView" n,.int (k-2)] [] J (.bool n2) J):be P (d+1) n J "line_rule_expression" k (gA a b c n1 n2):=by
 unfold a7 at hm
 unfold aC at W1
 unfold aC at W0
 unfold aC at Wn
 unfold be
 exact af (cX P) ([V.inst (Str.ofString "LineView") n,V.int k]) (fun z=>(zK hm (zD W1 (zK hm (zD W0 (zK hm (zD Wn (zW J (zW J (zW J (zW J (zW J (zM (fun p184=>(z0 (zE J ((xT p184 rfl):gA a b c n1 n2=_))).R) (fun p184=>(zW J (zM (fun p574=>(zD X1 (zM (fun p759=>(z0 (zE J ((xF p184 (xT p574 (xT p759 rfl))):gA a b c n1 n2=_))).R) (fun p759=>z0 (zE J ((xF p184 (xT p574 (xF p759 rfl))):gA a b c n1 n2=_))))).C.R) (fun p574=>(zM (fun p750=>(zM (fun p824=>(zD X2 (zM (fun p901=>(z0 (zE J ((xF p184 (xF p574 (xT p750 (xT p824 (xT p901 rfl))))):gA a b c n1 n2=_))).R) (fun p901=>z0 (zE J ((xF p184 (xF p574 (xT p750 (xT p824 (xF p901 rfl))))):gA a b c n1 n2=_))))).R.C) (fun p824=>(zD X1 (zM (fun p901=>(z0 (zE J ((xF p184 (xF p574 (xT p750 (xF p824 (xT p901 rfl))))):gA a b c n1 n2=_))).R) (fun p901=>z0 (zE J ((xF p184 (xF p574 (xT p750 (xF p824 (xF p901 rfl))))):gA a b c n1 n2=_))))).R.C)).C.R.R) (fun p750=>z0 (zE J ((xF p184 (xF p574 (xF p750 rfl))):gA a b c n1 n2=_)))).C))).C.R.O.C)))).C.O.C.R.O).O.C)).C).C).R.O.C.R.O.C.R.R)).R).C).R.R)
theorem DN(hm:a7 P n J "word")(W1:aC P d n J (k-1) a)(W0:aC P d n J k b)(HOW:cN P n J "how" (.inst "LineHow" h))(NM:cG (a_T P) J (.inst "LineHow" h) "numbers"=some (.str nm))(EX:be P d n J "line_rule_expression" k e):be P (d+1) n J "line_rule_numbers" k (eo a b nm e):=by
 unfold a7 at hm
 unfold aC at W1
 unfold aC at W0
 unfold cN at HOW
 unfold be at EX
 unfold be
 exact af (dH P) ([V.inst (Str.ofString "LineView") n,V.int k]) (fun z=>(zV HOW (zV NM (zM (fun p22=>(zD EX (z0 (zE J ((xT p22 rfl):eo a b nm e=_)))).R) (fun p22=>(zK hm (zD W1 (zK hm (zD W0 (zM (fun p98=>(z0 (zE J ((xF p22 (xT p98 rfl)):eo a b nm e=_))).R) (fun p98=>z0 (zE J ((xF p22 (xF p98 rfl)):eo a b nm e=_)))).C.R)).R).C).R)).C)).R.R)
theorem B9{x:Str}{ys:List Str}:aM J .In (.str x) (.tup (ys.map .str))=some (inS x ys):=by
 show pJ (eqV 6) (.str x) _=_
 induction ys with
 |nil=>rfl
 |cons y ys ih=>show(eqV 6 (.str y) (.str x)).bind (fun b=>(pJ (eqV 6) (.str x) (ys.map .str)).bind fun c=>some (b||c))=_;rw[ih];rfl
theorem FL:aS J "dict.get" (vAt (az P) "LINE_JAMO") [.str a,.tup []]=some (.tup ((p0 a).map .str),J):=by
 have e:vAt (az P) "LINE_JAMO"=.jd [("JL",["JL","JV","H2","H3"]),("JV",["JV","JT"]),("H2",["JV","JT"]),("JT",["JT"]),("H3",["JT"])]:=by kernel_rfl
 rw[e]
 show some (((match(List.lookup a ([("JL",["JL","JV","H2","H3"]),("JV",["JV","JT"]),("H2",["JV","JT"]),("JT",["JT"]),("H3",["JT"])]:List (Str×List Str)):Option (List Str))with | some l=>V.tup (l.map V.str) | none=>V.tup [])),J)=_
 unfold p0
 simp only[List.lookup]
 cases a==("JL":Str) <;> cases a==("JV":Str) <;> cases a==("H2":Str) <;> cases a==("JT":Str) <;> cases a==("H3":Str) <;> rfl
theorem Nd(hm:a7 P n J "word")(W1:aC P d n J (k-1) a)(W0:aC P d n J k b):be P (d+1) n J "line_rule_syllables" k (qz a b):=by
 unfold a7 at hm
 unfold aC at W1
 unfold aC at W0
 unfold be
 have g1:=FL (P:=P) (J:=J) (a:=a)
 have g2:=B9 (J:=J) (x:=b) (ys:=p0 a)
 exact af (dg P) ([V.inst (Str.ofString "LineView") n,V.int k]) (fun z=>(zK hm (zD W1 (zK hm (zD W0 (zP g1 (zT g2 (zM (fun p60=>(z0 (zE J ((xT p60 rfl):qz a b=_))).R) (fun p60=>(zW J (zW J (zW J (zM (fun p177=>(z0 (zE J ((xF p60 (xT p177 rfl)):qz a b=_))).R) (fun p177=>(zW J (zM (fun p642=>(z0 (zE J ((xF p60 (xF p177 (xT p642 rfl))):qz a b=_))).R) (fun p642=>z0 (zE J ((xF p60 (xF p177 (xF p642 rfl))):qz a b=_))))).C.O.C)))).C.O.C.O).C.O.C)))).R.C.R.R)).R).C).R.R)
theorem Nf(hm:a7 P n J "word")(W1:aC P d n J (k-1) a)(W0:aC P d n J k b)(Wn:aC P d n J (k+1) c)(A1:lL P d n J (k-1) [.str "AK",.str "AS"] l)(A0:lL P d n J k [.str "AK",.str "AS"] rr)(A2:lL P d n J (k-2) [.str "AK",.str "AS"] l2)(A3:lL P d n J k [.str "AK"] r2):be P (d+1) n J "line_rule_aksaras" k (t9 a b c l rr l2 r2):=by
 unfold a7 at hm
 unfold aC at W1
 unfold aC at W0
 unfold aC at Wn
 unfold lL at A1
 unfold lL at A0
 unfold lL at A2
 unfold lL at A3
 unfold be
 exact af (dI P) ([V.inst (Str.ofString "LineView") n,V.int k]) (fun z=>(zK hm (zD W1 (zK hm (zD W0 (zD A1 (zD A0 (zW J (zW J (zW J (zD A2 (zD A3 (zW J (zW J (zW J (zK hm (zD Wn (zW J (zW J (zW J (zM (fun p315=>(z0 (zE J ((xT p315 rfl):t9 a b c l rr l2 r2=_))).R) (fun p315=>z0 (zE J ((xF p315 rfl):t9 a b c l rr l2 r2=_))))))).C).C).R.O.O.O.R)))).R.R.O).C.R.O.C.O.R)).C.R.O.O).O.C.R.R).R).C.R.R.R.R)).R).C).R.R)
theorem Ng(hm:a7 P n J "word")(hn:a7 P n J "is_narrow")(W1:aC P d n J (k-1) a)(W0:aC P d n J k b)(N0:A7 P d n J k n0)(N1:A7 P d n J (k-1) n1):be P (d+1) n J "line_rule_brackets" k (qA a b n0 n1):=by
 unfold a7 at hm
 unfold a7 at hn
 unfold aC at W1
 unfold aC at W0
 unfold A7 at N0
 unfold A7 at N1
 unfold be
 exact af (dq P) ([V.inst (Str.ofString "LineView") n,V.int k]) (fun z=>(zK hm (zD W1 (zK hm (zD W0 (zW J (zM (fun p65=>(z0 (zE J ((xT p65 rfl):qA a b n0 n1=_))).R) (fun p65=>(zW J (zK hn (zD N0 (zW J (zW J (zM (fun p256=>(z0 (zE J ((xF p65 (xT p256 rfl)):qA a b n0 n1=_))).R) (fun p256=>(zW J (zK hn (zD N1 (zW J (zW J (zM (fun p513=>(z0 (zE J ((xF p65 (xF p256 (xT p513 rfl))):qA a b n0 n1=_))).R) (fun p513=>z0 (zE J ((xF p65 (xF p256 (xF p513 rfl))):qA a b n0 n1=_))))))).C).R.O).C.O.C.O.C)))))).R.O.C.O).C.O.C))).C.O.C.R)).R).C).R.R)
theorem Nh(hm:a7 P n J "word")(W1:aC P d n J (k-1) a)(W0:aC P d n J k b)(RE:cN P n J "regional" (.ref re))(RI:ai J (.ref re) (.int (k-1))=some (.int r))(U:cN P n J "units" (.ref u))(I1:ai J (.ref u) (.int (k-1))=some (.inst "LineUnit" u1))(C1:cG (a_T P) J (.inst "LineUnit" u1) "code"=some (.int cd))(DA:cN P n J "data" (.inst "Data" D))(DM:cg (a_T P) J (.inst "Data" D) "get"=some (.fn "Data"))(EP:cP P d "Data" "get" [.inst "Data" D,.str "ep",.int cd] [] J (.bool ep) J)(GC:cP P d "Data" "get" [.inst "Data" D,.str "gc",.int cd] [] J (.str g) J)(HOW:cN P n J "how" (.inst "LineHow" h))(KA:cG (a_T P) J (.inst "LineHow" h) "keep_all"=some (.bool ka)):be P (d+1) n J "line_rule_pictures" k (m7 a b g r ep ka):=by
 unfold a7 at hm
 unfold aC at W1
 unfold aC at W0
 unfold cN at RE
 unfold cN at U
 unfold cN at DA
 unfold cN at HOW
 unfold be
 exact af (dw P) ([V.inst (Str.ofString "LineView") n,V.int k]) (fun z=>(zK hm (zD W1 (zK hm (zD W0 (zV RE (zV RI (zW J (zW J (zM (fun p170=>(z0 (zE J ((xT p170 rfl):m7 a b g r ep ka=_))).R) (fun p170=>(zM (fun p276=>(zV U (zV I1 (zV C1 (zV DA (zK DM (zD EP (zV DA (zK DM (zD GC (zW J (zW J (zM (fun p456=>(z0 (zE J ((xF p170 (xT p276 (xT p456 rfl))):m7 a b g r ep ka=_))).R) (fun p456=>(zV HOW (zV KA (zW J (zW J (zM (fun p726=>(z0 (zE J ((xF p170 (xT p276 (xF p456 (xT p726 rfl)))):m7 a b g r ep ka=_))).R) (fun p726=>z0 (zE J ((xF p170 (xT p276 (xF p456 (xF p726 rfl)))):m7 a b g r ep ka=_)))))).C.O.C.O)).R.R)))).C))).R.R.O))).R.R.O.C)).C).R.R.R) (fun p276=>(zV HOW (zV KA (zW J (zW J (zM (fun p369=>(z0 (zE J ((xF p170 (xF p276 (xT p369 rfl))):m7 a b g r ep ka=_))).R) (fun p369=>z0 (zE J ((xF p170 (xF p276 (xF p369 rfl))):m7 a b g r ep ka=_)))))).C.O.C.O)).R.R)).C)))).C.C).C).R.O.C.O.C.R)).R).C).R.R)
end
section
variable{P:Params}{d n h D:Nat}{J:Hp}{k:Int}
theorem Lz{v1 v2 v3 v4 v5 v6 v7 v8 v9 v10 v11 v12 v13:V}{b1 b2 b3 b4 b5 b6 b7 b8 b9 b10 b11 b12 b13:Bool}
 (R1:be P d n J "line_rule_hard" k v1) (R2:be P d n J "line_rule_spaces" k v2) (R3:be P d n J "line_rule_glue" k v3) (R4:be P d n J "line_rule_closing" k v4) (R5:be P d n J "line_rule_quotes" k v5)
 (R6:be P d n J "line_rule_over_spaces" k v6) (R7:be P d n J "line_rule_signs" k v7) (R8:be P d n J "line_rule_letters" k v8) (R9:be P d n J "line_rule_numbers" k v9) (R10:be P d n J "line_rule_syllables" k v10)
 (R11:be P d n J "line_rule_aksaras" k v11) (R12:be P d n J "line_rule_brackets" k v12) (R13:be P d n J "line_rule_pictures" k v13)
 (T1:bM J v1=some b1) (T2:bM J v2=some b2) (T3:bM J v3=some b3) (T4:bM J v4=some b4) (T5:bM J v5=some b5) (T6:bM J v6=some b6) (T7:bM J v7=some b7) (T8:bM J v8=some b8) (T9:bM J v9=some b9)
 (T10:bM J v10=some b10) (T11:bM J v11=some b11) (T12:bM J v12=some b12) (T13:bM J v13=some b13) :
 be P (d+1) n J "line_verdict" k (cond b1 v1 (cond b2 v2 (cond b3 v3 (cond b4 v4 (cond b5 v5 (cond b6 v6 (cond b7 v7 (cond b8 v8 (cond b9 v9 (cond b10 v10 (cond b11 v11 (cond b12 v12 (cond b13 v13 (i4 "LB31")))))))))))))):=by
 unfold be at R1 R2 R3 R4 R5 R6 R7 R8 R9 R10 R11 R12 R13
 unfold be
 exact af (fE P) ([V.inst (Str.ofString "LineView") n,V.int k]) (fun z=>(zD R1 (zB T1 (fun p12=>(zT (Eq.trans T1 (PI some p12)) (zT (Eq.trans T1 (PI some p12)) (zT (Eq.trans T1 (PI some p12)) (zT (Eq.trans T1 (PI some p12)) (z0 (zE J ((xT p12 rfl):(bif b1 then v1 else bif b2 then v2 else bif b3 then v3 else bif b4 then v4 else bif b5 then v5 else bif b6 then v6 else bif b7 then v7 else bif b8 then v8 else bif b9 then v9 else bif b10 then v10 else bif b11 then v11 else bif b12 then v12 else bif b13 then v13 else i4 (Str.ofString "LB31"))=_))))).R).R).R) (fun p12=>(zD R2 (zB T2 (fun p33=>(zT (Eq.trans T2 (PI some p33)) (zT (Eq.trans T2 (PI some p33)) (zT (Eq.trans T2 (PI some p33)) (zT (Eq.trans T2 (PI some p33)) (z0 (zE J ((xF p12 (xT p33 rfl)):(bif b1 then v1 else bif b2 then v2 else bif b3 then v3 else bif b4 then v4 else bif b5 then v5 else bif b6 then v6 else bif b7 then v7 else bif b8 then v8 else bif b9 then v9 else bif b10 then v10 else bif b11 then v11 else bif b12 then v12 else bif b13 then v13 else i4 (Str.ofString "LB31"))=_))))).R).R).R) (fun p33=>(zD R3 (zB T3 (fun p57=>(zT (Eq.trans T3 (PI some p57)) (zT (Eq.trans T3 (PI some p57)) (zT (Eq.trans T3 (PI some p57)) (z0 (zE J ((xF p12 (xF p33 (xT p57 rfl))):(bif b1 then v1 else bif b2 then v2 else bif b3 then v3 else bif b4 then v4 else bif b5 then v5 else bif b6 then v6 else bif b7 then v7 else bif b8 then v8 else bif b9 then v9 else bif b10 then v10 else bif b11 then v11 else bif b12 then v12 else bif b13 then v13 else i4 (Str.ofString "LB31"))=_))))).R).R) (fun p57=>(zD R4 (zB T4 (fun p78=>(zT (Eq.trans T4 (PI some p78)) (zT (Eq.trans T4 (PI some p78)) (zT (Eq.trans T4 (PI some p78)) (z0 (zE J ((xF p12 (xF p33 (xF p57 (xT p78 rfl)))):(bif b1 then v1 else bif b2 then v2 else bif b3 then v3 else bif b4 then v4 else bif b5 then v5 else bif b6 then v6 else bif b7 then v7 else bif b8 then v8 else bif b9 then v9 else bif b10 then v10 else bif b11 then v11 else bif b12 then v12 else bif b13 then v13 else i4 (Str.ofString "LB31"))=_))))).R).R) (fun p78=>(zD R5 (zB T5 (fun p99=>(zT (Eq.trans T5 (PI some p99)) (zT (Eq.trans T5 (PI some p99)) (zT (Eq.trans T5 (PI some p99)) (z0 (zE J ((xF p12 (xF p33 (xF p57 (xF p78 (xT p99 rfl))))):(bif b1 then v1 else bif b2 then v2 else bif b3 then v3 else bif b4 then v4 else bif b5 then v5 else bif b6 then v6 else bif b7 then v7 else bif b8 then v8 else bif b9 then v9 else bif b10 then v10 else bif b11 then v11 else bif b12 then v12 else bif b13 then v13 else i4 (Str.ofString "LB31"))=_))))).R).R) (fun p99=>(zD R6 (zB T6 (fun p123=>(zT (Eq.trans T6 (PI some p123)) (zT (Eq.trans T6 (PI some p123)) (z0 (zE J ((xF p12 (xF p33 (xF p57 (xF p78 (xF p99 (xT p123 rfl)))))):(bif b1 then v1 else bif b2 then v2 else bif b3 then v3 else bif b4 then v4 else bif b5 then v5 else bif b6 then v6 else bif b7 then v7 else bif b8 then v8 else bif b9 then v9 else bif b10 then v10 else bif b11 then v11 else bif b12 then v12 else bif b13 then v13 else i4 (Str.ofString "LB31"))=_))))).R) (fun p123=>(zD R7 (zB T7 (fun p144=>(zT (Eq.trans T7 (PI some p144)) (zT (Eq.trans T7 (PI some p144)) (z0 (zE J ((xF p12 (xF p33 (xF p57 (xF p78 (xF p99 (xF p123 (xT p144 rfl))))))):(bif b1 then v1 else bif b2 then v2 else bif b3 then v3 else bif b4 then v4 else bif b5 then v5 else bif b6 then v6 else bif b7 then v7 else bif b8 then v8 else bif b9 then v9 else bif b10 then v10 else bif b11 then v11 else bif b12 then v12 else bif b13 then v13 else i4 (Str.ofString "LB31"))=_))))).R) (fun p144=>(zD R8 (zB T8 (fun p165=>(zT (Eq.trans T8 (PI some p165)) (zT (Eq.trans T8 (PI some p165)) (z0 (zE J ((xF p12 (xF p33 (xF p57 (xF p78 (xF p99 (xF p123 (xF p144 (xT p165 rfl)))))))):(bif b1 then v1 else bif b2 then v2 else bif b3 then v3 else bif b4 then v4 else bif b5 then v5 else bif b6 then v6 else bif b7 then v7 else bif b8 then v8 else bif b9 then v9 else bif b10 then v10 else bif b11 then v11 else bif b12 then v12 else bif b13 then v13 else i4 (Str.ofString "LB31"))=_))))).R) (fun p165=>(zD R9 (zB T9 (fun p189=>zT (Eq.trans T9 (PI some p189)) (z0 (zE J ((xF p12 (xF p33 (xF p57 (xF p78 (xF p99 (xF p123 (xF p144 (xF p165 (xT p189 rfl))))))))):(bif b1 then v1 else bif b2 then v2 else bif b3 then v3 else bif b4 then v4 else bif b5 then v5 else bif b6 then v6 else bif b7 then v7 else bif b8 then v8 else bif b9 then v9 else bif b10 then v10 else bif b11 then v11 else bif b12 then v12 else bif b13 then v13 else i4 (Str.ofString "LB31"))=_)))) (fun p189=>(zD R10 (zB T10 (fun p211=>zT (Eq.trans T10 (PI some p211)) (z0 (zE J ((xF p12 (xF p33 (xF p57 (xF p78 (xF p99 (xF p123 (xF p144 (xF p165 (xF p189 (xT p211 rfl)))))))))):(bif b1 then v1 else bif b2 then v2 else bif b3 then v3 else bif b4 then v4 else bif b5 then v5 else bif b6 then v6 else bif b7 then v7 else bif b8 then v8 else bif b9 then v9 else bif b10 then v10 else bif b11 then v11 else bif b12 then v12 else bif b13 then v13 else i4 (Str.ofString "LB31"))=_)))) (fun p211=>(zD R11 (zB T11 (fun p234=>zT (Eq.trans T11 (PI some p234)) (z0 (zE J ((xF p12 (xF p33 (xF p57 (xF p78 (xF p99 (xF p123 (xF p144 (xF p165 (xF p189 (xF p211 (xT p234 rfl))))))))))):(bif b1 then v1 else bif b2 then v2 else bif b3 then v3 else bif b4 then v4 else bif b5 then v5 else bif b6 then v6 else bif b7 then v7 else bif b8 then v8 else bif b9 then v9 else bif b10 then v10 else bif b11 then v11 else bif b12 then v12 else bif b13 then v13 else i4 (Str.ofString "LB31"))=_)))) (fun p234=>(zD R12 (zB T12 (fun p257=>z0 (zE J ((xF p12 (xF p33 (xF p57 (xF p78 (xF p99 (xF p123 (xF p144 (xF p165 (xF p189 (xF p211 (xF p234 (xT p257 rfl)))))))))))):(bif b1 then v1 else bif b2 then v2 else bif b3 then v3 else bif b4 then v4 else bif b5 then v5 else bif b6 then v6 else bif b7 then v7 else bif b8 then v8 else bif b9 then v9 else bif b10 then v10 else bif b11 then v11 else bif b12 then v12 else bif b13 then v13 else i4 (Str.ofString "LB31"))=_))) (fun p257=>(zD R13 (zB T13 (fun p280=>z0 (zE J ((xF p12 (xF p33 (xF p57 (xF p78 (xF p99 (xF p123 (xF p144 (xF p165 (xF p189 (xF p211 (xF p234 (xF p257 (xT p280 rfl))))))))))))):(bif b1 then v1 else bif b2 then v2 else bif b3 then v3 else bif b4 then v4 else bif b5 then v5 else bif b6 then v6 else bif b7 then v7 else bif b8 then v8 else bif b9 then v9 else bif b10 then v10 else bif b11 then v11 else bif b12 then v12 else bif b13 then v13 else i4 (Str.ofString "LB31"))=_))) (fun p280=>(z0 (zE J ((xF p12 (xF p33 (xF p57 (xF p78 (xF p99 (xF p123 (xF p144 (xF p165 (xF p189 (xF p211 (xF p234 (xF p257 (xF p280 rfl))))))))))))):(bif b1 then v1 else bif b2 then v2 else bif b3 then v3 else bif b4 then v4 else bif b5 then v5 else bif b6 then v6 else bif b7 then v7 else bif b8 then v8 else bif b9 then v9 else bif b10 then v10 else bif b11 then v11 else bif b12 then v12 else bif b13 then v13 else i4 (Str.ofString "LB31"))=_))).R))).R))).R))).R))).R)).R).R))).R))).R)).R).R))).R))).R)).R).R))).R))).R.R)
end
structure au where
 w:Str
 code:Int
 at':Int
 j:Bool
noncomputable abbrev jv(u:au):ab:=.dict [("word",.str u.w),("code",.int u.code),("at",.int u.at'),("is_joined",.bool u.j)]
section
variable{P:Params}{d n h D u m so nu:Nat}{J:Hp}{p q N cd:Int}{w g e kd:Str}{b:Bool}{ws:List V}
noncomputable abbrev UnF(P:Params)(J:Hp)(u:Nat)(p:Int)(m:Nat):Prop:=ai J (.ref u) (.int p)=some (.inst "LineUnit" m)
noncomputable abbrev UW(P:Params)(J:Hp)(m:Nat)(w:Str):Prop:=cG (a_T P) J (.inst "LineUnit" m) "word"=some (.str w)
noncomputable abbrev UC(P:Params)(J:Hp)(m:Nat)(c:Int):Prop:=cG (a_T P) J (.inst "LineUnit" m) "code"=some (.int c)
noncomputable abbrev jz(P:Params)(d D:Nat)(J:Hp)(n:Str)(c:Int)(v:V):Prop:=cP P d "Data" "get" [.inst "Data" D,.str n,.int c] [] J v J
theorem LA(U:cN P n J "units" (.ref u))(L:biI true "len" [.ref u] J=some (.int N,J))(d1:decide (0<=p)=true)(d2:decide (p<N)=true)(I:UnF P J u p m)(W:UW P J m w):aC P (d+1) n J p w:=by
 unfold cN at U
 unfold aC
 exact af (cK P) ([V.inst (Str.ofString "LineView") n,V.int p]) (fun z=>(zH d1 (zV U (zP L (zH d2 (zV U (zV I (zV W (z0 z)))).R.R).C)).R.R).C)
theorem LB(d1:decide (0<=p)=false):aC P (d+1) n J p "":=by
 unfold aC
 exact af (cK P) ([V.inst (Str.ofString "LineView") n,V.int p]) (fun z=>(zH d1 (zH d1 (z0 z))).C)
theorem LC(U:cN P n J "units" (.ref u))(L:biI true "len" [.ref u] J=some (.int N,J))(d1:decide (0<=p)=true)(d2:decide (p<N)=false):aC P (d+1) n J p "":=by
 unfold cN at U
 unfold aC
 exact af (cK P) ([V.inst (Str.ofString "LineView") n,V.int p]) (fun z=>(zH d1 (zV U (zP L (zH d2 (z0 z)).C)).R.R).C)
theorem LD(hm:a7 P n J "word")(S:cN P n J "solid" (.ref so))(I:ai J (.ref so) (.int p)=some (.int q))(W:aC P d n J q w):wU P (d+1) n J p w:=by
 unfold cN at S
 unfold a7 at hm
 unfold aC at W
 unfold wU
 exact af (df P) ([V.inst (Str.ofString "LineView") n,V.int p]) (fun z=>(zK hm (zV S (zV I (zD W (z0 z)))).R).R)
theorem Ni(hm:a7 P n J "word")(W:aC P d n J p w)(hw:(w==("QU":Str))=false):wV P (d+1) n J p kd false:=by
 unfold a7 at hm
 unfold aC at W
 unfold wV
 exact af (cA P) ([V.inst (Str.ofString "LineView") n,V.int p,V.str kd]) (fun z=>(zK hm (zD W (zH hw (z0 (zE J ((PI V.bool (Eq.symm hw)):(V.bool false)=_)))).C)).R)
theorem Nj(hm:a7 P n J "word")(W:aC P d n J p w)(hw:(w==("QU":Str))=true)(DA:cN P n J "data" (.inst "Data" D))(DM:cg (a_T P) J (.inst "Data" D) "get"=some (.fn "Data"))(U:cN P n J "units" (.ref u))(I:UnF P J u p m)(C:UC P J m cd)
 (G:jz P d D J "gc" cd (.str g)):wV P (d+1) n J p kd (g==kd):=by
 unfold a7 at hm
 unfold aC at W
 unfold cN at DA U
 unfold jz at G
 unfold wV
 exact af (cA P) ([V.inst (Str.ofString "LineView") n,V.int p,V.str kd]) (fun z=>(zK hm (zD W (zH hw (zV DA (zK DM (zV U (zV I (zV C (zD G (z0 z).C)))).R.R)).R.R).C)).R)
theorem Nk(DA:cN P n J "data" (.inst "Data" D))(DM:cg (a_T P) J (.inst "Data" D) "get"=some (.fn "Data"))(U:cN P n J "units" (.ref u))(I:UnF P J u p m)(C:UC P J m cd)
 (G:jz P d D J "ea" cd (.str e)):A7 P (d+1) n J p (!inS e ["F","W","H"]):=by
 unfold cN at DA U
 unfold jz at G
 unfold A7
 exact af (dp P) ([V.inst (Str.ofString "LineView") n,V.int p]) (fun z=>(zV DA (zK DM (zV U (zV I (zV C (zD G (z0 z).C)))).R.R)).R.R)
theorem Nl(d1:decide (0<=p)=false):cP P (d+1) "" "line_is_number" [.inst "LineView" n,.int p] [] J (.bool false) J:=by
 exact af (dn P) ([V.inst (Str.ofString "LineView") n,V.int p]) (fun z=>(zH d1 (z0 (zE J ((PI V.bool (Eq.symm d1)):(V.bool false)=_)))).C)
theorem Nm(d1:decide (0<=p)=true)(S:cN P n J "numeric" (.ref nu))(I:ai J (.ref nu) (.int p)=some (.bool b)):cP P (d+1) "" "line_is_number" [.inst "LineView" n,.int p] [] J (.bool b) J:=by
 unfold cN at S
 exact af (dn P) ([V.inst (Str.ofString "LineView") n,V.int p]) (fun z=>(zH d1 (zV S (zV I (z0 z))).R).C)
theorem Nn(d1:decide (0<=p)=false):lL P (d+1) n J p ws false:=by
 unfold lL
 exact af (cq P) ([V.inst (Str.ofString "LineView") n,V.int p,V.tup ws]) (fun z=>(zH d1 (zH (nF d1) (z0 z)).C).C)
theorem No(U:cN P n J "units" (.ref u))(L:biI true "len" [.ref u] J=some (.int N,J))(d1:decide (0<=p)=true)(d2:decide (p<N)=false):lL P (d+1) n J p ws false:=by
 unfold cN at U
 unfold lL
 exact af (cq P) ([V.inst (Str.ofString "LineView") n,V.int p,V.tup ws]) (fun z=>(zH d1 (zV U (zP L (zH (nF d2) (z0 z)).C.C)).R.R).C)
theorem Np(U:cN P n J "units" (.ref u))(L:biI true "len" [.ref u] J=some (.int N,J))(d1:decide (0<=p)=true)(d2:decide (p<N)=true)(I:UnF P J u p m)(W:UW P J m w)(C:UC P J m cd)
 (B:aM J .In (.str w) (.tup ws)=some b):lL P (d+1) n J p ws (b||(cd==9676)):=by
 unfold cN at U
 unfold lL
 exact af (cq P) ([V.inst (Str.ofString "LineView") n,V.int p,V.tup ws]) (fun z=>(zH d1 (zV U (zP L (zH (nT d2) (zV U (zV I (zV W (zT B (zV U (zV I (zV C (zW J (z0 z)).C))).R.R.O)))).R.R).C.C)).R.R).C)
end
noncomputable def isR:V->Bool
 |.none=>false
 |_=>true
noncomputable def yR(v:V):Prop:=∀J,bM J v=some (isR v)
theorem i5:yR .none:=fun _=>rfl
theorem di{a b:Str}:yR (.tup [.str a,.str b]):=fun _=>rfl
theorem cD{t:Bool}{p q:V}(h1:yR p)(h2:yR q):yR (cond t p q):=by cases t;exact h2;exact h1
noncomputable def eR:List V->V
 |[]=>i4 "LB31"
 |v::r=>cond (isR v) v (eR r)
structure VD where
 us:List au
 sol:List Int
 reg:List Int
 num:List Bool
 gc:Int->Str
 ea:Int->Str
 ep:Int->Bool
 st:Str
 nm:Str
 ka:Bool
noncomputable def bW(W:VD)(p:Int):au:=W.us.getD p.toNat ⟨"",0,0,false⟩
noncomputable def inR(W:VD)(p:Int):Bool:=decide (0<=p)&&decide (p<W.us.length)
def bz(W:VD)(p:Int):Str:=cond (inR W p) (bW W p).w ""
noncomputable def m8(W:VD)(p:Int):Int:=W.sol.getD p.toNat 0
def A8(W:VD)(p:Int)(kd:Str):Bool:=(bz W p=="QU")&&(W.gc (bW W p).code==kd)
def FM(W:VD)(p:Int):Bool := !inS (W.ea (bW W p).code) ["F","W","H"]
noncomputable def DO(W:VD)(p:Int):Bool:=decide (0<=p)&&W.num.getD p.toNat false
def rV(W:VD)(p:Int)(ws:List Str):Bool:=inR W p&&(inS (bW W p).w ws||((bW W p).code==9676))
def Kg(W:VD)(k:Int):V:=gA (bz W (k-1)) (bz W k) (bz W (k+1)) (DO W (k-1)) (DO W (k-2))
def rW(W:VD)(k:Int):V:=eR [
 lr (bz W (k-1)) (bz W k),
 gB (bz W k) (bz W (m8 W (k-1))) (bW W (k-1)).j,
 ke (bz W (k-1)) (bz W k),
 dP (bz W (k-1)) (bz W k) (bz W (m8 W (k-1))) W.nm,
 gd (A8 W (m8 W (k-1)) "Pi") (A8 W k "Pf") (m8 W (k-1)) k W.us.length (bz W (m8 W (k-1)-1)) (bz W (k+1)),
 m6 (bz W (k-1)) (bz W k) (bz W (m8 W (k-1))),
 gv (bz W (k-1)) (bz W k) (bz W (k-2)) W.st,
 dQ (bz W (k-1)) (bz W k),
 eo (bz W (k-1)) (bz W k) W.nm (Kg W k),
 qz (bz W (k-1)) (bz W k),
 t9 (bz W (k-1)) (bz W k) (bz W (k+1)) (rV W (k-1) ["AK","AS"]) (rV W k ["AK","AS"]) (rV W (k-2) ["AK","AS"]) (rV W k ["AK"]),
 qA (bz W (k-1)) (bz W k) (FM W k) (FM W (k-1)),
 m7 (bz W (k-1)) (bz W k) (W.gc (bW W (k-1)).code) (W.reg.getD (k-1).toNat 0) (W.ep (bW W (k-1)).code) W.ka]
structure A9(P:Params)(J:Hp)(n u so re nu h D:Nat)(W:VD):Prop where
 mW:a7 P n J "word"
 mS:a7 P n J "solid_word"
 mQ:a7 P n J "is_quote"
 mN:a7 P n J "is_narrow"
 U:cN P n J "units" (.ref u)
 L:biI true "len" [.ref u] J=some (.int W.us.length,J)
 I:∀i:Nat,i<W.us.length->∃m,UnF P J u i m/\UW P J m (bW W i).w/\UC P J m (bW W i).code/\cG (a_T P) J (.inst "LineUnit" m) "is_joined"=some (.bool (bW W i).j)
 HOW:cN P n J "how" (.inst "LineHow" h)
 NM:cG (a_T P) J (.inst "LineHow" h) "numbers"=some (.str W.nm)
 ST:cG (a_T P) J (.inst "LineHow" h) "strictness"=some (.str W.st)
 KA:cG (a_T P) J (.inst "LineHow" h) "keep_all"=some (.bool W.ka)
 SO:cN P n J "solid" (.ref so)
 SI:∀i:Nat,i<W.us.length->ai J (.ref so) (.int i)=some (.int (m8 W i)) /\ -1<=m8 W i/\m8 W i<=i
 RE:cN P n J "regional" (.ref re)
 RI:∀i:Nat,i<W.us.length->ai J (.ref re) (.int i)=some (.int (W.reg.getD i 0))
 NU:cN P n J "numeric" (.ref nu)
 NI:∀i:Nat,i<W.us.length->ai J (.ref nu) (.int i)=some (.bool (W.num.getD i false))
 DA:cN P n J "data" (.inst "Data" D)
 DM:cg (a_T P) J (.inst "Data" D) "get"=some (.fn "Data")
 Ggc:∀(d i:Nat),i<W.us.length->jz P (d+4) D J "gc" (bW W i).code (.str (W.gc (bW W i).code))
 Gea:∀(d i:Nat),i<W.us.length->jz P (d+4) D J "ea" (bW W i).code (.str (W.ea (bW W i).code))
 Gep:∀(d i:Nat),i<W.us.length->jz P (d+4) D J "ep" (bW W i).code (.bool (W.ep (bW W i).code))
theorem wW{W:VD}{p:Int}(h:inR W p=true):∃i:Nat,p=i/\i<W.us.length:=by
 unfold inR at h
 rw[PJ,decide_eq_true_eq,decide_eq_true_eq]at h
 exact⟨p.toNat,by lia,by lia⟩
section
variable{P:Params}{J:Hp}{n u so re nu h D:Nat}{W:VD}(A:A9 P J n u so re nu h D W)
include A
theorem gQ{d:Nat}(p:Int):aC P (d+1) n J p (bz W p):=by
 unfold bz
 cases hr:inR W p with
 |true =>
  refine ae (wW hr) ?_;rintro i rfl hi
  refine bI (A.I i hi) ?_;rintro m h1 h2 _
  exact LA A.U A.L (PB (Qd _)) (PB (Int.ofNat_lt.mpr ‹_›)) h1 h2
 |false =>
  by_cases h0:0<=p
  . refine LC A.U A.L (PB h0) (P6 fun h1=>?_)
    unfold inR at hr
    rw[PB h0,PB h1]at hr
    cases hr
  .exact LB (P6 h0)
theorem Nq{d:Nat}{i:Nat}(hi:i<W.us.length):wU P (d+2) n J i (bz W (m8 W i)):=LD A.mW A.SO (A.SI i hi).1 (gQ A _)
theorem Kh{d:Nat}(p:Int)(kd:Str):wV P (d+5) n J p kd (A8 W p kd):=by
 unfold A8
 cases hw:bz W p==("QU":Str)with
 |false=>exact Ni A.mW (gQ A _) hw
 |true =>
  have hr:inR W p=true:=by
   cases hr:inR W p with
   |true=>rfl
   |false =>
    unfold bz at hw
    rw[hr]at hw
    cases hw
  refine ae (wW hr) ?_;rintro i rfl hi
  refine iQ (A.I i hi) ?_;rintro m h1 h2 h3 _
  exact Nj A.mW (gQ A _) hw A.DA A.DM A.U h1 h3 (A.Ggc _ i hi)
theorem Ki{d i:Nat}(hi:i<W.us.length):A7 P (d+5) n J i (FM W i):=by
 refine iQ (A.I i hi) ?_;rintro m h1 h2 h3 _
 exact Nk A.DA A.DM A.U h1 h3 (A.Gea _ i hi)
theorem Kj{d:Nat}{p:Int}(hp:p<W.us.length):cP P (d+1) "" "line_is_number" [.inst "LineView" n,.int p] [] J (.bool (DO W p)) J:=by
 unfold DO
 cases h0:decide (0<=p)with
 |false=>exact Nl h0
 |true =>
  obtain⟨i,rfl⟩:∃i:Nat,p=i:=⟨p.toNat,by have:=PP h0;exact(Int.toNat_of_nonneg ‹_›).symm⟩
  exact Nm h0 A.NU (A.NI i (Int.ofNat_lt.mp ‹_›))
theorem Ca{d:Nat}(p:Int)(ws:List Str):lL P (d+1) n J p (ws.map .str) (rV W p ws):=by
 unfold rV
 cases hr:inR W p with
 |true =>
  refine ae (wW hr) ?_;rintro i rfl hi
  refine iQ (A.I i hi) ?_;rintro m h1 h2 h3 _
  exact Np A.U A.L (PB (Qd _)) (PB (Int.ofNat_lt.mpr ‹_›)) h1 h2 h3 B9
 |false =>
  by_cases h0:0<=p
  . refine No A.U A.L (PB h0) (P6 fun h1=>?_)
    unfold inR at hr
    rw[PB h0,PB h1]at hr
    cases hr
  .exact Nn (P6 h0)
theorem DP{d i:Nat}(hi:i+1<W.us.length):be P (d+7) n J "line_verdict" (i+1:Nat) (rW W (i+1:Nat)):=by
 obtain⟨k,rfl⟩:∃k:Int,((i+1:Nat):Int)=k:=⟨_,rfl⟩
 have e1:((i:Nat):Int)=((i+1:Nat):Int)-1:=by lia
 have e2:((i+1:Nat):Int)-1<W.us.length:=by lia
 have e3:((i+1:Nat):Int)-2<W.us.length:=by lia
 have hi0:i<W.us.length:=Qa ‹_›
 refine iQ (A.I i hi0) ?_;rintro m h1 h2 h3 h4
 have S1:=Nq A (d:=d+3) hi0
 have SI:=(A.SI i hi0).1
 have RI:=A.RI i hi0
 have GC:=A.Ggc (d+1) i hi0
 have EP:=A.Gep (d+1) i hi0
 have N1:=Ki A (d:=d) hi0
 rw[e1]at S1 SI RI GC EP N1 h1 h2 h3 h4
 have W1:=gQ A (d:=d+4) (((i+1:Nat):Int)-1)
 have W0:=gQ A (d:=d+4) ((i+1:Nat):Int)
 have W2:=gQ A (d:=d+4) (((i+1:Nat):Int)-2)
 have Wn:=gQ A (d:=d+4) (((i+1:Nat):Int)+1)
 have RI:ai J (.ref re) (.int (((i+1:Nat):Int)-1))=some (.int (W.reg.getD (((i+1:Nat):Int)-1).toNat 0)):=by rw[<- e1];rw[<- e1]at RI;exact RI
 exact Lz (d:=d+6) (Lv A.mW W1 W0) (FJ A.mW A.mS W0 S1 A.U h1 h4) (Lw A.mW W1 W0) (DK A.mW A.mS W1 W0 S1 A.HOW A.NM)
  (FK A.mW A.mQ A.SO SI (Kh A _ _) (gQ A _) (Kh A _ _) A.U A.L Wn) (Lx A.mW A.mS W1 W0 S1) (I8 A.mW W1 W0 W2 A.HOW A.ST) (DL A.mW W1 W0)
  (DN A.mW W1 W0 A.HOW A.NM (Ly A.mW (gQ A (d:=d+3) _) (gQ A (d:=d+3) _) (gQ A (d:=d+3) _) (Kj A e2) (Kj A e3)))
  (Nd A.mW W1 W0) (Nf A.mW W1 W0 Wn (Ca A _ ["AK","AS"]) (Ca A _ ["AK","AS"]) (Ca A _ ["AK","AS"]) (Ca A _ ["AK"]))
  (Ng A.mW A.mN W1 W0 (Ki A hi) N1) (Nh A.mW W1 W0 A.RE RI A.U h1 h3 A.DA A.DM EP GC A.HOW A.KA)
  (cD di (cD di (cD di (cD di i5))) _) (cD di (cD di (cD di i5)) _) (cD di (cD di (cD di i5)) _) (cD (cD di (cD di i5)) (cD di i5) _)
  (cD di (cD di i5) _) (cD di (cD di (cD di i5)) _) (cD di (cD di (cD di (cD di (cD di (cD di i5))))) _) (cD di (cD di (cD di i5)) _)
  (cD (cD di (cD (cD di i5) (cD (cD (cD di i5) (cD di i5)) i5))) (cD di i5) _) (cD di (cD di (cD di i5)) _) (cD di i5 _) (cD di (cD di (cD di i5)) _)
  (cD di (cD (cD di (cD di i5)) (cD di i5)) _)
end
noncomputable def fx(b m:Nat):List V:=(List.range m).map fun i=>V.inst "LineUnit" (b+i)
def uH(J:Hp)(us:List au):Hp:=J++(.list (fx (J.length+1) us.length)::us.map jv)
theorem dU{b m:Nat}:(fx b m).length=m:=by unfold fx;rw[PA,List.length_range]
theorem rX{b m:Nat}:fx b (m+1)=fx b m++[.inst "LineUnit" (b+m)]:=by unfold fx;rw[List.range_succ,PW];rfl
theorem kg{J:Hp}{us:List au}:(uH J us).length=J.length+1+us.length:=by unfold uH;rw[Px,P8,PA];lia
theorem fH{J:Hp}{us:List au}:(uH J us)[J.length]?=some (.list (fx (J.length+1) us.length)):=by
 unfold uH;rw[PV (PS _),Nat.sub_self];rfl
theorem eG{J:Hp}{n:Nat}{c:ab}{H:Hp}(h:n=J.length){x:ab}:(J++x::H).set n c=J++c::H:=by
 subst h;rw[List.set_append_right _ _ (PS _),Nat.sub_self];rfl
theorem Ba{J:Hp}{us:List au}{u:au}:(uH J us++[jv u]).set J.length (.list (fx (J.length+1) us.length++[.inst "LineUnit" (uH J us).length]))=uH J (us++[u]):=by
 rw[kg,<- rX]
 unfold uH
 rw[Pw,List.cons_append,eG rfl,PW,Px];rfl
theorem kJ{J:Hp}{us:List au}{i:Nat}{u:au}(h:us[i]?=some u):(uH J us)[J.length+1+i]?=some (jv u):=by
 unfold uH
 rw[PV (by lia),show J.length+1+i-J.length=i+1 by lia,List.getElem?_cons_succ,PQ,h];rfl
theorem gR{α:Type}{us:List α}{u:α}:(us++[u])[us.length]?=some u:=by rw[PV (PS _),Nat.sub_self];rfl
theorem Bb{J:Hp}{us:List au}{u v:au}:(uH J (us++[u])).set (J.length+1+us.length) (jv v)=uH J (us++[v]):=by
 unfold uH
 rw[List.set_append_right _ _ (by lia),show J.length+1+us.length-J.length=us.length+1 by lia,List.set_cons_succ,PW,PW,Px,Px,
  List.set_append_right _ _ (by rw[PA];exact PS _),PA,Nat.sub_self];rfl
theorem uJ{xs:List V}{x:V}:gH (xs++[x]) (-1)=some x:=by
 have hs:aR (-1)=true:=by decide
 unfold gH
 rw[if_pos hs]
 have:seqIndex? (-1) (xs++[x]).length=some xs.length:=by
  unfold seqIndex?
  rw[Px]
  simp
  lia
 rw[this]
 exact gR
theorem qI{J:Hp}{us:List au}{u:au}:ai (uH J (us++[u])) (.ref J.length) (.int (-1))=some (.inst "LineUnit" (J.length+1+us.length)):=by
 show els (cW _ _) _ _=_
 rw[eY fH,Px,List.length_singleton,rX]
 exact uJ
theorem Bc{J:Hp}{c:Nat}{xs:List V}(h:J[c]?=some (.list xs)):aM J .Eq (.ref c) (.lst [])=some (xs.length==0):=by
 show els (ba _ _) _ _=_
 rw[b0 h]
 cases xs <;> rfl
theorem aW{H:Hp}{c:ab}:(H++[c])[H.length]?=some c:=gR
abbrev luC(P:Params):cF:=((a_T P).cls.lookup ("LineUnit":Str)).getD ⟨[],[]⟩
theorem dL{T:Tab}{H:Hp}{c a:Str}{es:List (Str×V)}{v:V}(cd:cF)(h1:T.cls.lookup c=some cd)(h2:cd.attrs.contains a=true)(h3:es.length<900):cH T (H++[.dict es]) (.inst c H.length) a v=some (H++[.dict (d7 a v es)]):=by
 rw[e7 cd aW h1 h2 h3,eG rfl]
section
variable{P:Params}{d D h:Nat}{J H:Hp}{w:Str}{c i:Int}{us:List au}{u:au}
theorem oS:cP P (d+1) "LineUnit" "__init__" [.inst "LineUnit" H.length,.str w,.int c,.int i] [] (H++[.dict []]) .none (H++[jv ⟨w,c,i,false⟩]):=by
 have k1:cH (a_T P) (H++[.dict []]) (.inst "LineUnit" H.length) "word" (.str w)=some (H++[.dict [("word",.str w)]]):=dL (luC P) (by kernel_rfl) (by kernel_rfl) (by simp)
 have k2:cH (a_T P) (H++[.dict [("word",.str w)]]) (.inst "LineUnit" H.length) "code" (.int c)=some (H++[.dict [("word",.str w),("code",.int c)]]):=dL (luC P) (by kernel_rfl) (by kernel_rfl) (by simp)
 have k3:cH (a_T P) (H++[.dict [("word",.str w),("code",.int c)]]) (.inst "LineUnit" H.length) "at" (.int i)=some (H++[.dict [("word",.str w),("code",.int c),("at",.int i)]]):=dL (luC P) (by kernel_rfl) (by kernel_rfl) (by simp)
 have k4:cH (a_T P) (H++[.dict [("word",.str w),("code",.int c),("at",.int i)]]) (.inst "LineUnit" H.length) "is_joined" (.bool false)=some (H++[jv ⟨w,c,i,false⟩]):=dL (luC P) (by kernel_rfl) (by kernel_rfl) (by simp)
 exact af (eM P) ([V.inst (Str.ofString "LineUnit") (List.length H),V.str w,V.int c,V.int i]) (fun z=>(zS k1 (zS k2 (zS k3 (zS k4 (z0 z)).R).R).R).R)
abbrev unS(P:Params):Stmt:=fQ 1 (ff P).body
noncomputable abbrev unL(t:V)(D h F:Nat)(o1 o2 o3:Option V):Loc:=[("text",.v (some t)),("data",.v (some (.inst "Data" D))),("how",.v (some (.inst "LineHow" h))),("found",.v (some (.ref F))),("at",.v o1),("code",.v o2),("word",.v o3),("enumerate",.g),("line_class",.g),("LINE_MARKS",.g),("LineUnit",.g),("LINE_BARE",.g)]
noncomputable abbrev wX(P:Params)(d D h:Nat)(J:Hp)(c:Int)(w:Str):Prop:=cP P d "" "line_class" [.int c,.inst "Data" D,.inst "LineHow" h] [] J (.str w) J
noncomputable abbrev rY(P:Params)(d:Nat)(x:V)(loc:Loc)(J:Hp)(f:Fl)(l:Loc)(s:Hp):Prop:=gf (bt P d (bQ (unS P))) (aH P d (cz (unS P))) x loc J f l s
variable{t:V}{o1 o2 o3:Option V}
abbrev dA(w:Str):Bool:=inS w ["CM","ZWJ"]
abbrev fJ(w:Str):Bool:=inS w ["BK","CR","LF","NL","SP","ZW"]
theorem OH(hl:us.length<=1000)(C:wX P (d+1) D h (uH J us) c w)(m:dA w=false):
 rY P (d+1) (.tup [.int i,.int c]) (unL t D h J.length o1 o2 o3) (uH J us) .cont (unL t D h J.length (some (.int i)) (some (.int c)) (some (.str w))) (uH J (us++[⟨w,c,i,false⟩])):=by
 intro k hk
 have k1:=aZ (T:=a_T P) (fH (J:=J) (us:=us))
 have k2:=oS (P:=P) (d:=d) (H:=uH J us) (w:=w) (c:=c) (i:=i)
 have e1:(uH J us++[jv ⟨w,c,i,false⟩])[J.length]?=some (.list (fx (J.length+1) us.length)):=by rw[PN (by rw[kg];lia)];exact fH
 have k3:=dX (x:=.inst "LineUnit" (uH J us).length) e1 (ar (by rw[dU];exact Py ‹_› (by decide)))
 rw[Ba]at k3
 exact bd (zR (zR (zD C (zC (zH (nF m) (zQ (zR (zK k1 (zR (zN k2 (zP k3 (z0 hk))))))))))))
theorem OI(C:wX P (d+1) D h (uH J []) c w)(m:dA w=true):
 rY P (d+1) (.tup [.int i,.int c]) (unL t D h J.length o1 o2 o3) (uH J []) .next (unL t D h J.length (some (.int i)) (some (.int c)) (some (.str w))) (uH J [⟨"AL",c,i,w=="ZWJ"⟩]):=by
 intro k hk
 have k1:=aZ (T:=a_T P) (fH (J:=J) (us:=[]))
 have k2:=oS (P:=P) (d:=d) (H:=uH J []) (w:="AL") (c:=c) (i:=i)
 have e1:(uH J []++[jv ⟨"AL",c,i,false⟩])[J.length]?=some (.list (fx (J.length+1) 0)):=by rw[PN (by rw[kg];lia)];exact fH
 have k3:=dX (x:=.inst "LineUnit" (uH J []).length) e1 (ar (by rw[dU];decide))
 rw[show fx (J.length+1) 0=fx (J.length+1) ([]:List au).length from rfl,Ba]at k3
 have k4:=qI (J:=J) (us:=[]) (u:=⟨"AL",c,i,false⟩)
 have k5:aM (uH J []) .Eq (.ref J.length) (.lst [])=some true:=Bc fH
 have k6:cH (a_T P) (uH J ([]++[⟨"AL",c,i,false⟩])) (.inst "LineUnit" (J.length+1+([]:List au).length)) "is_joined" (.bool (w=="ZWJ"))=some (uH J [⟨"AL",c,i,w=="ZWJ"⟩]):=by
  rw[e7 (luC P) (kJ gR) (by kernel_rfl) (by kernel_rfl) (by simp)]
  exact PI some (Bb (us:=[]) (u:=⟨"AL",c,i,false⟩) (v:=⟨"AL",c,i,w=="ZWJ"⟩))
 exact bd (zR (zR (zD C (zC (zH (nT m) (zR (zT k5 (z1 (z1 (zQ (zR (zK k1 (zR (zN k2 (zP k3 (zR (zC (zC (zV k4 (zS k6 (z0 hk)))))))))))))))))))))
theorem OJ(hl:us.length<=1000)(C:wX P (d+1) D h (uH J (us++[u])) c w)(m:dA w=true)(b:fJ u.w=true):
 rY P (d+1) (.tup [.int i,.int c]) (unL t D h J.length o1 o2 o3) (uH J (us++[u])) .next (unL t D h J.length (some (.int i)) (some (.int c)) (some (.str w))) (uH J (us++[u]++[⟨"AL",c,i,w=="ZWJ"⟩])):=by
 intro k hk
 have k1:=aZ (T:=a_T P) (fH (J:=J) (us:=us++[u]))
 have k2:=oS (P:=P) (d:=d) (H:=uH J (us++[u])) (w:="AL") (c:=c) (i:=i)
 have e1:(uH J (us++[u])++[jv ⟨"AL",c,i,false⟩])[J.length]?=some (.list (fx (J.length+1) (us++[u]).length)):=by rw[PN (by rw[kg];lia)];exact fH
 have k3:=dX (x:=.inst "LineUnit" (uH J (us++[u])).length) e1 (ar (by rw[dU,Px];simp;exact Py ‹_› (by decide)))
 rw[Ba]at k3
 have k4:=qI (J:=J) (us:=us++[u]) (u:=⟨"AL",c,i,false⟩)
 have k5:aM (uH J (us++[u])) .Eq (.ref J.length) (.lst [])=some false:=by rw[Bc fH,dU];simp
 have k6:cH (a_T P) (uH J (us++[u]++[⟨"AL",c,i,false⟩])) (.inst "LineUnit" (J.length+1+(us++[u]).length)) "is_joined" (.bool (w=="ZWJ"))=some (uH J (us++[u]++[⟨"AL",c,i,w=="ZWJ"⟩])):=by
  rw[e7 (luC P) (kJ gR) (by kernel_rfl) (by kernel_rfl) (by simp)]
  exact PI some (Bb (u:=⟨"AL",c,i,false⟩) (v:=⟨"AL",c,i,w=="ZWJ"⟩))
 have k7:=qI (J:=J) (us:=us) (u:=u)
 have k8:cG (a_T P) (uH J (us++[u])) (.inst "LineUnit" (J.length+1+us.length)) "word"=some (.str u.w):=aB (luC P) (kJ gR) rfl rfl
 exact bd (zR (zR (zD C (zC (zH (nT m) (zR (zT k5 (z2 (zR (zC (zV k7 (zV k8 (zC (zH b (zQ (zR (zK k1 (zR (zN k2 (zP k3 (zR (zC (zC (zV k4 (zS k6 (z0 hk))))))))))))))))))))))))))
theorem OK(C:wX P (d+1) D h (uH J (us++[u])) c w)(m:dA w=true)(b:fJ u.w=false):
 rY P (d+1) (.tup [.int i,.int c]) (unL t D h J.length o1 o2 o3) (uH J (us++[u])) .next (unL t D h J.length (some (.int i)) (some (.int c)) (some (.str w))) (uH J (us++[⟨u.w,u.code,u.at',w=="ZWJ"⟩])):=by
 intro k hk
 have k5:aM (uH J (us++[u])) .Eq (.ref J.length) (.lst [])=some false:=by rw[Bc fH,dU];simp
 have k6:cH (a_T P) (uH J (us++[u])) (.inst "LineUnit" (J.length+1+us.length)) "is_joined" (.bool (w=="ZWJ"))=some (uH J (us++[⟨u.w,u.code,u.at',w=="ZWJ"⟩])):=by
  rw[e7 (luC P) (kJ gR) (by kernel_rfl) (by kernel_rfl) (by simp)]
  exact PI some (Bb (u:=u) (v:=⟨u.w,u.code,u.at',w=="ZWJ"⟩))
 have k7:=qI (J:=J) (us:=us) (u:=u)
 have k8:cG (a_T P) (uH J (us++[u])) (.inst "LineUnit" (J.length+1+us.length)) "word"=some (.str u.w):=aB (luC P) (kJ gR) rfl rfl
 exact bd (zR (zR (zD C (zC (zH (nT m) (zR (zT k5 (z2 (zR (zC (zV k7 (zV k8 (zC (zH b (zR (zC (zC (zV k7 (zS k6 (z0 hk))))))))))))))))))))
end
noncomputable def uK(us:List au):Str:=match us.getLast? with | some u=>u.w | none=>""
noncomputable def FN(us:List au)(b:Bool):List au:=match us.getLast? with | some u=>us.dropLast++[⟨u.w,u.code,u.at',b⟩] | none=>us
def cx(us:List au)(w:Str)(c i:Int):List au :=
 cond (dA w) (cond ((us.length==0)||fJ (uK us)) (us++[⟨"AL",c,i,w=="ZWJ"⟩]) (FN us (w=="ZWJ"))) (us++[⟨w,c,i,false⟩])
noncomputable def aO(cl:Int->Str)(us:List au)(i:Int):List Int->List au
 |[]=>us
 |c::cs=>aO cl (cx us (cl c) c i) (i+1) cs
theorem im{cl:Int->Str}{x:Int}:∀ {xs:List Int}{us:List au}{i:Int},aO cl us i (xs++[x])=cx (aO cl us i xs) (cl x) x (i+xs.length)
 |[],us,i=>by show cx us (cl x) x i=cx us (cl x) x (i+0);rw[Int.add_zero]
 |y::ys,us,i=>by
  show aO cl _ (i+1) (ys++[x])=cx (aO cl _ (i+1) ys) _ _ _
  rw[im,P8]
  congr 1
  lia
theorem uL{us:List au}{u:au}:uK (us++[u])=u.w:=by unfold uK;rw[List.getLast?_concat]
theorem m9{us:List au}{u:au}{b:Bool}:FN (us++[u]) b=us++[⟨u.w,u.code,u.at',b⟩]:=by unfold FN;rw[List.getLast?_concat];simp
theorem wY{us:List au}{w:Str}{c i:Int}:(cx us w c i).length<=us.length+1:=by
 unfold cx
 cases dA w
 .simp
 . cases(us.length==0)||fJ (uK us)
   . rcases List.eq_nil_or_concat us with rfl | ⟨us,u,rfl⟩
     .exact Nat.zero_le _
     .rw[P1];show(FN _ _).length<=_;rw[m9];simp
   .simp
theorem io{cl:Int->Str}:∀ {xs:List Int}{us:List au}{i:Int},(aO cl us i xs).length<=us.length+xs.length
 |[],us,i=>PS _
 |y::ys,us,i=>by
  have h1:=io (cl:=cl) (xs:=ys) (us:=cx us (cl y) y i) (i:=i+1)
  have h2:=wY (us:=us) (w:=cl y) (c:=y) (i:=i)
  show(aO cl (cx us (cl y) y i) (i+1) ys).length<=_
  rw[P8];lia
section
variable{P:Params}{d D h:Nat}{J:Hp}{w:Str}{c i:Int}{us:List au}{t:V}{o1 o2 o3:Option V}
theorem I9(hl:us.length<=1000)(C:wX P (d+1) D h (uH J us) c w):
 ∃f,(f=.next\/f=.cont)/\rY P (d+1) (.tup [.int i,.int c]) (unL t D h J.length o1 o2 o3) (uH J us) f (unL t D h J.length (some (.int i)) (some (.int c)) (some (.str w))) (uH J (cx us w c i)):=by
 unfold cx
 cases hm:dA w with
 |false=>exact⟨_,.inr rfl,OH hl C hm⟩
 |true =>
  rcases List.eq_nil_or_concat us with rfl | ⟨us,u,rfl⟩
  .exact⟨_,.inl rfl,OI C hm⟩
  . rw[P1]at C hl ⊢
    rw[uL,m9]
    have e:((us++[u]).length==0)=false:=by simp
    rw[e,Bool.false_or]
    have hl:us.length<=1000:=by simp at hl;exact Py ‹_› (by decide)
    cases hb:fJ u.w with
    |true=>exact⟨_,.inl rfl,OJ hl C hm hb⟩
    |false=>exact⟨_,.inl rfl,OK C hm hb⟩
theorem OL{us:List au}(hs:(ba (J++[.list []]) t).isSome=true)(h1:ge (bt P d (bQ (unS P))) (aH P d (cz (unS P))) (bQ (unS P)) (.enm t) (unL t D h J.length none none none) (J++[.list []]) .next (unL t D h J.length o1 o2 o3) (uH J us)):
 cP P (d+1) "" "line_units" [t,.inst "Data" D,.inst "LineHow" h] [] J (.ref J.length) (uH J us):=by
 exact af (ff P) ([t,V.inst (Str.ofString "Data") D,V.inst (Str.ofString "LineHow") h]) (fun z=>(zA hs (zL h1 (z0 z))).R.R.R)
theorem Jb{cl:Int->Str}{cs:List Int}(hn:cs.length<=500)(ht:∀H,ba (J++H) t=some (ivs cs))(hC:∀c∈cs,∀H,wX P (d+1) D h (J++H) c (cl c)):
 cP P (d+2) "" "line_units" [t,.inst "Data" D,.inst "LineHow" h] [] J (.ref J.length) (uH J (aO cl [] 0 cs)):=by
 have hlen:∀n,(aO cl [] 0 (cs.take n)).length<=500:=fun n=>by
  have:=io (cl:=cl) (xs:=cs.take n) (us:=[]) (i:=0)
  rw[Qb]at this
  simp at this;lia
 have hl:∀us,bX (uH J us) (.enm t)=some cs.length:=fun us=>by
  show(ba _ _).map _=_
  unfold uH;rw[ht];show some (ivs cs).length=_;rw[aQ]
 refine PG (eZ (N:=cs.length) (it:=.enm t) (loc:=unL t D h J.length none none none) (J:=J++[.list []]) (tg:=bQ (unS P)) (asg:=bt P (d+1) (bQ (unS P))) (body:=aH P (d+1) (cz (unS P)))
  (fun n l s=>s=uH J (aO cl [] 0 (cs.take n))/\∃o1 o2 o3,l=unL t D h J.length o1 o2 o3) (fun n l s hi I=>?_) (fun l s I=>?_) (hl []) (by kernel_rfl) ⟨rfl,none,none,none,rfl⟩) fun l hh=>?_
 . obtain⟨rfl,o1,o2,o3,rfl⟩:=I
   refine ae (I9 (P:=P) (d:=d) (D:=D) (h:=h) (J:=J) (t:=t) (o1:=o1) (o2:=o2) (o3:=o3) (i:=(n:Int)) (Py (hlen n) (by decide)) (hC cs[n] (List.getElem_mem hi) _)) ?_;rintro f hf h2
   refine⟨hl _,.tup [.int n,.int cs[n]],f,_,_,?_,h2,hf,?_,_,_,_,rfl⟩
   . show((ba _ _).bind (·[n]?)).map _=_
     unfold uH;rw[ht,Option.bind_some,qH hi];rfl
   . rw[List.take_add_one,PF hi]
     show _=uH J (aO cl [] 0 (cs.take n++[cs[n]]))
     rw[im,Qb,Nat.min_eq_left (Nat.le_of_lt hi),Int.zero_add]
 .obtain⟨rfl,_⟩:=I;exact hl _
 . refine ae (hh) ?_;rintro s ⟨rfl,o1,o2,o3,rfl⟩ h1
   rw[List.take_length]at h1
   exact OL (by rw[ht];rfl) h1
end
noncomputable def bvs(l:List Bool):List V:=l.map .bool
abbrev lvC(P:Params):cF:=((a_T P).cls.lookup ("LineView":Str)).getD ⟨[],[]⟩
noncomputable abbrev p7(D h u so re nu:Nat):ab:=.dict [("data",.inst "Data" D),("how",.inst "LineHow" h),("units",.ref u),("solid",.ref so),("regional",.ref re),("numeric",.ref nu)]
def vB(D h n:Nat)(J:Hp)(us:List au):Hp:=uH (J++[p7 D h (J.length+1) (J.length+2+n) (J.length+3+n) (J.length+4+n)]) us
def vH(D h n:Nat)(J:Hp)(us:List au)(sol reg:List Int)(num:List Bool):Hp:=vB D h n J us++[.list (ivs sol)]++[.list (ivs reg)]++[.list (bvs num)]
theorem FP{J H:Hp}{c:ab}{us:List au}:(uH (J++[c]) us++H)[J.length]?=some c:=by
 unfold uH
 rw[Pw,Pw,PV (PS _),Nat.sub_self];rfl
theorem DQ{J H:Hp}{c c':ab}{us:List au}:(uH (J++[c]) us++H).set J.length c'=uH (J++[c']) us++H:=by
 unfold uH
 rw[Pw,Pw,List.set_append_right _ _ (PS _),Nat.sub_self,Pw,Pw]
 simp
theorem qJ{T:Tab}{J H:Hp}{us:List au}{c a:Str}{es:List (Str×V)}{v:V}(cd:cF)(h1:T.cls.lookup c=some cd)(h2:cd.attrs.contains a=true)(h3:es.length<900):cH T (uH (J++[.dict es]) us++H) (.inst c J.length) a v=some (uH (J++[.dict (d7 a v es)]) us++H):=by
 rw[e7 cd FP h1 h2 h3,DQ]
section
variable{P:Params}{d D h n:Nat}{J:Hp}{us:List au}{sol reg:List Int}{num:List Bool}{t:V}{w:Str}{i l m:Int}{b:Bool}{o1 o2 o3 o4:Option V}
abbrev vwS(P:Params):Stmt:=fQ 7 (dj P).body
noncomputable abbrev vwL(t:V)(D h n:Nat)(l m:Int)(b:Bool)(o1 o2:Option V):Loc:=[("self",.v (some (.inst "LineView" n))),("text",.v (some t)),("data",.v (some (.inst "Data" D))),("how",.v (some (.inst "LineHow" h))),("last",.v (some (.int l))),("many",.v (some (.int m))),("is_number",.v (some (.bool b))),("place",.v o1),("unit",.v o2),("line_units",.g),("enumerate",.g),("LINE_INNER",.g)]
theorem oU:(vB D h n J us).length=J.length+2+us.length:=by unfold vB;rw[kg,Px];rfl
theorem fi:(vH D h n J us sol reg num)[J.length]?=some (p7 D h (J.length+1) (J.length+2+n) (J.length+3+n) (J.length+4+n)):=by
 unfold vH;rw[Pw,Pw];exact FP
theorem lM:(vH D h us.length J us sol reg num)[J.length+2+us.length]?=some (.list (ivs sol)):=by
 unfold vH;rw[Pw,Pw,<- oU (D:=D) (h:=h) (n:=us.length),PV (PS _),Nat.sub_self];rfl
theorem lN:(vH D h us.length J us sol reg num)[J.length+3+us.length]?=some (.list (ivs reg)):=by
 unfold vH;rw[Pw,Pw,show J.length+3+us.length=(vB D h us.length J us).length+1 by rw[oU];lia,PV (by exact Nat.le_succ _),Nat.add_sub_cancel_left];rfl
theorem lO:(vH D h us.length J us sol reg num)[J.length+4+us.length]?=some (.list (bvs num)):=by
 unfold vH;rw[Pw,Pw,show J.length+4+us.length=(vB D h us.length J us).length+2 by rw[oU];lia,PV (by exact Nat.le_add_right _ _),Nat.add_sub_cancel_left];rfl
theorem wZ{x:Int}:(vH D h us.length J us sol reg num).set (J.length+2+us.length) (.list (ivs sol++[.int x]))=vH D h us.length J us (sol++[x]) reg num:=by
 unfold vH;rw[Pw,Pw,<- oU (D:=D) (h:=h) (n:=us.length),List.set_append_right _ _ (PS _),Nat.sub_self,Pw,Pw];unfold ivs;rw[PW];rfl
theorem w6{x:Int}:(vH D h us.length J us sol reg num).set (J.length+3+us.length) (.list (ivs reg++[.int x]))=vH D h us.length J us sol (reg++[x]) num:=by
 unfold vH;rw[Pw,Pw,show J.length+3+us.length=(vB D h us.length J us).length+1 by rw[oU];lia,List.set_append_right _ _ (by exact Nat.le_succ _),Nat.add_sub_cancel_left,Pw,Pw];unfold ivs;rw[PW];rfl
theorem w7{x:Bool}:(vH D h us.length J us sol reg num).set (J.length+4+us.length) (.list (bvs num++[.bool x]))=vH D h us.length J us sol reg (num++[x]):=by
 unfold vH;rw[Pw,Pw,show J.length+4+us.length=(vB D h us.length J us).length+2 by rw[oU];lia,List.set_append_right _ _ (by exact Nat.le_add_right _ _),Nat.add_sub_cancel_left,Pw,Pw];unfold bvs;rw[PW];rfl
theorem nc:(vH D h n J us sol reg num)[J.length+1]?=some (.list (fx (J.length+2) us.length)):=by
 unfold vH vB;rw[Pw,Pw,PN (by rw[kg,Px];simp;lia)]
 have:=fH (J:=J++[p7 D h (J.length+1) (J.length+2+n) (J.length+3+n) (J.length+4+n)]) (us:=us)
 rw[Px]at this;exact this
theorem ng{u:au}{j:Nat}(hu:us[j]?=some u):(vH D h n J us sol reg num)[J.length+2+j]?=some (jv u):=by
 have hj:=(PD.mp hu).1
 unfold vH vB;rw[Pw,Pw,PN (by rw[kg,Px];simp;omega)]
 have:=kJ (J:=J++[p7 D h (J.length+1) (J.length+2+n) (J.length+3+n) (J.length+4+n)]) hu
 rw[Px]at this;exact this
theorem qK{l:List Bool}:(bvs l).length=l.length:=by unfold bvs;rw[PA]
noncomputable def i6(l:Int)(w:Str)(i:Int):Int:=cond (w=="SP") l i
noncomputable def oV(m:Int)(w:Str):Int:=cond (w=="RI") (m+1) 0
def gC(b:Bool)(w:Str):Bool:=(w=="NU")||(b&&inS w wT)
theorem Nr{j:Nat}{u:au}(hu:us[j]?=some u)(hs:sol.length<=1000)(hr:reg.length<=1000)(hn:num.length<=1000)(e1:(u.w==("SP":Str))=true)(e2:(u.w==("RI":Str))=false):
 gf (bt P d (bQ (vwS P))) (aH P d (cz (vwS P))) (.tup [.int i,.inst "LineUnit" (J.length+2+j)]) (vwL t D h J.length l m b o1 o2) (vH D h us.length J us sol reg num) .next
  (vwL t D h J.length (l) (0) (gC b u.w) (some (.int i)) (some (.inst "LineUnit" (J.length+2+j)))) (vH D h us.length J us (sol++[l]) (reg++[0]) (num++[gC b u.w])):=by
 intro k hk
 have k0:cG (a_T P) (vH D h us.length J us sol reg num) (.inst "LineUnit" (J.length+2+j)) "word"=some (.str u.w):=aB (luC P) (ng hu) rfl rfl
 have k1:cG (a_T P) (vH D h us.length J us sol reg num) (.inst "LineView" J.length) "solid"=some (.ref (J.length+2+us.length)):=aB (lvC P) fi rfl rfl
 have k2:=aZ (T:=a_T P) (lM (D:=D) (h:=h) (J:=J) (us:=us) (sol:=sol) (reg:=reg) (num:=num))
 have q1:aS (vH D h us.length J us sol reg num) "list.append" (.ref (J.length+2+us.length)) [.int (l)]=some (.none,vH D h us.length J us (sol++[l]) reg num):=by
  rw[dX lM (ar (by rw[aQ];exact Py ‹_› (by decide))),wZ]
 have q2:aS (vH D h us.length J us (sol++[l]) reg num) "list.append" (.ref (J.length+3+us.length)) [.int (0)]=some (.none,vH D h us.length J us (sol++[l]) (reg++[0]) num):=by
  rw[dX lN (ar (by rw[aQ];exact Py ‹_› (by decide))),w6]
 have q3:aS (vH D h us.length J us (sol++[l]) (reg++[0]) num) "list.append" (.ref (J.length+4+us.length)) [.bool (gC b u.w)]=some (.none,vH D h us.length J us (sol++[l]) (reg++[0]) (num++[gC b u.w])):=by
  rw[dX lO (ar (by rw[qK];exact Py ‹_› (by decide))),w7]
 have g2:cG (a_T P) (vH D h us.length J us (sol++[l]) reg num) (.inst "LineView" J.length) "regional"=some (.ref (J.length+3+us.length)):=aB (lvC P) fi rfl rfl
 have g3:cG (a_T P) (vH D h us.length J us (sol++[l]) (reg++[0]) num) (.inst "LineView" J.length) "numeric"=some (.ref (J.length+4+us.length)):=aB (lvC P) fi rfl rfl
 have m2:cg (a_T P) (vH D h us.length J us (sol++[l]) reg num) (.ref (J.length+3+us.length)) "append"=some (.bi "list.append"):=aZ lN
 have m3:cg (a_T P) (vH D h us.length J us (sol++[l]) (reg++[0]) num) (.ref (J.length+4+us.length)) "append"=some (.bi "list.append"):=aZ lO
 exact bd (zR (zR (zV k0 (zC (zH e1 (zR (zR (zV k0 (zC (zH e2 (zR (zR (zV k0 (zC (zO (zO (zR (zV k0 (zC (zA (rfl:vH D h us.length J us sol reg num=vH D h us.length J us sol reg num) (zA (rfl:vH D h us.length J us sol reg num=vH D h us.length J us sol reg num) (zQ (zR (zR (zV k1 (zK k2 (zP q1 (zQ (zR (zR (zV g2 (zK m2 (zP q2 (zQ (zR (zR (zV g3 (zK m3 (zP q3 (z0 hk))))))))))))))))))))))))))))))))))))))))
theorem Nt{j:Nat}{u:au}(hu:us[j]?=some u)(hs:sol.length<=1000)(hr:reg.length<=1000)(hn:num.length<=1000)(e1:(u.w==("SP":Str))=false)(e2:(u.w==("RI":Str))=true):
 gf (bt P d (bQ (vwS P))) (aH P d (cz (vwS P))) (.tup [.int i,.inst "LineUnit" (J.length+2+j)]) (vwL t D h J.length l m b o1 o2) (vH D h us.length J us sol reg num) .next
  (vwL t D h J.length (i) (m+1) (gC b u.w) (some (.int i)) (some (.inst "LineUnit" (J.length+2+j)))) (vH D h us.length J us (sol++[i]) (reg++[m+1]) (num++[gC b u.w])):=by
 intro k hk
 have k0:cG (a_T P) (vH D h us.length J us sol reg num) (.inst "LineUnit" (J.length+2+j)) "word"=some (.str u.w):=aB (luC P) (ng hu) rfl rfl
 have k1:cG (a_T P) (vH D h us.length J us sol reg num) (.inst "LineView" J.length) "solid"=some (.ref (J.length+2+us.length)):=aB (lvC P) fi rfl rfl
 have k2:=aZ (T:=a_T P) (lM (D:=D) (h:=h) (J:=J) (us:=us) (sol:=sol) (reg:=reg) (num:=num))
 have q1:aS (vH D h us.length J us sol reg num) "list.append" (.ref (J.length+2+us.length)) [.int (i)]=some (.none,vH D h us.length J us (sol++[i]) reg num):=by
  rw[dX lM (ar (by rw[aQ];exact Py ‹_› (by decide))),wZ]
 have q2:aS (vH D h us.length J us (sol++[i]) reg num) "list.append" (.ref (J.length+3+us.length)) [.int (m+1)]=some (.none,vH D h us.length J us (sol++[i]) (reg++[m+1]) num):=by
  rw[dX lN (ar (by rw[aQ];exact Py ‹_› (by decide))),w6]
 have q3:aS (vH D h us.length J us (sol++[i]) (reg++[m+1]) num) "list.append" (.ref (J.length+4+us.length)) [.bool (gC b u.w)]=some (.none,vH D h us.length J us (sol++[i]) (reg++[m+1]) (num++[gC b u.w])):=by
  rw[dX lO (ar (by rw[qK];exact Py ‹_› (by decide))),w7]
 have g2:cG (a_T P) (vH D h us.length J us (sol++[i]) reg num) (.inst "LineView" J.length) "regional"=some (.ref (J.length+3+us.length)):=aB (lvC P) fi rfl rfl
 have g3:cG (a_T P) (vH D h us.length J us (sol++[i]) (reg++[m+1]) num) (.inst "LineView" J.length) "numeric"=some (.ref (J.length+4+us.length)):=aB (lvC P) fi rfl rfl
 have m2:cg (a_T P) (vH D h us.length J us (sol++[i]) reg num) (.ref (J.length+3+us.length)) "append"=some (.bi "list.append"):=aZ lN
 have m3:cg (a_T P) (vH D h us.length J us (sol++[i]) (reg++[m+1]) num) (.ref (J.length+4+us.length)) "append"=some (.bi "list.append"):=aZ lO
 exact bd (zR (zR (zV k0 (zC (zH e1 (zR (zR (zV k0 (zC (zH e2 (zC (zR (zR (zV k0 (zC (zO (zO (zR (zV k0 (zC (zA (rfl:(V.int (m+(1:Int)),vH D h us.length J us sol reg num).snd=(V.int (m+(1:Int)),vH D h us.length J us sol reg num).snd) (zA (rfl:(V.int (m+(1:Int)),vH D h us.length J us sol reg num).snd=(V.int (m+(1:Int)),vH D h us.length J us sol reg num).snd) (zQ (zR (zR (zV k1 (zK k2 (zP q1 (zQ (zR (zR (zV g2 (zK m2 (zP q2 (zQ (zR (zR (zV g3 (zK m3 (zP q3 (z0 hk)))))))))))))))))))))))))))))))))))))))))
theorem Nu{j:Nat}{u:au}(hu:us[j]?=some u)(hs:sol.length<=1000)(hr:reg.length<=1000)(hn:num.length<=1000)(e1:(u.w==("SP":Str))=false)(e2:(u.w==("RI":Str))=false):
 gf (bt P d (bQ (vwS P))) (aH P d (cz (vwS P))) (.tup [.int i,.inst "LineUnit" (J.length+2+j)]) (vwL t D h J.length l m b o1 o2) (vH D h us.length J us sol reg num) .next
  (vwL t D h J.length (i) (0) (gC b u.w) (some (.int i)) (some (.inst "LineUnit" (J.length+2+j)))) (vH D h us.length J us (sol++[i]) (reg++[0]) (num++[gC b u.w])):=by
 intro k hk
 have k0:cG (a_T P) (vH D h us.length J us sol reg num) (.inst "LineUnit" (J.length+2+j)) "word"=some (.str u.w):=aB (luC P) (ng hu) rfl rfl
 have k1:cG (a_T P) (vH D h us.length J us sol reg num) (.inst "LineView" J.length) "solid"=some (.ref (J.length+2+us.length)):=aB (lvC P) fi rfl rfl
 have k2:=aZ (T:=a_T P) (lM (D:=D) (h:=h) (J:=J) (us:=us) (sol:=sol) (reg:=reg) (num:=num))
 have q1:aS (vH D h us.length J us sol reg num) "list.append" (.ref (J.length+2+us.length)) [.int (i)]=some (.none,vH D h us.length J us (sol++[i]) reg num):=by
  rw[dX lM (ar (by rw[aQ];exact Py ‹_› (by decide))),wZ]
 have q2:aS (vH D h us.length J us (sol++[i]) reg num) "list.append" (.ref (J.length+3+us.length)) [.int (0)]=some (.none,vH D h us.length J us (sol++[i]) (reg++[0]) num):=by
  rw[dX lN (ar (by rw[aQ];exact Py ‹_› (by decide))),w6]
 have q3:aS (vH D h us.length J us (sol++[i]) (reg++[0]) num) "list.append" (.ref (J.length+4+us.length)) [.bool (gC b u.w)]=some (.none,vH D h us.length J us (sol++[i]) (reg++[0]) (num++[gC b u.w])):=by
  rw[dX lO (ar (by rw[qK];exact Py ‹_› (by decide))),w7]
 have g2:cG (a_T P) (vH D h us.length J us (sol++[i]) reg num) (.inst "LineView" J.length) "regional"=some (.ref (J.length+3+us.length)):=aB (lvC P) fi rfl rfl
 have g3:cG (a_T P) (vH D h us.length J us (sol++[i]) (reg++[0]) num) (.inst "LineView" J.length) "numeric"=some (.ref (J.length+4+us.length)):=aB (lvC P) fi rfl rfl
 have m2:cg (a_T P) (vH D h us.length J us (sol++[i]) reg num) (.ref (J.length+3+us.length)) "append"=some (.bi "list.append"):=aZ lN
 have m3:cg (a_T P) (vH D h us.length J us (sol++[i]) (reg++[0]) num) (.ref (J.length+4+us.length)) "append"=some (.bi "list.append"):=aZ lO
 exact bd (zR (zR (zV k0 (zC (zH e1 (zR (zR (zV k0 (zC (zH e2 (zR (zR (zV k0 (zC (zO (zO (zR (zV k0 (zC (zA (rfl:vH D h us.length J us sol reg num=vH D h us.length J us sol reg num) (zA (rfl:vH D h us.length J us sol reg num=vH D h us.length J us sol reg num) (zQ (zR (zR (zV k1 (zK k2 (zP q1 (zQ (zR (zR (zV g2 (zK m2 (zP q2 (zQ (zR (zR (zV g3 (zK m3 (zP q3 (z0 hk))))))))))))))))))))))))))))))))))))))))
theorem Jc{j:Nat}{u:au}(hu:us[j]?=some u)(hs:sol.length<=1000)(hr:reg.length<=1000)(hn:num.length<=1000):
 gf (bt P d (bQ (vwS P))) (aH P d (cz (vwS P))) (.tup [.int i,.inst "LineUnit" (J.length+2+j)]) (vwL t D h J.length l m b o1 o2) (vH D h us.length J us sol reg num) .next
  (vwL t D h J.length (i6 l u.w i) (oV m u.w) (gC b u.w) (some (.int i)) (some (.inst "LineUnit" (J.length+2+j)))) (vH D h us.length J us (sol++[i6 l u.w i]) (reg++[oV m u.w]) (num++[gC b u.w])):=by
 unfold i6 oV
 cases e1:u.w==("SP":Str)with
 |true =>
  have e:(u.w==("RI":Str))=false:=by rw[P4.mp e1];decide
  rw[e]
  exact Nr hu hs hr hn e1 e
 |false =>
  cases e:u.w==("RI":Str)with
  |true=>exact Nt hu hs hr hn e1 e
  |false=>exact Nu hu hs hr hn e1 e
end
noncomputable def bv(l i:Int):List au->List Int
 |[]=>[]
 |u::us=>i6 l u.w i::bv (i6 l u.w i) (i+1) us
noncomputable def bY(m:Int):List au->List Int
 |[]=>[]
 |u::us=>oV m u.w::bY (oV m u.w) us
noncomputable def bS(b:Bool):List au->List Bool
 |[]=>[]
 |u::us=>gC b u.w::bS (gC b u.w) us
noncomputable def oW(l i:Int):List au->Int
 |[]=>l
 |u::us=>oW (i6 l u.w i) (i+1) us
noncomputable def oX(m:Int):List au->Int
 |[]=>m
 |u::us=>oX (oV m u.w) us
noncomputable def oY(b:Bool):List au->Bool
 |[]=>b
 |u::us=>oY (gC b u.w) us
theorem p8{u:au}:∀ {xs:List au}{l i:Int},bv l i (xs++[u])=bv l i xs++[i6 (oW l i xs) u.w (i+xs.length)]/\oW l i (xs++[u])=i6 (oW l i xs) u.w (i+xs.length)
 |[],l,i=>by
  have e:i+(([]:List au).length:Int)=i:=Int.add_zero i
  rw[e];exact⟨rfl,rfl⟩
 |x::xs,l,i=>by
  obtain⟨h1,h2⟩:=p8 (u:=u) (xs:=xs) (l:=i6 l x.w i) (i:=i+1)
  have e:i+((x::xs).length:Int)=i+1+xs.length:=by rw[P8];lia
  rw[e]
  exact⟨PI (i6 l x.w i :: ·) h1,h2⟩
theorem qa{u:au}:∀ {xs:List au}{m:Int},bY m (xs++[u])=bY m xs++[oV (oX m xs) u.w]/\oX m (xs++[u])=oV (oX m xs) u.w
 |[],m=>⟨rfl,rfl⟩
 |x::xs,m=>by
  obtain⟨h1,h2⟩:=qa (u:=u) (xs:=xs) (m:=oV m x.w)
  exact⟨PI (oV m x.w :: ·) h1,h2⟩
theorem qb{u:au}:∀ {xs:List au}{b:Bool},bS b (xs++[u])=bS b xs++[gC (oY b xs) u.w]/\oY b (xs++[u])=gC (oY b xs) u.w
 |[],m=>⟨rfl,rfl⟩
 |x::xs,b=>by
  obtain⟨h1,h2⟩:=qb (u:=u) (xs:=xs) (b:=gC b x.w)
  exact⟨PI (gC b x.w :: ·) h1,h2⟩
theorem hW:∀ {us:List au}{l i:Int},(bv l i us).length=us.length
 |[],_,_=>rfl
 |u::us,l,i=>PI (· + 1) (hW (us:=us))
theorem hX:∀ {us:List au}{l:Int},(bY l us).length=us.length
 |[],_=>rfl
 |u::us,l=>PI (· + 1) (hX (us:=us))
theorem hY:∀ {us:List au}{l:Bool},(bS l us).length=us.length
 |[],_=>rfl
 |u::us,l=>PI (· + 1) (hY (us:=us))
theorem qc:∀ {us:List au}{l i:Int}{j:Nat},l<i -> -1<=l->j<us.length -> -1<=(bv l i us).getD j 0/\(bv l i us).getD j 0<=i+j
 |u::us,l,i,j,h1,h2,hj=>by
  have hs : -1<=i6 l u.w i/\i6 l u.w i<i+1:=by
   unfold i6
   cases u.w==("SP":Str)
   .exact⟨by show -1<=i;exact Int.le_trans ‹_› (Int.le_of_lt ‹_›),by show i<i+1;lia⟩
   .exact⟨h2,by show l<i+1;lia⟩
  cases j with
  |zero=>exact⟨hs.1,by show i6 l u.w i<=i+0;lia⟩
  |succ j =>
   have:=qc (us:=us) (l:=i6 l u.w i) (i:=i+1) (j:=j) hs.2 hs.1 (by simp at hj;omega)
   exact⟨this.1,by have:=this.2;show(bv (i6 l u.w i) (i+1) us).getD j 0<=_;lia⟩
section
variable{P:Params}{d D h:Nat}{J s:Hp}{us:List au}{t:V}{l m:Int}{b:Bool}{o1 o2:Option V}
noncomputable abbrev LE(P:Params)(d:Nat)(it:It)(loc:Loc)(J:Hp)(l:Loc)(s:Hp):Prop:=ge (bt P d (bQ (vwS P))) (aH P d (cz (vwS P))) (bQ (vwS P)) it loc J .next l s
theorem uL1{c:ab}:(uH (J++[c]) us).length=J.length+2+us.length:=by rw[kg,Px];rfl
theorem uL2{c x:ab}:(uH (J++[c]) us++[x]).length=J.length+3+us.length:=by rw[Px,uL1];simp;exact Nat.add_right_comm _ _ _
theorem uL3{c x y:ab}:(uH (J++[c]) us++[x]++[y]).length=J.length+4+us.length:=by rw[Px,uL2];simp;exact Nat.add_right_comm _ _ _
theorem OM(hu:cP P d "" "line_units" [t,.inst "Data" D,.inst "LineHow" h] [] (J++[ab.dict [("data",.inst "Data" D),("how",.inst "LineHow" h)]]) (.ref (J.length+1)) (uH (J++[ab.dict [("data",.inst "Data" D),("how",.inst "LineHow" h)]]) us))
 (hl:LE P d (.enm (.ref (J.length+1))) (vwL t D h J.length (-1) 0 false none none) (vH D h us.length J us [] [] []) (vwL t D h J.length l m b o1 o2) s) :
 cP P (d+1) "LineView" "__init__" [.inst "LineView" J.length,t,.inst "Data" D,.inst "LineHow" h] [] (J++[ab.dict []]) .none s:=by
 unfold vH vB at hl
 have a1:cH (a_T P) (J++[ab.dict []]) (.inst "LineView" J.length) "data" (.inst "Data" D)=some (J++[ab.dict [("data",.inst "Data" D)]]):=dL (lvC P) (by kernel_rfl) (by kernel_rfl) (by simp)
 have a2:cH (a_T P) (J++[ab.dict [("data",.inst "Data" D)]]) (.inst "LineView" J.length) "how" (.inst "LineHow" h)=some (J++[ab.dict [("data",.inst "Data" D),("how",.inst "LineHow" h)]]):=dL (lvC P) (by kernel_rfl) (by kernel_rfl) (by simp)
 have a3:cH (a_T P) (uH (J++[ab.dict [("data",.inst "Data" D),("how",.inst "LineHow" h)]]) us) (.inst "LineView" J.length) "units" (.ref (J.length+1))=some (uH (J++[ab.dict [("data",.inst "Data" D),("how",.inst "LineHow" h),("units",.ref (J.length+1))]]) us):=by
  have:=qJ (T:=a_T P) (J:=J) (H:=[]) (us:=us) (c:="LineView") (a:="units") (es:=[("data",.inst "Data" D),("how",.inst "LineHow" h)]) (v:=.ref (J.length+1)) (lvC P) (by kernel_rfl) (by kernel_rfl) (by simp)
  rw[List.append_nil,List.append_nil]at this
  exact this
 have a4:cH (a_T P) (uH (J++[ab.dict [("data",.inst "Data" D),("how",.inst "LineHow" h),("units",.ref (J.length+1))]]) us++[ab.list []]) (.inst "LineView" J.length) "solid" (.ref (uH (J++[ab.dict [("data",.inst "Data" D),("how",.inst "LineHow" h),("units",.ref (J.length+1))]]) us).length)=some (uH (J++[ab.dict [("data",.inst "Data" D),("how",.inst "LineHow" h),("units",.ref (J.length+1)),("solid",.ref (J.length+2+us.length))]]) us++[ab.list []]):=by
  rw[uL1,qJ (lvC P) (by kernel_rfl) (by kernel_rfl) (by simp)];rfl
 have a5:cH (a_T P) (uH (J++[ab.dict [("data",.inst "Data" D),("how",.inst "LineHow" h),("units",.ref (J.length+1)),("solid",.ref (J.length+2+us.length))]]) us++[ab.list []]++[ab.list []]) (.inst "LineView" J.length) "regional" (.ref (uH (J++[ab.dict [("data",.inst "Data" D),("how",.inst "LineHow" h),("units",.ref (J.length+1)),("solid",.ref (J.length+2+us.length))]]) us++[ab.list []]).length)=some (uH (J++[ab.dict [("data",.inst "Data" D),("how",.inst "LineHow" h),("units",.ref (J.length+1)),("solid",.ref (J.length+2+us.length)),("regional",.ref (J.length+3+us.length))]]) us++[ab.list []]++[ab.list []]):=by
  rw[uL2,Pw,qJ (lvC P) (by kernel_rfl) (by kernel_rfl) (by simp),Pw];rfl
 have a6:cH (a_T P) (uH (J++[ab.dict [("data",.inst "Data" D),("how",.inst "LineHow" h),("units",.ref (J.length+1)),("solid",.ref (J.length+2+us.length)),("regional",.ref (J.length+3+us.length))]]) us++[ab.list []]++[ab.list []]++[ab.list []]) (.inst "LineView" J.length) "numeric" (.ref (uH (J++[ab.dict [("data",.inst "Data" D),("how",.inst "LineHow" h),("units",.ref (J.length+1)),("solid",.ref (J.length+2+us.length)),("regional",.ref (J.length+3+us.length))]]) us++[ab.list []]++[ab.list []]).length)=some (uH (J++[p7 D h (J.length+1) (J.length+2+us.length) (J.length+3+us.length) (J.length+4+us.length)]) us++[ab.list []]++[ab.list []]++[ab.list []]):=by
  rw[uL3,Pw,Pw,qJ (lvC P) (by kernel_rfl) (by kernel_rfl) (by simp),Pw,Pw];rfl
 have g1:cG (a_T P) (uH (J++[p7 D h (J.length+1) (J.length+2+us.length) (J.length+3+us.length) (J.length+4+us.length)]) us++[ab.list []]++[ab.list []]++[ab.list []]) (.inst "LineView" J.length) "units"=some (.ref (J.length+1)):=aB (lvC P) (fi (n:=us.length) (sol:=[]) (reg:=[]) (num:=[])) rfl rfl
 have g2:(ba (uH (J++[p7 D h (J.length+1) (J.length+2+us.length) (J.length+3+us.length) (J.length+4+us.length)]) us++[ab.list []]++[ab.list []]++[ab.list []]) (.ref (J.length+1))).isSome=true:=by
  have:=nc (D:=D) (h:=h) (n:=us.length) (J:=J) (us:=us) (sol:=[]) (reg:=[]) (num:=[])
  unfold vH vB at this
  simp only[show ∀x,ivs x=x.map V.int from fun _=>rfl,show ∀x,bvs x=x.map V.bool from fun _=>rfl,List.map_nil]at this
  rw[b0 this];rfl
 exact af (dj P) ([V.inst (Str.ofString "LineView") (List.length J),t,V.inst (Str.ofString "Data") D,V.inst (Str.ofString "LineHow") h]) (fun z=>(zS a1 (zS a2 (zD hu (zS a3 (zS a4 (zS a5 (zS a6 (zV g1 (zA g2 (zL hl (z0 z)))).R.R.R.C.R).R.R).R.R).R.R)).R.R).R).R)
theorem LF(hu:cP P (d+1) "" "line_units" [t,.inst "Data" D,.inst "LineHow" h] [] (J++[.dict [("data",.inst "Data" D),("how",.inst "LineHow" h)]]) (.ref (J.length+1)) (uH (J++[.dict [("data",.inst "Data" D),("how",.inst "LineHow" h)]]) us))(hl:us.length<=1000):
 cP P (d+2) "LineView" "__init__" [.inst "LineView" J.length,t,.inst "Data" D,.inst "LineHow" h] [] (J++[.dict []]) .none (vH D h us.length J us (bv (-1) 0 us) (bY 0 us) (bS false us)):=by
 have li:∀(x y:List Int) (z:List Bool),ba (vH D h us.length J us x y z) (.ref (J.length+1))=some (fx (J.length+2) us.length):=fun x y z=>b0 nc
 have hlen:∀x y z,bX (vH D h us.length J us x y z) (.enm (.ref (J.length+1)))=some us.length:=fun x y z=>by
  show(ba _ _).map _=_
  rw[li];show some (fx _ _).length=_;rw[dU]
 refine PG (eZ (N:=us.length) (it:=.enm (.ref (J.length+1))) (loc:=vwL t D h J.length (-1) 0 false none none) (J:=vH D h us.length J us [] [] []) (tg:=bQ (vwS P)) (asg:=bt P (d+1) (bQ (vwS P))) (body:=aH P (d+1) (cz (vwS P)))
  (fun n l s=>s=vH D h us.length J us (bv (-1) 0 (us.take n)) (bY 0 (us.take n)) (bS false (us.take n))/\∃o1 o2,l=vwL t D h J.length (oW (-1) 0 (us.take n)) (oX 0 (us.take n)) (oY false (us.take n)) o1 o2) (fun n l s hi I=>?_) (fun l s I=>?_) (hlen _ _ _) (by kernel_rfl) ⟨rfl,none,none,rfl⟩) fun l hh=>?_
 . refine KG (I) ?_;rintro rfl o1 o2 rfl
   have ln:(us.take n).length<=1000:=by rw[Qb];exact Py (Nat.min_le_right _ _) (Py ‹_› (by decide))
   have st:=Jc (P:=P) (d:=d+1) (D:=D) (h:=h) (J:=J) (t:=t) (o1:=o1) (o2:=o2) (i:=(n:Int)) (l:=oW (-1) 0 (us.take n)) (m:=oX 0 (us.take n)) (b:=oY false (us.take n)) (PF hi)
    (sol:=bv (-1) 0 (us.take n)) (reg:=bY 0 (us.take n)) (num:=bS false (us.take n)) (by rw[hW];exact ln) (by rw[hX];exact ln) (by rw[hY];exact ln)
   have ea:=p8 (u:=us[n]) (xs:=us.take n) (l := -1) (i:=0)
   have eb:=qa (u:=us[n]) (xs:=us.take n) (m:=0)
   have ec:=qb (u:=us[n]) (xs:=us.take n) (b:=false)
   rw[Qb,Nat.min_eq_left (Nat.le_of_lt hi),Int.zero_add]at ea
   have tk:us.take (n+1)=us.take n++[us[n]]:=by rw[List.take_add_one,PF hi];rfl
   refine⟨hlen _ _ _,.tup [.int n,.inst "LineUnit" (J.length+2+n)],.next,_,_,?_,st,.inl rfl,?_,some (.int n),some (.inst "LineUnit" (J.length+2+n)),?_⟩
   . show((ba _ _).bind (·[n]?)).map _=_
     rw[li,Option.bind_some];unfold fx
     rw[PQ,List.getElem?_range hi];rfl
   .rw[tk,ea.1,eb.1,ec.1]
   .rw[tk,ea.2,eb.2,ec.2]
 .obtain⟨rfl,_⟩:=I;exact hlen _ _ _
 . refine ae (hh) ?_;rintro s ⟨rfl,o1,o2,rfl⟩ h1
   rw[List.take_length]at h1
   exact OM hu h1
end
noncomputable abbrev oZ(st:Str)(ka:Bool)(nm:Str):ab:=.dict [("strictness",.str st),("keep_all",.bool ka),("numbers",.str nm)]
structure lP where
 cl:Int->Str
 gc:Int->Str
 ea:Int->Str
 ep:Int->Bool
 st:Str
 nm:Str
 ka:Bool
structure Bd(P:Params)(J:Hp)(D h:Nat)(Y:lP)(cs:List Int):Prop where
 cls:∀(d:Nat) (c:Int),c∈cs->∀H,wX P (d+6) D h (J++H) c (Y.cl c)
 how:J[h]?=some (oZ Y.st Y.ka Y.nm)
 dat:∃es,J[D]?=some (.dict es)/\List.lookup ("get":Str) es=none
 gc:∀(d:Nat) (c:Int),c∈cs->∀H,jz P (d+4) D (J++H) "gc" c (.str (Y.gc c))
 ea:∀(d:Nat) (c:Int),c∈cs->∀H,jz P (d+4) D (J++H) "ea" c (.str (Y.ea c))
 ep:∀(d:Nat) (c:Int),c∈cs->∀H,jz P (d+4) D (J++H) "ep" c (.bool (Y.ep c))
theorem bD{J H:Hp}{n:Nat}{c:ab}(h:J[n]?=some c):(J++H)[n]?=some c:=by
 rw[PN (PD.mp h).1];exact h
theorem Bd.more{P:Params}{J H:Hp}{D h:Nat}{Y:lP}{cs:List Int}(E:Bd P J D h Y cs):Bd P (J++H) D h Y cs:=by
 refine ae (E.dat) ?_;rintro es h1 h2
 exact⟨fun d c hc H'=>by rw[Pw];exact E.cls d c hc _,bD E.how,⟨es,bD h1,h2⟩,fun d c hc H'=>by rw[Pw];exact E.gc d c hc _,
  fun d c hc H'=>by rw[Pw];exact E.ea d c hc _,fun d c hc H'=>by rw[Pw];exact E.ep d c hc _⟩
def vT(D h n N:Nat)(us:List au)(sol reg:List Int)(num:List Bool):Hp :=
 p7 D h (N+1) (N+2+n) (N+3+n) (N+4+n)::.list (fx (N+2) us.length)::us.map jv++[.list (ivs sol),.list (ivs reg),.list (bvs num)]
theorem yT{D h n:Nat}{J:Hp}{us:List au}{sol reg:List Int}{num:List Bool}:vH D h n J us sol reg num=J++vT D h n J.length us sol reg num:=by
 unfold vH vB uH vT
 simp
def eT(Y:lP)(us:List au):VD:=⟨us,bv (-1) 0 us,bY 0 us,bS false us,Y.gc,Y.ea,Y.ep,Y.st,Y.nm,Y.ka⟩
def vO(D h:Nat)(J:Hp)(us:List au):Hp:=vH D h us.length J us (bv (-1) 0 us) (bY 0 us) (bS false us)
theorem nh{J:Hp}{n i:Nat}{xs:List V}{v:V}(h:J[n]?=some (.list xs))(hv:xs[i]?=some v)(hl:xs.length<1000000):ai J (.ref n) (.int i)=some v:=by
 rw[mq (eY h)]
 obtain⟨h1,h2⟩:=PD.mp hv
 rw[j0 rfl h1 hl,h2]
theorem Jd{t:Bool}{J:Hp}{n:Nat}{xs:List V}(h:J[n]?=some (.list xs))(hl:xs.length<=1000000):biI t "len" [.ref n] J=some (.int xs.length,J):=by
 show els (cW J (.ref n)) _ _=_
 rw[eY h]
 exact if_pos (ar hl)
abbrev lhC(P:Params):cF:=((a_T P).cls.lookup ("LineHow":Str)).getD ⟨[],[]⟩
abbrev dtC(P:Params):cF:=((a_T P).cls.lookup ("Data":Str)).getD ⟨[],[]⟩
theorem kK{α:Type}{l:List α}{i:Nat}{d:α}(h:i<l.length):l[i]?=some (l.getD i d):=by rw[List.getD_eq_getElem?_getD,PF h];rfl
theorem Je{P:Params}{J:Hp}{D h:Nat}{Y:lP}{cs:List Int}{us:List au}(E:Bd P J D h Y cs)(hu:∀u∈us,u.code∈cs)(hl:us.length<=1000):
 A9 P (vO D h J us) J.length (J.length+1) (J.length+2+us.length) (J.length+3+us.length) (J.length+4+us.length) h D (eT Y us):=by
 have E':=E.more (H:=vT D h us.length J.length us (bv (-1) 0 us) (bY 0 us) (bS false us))
 rw[<- yT]at E'
 have G:∀a v,((a_T P).cls.lookup ("LineView":Str))=some (lvC P)->(lvC P).attrs.contains a=true->List.lookup a ([("data",.inst "Data" D),("how",.inst "LineHow" h),("units",.ref (J.length+1)),("solid",.ref (J.length+2+us.length)),("regional",.ref (J.length+3+us.length)),("numeric",.ref (J.length+4+us.length))]:List (Str×V))=some v->BC v=true->cN P J.length (vO D h J us) a v :=
  fun a v h1 h2 h3 h4=>aB (lvC P) fi h3 h4 h1 h2
 have M:∀a,(lvC P).meths.contains a=true->List.lookup a ([("data",.inst "Data" D),("how",.inst "LineHow" h),("units",.ref (J.length+1)),("solid",.ref (J.length+2+us.length)),("regional",.ref (J.length+3+us.length)),("numeric",.ref (J.length+4+us.length))]:List (Str×V))=none->a7 P J.length (vO D h J us) a :=
  fun a h1 h2=>fT (lvC P) fi (by kernel_rfl) h1 h2
 have codes:∀i:Nat,i<us.length->(bW (eT Y us) i).code∈cs:=fun i hi=>by
  refine hu _ ?_
  show us.getD i _∈us
  have:=kK (d:=(⟨"",0,0,false⟩:au)) hi
  exact List.mem_of_getElem? this
 have HO:∀a v,(lhC P).attrs.contains a=true->List.lookup a ([("strictness",.str Y.st),("keep_all",.bool Y.ka),("numbers",.str Y.nm)]:List (Str×V))=some v->BC v=true->cG (a_T P) (vO D h J us) (.inst "LineHow" h) a=some v :=
  fun a v h1 h2 h3=>aB (lhC P) E'.how h2 h3 (by kernel_rfl) h1
 refine ae (E'.dat) ?_;rintro es d1 d2
 refine⟨M _ (by kernel_rfl) (by kernel_rfl),M _ (by kernel_rfl) (by kernel_rfl),M _ (by kernel_rfl) (by kernel_rfl),M _ (by kernel_rfl) (by kernel_rfl),G _ _ (by kernel_rfl) (by kernel_rfl) rfl rfl,?_,fun i hi=>?_,G _ _ (by kernel_rfl) (by kernel_rfl) rfl rfl,
  HO _ _ (by kernel_rfl) rfl rfl,HO _ _ (by kernel_rfl) rfl rfl,HO _ _ (by kernel_rfl) rfl rfl,G _ _ (by kernel_rfl) (by kernel_rfl) rfl rfl,fun i hi=>?_,G _ _ (by kernel_rfl) (by kernel_rfl) rfl rfl,fun i hi=>?_,G _ _ (by kernel_rfl) (by kernel_rfl) rfl rfl,fun i hi=>?_,
  G _ _ (by kernel_rfl) (by kernel_rfl) rfl rfl,fT (dtC P) d1 (by kernel_rfl) (by kernel_rfl) d2,fun d i hi=>?_,fun d i hi=>?_,fun d i hi=>?_⟩
 . have:=Jd (t:=true) (nc (D:=D) (h:=h) (n:=us.length) (J:=J) (us:=us) (sol:=bv (-1) 0 us) (reg:=bY 0 us) (num:=bS false us)) (by rw[dU];exact Py ‹_› (by decide))
   rw[dU]at this;exact this
 . have hi:i<us.length:=hi
   have e:=kK (d:=(⟨"",0,0,false⟩:au)) hi
   have vu:(vO D h J us)[J.length+2+i]?=some (jv (bW (eT Y us) i)):=ng e
   refine⟨J.length+2+i,nh nc ?_ (by rw[dU];exact PK ‹_› (by decide)),aB (luC P) vu rfl rfl,aB (luC P) vu rfl rfl,aB (luC P) vu rfl rfl⟩
   unfold fx
   rw[PQ,List.getElem?_range hi];rfl
 . have hi:i<us.length:=hi
   have hs:i<(bv (-1) 0 us).length:=by rw[hW];exact hi
   have b:=qc (us:=us) (l := -1) (i:=0) (j:=i) (by decide) (by decide) hi
   refine⟨nh lM ?_ (by rw[aQ,hW];exact PK ‹_› (by decide)),b.1,by have:=b.2;rw[Int.zero_add]at this;exact this⟩
   unfold ivs
   rw[PQ,kK (d:=0) hs];rfl
 . have hi:i<us.length:=hi
   have hs:i<(bY 0 us).length:=by rw[hX];exact hi
   refine nh lN ?_ (by rw[aQ,hX];exact PK ‹_› (by decide))
   unfold ivs
   rw[PQ,kK (d:=0) hs];rfl
 . have hi:i<us.length:=hi
   have hs:i<(bS false us).length:=by rw[hY];exact hi
   refine nh lO ?_ (by rw[qK,hY];exact PK ‹_› (by decide))
   unfold bvs
   rw[PQ,kK (d:=false) hs];rfl
 .have:=E'.gc d _ (codes i hi) [];rw[List.append_nil]at this;exact this
 .have:=E'.ea d _ (codes i hi) [];rw[List.append_nil]at this;exact this
 .have:=E'.ep d _ (codes i hi) [];rw[List.append_nil]at this;exact this
theorem w8{us:List au}{w:Str}{c i:Int}{u:au}(h:u∈cx us w c i):(∃u'∈us,u.code=u'.code/\u.at'=u'.at')\/(u.code=c/\u.at'=i):=by
 unfold cx at h
 have app:∀v:au,u∈us++[v]->v.code=c->v.at'=i->(∃u'∈us,u.code=u'.code/\u.at'=u'.at')\/(u.code=c/\u.at'=i):=fun v hv h1 h2=>by
  rcases PY.mp hv with hv | hv
  .exact .inl ⟨u,hv,rfl,rfl⟩
  .rw[PH.mp hv];exact .inr ⟨h1,h2⟩
 generalize dA w=m at h
 cases m
 .exact app _ h rfl rfl
 . generalize ((us.length==0)||fJ (uK us))=m at h
   cases m
   . rcases List.eq_nil_or_concat us with rfl | ⟨us,v,rfl⟩
     .exact nomatch h
     . rw[P1]at h ⊢
       have h:u∈FN (us++[v]) (w=="ZWJ"):=h
       rw[m9]at h
       rcases PY.mp h with h | h
       .exact .inl ⟨u,List.mem_append_left _ h,rfl,rfl⟩
       .rw[PH.mp h];exact .inl ⟨v,List.mem_append_right _ (PH.mpr rfl),rfl,rfl⟩
   .exact app _ h rfl rfl
theorem ls{cl:Int->Str}{u:au}:∀ {cs:List Int}{us:List au}{i:Int},u∈aO cl us i cs->(∃u'∈us,u.code=u'.code/\u.at'=u'.at')\/(u.code∈cs/\i<=u.at'/\u.at'<i+cs.length)
 |[],us,i,h=>.inl ⟨u,h,rfl,rfl⟩
 |c::cs,us,i,h=>by
  have h:u∈aO cl (cx us (cl c) c i) (i+1) cs:=h
  rw[P8]
  rcases ls h with⟨u',h1,h2,h3⟩ | ⟨h1,h2,h3⟩
  . rcases w8 h1 with⟨u'',h4,h5,h6⟩ | ⟨h5,h6⟩
    .exact .inl ⟨u'',h4,h2.trans h5,h3.trans h6⟩
    .exact .inr ⟨by rw[h2,h5];exact List.mem_cons_self,by lia,by lia⟩
  .exact .inr ⟨List.mem_cons_of_mem _ h1,by lia,by lia⟩
def fs0(n:Nat):List V:=((List.replicate (n+1) (noV "LB9")).set n (rS "LB3")).set 0 (noV "LB2")
noncomputable def fK(W:VD)(n:Nat):Nat->List V
 |0=>fs0 n
 |k+1=>(fK W n k).set (bW W (k+1:Nat)).at'.toNat (rW W (k+1:Nat))
theorem iG{W:VD}{n:Nat}:∀ {k:Nat},(fK W n k).length=n+1
 |0=>by unfold fK fs0;simp
 |k+1=>by unfold fK;rw[List.length_set];exact iG
theorem yU{J:Hp}{n:Nat}{xs:List V}{k:Int}{v:V}(h:J[n]?=some (.list xs)):d8 J (.ref n) (.int k) v=if aR k then(seqIndex? k xs.length).map fun j=>J.set n (.list (xs.set j v))else none:=by show dz J[n]? _ _=_;rw[h];rfl
theorem o0{J:Hp}{n i:Nat}{xs:List V}{v:V}(h:J[n]?=some (.list xs))(hi:i<xs.length)(hl:xs.length<1000000):d8 J (.ref n) (.int i) v=some (J.set n (.list (xs.set i v))):=by
 have hs:aR (i:Int)=true:=dW (P5 (by decide) (Qd _)) (Int.lt_trans (Int.ofNat_lt.mpr (Nat.lt_trans ‹_› ‹_›)) (by decide))
 have:seqIndex? (i:Int) xs.length=some i:=by
  unfold seqIndex?
  simp
  lia
 rw[yU h,hs,this];rfl
theorem yW{t:Bool}{J:Hp}{xs:List V}{y:Int}(h1:0<=y)(h2:y<1000)(h3:xs.length<1000):c8 t .Mult (.lst xs) (.int y) J=some (bw t (List.replicate y.toNat xs).flatten J):=by
 show(if decide (0<=y)&&decide (y<1000)&&decide (xs.length<1000)then _ else _)=_
 rw[PB h1,PB h2,PB h3];rfl
theorem LG{t:Bool}{J:Hp}{a b:Int}(h1:aR a=true)(h2:aR b=true):tyI t "range" [.int a,.int b] J=some (.rng a b,J):=by
 show(if aR a&&aR b then _ else _)=_
 rw[h1,h2];rfl
theorem FQ{J:Hp}{a b:Int}(h1:aR a=true)(h2:aR b=true):jx J (.rng a b)=some (.rng a b):=by
 show(if aR a&&aR b then _ else _)=_
 rw[h1,h2];rfl
section
variable{P:Params}{d D h:Nat}{J s s':Hp}{us:List au}{t:V}{o:Option V}{fs l0 l1 l2:List V}{k a N:Int}{v:V}{u m n:Nat}{l:Loc}
abbrev vdS(P:Params):Stmt:=fQ 4 (dJ P).body
noncomputable abbrev vdL(t:V)(D h F n:Nat)(o:Option V):Loc:=[("text",.v (some t)),("data",.v (some (.inst "Data" D))),("how",.v (some (.inst "LineHow" h))),("found",.v (some (.ref F))),("view",.v (some (.inst "LineView" n))),("at",.v o),("len",.g),("LineView",.g),("range",.g),("line_verdict",.g)]
noncomputable abbrev LH(P:Params)(d:Nat)(it:It)(loc:Loc)(J:Hp)(l:Loc)(s:Hp):Prop:=ge (bt P d (bQ (vdS P))) (aH P d (cz (vdS P))) (bQ (vdS P)) it loc J .next l s
theorem Jf{F:Nat}(R:be P d n s "line_verdict" k v)(U:cN P n s "units" (.ref u))(I:UnF P s u k m)(A:cG (a_T P) s (.inst "LineUnit" m) "at"=some (.int a))(S:d8 s (.ref F) (.int a) v=some s'):
 gf (bt P d (bQ (vdS P))) (aH P d (cz (vdS P))) (.int k) (vdL t D h F n o) s .next (vdL t D h F n (some (.int k))) s':=by
 intro k0 hk
 exact bd (zR (zR (zD R (zR (zR (zV U (zV I (zV A (zS S (z0 hk))))))))))
theorem ON{k1:Int}(f1:biI true "len" [t] J=some (.int k1,J))(f2:c8 true .Mult (.lst [noV "LB9"]) (.int (k1+1)) J=some (.ref J.length,J++[ab.list l0]))(f3:biI true "len" [t] (J++[ab.list l0])=some (.int k1,J++[ab.list l0]))
 (f4:d8 (J++[ab.list l0]) (.ref J.length) (.int k1) (rS "LB3")=some (J++[ab.list l1])) (f5:d8 (J++[ab.list l1]) (.ref J.length) (.int 0) (noV "LB2")=some (J++[ab.list l2]))
 (f6:cP P d "LineView" "__init__" [.inst "LineView" (J++[ab.list l2]).length,t,.inst "Data" D,.inst "LineHow" h] [] (J++[ab.list l2]++[.dict []]) .none s)
 (U:cN P (J++[ab.list l2]).length s "units" (.ref u)) (L:biI true "len" [.ref u] s=some (.int N,s)) (f7:tyI true "range" [.int 1,.int N] s=some (.rng 1 N,s)) (f8:jx s (.rng 1 N)=some (.rng 1 N))
 (f9:LH P d (.rng 1 N) (vdL t D h J.length (J++[ab.list l2]).length none) s (vdL t D h J.length (J++[ab.list l2]).length o) s') :
 cP P (d+1) "" "line_verdicts" [t,.inst "Data" D,.inst "LineHow" h] [] J (.ref J.length) s':=by
 exact af (dJ P) ([t,V.inst (Str.ofString "Data") D,V.inst (Str.ofString "LineHow") h]) (fun z=>(zP f1 (zP f2 (zP f3 (zS f4 (zS f5 (zN f6 (zV U (zP L (zP f7 (zI f8 (zL f9 (z0 z)))))).R.R.R).R.R).R.R)).R.R.R).C).R.R.R.R)
end
structure kh(J:Hp)(t:V)(cs:List Int):Prop where
 l:∀H,ba (J++H) t=some (ivs cs)
 i:∀H,cW (J++H) t=some (ivs cs)
theorem kh.more{J H:Hp}{t:V}{cs:List Int}(X:kh J t cs):kh (J++H) t cs:=⟨fun H'=>by rw[Pw];exact X.l _,fun H'=>by rw[Pw];exact X.i _⟩
theorem kh.len{J H:Hp}{b:Bool}{t:V}{cs:List Int}(X:kh J t cs)(hn:cs.length<=500):biI b "len" [t] (J++H)=some (.int cs.length,J++H):=by
 show els (cW _ _) _ _=_
 rw[X.i]
 show(if bp (ivs cs)then some (V.int ((ivs cs).length:Nat),_)else _)=_
 rw[if_pos (ar (by rw[aQ];exact Py ‹_› (by decide))),aQ]
theorem LI{D h:Nat}{J:Hp}{c c':ab}{us:List au}:(vO D h (J++[c]) us).set J.length c'=vO D h (J++[c']) us:=by
 unfold vO
 rw[yT,yT,Pw,Pw,Px,Px]
 exact eG rfl
theorem FR{D h:Nat}{J:Hp}{c:ab}{us:List au}:(vO D h (J++[c]) us)[J.length]?=some c:=by
 unfold vO
 rw[yT,Pw,PV (PS _),Nat.sub_self];rfl
theorem Be{P:Params}{d D h:Nat}{J:Hp}{t:V}{Y:lP}{cs:List Int}(E:Bd P J D h Y cs)(X:kh J t cs)(hn:cs.length<=500):
 cP P (d+9) "" "line_verdicts" [t,.inst "Data" D,.inst "LineHow" h] [] J (.ref J.length) (vO D h (J++[.list (fK (eT Y (aO Y.cl [] 0 cs)) cs.length ((aO Y.cl [] 0 cs).length-1))]) (aO Y.cl [] 0 cs)):=by
 generalize hus:aO Y.cl [] 0 cs=us
 have hl:us.length<=cs.length:=by
  have:=io (cl:=Y.cl) (xs:=cs) (us:=[]) (i:=0)
  rw[hus]at this;simpa using this
 have hm:∀u∈us,u.code∈cs/\0<=u.at'/\u.at'<cs.length:=fun u hu=>by
  rw[<- hus]at hu
  rcases ls hu with⟨u',h1,_⟩ | ⟨h1,h2,h3⟩
  .exact nomatch h1
  .exact⟨h1,h2,by lia⟩
 have A:∀fs,A9 P (vO D h (J++[.list fs]) us) (J++[ab.list fs]).length ((J++[ab.list fs]).length+1) _ _ _ h D (eT Y us):=fun fs=>Je E.more (fun u hu=>(hm u hu).1) (Py (Py ‹_› ‹_›) (by decide))
 have rng:(us.length:Int)-1=(us.length:Int)-1:=rfl
 have hN:∀s,bX s (.rng 1 us.length)=some (us.length-1):=fun s=>PI some (by lia)
 have iv:cP P (d+8) "LineView" "__init__" [.inst "LineView" (J++[ab.list (fs0 cs.length)]).length,t,.inst "Data" D,.inst "LineHow" h] [] (J++[.list (fs0 cs.length)]++[.dict []]) .none (vO D h (J++[.list (fs0 cs.length)]) us):=by
  refine LF (d:=d+6) ?_ (Py (Py ‹_› ‹_›) (by decide))
  have:=Jb (P:=P) (d:=d+5) (D:=D) (h:=h) (J:=J++[.list (fs0 cs.length)]++[.dict [("data",.inst "Data" D),("how",.inst "LineHow" h)]]) (t:=t) (cl:=Y.cl) (cs:=cs) hn
   (fun H=>(X.more.more).l H) (fun c hc H=>(E.more.more).cls d c hc H)
  rw[hus,Px (as:=J++_)]at this
  exact this
 refine PG (eZ (N:=us.length-1) (it:=.rng 1 us.length) (loc:=vdL t D h J.length (J++[ab.list (fs0 cs.length)]).length none) (J:=vO D h (J++[.list (fs0 cs.length)]) us) (tg:=bQ (vdS P)) (asg:=bt P (d+8) (bQ (vdS P))) (body:=aH P (d+8) (cz (vdS P)))
  (fun n l s=>s=vO D h (J++[.list (fK (eT Y us) cs.length n)]) us/\∃o,l=vdL t D h J.length (J++[ab.list (fs0 cs.length)]).length o) (fun n l s hi I=>?_) (fun l s I=>hN _) (hN _) (by kernel_rfl) ⟨rfl,none,rfl⟩) fun l hh=>?_
 . refine uu (I) ?_;rintro rfl o rfl
   have B:=A (fK (eT Y us) cs.length n)
   have hi':n+1<us.length:=by omega
   have R:=DP B (d:=d+1) (i:=n) hi'
   have e:=kK (d:=(⟨"",0,0,false⟩:au)) hi'
   have vu:=ng (D:=D) (h:=h) (n:=us.length) (J:=J++[.list (fK (eT Y us) cs.length n)]) (us:=us) (sol:=bv (-1) 0 us) (reg:=bY 0 us) (num:=bS false us) e
   have ha:=hm _ (List.mem_of_getElem? e)
   have I:=nh (nc (D:=D) (h:=h) (n:=us.length) (J:=J++[.list (fK (eT Y us) cs.length n)]) (us:=us) (sol:=bv (-1) 0 us) (reg:=bY 0 us) (num:=bS false us)) (i:=n+1) (v:=.inst "LineUnit" ((J++[ab.list (fK (eT Y us) cs.length n)]).length+2+(n+1)))
    (by unfold fx;rw[PQ,List.getElem?_range hi'];rfl) (by rw[dU];exact PK (Py ‹_› ‹_›) (by decide))
   have S:=o0 (FR (D:=D) (h:=h) (J:=J) (c:=.list (fK (eT Y us) cs.length n)) (us:=us)) (i:=(us.getD (n+1) ⟨"",0,0,false⟩).at'.toNat) (v:=rW (eT Y us) (n+1:Nat)) (by rw[iG];omega) (by rw[iG];exact PK (Nat.add_le_add_right ‹_› _) (by decide))
   rw[LI,Int.toNat_of_nonneg ha.2.1]at S
   have st:=Jf (t:=t) (D:=D) (h:=h) (o:=o) R B.U I (aB (luC P) vu rfl rfl) S
   have le:(J++[ab.list (fK (eT Y us) cs.length n)]).length=(J++[ab.list (fs0 cs.length)]).length:=by rw[Px,Px];rfl
   rw[le]at st
   refine⟨hN _,.int (n+1:Nat),.next,_,_,?_,st,.inl rfl,rfl,some (.int (n+1:Nat)),rfl⟩
   show some (V.int (1+n))=_
   rw[show(1:Int)+n=((n+1:Nat):Int) by lia]
 . refine ae (hh) ?_;rintro s ⟨rfl,o,rfl⟩ h1
   have B:=A (fs0 cs.length)
   have f1:=X.len (H:=[]) (b:=true) hn
   rw[List.append_nil]at f1
   have sm:aR (us.length:Int)=true:=dW (P5 (by decide) (Qd _)) (by lia)
   refine ON (l0:=List.replicate (cs.length+1) (noV "LB9")) (l1:=(List.replicate (cs.length+1) (noV "LB9")).set cs.length (rS "LB3")) f1 ?_ (X.len hn) ?_ ?_ iv B.U B.L ?_ ?_ h1
   . rw[yW (by lia) (by lia) (by decide)]
     have:(List.replicate ((cs.length:Int)+1).toNat [noV "LB9"]).flatten=List.replicate (cs.length+1) (noV "LB9"):=by
      rw[show((cs.length:Int)+1).toNat=cs.length+1 by omega,List.flatten_replicate_singleton]
     rw[this];rfl
   . have:=o0 (J:=J++[.list (List.replicate (cs.length+1) (noV "LB9"))]) (n:=J.length) (i:=cs.length) (v:=rS "LB3") aW (by simp) (by simp;exact PK (Nat.add_le_add_right ‹_› _) (by decide))
     rw[this,eG rfl]
   . have:=o0 (J:=J++[.list ((List.replicate (cs.length+1) (noV "LB9")).set cs.length (rS "LB3"))]) (n:=J.length) (i:=0) (v:=noV "LB2") aW (by simp) (by simp;exact PK (Nat.add_le_add_right ‹_› _) (by decide))
     exact this.trans (by rw[eG rfl];rfl)
   .exact LG (by decide) sm
   .exact FQ (by decide) sm
theorem FS{J:Hp}{xs:List V}{v:V}{n:Nat}(h:xs[n-1]?=some v)(h1:1<=n)(hl:xs.length<1000000):ai J (.lst xs) (.int ((n:Int)-1))=some v:=by
 obtain⟨h2,h3⟩:=PD.mp h
 refine u6.trans ?_
 rw[show((n:Int)-1)=((n-1:Nat):Int) by lia,j0 rfl h2 hl,h3]
theorem LJ{xs:List V}{n:Nat}(h:n<=xs.length):lB xs none (some (n:Int))=xs.take n:=by
 unfold lB kms_lo kms_hi
 have h1:¬((n:Int)<0):=by lia
 simp only[List.drop_zero,h1,if_false,Nat.sub_zero]
 simp <;> omega
theorem FT{xs:List V}{n:Nat}(h:n<=xs.length):lB xs (some (n:Int)) none=xs.drop n:=by
 unfold lB kms_lo kms_hi
 have h1:¬((n:Int)<0):=by lia
 simp only[h1,if_false]
 simp
 rw[Nat.min_eq_left h,List.take_of_length_le (by rw[List.length_drop];exact PS _)]
theorem FU{J:Hp}{o:V}{xs:List V}{n:Nat}(h:ba J o=some xs)(hn:n<=xs.length)(hl:bp xs=true)(hs:n<1000000):aG false J o .none (.int n) .none=some (.lst (xs.take n),J):=by
 have sm:aR (n:Int)=true:=dW (P5 (by decide) (Qd _)) (by lia)
 rw[mr h hl (a:=none) rfl (jP sm),LJ hn];rfl
theorem gm{J:Hp}{o:V}{xs:List V}{n:Nat}(h:ba J o=some xs)(hn:n<=xs.length)(hl:bp xs=true)(hs:n<1000000):aG false J o (.int n) .none .none=some (.lst (xs.drop n),J):=by
 have sm:aR (n:Int)=true:=dW (P5 (by decide) (Qd _)) (by lia)
 rw[mr h hl (jP sm) (b:=none) rfl,FT hn];rfl
theorem rZ{J:Hp}{a b:V}{xs ys:List V}(h1:ba J a=some xs)(h2:ba J b=some ys)(hl:bp (xs++ys)=true)(n1:∀x,a=.int x->False)(n2:∀x,a=.tup x->False):c8 false .Add a b J=some (.lst (xs++ys),J):=by
 have key:((ba J a).bind fun xs=>(ba J b).bind fun ys=>if bp (xs++ys)then some (bw false (xs++ys) J)else none)=some (.lst (xs++ys),J):=by
  rw[h1,h2];exact if_pos hl
 cases a with
 |int x=>exact(n1 x rfl).elim
 |tup x=>exact(n2 x rfl).elim
 |_=>exact key
theorem w9{J:Hp}{b:V}{xs ys:List V}(h2:ba J b=some ys)(hl:bp (xs++ys)=true):c8 false .Add (.lst xs) b J=some (.lst (xs++ys),J):=rZ rfl h2 hl (fun _ e=>nomatch e) (fun _ e=>nomatch e)
theorem FV{T:Tab}{J H:Hp}{c a:Str}{n:Nat}{es:List (Str×V)}{v:V}(cd:cF)(h:J[n]?=some (.dict es))(h1:T.cls.lookup c=some cd)(h2:cd.attrs.contains a=true)(h3:es.length<900):cH T (J++H) (.inst c n) a v=some (J.set n (.dict (d7 a v es))++H):=by
 rw[e7 cd (bD h) h1 h2 h3,List.set_append_left _ _ (PD.mp h).1]
theorem Jg{T:Tab}{J:Hp}{x y:ab}{c a:Str}{n:Nat}{es:List (Str×V)}{v:V}(cd:cF)(h:J[n]?=some (.dict es))(h1:T.cls.lookup c=some cd)(h2:cd.attrs.contains a=true)(h3:es.length<900):cH T (J++[x]++[y]) (.inst c n) a v=some (J.set n (.dict (d7 a v es))++[x]++[y]):=by
 rw[Pw,FV cd h h1 h2 h3,Pw]
section
variable{P:Params}{d:Nat}{J:Hp}
variable{r S S1:Nat}{A A1 A2 A3 A4 B1 B2 B3 B4 MS MV vs:List V}{c p q:Int}{behind below value:V}{s1 s2 s3 s4:Hp}
noncomputable abbrev SG(P:Params)(J:Hp)(r:Nat)(a:Str)(v:V):Prop:=cG (a_T P) J (.inst "RangeMap" r) a=some v
noncomputable abbrev PL(P:Params)(d:Nat)(A:List V)(c:Int)(J:Hp)(p:Int):Prop:=cP P d "" "place_by_half" [.lst A,.int c] [] J (.int p) J
noncomputable abbrev RL(P:Params)(d:Nat)(a b:V)(J:Hp)(x:Bool):Prop:=cP P d "" "range_are_like" [a,b] [] J (.bool x) J
theorem FW(k1:SG P J r "starts" (.lst A))(k2:SG P J r "values" (.lst vs))(dd:decide (c<c)=false)(hp1:PL P d A (c-1) J p)(hp2:PL P d A (c+1) J q)(q1:ai J (.lst vs) (.int (q+1-1))=some behind)
 (L1:RL P d behind value (J++[ab.list [.int c]]++[ab.list [value]]) true) (dm:decide (c<1114111)=true) (dl:decide (0<p+1)=true)
 (k3:SG P (J++[ab.list [.int c]]++[ab.list [value]]) r "values" (.lst vs)) (q2:ai (J++[ab.list [.int c]]++[ab.list [value]]) (.lst vs) (.int (p+1-1))=some below) (L2:RL P d below value (J++[ab.list [.int c]]++[ab.list [value]]) true)
 (sl1:aG false (J++[ab.list [.int c]]++[ab.list [value]]) (.ref S) (.int 1) .none .none=some (.lst MS,(J++[ab.list [.int c]]++[ab.list [value]]))) (sl2:aG false (J++[ab.list [.int c]]++[ab.list [value]]) (.ref S1) (.int 1) .none .none=some (.lst MV,(J++[ab.list [.int c]]++[ab.list [value]])))
 (k4:SG P (J++[ab.list [.int c]]++[ab.list [value]]) r "starts" (.lst A)) (x1:aG false (J++[ab.list [.int c]]++[ab.list [value]]) (.lst A) .none (.int (p+1)) .none=some (.lst A1,(J++[ab.list [.int c]]++[ab.list [value]]))) (y1:c8 false .Add (.lst A1) (.lst MS) (J++[ab.list [.int c]]++[ab.list [value]])=some (.lst A2,(J++[ab.list [.int c]]++[ab.list [value]]))) (x2:aG false (J++[ab.list [.int c]]++[ab.list [value]]) (.lst A) (.int (q+1)) .none .none=some (.lst A3,(J++[ab.list [.int c]]++[ab.list [value]]))) (y2:c8 false .Add (.lst A2) (.lst A3) (J++[ab.list [.int c]]++[ab.list [value]])=some (.lst A4,(J++[ab.list [.int c]]++[ab.list [value]])))
 (t1:cH (a_T P) (J++[ab.list [.int c]]++[ab.list [value]]) (.inst "RangeMap" r) "starts" (.lst A4)=some s3) (k5:SG P s3 r "values" (.lst vs)) (x3:aG false s3 (.lst vs) .none (.int (p+1)) .none=some (.lst B1,s3)) (y3:c8 false .Add (.lst B1) (.lst MV) s3=some (.lst B2,s3))
 (x4:aG false s3 (.lst vs) (.int (q+1)) .none .none=some (.lst B3,s3)) (y4:c8 false .Add (.lst B2) (.lst B3) s3=some (.lst B4,s3)) (t2:cH (a_T P) s3 (.inst "RangeMap" r) "values" (.lst B4)=some s4) (eS:S=J.length) (eS1:S1=(J++[ab.list [.int c]]).length) :
 cP P (d+1) "RangeMap" "put" [.inst "RangeMap" r,.int c,.int c,value] [] J .none s4:=by
 subst eS
 subst eS1
 exact af (ci P) ([V.inst (Str.ofString "RangeMap") r,V.int c,V.int c,value]) (fun z=>(zH dd (zV k1 (zD hp1 (zV k1 (zD hp2 (zV k2 (zV q1 (zH dm (zD L1 (zH dl (zV k3 (zV q2 (zD L2 (zP sl1 (zP sl2 (zV k4 (zP x1 (zP y1 (zV k4 (zP x2 (zP y2 (zS t1 (zV k5 (zP x3 (zP y3 (zV k5 (zP x4 (zP y4 (zS t2 (z0 z))))).R))).R.R)))).R))).R.R.R)).R.T)).C).R.R).C.F.C).R).C.R.R.R.R).C).R.R.C).C).R.R.R.C).C).R.R.R).C)
theorem FX(k1:SG P J r "starts" (.lst A))(k2:SG P J r "values" (.lst vs))(dd:decide (c<c)=false)(hp1:PL P d A (c-1) J p)(hp2:PL P d A (c+1) J q)(q1:ai J (.lst vs) (.int (q+1-1))=some behind)
 (L1:RL P d behind value (J++[ab.list [.int c]]++[ab.list [value]]) true) (dm:decide (c<1114111)=true) (dl:decide (0<p+1)=true)
 (k3:SG P (J++[ab.list [.int c]]++[ab.list [value]]) r "values" (.lst vs)) (q2:ai (J++[ab.list [.int c]]++[ab.list [value]]) (.lst vs) (.int (p+1-1))=some below) (L2:RL P d below value (J++[ab.list [.int c]]++[ab.list [value]]) false)
 (k4:SG P (J++[ab.list [.int c]]++[ab.list [value]]) r "starts" (.lst A)) (x1:aG false (J++[ab.list [.int c]]++[ab.list [value]]) (.lst A) .none (.int (p+1)) .none=some (.lst A1,(J++[ab.list [.int c]]++[ab.list [value]]))) (y1:c8 false .Add (.lst A1) (.ref S) (J++[ab.list [.int c]]++[ab.list [value]])=some (.lst A2,(J++[ab.list [.int c]]++[ab.list [value]]))) (x2:aG false (J++[ab.list [.int c]]++[ab.list [value]]) (.lst A) (.int (q+1)) .none .none=some (.lst A3,(J++[ab.list [.int c]]++[ab.list [value]]))) (y2:c8 false .Add (.lst A2) (.lst A3) (J++[ab.list [.int c]]++[ab.list [value]])=some (.lst A4,(J++[ab.list [.int c]]++[ab.list [value]])))
 (t1:cH (a_T P) (J++[ab.list [.int c]]++[ab.list [value]]) (.inst "RangeMap" r) "starts" (.lst A4)=some s3) (k5:SG P s3 r "values" (.lst vs)) (x3:aG false s3 (.lst vs) .none (.int (p+1)) .none=some (.lst B1,s3)) (y3:c8 false .Add (.lst B1) (.ref S1) s3=some (.lst B2,s3))
 (x4:aG false s3 (.lst vs) (.int (q+1)) .none .none=some (.lst B3,s3)) (y4:c8 false .Add (.lst B2) (.lst B3) s3=some (.lst B4,s3)) (t2:cH (a_T P) s3 (.inst "RangeMap" r) "values" (.lst B4)=some s4) (eS:S=J.length) (eS1:S1=(J++[ab.list [.int c]]).length) :
 cP P (d+1) "RangeMap" "put" [.inst "RangeMap" r,.int c,.int c,value] [] J .none s4:=by
 subst eS
 subst eS1
 exact af (ci P) ([V.inst (Str.ofString "RangeMap") r,V.int c,V.int c,value]) (fun z=>(zH dd (zV k1 (zD hp1 (zV k1 (zD hp2 (zV k2 (zV q1 (zH dm (zD L1 (zH dl (zV k3 (zV q2 (zD L2 (zV k4 (zP x1 (zP y1 (zV k4 (zP x2 (zP y2 (zS t1 (zV k5 (zP x3 (zP y3 (zV k5 (zP x4 (zP y4 (zS t2 (z0 z))))).R))).R.R)))).R))).R.R.F)).C).R.R).C.F.C).R).C.R.R.R.R).C).R.R.C).C).R.R.R.C).C).R.R.R).C)
theorem FY(k1:SG P J r "starts" (.lst A))(k2:SG P J r "values" (.lst vs))(dd:decide (c<c)=false)(hp1:PL P d A (c-1) J p)(hp2:PL P d A (c+1) J q)(q1:ai J (.lst vs) (.int (q+1-1))=some behind)
 (L1:RL P d behind value (J++[ab.list [.int c]]++[ab.list [value]]) false) (dm:decide (c<1114111)=true) (dl:decide (0<p+1)=true)
 (m1:cg (a_T P) (J++[ab.list [.int c]]++[ab.list [value]]) (.ref S) "append"=some (.bi "list.append")) (b1:aS (J++[ab.list [.int c]]++[ab.list [value]]) "list.append" (.ref S) [.int (c+1)]=some (.none,s1))
 (m2:cg (a_T P) s1 (.ref S1) "append"=some (.bi "list.append")) (b2:aS s1 "list.append" (.ref S1) [behind]=some (.none,s2))
 (k3:SG P s2 r "values" (.lst vs)) (q2:ai s2 (.lst vs) (.int (p+1-1))=some below) (L2:RL P d below value s2 true)
 (sl1:aG false s2 (.ref S) (.int 1) .none .none=some (.lst MS,s2)) (sl2:aG false s2 (.ref S1) (.int 1) .none .none=some (.lst MV,s2))
 (k4:SG P s2 r "starts" (.lst A)) (x1:aG false s2 (.lst A) .none (.int (p+1)) .none=some (.lst A1,s2)) (y1:c8 false .Add (.lst A1) (.lst MS) s2=some (.lst A2,s2)) (x2:aG false s2 (.lst A) (.int (q+1)) .none .none=some (.lst A3,s2)) (y2:c8 false .Add (.lst A2) (.lst A3) s2=some (.lst A4,s2))
 (t1:cH (a_T P) s2 (.inst "RangeMap" r) "starts" (.lst A4)=some s3) (k5:SG P s3 r "values" (.lst vs)) (x3:aG false s3 (.lst vs) .none (.int (p+1)) .none=some (.lst B1,s3)) (y3:c8 false .Add (.lst B1) (.lst MV) s3=some (.lst B2,s3))
 (x4:aG false s3 (.lst vs) (.int (q+1)) .none .none=some (.lst B3,s3)) (y4:c8 false .Add (.lst B2) (.lst B3) s3=some (.lst B4,s3)) (t2:cH (a_T P) s3 (.inst "RangeMap" r) "values" (.lst B4)=some s4) (eS:S=J.length) (eS1:S1=(J++[ab.list [.int c]]).length) :
 cP P (d+1) "RangeMap" "put" [.inst "RangeMap" r,.int c,.int c,value] [] J .none s4:=by
 subst eS
 subst eS1
 exact af (ci P) ([V.inst (Str.ofString "RangeMap") r,V.int c,V.int c,value]) (fun z=>(zH dd (zV k1 (zD hp1 (zV k1 (zD hp2 (zV k2 (zV q1 (zH dm (zD L1 (zK m1 (zP b1 (zK m2 (zP b2 (zH dl (zV k3 (zV q2 (zD L2 (zP sl1 (zP sl2 (zV k4 (zP x1 (zP y1 (zV k4 (zP x2 (zP y2 (zS t1 (zV k5 (zP x3 (zP y3 (zV k5 (zP x4 (zP y4 (zS t2 (z0 z))))).R))).R.R)))).R))).R.R.R)).R.T)).C).R.R).C)).R.Q).C).R.Q.T.C).R).C.R.R.R.R).C).R.R.C).C).R.R.R.C).C).R.R.R).C)
theorem FZ(k1:SG P J r "starts" (.lst A))(k2:SG P J r "values" (.lst vs))(dd:decide (c<c)=false)(hp1:PL P d A (c-1) J p)(hp2:PL P d A (c+1) J q)(q1:ai J (.lst vs) (.int (q+1-1))=some behind)
 (L1:RL P d behind value (J++[ab.list [.int c]]++[ab.list [value]]) false) (dm:decide (c<1114111)=true) (dl:decide (0<p+1)=true)
 (m1:cg (a_T P) (J++[ab.list [.int c]]++[ab.list [value]]) (.ref S) "append"=some (.bi "list.append")) (b1:aS (J++[ab.list [.int c]]++[ab.list [value]]) "list.append" (.ref S) [.int (c+1)]=some (.none,s1))
 (m2:cg (a_T P) s1 (.ref S1) "append"=some (.bi "list.append")) (b2:aS s1 "list.append" (.ref S1) [behind]=some (.none,s2))
 (k3:SG P s2 r "values" (.lst vs)) (q2:ai s2 (.lst vs) (.int (p+1-1))=some below) (L2:RL P d below value s2 false)
 (k4:SG P s2 r "starts" (.lst A)) (x1:aG false s2 (.lst A) .none (.int (p+1)) .none=some (.lst A1,s2)) (y1:c8 false .Add (.lst A1) (.ref S) s2=some (.lst A2,s2)) (x2:aG false s2 (.lst A) (.int (q+1)) .none .none=some (.lst A3,s2)) (y2:c8 false .Add (.lst A2) (.lst A3) s2=some (.lst A4,s2))
 (t1:cH (a_T P) s2 (.inst "RangeMap" r) "starts" (.lst A4)=some s3) (k5:SG P s3 r "values" (.lst vs)) (x3:aG false s3 (.lst vs) .none (.int (p+1)) .none=some (.lst B1,s3)) (y3:c8 false .Add (.lst B1) (.ref S1) s3=some (.lst B2,s3))
 (x4:aG false s3 (.lst vs) (.int (q+1)) .none .none=some (.lst B3,s3)) (y4:c8 false .Add (.lst B2) (.lst B3) s3=some (.lst B4,s3)) (t2:cH (a_T P) s3 (.inst "RangeMap" r) "values" (.lst B4)=some s4) (eS:S=J.length) (eS1:S1=(J++[ab.list [.int c]]).length) :
 cP P (d+1) "RangeMap" "put" [.inst "RangeMap" r,.int c,.int c,value] [] J .none s4:=by
 subst eS
 subst eS1
 exact af (ci P) ([V.inst (Str.ofString "RangeMap") r,V.int c,V.int c,value]) (fun z=>(zH dd (zV k1 (zD hp1 (zV k1 (zD hp2 (zV k2 (zV q1 (zH dm (zD L1 (zK m1 (zP b1 (zK m2 (zP b2 (zH dl (zV k3 (zV q2 (zD L2 (zV k4 (zP x1 (zP y1 (zV k4 (zP x2 (zP y2 (zS t1 (zV k5 (zP x3 (zP y3 (zV k5 (zP x4 (zP y4 (zS t2 (z0 z))))).R))).R.R)))).R))).R.R.F)).C).R.R).C)).R.Q).C).R.Q.T.C).R).C.R.R.R.R).C).R.R.C).C).R.R.R.C).C).R.R.R).C)
noncomputable def fb{α:Type}(b1 b2:Bool)(x y:α):List α:=cond b2 [] [x]++cond b1 [] [y]
theorem yX{α:Type}{b1 b2:Bool}{x y:α}:(fb b1 b2 x y).length<=2:=by cases b1 <;> cases b2 <;> first | exact PS _ | exact Nat.le_succ _ | exact Nat.zero_le _
noncomputable def sLL(c:Int)(value behind:V)(b1:Bool)(J:Hp):Hp:=J++[ab.list (.int c::cond b1 [] [.int (c+1)])]++[ab.list (value::cond b1 [] [behind])]
theorem OO{fs:List Int}{lo hi:Nat}{dflt:V}{b1 b2:Bool}(hr:J[r]?=some (iZ dflt fs vs))(hp1:PL P d (ivs fs) (c-1) J p)(hp2:PL P d (ivs fs) (c+1) J q)(e1:p+1=lo)(e2:q+1=hi)(hlo:lo<=fs.length)(hhi:hi<=fs.length)(p1:1<=lo)(p2:1<=hi)(hv:vs.length=fs.length)(hn:fs.length<=400)(hc:c<1114111)
 (hb:vs[hi-1]?=some behind) (ha:vs[lo-1]?=some below) (l1:∀s,RL P d behind value s b1) (l2:∀s,RL P d below value s b2) :
 cP P (d+1) "RangeMap" "put" [.inst "RangeMap" r,.int c,.int c,value] [] J .none (sLL c value behind b1 (J.set r (iZ dflt (fs.take lo++fb b1 b2 c (c+1)++fs.drop hi) (vs.take lo++fb b1 b2 value behind++vs.drop hi)))):=by
 have G:∀(s:Hp) (x y:List V),s[r]?=some (.dict [("default",dflt),("starts",.lst x),("values",.lst y)])->SG P s r "starts" (.lst x)/\SG P s r "values" (.lst y):=fun s x y h=>⟨aB (rmC P) h rfl rfl,aB (rmC P) h rfl rfl⟩
 have own:∀(b:Bool) (s:Hp) {x:ab},s[r]?=some x->(sLL c value behind b s)[r]?=some x:=fun b s x h=>bD (bD h)
 have at0:∀(b:Bool) (s:Hp),(sLL c value behind b s)[s.length]?=some (ab.list (.int c::cond b [] [.int (c+1)])):=fun b s=>by unfold sLL;exact bD aW
 have at1:∀(b:Bool) (s:Hp),(sLL c value behind b s)[(s++[ab.list [.int c]]).length]?=some (ab.list (value::cond b [] [behind])):=fun b s=>by
  have:(s++[ab.list [.int c]]).length=(s++[ab.list (.int c::cond b [] [.int (c+1)])]).length:=by rw[Px,Px];rfl
  rw[this];unfold sLL;exact aW
 have sI:∀(b:Bool) (s:Hp) {es:List (Str×V)} (a:Str) (v:V),s[r]?=some (.dict es)->(rmC P).attrs.contains a=true->es.length<900->cH (a_T P) (sLL c value behind b s) (.inst "RangeMap" r) a v=some (sLL c value behind b (s.set r (.dict (d7 a v es)))):=fun b s es a v h h1 h2=>Jg (rmC P) h (by kernel_rfl) h1 h2
 have dd:decide (c<c)=false:=P6 (Int.lt_irrefl c)
 have dm:=PB hc
 have dl:decide (0<p+1)=true:=by rw[e1];exact PB (by lia)
 have sm1:lo<1000000:=PK (Py ‹_› ‹_›) (by decide)
 have sm2:hi<1000000:=PK (Py ‹_› ‹_›) (by decide)
 have lv:vs.length<=1000000:=Py (Nat.le_of_eq ‹_›) (Py ‹_› (by decide))
 have lf:(ivs fs).length<=1000000:=by rw[aQ];exact Py ‹_› (by decide)
 have ln:∀ {xs ys zs:List V}{k:Nat},xs.length<=400->ys.length<=2->zs.length<=400->bp (xs++ys)=true/\bp (xs++ys++zs)=true:=fun h1 h2 h3=>⟨ar (by rw[Px];exact Py (Nat.add_le_add ‹_› ‹_›) (by decide)),ar (by rw[Px,Px];lia)⟩
 have t4:∀(xs:List V) (k:Nat),xs.length=fs.length->(xs.take k).length<=400:=fun xs k h=>Py (List.length_take_le' _ _) (Py (Nat.le_of_eq ‹_›) (Py ‹_› (by decide)))
 have d4:∀(xs:List V) (k:Nat),xs.length=fs.length->(xs.drop k).length<=400:=fun xs k h=>by rw[List.length_drop];lia
 have iq:∀(s:Hp) (x:Nat) (i:Int) (v:V),i+1=x->1<=x->vs[x-1]?=some v->ai s (.lst vs) (.int (i+1-1))=some v:=fun s x i v e h1 h2=>by rw[e];exact FS h2 h1 (PK (Nat.le_of_eq ‹_›) (PK ‹_› (by decide)))
 have xT:∀(s:Hp) (xs:List V),xs.length=fs.length->xs.length<=1000000->aG false s (.lst xs) .none (.int (p+1)) .none=some (.lst (xs.take lo),s):=fun s xs h hl=>by rw[e1];exact FU rfl (Py ‹_› (Nat.le_of_eq (Eq.symm ‹_›))) (ar hl) sm1
 have xD:∀(s:Hp) (xs:List V),xs.length=fs.length->xs.length<=1000000->aG false s (.lst xs) (.int (q+1)) .none .none=some (.lst (xs.drop hi),s):=fun s xs h hl=>by rw[e2];exact gm rfl (Py ‹_› (Nat.le_of_eq (Eq.symm ‹_›))) (ar hl) sm2
 have yA:∀(s:Hp) (xs ys:List V) (m:V),ba s m=some ys->xs.length=fs.length->ys.length<=2->c8 false .Add (.lst (xs.take lo)) m s=some (.lst (xs.take lo++ys),s)/\c8 false .Add (.lst (xs.take lo++ys)) (.lst (xs.drop hi)) s=some (.lst (xs.take lo++ys++xs.drop hi),s):=fun s xs ys m h h1 h2 =>
  have l:=ln (k:=0) (t4 xs lo h1) h2 (d4 xs hi h1)
  ⟨w9 h l.1,w9 rfl l.2⟩
 have ivl:(ivs fs).length=fs.length:=aQ
 have eN:(ivs fs).take lo++fb b1 b2 (V.int c) (.int (c+1))++(ivs fs).drop hi=ivs (fs.take lo++fb b1 b2 c (c+1)++fs.drop hi):=by
  unfold ivs;rw[PW,PW,List.map_take,List.map_drop]
  cases b1 <;> cases b2 <;> rfl
 have k12:=G J _ _ hr
 have hr3:=db (c:=.dict [("default",dflt),("starts",.lst ((ivs fs).take lo++fb b1 b2 (V.int c) (.int (c+1))++(ivs fs).drop hi)),("values",.lst vs)]) hr
 have k34:=G _ _ _ (own b1 J hr)
 have k5:=G _ _ _ (own b1 _ hr3)
 have t1:=sI b1 J "starts" (.lst ((ivs fs).take lo++fb b1 b2 (V.int c) (.int (c+1))++(ivs fs).drop hi)) hr (by kernel_rfl) (by simp)
 have t2:=sI b1 _ "values" (.lst (vs.take lo++fb b1 b2 value behind++vs.drop hi)) hr3 (by kernel_rfl) (by simp)
 rw[List.set_set]at t2
 have fin:sLL c value behind b1 (J.set r (.dict (d7 "values" (.lst (vs.take lo++fb b1 b2 value behind++vs.drop hi)) [("default",dflt),("starts",.lst ((ivs fs).take lo++fb b1 b2 (V.int c) (.int (c+1))++(ivs fs).drop hi)),("values",.lst vs)])))=sLL c value behind b1 (J.set r (iZ dflt (fs.take lo++fb b1 b2 c (c+1)++fs.drop hi) (vs.take lo++fb b1 b2 value behind++vs.drop hi))):=by
  rw[eN];rfl
 rw[<- fin]
 have l0:=b0 (at0 b1 J)
 have l3:∀x,(J.set r x).length=J.length:=fun _=>List.length_set
 have s3l:∀x,ba (sLL c value behind b1 (J.set r x)) (.ref (J++[ab.list [.int c]]).length)=some (value::cond b1 [] [behind]):=fun x=>by
  have:=b0 (at1 b1 (J.set r x))
  rw[Px,l3,<- Px (bs:=[ab.list [.int c]])]at this;exact this
 have n2:∀(b:Bool) (x y:V),(x::cond b [] [y]).length<=2:=fun b x y=>by cases b <;> simp
 have sA:=gm (n:=1) l0 (by simp) (ar (Py (n2 b1 _ _) (by decide))) (by decide)
 have sB:=gm (n:=1) (b0 (at1 b1 J)) (by simp) (ar (Py (n2 b1 _ _) (by decide))) (by decide)
 have yS:=yA (sLL c value behind b1 J) (ivs fs) (fb b1 b2 (.int c) (.int (c+1))) (cond b2 (.lst (cond b1 [] [.int (c+1)])) (.ref J.length)) (by cases b2;exact l0;rfl) ivl yX
 have yV:=fun x=>yA (sLL c value behind b1 (J.set r x)) vs (fb b1 b2 value behind) (cond b2 (.lst (cond b1 [] [behind])) (.ref (J++[ab.list [.int c]]).length)) (by cases b2;exact s3l x;rfl) hv yX
 have a0:(J++[ab.list [.int c]]++[ab.list [value]])[J.length]?=some (ab.list [.int c]):=at0 true J
 have a1:(J++[ab.list [.int c,.int (c+1)]]++[ab.list [value]])[(J++[ab.list [.int c]]).length]?=some (ab.list [value]):=by
  have:(J++[ab.list [.int c]]).length=(J++[ab.list [.int c,.int (c+1)]]).length:=by rw[Px,Px];rfl
  rw[this];exact aW
 have bm1:aS (J++[ab.list [.int c]]++[ab.list [value]]) "list.append" (.ref J.length) [.int (c+1)]=some (.none,J++[ab.list [.int c,.int (c+1)]]++[ab.list [value]]):=by
  rw[dX a0 (ar (by simp)),Pw,List.singleton_append,eG rfl,Pw];rfl
 have bm2:aS (J++[ab.list [.int c,.int (c+1)]]++[ab.list [value]]) "list.append" (.ref (J++[ab.list [.int c]]).length) [behind]=some (.none,sLL c value behind false J):=by
  rw[dX a1 (ar (by simp)),show(J++[ab.list [V.int c]]).length=(J++[ab.list [V.int c,V.int (c+1)]]).length by rw[Px,Px];rfl,eG rfl];rfl
 cases b1 <;> cases b2
 .exact FZ k12.1 k12.2 dd hp1 hp2 (iq _ _ _ _ e2 p2 hb) (l1 _) dm dl (aZ a0) bm1 (aZ a1) bm2 k34.2 (iq _ _ _ _ e1 p1 ha) (l2 _) k34.1 (xT _ _ ivl lf) yS.1 (xD _ _ ivl lf) yS.2 t1 k5.2 (xT _ _ hv lv) (yV _).1 (xD _ _ hv lv) (yV _).2 t2 rfl rfl
 .exact FY k12.1 k12.2 dd hp1 hp2 (iq _ _ _ _ e2 p2 hb) (l1 _) dm dl (aZ a0) bm1 (aZ a1) bm2 k34.2 (iq _ _ _ _ e1 p1 ha) (l2 _) sA sB k34.1 (xT _ _ ivl lf) yS.1 (xD _ _ ivl lf) yS.2 t1 k5.2 (xT _ _ hv lv) (yV _).1 (xD _ _ hv lv) (yV _).2 t2 rfl rfl
 .exact FX k12.1 k12.2 dd hp1 hp2 (iq _ _ _ _ e2 p2 hb) (l1 _) dm dl k34.2 (iq _ _ _ _ e1 p1 ha) (l2 _) k34.1 (xT _ _ ivl lf) yS.1 (xD _ _ ivl lf) yS.2 t1 k5.2 (xT _ _ hv lv) (yV _).1 (xD _ _ hv lv) (yV _).2 t2 rfl rfl
 .exact FW k12.1 k12.2 dd hp1 hp2 (iq _ _ _ _ e2 p2 hb) (l1 _) dm dl k34.2 (iq _ _ _ _ e1 p1 ha) (l2 _) sA sB k34.1 (xT _ _ ivl lf) yS.1 (xD _ _ ivl lf) yS.2 t1 k5.2 (xT _ _ hv lv) (yV _).1 (xD _ _ hv lv) (yV _).2 t2 rfl rfl
end
structure yY(ps:List (Int×V))(F:Int->V):Prop where
 asc:ps.Pairwise fun a b=>a.1<b.1
 head:∃q,ps.head?=some q/\q.1=0
 val:∀c,0<=c->c<1114111->((ps.filter fun q=>decide (q.1<=c)).getLast?).map (·.2)=some (F c)
theorem Bf{ps:List (Int×V)}(h:ps.Pairwise fun a b=>a.1<b.1):Asc (ps.map (·.1)):=by
 intro i j x y hij hx hy
 rw[PQ]at hx hy
 refine ae (P9.mp hx) ?_;rintro a ha rfl
 refine ae (P9.mp hy) ?_;rintro b hb rfl
 obtain⟨h1,rfl⟩:=PD.mp ha
 obtain⟨h2,rfl⟩:=PD.mp hb
 exact List.pairwise_iff_getElem.mp h i j h1 h2 hij
theorem r6{ps:List (Int×V)}{c:Int}{p:Nat}(h:Cut (ps.map (·.1)) c p):∀q∈ps.take p,q.1<=c:=by
 intro q hq
 obtain⟨i,hi,rfl⟩:=List.mem_iff_getElem.mp hq
 rw[Qb]at hi
 rw[List.getElem_take]
 exact h.2.1 i _ (PU ‹_› (Nat.min_le_left _ _)) (by rw[PQ,PF (PU ‹_› (Nat.min_le_right _ _))];rfl)
theorem r7{ps:List (Int×V)}{c:Int}{p:Nat}(h:Cut (ps.map (·.1)) c p):∀q∈ps.drop p,c<q.1:=by
 intro q hq
 obtain⟨i,hi,rfl⟩:=List.mem_iff_getElem.mp hq
 rw[List.length_drop]at hi
 rw[List.getElem_drop]
 exact h.2.2 (p+i) _ (Nat.le_add_right _ _) (by rw[PQ,PF (by grind)];rfl)
theorem qL{l:List (Int×V)}{c:Int}(h:∀q∈l,q.1<=c):l.filter (fun q=>decide (q.1<=c))=l:=List.filter_eq_self.mpr fun q hq=>PB (h q hq)
theorem ki{l:List (Int×V)}{c:Int}(h:∀q∈l,c<q.1):l.filter (fun q=>decide (q.1<=c))=[]:=List.filter_eq_nil_iff.mpr fun q hq=>by have:=h q hq;simp;omega
theorem Bg{ps:List (Int×V)}{c:Int}{p:Nat}(h:Cut (ps.map (·.1)) c p):ps.filter (fun q=>decide (q.1<=c))=ps.take p:=by
 have e:ps=ps.take p++ps.drop p:=(List.take_append_drop p ps).symm
 conv=>lhs;rw[e]
 rw[List.filter_append,qL (r6 h),ki (r7 h),List.append_nil]
theorem o5{α:Type}{l:List α}{p:Nat}(h1:1<=p)(h2:p<=l.length):(l.take p).getLast?=l[p-1]?:=by
 rw[List.getLast?_eq_getElem?,Qb,Nat.min_eq_left h2,List.getElem?_take]
 rw[if_pos (by omega)]
theorem kM{ps:List (Int×V)}{F:Int->V}(M:yY ps F){c:Int}{p:Nat}(h:Cut (ps.map (·.1)) c p)(hc:0<=c):1<=p:=by
 refine ae (M.head) ?_;rintro q hq h0
 cases p with
 |succ p=>exact Nat.le_add_left _ _
 |zero =>
  have:=h.2.2 0 q.1 (PS _) (by rw[PQ,<- List.head?_eq_getElem?,hq];rfl)
  lia
theorem xa{ps:List (Int×V)}{F:Int->V}(M:yY ps F){c:Int}{p:Nat}(h:Cut (ps.map (·.1)) c p)(hc:0<=c)(hm:c<1114111):(ps.map (·.2))[p-1]?=some (F c):=by
 have:=M.val c hc hm
 rw[Bg h,o5 (kM M h hc) (by simpa using h.1)]at this
 rw[PQ];exact this
theorem yZ{b1 b2:Bool}{a b x:Int×V}(h:x∈fb b1 b2 a b):x=a\/x=b:=by
 unfold fb at h
 cases b1 <;> cases b2 <;> simp at h <;> simp[h]
theorem LK{ps:List (Int×V)}{F:Int->V}(M:yY ps F){first last:Int}{low high:Nat}{value behind below:V}{b1 b2:Bool}(h1:1<=first)(hf:first<=last)(hm:last<1114110)(cl:Cut (ps.map (·.1)) (first-1) low)(ch:Cut (ps.map (·.1)) (last+1) high)
 (hb:(ps.map (·.2))[high-1]?=some behind) (ha:(ps.map (·.2))[low-1]?=some below) (e1:b1=true->behind=value) (e2:b2=true->below=value) :
 yY (ps.take low++fb b1 b2 (first,value) (last+1,behind)++ps.drop high) (fun c=>if first<=c/\c<=last then value else F c):=by
 have tl:=r6 cl
 have dl:=r7 cl
 have th:=r6 ch
 have dh:=r7 ch
 have pl:1<=low:=kM M cl (by lia)
 have ph:1<=high:=kM M ch (by lia)
 have ll:low<=ps.length:=by simpa using cl.1
 have lh:high<=ps.length:=by simpa using ch.1
 have mM:∀q∈fb b1 b2 (first,value) (last+1,behind),first<=q.1/\q.1<=last+1:=by
  intro q hq
  rcases yZ hq with rfl | rfl
  .exact⟨Int.le_refl _,by show first<=last+1;lia⟩
  .exact⟨by show first<=last+1;lia,Int.le_refl _⟩
 refine⟨?_,?_,?_⟩
 . rw[List.pairwise_append,List.pairwise_append]
   refine⟨⟨M.asc.sublist (List.take_sublist _ _),?_,?_⟩,M.asc.sublist (List.drop_sublist _ _),?_⟩
   . unfold fb
     cases b1 <;> cases b2 <;> simp <;> exact Int.lt_add_one_of_le ‹_›
   . intro a ha b hb
     have:=tl a ha
     have:=(mM b hb).1
     lia
   . intro a ha b hb
     have hb:=dh b hb
     rcases PY.mp ha with h | h
     .have:=tl a h;lia
     .have:=(mM a h).2;exact Int.lt_of_le_of_lt ‹_› ‹_›
 . refine ae (M.head) ?_;rintro q hq h0
   refine⟨q,?_,h0⟩
   cases ps with
   |nil=>cases hq
   |cons x ps =>
    obtain⟨k,rfl⟩:∃k,low=k+1:=⟨low-1,(Nat.sub_add_cancel ‹_›).symm⟩
    exact hq
 . intro c hc0 hc1
   rw[List.filter_append,List.filter_append]
   by_cases k1:c<first
   . have nf:¬(first<=c/\c<=last):=by lia
     rw[if_neg nf,ki (l:=fb _ _ _ _) (fun q hq=>by have:=(mM q hq).1;exact P5 ‹_› ‹_›),ki (l:=ps.drop high) (fun q hq=>by have:=dh q hq;lia),List.append_nil,List.append_nil,<- M.val c hc0 hc1]
     have e:ps=ps.take low++ps.drop low:=(List.take_append_drop low ps).symm
     conv=>rhs;rw[e]
     rw[List.filter_append,ki (l:=ps.drop low) (fun q hq=>by have:=dl q hq;lia),List.append_nil]
   . rw[qL (l:=ps.take low) (fun q hq=>by have:=tl q hq;lia)]
     have hA:(ps.take low).getLast?.map (·.2)=some below:=by rw[o5 pl ll,<- PQ];exact ha
     have hB:(ps.take high).getLast?.map (·.2)=some behind:=by rw[o5 ph lh,<- PQ];exact hb
     by_cases k2:c<=last
     . rw[if_pos ⟨Int.not_lt.mp ‹_›,k2⟩,ki (l:=ps.drop high) (fun q hq=>by have:=dh q hq;lia),List.append_nil]
       have n1:decide (last+1<=c)=false:=P6 (by lia)
       have n2:decide (first<=c)=true:=PB (Int.not_lt.mp ‹_›)
       unfold fb
       cases hb1:b1 <;> cases hb2:b2 <;> simp only[hb2,cond_true,cond_false,if_true,Bool.false_eq_true,if_false,List.nil_append,List.append_nil,List.cons_append,List.filter_cons,List.filter_nil,n1,n2]
       .simp
       .rw[hA,e2 hb2]
       .simp
       .rw[hA,e2 hb2]
     . rw[if_neg (by lia)]
       have old:=M.val c hc0 hc1
       have e:ps=ps.take high++ps.drop high:=(List.take_append_drop high ps).symm
       rw[e,List.filter_append,qL (l:=ps.take high) (fun q hq=>by have:=th q hq;lia),List.getLast?_append]at old
       rw[qL (l:=fb _ _ _ _) (fun q hq=>by have:=(mM q hq).2;lia),List.getLast?_append,<- old]
       cases hq:((ps.drop high).filter fun q=>decide (q.1<=c)).getLast? with
       |some q=>rfl
       |none =>
        rw[Option.none_or,Option.none_or,hB,List.getLast?_append]
        unfold fb
        cases hb1:b1 <;> cases hb2:b2 <;> simp only[cond_true,cond_false,if_true,Bool.false_eq_true,if_false,List.nil_append,List.append_nil,List.cons_append]
        .rfl
        .rfl
        .rw[e1 hb1];rfl
        .rw[show([]:List (Int×V)).getLast?=none from rfl,Option.none_or,hA,e2 hb2,e1 hb1]
noncomputable def fj:V->Bool
 |.str _=>true
 |.bool _=>true
 |_=>false
noncomputable def jw:V->V->Bool
 |.str a,.str b=>a==b
 |.bool a,.bool b=>a==b
 |_,_=>false
theorem y0{a b:V}(h:jw a b=true):a=b:=by
 cases a with
 |str a=>cases b with
  |str b=>exact PI V.str (P4.mp h)
  |_=>exact Bool.noConfusion h
 |bool a=>cases b with
  |bool b=>exact PI V.bool (P4.mp h)
  |_=>exact Bool.noConfusion h
 |_=>exact Bool.noConfusion h
structure fm(x:ab)(f:Int->V)(n:Nat):Prop where
 ex:∃(ps:List (Int×V)) (dflt:V),x=iZ dflt (ps.map (·.1)) (ps.map (·.2))/\fj dflt=true/\(∀q∈ps,fj q.2=true)/\yY ps f/\ps.length<=1+2*n
theorem r8{n:Nat}{v:V}(h:fj v=true):fy n v=true:=by cases v <;> first | rfl | cases h
theorem gn{n:Nat}:∀ {l:List V},(∀v∈l,fy n v=true)->refsL n l=true
 |[],_=>rfl
 |v::l,h=>by
  show(fy n v&&refsL n l)=true
  rw[h v List.mem_cons_self,gn fun w hw=>h w (List.mem_cons_of_mem _ hw)];rfl
theorem fm.refs{x:ab}{f:Int->V}{n k:Nat}(M:fm x f n):bT k x=true:=by
 refine eX (M.ex) ?_;rintro ps dflt rfl h1 h2 _
 show(fy k dflt&&(refsL k (ivs (ps.map (·.1)))&&(refsL k (ps.map (·.2))&&true)))=true
 rw[r8 h1,gn fun v hv=>by refine ae (List.mem_map.mp hv) ?_;rintro i _ rfl;rfl,gn fun v hv=>by refine ae (List.mem_map.mp hv) ?_;rintro q hq rfl;exact r8 (h2 q hq)]
 rfl
theorem i7{J:Hp}{p:ab->Bool}{r:Nat}{x:ab}(h:J.all p=true)(hx:p x=true):(J.set r x).all p=true:=by
 rw[List.all_eq_true]at h ⊢
 intro c hc
 rcases List.mem_or_eq_of_mem_set hc with hc | rfl
 .exact h c hc
 .exact hx
section
variable{P:Params}{d:Nat}{J:Hp}
set_option tactic.hygienic true in
theorem F0{a b:V}(ha:fj a=true)(hb:fj b=true):cP P (d+1) "" "range_are_like" [a,b] [] J (.bool (jw a b)) J:=by
 have e:∀x:Bool,(x&&true)=x:=fun x=>by cases x <;> rfl
 cases a <;> first | cases ha | skip
 all_goals cases b <;> first | cases hb | skip
 .rename_i x y;have:=Ls (P:=P) (d:=d) (J:=J) (a:=x) (b:=y);rw[e]at this;exact this
 .exact I6
 .exact I5
 .rename_i x y;have:=Lr (P:=P) (d:=d) (J:=J) (a:=x) (b:=y);rw[e]at this;exact this
theorem LL{r:Nat}{x:ab}{f:Int->V}{n:Nat}{c:Int}(hr:J[r]?=some x)(M:fm x f n)(hn:n<=40)(h0:0<=c)(h1:c<1114111):cP P (d+2) "RangeMap" "get" [.inst "RangeMap" r,.int c] [] J (f c) J:=by
 refine nM (M.ex) ?_;rintro ps dflt rfl _ hp M hl
 refine ae (wS (P:=P) (d:=d) (J:=J) (n:=c) (Bf M.asc) (by simp;lia)) ?_;rintro p e hc
 have hp2:p<=ps.length:=by simpa using hc.1
 exact Lu hr e (FS (xa M hc h0 h1) (kM M hc h0) (by simp;lia))
theorem F3{r:Nat}{x:ab}{f:Int->V}{n:Nat}{c:Int}{value:V}(hr:J[r]?=some x)(M:fm x f n)(hn:n<=40)(h1:1<=c)(hm:c<1114110)(hv:fj value=true)(hcl:J.all (bT J.length)=true):
 ∃y,fm y (fun k=>if c<=k/\k<=c then value else f k) (n+1)/\cP P (d+2) "RangeMap" "put" [.inst "RangeMap" r,.int c,.int c,value] [] J .none (J.set r y):=by
 refine nM (M.ex) ?_;rintro ps dflt rfl pd hp M hl
 refine ae (wS (P:=P) (d:=d) (J:=J) (n:=c-1) (Bf M.asc) (by simp;lia)) ?_;rintro low el cl
 refine ae (wS (P:=P) (d:=d) (J:=J) (n:=c+1) (Bf M.asc) (by simp;lia)) ?_;rintro high eh ch
 have hb:=xa M ch (by lia) (by lia)
 have ha:=xa M cl (by lia) (by lia)
 have mem:∀ {i:Nat}{v:V},(ps.map (·.2))[i]?=some v->fj v=true:=fun{i v} h=>by
  refine ae (List.mem_map.mp (List.mem_of_getElem? h)) ?_;rintro q hq rfl
  exact hp q hq
 have pb:=mem hb
 have pa:=mem ha
 have e1:∀b1 b2:Bool,(fb b1 b2 (c,value) (c+1,f (c+1))).map (·.1)=fb b1 b2 c (c+1):=fun b1 b2=>by cases b1 <;> cases b2 <;> rfl
 have e2:∀b1 b2:Bool,(fb b1 b2 (c,value) (c+1,f (c+1))).map (·.2)=fb b1 b2 value (f (c+1)):=fun b1 b2=>by cases b1 <;> cases b2 <;> rfl
 have hcell:fm (iZ dflt ((ps.map (·.1)).take low++fb (jw (f (c+1)) value) (jw (f (c-1)) value) c (c+1)++(ps.map (·.1)).drop high) ((ps.map (·.2)).take low++fb (jw (f (c+1)) value) (jw (f (c-1)) value) value (f (c+1))++(ps.map (·.2)).drop high))
  (fun k=>if c<=k/\k<=c then value else f k) (n+1):=by
  refine⟨ps.take low++fb (jw (f (c+1)) value) (jw (f (c-1)) value) (c,value) (c+1,f (c+1))++ps.drop high,dflt,?_,pd,?_,LK M h1 (Int.le_refl _) hm cl ch hb ha y0 y0,?_⟩
  .rw[PW,PW,PW,PW,e1,e2,List.map_take,List.map_drop,List.map_take,List.map_drop]
  . intro q hq
    rcases PY.mp hq with h | h
    . rcases PY.mp h with h | h
      .exact hp q (List.mem_of_mem_take h)
      . rcases yZ h with rfl | rfl
        .exact hv
        .exact pb
    .exact hp q (List.mem_of_mem_drop h)
  . have:(fb (jw (f (c+1)) value) (jw (f (c-1)) value) (c,value) (c+1,f (c+1))).length<=2:=by unfold fb;cases jw (f (c+1)) value <;> cases jw (f (c-1)) value <;> simp
    have hlow:low<=high:=by
     rcases Nat.lt_or_ge high low with h | h
     . have h2:high<ps.length:=by have:=cl.1;simp at this;exact PU ‹_› ‹_›
       have a1:=cl.2.1 high (ps[high]).1 h (by rw[PQ,PF h2];rfl)
       have a2:=ch.2.2 high (ps[high]).1 (PS _) (by rw[PQ,PF h2];rfl)
       lia
     .exact h
    have hh:high<=ps.length:=by simpa using ch.1
    rw[Px,Px,Qb,List.length_drop]
    lia
 refine⟨_,hcell,?_⟩
 have pc:=OO hr el eh (by lia) (by lia) cl.1 ch.1 (kM M cl (by lia)) (kM M ch (by lia)) (by simp) (by simp;lia) (P5 ‹_› (by decide)) hb ha (fun s=>F0 pb hv) (fun s=>F0 pa hv)
 have tk:∀X b,(sLL c value (f (c+1)) b (J.set r X)).take J.length=J.set r X:=fun X b=>by unfold sLL;rw[Pw,List.take_left' (by rw[List.length_set])]
 have:=my pc rfl (by rw[tk];exact i7 hcl hcell.refs)
 rw[tk]at this
 exact this
end
noncomputable def pa(v:V):List Str->List (Str×V)->List (Str×V)
 |[],es=>es
 |k::ks,es=>pa v ks (d7 k v es)
theorem y5{k:Str}{v:V}:∀ {es:List (Str×V)},(d7 k v es).length<=es.length+1
 |[]=>PS _
 |(y,w)::r=>by
  unfold d7
  split
  .simp
  .rw[P8,P8];have:=y5 (k:=k) (v:=v) (es:=r);exact Nat.add_le_add_right ‹_› _
theorem F4{v:V}{k:Str}:∀ {ks:List Str}{es:List (Str×V)},pa v (ks++[k]) es=d7 k v (pa v ks es)
 |[],es=>rfl
 |_::ks,es=>F4 (ks:=ks)
theorem o6{v:V}:∀ {ks:List Str}{es:List (Str×V)},(pa v ks es).length<=es.length+ks.length
 |[],es=>PS _
 |k::ks,es=>by
  have h1:=o6 (v:=v) (ks:=ks) (es:=d7 k v es)
  have h2:=y5 (k:=k) (v:=v) (es:=es)
  show(pa v ks (d7 k v es)).length<=_
  rw[P8];lia
noncomputable abbrev ir:List (Str×V):=[("gc",.str "Cn"),("ccc",.int 0),("bc",.str "L"),("lb",.str "XX"),("ea",.str "N"),("sc",.str "Zzzz"),("jt",.str "U"),("incb",.str "None")]
noncomputable abbrev nm1:List Str:=["gcb","wb","sb"]
noncomputable abbrev nm2:List Str:=["ex","sd","cased","ci","ep","di","ids","idc","xids","xidc","pat_syn","pat_ws","idst"]
noncomputable abbrev nm3:List Str:=["dm","uc","lc","tc","cf","bm","bpb","scx","nt","nv","name","conf","nfkc_cf"]
noncomputable abbrev nm4:List Str:=["suc","slc","stc","alias"]
def dfl:List (Str×V):=d7 "idna" (.tup [.str "disallowed",.tup []]) (pa (.tup []) nm4 (pa .none nm3 (pa (.bool false) nm2 (pa (.str "Other") nm1 ir))))
section
variable{P:Params}{d F:Nat}{J:Hp}{o o1 o2 o3 o4:Option V}{k:Str}{es:List (Str×V)}{v:V}
theorem r9(hl:es.length<900):d8 (J++[.dict es]) (.ref J.length) (.str k) v=some (J++[.dict (d7 k v es)]):=by
 rw[BG aW hl,eG rfl]
abbrev ddS(P:Params)(n:Nat):Stmt:=fQ n (dK P).body
noncomputable abbrev ddL(F:Nat)(o:Option V):Loc:=[("found",.v (some (.ref F))),("name",.v o)]
noncomputable abbrev sf(P:Params)(d n:Nat)(k:Str)(J:Hp)(o:Option V)(es:List (Str×V))(v:V):Prop:=gf (bt P d (bQ (ddS P n))) (aH P d (cz (ddS P n))) (.str k) (ddL J.length o) (J++[.dict es]) .next (ddL J.length (some (.str k))) (J++[.dict (d7 k v es)])
noncomputable abbrev sq(P:Params)(d n:Nat)(ks:List Str)(J:Hp)(o o':Option V)(es es':List (Str×V)):Prop:=ge (bt P d (bQ (ddS P n))) (aH P d (cz (ddS P n))) (bQ (ddS P n)) (.seq (.tup (ks.map .str))) (ddL J.length o) (J++[.dict es]) .next (ddL J.length o') (J++[.dict es'])
theorem OP(hl:es.length<900):sf P d 1 k J o es (.str "Other"):=by
 intro k0 hk
 have s:=r9 (J:=J) (k:=k) (v:=.str "Other") hl
 exact bd (zR (zS s (z0 hk)))
theorem OQ(hl:es.length<900):sf P d 2 k J o es (.bool false):=by
 intro k0 hk
 have s:=r9 (J:=J) (k:=k) (v:=.bool false) hl
 exact bd (zR (zS s (z0 hk)))
theorem OR(hl:es.length<900):sf P d 3 k J o es .none:=by
 intro k0 hk
 have s:=r9 (J:=J) (k:=k) (v:=.none) hl
 exact bd (zR (zS s (z0 hk)))
theorem OS(hl:es.length<900):sf P d 4 k J o es (.tup []):=by
 intro k0 hk
 have s:=r9 (J:=J) (k:=k) (v:=.tup []) hl
 exact bd (zR (zR (zS s (z0 hk))))
theorem xb{n:Nat}{ks:List Str}(hl:es.length+ks.length<=800)(ht:∀it,pM (bQ (ddS P n)) (.seq it)=true)(h:∀k o es,es.length<900->sf P d n k J o es v):∃o',sq P d n ks J o o' es (pa v ks es):=by
 have hN:∀s,bX s (.seq (.tup (ks.map .str)))=some ks.length:=fun s=>by show some (ks.map V.str).length=_;rw[PA]
 refine PG (eZ (N:=ks.length) (it:=.seq (.tup (ks.map .str))) (loc:=ddL J.length o) (J:=J++[.dict es]) (tg:=bQ (ddS P n)) (asg:=bt P d (bQ (ddS P n))) (body:=aH P d (cz (ddS P n)))
  (fun i l s=>s=J++[.dict (pa v (ks.take i) es)]/\∃o,l=ddL J.length o) (fun i l s hi I=>?_) (fun l s I=>hN _) (hN _) (ht _) ⟨rfl,o,rfl⟩) fun l hh=>?_
 . obtain⟨rfl,o,rfl⟩:=I
   have hp:=o6 (v:=v) (ks:=ks.take i) (es:=es)
   rw[Qb]at hp
   refine⟨hN _,.str ks[i],.next,_,_,?_,h ks[i] o _ (by lia),.inl rfl,?_,some (.str ks[i]),rfl⟩
   . show(some (ks.map V.str)).bind (·[i]?)=_
     rw[Option.bind_some,PQ,PF hi];rfl
   . rw[List.take_add_one,PF hi]
     show _=J++[ab.dict (pa v (ks.take i++[ks[i]]) es)]
     rw[F4]
 . obtain⟨s,⟨rfl,o,rfl⟩,h1⟩:=hh
   rw[List.take_length]at h1
   exact⟨o,h1⟩
theorem OT(h1:sq P d 1 nm1 J none o1 ir (pa (.str "Other") nm1 ir))(h2:sq P d 2 nm2 J o1 o2 (pa (.str "Other") nm1 ir) (pa (.bool false) nm2 (pa (.str "Other") nm1 ir)))
 (h3:sq P d 3 nm3 J o2 o3 (pa (.bool false) nm2 (pa (.str "Other") nm1 ir)) (pa .none nm3 (pa (.bool false) nm2 (pa (.str "Other") nm1 ir))))
 (h4:sq P d 4 nm4 J o3 o4 (pa .none nm3 (pa (.bool false) nm2 (pa (.str "Other") nm1 ir))) (pa (.tup []) nm4 (pa .none nm3 (pa (.bool false) nm2 (pa (.str "Other") nm1 ir)))))
 (h5:d8 (J++[.dict (pa (.tup []) nm4 (pa .none nm3 (pa (.bool false) nm2 (pa (.str "Other") nm1 ir))))]) (.ref J.length) (.str "idna") (.tup [.str "disallowed",.tup []])=some (J++[.dict dfl])) :
 cP P (d+1) "" "data_defaults" [] [] J (.ref J.length) (J++[.dict dfl]):=by
 exact af (dK P) ([]) (fun z=>(zA (by decide:[Str.ofString "incb",Str.ofString "jt",Str.ofString "sc",Str.ofString "ea",Str.ofString "lb",Str.ofString "bc",Str.ofString "ccc",Str.ofString "gc"].reverse.length=[Expr.Constant (Const.str (Str.ofString "Cn")) 0 { line:=310,col:=19,endLine:=310,endCol:=23},Expr.Constant (Const.int 0) 0 { line:=310,col:=32,endLine:=310,endCol:=33},Expr.Constant (Const.str (Str.ofString "L")) 0 { line:=310,col:=41,endLine:=310,endCol:=44},Expr.Constant (Const.str (Str.ofString "XX")) 0 { line:=310,col:=52,endLine:=310,endCol:=56},Expr.Constant (Const.str (Str.ofString "N")) 0 { line:=310,col:=64,endLine:=310,endCol:=67},Expr.Constant (Const.str (Str.ofString "Zzzz")) 0 { line:=310,col:=75,endLine:=310,endCol:=81},Expr.Constant (Const.str (Str.ofString "U")) 0 { line:=310,col:=89,endLine:=310,endCol:=92},Expr.Constant (Const.str (Str.ofString "None")) 0 { line:=310,col:=102,endLine:=310,endCol:=108}].length/\[Str.ofString "incb",Str.ofString "jt",Str.ofString "sc",Str.ofString "ea",Str.ofString "lb",Str.ofString "bc",Str.ofString "ccc",Str.ofString "gc"].reverse.length<=15) (zL h1 (zL h2 (zL h3 (zL h4 (zS h5 (z0 z)).R.R.R).C.R).C.R).C.R).C.R).R)
theorem Bh:cP P (d+1) "" "data_defaults" [] [] J (.ref J.length) (J++[.dict dfl]):=by
 obtain⟨o1,h1⟩:=xb (P:=P) (d:=d) (J:=J) (es:=ir) (o:=none) (n:=1) (ks:=nm1) (by decide) (fun _=>rfl) (fun k o es=>OP)
 have l1:=o6 (v:=.str "Other") (ks:=nm1) (es:=ir)
 have l1:(pa (.str "Other") nm1 ir).length<=11:=l1
 obtain⟨o2,h2⟩:=xb (P:=P) (d:=d) (J:=J) (es:=pa (.str "Other") nm1 ir) (o:=o1) (n:=2) (ks:=nm2) (by show _+13<=_;decide) (fun _=>rfl) (fun k o es=>OQ)
 have l2:=o6 (v:=.bool false) (ks:=nm2) (es:=pa (.str "Other") nm1 ir)
 have l2:(pa (.bool false) nm2 (pa (.str "Other") nm1 ir)).length<=24:=Py l2 (by show _+13<=_;decide)
 obtain⟨o3,h3⟩:=xb (P:=P) (d:=d) (J:=J) (es:=pa (.bool false) nm2 (pa (.str "Other") nm1 ir)) (o:=o2) (n:=3) (ks:=nm3) (by show _+13<=_;decide) (fun _=>rfl) (fun k o es=>OR)
 have l3:=o6 (v:=.none) (ks:=nm3) (es:=pa (.bool false) nm2 (pa (.str "Other") nm1 ir))
 have l3:(pa .none nm3 (pa (.bool false) nm2 (pa (.str "Other") nm1 ir))).length<=37:=Py l3 (by show _+13<=_;decide)
 obtain⟨o4,h4⟩:=xb (P:=P) (d:=d) (J:=J) (es:=pa .none nm3 (pa (.bool false) nm2 (pa (.str "Other") nm1 ir))) (o:=o3) (n:=4) (ks:=nm4) (by show _+4<=_;decide) (fun _=>rfl) (fun k o es=>OS)
 have l4:=o6 (v:=.tup []) (ks:=nm4) (es:=pa .none nm3 (pa (.bool false) nm2 (pa (.str "Other") nm1 ir)))
 exact OT h1 h2 h3 h4 (r9 (PK l4 (by show _+4<_;decide)))
end
noncomputable def Shp(v:V):Prop:=v=.none\/∃w l:Str,v=.tup [.str w,.str l]
theorem sN:Shp .none:=.inl rfl
theorem sT{a b:Str}:Shp (.tup [.str a,.str b]):=.inr ⟨_,_,rfl⟩
theorem sC{t:Bool}{p q:V}(h1:Shp p)(h2:Shp q):Shp (cond t p q):=by cases t;exact h2;exact h1
theorem Bi:∃w l:Str,eR []=.tup [.str w,.str l]:=⟨_,_,rfl⟩
theorem bF{v:V}{r:List V}(h:Shp v)(hr:∃w l:Str,eR r=.tup [.str w,.str l]):∃w l:Str,eR (v::r)=.tup [.str w,.str l]:=by
 rcases h with rfl | ⟨w,l,rfl⟩
 .exact hr
 .exact⟨w,l,rfl⟩
theorem Bj{W:VD}{k:Int}:∃w l:Str,rW W k=.tup [.str w,.str l] :=
 bF (sC sT (sC sT (sC sT (sC sT sN)))) <| bF (sC sT (sC sT (sC sT sN))) <| bF (sC sT (sC sT (sC sT sN))) <| bF (sC (sC sT (sC sT sN)) (sC sT sN)) <|
 bF (sC sT (sC sT sN)) <| bF (sC sT (sC sT (sC sT sN))) <| bF (sC sT (sC sT (sC sT (sC sT (sC sT (sC sT sN)))))) <| bF (sC sT (sC sT (sC sT sN))) <|
 bF (sC (sC sT (sC (sC sT sN) (sC (sC (sC sT sN) (sC sT sN)) sN))) (sC sT sN)) <| bF (sC sT (sC sT (sC sT sN))) <| bF (sC sT sN) <| bF (sC sT (sC sT (sC sT sN))) <|
 bF (sC sT (sC (sC sT (sC sT sN)) (sC sT sN))) Bi
theorem kj{W:VD}{n:Nat}:∀ {k:Nat}{v:V},v∈fK W n k->∃w l:Str,v=.tup [.str w,.str l]
 |0,v,h=>by
  unfold fK fs0 at h
  rcases List.mem_or_eq_of_mem_set h with h | rfl
  . rcases List.mem_or_eq_of_mem_set h with h | rfl
    .rw[List.eq_of_mem_replicate h];exact⟨_,_,rfl⟩
    .exact⟨_,_,rfl⟩
  .exact⟨_,_,rfl⟩
 |k+1,v,h=>by
  unfold fK at h
  rcases List.mem_or_eq_of_mem_set h with h | rfl
  .exact kj h
  .exact Bj
noncomputable def gS:V->V
 |.tup (x::_)=>x
 |v=>v
abbrev lbC(P:Params):cF:=((a_T P).cls.lookup ("LineBreaks":Str)).getD ⟨[],[]⟩
noncomputable abbrev qB(D h:Nat):ab:=.dict [("data",.inst "Data" D),("how",.inst "LineHow" h)]
section
variable{P:Params}{d D h B F:Nat}{J s:Hp}{t:V}{o1 o2:Option V}{fs:List V}
theorem Jh:cP P (d+1) "LineBreaks" "__init__" [.inst "LineBreaks" J.length,.inst "Data" D,.inst "LineHow" h] [] (J++[.dict []]) .none (J++[qB D h]):=by
 have a1:cH (a_T P) (J++[.dict []]) (.inst "LineBreaks" J.length) "data" (.inst "Data" D)=some (J++[.dict [("data",.inst "Data" D)]]):=dL (lbC P) (by kernel_rfl) (by kernel_rfl) (by simp)
 have a2:cH (a_T P) (J++[.dict [("data",.inst "Data" D)]]) (.inst "LineBreaks" J.length) "how" (.inst "LineHow" h)=some (J++[qB D h]):=dL (lbC P) (by kernel_rfl) (by kernel_rfl) (by simp)
 exact af (cR P) ([V.inst (Str.ofString "LineBreaks") (List.length J),V.inst (Str.ofString "Data") D,V.inst (Str.ofString "LineHow") h]) (fun z=>(zS a1 (zS a2 (z0 z)).T.C.R).R)
abbrev opE(P:Params):Expr:=stE (fQ 0 (aF P).body)
noncomputable abbrev opL(o1 o2:Option V):Loc:=[(".0",.v none),("word",.v o1),("name",.v o2)]
noncomputable abbrev F5(P:Params)(d:Nat)(v:V)(loc:Loc)(J:Hp)(x:V)(s:Hp):Prop:=mn (bt P d (coG (opE P)).target) (jZ P d (coG (opE P)).ifs) (dO P d (coE (opE P))) false v loc J x s
theorem Ji(h1:s[F]?=some (.list fs))(hf:∀v∈fs,∃w l:Str,v=.tup [.str w,.str l])(hl:fs.length<=1000):F5 P d (.ref F) (opL none none) s (.lst (fs.map gS)) s:=by
 have h2:cW s (.ref F)=some fs:=eY h1
 have hN:bX s (.seq (.ref F))=some fs.length:=by show(cW _ _).map _=_;rw[h2];rfl
 refine PG (mw (t:=false) (v:=.ref F) (it:=.seq (.ref F)) (loc:=opL none none) (J:=s) (asg:=bt P d (coG (opE P)).target) (test:=jZ P d (coG (opE P)).ifs) (elt:=dO P d (coE (opE P)))
  (fun i l s' acc=>s'=s/\acc=(fs.take i).map gS/\∃o1 o2,l=opL o1 o2) (JZ h1) hN (fun i l s' acc hi I=>?_) (fun l s' acc I=>?_) ⟨rfl,rfl,none,none,rfl⟩) fun acc hh=>?_
 . obtain⟨rfl,rfl,o1,o2,rfl⟩:=I
   refine gK (hf fs[i] (List.getElem_mem hi)) ?_;rintro w l e
   have hlt:((fs.take i).map gS).length<=1000000:=by rw[PA,Qb];exact Py (Nat.min_le_right _ _) (Py ‹_› (by decide))
   refine⟨⟨hN,ar hlt⟩,.tup [.str w,.str l],true,.str w,opL (some (.str w)) (some (.str l)),s',?_,fun k hk=>?_,rfl,?_,_,_,rfl⟩
   . show(cW _ _).bind _=_
     rw[h2,Option.bind_some,PF hi,e]
   .exact bd (z0 hk)
   . show(fs.take i).map gS++[.str w]=_
     rw[List.take_add_one,PF hi,PW,e];rfl
 . refine eW (I) ?_;rintro rfl rfl _
   exact⟨hN,ar (by rw[PA,Qb];exact Py (Nat.min_le_right _ _) (Py ‹_› (by decide)))⟩
 . refine bu (hh) ?_;rintro s' l ⟨rfl,rfl,_⟩ h
   rw[List.take_length]at h
   exact h
theorem OU(g1:cG (a_T P) J (.inst "LineBreaks" B) "data"=some (.inst "Data" D))(g2:cG (a_T P) J (.inst "LineBreaks" B) "how"=some (.inst "LineHow" h))
 (V1:cP P d "" "line_verdicts" [t,.inst "Data" D,.inst "LineHow" h] [] J (.ref F) s) (C:F5 P d (.ref F) (opL none none) s (.lst (fs.map gS)) s) :
 cP P (d+1) "LineBreaks" "opportunities" [.inst "LineBreaks" B,t] [] J (.lst (fs.map gS)) s:=by
 exact af (aF P) ([V.inst (Str.ofString "LineBreaks") B,t]) (fun z=>zA (rfl:(0:Int)=(0:Int)) (zV g1 (zV g2 (zD V1 (zF C (z0 z)))).R).R.R.R)
end
def Bk(Y:lP)(cs:List Int):List V:=(fK (eT Y (aO Y.cl [] 0 cs)) cs.length ((aO Y.cl [] 0 cs).length-1)).map gS
theorem F6{Y:lP}{cs:List Int}{v:V}(h:v∈Bk Y cs):∃w:Str,v=.str w:=by
 refine ae (List.mem_map.mp h) ?_;rintro x hx rfl
 refine gK (kj hx) ?_;rintro w l rfl
 exact⟨w,rfl⟩
theorem uM{n:Nat}:∀ {l:List V},(∀v∈l,∃w:Str,v=.str w)->refsL n l=true
 |[],_=>rfl
 |v::l,h=>by
  obtain⟨w,rfl⟩:=h v List.mem_cons_self
  show(true&&refsL n l)=true
  rw[uM fun v hv=>h v (List.mem_cons_of_mem _ hv)];rfl
theorem Kk{P:Params}{d D h B:Nat}{J:Hp}{t:V}{Y:lP}{cs:List Int}(E:Bd P J D h Y cs)(X:kh J t cs)(hn:cs.length<=500)(hB:J[B]?=some (qB D h))(hc:J.all (bT J.length)=true):
 cP P (d+10) "LineBreaks" "opportunities" [.inst "LineBreaks" B,t] [] J (.lst (Bk Y cs)) J:=by
 have V1:=Be (d:=d) E X hn
 have C:=Ji (P:=P) (d:=d+9) (FR (D:=D) (h:=h) (J:=J) (c:=.list (fK (eT Y (aO Y.cl [] 0 cs)) cs.length ((aO Y.cl [] 0 cs).length-1))) (us:=aO Y.cl [] 0 cs)) (fun v hv=>kj hv) (by rw[iG];exact Py (Nat.add_le_add_right ‹_› _) (by decide))
 have r:=OU (aB (lbC P) hB rfl rfl) (aB (lbC P) hB rfl rfl) V1 C
 have tk:∀fs,(vO D h (J++[.list fs]) (aO Y.cl [] 0 cs)).take J.length=J:=fun fs=>by
  unfold vO
  rw[yT,Pw,List.take_left'];rfl
 have:=my r (uM fun v hv=>F6 hv) (by rw[tk];exact hc)
 rw[tk]at this
 exact this
noncomputable abbrev km(a b c e:Nat):ab:=.dict [("defaults",.ref a),("maps",.ref b),("properties",.ref c),("words",.ref e)]
theorem qM{T:Tab}{J H:Hp}{c a:Str}{es:List (Str×V)}{v:V}(cd:cF)(h1:T.cls.lookup c=some cd)(h2:cd.attrs.contains a=true)(h3:es.length<900):cH T (J++.dict es::H) (.inst c J.length) a v=some (J++.dict (d7 a v es)::H):=by
 rw[e7 cd (by rw[PV (PS _),Nat.sub_self];rfl) h1 h2 h3,eG rfl]
section
variable{P:Params}{d D D1 D2 D3 D4 m r:Nat}{J s s1:Hp}{k:Str}{c:Int}{v dv:V}{maps ds:List (Str×V)}
theorem DR:cP P (d+2) "Data" "__init__" [.inst "Data" J.length] [] (J++[.dict []]) .none (J++[km (J.length+1) (J.length+2) (J.length+3) (J.length+4)]++[.dict dfl]++[.dict []]++[.dict []]++[.dict []]):=by
 have a0:=Bh (P:=P) (d:=d) (J:=J++[.dict []])
 have a1:cH (a_T P) (J++[.dict []]++[.dict dfl]) (.inst "Data" J.length) "defaults" (.ref (J++[ab.dict []]).length)=some (J++[.dict [("defaults",.ref (J.length+1))]]++[.dict dfl]):=by
  rw[Pw,List.singleton_append,qM (dtC P) (by kernel_rfl) (by kernel_rfl) (by simp),Pw,Px];rfl
 have a2:cH (a_T P) (J++[.dict [("defaults",.ref (J.length+1))]]++[.dict dfl]++[.dict []]) (.inst "Data" J.length) "maps" (.ref (J++[ab.dict [("defaults",.ref (J.length+1))]]++[ab.dict dfl]).length)=some (J++[.dict [("defaults",.ref (J.length+1)),("maps",.ref (J.length+2))]]++[.dict dfl]++[.dict []]):=by
  rw[show(J++[ab.dict [("defaults",.ref (J.length+1))]]++[ab.dict dfl]).length=J.length+2 by simp,Pw,Pw,List.singleton_append,qM (dtC P) (by kernel_rfl) (by kernel_rfl) (by simp),Pw,Pw];rfl
 have a3:cH (a_T P) (J++[.dict [("defaults",.ref (J.length+1)),("maps",.ref (J.length+2))]]++[.dict dfl]++[.dict []]++[.dict []]) (.inst "Data" J.length) "properties" (.ref (J++[ab.dict [("defaults",.ref (J.length+1)),("maps",.ref (J.length+2))]]++[ab.dict dfl]++[ab.dict []]).length)=some (J++[.dict [("defaults",.ref (J.length+1)),("maps",.ref (J.length+2)),("properties",.ref (J.length+3))]]++[.dict dfl]++[.dict []]++[.dict []]):=by
  rw[show(J++[ab.dict [("defaults",.ref (J.length+1)),("maps",.ref (J.length+2))]]++[ab.dict dfl]++[ab.dict []]).length=J.length+3 by simp,Pw,Pw,Pw,List.singleton_append,qM (dtC P) (by kernel_rfl) (by kernel_rfl) (by simp),Pw,Pw,Pw];rfl
 have a4:cH (a_T P) (J++[.dict [("defaults",.ref (J.length+1)),("maps",.ref (J.length+2)),("properties",.ref (J.length+3))]]++[.dict dfl]++[.dict []]++[.dict []]++[.dict []]) (.inst "Data" J.length) "words" (.ref (J++[ab.dict [("defaults",.ref (J.length+1)),("maps",.ref (J.length+2)),("properties",.ref (J.length+3))]]++[ab.dict dfl]++[ab.dict []]++[ab.dict []]).length)=some (J++[km (J.length+1) (J.length+2) (J.length+3) (J.length+4)]++[.dict dfl]++[.dict []]++[.dict []]++[.dict []]):=by
  rw[show(J++[ab.dict [("defaults",.ref (J.length+1)),("maps",.ref (J.length+2)),("properties",.ref (J.length+3))]]++[ab.dict dfl]++[ab.dict []]++[ab.dict []]).length=J.length+4 by simp,Pw,Pw,Pw,Pw,List.singleton_append,qM (dtC P) (by kernel_rfl) (by kernel_rfl) (by simp),Pw,Pw,Pw,Pw];rfl
 exact af (gu P) ([V.inst (Str.ofString "Data") (List.length J)]) (fun z=>(zD a0 (zS a1 (zA (And.intro (rfl:0=0) (by decide:0<=15)) (zS a2 (zA (And.intro (rfl:0=0) (by decide:0<=15)) (zS a3 (zA (And.intro (rfl:0=0) (by decide:0<=15)) (zS a4 (z0 z))).R)).R)).R)).R.R)
theorem xc{x:ab}{f:Int->V}{n:Nat}{a:Str}(hr:J[r]?=some x)(M:fm x f n)(h1:(rmC P).meths.contains a=true)(h2:List.lookup a ([("default",.none),("starts",.none),("values",.none)]:List (Str×V))=none):cg (a_T P) J (.inst "RangeMap" r) a=some (.fn "RangeMap"):=by
 obtain⟨ps,dflt,rfl,_⟩:=M.ex
 refine fT (rmC P) hr (by kernel_rfl) h1 ?_
 simp only[List.lookup]at h2 ⊢
 revert h2
 cases a==Str.ofString "default" <;> cases a==Str.ofString "starts" <;> cases a==Str.ofString "values" <;> intro h2 <;> first | rfl | cases h2
theorem LM(h0:J[D]?=some (km D1 D2 D3 D4))(h1:J[D2]?=some (.dict maps))(hl:maps.lookup k=some (.inst "RangeMap" m))(hm:cg (a_T P) J (.inst "RangeMap" m) "get"=some (.fn "RangeMap"))
 (g:cP P d "RangeMap" "get" [.inst "RangeMap" m,.int c] [] J v J):jz P (d+1) D J k c v:=by
 have k1:cG (a_T P) J (.inst "Data" D) "maps"=some (.ref D2):=aB (dtC P) h0 rfl rfl
 have k2:aM J .In (.str k) (.ref D2)=some true:=by show inI J (.str k) (.ref D2)=_;rw[qG h1,hl];rfl
 have k3:ai J (.ref D2) (.str k)=some (.inst "RangeMap" m):=u7 h1 hl
 exact af (ga P) ([V.inst (Str.ofString "Data") D,V.str k,V.int c]) (fun z=>(zV k1 (zT k2 (zV k1 (zV k3 (zK hm (zD g (z0 z))))).R.R.T)).R)
theorem LO(h0:J[D]?=some (km D1 D2 D3 D4))(h1:J[D2]?=some (.dict maps))(h2:J[D1]?=some (.dict ds))(hl:maps.lookup k=none):jz P (d+1) D J k c ((ds.lookup k).getD .none):=by
 have k1:cG (a_T P) J (.inst "Data" D) "maps"=some (.ref D2):=aB (dtC P) h0 rfl rfl
 have k2:aM J .In (.str k) (.ref D2)=some false:=by show inI J (.str k) (.ref D2)=_;rw[qG h1,hl];rfl
 have k3:cG (a_T P) J (.inst "Data" D) "defaults"=some (.ref D1):=aB (dtC P) h0 rfl rfl
 have k4:=ux (T:=a_T P) h2
 have k5:=BI (k:=k) h2
 exact af (ga P) ([V.inst (Str.ofString "Data") D,V.str k,V.int c]) (fun z=>(zV k1 (zT k2 (zV k3 (zK k4 (zP k5 (z0 z)))).R.R.F)).R)
theorem Jj(h0:J[D]?=some (km D1 D2 D3 D4))(h1:J[D2]?=some (.dict maps))(hl:maps.lookup k=some v):cP P (d+1) "Data" "map_of" [.inst "Data" D,.str k] [] J v J:=by
 have k1:cG (a_T P) J (.inst "Data" D) "maps"=some (.ref D2):=aB (dtC P) h0 rfl rfl
 have k2:aM J .NotIn (.str k) (.ref D2)=some false:=by show(inI _ _ _).map _=_;rw[qG h1,hl];rfl
 have k3:ai J (.ref D2) (.str k)=some v:=u7 h1 hl
 exact af (eF P) ([V.inst (Str.ofString "Data") D,V.str k]) (fun z=>(zV k1 (zT k2 (zV k1 (zV k3 (z0 z))).R.F)).R)
theorem nl:∀ {es:List (Str×V)},es.lookup k=none->d7 k v es=es++[(k,v)]/\(es++[(k,v)]).lookup k=some v
 |[],_=>⟨rfl,by simp[List.lookup]⟩
 |(y,w)::r,h=>by
  rw[PX]at h
  cases e:k==y with
  |true=>rw[e]at h;cases h
  |false =>
   rw[e]at h
   obtain⟨h1,h2⟩:=nl (es:=r) h
   refine⟨?_,?_⟩
   .unfold d7;rw[e];show(y,w)::d7 k v r=_;rw[h1];rfl
   .rw[List.cons_append,PX,e];exact h2
theorem Jk(h0:J[D]?=some (km D1 D2 D3 D4))(h1:J[D2]?=some (.dict maps))(h2:J[D1]?=some (.dict ds))(hl:maps.lookup k=none)(hd:ds.lookup k=some dv)(hn:maps.length<800)(ne:D2≠D):
 cP P (d+2) "Data" "map_of" [.inst "Data" D,.str k] [] J (.inst "RangeMap" J.length) (J.set D2 (.dict (maps++[(k,.inst "RangeMap" J.length)]))++[iZ dv [0] [dv]]):=by
 have k1:cG (a_T P) J (.inst "Data" D) "maps"=some (.ref D2):=aB (dtC P) h0 rfl rfl
 have k2:aM J .NotIn (.str k) (.ref D2)=some true:=by show(inI _ _ _).map _=_;rw[qG h1,hl];rfl
 have k3:cG (a_T P) J (.inst "Data" D) "defaults"=some (.ref D1):=aB (dtC P) h0 rfl rfl
 have k4:=ux (T:=a_T P) h2
 have k5:=BI (k:=k) h2
 rw[hd]at k5
 have k6:=I7 (P:=P) (d:=d) (dflt:=dv) (aW (H:=J) (c:=.dict []))
 rw[eG rfl]at k6
 have k7:cG (a_T P) (J++[iZ dv [0] [dv]]) (.inst "Data" D) "maps"=some (.ref D2):=aB (dtC P) (bD h0) rfl rfl
 have hD2:=(PD.mp h1).1
 have k8:d8 (J++[iZ dv [0] [dv]]) (.ref D2) (.str k) (.inst "RangeMap" J.length)=some (J.set D2 (.dict (maps++[(k,.inst "RangeMap" J.length)]))++[iZ dv [0] [dv]]):=by
  rw[BG (bD h1) (PU ‹_› (by decide)),(nl hl).1,List.set_append_left _ _ hD2]
 have k9:cG (a_T P) (J.set D2 (.dict (maps++[(k,.inst "RangeMap" J.length)]))++[iZ dv [0] [dv]]) (.inst "Data" D) "maps"=some (.ref D2):=aB (dtC P) (bD ((bU ne).trans h0)) rfl rfl
 have k10:ai (J.set D2 (.dict (maps++[(k,.inst "RangeMap" J.length)]))++[iZ dv [0] [dv]]) (.ref D2) (.str k)=some (.inst "RangeMap" J.length):=u7 (bD (db h1)) (nl hl).2
 exact af (eF P) ([V.inst (Str.ofString "Data") D,V.str k]) (fun z=>(zV k1 (zT k2 (zV k3 (zK k4 (zP k5 (zN k6 (zV k7 (zS k8 (zV k9 (zV k10 (z0 z))).R)).R)))).R.R.R.R.T)).R)
theorem F7(hm:cg (a_T P) J (.inst "Data" D) "map_of"=some (.fn "Data"))(h1:cP P d "Data" "map_of" [.inst "Data" D,.str k] [] J (.inst "RangeMap" r) s1)(hp:cg (a_T P) s1 (.inst "RangeMap" r) "put"=some (.fn "RangeMap"))
 (h2:cP P d "RangeMap" "put" [.inst "RangeMap" r,.int c,.int c,v] [] s1 .none s):cP P (d+1) "Data" "put" [.inst "Data" D,.str k,.int c,.int c,v] [] J .none s:=by
 exact af (ij P) ([V.inst (Str.ofString "Data") D,V.str k,V.int c,V.int c,v]) (fun z=>(zK hm (zD h1 (zK hp (zD h2 (z0 z))))).R.R.Q)
end
mutual
theorem sr{n m:Nat}(h:n<=m):∀v:V,fy n v=true->fy m v=true
 |.ref k,e=>PB (PU (PP e) h)
 |.inst _ k,e=>PB (PU (PP e) h)
 |.tup xs,e=>refsL_mono h xs e
 |.lst xs,e=>refsL_mono h xs e
 |.none,_=>rfl
 |.bool _,_=>rfl
 |.int _,_=>rfl
 |.str _,_=>rfl
 |.rng _ _,_=>rfl
 |.fn _ _,_=>rfl
 |.cls _,_=>rfl
 |.bi _,_=>rfl
 |.ty _,_=>rfl
 |.jd _,_=>rfl
theorem refsL_mono{n m:Nat}(h:n<=m):∀l:List V,refsL n l=true->refsL m l=true
 |[],_=>rfl
 |v::l,e=>by
  have e:(fy n v&&refsL n l)=true:=e
  rw[PJ]at e
  show(fy m v&&refsL m l)=true
  rw[sr h v e.1,refsL_mono h l e.2];rfl
end
theorem Bl{n m:Nat}(h:n<=m):∀c:ab,bT n c=true->bT m c=true
 |.list xs,e=>refsL_mono h xs e
 |.dict es,e=>refsL_mono h _ e
 |.tdict es,e=>by
  have e:(refsL n _&&refsL n _)=true:=e
  rw[PJ]at e
  show(refsL m _&&refsL m _)=true
  rw[refsL_mono h _ e.1,refsL_mono h _ e.2];rfl
theorem sw{J:Hp}{n m:Nat}(h:n<=m)(e:J.all (bT n)=true):J.all (bT m)=true:=by
 rw[List.all_eq_true]at e ⊢
 exact fun c hc=>Bl h c (e c hc)
theorem fm.mono{x:ab}{f:Int->V}{n m:Nat}(M:fm x f n)(h:n<=m):fm x f m:=by
 refine nM (M.ex) ?_;rintro ps dflt h1 h2 h3 h4 h5
 exact⟨ps,dflt,h1,h2,h3,h4,by lia⟩
theorem ko{dv:V}(h:fj dv=true):fm (iZ dv [0] [dv]) (fun _=>dv) 0 :=
 ⟨[(0,dv)],dv,rfl,h,fun q hq=>by rw[PH.mp hq];exact h,⟨List.pairwise_singleton _ _,⟨_,rfl,rfl⟩,fun c hc _=>by
  rw[List.filter_cons,if_pos (PB hc)];rfl⟩,PS _⟩
def DT(k:Str):V:=(dfl.lookup k).getD .none
structure d5(J:Hp)(D M:Nat)(f:Str->Int->V)(n:Nat):Prop where
 DM:D+5<=M
 ML:M<=J.length
 c0:J[D]?=some (km (D+1) (D+2) (D+3) (D+4))
 c1:J[D+1]?=some (.dict dfl)
 ml:∃maps:List (Str×V),J[D+2]?=some (.dict maps)/\maps.length<=n /\
  (∀k r,maps.lookup k=some r->∃m x,r=.inst "RangeMap" m/\M<=m/\J[m]?=some x/\fm x (f k) n) /\
  (∀k,maps.lookup k=none->∀c,f k c=DT k) /\
  (∀k k' m,maps.lookup k=some (.inst "RangeMap" m)->maps.lookup k'=some (.inst "RangeMap" m)->k=k')
theorem d5.keep{J J':Hp}{D M n:Nat}{f:Str->Int->V}(A:d5 J D M f n)(hl:M<=J'.length)(h:∀i,D<=i->(i<D+3\/M<=i)->i<J.length->J'[i]?=J[i]?):d5 J' D M f n:=by
 refine qS (A.ml) ?_;rintro maps m1 m2 m3 m4 m5
 have g:∀ {i:Nat}{c:ab},D<=i->(i<D+3\/M<=i)->J[i]?=some c->J'[i]?=some c:=fun{i c} h1 h2 e=>(h i h1 h2 (PD.mp e).1).trans e
 have:=A.DM
 exact⟨A.DM,hl,g (PS _) (.inl (Nat.lt_add_of_pos_right (by decide))) A.c0,g (Nat.le_succ _) (.inl (Nat.add_lt_add_left (by decide) _)) A.c1,maps,g (Nat.le_add_right _ _) (.inl (Nat.add_lt_add_left (by decide) _)) m1,m2,fun k r hk=>by
  refine eX (m3 k r hk) ?_;rintro m x h1 h2 h3 h4
  exact⟨m,x,h1,h2,g (by lia) (.inr h2) h3,h4⟩,m4,m5⟩
theorem d5.more{J H:Hp}{D M n:Nat}{f:Str->Int->V}(A:d5 J D M f n):d5 (J++H) D M f n :=
 A.keep (by rw[Px];have:=A.ML;exact Nat.le_add_right_of_le ‹_›) fun i _ _ hi=>PN hi
noncomputable def upd(f:Str->Int->V)(k:Str)(c:Int)(v:V):Str->Int->V:=fun k' x=>if k'=k then(if c<=x/\x<=c then v else f k x)else f k' x
section
variable{P:Params}{d D M n:Nat}{J:Hp}{f:Str->Int->V}{k:Str}{c:Int}{v dv:V}
theorem d5.dat(A:d5 J D M f n):∃es,J[D]?=some (.dict es)/\List.lookup ("get":Str) es=none:=⟨_,A.c0,by kernel_rfl⟩
theorem F8(A:d5 J D M f n)(hn:n<=40)(h0:0<=c)(h1:c<1114111):jz P (d+3) D J k c (f k c):=by
 refine qS (A.ml) ?_;rintro maps m1 m2 m3 m4 m5
 cases hl:maps.lookup k with
 |none =>
  rw[m4 k hl c]
  exact LO A.c0 m1 A.c1 hl
 |some r =>
  refine eX (m3 k r hl) ?_;rintro m x rfl h2 h3 h4
  exact LM A.c0 m1 hl (xc h3 h4 (by kernel_rfl) (by kernel_rfl)) (LL h3 h4 hn h0 h1)
theorem OV(A:d5 J D M f n)(hn:n<=39)(hd:dfl.lookup k=some dv)(hp:fj dv=true)(h1:1<=c)(hm:c<1114110)(hv:fj v=true)(hcl:J.all (bT J.length)=true):
 ∃J',cP P (d+3) "Data" "put" [.inst "Data" D,.str k,.int c,.int c,v] [] J .none J'/\d5 J' D M (upd f k c v) (n+1)/\J'.all (bT J'.length)=true/\J.length<=J'.length/\(∀i,i<M->i≠D+2->J'[i]?=J[i]?):=by
 refine qS (A.ml) ?_;rintro maps m1 m2 m3 m4 m5
 have DM:=A.DM
 have ML:=A.ML
 have mm:cg (a_T P) J (.inst "Data" D) "map_of"=some (.fn "Data"):=fT (dtC P) A.c0 (by kernel_rfl) (by kernel_rfl) (by kernel_rfl)
 have up:∀k',k'≠k->upd f k c v k'=f k':=fun k' h=>by funext x;unfold upd;rw[if_neg h]
 have up1:upd f k c v k=fun x=>if c<=x/\x<=c then v else f k x:=by funext x;unfold upd;rw[if_pos rfl]
 cases hl:maps.lookup k with
 |some r =>
  refine eX (m3 k r hl) ?_;rintro m x rfl h2 h3 h4
  refine ae (F3 (P:=P) (d:=d) h3 h4 (Py ‹_› (by decide)) h1 hm hv hcl) ?_;rintro y hy pc
  have g:∀i,i≠m->(J.set m y)[i]?=J[i]?:=fun i h=>bU (Ne.symm h)
  refine⟨J.set m y,F7 mm (Jj A.c0 m1 hl) (xc h3 h4 (by kernel_rfl) (by kernel_rfl)) pc,⟨DM,by rw[List.length_set];exact ML,(g _ (by lia)).trans A.c0,(g _ (by lia)).trans A.c1,maps,(g _ (by lia)).trans m1,Nat.le_add_right_of_le ‹_›,fun k' r' hk'=>?_,fun k' hk' c'=>?_,m5⟩,?_,by rw[List.length_set];exact PS _,fun i hi _=>g i (Nat.ne_of_lt (PU ‹_› ‹_›))⟩
  . refine eX (m3 k' r' hk') ?_;rintro m' x' rfl q2 q3 q4
    by_cases e:k'=k
    . subst e
      rw[hl]at hk';cases hk'
      exact⟨m,y,rfl,h2,db h3,by rw[up1];exact hy⟩
    . refine⟨m',x',rfl,q2,(g _ fun e'=>e ?_).trans q3,by rw[up k' e];exact q4.mono (Nat.le_succ _)⟩
      subst e';exact m5 _ _ _ hk' hl
  . rw[up k' (fun e=>by subst e;rw[hl]at hk';cases hk')]
    exact m4 k' hk' c'
  .rw[List.length_set];exact i7 hcl hy.refs
 |none =>
  have hlt:D+2<J.length:=(PD.mp m1).1
  have mo:=Jk (P:=P) (d:=d) A.c0 m1 A.c1 hl hd (PK (Py ‹_› ‹_›) (by decide)) (by lia)
  generalize hs1:J.set (D+2) (.dict (maps++[(k,.inst "RangeMap" J.length)]))++[iZ dv [0] [dv]]=s1 at mo
  have len:s1.length=J.length+1:=by rw[<- hs1];simp
  have e0:s1[J.length]?=some (iZ dv [0] [dv]):=by
   rw[<- hs1]
   have:=aW (H:=J.set (D+2) (.dict (maps++[(k,.inst "RangeMap" J.length)]))) (c:=iZ dv [0] [dv])
   rw[List.length_set]at this;exact this
  have e2:s1[D+2]?=some (.dict (maps++[(k,.inst "RangeMap" J.length)])):=by rw[<- hs1];exact bD (db m1)
  have g:∀i,i≠D+2->i<J.length->s1[i]?=J[i]?:=fun i h hi=>by
   rw[<- hs1,PN (by rw[List.length_set];exact hi)];exact bU (Ne.symm h)
  have cl1:s1.all (bT s1.length)=true:=by
   rw[len,<- hs1,List.all_append]
   have c1:=sw (m:=J.length+1) (Nat.le_succ _) hcl
   have cm:bT (J.length+1) (.dict (maps++[(k,V.inst "RangeMap" J.length)]))=true:=by
    show refsL _ ((maps++[(k,V.inst "RangeMap" J.length)]).map (·.2))=true
    refine gn fun w hw=>?_
    rw[PW]at hw
    rcases PY.mp hw with hw | hw
    . have:=List.all_eq_true.mp hcl _ (List.mem_of_getElem? m1)
      have:refsL J.length (maps.map (·.2))=true:=this
      clear hl mo m3 m4 m5
      have key:∀ {l:List V},refsL J.length l=true->w∈l->fy J.length w=true:=fun{l}=>by
       induction l with
       |nil=>intro _ h;exact nomatch h
       |cons a l ih =>
        intro h hm
        have h:(fy _ a&&refsL _ l)=true:=h
        rw[PJ]at h
        rcases PZ.mp hm with rfl | hm
        .exact h.1
        .exact ih h.2 hm
      exact sr (Nat.le_succ _) w (key this hw)
    .rw[PH.mp hw];exact PB (Nat.lt_succ_self _)
   rw[i7 c1 cm]
   show(bT _ (iZ dv [0] [dv])&&true)=true
   rw[(ko hp).refs];rfl
  refine ae (F3 (P:=P) (d:=d) e0 (ko hp) (by decide) h1 hm hv cl1) ?_;rintro y hy pc
  have g2:∀i,i≠J.length->(s1.set J.length y)[i]?=s1[i]?:=fun i h=>bU (Ne.symm h)
  refine⟨s1.set J.length y,F7 mm mo (xc e0 (ko hp) (by kernel_rfl) (by kernel_rfl)) pc,⟨DM,by rw[List.length_set];lia,(g2 _ (by lia)).trans ((g _ (by lia) (PK (Nat.le_add_right _ _) ‹_›)).trans A.c0),(g2 _ (by lia)).trans ((g _ (by lia) (Qa ‹_›)).trans A.c1),maps++[(k,.inst "RangeMap" J.length)],(g2 _ (by lia)).trans e2,by rw[Px];simp;omega,?_,?_,?_⟩,?_,by rw[List.length_set];lia,fun i hi hne=>(g2 i (Nat.ne_of_lt (PU ‹_› ‹_›))).trans (g i hne (PU ‹_› ‹_›))⟩
  . have look:∀k',k'≠k->(maps++[(k,V.inst "RangeMap" J.length)]).lookup k'=maps.lookup k':=fun k' h=>by
     rw[List.lookup_append]
     have:List.lookup k' [(k,V.inst "RangeMap" J.length)]=none:=by rw[PX,PC.mpr h];rfl
     rw[this,Option.or_none]
    intro k' r' hk'
    by_cases e:k'=k
    . subst e
      rw[(nl (v:=.inst "RangeMap" J.length) hl).2]at hk';cases hk'
      refine⟨J.length,y,rfl,ML,db e0,?_⟩
      rw[up1]
      have:f k'=fun _=>dv:=by funext x;rw[m4 k' hl x];unfold DT;rw[hd];rfl
      rw[this];exact hy.mono (Nat.le_add_left _ _)
    . rw[look k' e]at hk'
      refine eX (m3 k' r' hk') ?_;rintro m' x' rfl q2 q3 q4
      have hm':=(PD.mp q3).1
      exact⟨m',x',rfl,q2,(g2 _ (by lia)).trans ((g _ (by lia) hm').trans q3),by rw[up k' e];exact q4.mono (Nat.le_succ _)⟩
  . intro k' hk' c'
    rw[List.lookup_append]at hk'
    have e:k'≠k:=fun e=>by
     subst e
     rw[hl,Option.none_or,PX,P2]at hk';cases hk'
    rw[up k' e]
    refine m4 k' ?_ c'
    cases q:maps.lookup k' with
    |none=>rfl
    |some w=>rw[q]at hk';cases hk'
  . have own:∀k' m',(maps++[(k,V.inst "RangeMap" J.length)]).lookup k'=some (.inst "RangeMap" m')->(k'=k/\m'=J.length)\/(maps.lookup k'=some (.inst "RangeMap" m')/\m'<J.length):=fun k' m' h=>by
     rw[List.lookup_append]at h
     cases q:maps.lookup k' with
     |some w =>
      rw[q]at h
      cases h
      refine eX (m3 k' _ q) ?_;rintro m2 x2 e2 _ q3 _
      cases e2
      exact .inr ⟨rfl,(PD.mp q3).1⟩
     |none =>
      rw[q,Option.none_or,PX]at h
      cases e:k'==k with
      |true=>rw[e]at h;cases h;exact .inl ⟨P4.mp e,rfl⟩
      |false=>rw[e]at h;cases h
    intro k1 k2 m' a1 a2
    rcases own _ _ a1 with⟨b1,b2⟩ | ⟨b1,b2⟩ <;> rcases own _ _ a2 with⟨c1,c2⟩ | ⟨c1,c2⟩
    .rw[b1,c1]
    .exact absurd ‹_› (Nat.ne_of_lt ‹_›)
    .exact absurd ‹_› (Nat.ne_of_lt ‹_›)
    .exact m5 _ _ _ b1 c1
  .rw[List.length_set];exact i7 cl1 hy.refs
end
section
variable{P:Params}{d:Nat}{J:Hp}
theorem F9{c:Int}(h1:44032<=c)(h2:c<=55203){b:Bool}(hb:((c-44032).fmod 28==0)=b):cP P (d+1) "" "line_hangul" [.int c] [] J (.str (cond b "H2" "H3")) J:=by
 have d1:decide (44032<=c)=true:=PB h1
 have d2:decide (c<=55203)=true:=PB h2
 cases b
 .exact af (bV P) ([V.int c]) (fun z=>(zH d1 (zH d2 (zH hb (z0 z)).C.C.C).C).C)
 .exact af (bV P) ([V.int c]) (fun z=>(zH d1 (zH d2 (zH hb (z0 z)).C.C.C).C).C)
end
noncomputable def inZ(c:Int):List Int->Bool
 |[]=>false
 |y::ys=>(y==c)||inZ c ys
noncomputable abbrev Cb:List Int:=[12293,12347,12445,12446,12541,12542]
noncomputable def btw(a b c:Int):Bool:=decide (a<=c)&&decide (c<=b)
noncomputable def sx(c:Int):List (Int×Int×Str)->Option Str
 |[]=>none
 |(a,b,w)::r=>cond (btw a b c) (some w) (sx c r)
noncomputable def sD(l:List (Int×Int×Str)):List V:=l.map fun q=>.tup [.int q.1,.int q.2.1,.str q.2.2]
noncomputable abbrev y6:List (Int×Int×Str):=[(4352,4447,"JL"),(4448,4519,"JV"),(4520,4607,"JT"),(43360,43388,"JL"),(55216,55238,"JV"),(55243,55291,"JT")]
theorem Jl{asg:V->Loc->Hp->An->KL->Prop}{body:Loc->Hp->An->KF->Prop}{tg:Expr}{J:Hp}{c:Int}{R:List (Int×Int×Str)}{l0:Loc}(LocOk:Loc->Prop)(h0:LocOk l0)(ht:pM tg (.seq (.tup (sD R)))=true)
 (s1:∀l a b w,LocOk l->btw a b c=true->∃l',gf asg body (.tup [.int a,.int b,.str w]) l J (.ret (.str w)) l' J)
 (s2:∀l a b w,LocOk l->btw a b c=false->∃l',LocOk l'/\gf asg body (.tup [.int a,.int b,.str w]) l J .next l' J) :
 (sx c R=none/\∃l',LocOk l'/\ge asg body tg (.seq (.tup (sD R))) l0 J .next l' J)\/∃w l',sx c R=some w/\ge asg body tg (.seq (.tup (sD R))) l0 J (.ret (.str w)) l' J:=by
 have hN:∀s,bX s (.seq (.tup (sD R)))=some R.length:=fun s=>by show some (sD R).length=_;unfold sD;rw[PA]
 refine Or.elim (BH (asg:=asg) (body:=body) (tg:=tg) (N:=R.length) (it:=.seq (.tup (sD R))) (loc:=l0) (J:=J) (fun i l s=>LocOk l/\s=J/\sx c R=sx c (R.drop i)) (fun v l s=>s=J/\∃w,sx c R=some w/\v=.str w) (fun i l s hi I=>?_) (fun l s I=>hN _) (hN _) ht ⟨h0,rfl,rfl⟩) ?_ ?_
 . refine eW (I) ?_;rintro hl rfl hd
   have e:R.drop i=R[i]::R.drop (i+1):=List.drop_eq_getElem_cons hi
   obtain⟨a,b,w,he⟩:∃a b w,R[i]=(a,b,w):=⟨_,_,_,rfl⟩
   rw[e,he]at hd
   have hd:sx c R=cond (btw a b c) (some w) (sx c (R.drop (i+1))):=hd
   have hg:iC s i (.seq (.tup (sD R)))=some (.tup [.int a,.int b,.str w]):=by
    show(some (sD R)).bind (·[i]?)=_
    rw[Option.bind_some];unfold sD;rw[PQ,PF hi,he];rfl
   cases q:btw a b c with
   |true =>
    obtain⟨l',h1⟩:=s1 l a b w hl q
    rw[q]at hd
    exact⟨hN _,_,_,_,_,hg,h1,.inr ⟨_,rfl,rfl,w,hd,rfl⟩⟩
   |false =>
    refine ae (s2 l a b w hl q) ?_;rintro l' h1 h2
    rw[q]at hd
    exact⟨hN _,_,_,_,_,hg,h2,.inl ⟨.inl rfl,h1,rfl,hd⟩⟩
 . rintro⟨l,s,⟨h1,rfl,h2⟩,h⟩
   rw[List.drop_length]at h2
   exact .inl ⟨h2,l,h1,h⟩
 . rintro⟨v,l,s,⟨rfl,w,h1,rfl⟩,h⟩
   exact .inr ⟨w,l,h1,h⟩
section
variable{P:Params}{d D h:Nat}{J:Hp}{c a b:Int}{w wd g st hw:Str}{o1 o2 o3:Option V}{l:Loc}
abbrev hgS(P:Params):Stmt:=fQ 1 (bV P).body
noncomputable abbrev hgL(c:Int)(o1 o2 o3:Option V):Loc:=[("code",.v (some (.int c))),("first",.v o1),("last",.v o2),("word",.v o3),("LINE_FIRST_SYLLABLE",.g),("LINE_LAST_SYLLABLE",.g),("LINE_TAILS",.g),("LINE_JAMO_RANGES",.g)]
noncomputable abbrev Ga(P:Params)(d:Nat)(S:Stmt)(x:V)(loc:Loc)(J:Hp)(f:Fl)(l:Loc)(s:Hp):Prop:=gf (bt P d (bQ S)) (aH P d (cz S)) x loc J f l s
noncomputable abbrev Gb(P:Params)(d:Nat)(S:Stmt)(R:List (Int×Int×Str))(loc:Loc)(J:Hp)(f:Fl)(l:Loc):Prop:=ge (bt P d (bQ S)) (aH P d (cz S)) (bQ S) (.seq (.tup (sD R))) loc J f l J
theorem OW(q:btw a b c=true):Ga P d (hgS P) (.tup [.int a,.int b,.str w]) (hgL c o1 o2 o3) J (.ret (.str w)) (hgL c (some (.int a)) (some (.int b)) (some (.str w))) J:=by
 intro k hk
 unfold btw at q
 exact bd (zC (zO (zC (zW J (zH q (z0 hk))))))
theorem OX(q:btw a b c=false):Ga P d (hgS P) (.tup [.int a,.int b,.str w]) (hgL c o1 o2 o3) J .next (hgL c (some (.int a)) (some (.int b)) (some (.str w))) J:=by
 intro k hk
 unfold btw at q
 exact bd (zC (zO (zC (zW J (zH q (z0 hk))))))
theorem LP(q:btw 44032 55203 c=false)(L:Gb P d (hgS P) y6 (hgL c none none none) J (.ret (.str w)) l):cP P (d+1) "" "line_hangul" [.int c] [] J (.str w) J:=by
 unfold btw at q
 exact af (bV P) ([V.int c]) (fun z=>(zW J (zH q (zL L (z0 z)).C)).C.O.C)
theorem LQ(q:btw 44032 55203 c=false)(L:Gb P d (hgS P) y6 (hgL c none none none) J .next (hgL c o1 o2 o3)):cP P (d+1) "" "line_hangul" [.int c] [] J (.str "AL") J:=by
 unfold btw at q
 exact af (bV P) ([V.int c]) (fun z=>(zW J (zH q (zL L (z0 z)).C)).C.O.C)
def qd(c:Int):Str:=cond (btw 44032 55203 c) (cond ((c-44032).fmod 28==0) "H2" "H3") ((sx c y6).getD "AL")
theorem y7{a b c:Int}(h:btw a b c=true):a<=c/\c<=b:=by
 unfold btw at h
 rw[PJ,decide_eq_true_eq,decide_eq_true_eq]at h;exact h
theorem LR:cP P (d+1) "" "line_hangul" [.int c] [] J (.str (qd c)) J:=by
 unfold qd
 cases q:btw 44032 55203 c with
 |true=>exact F9 (y7 q).1 (y7 q).2 rfl
 |false =>
  rcases Jl (J:=J) (c:=c) (R:=y6) (l0:=hgL c none none none) (tg:=bQ (hgS P)) (asg:=bt P d (bQ (hgS P))) (body:=aH P d (cz (hgS P))) (fun l=>∃o1 o2 o3,l=hgL c o1 o2 o3) ⟨_,_,_,rfl⟩ rfl
   (fun l a b w ⟨o1,o2,o3,e⟩ q=>by subst e;exact⟨_,OW q⟩) (fun l a b w ⟨o1,o2,o3,e⟩ q=>by subst e;exact⟨_,⟨_,_,_,rfl⟩,OX q⟩)with⟨h1,l',⟨o1,o2,o3,rfl⟩,h2⟩ | ⟨w,l',h1,h2⟩
  .rw[h1];exact LQ q h2
  .rw[h1];exact LP q h2
def fL(w g st hw:Str)(c:Int):Str:=cond (inS w ["AI","SG","XX"]) (cond (w=="XX") hw "AL") (cond (w=="SA") (cond (inS g ["Mn","Mc"]) "CM" "AL") (cond (w=="CJ") (cond (st=="strict") "NS" "ID") (cond ((w=="NS")&&((st=="loose")&&inZ c Cb)) "ID" w)))
theorem Jm(hm:cg (a_T P) J (.inst "Data" D) "get"=some (.fn "Data"))(L:jz P d D J "lb" c (.str wd))(G:jz P d D J "gc" c (.str g))(S:cG (a_T P) J (.inst "LineHow" h) "strictness"=some (.str st))
 (ρ:cP P d "" "line_hangul" [.int c] [] J (.str hw) J):wX P (d+1) D h J c (fL wd g st hw c):=by
 exact af (gt P) ([V.int c,V.inst (Str.ofString "Data") D,V.inst (Str.ofString "LineHow") h]) (fun z=>(zK hm (zD L (zM (fun p20=>(zM (fun p119=>(zD ρ (z0 (zE J ((PI V.str (xT p20 (xT p119 rfl))):(V.str (fL wd g st hw c))=_)))).R) (fun p119=>z0 (zE J ((PI V.str (xT p20 (xF p119 rfl))):(V.str (fL wd g st hw c))=_)))).C) (fun p20=>(zM (fun p119=>(zK hm (zD G (zM (fun p168=>z0 (zE J ((PI V.str (xF p20 (xT p119 (xT p168 rfl)))):(V.str (fL wd g st hw c))=_))) (fun p168=>z0 (zE J ((PI V.str (xF p20 (xT p119 (xF p168 rfl)))):(V.str (fL wd g st hw c))=_)))).C.R)).R) (fun p119=>(zM (fun p151=>(zV S (zM (fun p191=>z0 (zE J ((PI V.str (xF p20 (xF p119 (xT p151 (xT p191 rfl))))):(V.str (fL wd g st hw c))=_))) (fun p191=>z0 (zE J ((PI V.str (xF p20 (xF p119 (xT p151 (xF p191 rfl))))):(V.str (fL wd g st hw c))=_)))).C).R) (fun p151=>(zV S (zW J (zW J (zM (fun p237=>z0 (zE J ((PI V.str (xF p20 (xF p119 (xF p151 (xT p237 rfl))))):(V.str (fL wd g st hw c))=_))) (fun p237=>z0 (zE J ((PI V.str (xF p20 (xF p119 (xF p151 (xF p237 rfl))))):(V.str (fL wd g st hw c))=_)))))).C.O.C).R.O.C)).C)).C)).C)).R.R)
end
noncomputable def cU(f:Nat->Bool):Nat->Nat
 |0=>0
 |n+1=>cond (f (n+1)) (cU f n) (n+1)
noncomputable def qe(f:Nat->Bool):Nat->Int
 |0 => -1
 |n+1=>cond (f n) (qe f n) n
theorem Cc{wt:Loc->Hp->An->KQ->Prop}{body:Loc->Hp->An->KF->Prop}{L:Int->Loc}{J:Hp}(f:Nat->Bool){N:Nat}(s1:∀n:Nat,n+1<=N->f (n+1)=true->ld wt body (L ((n+1:Nat):Int)) J true .next (L (((n+1:Nat):Int)-1)) J)
 (s2:∀n:Nat,n+1<=N->f (n+1)=false->ld wt body (L ((n+1:Nat):Int)) J false .next (L ((n+1:Nat):Int)) J) (s0:ld wt body (L 0) J false .next (L 0) J) (hn:N<200):gr wt body (L N) J .next (L (cU f N)) J:=by
 refine PG (mx (wt:=wt) (body:=body) (fun k l s=>s=J/\l=L k/\k<=N/\cU f k=cU f N) (fun l s=>s=J/\l=L (cU f N)) ?_ N (L N) J qP hn ⟨rfl,rfl,PS _,rfl⟩) fun l hh=>?_
 . rintro k l s ⟨rfl,rfl,hk,e⟩
   cases k with
   |zero=>exact⟨false,.next,_,_,s0,.inl ⟨rfl,rfl,rfl,by rw[<- e];rfl⟩⟩
   |succ k =>
    cases q:f (k+1)with
    |true =>
     have e:cond (f (k+1)) (cU f k) (k+1)=cU f N:=e
     rw[q]at e
     exact⟨true,.next,_,_,s1 k hk q,.inr ⟨rfl,.inl rfl,k,Nat.lt_succ_self k,rfl,by rw[show((k+1:Nat):Int)-1=k by lia],Nat.le_of_succ_le ‹_›,e⟩⟩
    |false =>
     have e:cond (f (k+1)) (cU f k) (k+1)=cU f N:=e
     rw[q]at e
     exact⟨false,.next,_,_,s2 k hk q,.inl ⟨rfl,rfl,rfl,by rw[<- e];rfl⟩⟩
 . obtain⟨s,⟨rfl,rfl⟩,h⟩:=hh
   exact h
theorem Gc{wt:Loc->Hp->An->KQ->Prop}{body:Loc->Hp->An->KF->Prop}{L:Int->Loc}{J:Hp}(f:Nat->Bool){N:Nat}(s1:∀n:Nat,n<N->f n=true->ld wt body (L (n:Int)) J true .next (L ((n:Int)-1)) J)
 (s2:∀n:Nat,n<N->f n=false->ld wt body (L (n:Int)) J false .next (L (n:Int)) J) (s0:ld wt body (L (-1)) J false .next (L (-1)) J) (hn:N<200):gr wt body (L ((N:Int)-1)) J .next (L (qe f N)) J:=by
 refine PG (mx (wt:=wt) (body:=body) (fun k l s=>s=J/\l=L ((k:Int)-1)/\k<=N/\qe f k=qe f N) (fun l s=>s=J/\l=L (qe f N)) ?_ N (L ((N:Int)-1)) J qP hn ⟨rfl,rfl,PS _,rfl⟩) fun l hh=>?_
 . rintro k l s ⟨rfl,rfl,hk',e⟩
   cases k with
   |zero=>exact⟨false,.next,_,_,s0,.inl ⟨rfl,rfl,rfl,by rw[<- e];rfl⟩⟩
   |succ k =>
    have hk:((k+1:Nat):Int)-1=k:=by lia
    rw[hk]
    have e:cond (f k) (qe f k) k=qe f N:=e
    cases q:f k with
    |true =>
     rw[q]at e
     exact⟨true,.next,_,_,s1 k hk' q,.inr ⟨rfl,.inl rfl,k,Nat.lt_succ_self k,rfl,rfl,Nat.le_of_lt hk',e⟩⟩
    |false =>
     rw[q]at e
     exact⟨false,.next,_,_,s2 k hk' q,.inl ⟨rfl,rfl,rfl,by rw[<- e];rfl⟩⟩
 . obtain⟨s,⟨rfl,rfl⟩,h⟩:=hh
   exact h
section
variable{P:Params}{d:Nat}{J:Hp}{n g e st w x:Str}{p dc j:Bool}{cv:V}{k at':Int}{ns:List V}
def iu(n g st:Str)(dc:Bool):Str:=cond (n=="SA") (cond (inS g ["Mn","Mc"]) "CM" "AL") (cond (n=="CJ") (cond (st=="strict") "NS" "ID") (cond ((n=="NS")&&(dc&&(st=="loose"))) "ID" (cond (inS n ["AI","SG","XX"]) "AL" n)))
noncomputable abbrev bA(n g e:Str)(p:Bool)(cv:V):V:=.tup [.str n,.str g,.str e,.bool p,cv]
noncomputable abbrev bG(n:Str)(s:V)(k:Int)(j:Bool):V:=.lst [.str n,s,.int k,.bool j]
theorem Jn(hc:aM J .Eq cv (.int 12293)=some dc):cP P (d+1) "" "_law_class" [bA n g e p cv,.str st] [] J (.str (iu n g st dc)) J:=by
 exact af (gO P) ([bA n g e p cv,V.str st]) (fun z=>(zM (fun p9=>(zM (fun p46=>z0 (zE J ((PI V.str (xT p9 (xT p46 rfl))):(V.str (iu n g st dc))=_))) (fun p46=>z0 (zE J ((PI V.str (xT p9 (xF p46 rfl))):(V.str (iu n g st dc))=_)))).C.R.C) (fun p9=>(zM (fun p40=>(zM (fun p71=>z0 (zE J ((PI V.str (xF p9 (xT p40 (xT p71 rfl)))):(V.str (iu n g st dc))=_))) (fun p71=>z0 (zE J ((PI V.str (xF p9 (xT p40 (xF p71 rfl)))):(V.str (iu n g st dc))=_)))).C) (fun p40=>(zT hc (zW J (zW J (zM (fun p123=>z0 (zE J ((PI V.str (xF p9 (xF p40 (xT p123 rfl)))):(V.str (iu n g st dc))=_))) (fun p123=>(zM (fun p223=>z0 (zE J ((PI V.str (xF p9 (xF p40 (xF p123 (xT p223 rfl))))):(V.str (iu n g st dc))=_))) (fun p223=>z0 (zE J ((PI V.str (xF p9 (xF p40 (xF p123 (xF p223 rfl))))):(V.str (iu n g st dc))=_)))).C.R)))).C.O).C.O.C)).C)).C.C.R)
theorem Nv(hc:aM J .Eq cv (.int 9676)=some dc):cP P (d+1) "" "_law_is_aksara" [bG w (bA n g e p cv) k j] [] J (.bool (inS w ["AK","AS"]||dc)) J:=by
 exact af (ft P) ([bG w (bA n g e p cv) k j]) (fun z=>(zT hc (zW J (z0 z))).C.C.O.C.R.C)
abbrev fgS(P:Params):Stmt:=fQ 0 (cM P).body
noncomputable abbrev fgL(ns:List V)(a:Int):Loc:=[("names",.v (some (.lst ns))),("at",.v (some (.int a)))]
noncomputable abbrev Bm(P:Params)(d:Nat)(loc:Loc)(J:Hp)(c:Bool)(f:Fl)(l:Loc)(s:Hp):Prop:=ld (dO P d (mv (fgS P))) (aH P d (cz (fgS P))) loc J c f l s
theorem OY(q:decide (0<at')=true)(h:ai J (.lst ns) (.int at')=some (.str x))(hx:inS x ["SY","IS"]=true):Bm P d (fgL ns at') J true .next (fgL ns (at'-1)) J:=by
 intro k hk
 exact bd (zC (zH q (zV h (zR (zC (zH hx (zR (zC (z0 hk))))))))) (by kernel_rfl)
theorem OZ(q:decide (0<at')=true)(h:ai J (.lst ns) (.int at')=some (.str x))(hx:inS x ["SY","IS"]=false):Bm P d (fgL ns at') J false .next (fgL ns at') J:=by
 intro k hk
 exact bd (zC (zH q (zV h (zR (zC (zH hx (z0 hk))))))) (by kernel_rfl)
theorem Nw(q:decide (0<at')=false):Bm P d (fgL ns at') J false .next (fgL ns at') J:=by
 intro k hk
 exact bd (zC (zH q (zH q (z0 hk)))) (by kernel_rfl)
end
theorem Jo{xs:List V}{x y:V}{J:Hp}:d8 (J++[.list (xs++[x])]) (.ref J.length) (.int (-1)) y=some (J++[.list (xs++[y])]):=by
 have hs:aR (-1)=true:=by decide
 have:seqIndex? (-1) (xs++[x]).length=some xs.length:=by
  unfold seqIndex?
  rw[Px]
  simp
  lia
 rw[yU aW,hs,this]
 show some ((J++[ab.list (xs++[x])]).set J.length (.list ((xs++[x]).set xs.length y)))=_
 rw[eG rfl,List.set_append_right _ _ (PS _),Nat.sub_self];rfl
theorem Cd{xs:List V}{x:V}{J:Hp}:ai (J++[.list (xs++[x])]) (.ref J.length) (.int (-1))=some x:=by
 rw[mq (eY aW)];exact uJ
theorem kN{xs:List V}{x:V}{J:Hp}(hl:bp xs=true):aS (J++[.list xs]) "list.append" (.ref J.length) [x]=some (.none,J++[.list (xs++[x])]):=by
 rw[dX aW hl,eG rfl]
section
variable{P:Params}{d:Nat}{J:Hp}{nm st w:Str}{j:Bool}{s:V}{m:Int}{us:List V}{sv ss:V}{o1 o2:Option V}
abbrev luS(P:Params):Stmt:=fQ 1 (fG P).body
noncomputable abbrev luL(sv:V)(st:Str)(F:Nat)(o1 o2:Option V):Loc:=[("sorts",.v (some sv)),("strictness",.v (some (.str st))),("found",.v (some (.ref F))),("sort",.v o1),("name",.v o2),("_law_class",.g)]
noncomputable abbrev i8(P:Params)(d:Nat)(x:V)(loc:Loc)(J:Hp)(f:Fl)(l:Loc)(s:Hp):Prop:=gf (bt P d (bQ (luS P))) (aH P d (cz (luS P))) x loc J f l s
noncomputable abbrev ClF(P:Params)(d:Nat)(J:Hp)(s:V)(st nm:Str):Prop:=cP P d "" "_law_class" [s,.str st] [] J (.str nm) J
theorem O5(hl:us.length<=100)(C:ClF P d (J++[.list (us++[bG w s m j])]) sv st nm)(q1:inS nm ["CM","ZWJ"]=true)(q2:inS w ["BK","CR","LF","NL","SP","ZW"]=false):
 i8 P d sv (luL ss st J.length o1 o2) (J++[.list (us++[bG w s m j])]) .next (luL ss st J.length (some sv) (some (.str nm))) (J++[.list (us++[bG w s (m+1) (nm=="ZWJ")])]):=by
 intro k hk
 have n1:aM (J++[.list (us++[bG w s m j])]) .NotEq (.ref J.length) (.lst [])=some true:=by rw[qV aW,Px];rfl
 have i1:=Cd (xs:=us) (x:=bG w s m j) (J:=J)
 have t1:=Jo (xs:=us) (x:=bG w s m j) (y:=bG w s (m+1) (nm=="ZWJ")) (J:=J)
 unfold ClF at C
 exact bd (zR (zR (zD C (zR (zC (zH q1 (zR (zT n1 (z1 (zC (zV i1 (zC (zR (zC (zH (nF q2) (zR (zC (zV i1 (zC (zC (zV i1 (zC (zC (zV i1 (zC (zC (zC (zR (zC (zS t1 (z0 hk))))))))))))))))))))))))))))))) (by kernel_rfl)
theorem Nx(hl:us.length<=100)(C:ClF P d (J++[.list us]) sv st nm)(q1:inS nm ["CM","ZWJ"]=false):
 i8 P d sv (luL ss st J.length o1 o2) (J++[.list us]) .next (luL ss st J.length (some sv) (some (.str nm))) (J++[.list (us++[bG nm sv 1 (nm=="ZWJ")])]):=by
 intro k hk
 have k1:=aZ (T:=a_T P) (aW (H:=J) (c:=.list us))
 have k2:=kN (xs:=us) (x:=bG nm sv 1 (nm=="ZWJ")) (J:=J) (ar (Py ‹_› (by decide)))
 unfold ClF at C
 exact bd (zR (zR (zD C (zR (zC (zH q1 (zH q1 (zQ (zR (zK k1 (zR (zC (zH q1 (zC (zR (zP k2 (z0 hk))))))))))))))))) (by kernel_rfl)
theorem O6(C:ClF P d (J++[.list []]) sv st nm)(q1:inS nm ["CM","ZWJ"]=true):
 i8 P d sv (luL ss st J.length o1 o2) (J++[.list []]) .next (luL ss st J.length (some sv) (some (.str nm))) (J++[.list [bG "AL" sv 1 (nm=="ZWJ")]]):=by
 intro k hk
 have k1:=aZ (T:=a_T P) (aW (H:=J) (c:=.list []))
 have n1:aM (J++[.list []]) .NotEq (.ref J.length) (.lst [])=some false:=by rw[qV aW];rfl
 have k2:=kN (xs:=[]) (x:=bG "AL" sv 1 (nm=="ZWJ")) (J:=J) (by decide)
 unfold ClF at C
 exact bd (zR (zR (zD C (zR (zC (zH q1 (zR (zT n1 (z2 (z2 (zQ (zR (zK k1 (zR (zC (zH q1 (zC (zR (zP k2 (z0 hk)))))))))))))))))))) (by kernel_rfl)
theorem O7(hl:us.length<=100)(C:ClF P d (J++[.list (us++[bG w s m j])]) sv st nm)(q1:inS nm ["CM","ZWJ"]=true)(q2:inS w ["BK","CR","LF","NL","SP","ZW"]=true):
 i8 P d sv (luL ss st J.length o1 o2) (J++[.list (us++[bG w s m j])]) .next (luL ss st J.length (some sv) (some (.str nm))) (J++[.list (us++[bG w s m j]++[bG "AL" sv 1 (nm=="ZWJ")])]):=by
 intro k hk
 have k1:=aZ (T:=a_T P) (aW (H:=J) (c:=.list (us++[bG w s m j])))
 have n1:aM (J++[.list (us++[bG w s m j])]) .NotEq (.ref J.length) (.lst [])=some true:=by rw[qV aW,Px];rfl
 have i1:=Cd (xs:=us) (x:=bG w s m j) (J:=J)
 have k2:=kN (xs:=us++[bG w s m j]) (x:=bG "AL" sv 1 (nm=="ZWJ")) (J:=J) (ar (by rw[Px];simp;exact Py ‹_› (by decide)))
 unfold ClF at C
 exact bd (zR (zR (zD C (zR (zC (zH q1 (zR (zT n1 (z1 (zC (zV i1 (zC (zR (zC (zH (nT q2) (zQ (zR (zK k1 (zR (zC (zH q1 (zC (zR (zP k2 (z0 hk))))))))))))))))))))))))) (by kernel_rfl)
end
structure aw where
 n:Str
 g:Str
 e:Str
 p:Bool
 c:Option Int
structure UL where
 w:Str
 s:aw
 m:Nat
 j:Bool
noncomputable def cV:Option Int->V
 |none=>.none
 |some i=>.int i
noncomputable def dcO:Option Int->Int->Bool
 |none,_=>false
 |some i,k=>i==k
theorem Gd{J:Hp}{c:Option Int}{k:Int}:aM J .Eq (cV c) (.int k)=some (dcO c k):=by cases c <;> rfl
abbrev av(s:aw):V:=bA s.n s.g s.e s.p (cV s.c)
abbrev uV(u:UL):V:=bG u.w (av u.s) (u.m:Nat) u.j
def aN(st:Str)(s:aw):Str:=iu s.n s.g st (dcO s.c 12293)
def lQ(nm:Str)(s:aw):UL:=⟨cond (dA nm) "AL" nm,s,1,nm=="ZWJ"⟩
def eH(st:Str)(us:List UL)(s:aw):List UL:=match us.getLast? with
 |none=>us++[lQ (aN st s) s]
 |some u=>cond (dA (aN st s) && !fJ u.w) (us.dropLast++[⟨u.w,u.s,u.m+1,aN st s=="ZWJ"⟩]) (us++[lQ (aN st s) s])
def ao(st:Str)(ss:List aw):List UL:=ss.foldl (eH st) []
theorem Ge{st:Str}{us:List UL}{s:aw}:(eH st us s).length<=us.length+1:=by
 unfold eH
 cases h:us.getLast? with
 |none=>simp
 |some u =>
  dsimp only
  cases dA (aN st s) && !fJ u.w with
  |true=>rw[cond_true,Px,List.length_dropLast];simp
  |false=>rw[cond_false,Px];simp
theorem lR{st:Str}:∀(ss:List aw) (us:List UL),(ss.foldl (eH st) us).length<=us.length+ss.length
 |[],us=>PS _
 |s::ss,us=>by
  have:=lR (st:=st) ss (eH st us s)
  have:=Ge (st:=st) (us:=us) (s:=s)
  rw[List.foldl_cons,P8];lia
section
variable{P:Params}{d:Nat}{J:Hp}{st:Str}{ss:List aw}{us:List UL}{s:aw}{sv:V}{o1 o2:Option V}
theorem DU(hl:us.length<=100):i8 P (d+1) (av s) (luL sv st J.length o1 o2) (J++[.list (us.map uV)]) .next (luL sv st J.length (some (av s)) (some (.str (aN st s)))) (J++[.list ((eH st us s).map uV)]):=by
 have C:∀H,ClF P (d+1) H (av s) st (aN st s):=fun H=>Jn Gd
 unfold eH
 rcases List.eq_nil_or_concat us with rfl | ⟨us0,u,rfl⟩
 . show i8 P (d+1) (av s) _ (J++[.list []]) .next _ (J++[.list [uV (lQ (aN st s) s)]])
   unfold lQ
   cases q:dA (aN st s)with
   |true=>exact O6 (C _) q
   |false=>exact Nx (us:=[]) (Nat.zero_le _) (C _) q
 . rw[P1,List.getLast?_concat,List.dropLast_concat]
   have hl0:us0.length<=100:=by rw[P1,Px]at hl;exact Py (Nat.le_add_right _ _) ‹_›
   have hl1:(us0.map uV).length<=100:=by rw[PA];exact hl0
   have hl2:((us0++[u]).map uV).length<=100:=by rw[PA,<- P1];exact hl
   dsimp only
   have e:∀v:UL,(us0++[u]).map uV=us0.map uV++[uV u]:=fun _=>PW
   unfold lQ
   cases q:dA (aN st s)with
   |true =>
    cases q2:fJ u.w with
    |true =>
     show i8 P (d+1) (av s) _ _ .next _ (J++[.list ((us0++[u]++[(⟨"AL",s,1,aN st s=="ZWJ"⟩:UL)]).map uV)])
     rw[PW (l₁:=us0++[u]),PW (l₁:=us0)]
     exact O7 hl1 (C _) q q2
    |false =>
     show i8 P (d+1) (av s) _ _ .next _ (J++[.list ((us0++[(⟨u.w,u.s,u.m+1,aN st s=="ZWJ"⟩:UL)]).map uV)])
     rw[PW,PW]
     exact O5 hl1 (C _) q q2
   |false =>
    show i8 P (d+1) (av s) _ _ .next _ (J++[.list ((us0++[u]++[(⟨aN st s,s,1,aN st s=="ZWJ"⟩:UL)]).map uV)])
    rw[PW (l₁:=us0++[u])]
    exact Nx hl2 (C _) q
noncomputable abbrev Gf(P:Params)(d:Nat)(it:It)(loc:Loc)(J:Hp)(l:Loc)(s:Hp):Prop:=ge (bt P d (bQ (luS P))) (aH P d (cz (luS P))) (bQ (luS P)) it loc J .next l s
theorem Jp(hl:ss.length<=90):∃o1 o2,Gf P (d+1) (.seq (.lst (ss.map av))) (luL (.lst (ss.map av)) st J.length none none) (J++[.list []]) (luL (.lst (ss.map av)) st J.length o1 o2) (J++[.list ((ao st ss).map uV)]):=by
 have hN:∀s,bX s (.seq (.lst (ss.map av)))=some ss.length:=fun s=>by show some (ss.map av).length=_;rw[PA]
 refine PG (eZ (N:=ss.length) (it:=.seq (.lst (ss.map av))) (loc:=luL (.lst (ss.map av)) st J.length none none) (J:=J++[.list []]) (tg:=bQ (luS P)) (asg:=bt P (d+1) (bQ (luS P))) (body:=aH P (d+1) (cz (luS P)))
  (fun i l s=>s=J++[.list (((ss.take i).foldl (eH st) []).map uV)]/\∃o1 o2,l=luL (.lst (ss.map av)) st J.length o1 o2) (fun i l s hi I=>?_) (fun l s I=>hN _) (hN _) (by kernel_rfl) ⟨rfl,none,none,rfl⟩) fun l hh=>?_
 . obtain⟨rfl,o1,o2,rfl⟩:=I
   have hlen:=lR (st:=st) (ss.take i) []
   have:(ss.take i).length<=i:=by rw[Qb];lia
   refine⟨hN _,av ss[i],.next,_,_,?_,DU (by simp at hlen;lia),.inl rfl,?_,_,_,rfl⟩
   . show(some (ss.map av)).bind (·[i]?)=_
     rw[Option.bind_some,PQ,PF hi];rfl
   .rw[List.take_add_one,PF hi,List.foldl_append];rfl
 . obtain⟨s,⟨rfl,o1,o2,rfl⟩,h⟩:=hh
   rw[List.take_length]at h
   exact⟨o1,o2,h⟩
theorem Jq(L:Gf P d (.seq (.lst (ss.map av))) (luL (.lst (ss.map av)) st J.length none none) (J++[.list []]) (luL (.lst (ss.map av)) st J.length o1 o2) (J++[.list ((ao st ss).map uV)])):
 cP P (d+1) "" "_law_units" [.lst (ss.map av),.str st] [] J (.ref J.length) (J++[.list ((ao st ss).map uV)]):=by
 exact af (fG P) ([V.lst (List.map av ss),V.str st]) (fun z=>(zL L (z0 z)).C.R.R)
theorem Gg(hl:ss.length<=90):cP P (d+2) "" "_law_units" [.lst (ss.map av),.str st] [] J (.ref J.length) (J++[.list ((ao st ss).map uV)]):=by
 obtain⟨o1,o2,L⟩:=Jp (P:=P) (d:=d) (J:=J) (st:=st) hl
 exact Jq L
end
section
variable{P:Params}{d:Nat}{J:Hp}{a b x st last gj gk nj nk ej ek n1 g1 e1 aj nx a2:Str}{iw nu f1 f2 j1 jj jk pj pk p1 ka fg nr fr ak vf dk:Bool}{cj ck c1:V}{k j N m1 mj mk at':Int}{ns us sl:List V}{u2:V}
theorem Jr(W:gr (dO P d (mv (fgS P))) (aH P d (cz (fgS P))) (fgL ns at') J .next (fgL ns j) J)(q:decide (0<=j)=true)(h:ai J (.lst ns) (.int j)=some (.str x)):
 cP P (d+1) "" "_law_is_figure" [.lst ns,.int at'] [] J (.bool (x=="NU")) J:=by
 exact af (cM P) ([V.lst ns,V.int at']) (fun z=>zL W (zH q (zV h (z0 z).C)).C)
theorem Js(W:gr (dO P d (mv (fgS P))) (aH P d (cz (fgS P))) (fgL ns at') J .next (fgL ns j) J)(q:decide (0<=j)=false):
 cP P (d+1) "" "_law_is_figure" [.lst ns,.int at'] [] J (.bool false) J:=by
 exact af (cM P) ([V.lst ns,V.int at']) (fun z=>zL W (zH q (z0 (zE J ((PI V.bool (Eq.symm q)):(V.bool false)=_)))).C)
def qg(a b:Str)(iw nu f1 f2:Bool):V:=cond (!iw) (cond ((inS a ["CL","CP","NU"]&&inS b ["PO","PR"])||(inS a ["PO","PR"]&&inS b ["OP","NU"])) (.bool true) (.bool (inS a ["HY","IS","NU","SY"]&&(b=="NU"))))
 (cond ((inS a ["PR","PO"]&&((b=="NU")||(inS b ["OP","HY"]&&nu)))||(inS a ["OP","HY"]&&(b=="NU"))) (.bool true) (cond f1 (.bool (inS b ["NU","SY","IS","CL","CP","PO","PR"])) (.bool (inS a ["CL","CP"]&&(f2&&inS b ["PO","PR"])))))
theorem LS(N1:ai J (.lst ns) (.int (k-1))=some (.str a))(N0:ai J (.lst ns) (.int k)=some (.str b))(S:aG false J (.lst ns) (.int (k+1)) (.int (k+2)) .none=some (.lst sl,J))(E:aM J .Eq (.lst sl) (.lst [.str "NU"])=some nu)
 (F1:cP P d "" "_law_is_figure" [.lst ns,.int (k-1)] [] J (.bool f1) J) (F2:cP P d "" "_law_is_figure" [.lst ns,.int (k-2)] [] J (.bool f2) J) :
 cP P (d+1) "" "_law_figures" [.lst ns,.int k,.bool iw] [] J (qg a b iw nu f1 f2) J:=by
 exact af (fV P) ([V.lst ns,V.int k,V.bool iw]) (fun z=>(zV N1 (zV N0 (zM (fun p24=>(zW J (zW J (zW J (zM (fun p291=>z0 (zE J ((xT p24 (xT p291 rfl)):qg a b iw nu f1 f2=_))) (fun p291=>(zW J (z0 (zE J ((xT p24 (xF p291 rfl)):qg a b iw nu f1 f2=_)))).C.O.C.R)))).C.R.O.C.R.O).C.R.O.C.R) (fun p24=>(zP S (zT E (zW J (zW J (zW J (zW J (zW J (zM (fun p582=>z0 (zE J ((xF p24 (xT p582 rfl)):qg a b iw nu f1 f2=_))) (fun p582=>(zD F1 (zM (fun p933=>(z0 (zE J ((xF p24 (xF p582 (xT p933 rfl))):qg a b iw nu f1 f2=_))).C.R) (fun p933=>(zD F2 (zW J (zW J (z0 (zE J ((xF p24 (xF p582 (xF p933 rfl))):qg a b iw nu f1 f2=_))))).C.R.O).C.R.O.C.R))).C.R)))).C.O.C.R.O)))).R).C.C.O.C.R.O.C.O.C.R)).C.R)).C.R)
end
section
variable{P:Params}{d:Nat}{J:Hp}{s1 sj sk a b x st last gj gk nj nk ej ek n1 g1 e1 aj nx a2:Str}{iw nu j1 jj jk pj pk p1 ka fg nr fr ak vf dk:Bool}{cj ck c1:V}{k j N m1 mj mk at':Int}{ns sl:List V}{uv:V}{u2:V}
abbrev ahS(P:Params):Stmt:=fQ 4 (ei P).body
noncomputable abbrev ahL(uv:V)(ns:List V)(how:V)(k j:Int)(a b:Str):Loc:=[("units",.v (some uv)),("names",.v (some (.lst ns))),("k",.v (some (.int k))),("how",.v (some how)),("a",.v (some (.str a))),("b",.v (some (.str b))),("j",.v (some (.int j))),("last",.v none),("opens",.v none),("shuts",.v none),("len",.g)]
noncomputable abbrev Bn(P:Params)(d:Nat)(loc:Loc)(J:Hp)(c:Bool)(f:Fl)(l:Loc)(s:Hp):Prop:=ld (dO P d (mv (ahS P))) (aH P d (cz (ahS P))) loc J c f l s
noncomputable abbrev et(st:Str)(ka iw:Bool):V:=.tup [.str st,.bool ka,.bool iw]
theorem O8(q:decide (0<j)=true)(h:ai J (.lst ns) (.int j)=some (.str x))(hx:(x=="SP")=true):Bn P d (ahL uv ns (et st ka iw) k j a b) J true .next (ahL uv ns (et st ka iw) k (j-1) a b) J:=by
 intro k hk
 exact bd (zC (zH q (zV h (zC (zH hx (zR (zC (z0 hk)))))))) (by kernel_rfl)
theorem O9(q:decide (0<j)=true)(h:ai J (.lst ns) (.int j)=some (.str x))(hx:(x=="SP")=false):Bn P d (ahL uv ns (et st ka iw) k j a b) J false .next (ahL uv ns (et st ka iw) k j a b) J:=by
 intro k hk
 exact bd (zC (zH q (zV h (zC (zH hx (z0 hk)))))) (by kernel_rfl)
theorem Pa(q:decide (0<j)=false):Bn P d (ahL uv ns (et st ka iw) k j a b) J false .next (ahL uv ns (et st ka iw) k j a b) J:=by
 intro k hk
 exact bd (zC (zH q (zH q (z0 hk)))) (by kernel_rfl)
noncomputable abbrev i9:List Str:=["BK","CR","LF","NL","OP","QU","GL","SP","ZW"]
noncomputable abbrev eu:List Str:=["SP","GL","WJ","CL","QU","CP","EX","IS","SY","BK","CR","LF","NL","ZW"]
def bB(a b last gj gk aj:Str)(j1 iw zj bx:Bool):V:=cond ((a=="CR")&&(b=="LF")) (.str "no") (cond (inS a eK) (.str "must") (cond (inS b ["BK","CR","LF","NL","SP","ZW"]) (.str "no") (cond (last=="ZW") (.str "may")
 (cond (j1||(inS "WJ" [a,b]||((a=="GL")||(((b=="GL") && !inS a ["SP","BA","HY"])||(b=="EX"))))) (.str "no") (cond ((inS b ["CL","CP","IS","SY"] && !(iw&&(a=="NU")))||(last=="OP")) (.str "no")
 (cond ((last=="QU")&&((gj=="Pi")&&(zj||inS aj i9))) (.str "no") (cond ((b=="QU")&&((gk=="Pf")&&bx)) (.str "no")
 (cond ((inS last ["CL","CP"]&&(b=="NS"))||((last=="B2")&&(b=="B2"))) (.str "no") (cond (a=="SP") (.str "may") .none)))))))))
theorem Gh(N1:ai J (.lst ns) (.int (k-1))=some (.str a))(N0:ai J (.lst ns) (.int k)=some (.str b))
 (W:gr (dO P d (mv (ahS P))) (aH P d (cz (ahS P))) (ahL uv ns (et st ka iw) k (k-1) a b) J .next (ahL uv ns (et st ka iw) k j a b) J)
 (NJ:ai J (.lst ns) (.int j)=some (.str last)) (U1:ai J uv (.int (k-1))=some (bG n1 (bA s1 g1 e1 p1 c1) m1 j1)) (UJ:ai J uv (.int j)=some (bG nj (bA sj gj ej pj cj) mj jj)) (UK:ai J uv (.int k)=some (bG nk (bA sk gk ek pk ck) mk jk))
 (NJ1:ai J (.lst ns) (.int (j-1))=some (.str aj)) (LN:biI true "len" [.lst ns] J=some (.int N,J)) (NX:ai J (.lst ns) (.int (k+1))=some (.str nx)) :
 cP P (d+1) "" "_law_ahead" [uv,.lst ns,.int k,et st ka iw] [] J (bB a b last gj gk aj j1 iw (j==0) ((k+1==N)||inS nx eu)) J:=by
 exact af (ei P) ([uv,V.lst ns,V.int k,et st ka iw]) (fun z=>(zV N1 (zV N0 (zW J (zM (fun p168=>z0 (zE J ((xT p168 rfl):bB a b last gj gk aj j1 iw (j==0) ((k+1==N)||inS nx eu)=_))) (fun p168=>(zM (fun p244=>z0 (zE J ((xF p168 (xT p244 rfl)):bB a b last gj gk aj j1 iw (j==0) ((k+1==N)||inS nx eu)=_))) (fun p244=>(zM (fun p371=>z0 (zE J ((xF p168 (xF p244 (xT p371 rfl))):bB a b last gj gk aj j1 iw (j==0) ((k+1==N)||inS nx eu)=_))) (fun p371=>zL W (zV NJ (zM (fun p577=>z0 (zE J ((xF p168 (xF p244 (xF p371 (xT p577 rfl)))):bB a b last gj gk aj j1 iw (j==0) ((k+1==N)||inS nx eu)=_))) (fun p577=>(zV U1 (zW J (zW J (zW J (zW J (zW J (zM (fun p1031=>z0 (zE J ((xF p168 (xF p244 (xF p371 (xF p577 (xT p1031 rfl))))):bB a b last gj gk aj j1 iw (j==0) ((k+1==N)||inS nx eu)=_))) (fun p1031=>(zW J (zW J (zW J (zM (fun p1651=>z0 (zE J ((xF p168 (xF p244 (xF p371 (xF p577 (xF p1031 (xT p1651 rfl)))))):bB a b last gj gk aj j1 iw (j==0) ((k+1==N)||inS nx eu)=_))) (fun p1651=>(zV UJ (zV NJ1 (zW J (zW J (zW J (zM (fun p2198=>z0 (zE J ((xF p168 (xF p244 (xF p371 (xF p577 (xF p1031 (xF p1651 (xT p2198 rfl))))))):bB a b last gj gk aj j1 iw (j==0) ((k+1==N)||inS nx eu)=_))) (fun p2198=>(zV UK (zP LN (zV NX (zW J (zW J (zW J (zM (fun p2913=>z0 (zE J ((xF p168 (xF p244 (xF p371 (xF p577 (xF p1031 (xF p1651 (xF p2198 (xT p2913 rfl)))))))):bB a b last gj gk aj j1 iw (j==0) ((k+1==N)||inS nx eu)=_))) (fun p2913=>(zW J (zW J (zW J (zM (fun p3931=>z0 (zE J ((xF p168 (xF p244 (xF p371 (xF p577 (xF p1031 (xF p1651 (xF p2198 (xF p2913 (xT p3931 rfl))))))))):bB a b last gj gk aj j1 iw (j==0) ((k+1==N)||inS nx eu)=_))) (fun p3931=>(zM (fun p4137=>z0 (zE J ((xF p168 (xF p244 (xF p371 (xF p577 (xF p1031 (xF p1651 (xF p2198 (xF p2913 (xF p3931 (xT p4137 rfl)))))))))):bB a b last gj gk aj j1 iw (j==0) ((k+1==N)||inS nx eu)=_))) (fun p4137=>z0 (zE J ((xF p168 (xF p244 (xF p371 (xF p577 (xF p1031 (xF p1651 (xF p2198 (xF p2913 (xF p3931 (xF p4137 rfl)))))))))):bB a b last gj gk aj j1 iw (j==0) ((k+1==N)||inS nx eu)=_)))).C)))).C.O.C.O).C.O.C.R))))).C).C.O.C).R.C.O.C.C.C).O.C.R.R))))).C).C.O.C.O.C.C.C).O.C.R.R))).C.O).C).C.O.C.O.C.R)))))).C.O).C.R.O.C.O.C.O.C.R.O.C).C)).C).R)).C.R)).C.R))).C.O.C.R.C)).C.R)
end
section
variable{P:Params}{d:Nat}{J:Hp}{s1 sj sk a b x st last gj gk nj nk ej ek n1 g1 e1 aj nx a2:Str}{iw nu j1 jj jk pj pk p1 ka fg nr fr ak vf dk:Bool}{cj ck c1:V}{k j N m1 mj mk at':Int}{ns sl:List V}{uv:V}{u2:V}
theorem Gi(N1:ai J (.lst ns) (.int (k-1))=some (.str a))(N0:ai J (.lst ns) (.int k)=some (.str b))
 (W:gr (dO P d (mv (ahS P))) (aH P d (cz (ahS P))) (ahL uv ns (et st ka iw) k (k-1) a b) J .next (ahL uv ns (et st ka iw) k j a b) J)
 (NJ:ai J (.lst ns) (.int j)=some (.str last)) (U1:ai J uv (.int (k-1))=some (bG n1 (bA s1 g1 e1 p1 c1) m1 j1)) (UJ:ai J uv (.int j)=some (bG nj (bA sj gj ej pj cj) mj jj)) (UK:ai J uv (.int k)=some (bG nk (bA sk gk ek pk ck) mk jk))
 (NJ1:ai J (.lst ns) (.int (j-1))=some (.str aj)) (LN:biI true "len" [.lst ns] J=some (.int N,J)) (q:(k+1==N)=true) :
 cP P (d+1) "" "_law_ahead" [uv,.lst ns,.int k,et st ka iw] [] J (bB a b last gj gk aj j1 iw (j==0) (k+1==N)) J:=by
 exact af (ei P) ([uv,V.lst ns,V.int k,et st ka iw]) (fun z=>(zV N1 (zV N0 (zW J (zM (fun p168=>z0 (zE J ((xT p168 rfl):bB a b last gj gk aj j1 iw (j==0) (k+1==N)=_))) (fun p168=>(zM (fun p244=>z0 (zE J ((xF p168 (xT p244 rfl)):bB a b last gj gk aj j1 iw (j==0) (k+1==N)=_))) (fun p244=>(zM (fun p371=>z0 (zE J ((xF p168 (xF p244 (xT p371 rfl))):bB a b last gj gk aj j1 iw (j==0) (k+1==N)=_))) (fun p371=>zL W (zV NJ (zM (fun p577=>z0 (zE J ((xF p168 (xF p244 (xF p371 (xT p577 rfl)))):bB a b last gj gk aj j1 iw (j==0) (k+1==N)=_))) (fun p577=>(zV U1 (zW J (zW J (zW J (zW J (zW J (zM (fun p1031=>z0 (zE J ((xF p168 (xF p244 (xF p371 (xF p577 (xT p1031 rfl))))):bB a b last gj gk aj j1 iw (j==0) (k+1==N)=_))) (fun p1031=>(zW J (zW J (zW J (zM (fun p1651=>z0 (zE J ((xF p168 (xF p244 (xF p371 (xF p577 (xF p1031 (xT p1651 rfl)))))):bB a b last gj gk aj j1 iw (j==0) (k+1==N)=_))) (fun p1651=>(zV UJ (zV NJ1 (zW J (zW J (zW J (zM (fun p2198=>z0 (zE J ((xF p168 (xF p244 (xF p371 (xF p577 (xF p1031 (xF p1651 (xT p2198 rfl))))))):bB a b last gj gk aj j1 iw (j==0) (k+1==N)=_))) (fun p2198=>(zV UK (zP LN (zH q (zW J (zW J (zM (fun p2842=>z0 (zE J ((xF p168 (xF p244 (xF p371 (xF p577 (xF p1031 (xF p1651 (xF p2198 (xT p2842 rfl)))))))):bB a b last gj gk aj j1 iw (j==0) (k+1==N)=_))) (fun p2842=>(zW J (zW J (zW J (zM (fun p3192=>z0 (zE J ((xF p168 (xF p244 (xF p371 (xF p577 (xF p1031 (xF p1651 (xF p2198 (xF p2842 (xT p3192 rfl))))))))):bB a b last gj gk aj j1 iw (j==0) (k+1==N)=_))) (fun p3192=>(zM (fun p3398=>z0 (zE J ((xF p168 (xF p244 (xF p371 (xF p577 (xF p1031 (xF p1651 (xF p2198 (xF p2842 (xF p3192 (xT p3398 rfl)))))))))):bB a b last gj gk aj j1 iw (j==0) (k+1==N)=_))) (fun p3398=>z0 (zE J ((xF p168 (xF p244 (xF p371 (xF p577 (xF p1031 (xF p1651 (xF p2198 (xF p2842 (xF p3192 (xF p3398 rfl)))))))))):bB a b last gj gk aj j1 iw (j==0) (k+1==N)=_)))).C)))).C.O.C.O).C.O.C.R))))).C).R.C.O.C.C.C).O.C.R.R))))).C).C.O.C.O.C.C.C).O.C.R.R))).C.O).C).C.O.C.O.C.R)))))).C.O).C.R.O.C.O.C.O.C.R.O.C).C)).C).R)).C.R)).C.R))).C.O.C.R.C)).C.R)
noncomputable abbrev DV:List Str:=["AL","HL"]
noncomputable abbrev Ce:List Str:=["F","W","H"]
noncomputable abbrev svs(l:List Str):List V:=l.map .str
abbrev jnS(P:Params):Stmt:=fQ 15 (fh P).body
noncomputable abbrev jnL(uv:V)(ns:List V)(how:V)(k j:Int)(a b:Str)(nr fr:Bool):Loc:=[("units",.v (some uv)),("names",.v (some (.lst ns))),("k",.v (some (.int k))),("how",.v (some how)),("a",.v (some (.str a))),("b",.v (some (.str b))),("wide",.v (some (.tup [.str "F",.str "W",.str "H"]))),("letters",.v (some (.tup [.str "AL",.str "HL"]))),("jamo",.v (some (.tup [.str "JL",.str "JV",.str "JT",.str "H2",.str "H3"]))),("pictures",.v (some (.tup [.str "ID",.str "EB",.str "EM"]))),("near",.v (some (.bool nr))),("far",.v (some (.bool fr))),("j",.v (some (.int j))),("kept",.v none),("_law_figures",.g),("_law_is_aksara",.g)]
noncomputable abbrev Bo(P:Params)(d:Nat)(loc:Loc)(J:Hp)(c:Bool)(f:Fl)(l:Loc)(s:Hp):Prop:=ld (dO P d (mv (jnS P))) (aH P d (cz (jnS P))) loc J c f l s
theorem Pb(q:decide (0<=j)=true)(h:ai J (.lst ns) (.int j)=some (.str x))(hx:(x=="RI")=true):Bo P d (jnL uv ns (et st ka iw) k j a b nr fr) J true .next (jnL uv ns (et st ka iw) k (j-1) a b nr fr) J:=by
 intro k hk
 exact bd (zC (zH q (zV h (zC (zH hx (zR (zC (z0 hk)))))))) (by kernel_rfl)
theorem Pc(q:decide (0<=j)=true)(h:ai J (.lst ns) (.int j)=some (.str x))(hx:(x=="RI")=false):Bo P d (jnL uv ns (et st ka iw) k j a b nr fr) J false .next (jnL uv ns (et st ka iw) k j a b nr fr) J:=by
 intro k hk
 exact bd (zC (zH q (zV h (zC (zH hx (z0 hk)))))) (by kernel_rfl)
theorem Pd(q:decide (0<=j)=false):Bo P d (jnL uv ns (et st ka iw) k j a b nr fr) J false .next (jnL uv ns (et st ka iw) k j a b nr fr) J:=by
 intro k hk
 exact bd (zC (zH q (zH q (z0 hk)))) (by kernel_rfl)
end
section
variable{P:Params}{d:Nat}{J:Hp}{s1 sj sk a b x st gk nk ek n1 g1 e1 a2:Str}{iw jk j1 pk p1 ka fg nr fr ak vf dk:Bool}{ck c1:V}{k j m1 mk:Int}{ns sl:List V}{uv:V}{u2:V}
def bH(a b a2 st e1 ek g1:Str)(ka fg nr fr ak vf dk k1 rg p1:Bool):V:=cond (inS "QU" [a,b]||inS "CB" [a,b]) (cond (inS "QU" [a,b]) (.str "no") (.str "may"))
 (cond (inS b ["BA","HY","NS"]||((a=="BB")||(inS a ["HY","BA"]&&(k1&&((a2=="HL") && !(b=="HL")))))) (.str "no")
 (cond (((a=="SY")&&(b=="HL"))||((b=="IN") && !((st=="loose")&&(a=="IN")))) (.str "no")
 (cond ((inS a DV&&inS b ["NU","PR","PO"])||(inS b DV&&inS a ["NU","PR","PO","IS"])) (.str "no")
 (cond (((a=="PR")&&inS b ["ID","EB","EM","JL","JV","JT","H2","H3"])||(((b=="PO")&&inS a ["ID","EB","EM","JL","JV","JT","H2","H3"])||fg)) (.str "no")
 (cond (inP a b [("JL","JL"),("JL","JV"),("JL","H2"),("JL","H3")]||(inS a ["JV","H2"]&&inS b ["JV","JT"])) (.str "no")
 (cond ((inS a ["JT","H3"]&&(b=="JT"))||(inS a DV&&inS b DV)) (.str "no")
 (cond (((a=="AP")&&fr)||((nr&&inS b ["VF","VI"])||(nr&&(fr&&vf)))) (.str "no")
 (cond ((a=="VI")&&(k1&&(ak&&((b=="AK")||dk)))) (.str "no")
 (cond (inS a ["AL","HL","NU"]&&((b=="OP") && !inS ek Ce)) (.str "no")
 (cond ((a=="CP")&&(!inS e1 Ce&&inS b ["AL","HL","NU"])) (.str "no")
 (cond ((b=="RI")&&rg) (.str "no")
 (cond ((b=="EM")&&((a=="EB")||(p1&&(g1=="Cn")))) (.str "no")
 (cond (ka&&(inS a ["AL","HL","JL","JV","JT","H2","H3","ID","NU"]&&inS b ["AL","HL","JL","JV","JT","H2","H3","ID","NU"])) (.str "no") (.str "may"))))))))))))))
theorem Gj(N1:ai J (.lst ns) (.int (k-1))=some (.str a))(N0:ai J (.lst ns) (.int k)=some (.str b))(N2:ai J (.lst ns) (.int (k-2))=some (.str a2))
 (U1:ai J uv (.int (k-1))=some (bG n1 (bA s1 g1 e1 p1 c1) m1 j1)) (UK:ai J uv (.int k)=some (bG nk (bA sk gk ek pk ck) mk jk)) (U2:ai J uv (.int (k-2))=some u2)
 (FG:cP P d "" "_law_figures" [.lst ns,.int k,.bool iw] [] J (.bool fg) J)
 (A1:cP P d "" "_law_is_aksara" [bG n1 (bA s1 g1 e1 p1 c1) m1 j1] [] J (.bool nr) J) (A0:cP P d "" "_law_is_aksara" [bG nk (bA sk gk ek pk ck) mk jk] [] J (.bool fr) J) (A2:cP P d "" "_law_is_aksara" [u2] [] J (.bool ak) J)
 (S:aG false J (.lst ns) (.int (k+1)) (.int (k+2)) .none=some (.lst sl,J)) (E:aM J .Eq (.lst sl) (.lst [.str "VF"])=some vf) (hc:aM J .Eq ck (.int 9676)=some dk)
 (W:gr (dO P d (mv (jnS P))) (aH P d (cz (jnS P))) (jnL uv ns (et st ka iw) k (k-1) a b nr fr) J .next (jnL uv ns (et st ka iw) k j a b nr fr) J) :
 cP P (d+1) "" "_law_joined" [uv,.lst ns,.int k,et st ka iw] [] J (bH a b a2 st e1 ek g1 ka fg nr fr ak vf dk (decide (1<k)) ((k-1-j).fmod 2==1) p1) J:=by
 exact af (fh P) ([uv,V.lst ns,V.int k,et st ka iw]) (fun z=>(zV N1 (zV N0 (zW J (zM (fun p114=>(zM (fun p265=>z0 (zE J ((xT p114 (xT p265 rfl)):bH a b a2 st e1 ek g1 ka fg nr fr ak vf dk (decide (1<k)) ((k-1-j).fmod 2==1) p1=_))) (fun p265=>z0 (zE J ((xT p114 (xF p265 rfl)):bH a b a2 st e1 ek g1 ka fg nr fr ak vf dk (decide (1<k)) ((k-1-j).fmod 2==1) p1=_)))).C.R) (fun p114=>(zV N2 (zW J (zW J (zW J (zW J (zW J (zM (fun p771=>z0 (zE J ((xF p114 (xT p771 rfl)):bH a b a2 st e1 ek g1 ka fg nr fr ak vf dk (decide (1<k)) ((k-1-j).fmod 2==1) p1=_))) (fun p771=>(zW J (zW J (zW J (zW J (zM (fun p1486=>z0 (zE J ((xF p114 (xF p771 (xT p1486 rfl))):bH a b a2 st e1 ek g1 ka fg nr fr ak vf dk (decide (1<k)) ((k-1-j).fmod 2==1) p1=_))) (fun p1486=>(zW J (zW J (zW J (zM (fun p1938=>z0 (zE J ((xF p114 (xF p771 (xF p1486 (xT p1938 rfl)))):bH a b a2 st e1 ek g1 ka fg nr fr ak vf dk (decide (1<k)) ((k-1-j).fmod 2==1) p1=_))) (fun p1938=>(zW J (zW J (zD FG (zW J (zW J (zM (fun p3202=>z0 (zE J ((xF p114 (xF p771 (xF p1486 (xF p1938 (xT p3202 rfl))))):bH a b a2 st e1 ek g1 ka fg nr fr ak vf dk (decide (1<k)) ((k-1-j).fmod 2==1) p1=_))) (fun p3202=>(zW J (zW J (zM (fun p4105=>z0 (zE J ((xF p114 (xF p771 (xF p1486 (xF p1938 (xF p3202 (xT p4105 rfl)))))):bH a b a2 st e1 ek g1 ka fg nr fr ak vf dk (decide (1<k)) ((k-1-j).fmod 2==1) p1=_))) (fun p4105=>(zW J (zW J (zW J (zM (fun p4802=>z0 (zE J ((xF p114 (xF p771 (xF p1486 (xF p1938 (xF p3202 (xF p4105 (xT p4802 rfl))))))):bH a b a2 st e1 ek g1 ka fg nr fr ak vf dk (decide (1<k)) ((k-1-j).fmod 2==1) p1=_))) (fun p4802=>(zV U1 (zD A1 (zV UK (zD A0 (zW J (zW J (zP S (zT E (zW J (zW J (zW J (zW J (zM (fun p5406=>z0 (zE J ((xF p114 (xF p771 (xF p1486 (xF p1938 (xF p3202 (xF p4105 (xF p4802 (xT p5406 rfl)))))))):bH a b a2 st e1 ek g1 ka fg nr fr ak vf dk (decide (1<k)) ((k-1-j).fmod 2==1) p1=_))) (fun p5406=>(zV U2 (zD A2 (zV UK (zT hc (zW J (zW J (zW J (zW J (zM (fun p5742=>z0 (zE J ((xF p114 (xF p771 (xF p1486 (xF p1938 (xF p3202 (xF p4105 (xF p4802 (xF p5406 (xT p5742 rfl))))))))):bH a b a2 st e1 ek g1 ka fg nr fr ak vf dk (decide (1<k)) ((k-1-j).fmod 2==1) p1=_))) (fun p5742=>(zV UK (zW J (zW J (zM (fun p6362=>z0 (zE J ((xF p114 (xF p771 (xF p1486 (xF p1938 (xF p3202 (xF p4105 (xF p4802 (xF p5406 (xF p5742 (xT p6362 rfl)))))))))):bH a b a2 st e1 ek g1 ka fg nr fr ak vf dk (decide (1<k)) ((k-1-j).fmod 2==1) p1=_))) (fun p6362=>(zV U1 (zW J (zW J (zM (fun p7334=>z0 (zE J ((xF p114 (xF p771 (xF p1486 (xF p1938 (xF p3202 (xF p4105 (xF p4802 (xF p5406 (xF p5742 (xF p6362 (xT p7334 rfl))))))))))):bH a b a2 st e1 ek g1 ka fg nr fr ak vf dk (decide (1<k)) ((k-1-j).fmod 2==1) p1=_))) (fun p7334=>(zL W (zW J (zM (fun p7760=>z0 (zE J ((xF p114 (xF p771 (xF p1486 (xF p1938 (xF p3202 (xF p4105 (xF p4802 (xF p5406 (xF p5742 (xF p6362 (xF p7334 (xT p7760 rfl)))))))))))):bH a b a2 st e1 ek g1 ka fg nr fr ak vf dk (decide (1<k)) ((k-1-j).fmod 2==1) p1=_))) (fun p7760=>(zV U1 (zV U1 (zW J (zW J (zW J (zM (fun p8046=>z0 (zE J ((xF p114 (xF p771 (xF p1486 (xF p1938 (xF p3202 (xF p4105 (xF p4802 (xF p5406 (xF p5742 (xF p6362 (xF p7334 (xF p7760 (xT p8046 rfl))))))))))))):bH a b a2 st e1 ek g1 ka fg nr fr ak vf dk (decide (1<k)) ((k-1-j).fmod 2==1) p1=_))) (fun p8046=>(zW J (zW J (zM (fun p10557=>z0 (zE J ((xF p114 (xF p771 (xF p1486 (xF p1938 (xF p3202 (xF p4105 (xF p4802 (xF p5406 (xF p5742 (xF p6362 (xF p7334 (xF p7760 (xF p8046 (xT p10557 rfl)))))))))))))):bH a b a2 st e1 ek g1 ka fg nr fr ak vf dk (decide (1<k)) ((k-1-j).fmod 2==1) p1=_))) (fun p10557=>z0 (zE J ((xF p114 (xF p771 (xF p1486 (xF p1938 (xF p3202 (xF p4105 (xF p4802 (xF p5406 (xF p5742 (xF p6362 (xF p7334 (xF p7760 (xF p8046 (xF p10557 rfl)))))))))))))):bH a b a2 st e1 ek g1 ka fg nr fr ak vf dk (decide (1<k)) ((k-1-j).fmod 2==1) p1=_)))))).C.O.C.O.C.C.R.C.R))))).C.C.C).C.O.C.C).C.O.C.O.C))).C.C.C.C.O.C).C.R)))).C.C.R.O.C.C.C).C.O.C)))).C.C.C).O.C.O.C.C.R))))))).C.C).O.C.O)).C.R.O.C.O.C))))))).R).C.C.O.O.O).C.R.O.O).O.C.R)).R)).C.R.R)))).C.O.C.O).C.O.C.R)))).C.R.O.C.R.O.C.R.R.R.R.R.R))))).C.R.O).C.C.O.C.O).C.C.O.C)))).C.R.O.C.O).C.R.O.C)))).C).C.O.C.C.O.C.O).C.O.C.R.R.R.R.R))))))).C.O.C).C.O.C.O.C.R.O.C.O.C.R))).C.R.O.C.R.R.R)).C.R)
end
section
variable{P:Params}{d F:Nat}{H J:Hp}{x w:Str}{k m:Int}{j:Bool}{ns fs rs:List V}{s sv how v:V}{o1 o2 o3:Option V}
abbrev y8(P:Params):Stmt:=fQ 3 (cZ P).body
noncomputable abbrev jA(sv how:V)(F:Nat)(ns:List V)(G:Nat)(o1 o2 o3:Option V):Loc:=[("sorts",.v (some sv)),("how",.v (some how)),("units",.v (some (.ref F))),("unit",.v o1),("names",.v (some (.lst ns))),("found",.v (some (.ref G))),("k",.v o2),("word",.v o3),("_law_units",.g),("enumerate",.g),("_law_ahead",.g),("_law_joined",.g)]
noncomputable abbrev kO(P:Params)(d:Nat)(x:V)(loc:Loc)(J:Hp)(f:Fl)(l:Loc)(s:Hp):Prop:=gf (bt P d (bQ (y8 P))) (aH P d (cz (y8 P))) x loc J f l s
theorem Jt{fs rs:List V}{H:Hp}(hl:bp (fs++rs)=true):c8 true .Add (.ref H.length) (.lst rs) (H++[ab.list fs])=some (.ref (H++[ab.list fs]).length,H++[ab.list fs]++[ab.list (fs++rs)]):=by
 show((ba _ _).bind fun xs=>(ba _ _).bind fun ys=>if bp (xs++ys)then _ else _)=_
 rw[b0 aW]
 exact if_pos hl
theorem Pe(k1:cg (a_T P) (H++[ab.list fs]) (.ref H.length) "append"=some (.bi "list.append"))(k2:aS (H++[ab.list fs]) "list.append" (.ref H.length) [V.str "no"]=some (.none,H++[ab.list (fs++[V.str "no"])]))
 (k3:c8 false .Mult (.lst [V.str "no"]) (.int (m-1)) (H++[ab.list (fs++[V.str "no"])])=some (.lst rs,H++[ab.list (fs++[V.str "no"])]))
 (k4:c8 true .Add (.ref H.length) (.lst rs) (H++[ab.list (fs++[V.str "no"])])=some (.ref (H++[ab.list (fs++[V.str "no"])]).length,H++[ab.list (fs++[V.str "no"])]++[ab.list (fs++[V.str "no"]++rs)])) :
 kO P d (.tup [.int 0,bG w s m j]) (jA sv how F ns H.length o1 o2 o3) (H++[ab.list fs]) .next (jA sv how F ns (H++[ab.list (fs++[V.str "no"])]).length (some (bG w s m j)) (some (.int 0)) (some (.str "no"))) (H++[ab.list (fs++[V.str "no"])]++[ab.list (fs++[V.str "no"]++rs)]):=by
 intro k hk
 exact bd (zR (zC (z1 (zQ (zR (zK k1 (zC (z2 (zP k2 (zR (zR (zC (zC (zP k3 (zP k4 (z0 hk)))))))))))))))) (by kernel_rfl)
theorem Pf(q0:(k==0)=false)(A:cP P d "" "_law_ahead" [.ref F,.lst ns,.int k,how] [] (H++[ab.list fs]) (.str x) (H++[ab.list fs]))
 (k1:cg (a_T P) (H++[ab.list fs]) (.ref H.length) "append"=some (.bi "list.append")) (k2:aS (H++[ab.list fs]) "list.append" (.ref H.length) [V.str x]=some (.none,H++[ab.list (fs++[V.str x])]))
 (k3:c8 false .Mult (.lst [V.str "no"]) (.int (m-1)) (H++[ab.list (fs++[V.str x])])=some (.lst rs,H++[ab.list (fs++[V.str x])]))
 (k4:c8 true .Add (.ref H.length) (.lst rs) (H++[ab.list (fs++[V.str x])])=some (.ref (H++[ab.list (fs++[V.str x])]).length,H++[ab.list (fs++[V.str x])]++[ab.list (fs++[V.str x]++rs)])) :
 kO P d (.tup [.int k,bG w s m j]) (jA sv how F ns H.length o1 o2 o3) (H++[ab.list fs]) .next (jA sv how F ns (H++[ab.list (fs++[V.str x])]).length (some (bG w s m j)) (some (.int k)) (some (.str x))) (H++[ab.list (fs++[V.str x])]++[ab.list (fs++[V.str x]++rs)]):=by
 intro kk hk
 exact bd (zR (zC (zH q0 (zR (zD A (zQ (zR (zK k1 (zC (z2 (zP k2 (zR (zR (zC (zC (zP k3 (zP k4 (z0 hk)))))))))))))))))) (by kernel_rfl)
theorem Pg(q0:(k==0)=false)(A:cP P d "" "_law_ahead" [.ref F,.lst ns,.int k,how] [] (H++[ab.list fs]) .none (H++[ab.list fs]))
 (σ:cP P d "" "_law_joined" [.ref F,.lst ns,.int k,how] [] (H++[ab.list fs]) (.str x) (H++[ab.list fs]))
 (k1:cg (a_T P) (H++[ab.list fs]) (.ref H.length) "append"=some (.bi "list.append")) (k2:aS (H++[ab.list fs]) "list.append" (.ref H.length) [V.str x]=some (.none,H++[ab.list (fs++[V.str x])]))
 (k3:c8 false .Mult (.lst [V.str "no"]) (.int (m-1)) (H++[ab.list (fs++[V.str x])])=some (.lst rs,H++[ab.list (fs++[V.str x])]))
 (k4:c8 true .Add (.ref H.length) (.lst rs) (H++[ab.list (fs++[V.str x])])=some (.ref (H++[ab.list (fs++[V.str x])]).length,H++[ab.list (fs++[V.str x])]++[ab.list (fs++[V.str x]++rs)])) :
 kO P d (.tup [.int k,bG w s m j]) (jA sv how F ns H.length o1 o2 o3) (H++[ab.list fs]) .next (jA sv how F ns (H++[ab.list (fs++[V.str x])]).length (some (bG w s m j)) (some (.int k)) (some .none)) (H++[ab.list (fs++[V.str x])]++[ab.list (fs++[V.str x]++rs)]):=by
 intro kk hk
 exact bd (zR (zC (zH q0 (zR (zD A (zQ (zR (zK k1 (zC (z1 (zR (zD σ (zP k2 (zR (zR (zC (zC (zP k3 (zP k4 (z0 hk)))))))))))))))))))) (by kernel_rfl)
end
noncomputable def uA(us:List UL)(i:Nat):UL:=us.getD i ⟨"",⟨"","","",false,none⟩,0,false⟩
noncomputable def wA(us:List UL)(i:Nat):Str:=(uA us i).w
noncomputable abbrev nsV(us:List UL):List V:=us.map fun u=>.str u.w
noncomputable def iH(n k:Nat):Nat:=cond (k==0) (n-1) (k-1)
structure fW where
 st:Str
 ka:Bool
 iw:Bool
abbrev eA(h:fW):V:=et h.st h.ka h.iw
theorem o7{us:List UL}{i:Nat}(h:i<us.length):us[i]?=some (uA us i):=by
 unfold uA;rw[List.getD_eq_getElem?_getD,PF h];rfl
theorem Gk{us:List UL}{i:Nat}(h:us.length<=i):wA us i="":=by
 unfold wA uA;rw[List.getD_eq_getElem?_getD,List.getElem?_eq_none h];rfl
theorem xd{us:List UL}{i:Nat}(h:i<us.length):(nsV us)[i]?=some (.str (wA us i)):=by
 rw[PQ,o7 h];rfl
theorem Bp{us:List UL}{i:Nat}(h:i<us.length):(us.map uV)[i]?=some (uV (uA us i)):=by
 rw[PQ,o7 h];rfl
theorem sE{xs:List V}{v:V}{i:Nat}(h:xs[i]?=some v)(hl:xs.length<=1000):gH xs (i:Int)=some v:=by
 obtain⟨h1,h2⟩:=PD.mp h
 rw[j0 rfl h1 (PK ‹_› (by decide)),h2]
theorem Gl{xs:List V}{v:V}(h:xs[xs.length-1]?=some v)(h0:0<xs.length)(hl:xs.length<=1000):gH xs (-1)=some v:=by
 have hs:aR (-1)=true:=by decide
 unfold gH
 rw[if_pos hs]
 have:seqIndex? (-1) xs.length=some (xs.length-1):=by
  unfold seqIndex?
  simp
  lia
 rw[this];exact h
theorem uN{xs:List V}{v:V}{k:Nat}(h:xs[iH xs.length k]?=some v)(h0:0<xs.length)(hl:xs.length<=1000):gH xs ((k:Int)-1)=some v:=by
 cases k with
 |zero=>exact Gl h h0 hl
 |succ k=>rw[show((k+1:Nat):Int)-1=(k:Nat) by lia];exact sE h hl
theorem y9{n k:Nat}(h0:0<n)(hk:k<n):iH n k<n:=by
 unfold iH
 cases k with
 |zero=>show n-1<n;exact Nat.sub_lt ‹_› (by decide)
 |succ k=>show k+1-1<n;lia
section
variable{P:Params}{d F:Nat}{J:Hp}{us:List UL}{k:Nat}{h:fW}
theorem ixN{i:Nat}(hi:i<us.length)(hl:us.length<=100):ai J (.lst (nsV us)) (.int (i:Int))=some (.str (wA us i)):=u6.trans (sE (xd hi) (by rw[PA];exact Py ‹_› (by decide)))
theorem ixP{i:Nat}(hi:i<us.length)(hl:us.length<=100):ai J (.lst (nsV us)) (.int ((i:Int)-1))=some (.str (wA us (iH us.length i))) :=
 u6.trans (uN (by rw[PA];exact xd (y9 (by lia) hi)) (by rw[PA];lia) (by rw[PA];exact Py ‹_› (by decide)))
theorem ixU{i:Nat}(hF:J[F]?=some (.list (us.map uV)))(hi:i<us.length)(hl:us.length<=100):ai J (.ref F) (.int (i:Int))=some (uV (uA us i)):=by
 rw[mq (eY hF)];exact sE (Bp hi) (by rw[PA];exact Py ‹_› (by decide))
theorem Ph{i:Nat}(hF:J[F]?=some (.list (us.map uV)))(hi:i<us.length)(hl:us.length<=100):ai J (.ref F) (.int ((i:Int)-1))=some (uV (uA us (iH us.length i))):=by
 rw[mq (eY hF)]
 exact uN (by rw[PA];exact Bp (y9 (by lia) hi)) (by rw[PA];lia) (by rw[PA];exact Py ‹_› (by decide))
def gw(us:List UL)(k:Nat):Nat:=cU (fun n=>wA us n=="SP") k
theorem np{f:Nat->Bool}:∀n,cU f n<=n
 |0=>PS _
 |n+1=>by
  show cond (f (n+1)) (cU f n) (n+1)<=n+1
  have:=np (f:=f) n
  cases f (n+1)with
  |true=>exact Nat.le_succ_of_le this
  |false=>exact PS _
def d6(us:List UL)(h:fW)(k:Nat):V:=bB (wA us k) (wA us (k+1)) (wA us (gw us k)) (uA us (gw us k)).s.g (uA us (k+1)).s.g (wA us (iH us.length (gw us k))) (uA us k).j h.iw (((gw us k:Nat):Int)==0) ((((k+1:Nat):Int)+1==((us.length:Nat):Int))||inS (wA us (k+2)) eu)
theorem Gm(hl:us.length<=100){t:Bool}:biI t "len" [.lst (nsV us)] J=some (.int us.length,J):=by
 show(if bp (nsV us)then some (V.int (nsV us).length,J)else _)=_
 rw[if_pos (ar (by rw[PA];exact Py ‹_› (by decide))),PA]
theorem Gn(hl:us.length<=100)(hk:k<us.length){uv:V}{kk:Int}{a b:Str}:gr (dO P d (mv (ahS P))) (aH P d (cz (ahS P))) (ahL uv (nsV us) (eA h) kk (k:Int) a b) J .next (ahL uv (nsV us) (eA h) kk (gw us k:Nat) a b) J :=
 Cc (L:=fun j=>ahL uv (nsV us) (eA h) kk j a b) (N:=k) (fun n=>wA us n=="SP") (fun n hn q=>O8 (PB (by lia)) (ixN (PK ‹_› ‹_›) hl) q) (fun n hn q=>O9 (PB (by lia)) (ixN (PK ‹_› ‹_›) hl) q) (Pa (P6 (by decide))) (PU (PU ‹_› ‹_›) (by decide))
theorem Ju(hl:us.length<=100)(hk:k+1<us.length)(hF:J[F]?=some (.list (us.map uV))):cP P (d+1) "" "_law_ahead" [.ref F,.lst (nsV us),.int ((k+1:Nat):Int),eA h] [] J (d6 us h k) J:=by
 have e:((k+1:Nat):Int)-1=(k:Int):=by lia
 have hs:gw us k<us.length:=PK (np k) (Qa ‹_›)
 have N1:ai J (.lst (nsV us)) (.int (((k+1:Nat):Int)-1))=some (.str (wA us k)):=by rw[e];exact ixN (Qa ‹_›) hl
 have U1:ai J (.ref F) (.int (((k+1:Nat):Int)-1))=some (uV (uA us k)):=by rw[e];exact ixU hF (Qa ‹_›) hl
 have W:gr (dO P d (mv (ahS P))) (aH P d (cz (ahS P))) (ahL (.ref F) (nsV us) (eA h) ((k+1:Nat):Int) (((k+1:Nat):Int)-1) (wA us k) (wA us (k+1))) J .next (ahL (.ref F) (nsV us) (eA h) ((k+1:Nat):Int) (gw us k:Nat) (wA us k) (wA us (k+1))) J:=by
  rw[e];exact Gn hl (Qa ‹_›)
 unfold d6
 by_cases q:k+2<us.length
 . have NX:ai J (.lst (nsV us)) (.int (((k+1:Nat):Int)+1))=some (.str (wA us (k+2))):=by rw[show((k+1:Nat):Int)+1=((k+2:Nat):Int) by lia];exact ixN q hl
   exact Gh N1 (ixN hk hl) W (ixN hs hl) U1 (ixU hF hs hl) (ixU hF hk hl) (ixP hs hl) (Gm hl) NX
 . have q1:(((k+1:Nat):Int)+1==((us.length:Nat):Int))=true:=P4.mpr (by lia)
   have:=Gi (P:=P) (d:=d) N1 (ixN hk hl) W (ixN hs hl) U1 (ixU hF hs hl) (ixU hF hk hl) (ixP hs hl) (Gm hl) q1
   rw[q1]at this ⊢
   exact this
def kq(us:List UL)(k:Nat):Bool:=wA us (cU (fun n=>inS (wA us n) ["SY","IS"]) k)=="NU"
theorem Cf(hl:us.length<=100)(hk:k<us.length):cP P (d+1) "" "_law_is_figure" [.lst (nsV us),.int (k:Int)] [] J (.bool (kq us k)) J:=by
 have hs:cU (fun n=>inS (wA us n) ["SY","IS"]) k<us.length:=PK (np k) hk
 exact Jr (Cc (L:=fun j=>fgL (nsV us) j) (N:=k) (fun n=>inS (wA us n) ["SY","IS"]) (fun n hn q=>OY (PB (by lia)) (ixN (PK ‹_› ‹_›) hl) q) (fun n hn q=>OZ (PB (by lia)) (ixN (PK ‹_› ‹_›) hl) q) (Nw (P6 (by decide))) (PU (PU ‹_› ‹_›) (by decide))) (PB (Qd _)) (ixN hs hl)
theorem Go:cP P (d+1) "" "_law_is_figure" [.lst (nsV us),.int (-1)] [] J (.bool false) J:=by
 refine Js (j := -1) ?_ (by decide)
 exact PG (mx (wt:=dO P d (mv (fgS P))) (body:=aH P d (cz (fgS P))) (fun _ l s=>l=fgL (nsV us) (-1)/\s=J) (fun l s=>l=fgL (nsV us) (-1)/\s=J) (fun n l s I=>by
  obtain⟨rfl,rfl⟩:=I
  exact⟨false,.next,_,_,Nw (by decide),.inl ⟨rfl,rfl,rfl,rfl⟩⟩) 0 (fgL (nsV us) (-1)) J qP (by decide) ⟨rfl,rfl⟩) fun l hh=>by
  obtain⟨s,⟨rfl,rfl⟩,w⟩:=hh
  exact w
def sF(a b:Str)(iw nu f1 f2:Bool):Bool:=cond (!iw) (cond ((inS a ["CL","CP","NU"]&&inS b ["PO","PR"])||(inS a ["PO","PR"]&&inS b ["OP","NU"])) true (inS a ["HY","IS","NU","SY"]&&(b=="NU")))
 (cond ((inS a ["PR","PO"]&&((b=="NU")||(inS b ["OP","HY"]&&nu)))||(inS a ["OP","HY"]&&(b=="NU"))) true (cond f1 (inS b ["NU","SY","IS","CL","CP","PO","PR"]) (inS a ["CL","CP"]&&(f2&&inS b ["PO","PR"]))))
theorem Gp{a b:Str}{iw nu f1 f2:Bool}:qg a b iw nu f1 f2=.bool (sF a b iw nu f1 f2):=by
 have c:∀(q x y:Bool),cond q (V.bool x) (.bool y)=.bool (cond q x y):=fun q x y=>by cases q <;> rfl
 unfold qg sF
 rw[c,c,c,c]
end
section
variable{P:Params}{d F:Nat}{J:Hp}{us:List UL}{k:Nat}{h:fW}
noncomputable abbrev sG(us:List UL)(k:Nat):List V:=cond (decide (k+2<us.length)) [V.str (wA us (k+2))] []
theorem sH(hl:us.length<=100)(hk:k+1<us.length):aG false J (.lst (nsV us)) (.int (((k+1:Nat):Int)+1)) (.int (((k+1:Nat):Int)+2)) .none=some (.lst (sG us k),J):=by
 have e1:((k+1:Nat):Int)+1=((k+2:Nat):Int):=by lia
 have e2:((k+1:Nat):Int)+2=((k+3:Nat):Int):=by lia
 rw[e1,e2,mr (xs:=nsV us) rfl (ar (by rw[PA];exact Py ‹_› (by decide))) (jP (dW (P5 (by decide) (Qd _)) (by lia))) (jP (dW (P5 (by decide) (Qd _)) (by lia)))]
 have:lB (nsV us) (some ((k+2:Nat):Int)) (some ((k+3:Nat):Int))=sG us k:=by
  unfold lB kms_lo kms_hi
  have h1:¬(((k+2:Nat):Int)<0):=by lia
  have h2:¬(((k+3:Nat):Int)<0):=by lia
  simp only[h1,h2,if_false]
  have hn:(nsV us).length=us.length:=PA ..
  rw[hn]
  by_cases q:k+2<us.length
  . have e3:Nat.min ((k+3:Nat):Int).toNat us.length-Nat.min ((k+2:Nat):Int).toNat us.length=1:=by
     show min _ _-min _ _=1
     grind
    have e4:min ((k+2:Nat):Int).toNat us.length=k+2:=by lia
    have e5:min ((k+3:Nat):Int).toNat us.length=k+3:=by grind
    rw[e4,e5,show k+3-(k+2)=1 by lia,sG,PB q,cond_true]
    have g:=xd q
    obtain⟨g1,g2⟩:=PD.mp g
    rw[List.drop_eq_getElem_cons g1,g2];rfl
  . have e4:min ((k+2:Nat):Int).toNat us.length=us.length:=by grind
    have e5:min ((k+3:Nat):Int).toNat us.length=us.length:=by grind
    rw[e4,e5,sG,P6 q,cond_false,Nat.sub_self];rfl
 rw[this];rfl
theorem Cg(x:Str)(hx:(""==x)=false):aM J .Eq (.lst (sG us k)) (.lst [.str x])=some (wA us (k+2)==x):=by
 by_cases q:k+2<us.length
 . rw[sG,PB q,cond_true]
   show some ((wA us (k+2)==x)&&true)=_
   rw[Bool.and_true]
 .rw[sG,P6 q,cond_false,Gk (Nat.not_lt.mp ‹_›),hx];rfl
def DW(us:List UL)(k:Nat):Bool:=cond (k==0) false (kq us (k-1))
theorem Gq(hl:us.length<=100)(hk:k<us.length):cP P (d+1) "" "_law_is_figure" [.lst (nsV us),.int ((k:Int)-1)] [] J (.bool (DW us k)) J:=by
 cases k with
 |zero=>exact Go
 |succ k=>rw[show((k+1:Nat):Int)-1=(k:Nat) by lia];exact Cf hl (Qa ‹_›)
def uO(us:List UL)(h:fW)(k:Nat):Bool:=sF (wA us k) (wA us (k+1)) h.iw (wA us (k+2)=="NU") (kq us k) (DW us k)
theorem LT(hl:us.length<=100)(hk:k+1<us.length):cP P (d+2) "" "_law_figures" [.lst (nsV us),.int ((k+1:Nat):Int),.bool h.iw] [] J (.bool (uO us h k)) J:=by
 have e:((k+1:Nat):Int)-1=(k:Int):=by lia
 have e2:((k+1:Nat):Int)-2=(k:Int)-1:=by lia
 have r:=LS (P:=P) (d:=d+1) (J:=J) (ns:=nsV us) (k:=((k+1:Nat):Int)) (a:=wA us k) (b:=wA us (k+1)) (iw:=h.iw) (f1:=kq us k) (f2:=DW us k) (by rw[e];exact ixN (Qa ‹_›) hl) (ixN hk hl) (sH hl hk) (Cg "NU" (by decide))
  (by rw[e];exact Cf hl (Qa ‹_›)) (by rw[e2];exact Gq hl (Qa ‹_›))
 rw[Gp]at r
 exact r
def xe(u:UL):Bool:=inS u.w ["AK","AS"]||dcO u.s.c 9676
theorem Gr{u:UL}:cP P (d+1) "" "_law_is_aksara" [uV u] [] J (.bool (xe u)) J:=Nv Gd
def riZ(us:List UL)(k:Nat):Int:=qe (fun n=>wA us n=="RI") k
def cT(us:List UL)(h:fW)(k:Nat):V:=bH (wA us k) (wA us (k+1)) (wA us (iH us.length k)) h.st (uA us k).s.e (uA us (k+1)).s.e (uA us k).s.g h.ka (uO us h k) (xe (uA us k)) (xe (uA us (k+1))) (xe (uA us (iH us.length k))) (wA us (k+2)=="VF") (dcO (uA us (k+1)).s.c 9676)
 (decide ((1:Int)<((k+1:Nat):Int))) ((((k+1:Nat):Int)-1-riZ us (k+1)).fmod 2==1) (uA us k).s.p
theorem Gs(hl:us.length<=100)(hk:k+1<us.length)(hF:J[F]?=some (.list (us.map uV))):cP P (d+3) "" "_law_joined" [.ref F,.lst (nsV us),.int ((k+1:Nat):Int),eA h] [] J (cT us h k) J:=by
 have e:((k+1:Nat):Int)-1=(k:Int):=by lia
 have e2:((k+1:Nat):Int)-2=(k:Int)-1:=by lia
 refine Gj (P:=P) (d:=d+2) (by rw[e];exact ixN (Qa ‹_›) hl) (ixN hk hl) (by rw[e2];exact ixP (Qa ‹_›) hl) (by rw[e];exact ixU hF (Qa ‹_›) hl) (ixU hF hk hl) (by rw[e2];exact Ph hF (Qa ‹_›) hl) (LT hl hk) Gr Gr Gr (sH hl hk) (Cg "VF" (by decide)) Gd ?_
 exact Gc (L:=fun j=>jnL (.ref F) (nsV us) (eA h) ((k+1:Nat):Int) j (wA us k) (wA us (k+1)) (xe (uA us k)) (xe (uA us (k+1)))) (N:=k+1) (fun n=>wA us n=="RI") (fun n hn q=>Pb (PB (Qd _)) (ixN (Nat.lt_trans ‹_› ‹_›) hl) q) (fun n hn q=>Pc (PB (Qd _)) (ixN (Nat.lt_trans ‹_› ‹_›) hl) q) (Pd (by decide)) (PU (PU ‹_› ‹_›) (by decide))
end
theorem Gu{asg:V->Loc->Hp->An->KL->Prop}{test:Loc->Hp->An->(Bool->Hp->An->Prop)->Prop}{elt:Loc->Hp->An->KQ->Prop}{it:It}{v:V}{J:Hp}(L:Option V->Loc){xs ys:List V}(hi:jx J v=some it)(hl:bX J it=some xs.length)(hg:∀i:Nat,iC J i it=xs[i]?)
 (e:xs.length=ys.length) (hn:ys.length<=1000) (hs:∀(i:Nat) x y o,xs[i]?=some x->ys[i]?=some y->∃o',uw asg test elt x (L o) J true y (L o') J):mn asg test elt false v (L none) J (.lst ys) J:=by
 refine PG (mw (t:=false) (v:=v) (it:=it) (loc:=L none) (J:=J) (asg:=asg) (test:=test) (elt:=elt) (N:=xs.length)
  (fun i l s acc=>s=J/\acc=ys.take i/\∃o,l=L o) hi hl (fun i l s acc hj I=>?_) (fun l s acc I=>?_) ⟨rfl,rfl,none,rfl⟩) fun acc hh=>?_
 . obtain⟨rfl,rfl,o,rfl⟩:=I
   have hx:=PF hj
   have hy:=PF (e▸hj:i<ys.length)
   obtain⟨o',h⟩:=hs i _ _ o hx hy
   refine⟨⟨hl,ar (by rw[Qb];exact Py (Nat.min_le_right _ _) (Py ‹_› (by decide)))⟩,xs[i],true,ys[i],_,_,(hg i).trans hx,h,rfl,?_,_,rfl⟩
   show ys.take i++[ys[i]]=_
   rw[List.take_add_one,hy];rfl
 . obtain⟨rfl,rfl,_⟩:=I
   exact⟨hl,ar (by rw[Qb];exact Py (Nat.min_le_right _ _) (Py ‹_› (by decide)))⟩
 . obtain⟨s,l,⟨rfl,rfl,_⟩,h⟩:=hh
   rw[e,List.take_length]at h
   exact h
section
variable{P:Params}{d F G:Nat}{J H s:Hp}{us:List UL}{k:Nat}{h:fW}{x:V}{ss uvs ns fs:List V}{st:Str}{o1 o2 o3:Option V}{how:V}
abbrev nmE(P:Params):Expr:=Mr 0 (stE (fQ 2 (cZ P).body))
noncomputable abbrev nmL(o:Option V):Loc:=[(".0",.v none),("unit",.v o)]
theorem Jv{w:Str}{sv:V}{m:Int}{j:Bool}:uw (bt P d (coG (nmE P)).target) (jZ P d (coG (nmE P)).ifs) (dO P d (coE (nmE P))) (bG w sv m j) (nmL o1) J true (.str w) (nmL (some (bG w sv m j))) J:=by
 intro k hk
 exact bd (zC (z0 hk)) (by kernel_rfl)
noncomputable abbrev Gv(P:Params)(d:Nat)(v:V)(loc:Loc)(J:Hp)(x:V)(s:Hp):Prop:=mn (bt P d (coG (nmE P)).target) (jZ P d (coG (nmE P)).ifs) (dO P d (coE (nmE P))) false v loc J x s
noncomputable abbrev Ci(P:Params)(d:Nat)(it:It)(loc:Loc)(J:Hp)(l:Loc)(s:Hp):Prop:=ge (bt P d (bQ (y8 P))) (aH P d (cz (y8 P))) (bQ (y8 P)) it loc J .next l s
theorem Gw(q:aM J .Eq (.lst ss) (.lst [])=some false)(U:cP P d "" "_law_units" [.lst ss,.str h.st] [] J (.ref F) H)
 (C:Gv P d (.ref F) (nmL none) H (.lst ns) H) (hs:(ba (H++[ab.list []]) (.ref F)).isSome=true)
 (L:Ci P d (.enm (.ref F)) (jA (.lst ss) (eA h) F ns H.length none none none) (H++[ab.list []]) (jA (.lst ss) (eA h) F ns G o1 o2 o3) s)
 (A:c8 false .Add (.ref G) (.lst [.str "must"]) s=some (.lst fs,s)) :
 cP P (d+1) "" "_law_places" [.lst ss,eA h] [] J (.lst fs) s:=by
 exact af (cZ P) ([V.lst ss,eA h]) (fun z=>(zT q (zD U (zA (rfl:(0:Int)=(0:Int)) (zF C (zA hs (zL L (zP A (z0 z)).R)).R.R.R).R).R).C.R.R.F).R)
theorem Gx:cP P (d+1) "" "_law_places" [.lst [],how] [] J (.lst [.str "no"]) J:=by
 exact af (cZ P) ([V.lst [],how]) (fun z=>(z0 z).R.T.C.R)
end
noncomputable def jB:V->Str
 |.str s=>s
 |_=>""
noncomputable def orV(v w:V):V:=match v with
 |.none=>w
 |v=>v
theorem okC{R:V->Prop}{q:Bool}{x y:V}(hx:R x)(hy:R y):R (cond q x y):=by cases q <;> assumption
theorem Cj(us:List UL)(h:fW)(k:Nat):d6 us h k=.none\/∃x,d6 us h k=.str x:=by
 unfold d6 bB
 exact okC (R:=fun v=>v=.none\/∃x,v=.str x) (.inr ⟨_,rfl⟩) (okC (R:=fun v=>v=.none\/∃x,v=.str x) (.inr ⟨_,rfl⟩) (okC (R:=fun v=>v=.none\/∃x,v=.str x) (.inr ⟨_,rfl⟩) (okC (R:=fun v=>v=.none\/∃x,v=.str x) (.inr ⟨_,rfl⟩) (okC (R:=fun v=>v=.none\/∃x,v=.str x) (.inr ⟨_,rfl⟩) (okC (R:=fun v=>v=.none\/∃x,v=.str x) (.inr ⟨_,rfl⟩) (okC (R:=fun v=>v=.none\/∃x,v=.str x) (.inr ⟨_,rfl⟩) (okC (R:=fun v=>v=.none\/∃x,v=.str x) (.inr ⟨_,rfl⟩) (okC (R:=fun v=>v=.none\/∃x,v=.str x) (.inr ⟨_,rfl⟩) (okC (R:=fun v=>v=.none\/∃x,v=.str x) (.inr ⟨_,rfl⟩) (.inl rfl))))))))))
theorem za(us:List UL)(h:fW)(k:Nat):∃x,cT us h k=.str x:=by
 have c:∀ {q:Bool}{x y:V},(∃z,x=.str z)->(∃z,y=.str z)->∃z,cond q x y=.str z:=fun hx hy=>okC (R:=fun v=>∃x,v=.str x) hx hy
 have n:∃z,V.str "no"=.str z:=⟨_,rfl⟩
 have m:∃z,V.str "may"=.str z:=⟨_,rfl⟩
 unfold cT bH
 exact c (c n m) (c n (c n (c n (c n (c n (c n (c n (c n (c n (c n (c n (c n (c n m)))))))))))))
noncomputable def eB(us:List UL)(h:fW):Nat->Str
 |0=>"no"
 |k+1=>jB (orV (d6 us h k) (cT us h k))
def cO(us:List UL)(h:fW)(i:Nat):List Str:=eB us h i::List.replicate ((uA us i).m-1) "no"
noncomputable def aI(us:List UL)(h:fW):Nat->List Str
 |0=>[]
 |i+1=>aI us h i++cO us h i
def dM(us:List UL)(h:fW):List Str:=aI us h us.length++[("must":Str)]
theorem Gy(n:Nat):(List.replicate n [V.str "no"]).flatten=List.replicate n (V.str "no"):=by
 induction n with
 |zero=>rfl
 |succ n ih=>rw[List.replicate_succ,List.replicate_succ,List.flatten_cons,ih];rfl
section
variable{P:Params}{d F G:Nat}{J H s:Hp}{us:List UL}{k i:Nat}{h:fW}{fs:List Str}{sv:V}{o1 o2 o3:Option V}
theorem kP{a b:List Str}:svs (a++b)=svs a++svs b:=PW
theorem DX{n:Nat}(x:Str):svs fs++[V.str x]++List.replicate n (V.str "no")=svs (fs++x::List.replicate n "no"):=by
 rw[kP,svs,svs,List.map_cons,List.map_replicate,Pw];rfl
theorem Gz(hl:us.length<=100)(hi:i<us.length)(hm1:1<=(uA us i).m)(hm2:(uA us i).m<=200)(hf:fs.length<=100000)(hF:H[F]?=some (.list (us.map uV))):
 ∃o1' o2' o3',kO P (d+3) (.tup [.int (i:Int),uV (uA us i)]) (jA sv (eA h) F (nsV us) H.length o1 o2 o3) (H++[ab.list (svs fs)]) .next (jA sv (eA h) F (nsV us) (H.length+1) o1' o2' o3') (H++[ab.list (svs (fs++[eB us h i]))]++[ab.list (svs (fs++cO us h i))]):=by
 have hlen:∀x:Str,(svs fs++[V.str x]).length=fs.length+1:=fun x=>by rw[Px,PA];rfl
 have k1:cg (a_T P) (H++[ab.list (svs fs)]) (.ref H.length) "append"=some (.bi "list.append"):=aZ aW
 have k2:∀x:Str,aS (H++[ab.list (svs fs)]) "list.append" (.ref H.length) [V.str x]=some (.none,H++[ab.list (svs fs++[V.str x])]):=fun x=>kN (ar (by rw[PA];exact Py ‹_› (by decide)))
 have k3:∀x:Str,c8 false .Mult (.lst [V.str "no"]) (.int (((uA us i).m:Int)-1)) (H++[ab.list (svs fs++[V.str x])])=some (.lst (List.replicate ((uA us i).m-1) (V.str "no")),H++[ab.list (svs fs++[V.str x])]):=fun x=>by
  rw[yW (by lia) (by lia) (by show 1<1000;decide),show(((uA us i).m:Int)-1).toNat=(uA us i).m-1 by lia,Gy];rfl
 have k4:∀x:Str,c8 true .Add (.ref H.length) (.lst (List.replicate ((uA us i).m-1) (V.str "no"))) (H++[ab.list (svs fs++[V.str x])])=some (.ref (H++[ab.list (svs fs++[V.str x])]).length,H++[ab.list (svs fs++[V.str x])]++[ab.list (svs fs++[V.str x]++List.replicate ((uA us i).m-1) (V.str "no"))]):=fun x =>
  Jt (ar (by rw[Px,hlen,List.length_replicate];lia))
 have ln:∀x:Str,(H++[ab.list (svs fs++[V.str x])]).length=H.length+1:=fun x=>by rw[Px];rfl
 have hF':∀c,(H++[c])[F]?=some (.list (us.map uV)):=fun c=>bD hF
 have fin:∀ {x:Str},eB us h i=x->(∃o1' o2' o3',kO P (d+3) (.tup [.int (i:Int),uV (uA us i)]) (jA sv (eA h) F (nsV us) H.length o1 o2 o3) (H++[ab.list (svs fs)]) .next (jA sv (eA h) F (nsV us) (H++[ab.list (svs fs++[V.str x])]).length o1' o2' o3') (H++[ab.list (svs fs++[V.str x])]++[ab.list (svs fs++[V.str x]++List.replicate ((uA us i).m-1) (V.str "no"))])) ->
  ∃o1' o2' o3',kO P (d+3) (.tup [.int (i:Int),uV (uA us i)]) (jA sv (eA h) F (nsV us) H.length o1 o2 o3) (H++[ab.list (svs fs)]) .next (jA sv (eA h) F (nsV us) (H.length+1) o1' o2' o3') (H++[ab.list (svs (fs++[eB us h i]))]++[ab.list (svs (fs++cO us h i))]):=fun{x} e r=>by
  unfold cO
  rw[e,<- DX,kP,<- ln x]
  exact r
 cases i with
 |zero=>exact fin rfl ⟨_,_,_,Pe k1 (k2 _) (k3 _) (k4 _)⟩
 |succ k =>
  have q0:(((k+1:Nat):Int)==0)=false:=PC.mpr (by lia)
  have A:=Ju (P:=P) (d:=d+2) (h:=h) hl hi (hF' (ab.list (svs fs)))
  have σ:=Gs (P:=P) (d:=d) (h:=h) hl hi (hF' (ab.list (svs fs)))
  have hw:eB us h (k+1)=jB (orV (d6 us h k) (cT us h k)):=rfl
  rcases Cj us h k with r | ⟨x,r⟩
  . obtain⟨y,ry⟩:=za us h k
    rw[r,ry]at hw
    rw[r]at A
    rw[ry]at σ
    exact fin hw ⟨_,_,_,Pg q0 A σ k1 (k2 _) (k3 _) (k4 _)⟩
  . rw[r]at hw A
    exact fin hw ⟨_,_,_,Pf q0 A k1 (k2 _) (k3 _) (k4 _)⟩
theorem lS(hm:∀i<us.length,(uA us i).m<=200):∀i,i<=us.length->(aI us h i).length<=201*i
 |0,_=>PS _
 |i+1,hi=>by
  have:=lS hm i (Nat.le_of_succ_le ‹_›)
  have:=hm i (Nat.lt_of_succ_le ‹_›)
  unfold aI cO
  rw[Px,P8,List.length_replicate];lia
theorem GA(hl:us.length<=100)(hm1:∀i<us.length,1<=(uA us i).m)(hm2:∀i<us.length,(uA us i).m<=200):
 ∃o1 o2 o3 junk,Ci P (d+3) (.enm (.ref J.length)) (jA sv (eA h) J.length (nsV us) (J.length+1) none none none) (J++[ab.list (us.map uV)]++[ab.list []]) (jA sv (eA h) J.length (nsV us) (J++[ab.list (us.map uV)]++junk).length o1 o2 o3) (J++[ab.list (us.map uV)]++junk++[ab.list (svs (aI us h us.length))]):=by
 have hF:∀junk:Hp,(J++[ab.list (us.map uV)]++junk)[J.length]?=some (.list (us.map uV)):=fun junk=>bD aW
 have hN:∀junk:Hp,bX (J++[ab.list (us.map uV)]++junk) (.enm (.ref J.length))=some us.length:=fun junk=>by
  show(ba _ _).map _=_
  rw[b0 (hF junk)];show some (us.map uV).length=_;rw[PA]
 refine PG (eZ (N:=us.length) (it:=.enm (.ref J.length)) (loc:=jA sv (eA h) J.length (nsV us) (J.length+1) none none none) (J:=J++[ab.list (us.map uV)]++[ab.list []]) (tg:=bQ (y8 P)) (asg:=bt P (d+3) (bQ (y8 P))) (body:=aH P (d+3) (cz (y8 P)))
  (fun i l s=>∃junk o1 o2 o3,junk.length=i/\s=J++[ab.list (us.map uV)]++junk++[ab.list (svs (aI us h i))]/\l=jA sv (eA h) J.length (nsV us) (J++[ab.list (us.map uV)]++junk).length o1 o2 o3) (fun i l s hi I=>?_) (fun l s I=>?_) (hN _) (by kernel_rfl) ⟨[],none,none,none,rfl,by rw[List.append_nil];rfl,by rw[List.append_nil,Px];rfl⟩) fun l hh=>?_
 . obtain⟨junk,o1,o2,o3,hj,rfl,rfl⟩:=I
   obtain⟨p1,p2,p3,st⟩:=Gz (P:=P) (d:=d) (h:=h) (sv:=sv) (o1:=o1) (o2:=o2) (o3:=o3) (fs:=aI us h i) hl hi (hm1 i hi) (hm2 i hi) (by have:=lS (h:=h) hm2 i (Nat.le_of_lt ‹_›);lia) (hF junk)
   refine⟨by rw[Pw];exact hN _,_,.next,_,_,?_,st,.inl rfl,junk++[ab.list (svs (aI us h i++[eB us h i]))],p1,p2,p3,by rw[Px,hj];rfl,by rw[<- Pw];rfl,by rw[<- Pw,Px (as:=J++[ab.list (us.map uV)]++junk)];rfl⟩
   show((ba _ _).bind (·[i]?)).map _=_
   rw[Pw,b0 (hF _)]
   show((us.map uV)[i]?).map _=_
   rw[Bp hi];rfl
 . obtain⟨junk,_,_,_,_,rfl,_⟩:=I
   rw[Pw];exact hN _
 . obtain⟨s,⟨junk,o1,o2,o3,_,rfl,rfl⟩,w⟩:=hh
   exact⟨o1,o2,o3,junk,w⟩
end
theorem LU{st:Str}{us:List UL}{s:aw}{b:Nat}(h:∀u∈us,1<=u.m/\u.m<=b)(hb:1<=b):∀u∈eH st us s,1<=u.m/\u.m<=b+1:=by
 have a1:∀u∈us++[lQ (aN st s) s],1<=u.m/\u.m<=b+1:=fun u hu=>by
  rcases PY.mp hu with hu | hu
  .have:=h u hu;lia
  .rw[PH.mp hu];exact⟨PS 1,by show 1<=b+1;exact Nat.le_add_left _ _⟩
 unfold eH
 rcases List.eq_nil_or_concat us with rfl | ⟨us0,u0,rfl⟩
 .exact a1
 . rw[P1,List.getLast?_concat,List.dropLast_concat]
   dsimp only
   cases dA (aN st s) && !fJ u0.w with
   |false=>rw[cond_false];rw[P1]at a1;exact a1
   |true =>
    intro u hu
    rw[cond_true]at hu
    rcases PY.mp hu with hu | hu
    .have:=h u (by rw[P1];exact List.mem_append_left _ hu);lia
    . have:=h u0 (by rw[P1];exact List.mem_append_right _ (PH.mpr rfl))
      rw[PH.mp hu]
      exact⟨by show 1<=u0.m+1;exact Nat.le_add_left _ _,by show u0.m+1<=b+1;lia⟩
theorem Ck{st:Str}:∀(ss:List aw) (us:List UL) (b:Nat),1<=b->(∀u∈us,1<=u.m/\u.m<=b)->∀u∈ss.foldl (eH st) us,1<=u.m/\u.m<=b+ss.length
 |[],us,b,hb,h=>h
 |s::ss,us,b,hb,h=>fun u hu=>by
  have:=Ck ss (eH st us s) (b+1) (Nat.le_add_left _ _) (LU h hb) u hu
  rw[P8];lia
theorem iI{st:Str}{ss:List aw}{i:Nat}(hi:i<(ao st ss).length):1<=(uA (ao st ss) i).m/\(uA (ao st ss) i).m<=1+ss.length :=
 Ck ss [] 1 (PS _) (fun u hu=>absurd hu List.not_mem_nil) _ (List.mem_of_getElem? (o7 hi))
section
variable{P:Params}{d F:Nat}{J:Hp}{ss:List aw}{h:fW}{x:Str}{xs:List V}{o1:Option V}
theorem zb{n:Nat}:∀l:List Str,refsL n (svs l)=true
 |[]=>rfl
 |x::l=>zb (n:=n) l
theorem GB(h0:ss≠[])(hl:ss.length<=90)(hc:J.all (bT J.length)=true):cP P (d+4) "" "_law_places" [.lst (ss.map av),eA h] [] J (.lst (svs (dM (ao h.st ss) h))) J:=by
 have hu:=lR (st:=h.st) ss []
 have hu:(ao h.st ss).length<=90:=by unfold ao;simp at hu;exact Py ‹_› ‹_›
 have U:=Gg (P:=P) (d:=d+1) (J:=J) (st:=h.st) hl
 obtain⟨o1,o2,o3,junk,L⟩:=GA (P:=P) (d:=d) (J:=J) (h:=h) (sv:=.lst (ss.map av)) (us:=ao h.st ss) (Py ‹_› (by decide)) (fun i hi=>(iI hi).1) (fun i hi=>by have:=iI hi;lia)
 have q:aM J .Eq (.lst (ss.map av)) (.lst [])=some false:=by
  cases ss with
  |nil=>exact absurd rfl h0
  |cons _ _=>rfl
 have C:Gv P (d+3) (.ref J.length) (nmL none) (J++[ab.list ((ao h.st ss).map uV)]) (.lst (nsV (ao h.st ss))) (J++[ab.list ((ao h.st ss).map uV)]):=by
  refine Gu (L:=nmL) (xs:=(ao h.st ss).map uV) (JZ aW) ?_ (fun i=>?_) (by rw[PA,PA]) (by rw[PA];exact Py ‹_› (by decide)) (fun i x y o hx hy=>?_)
  . show(cW _ _).map _=_
    rw[eY aW];rfl
  . show(cW _ _).bind _=_
    rw[eY aW];rfl
  . rw[PQ]at hx hy
    obtain⟨u,hu1,hu2⟩:=P9.mp hx
    rw[hu1]at hy
    cases hy
    cases hu2
    exact⟨_,Jv⟩
 have hs:(ba (J++[ab.list ((ao h.st ss).map uV)]++[ab.list []]) (.ref J.length)).isSome=true:=by rw[b0 (bD aW)];rfl
 have A:c8 false .Add (.ref (J++[ab.list ((ao h.st ss).map uV)]++junk).length) (.lst [.str "must"]) (J++[ab.list ((ao h.st ss).map uV)]++junk++[ab.list (svs (aI (ao h.st ss) h (ao h.st ss).length))])=some (.lst (svs (dM (ao h.st ss) h)),J++[ab.list ((ao h.st ss).map uV)]++junk++[ab.list (svs (aI (ao h.st ss) h (ao h.st ss).length))]):=by
  have hp:=lS (us:=ao h.st ss) (h:=h) (fun i hi=>by have:=iI hi;lia) (ao h.st ss).length (PS _)
  unfold dM
  rw[kP]
  exact rZ (b0 aW) rfl (ar (by rw[Px,PA];show _+1<=_;lia)) (fun _ e=>nomatch e) (fun _ e=>nomatch e)
 rw[show J.length+1=(J++[ab.list ((ao h.st ss).map uV)]).length by rw[Px];rfl]at L
 have r:=Gw (P:=P) (d:=d+3) (h:=h) q U C hs L A
 have e:(J++[ab.list ((ao h.st ss).map uV)]++junk++[ab.list (svs (aI (ao h.st ss) h (ao h.st ss).length))]).take J.length=J:=by
  rw[Pw,Pw];exact List.take_left
 have g:=my r (zb _) (by rw[e];exact hc)
 rw[e]at g
 exact g
end
noncomputable def GD(x:Str):aw:=⟨x,"Lo","N",false,none⟩
noncomputable abbrev n1L:List Str:=["BK","CR","LF","NL","SP","ZW","WJ","GL","CM","ZWJ","CL","EX","IS"]
noncomputable abbrev n2L:List Str:=["SY","OP","CP","NS","B2","CB","BA","HY","BB","HL","AL","IN","NU","PR","PO","ID","EB","EM","RI","CJ"]
noncomputable abbrev n3L:List Str:=["JL","JV","JT","H2","H3","AK","AP","AS","VF","VI","AI","SG","XX","SA"]
noncomputable def xS(n g e:Str)(p:Bool)(c:Option Int):aw:=⟨n,g,e,p,c⟩
noncomputable def zc:List aw:=[xS "QU" "Pi" "N" false none,xS "QU" "Pf" "N" false none,xS "QU" "Po" "N" false none,xS "OP" "Ps" "W" false none,xS "CP" "Pe" "F" false none,xS "OP" "Ps" "H" false none,
 xS "SA" "Mn" "N" false none,xS "SA" "Mc" "N" false none,xS "ID" "Cn" "N" true none,xS "AL" "So" "N" false (some 9676),xS "NS" "Lm" "N" false (some 12293),xS "ID" "So" "N" true none]
def bK:List aw:=(n1L++n2L++n3L).map GD++zc
abbrev plV(l:List Str):List V:=l.map fun x=>av (GD x)
theorem DY{asg:V->Loc->Hp->An->KL->Prop}{test:Loc->Hp->An->(Bool->Hp->An->Prop)->Prop}{elt:Loc->Hp->An->KQ->Prop}{it:It}{v:V}{J:Hp}{t:Bool}(L:Option V->Loc){xs ys:List V}(hi:jx J v=some it)(hl:bX J it=some xs.length)(hg:∀i:Nat,iC J i it=xs[i]?)
 (e:xs.length=ys.length) (hn:ys.length<=1000) (hs:∀(i:Nat) x y o,xs[i]?=some x->ys[i]?=some y->∃o',uw asg test elt x (L o) J true y (L o') J):mn asg test elt t v (L none) J (bw t ys J).1 (bw t ys J).2:=by
 refine PG (mw (t:=t) (v:=v) (it:=it) (loc:=L none) (J:=J) (asg:=asg) (test:=test) (elt:=elt) (N:=xs.length)
  (fun i l s acc=>s=J/\acc=ys.take i/\∃o,l=L o) hi hl (fun i l s acc hj I=>?_) (fun l s acc I=>?_) ⟨rfl,rfl,none,rfl⟩) fun acc hh=>?_
 . obtain⟨rfl,rfl,o,rfl⟩:=I
   have hx:=PF hj
   have hy:=PF (e▸hj:i<ys.length)
   obtain⟨o',h⟩:=hs i _ _ o hx hy
   refine⟨⟨hl,ar (by rw[Qb];exact Py (Nat.min_le_right _ _) (Py ‹_› (by decide)))⟩,xs[i],true,ys[i],_,_,(hg i).trans hx,h,rfl,?_,_,rfl⟩
   show ys.take i++[ys[i]]=_
   rw[List.take_add_one,hy];rfl
 . obtain⟨rfl,rfl,_⟩:=I
   exact⟨hl,ar (by rw[Qb];exact Py (Nat.min_le_right _ _) (Py ‹_› (by decide)))⟩
 . obtain⟨s,l,⟨rfl,rfl,_⟩,h⟩:=hh
   rw[e,List.take_length]at h
   exact h
section
variable{P:Params}{d F:Nat}{J s1 s2 s3:Hp}{x:Str}{xs rs:List V}{o1 o2 o3:Option V}{names:List Str}
abbrev soE(P:Params):Expr:=stE (fQ 0 (eg P).body)
noncomputable abbrev GE(o:Option V):Loc:=[(".0",.v none),("name",.v o)]
noncomputable abbrev soL(F:Nat)(o:Option V):Loc:=[("name",.v o),("found",.v (some (.ref F)))]
abbrev soS(P:Params)(i:Nat):Stmt:=fQ i (eg P).body
theorem Jw:uw (bt P d (coG (soE P)).target) (jZ P d (coG (soE P)).ifs) (dO P d (coE (soE P))) (.str x) (GE o1) J true (bA x "Lo" "N" false .none) (GE (some (.str x))) J:=by
 intro k hk
 exact bd (zR (z0 hk)) (by kernel_rfl)
theorem LV(hl:xs.length<=100):gf (bt P d (bQ (soS P 1))) (aH P d (cz (soS P 1))) (.str x) (soL J.length o1) (J++[ab.list xs]) .next (soL J.length (some (.str x))) (J++[ab.list (xs++[bA x "Lo" "N" false .none])]):=by
 intro k hk
 have k1:=aZ (T:=a_T P) (aW (H:=J) (c:=ab.list xs))
 have k2:=kN (xs:=xs) (x:=bA x "Lo" "N" false .none) (J:=J) (ar (Py ‹_› (by decide)))
 exact bd (zQ (zR (zK k1 (zR (zP k2 (z0 hk)))))) (by kernel_rfl)
theorem Jx(hl:xs.length<=100):gf (bt P d (bQ (soS P 2))) (aH P d (cz (soS P 2))) (.str x) (soL J.length o1) (J++[ab.list xs]) .next (soL J.length (some (.str x))) (J++[ab.list (xs++[bA x "Lo" "N" false .none])]):=by
 intro k hk
 have k1:=aZ (T:=a_T P) (aW (H:=J) (c:=ab.list xs))
 have k2:=kN (xs:=xs) (x:=bA x "Lo" "N" false .none) (J:=J) (ar (Py ‹_› (by decide)))
 exact bd (zQ (zR (zK k1 (zR (zP k2 (z0 hk)))))) (by kernel_rfl)
noncomputable abbrev GF(P:Params)(d:Nat)(v:V)(loc:Loc)(J:Hp)(x:V)(s:Hp):Prop:=mn (bt P d (coG (soE P)).target) (jZ P d (coG (soE P)).ifs) (dO P d (coE (soE P))) true v loc J x s
noncomputable abbrev xf(P:Params)(d i:Nat)(it:It)(loc:Loc)(J:Hp)(l:Loc)(s:Hp):Prop:=ge (bt P d (bQ (soS P i))) (aH P d (cz (soS P i))) (bQ (soS P i)) it loc J .next l s
theorem Pi(C:GF P d (.tup (svs n1L)) (GE none) J (.ref J.length) s1)(L1:xf P d 1 (.seq (.tup (svs n2L))) (soL J.length none) s1 (soL J.length o1) s2)(L2:xf P d 2 (.seq (.tup (svs n3L))) (soL J.length o1) s2 (soL J.length o2) s3)
 (A:c8 false .Add (.ref J.length) (.lst ((zc.take 3).map av)) s3=some (.lst (plV (n1L++n2L++n3L)++(zc.take 3).map av),s3)) :
 cP P (d+1) "" "_law_sorts" [] [] J (.lst (bK.map av)) s3:=by
 exact af (eg P) ([]) (fun z=>(zA (rfl:(0:Int)=(0:Int)) (zF C (zL L1 (zL L2 (zP A (z0 z).C.R.R.R.R.C.R.R.R.R.R.C.R.R.R.R.R).R.R.R.R.R).C.R).C.R).R.R).R)
end
noncomputable abbrev aP(P:Params)(d:Nat)(b:Int)(s:Hp)(r:Int)(s':Hp):Prop:=cP P d "" "_law_draw" [.ref 1,.int b] [] s (.int r) s'
noncomputable abbrev dR(P:Params)(d:Nat)(xs:List V)(s:Hp)(v:V)(s':Hp):Prop:=cP P d "" "_law_pick" [.ref 1,.lst xs] [] s v s'
section
variable{P:Params}{d:Nat}{J s s1 s2 s3:Hp}{x v:V}{xs ys sv sm out:List V}{o:Option V}{r m:Int}{names:List Str}{base:List V}{o1:Option V}{t:Int}{h g:ab}
theorem GG(hb:base.length<=40)(hn:names.length<=40):∃o',xf P d 1 (.seq (.tup (svs names))) (soL J.length o1) (J++[ab.list base]) (soL J.length o') (J++[ab.list (base++plV names)]):=by
 have hN:∀s,bX s (.seq (.tup (svs names)))=some names.length:=fun s=>by show some (svs names).length=_;rw[PA]
 refine PG (eZ (N:=names.length) (it:=.seq (.tup (svs names))) (loc:=soL J.length o1) (J:=J++[ab.list base]) (tg:=bQ (soS P 1)) (asg:=bt P d (bQ (soS P 1))) (body:=aH P d (cz (soS P 1)))
  (fun i l s=>s=J++[ab.list (base++plV (names.take i))]/\∃o',l=soL J.length o') (fun i l s hi I=>?_) (fun l s I=>hN _) (hN _) (by kernel_rfl) ⟨by rw[List.take_zero];show _=J++[ab.list (base++[])];rw[List.append_nil],o1,rfl⟩) fun l hh=>?_
 . obtain⟨rfl,o',rfl⟩:=I
   refine⟨hN _,.str names[i],.next,_,_,?_,LV (by rw[Px,PA,Qb];grind),.inl rfl,?_,_,rfl⟩
   . show(some (svs names)).bind (·[i]?)=_
     rw[Option.bind_some,PQ,PF hi];rfl
   .rw[List.take_add_one,PF hi,Pw,plV,plV,PW];rfl
 . obtain⟨s,⟨rfl,o',rfl⟩,w⟩:=hh
   rw[List.take_length]at w
   exact⟨o',w⟩
theorem GH(hb:base.length<=40)(hn:names.length<=40):∃o',xf P d 2 (.seq (.tup (svs names))) (soL J.length o1) (J++[ab.list base]) (soL J.length o') (J++[ab.list (base++plV names)]):=by
 have hN:∀s,bX s (.seq (.tup (svs names)))=some names.length:=fun s=>by show some (svs names).length=_;rw[PA]
 refine PG (eZ (N:=names.length) (it:=.seq (.tup (svs names))) (loc:=soL J.length o1) (J:=J++[ab.list base]) (tg:=bQ (soS P 2)) (asg:=bt P d (bQ (soS P 2))) (body:=aH P d (cz (soS P 2)))
  (fun i l s=>s=J++[ab.list (base++plV (names.take i))]/\∃o',l=soL J.length o') (fun i l s hi I=>?_) (fun l s I=>hN _) (hN _) (by kernel_rfl) ⟨by rw[List.take_zero];show _=J++[ab.list (base++[])];rw[List.append_nil],o1,rfl⟩) fun l hh=>?_
 . obtain⟨rfl,o',rfl⟩:=I
   refine⟨hN _,.str names[i],.next,_,_,?_,Jx (by rw[Px,PA,Qb];lia),.inl rfl,?_,_,rfl⟩
   . show(some (svs names)).bind (·[i]?)=_
     rw[Option.bind_some,PQ,PF hi];rfl
   .rw[List.take_add_one,PF hi,Pw,plV,plV,PW];rfl
 . obtain⟨s,⟨rfl,o',rfl⟩,w⟩:=hh
   rw[List.take_length]at w
   exact⟨o',w⟩
theorem Jy(hc:J.all (bT J.length)=true):cP P (d+1) "" "_law_sorts" [] [] J (.lst (bK.map av)) J:=by
 have C:GF P d (.tup (svs n1L)) (GE none) J (.ref J.length) (J++[ab.list (plV n1L)]) :=
  DY (t:=true) (L:=GE) (xs:=svs n1L) (ys:=plV n1L) (it:=.seq (.tup (svs n1L))) rfl rfl (fun i=>rfl) (by rw[PA,PA]) (by rw[PA];decide) (fun i x y o hx hy=>by
   rw[PQ]at hx hy
   obtain⟨u,hu1,hu2⟩:=P9.mp hx
   rw[hu1]at hy
   cases hy
   cases hu2
   exact⟨_,Jw⟩)
 obtain⟨o1,L1⟩:=GG (P:=P) (d:=d) (J:=J) (o1:=none) (base:=plV n1L) (names:=n2L) (by decide) (by decide)
 obtain⟨o2,L2⟩:=GH (P:=P) (d:=d) (J:=J) (o1:=o1) (base:=plV n1L++plV n2L) (names:=n3L) (by decide) (by decide)
 have e:plV (n1L++n2L++n3L)=plV n1L++plV n2L++plV n3L:=rfl
 have r:=Pi (P:=P) (d:=d) (J:=J) C L1 L2 (by rw[e];exact rZ (b0 aW) rfl (by decide) (fun _ e=>nomatch e) (fun _ e=>nomatch e))
 have e2:(J++[ab.list (plV n1L++plV n2L++plV n3L)]).take J.length=J:=List.take_left
 have q:=my r rfl (by rw[e2];exact hc)
 rw[e2]at q
 exact q
abbrev d1E(P:Params):Expr:=stE (fQ 1 (em P).body)
abbrev d2E(P:Params):Expr:=stE (fQ 2 (em P).body)
noncomputable abbrev d1L(sv:List V)(o:Option V):Loc:=[(".0",.v none),("k",.v o),("_law_pick",.g),("deck",.f (.ref 1)),("sorts",.f (.lst sv))]
noncomputable abbrev d2L(sv sm:List V)(o:Option V):Loc:=[(".0",.v none),("k",.v o),("_law_draw",.g),("_law_pick",.g),("deck",.f (.ref 1)),("some",.f (.lst sm)),("sorts",.f (.lst sv))]
noncomputable abbrev Cm(P:Params)(d:Nat)(E:Expr)(x:V)(loc:Loc)(J:Hp)(v:V)(l:Loc)(s:Hp):Prop:=uw (bt P d (coG E).target) (jZ P d (coG E).ifs) (dO P d (coE E)) x loc J true v l s
noncomputable abbrev GI(P:Params)(d:Nat)(E:Expr)(v:V)(loc:Loc)(J:Hp)(x:V)(s:Hp):Prop:=mn (bt P d (coG E).target) (jZ P d (coG E).ifs) (dO P d (coE E)) false v loc J x s
theorem Pj(p:dR P d sv s v s1):Cm P d (d1E P) x (d1L sv o) s v (d1L sv (some x)) s1:=by
 unfold dR at p
 intro k hk
 exact bd (zR (zD p (z0 hk))) (by kernel_rfl)
theorem Pk(q:aP P d 4 s r s1)(q1:decide (0<r)=true)(p:dR P d sm s1 v s2):Cm P d (d2E P) x (d2L sv sm o) s v (d2L sv sm (some x)) s2:=by
 unfold dR at p
 unfold aP at q
 intro k hk
 exact bd (zR (zD q (zC (zH q1 (zR (zD p (z0 hk))))))) (by kernel_rfl)
theorem Pl(q:aP P d 4 s r s1)(q1:decide (0<r)=false)(p:dR P d sv s1 v s2):Cm P d (d2E P) x (d2L sv sm o) s v (d2L sv sm (some x)) s2:=by
 unfold dR at p
 unfold aP at q
 intro k hk
 exact bd (zR (zD q (zC (zH q1 (zR (zD p (z0 hk))))))) (by kernel_rfl)
theorem Jz(S:cP P d "" "_law_sorts" [] [] s (.lst sv) s)(D:aP P d 3 s r s1)(r1:tyI true "range" [.int (2+r)] s1=some (.rng 0 (2+r),s1))(C1:GI P d (d1E P) (.rng 0 (2+r)) (d1L sv none) s1 (.lst sm) s2)
 (r2:tyI true "range" [.int m] s2=some (.rng 0 m,s2)) (C2:GI P d (d2E P) (.rng 0 m) (d2L sv sm none) s2 (.lst out) s3):cP P (d+1) "" "_law_drawn" [.ref 1,.int m] [] s (.lst out) s3:=by
 unfold aP at D
 exact af (em P) ([V.ref 1,V.int m]) (fun z=>(zD S (zA (rfl:(0:Int)=(0:Int)) (zD D (zP r1 (zF C1 (zA (rfl:(0:Int)=(0:Int)) (zP r2 (zF C2 (z0 z))).R.R))).C).R.R.R).R).R.R)
end
theorem GJ{t:Bool}{J:Hp}{b:Int}(h:aR b=true):tyI t "range" [.int b] J=some (.rng 0 b,J):=by
 show(if aR b then _ else _)=_
 rw[h];rfl
theorem o8{ss:List aw}{v:V}(h:v∈ss.map av):∃s,s∈ss/\v=av s:=by
 obtain⟨s,h1,h2⟩:=List.mem_map.mp h
 exact⟨s,h1,h2.symm⟩
theorem uP{P:Params}{d:Nat}{E:Expr}{L:Option V->Loc}{J:Hp}{ss:List aw}{m:Nat}{c t:Int}{h g:ab}(hc:0<=c)(hm:m<=100)(hc2:c<=10)(D:lK t h g)(ht:t<100000)
 (st:∀(t:Int) h g x o,lK t h g->t<200000->∃(s:aw) (h' g':ab) (t':Int),s∈ss/\lK t' h' g'/\t'<=t+c/\Cm P d E x (L o) (h::g::J) (av s) (L (some x)) (h'::g'::J)) :
 ∃(as:List aw) (h' g':ab) (t':Int),as.length=m/\(∀a∈as,a∈ss)/\lK t' h' g'/\t'<=t+c*m/\GI P d E (.rng 0 (m:Int)) (L none) (h::g::J) (.lst (as.map av)) (h'::g'::J):=by
 have hi:jx (h::g::J) (.rng 0 (m:Int))=some (.rng 0 (m:Int)):=FQ (by decide) (dW (P5 (by decide) (Qd _)) (Int.lt_of_le_of_lt (Int.ofNat_le.mpr ‹_›) (by decide)))
 have hN:∀s,bX s (.rng 0 (m:Int))=some m:=fun s=>by show some ((m:Int)-0).toNat=_;rw[Int.sub_zero,Int.toNat_natCast]
 refine PG (mw (t:=false) (v:=.rng 0 (m:Int)) (it:=.rng 0 (m:Int)) (loc:=L none) (J:=h::g::J) (asg:=bt P d (coG E).target) (test:=jZ P d (coG E).ifs) (elt:=dO P d (coE E)) (N:=m)
  (fun i l s acc=>∃(as:List aw) (h' g':ab) (t':Int) (o:Option V),s=h'::g'::J/\acc=as.map av/\as.length=i/\(∀a∈as,a∈ss)/\lK t' h' g'/\t'<=t+c*i/\l=L o) hi (hN _) (fun i l s acc hj I=>?_) (fun l s acc I=>?_) ⟨[],h,g,t,none,rfl,rfl,rfl,fun a ha=>absurd ha List.not_mem_nil,D,by simp,rfl⟩) fun acc hh=>?_
 . obtain⟨as,h',g',t',o,rfl,rfl,hl,ha,D',ht',rfl⟩:=I
   have hci:c*(i:Int)<=10*100:=Int.mul_le_mul hc2 (by lia) (Qd _) (by decide)
   obtain⟨s,h2,g2,t2,hs,D2,ht2,q⟩:=st t' h' g' (.int (0+(i:Int))) o D' (by lia)
   refine⟨⟨hN _,ar (by rw[PA];lia)⟩,.int (0+(i:Int)),true,av s,_,_,rfl,q,as++[s],h2,g2,t2,_,rfl,?_,by rw[Px,hl];rfl,fun a hm=>?_,D2,?_,rfl⟩
   .rw[PW];rfl
   . rcases PY.mp hm with hm | hm
     .exact ha a hm
     .rw[PH.mp hm];exact hs
   .rw[show((i+1:Nat):Int)=(i:Int)+1 from Int.natCast_succ _,Int.mul_add,Int.mul_one];lia
 . obtain⟨as,h',g',t',o,rfl,rfl,hl,_⟩:=I
   exact⟨hN _,ar (by rw[PA];exact Py (Nat.le_of_eq ‹_›) (Py ‹_› (by decide)))⟩
 . obtain⟨s,l,⟨as,h',g',t',o,rfl,rfl,hl,ha,D',ht',rfl⟩,w⟩:=hh
   exact⟨as,h',g',t',hl,ha,D',ht',w⟩
theorem Cn{P:Params}{d:Nat}{J:Hp}{m:Nat}{t:Int}{h g:ab}(D:lK t h g)(ht:t<10000)(hm:m<=10)(hc:∀h' g',lK t h' g'->(h'::g'::J).all (bT (h'::g'::J).length)=true):
 ∃(ss:List aw) (h' g':ab) (t':Int),ss.length=m/\(∀s∈ss,s∈bK)/\lK t' h' g'/\t'<=t+1000/\cP P (d+4) "" "_law_drawn" [.ref 1,.int (m:Int)] [] (h::g::J) (.lst (ss.map av)) (h'::g'::J):=by
 have S:=Jy (P:=P) (d:=d+2) (J:=h::g::J) (hc h g D)
 obtain⟨r,h1,g1,r0,r1,D1,q1⟩:=DH (below:=3) D (P5 ‹_› (by decide)) (by decide) (by decide)
 obtain⟨k,rfl⟩:∃k:Nat,r=k:=⟨r.toNat,(Int.toNat_of_nonneg ‹_›).symm⟩
 have ek:(2:Int)+(k:Int)=((2+k:Nat):Int):=by lia
 obtain⟨as,h2,g2,t2,a1,a2,D2,ht2,C1⟩:=uP (P:=P) (d:=d+3) (E:=d1E P) (L:=d1L (bK.map av)) (J:=J) (ss:=bK) (m:=2+k) (c:=1) (by decide) (by lia) (by decide) D1 (by lia) (fun t h g x o D ht=>by
  obtain⟨v,h',g',hv,D',q⟩:=IX (xs:=bK.map av) D (P5 ‹_› (by decide)) (by decide) (by decide)
  obtain⟨s,hs,rfl⟩:=o8 hv
  exact⟨s,h',g',t+1,hs,D',Int.le_refl _,Pj (q (d:=d+1))⟩)
 have hne:0<(as.map av).length:=by rw[PA];lia
 obtain⟨bs,h3,g3,t3,b1,b2,D3,ht3,C2⟩:=uP (P:=P) (d:=d+3) (E:=d2E P) (L:=d2L (bK.map av) (as.map av)) (J:=J) (ss:=bK) (m:=m) (c:=2) (by decide) (Py ‹_› (by decide)) (by decide) D2 (by lia) (fun t h g x o D ht=>by
  obtain⟨r,h1,g1,r0,r1,D1,q1⟩:=DH (below:=4) D (P5 ‹_› (by decide)) (by decide) (by decide)
  by_cases hr:0<r
  . obtain⟨v,h',g',hv,D',q⟩:=IX (xs:=as.map av) D1 (by lia) hne (by rw[PA];lia)
    obtain⟨s,hs,rfl⟩:=o8 hv
    exact⟨s,h',g',t+1+1,a2 s hs,D',by lia,Pk (q1 (d:=d+2)) (PB hr) (q (d:=d+1))⟩
  . obtain⟨v,h',g',hv,D',q⟩:=IX (xs:=bK.map av) D1 (by lia) (by decide) (by decide)
    obtain⟨s,hs,rfl⟩:=o8 hv
    exact⟨s,h',g',t+1+1,hs,D',by lia,Pl (q1 (d:=d+2)) (P6 hr) (q (d:=d+1))⟩)
 have e2:(2:Int)*(m:Int)<=20:=by lia
 refine⟨bs,h3,g3,t3,b1,b2,D3,by lia,?_⟩
 refine Jz S (q1 (d:=d+2)) (GJ (dW (P5 (by decide) (Qd _)) (by lia))) (by rw[ek];exact C1) (GJ (dW (P5 (by decide) (Qd _)) (Int.lt_of_le_of_lt (Int.ofNat_le.mpr ‹_›) (by decide)))) C2
section
variable{P:Params}{d D C K:Nat}{s s1 s2 s3 s4 s5 s6:Hp}{n g e:Str}{c m:Int}{p:Bool}{sv:List V}{o1 o2:Option V}
abbrev dtS(P:Params):Stmt:=fQ 1 (gb P).body
noncomputable abbrev dtL(sv:List V)(D C K:Nat)(o1 o2:Option V):Loc:=[("sorts",.v (some (.lst sv))),("data",.v (some (.inst "Data" D))),("codes",.v (some (.ref C))),("known",.v (some (.ref K))),("sort",.v o1),("code",.v o2),("Data",.g),("len",.g)]
noncomputable abbrev lT(P:Params)(d:Nat)(x:V)(loc:Loc)(J:Hp)(f:Fl)(l:Loc)(s:Hp):Prop:=gf (bt P d (bQ (dtS P))) (aH P d (cz (dtS P))) x loc J f l s
noncomputable abbrev gT(P:Params)(d D:Nat)(k:Str)(c:Int)(v:V)(s s':Hp):Prop:=cP P d "Data" "put" [.inst "Data" D,.str k,.int c,.int c,v] [] s .none s'
noncomputable abbrev MP(P:Params)(D:Nat)(s:Hp):Prop:=cg (a_T P) s (.inst "Data" D) "put"=some (.fn "Data")
noncomputable abbrev DZ(P:Params)(C K:Nat)(s:Hp)(x:V)(c:Int)(s':Hp):Prop:=cg (a_T P) s (.ref C) "append"=some (.bi "list.append")/\ai s (.ref K) x=some (.int c)/\aS s "list.append" (.ref C) [.int c]=some (.none,s')
theorem LW{cv:V}(N:aM s .NotIn (bA n g e p cv) (.ref K)=some false)(A:DZ P C K s (bA n g e p cv) c s1):
 lT P d (bA n g e p cv) (dtL sv D C K o1 o2) s .next (dtL sv D C K (some (bA n g e p cv)) o2) s1:=by
 obtain⟨a1,a2,a3⟩:=A
 intro k hk
 exact bd (zT N (z2 (zQ (zR (zK a1 (zV a2 (zP a3 (z0 hk)))))))) (by kernel_rfl)
theorem Pm(N:aM s .NotIn (bA n g e p .none) (.ref K)=some true)(L:biI true "len" [.ref K] s=some (.int m,s))(S:d8 s (.ref K) (bA n g e p .none) (.int (4096+m))=some s1)
 (m1:MP P D s1) (p1:gT P d D "lb" (4096+m) (.str n) s1 s2) (m2:MP P D s2) (p2:gT P d D "gc" (4096+m) (.str g) s2 s3) (q1:(e=="N")=true) (q2:p=false) (A:DZ P C K s3 (bA n g e p .none) (4096+m) s4) :
 lT P d (bA n g e p .none) (dtL sv D C K o1 o2) s .next (dtL sv D C K (some (bA n g e p .none)) (some (.int (4096+m)))) s4:=by
 obtain⟨a1,a2,a3⟩:=A
 subst q2
 unfold MP at m1
 unfold MP at m2
 unfold gT at p1
 unfold gT at p2
 intro k hk
 exact bd (zT N (z1 (zR (zC (zC (z2 (zR (zP L (zC (zR (zS S (zQ (zR (zK m1 (zC (zD p1 (zQ (zR (zK m2 (zC (zD p2 (zC (zC (zH (nT q1) (zC (z2 (zQ (zR (zK a1 (zV a2 (zP a3 (z0 hk)))))))))))))))))))))))))))))))) (by kernel_rfl)
theorem Pn(N:aM s .NotIn (bA n g e p .none) (.ref K)=some true)(L:biI true "len" [.ref K] s=some (.int m,s))(S:d8 s (.ref K) (bA n g e p .none) (.int (4096+m))=some s1)
 (m1:MP P D s1) (p1:gT P d D "lb" (4096+m) (.str n) s1 s2) (m2:MP P D s2) (p2:gT P d D "gc" (4096+m) (.str g) s2 s3) (q1:(e=="N")=false) (m3:MP P D s3) (p3:gT P d D "ea" (4096+m) (.str e) s3 s4) (q2:p=false) (A:DZ P C K s4 (bA n g e p .none) (4096+m) s5) :
 lT P d (bA n g e p .none) (dtL sv D C K o1 o2) s .next (dtL sv D C K (some (bA n g e p .none)) (some (.int (4096+m)))) s5:=by
 obtain⟨a1,a2,a3⟩:=A
 subst q2
 unfold MP at m1
 unfold MP at m2
 unfold MP at m3
 unfold gT at p1
 unfold gT at p2
 unfold gT at p3
 intro k hk
 exact bd (zT N (z1 (zR (zC (zC (z2 (zR (zP L (zC (zR (zS S (zQ (zR (zK m1 (zC (zD p1 (zQ (zR (zK m2 (zC (zD p2 (zC (zC (zH (nF q1) (zQ (zR (zK m3 (zC (zD p3 (zC (z2 (zQ (zR (zK a1 (zV a2 (zP a3 (z0 hk))))))))))))))))))))))))))))))))))))) (by kernel_rfl)
theorem Po(N:aM s .NotIn (bA n g e p .none) (.ref K)=some true)(L:biI true "len" [.ref K] s=some (.int m,s))(S:d8 s (.ref K) (bA n g e p .none) (.int (4096+m))=some s1)
 (m1:MP P D s1) (p1:gT P d D "lb" (4096+m) (.str n) s1 s2) (m2:MP P D s2) (p2:gT P d D "gc" (4096+m) (.str g) s2 s3) (q1:(e=="N")=true) (q2:p=true) (m3:MP P D s3) (p3:gT P d D "ep" (4096+m) (.bool true) s3 s4) (A:DZ P C K s4 (bA n g e p .none) (4096+m) s5) :
 lT P d (bA n g e p .none) (dtL sv D C K o1 o2) s .next (dtL sv D C K (some (bA n g e p .none)) (some (.int (4096+m)))) s5:=by
 obtain⟨a1,a2,a3⟩:=A
 subst q2
 unfold MP at m1
 unfold MP at m2
 unfold MP at m3
 unfold gT at p1
 unfold gT at p2
 unfold gT at p3
 intro k hk
 exact bd (zT N (z1 (zR (zC (zC (z2 (zR (zP L (zC (zR (zS S (zQ (zR (zK m1 (zC (zD p1 (zQ (zR (zK m2 (zC (zD p2 (zC (zC (zH (nT q1) (zC (z1 (zQ (zR (zK m3 (zD p3 (zQ (zR (zK a1 (zV a2 (zP a3 (z0 hk)))))))))))))))))))))))))))))))))))) (by kernel_rfl)
theorem Pp(N:aM s .NotIn (bA n g e p (.int c)) (.ref K)=some true)(S:d8 s (.ref K) (bA n g e p (.int c)) (.int c)=some s1)
 (m1:MP P D s1) (p1:gT P d D "lb" c (.str n) s1 s2) (m2:MP P D s2) (p2:gT P d D "gc" c (.str g) s2 s3) (q1:(e=="N")=true) (q2:p=false) (A:DZ P C K s3 (bA n g e p (.int c)) c s4) :
 lT P d (bA n g e p (.int c)) (dtL sv D C K o1 o2) s .next (dtL sv D C K (some (bA n g e p (.int c))) (some (.int c))) s4:=by
 obtain⟨a1,a2,a3⟩:=A
 subst q2
 unfold MP at m1
 unfold MP at m2
 unfold gT at p1
 unfold gT at p2
 intro k hk
 exact bd (zT N (z1 (zR (zC (zC (z1 (zC (zR (zS S (zQ (zR (zK m1 (zC (zD p1 (zQ (zR (zK m2 (zC (zD p2 (zC (zC (zH (nT q1) (zC (z2 (zQ (zR (zK a1 (zV a2 (zP a3 (z0 hk)))))))))))))))))))))))))))))) (by kernel_rfl)
noncomputable abbrev GK(P:Params)(d:Nat)(it:It)(loc:Loc)(J:Hp)(l:Loc)(s:Hp):Prop:=ge (bt P d (bQ (dtS P))) (aH P d (cz (dtS P))) (bQ (dtS P)) it loc J .next l s
theorem LX(I:cP P d "Data" "__init__" [.inst "Data" s.length] [] (s++[.dict []]) .none s1)(L:GK P d (.seq (.lst sv)) (dtL sv s.length s1.length (s1++[ab.list []]).length none none) (s1++[ab.list []]++[ab.dict []]) (dtL sv s.length s1.length (s1++[ab.list []]).length o1 o2) s2):
 cP P (d+1) "" "_law_data" [.lst sv] [] s (.tup [.inst "Data" s.length,.ref s1.length]) s2:=by
 exact af (gb P) ([V.lst sv]) (fun z=>(zN I (zA (And.intro (rfl:0=0) (by decide:0<=15)) (zL L (z0 z).R).C.R).R).R.R)
end
noncomputable def kS(s:aw):List AK:=[some (.inr s.n),some (.inr s.g),some (.inr s.e),some (.inl (if s.p then 1 else 0)),match s.c with | none=>none | some i=>some (.inl i)]
theorem zd(s:aw):lA (av s)=some (kS s):=by
 obtain⟨n,g,e,p,c⟩:=s
 cases c <;> rfl
theorem LY{s t:aw}(h:kS s=kS t):s=t:=by
 obtain⟨n,g,e,p,c⟩:=s
 obtain⟨n',g',e',p',c'⟩:=t
 unfold kS at h
 simp only[List.cons.injEq,Option.some.injEq,Sum.inr.injEq,Sum.inl.injEq,and_true]at h
 obtain⟨rfl,rfl,rfl,h4,h5⟩:=h
 have hp:p=p':=by cases p <;> cases p' <;> first | rfl | (simp at h4;done)
 have hc:c=c':=by
  cases c <;> cases c' <;> simp_all
 rw[hp,hc]
noncomputable abbrev KN:=List (aw×Int)
noncomputable def bR(s:aw):KN->Option Int
 |[]=>none
 |p::r=>if kS p.1=kS s then some p.2 else bR s r
theorem ja{s:aw}{p:aw×Int}{r:KN}:bR s (p::r)=if kS p.1=kS s then some p.2 else bR s r:=rfl
theorem GL{α β:Type}{f:α->Option β}{g:Option β}:els none f g=g:=rfl
theorem Co{α β:Type}{a:α}{f:α->Option β}{g:Option β}:els (some a) f g=f a:=rfl
abbrev knV(kn:KN):List (V×V):=kn.map fun p=>(av p.1,V.int p.2)
def knC(kn:KN):ab:=match kn with
 |[]=>.dict []
 |p::r=>.tdict (knV (p::r))
theorem xg{β:Type}{J:Hp}{K:Nat}{kn:KN}{f:Nat->List (V×V)->Option β}(h:J[K]?=some (knC kn)):tn J (.ref K) f=f K (knV kn):=by
 show Ky J[K]? (f K)=_
 rw[h]
 cases kn <;> rfl
theorem xh{s:aw}:∀kn:KN,jt (kS s) (knV kn)=(bR s kn).map V.int
 |[]=>rfl
 |p::r=>by
  show(if lA (av p.1)=some (kS s)then some (V.int p.2)else jt (kS s) (knV r))=_
  rw[zd,xh r,ja]
  by_cases q:kS p.1=kS s
  .rw[if_pos (PI some q),if_pos q];rfl
  .rw[if_neg (fun e=>q (Pz e)),if_neg q]
theorem GM{s:aw}{c:Int}:∀kn:KN,bR s kn=none->zv (kS s) (av s) (.int c) (knV kn)=knV (kn++[(s,c)])
 |[],_=>rfl
 |p::r,h=>by
  rw[ja]at h
  by_cases q:kS p.1=kS s
  .rw[if_pos q]at h;exact nomatch h
  . rw[if_neg q]at h
    show(if lA (av p.1)=some (kS s)then _ else(av p.1,V.int p.2)::zv (kS s) (av s) (.int c) (knV r))=_
    rw[zd,if_neg (fun e=>q (Pz e)),GM r h];rfl
theorem kr{s t:aw}{c:Int}:∀kn:KN,bR s (kn++[(t,c)])=(bR s kn).or (if kS t=kS s then some c else none)
 |[]=>by unfold bR;rfl
 |p::r=>by
  show(if kS p.1=kS s then some p.2 else bR s (r++[(t,c)]))=_
  rw[kr r,ja]
  by_cases q:kS p.1=kS s
  .rw[if_pos q,if_pos q];rfl
  .rw[if_neg q,if_neg q]
section
variable{J:Hp}{K:Nat}{kn:KN}{s:aw}{c:Int}
theorem lU(h:J[K]?=some (knC kn)):cW J (.ref K)=none:=by
 show dz J[K]? _ _=_
 rw[h];cases kn <;> rfl
theorem Kl(h:J[K]?=some (knC kn)):aM J .NotIn (av s) (.ref K)=some (!(bR s kn).isSome):=by
 show(els (cW J (.ref K)) _ (els (lA (av s)) (fun k=>tn J (.ref K) fun _ es=>some (jt k es).isSome) _)).map _=_
 rw[lU h,zd,GL,Co,xg h,xh,Option.isSome_map];rfl
theorem Km(h:J[K]?=some (knC kn))(hk:bR s kn=some c):ai J (.ref K) (av s)=some (.int c):=by
 show els (cW J (.ref K)) _ (els (lA (av s)) (fun k=>tn J (.ref K) fun _ es=>jt k es) _)=_
 rw[lU h,zd,GL,Co,xg h,xh,hk];rfl
theorem LZ{t:Bool}(h:J[K]?=some (knC kn))(hl:kn.length<1000):biI t "len" [.ref K] J=some (.int kn.length,J):=by
 show els (cW J (.ref K)) _ (tn J (.ref K) _)=_
 rw[lU h,GL,xg h,if_pos (PB (by rw[PA];exact hl)),PA]
theorem Ny(h:J[K]?=some (knC kn))(hl:kn.length<900)(hk:bR s kn=none):d8 J (.ref K) (av s) (.int c)=some (J.set K (knC (kn++[(s,c)]))):=by
 show els (lA (av s)) (fun k=>tn J (.ref K) fun n es=>if decide (es.length<900)then some (J.set n (.tdict (zv k (av s) (.int c) es)))else none) _=_
 rw[zd,Co,xg h,if_pos (PB (by rw[PA];exact hl)),GM kn hk]
 cases kn <;> rfl
end
theorem dB:∀s∈bK,(s.c=none/\(((s.e=="N")=true/\s.p=false)\/((s.e=="N")=false/\s.p=false)\/((s.e=="N")=true/\s.p=true)))\/(((s.c=some 9676/\s=xS "AL" "So" "N" false (some 9676))\/(s.c=some 12293/\s=xS "NS" "Lm" "N" false (some 12293)))/\(s.e=="N")=true/\s.p=false):=by
 intro s hs
 unfold bK at hs
 rcases PY.mp hs with hs | hs
 . obtain⟨x,_,rfl⟩:=List.mem_map.mp hs
   exact .inl ⟨rfl,.inl ⟨rfl,rfl⟩⟩
 . unfold zc at hs
   simp only[PZ,List.not_mem_nil,or_false]at hs
   rcases hs with rfl | rfl | rfl | rfl | rfl | rfl | rfl | rfl | rfl | rfl | rfl | rfl
   .exact .inl ⟨rfl,.inl ⟨rfl,rfl⟩⟩
   .exact .inl ⟨rfl,.inl ⟨rfl,rfl⟩⟩
   .exact .inl ⟨rfl,.inl ⟨rfl,rfl⟩⟩
   .exact .inl ⟨rfl,.inr (.inl ⟨rfl,rfl⟩)⟩
   .exact .inl ⟨rfl,.inr (.inl ⟨rfl,rfl⟩)⟩
   .exact .inl ⟨rfl,.inr (.inl ⟨rfl,rfl⟩)⟩
   .exact .inl ⟨rfl,.inl ⟨rfl,rfl⟩⟩
   .exact .inl ⟨rfl,.inl ⟨rfl,rfl⟩⟩
   .exact .inl ⟨rfl,.inr (.inr ⟨rfl,rfl⟩)⟩
   .exact .inr ⟨.inl ⟨rfl,rfl⟩,rfl,rfl⟩
   .exact .inr ⟨.inr ⟨rfl,rfl⟩,rfl,rfl⟩
   .exact .inl ⟨rfl,.inr (.inr ⟨rfl,rfl⟩)⟩
noncomputable def bL(kn:KN)(s:aw):Int:=match s.c with
 |some x=>x
 |none=>4096+(kn.length:Int)
structure DSt(J:Hp)(D:Nat)(kn:KN)(f:Str->Int->V)(m:Nat):Prop where
 A:d5 J D (D+7) f m
 known:J[D+6]?=some (knC kn)
 ml:m<=3*kn.length
 kl:kn.length<=10
 fk:∀p∈kn,f "lb" p.2=.str p.1.n/\f "gc" p.2=.str p.1.g/\f "ea" p.2=.str p.1.e/\f "ep" p.2=.bool p.1.p
 fn:∀c,(∀p∈kn,p.2≠c)->∀k,f k c=DT k
 rg:∀p∈kn,p.1∈bK/\(p.1.c=some p.2\/(p.1.c=none/\4096<=p.2/\p.2<4096+(kn.length:Int)))
 lk:∀p∈kn,bR p.1 kn=some p.2
 cl:J.all (bT J.length)=true
theorem nq{s:aw}{c:Int}:∀ {kn:KN},bR s kn=some c->(s,c)∈kn
 |[],h=>nomatch h
 |p::r,h=>by
  rw[ja]at h
  by_cases q:kS p.1=kS s
  . rw[if_pos q]at h
    have:p=(s,c):=by rw[<- LY q,<- Pz h]
    rw[this];exact List.mem_cons_self
  .rw[if_neg q]at h;exact List.mem_cons_of_mem _ (nq h)
theorem xi{kn:KN}{s:aw}(hs:s∈bK)(hl:kn.length<=10):s.c=some (bL kn s)/\(bL kn s=9676\/bL kn s=12293)\/s.c=none/\bL kn s=4096+(kn.length:Int):=by
 unfold bL
 rcases dB s hs with⟨h,_⟩ | ⟨h | h,_⟩
 .rw[h];exact .inr ⟨rfl,rfl⟩
 .rw[h.1];exact .inl ⟨rfl,.inl rfl⟩
 .rw[h.1];exact .inl ⟨rfl,.inr rfl⟩
theorem fresh{J:Hp}{D m:Nat}{kn:KN}{f:Str->Int->V}{s:aw}(S:DSt J D kn f m)(hs:s∈bK)(hn:bR s kn=none):∀p∈kn,p.2≠bL kn s:=by
 intro p hp e
 have hl:=S.kl
 obtain⟨h1,h2⟩:=S.rg p hp
 rcases xi (kn:=kn) hs hl with⟨c1,c2⟩ | ⟨c1,c2⟩
 . rcases h2 with h2 | ⟨h2,h3,h4⟩
   . have:p.1=s:=by
      rw[<- e]at c1
      rcases dB s hs with⟨z,_⟩ | ⟨z | z,_⟩
      .rw[z]at c1;exact nomatch c1
      . rcases dB p.1 h1 with⟨y,_⟩ | ⟨y | y,_⟩
        .rw[y]at h2;exact nomatch h2
        .rw[y.2,z.2]
        .exact absurd (Pz (z.1.symm.trans (c1.trans (h2.symm.trans y.1)))) (by decide)
      . rcases dB p.1 h1 with⟨y,_⟩ | ⟨y | y,_⟩
        .rw[y]at h2;exact nomatch h2
        .exact absurd (Pz (z.1.symm.trans (c1.trans (h2.symm.trans y.1)))) (by decide)
        .rw[y.2,z.2]
     have:=S.lk p hp
     rw[‹p.1=s›,hn]at this
     exact nomatch this
   .rw[e]at h3 h4;lia
 . rcases h2 with h2 | ⟨h2,h3,h4⟩
   . rcases dB p.1 h1 with⟨y,_⟩ | ⟨y | y,_⟩
     .rw[y]at h2;exact nomatch h2
     .have:=Pz (y.1.symm.trans h2);lia
     .have:=Pz (y.1.symm.trans h2);lia
   .lia
theorem xj{f:Str->Int->V}{k k':Str}{c x:Int}{v:V}(h:x≠c):upd f k c v k' x=f k' x:=by
 unfold upd
 by_cases q:k'=k
 .rw[if_pos q,if_neg (by lia),q]
 .rw[if_neg q]
theorem xk{f:Str->Int->V}{k:Str}{c:Int}{v:V}:upd f k c v k c=v:=by
 unfold upd;rw[if_pos rfl,if_pos (by lia)]
theorem kx{f:Str->Int->V}{k k':Str}{c x:Int}{v:V}(h:k'≠k):upd f k c v k' x=f k' x:=by
 unfold upd;rw[if_neg h]
theorem Bq{n:Nat}{s:aw}:fy n (av s)=true:=by
 obtain⟨a,b,c,p,o⟩:=s
 cases o <;> rfl
theorem GN{n:Nat}{kn:KN}:bT n (knC kn)=true:=by
 cases kn with
 |nil=>rfl
 |cons p r =>
  show(refsL n ((knV (p::r)).map (·.1))&&refsL n ((knV (p::r)).map (·.2)))=true
  rw[gn fun v hv=>?_,gn fun v hv=>?_]
  .rfl
  . obtain⟨q,hq,rfl⟩:=List.mem_map.mp hv
    obtain⟨t,_,rfl⟩:=List.mem_map.mp hq
    rfl
  . obtain⟨q,hq,rfl⟩:=List.mem_map.mp hv
    obtain⟨t,_,rfl⟩:=List.mem_map.mp hq
    exact Bq
theorem ze{n:Nat}{cs:List Int}:bT n (.list (ivs cs))=true:=gn fun v hv=>by
 obtain⟨i,_,rfl⟩:=List.mem_map.mp hv;rfl
section
variable{P:Params}{d D m m':Nat}{J σk:Hp}{kn:KN}{f f':Str->Int->V}{s:aw}{cs:List Int}{c:Int}{k:Str}{v dv:V}{sv:List V}{o1 o2:Option V}
theorem JA(A:d5 J D (D+7) f m)(hn:m<=39)(hd:dfl.lookup k=some dv)(hp:fj dv=true)(h1:1<=c)(hm:c<1114110)(hv:fj v=true)(hcl:J.all (bT J.length)=true):
 ∃J',MP P D J/\gT P (d+3) D k c v J J'/\d5 J' D (D+7) (upd f k c v) (m+1)/\J'.all (bT J'.length)=true/\(∀i,i<D+7->i≠D+2->J'[i]?=J[i]?):=by
 obtain⟨J',h1,h2,h3,h4,h5⟩:=OV (P:=P) (d:=d) A hn hd hp h1 hm hv hcl
 exact⟨J',fT (dtC P) A.c0 (by kernel_rfl) (by kernel_rfl) (by kernel_rfl),h1,h2,h3,h5⟩
abbrev knN(kn:KN)(s:aw):KN:=kn++[(s,bL kn s)]
theorem JB(S:DSt J D kn f m)(hs:s∈bK)(hn:bR s kn=none)(hkl:kn.length<=8)(hco:J[D+5]?=some (.list (ivs cs)))(hcs:cs.length<=50)(Ak:d5 σk D (D+7) f' m')(h1:∀k x,x≠bL kn s->f' k x=f k x)
 (h2:f' "lb" (bL kn s)=.str s.n/\f' "gc" (bL kn s)=.str s.g/\f' "ea" (bL kn s)=.str s.e/\f' "ep" (bL kn s)=.bool s.p) (hm:m'<=m+3) (fr:∀i,i<D+7->i≠D+2->σk[i]?=(J.set (D+6) (knC (knN kn s)))[i]?) (cl:σk.all (bT σk.length)=true) :
 ∃J',DZ P (D+5) (D+6) σk (av s) (bL kn s) J'/\DSt J' D (knN kn s) f' m'/\J'[D+5]?=some (.list (ivs (cs++[bL kn s])))/\(∀i,i<D->J'[i]?=J[i]?):=by
 have c5:σk[D+5]?=some (.list (ivs cs)):=by rw[fr _ (Nat.add_lt_add_left (by decide) _) (by lia),bU (by lia)];exact hco
 have c6:σk[D+6]?=some (knC (knN kn s)):=by rw[fr _ (Nat.add_lt_add_left (by decide) _) (by lia)];exact db S.known
 have lk:bR s (knN kn s)=some (bL kn s):=by rw[kr,hn,if_pos rfl];rfl
 have hl:ivs (cs++[bL kn s])=ivs cs++[.int (bL kn s)]:=by unfold ivs;rw[PW];rfl
 refine⟨σk.set (D+5) (.list (ivs (cs++[bL kn s]))),⟨aZ c5,Km c6 lk,?_⟩,⟨Ak.keep (by rw[List.length_set];have:=Ak.ML;omega) fun i a b _=>bU (by lia),by rw[bU (by lia)];exact c6,?_,?_,?_,?_,?_,?_,?_⟩,db c5,fun i hi=>?_⟩
 .rw[dX c5 (ar (by rw[aQ];exact Py ‹_› (by decide))),hl]
 .have:=S.ml;rw[Px];show m'<=3*(kn.length+1);lia
 .rw[Px];show kn.length+1<=10;exact Py (Nat.add_le_add_right ‹_› _) (by decide)
 . intro p hp
   rcases PY.mp hp with hp | hp
   . have ne:=fresh S hs hn p hp
     rw[h1 _ _ ne,h1 _ _ ne,h1 _ _ ne,h1 _ _ ne]
     exact S.fk p hp
   .rw[PH.mp hp];exact h2
 . intro x hx k
   rw[h1 k x fun e=>hx _ (List.mem_append_right _ (PH.mpr rfl)) e.symm]
   exact S.fn x (fun p hp=>hx p (List.mem_append_left _ hp)) k
 . intro p hp
   have hlen:((knN kn s).length:Int)=(kn.length:Int)+1:=by rw[Px];rfl
   rw[hlen]
   rcases PY.mp hp with hp | hp
   . obtain⟨a,b⟩:=S.rg p hp
     exact⟨a,b.imp id fun⟨x,y,z⟩=>⟨x,y,by lia⟩⟩
   . rw[PH.mp hp]
     refine⟨hs,?_⟩
     rcases xi (kn:=kn) hs (Py ‹_› (by decide))with⟨a,_⟩ | ⟨a,b⟩
     .exact .inl a
     .exact .inr ⟨a,by show 4096<=bL kn s;lia,by show bL kn s<_;lia⟩
 . intro p hp
   rcases PY.mp hp with hp | hp
   .rw[kr,S.lk p hp];rfl
   .rw[PH.mp hp];exact lk
 .rw[List.length_set];exact i7 cl ze
 .rw[bU (Nat.ne_of_gt (PU ‹_› (Nat.le_add_right _ _))),fr _ (Nat.lt_add_right _ ‹_›) (Nat.ne_of_lt (PU ‹_› (Nat.le_add_right _ _))),bU (Nat.ne_of_gt (PU ‹_› (Nat.le_add_right _ _)))]
theorem GP(S:DSt J D kn f m)(hco:J[D+5]?=some (.list (ivs cs)))(hcs:cs.length<=50)(hk:bR s kn=some c):
 ∃J',lT P d (av s) (dtL sv D (D+5) (D+6) o1 o2) J .next (dtL sv D (D+5) (D+6) (some (av s)) o2) J'/\DSt J' D kn f m/\J'[D+5]?=some (.list (ivs (cs++[c])))/\(∀i,i<D->J'[i]?=J[i]?):=by
 have hl:ivs (cs++[c])=ivs cs++[.int c]:=by unfold ivs;rw[PW];rfl
 have N:aM J .NotIn (av s) (.ref (D+6))=some false:=by rw[Kl S.known,hk];rfl
 refine⟨J.set (D+5) (.list (ivs (cs++[c]))),LW N ⟨aZ hco,Km S.known hk,?_⟩,⟨S.A.keep (by rw[List.length_set];have:=S.A.ML;omega) fun i a b _=>bU (by lia),by rw[bU (by lia)];exact S.known,S.ml,S.kl,S.fk,S.fn,S.rg,S.lk,by rw[List.length_set];exact i7 S.cl ze⟩,db hco,fun i hi=>bU (Nat.ne_of_gt (PU ‹_› (Nat.le_add_right _ _)))⟩
 rw[dX hco (ar (by rw[aQ];exact Py ‹_› (by decide))),hl]
structure Nz(J:Hp)(D:Nat)(kn:KN)(s:aw)(c:Int)(f f3:Str->Int->V)(m:Nat)(J3:Hp):Prop where
 A:d5 J3 D (D+7) f3 (m+1+1)
 cl:J3.all (bT J3.length)=true
 fr:∀i,i<D+7->i≠D+2->J3[i]?=(J.set (D+6) (knC (knN kn s)))[i]?
 un:∀k x,x≠c->f3 k x=f k x
 v1:f3 "lb" c=.str s.n
 v2:f3 "gc" c=.str s.g
 v3:f3 "ea" c=.str "N"
 v4:f3 "ep" c=.bool false
inductive NA(P:Params)(d:Nat)(J:Hp)(D:Nat)(kn:KN)(s:aw)(c:Int)(f:Str->Int->V)(m:Nat)(J1:Hp):Prop
 |mk (J2 J3:Hp) (f3:Str->Int->V) (m1:MP P D J1) (p1:gT P (d+3) D "lb" c (.str s.n) J1 J2) (m2:MP P D J2) (p2:gT P (d+3) D "gc" c (.str s.g) J2 J3) (ρ:Nz J D kn s c f f3 m J3)
theorem Kn(hs:s∈bK)(hkl:kn.length<=8):1<=bL kn s/\bL kn s<1114110:=by
 rcases xi (kn:=kn) hs (Py ‹_› (by decide))with⟨_,a | a⟩ | ⟨_,a⟩ <;> lia
theorem L0(S:DSt J D kn f m)(hs:s∈bK)(hn:bR s kn=none)(hkl:kn.length<=8):NA P d J D kn s (bL kn s) f m (J.set (D+6) (knC (knN kn s))):=by
 have ML:=S.A.ML
 have ml:=S.ml
 have fr0:=fresh S hs hn
 have cr:=Kn hs hkl
 have A1:d5 (J.set (D+6) (knC (knN kn s))) D (D+7) f m:=S.A.keep (by rw[List.length_set];omega) fun i a b _=>bU (by lia)
 have cl1:(J.set (D+6) (knC (knN kn s))).all (bT (J.set (D+6) (knC (knN kn s))).length)=true:=by rw[List.length_set];exact i7 S.cl GN
 have d1:=S.fn (bL kn s) fr0 "ea"
 have d2:=S.fn (bL kn s) fr0 "ep"
 have e1:DT "ea"=.str "N":=by kernel_rfl
 have e2:DT "ep"=.bool false:=by kernel_rfl
 rw[e1]at d1
 rw[e2]at d2
 generalize bL kn s=c at *
 obtain⟨J2,m1,p1,A2,cl2,fr2⟩:=JA (P:=P) (d:=d) (k:="lb") (dv:=.str "XX") (v:=.str s.n) A1 (by lia) (by kernel_rfl) rfl cr.1 cr.2 rfl cl1
 obtain⟨J3,m2,p2,A3,cl3,fr3⟩:=JA (P:=P) (d:=d) (k:="gc") (dv:=.str "Cn") (v:=.str s.g) A2 (by lia) (by kernel_rfl) rfl cr.1 cr.2 rfl cl2
 exact⟨J2,J3,_,m1,p1,m2,p2,A3,cl3,fun i a b=>(fr3 i a b).trans (fr2 i a b),fun k x hx=>by rw[xj hx,xj hx],by rw[kx (by decide),xk],xk,by rw[kx (by decide),kx (by decide),d1],by rw[kx (by decide),kx (by decide),d2]⟩
theorem GQ(S:DSt J D kn f m)(hs:s∈bK)(hn:bR s kn=none)(hkl:kn.length<=8)(hco:J[D+5]?=some (.list (ivs cs)))(hcs:cs.length<=50):
 ∃J' o2' f' m',lT P (d+3) (av s) (dtL sv D (D+5) (D+6) o1 o2) J .next (dtL sv D (D+5) (D+6) (some (av s)) o2') J'/\DSt J' D (knN kn s) f' m'/\J'[D+5]?=some (.list (ivs (cs++[bL kn s])))/\(∀i,i<D->J'[i]?=J[i]?):=by
 have ml:=S.ml
 have cr:=Kn hs hkl
 have N:aM J .NotIn (av s) (.ref (D+6))=some true:=by rw[Kl S.known,hn];rfl
 have st:=Ny (c:=bL kn s) S.known (PK ‹_› (by decide)) hn
 have ln:=fun t=>LZ (t:=t) S.known (PK ‹_› (by decide))
 obtain⟨J2,J3,f3,m1,p1,m2,p2,ρ⟩:=L0 (P:=P) (d:=d) S hs hn hkl
 have hq:=dB s hs
 have fin:=fun{f' m' σk}=>JB (P:=P) (f':=f') (m':=m') (σk:=σk) S hs hn hkl hco hcs
 obtain⟨sn,sg,se,sp,sc⟩:=s
 rcases hq with⟨hc,h | h | h⟩ | ⟨hc,h⟩
 . cases(show sc=none from hc)
   obtain⟨J',CF,DS,co,lo⟩:=fin ρ.A ρ.un ⟨ρ.v1,ρ.v2,by rw[ρ.v3,P4.mp h.1],by rw[ρ.v4];exact PI V.bool h.2.symm⟩ (Nat.le_succ _) ρ.fr ρ.cl
   exact⟨J',_,_,_,Pm (m:=(kn.length:Int)) N (ln _) st m1 p1 m2 p2 h.1 h.2 CF,DS,co,lo⟩
 . cases(show sc=none from hc)
   obtain⟨J4,m3,p3,A4,cl4,fr4⟩:=JA (P:=P) (d:=d) (k:="ea") (dv:=.str "N") (v:=.str se) ρ.A (by lia) (by kernel_rfl) rfl cr.1 cr.2 rfl ρ.cl
   obtain⟨J',CF,DS,co,lo⟩:=fin A4 (fun k x hx=>by rw[xj hx,ρ.un k x hx]) ⟨by rw[kx (by decide),ρ.v1],by rw[kx (by decide),ρ.v2],xk,by rw[kx (by decide),ρ.v4];exact PI V.bool h.2.symm⟩ (PS _) (fun i a b=>(fr4 i a b).trans (ρ.fr i a b)) cl4
   exact⟨J',_,_,_,Pn (m:=(kn.length:Int)) N (ln _) st m1 p1 m2 p2 h.1 m3 p3 h.2 CF,DS,co,lo⟩
 . cases(show sc=none from hc)
   obtain⟨J4,m3,p3,A4,cl4,fr4⟩:=JA (P:=P) (d:=d) (k:="ep") (dv:=.bool false) (v:=.bool true) ρ.A (by lia) (by kernel_rfl) rfl cr.1 cr.2 rfl ρ.cl
   obtain⟨J',CF,DS,co,lo⟩:=fin A4 (fun k x hx=>by rw[xj hx,ρ.un k x hx]) ⟨by rw[kx (by decide),ρ.v1],by rw[kx (by decide),ρ.v2],by rw[kx (by decide),ρ.v3,P4.mp h.1],by rw[xk];exact PI V.bool h.2.symm⟩ (PS _) (fun i a b=>(fr4 i a b).trans (ρ.fr i a b)) cl4
   exact⟨J',_,_,_,Po (m:=(kn.length:Int)) N (ln _) st m1 p1 m2 p2 h.1 h.2 m3 p3 CF,DS,co,lo⟩
 . obtain⟨x,hx⟩:∃x,sc=some x:=hc.elim (fun a=>⟨_,a.1⟩) (fun a=>⟨_,a.1⟩)
   cases hx
   obtain⟨J',CF,DS,co,lo⟩:=fin ρ.A ρ.un ⟨ρ.v1,ρ.v2,by rw[ρ.v3,P4.mp h.1],by rw[ρ.v4];exact PI V.bool h.2.symm⟩ (Nat.le_succ _) ρ.fr ρ.cl
   exact⟨J',_,_,_,Pp (c:=x) N st m1 p1 m2 p2 h.1 h.2 CF,DS,co,lo⟩
end
def dS(kn:KN)(s:aw):Int:=(bR s kn).getD 0
section
variable{P:Params}{d D:Nat}{J:Hp}{ss:List aw}
theorem D0{s0:Hp}{f0:Str->Int->V}(S0:DSt s0 D [] f0 0)(h5:s0[D+5]?=some (.list []))(hss:∀s∈ss,s∈bK)(hl:ss.length<=8):
 ∃J' kn f m o1 o2,GK P (d+3) (.seq (.lst (ss.map av))) (dtL (ss.map av) D (D+5) (D+6) none none) s0 (dtL (ss.map av) D (D+5) (D+6) o1 o2) J'/\DSt J' D kn f m/\J'[D+5]?=some (.list (ivs (ss.map (dS kn))))/\(∀s∈ss,bR s kn=some (dS kn s))/\(∀i,i<D->J'[i]?=s0[i]?):=by
 have hN:∀s,bX s (.seq (.lst (ss.map av)))=some ss.length:=fun s=>by show some (ss.map av).length=_;rw[PA]
 refine PG (eZ (N:=ss.length) (it:=.seq (.lst (ss.map av))) (loc:=dtL (ss.map av) D (D+5) (D+6) none none) (J:=s0) (tg:=bQ (dtS P)) (asg:=bt P (d+3) (bQ (dtS P))) (body:=aH P (d+3) (cz (dtS P)))
  (fun i l s=>∃kn f m o1 o2,DSt s D kn f m/\s[D+5]?=some (.list (ivs ((ss.take i).map (dS kn))))/\kn.length<=i/\(∀t∈ss.take i,bR t kn=some (dS kn t))/\(∀i,i<D->s[i]?=s0[i]?)/\l=dtL (ss.map av) D (D+5) (D+6) o1 o2) (fun i l s hi I=>?_) (fun l s I=>hN _) (hN _) (by kernel_rfl) ⟨[],f0,0,none,none,S0,h5,PS _,fun t ht=>absurd ht (by rw[List.take_zero];exact List.not_mem_nil),fun _ _=>rfl,rfl⟩) fun l hh=>?_
 . obtain⟨kn,f,m,o1,o2,S,hco,hkn,hlk,hlo,rfl⟩:=I
   have hcs:((ss.take i).map (dS kn)).length<=50:=by rw[PA,Qb];exact Py (Nat.min_le_right _ _) (Py ‹_› (by decide))
   have hg:iC s i (.seq (.lst (ss.map av)))=some (av ss[i]):=by
    show(some (ss.map av)).bind (·[i]?)=_
    rw[Option.bind_some,PQ,PF hi];rfl
   have ht:ss.take (i+1)=ss.take i++[ss[i]]:=by rw[List.take_add_one,PF hi];rfl
   cases q:bR ss[i] kn with
   |some c =>
    obtain⟨J',st,S',co,lo⟩:=GP (P:=P) (d:=d+3) (sv:=ss.map av) (o1:=o1) (o2:=o2) S hco hcs q
    have hc:dS kn ss[i]=c:=by unfold dS;rw[q];rfl
    refine⟨hN _,_,.next,_,_,hg,st,.inl rfl,kn,f,m,_,_,S',?_,Nat.le_add_right_of_le ‹_›,?_,fun j hj=>(lo j hj).trans (hlo j hj),rfl⟩
    .rw[ht,PW,co];show _=some (ab.list (ivs (_++[dS kn ss[i]])));rw[hc]
    . rw[ht];intro t hm
      rcases PY.mp hm with hm | hm
      .exact hlk t hm
      .rw[PH.mp hm,q,hc]
   |none =>
    obtain⟨J',o2',f',m',st,S',co,lo⟩:=GQ (P:=P) (d:=d) (sv:=ss.map av) (o1:=o1) (o2:=o2) S (hss _ (List.getElem_mem hi)) q (by lia) hco hcs
    have hnew:bR ss[i] (knN kn ss[i])=some (bL kn ss[i]):=by rw[kr,q,if_pos rfl];rfl
    have hc:dS (knN kn ss[i]) ss[i]=bL kn ss[i]:=by unfold dS;rw[hnew];rfl
    have hold:∀t∈ss.take i,bR t (knN kn ss[i])=some (dS kn t)/\dS (knN kn ss[i]) t=dS kn t:=fun t hm=>by
     have e:bR t (knN kn ss[i])=some (dS kn t):=by rw[kr,hlk t hm];rfl
     exact⟨e,by unfold dS at e ⊢;rw[e];rfl⟩
    have hmap:(ss.take i).map (dS (knN kn ss[i]))=(ss.take i).map (dS kn):=List.map_congr_left fun t hm=>(hold t hm).2
    refine⟨hN _,_,.next,_,_,hg,st,.inl rfl,knN kn ss[i],f',m',_,_,S',?_,by rw[Px];show kn.length+1<=i+1;exact Nat.add_le_add_right ‹_› _,?_,fun j hj=>(lo j hj).trans (hlo j hj),rfl⟩
    .rw[ht,PW,hmap,co];show _=some (ab.list (ivs (_++[dS (knN kn ss[i]) ss[i]])));rw[hc]
    . rw[ht];intro t hm
      rcases PY.mp hm with hm | hm
      .rw[(hold t hm).1,(hold t hm).2]
      .rw[PH.mp hm,hnew,hc]
 . obtain⟨s,⟨kn,f,m,o1,o2,S,hco,hkn,hlk,hlo,rfl⟩,w⟩:=hh
   rw[List.take_length]at hco hlk
   exact⟨s,kn,f,m,o1,o2,w,S,hco,hlk,hlo⟩
theorem L3(hss:∀s∈ss,s∈bK)(hl:ss.length<=8)(hc:J.all (bT J.length)=true):
 ∃J' kn f m,cP P (d+4) "" "_law_data" [.lst (ss.map av)] [] J (.tup [.inst "Data" J.length,.ref (J.length+5)]) J'/\DSt J' J.length kn f m/\J'[J.length+5]?=some (.list (ivs (ss.map (dS kn))))/\(∀s∈ss,bR s kn=some (dS kn s))/\(∀i,i<J.length->J'[i]?=J[i]?):=by
 have I:=DR (P:=P) (d:=d+1) (J:=J)
 generalize hs1:J++[km (J.length+1) (J.length+2) (J.length+3) (J.length+4)]++[.dict dfl]++[.dict []]++[.dict []]++[.dict []]=s1 at I
 have l1:s1.length=J.length+5:=by rw[<- hs1];simp
 have e0:s1++[ab.list []]++[ab.dict []]=J++[km (J.length+1) (J.length+2) (J.length+3) (J.length+4),.dict dfl,.dict [],.dict [],.dict [],.list [],.dict []]:=by rw[<- hs1];simp only[Pw];rfl
 have g:∀(k:Nat) c,[km (J.length+1) (J.length+2) (J.length+3) (J.length+4),.dict dfl,.dict [],.dict [],.dict [],.list [],.dict []][k]?=some c->(s1++[ab.list []]++[ab.dict []])[J.length+k]?=some c:=fun k c h=>by
  rw[e0,PV (Nat.le_add_right _ _),Nat.add_sub_cancel_left];exact h
 have lt:(s1++[ab.list []]++[ab.dict []]).length=J.length+7:=by rw[e0,Px];rfl
 have S0:DSt (s1++[ab.list []]++[ab.dict []]) J.length [] (fun k _=>DT k) 0:=by
  refine⟨⟨Nat.add_le_add_left (by decide) _,Nat.le_of_eq (Eq.symm ‹_›),g 0 _ rfl,g 1 _ rfl,[],g 2 _ rfl,PS _,fun k r h=>ax h,fun k _ c=>rfl,fun k k' m h=>ax h⟩,g 6 _ rfl,PS _,Nat.zero_le _,fun p hp=>absurd hp List.not_mem_nil,fun c _ k=>rfl,fun p hp=>absurd hp List.not_mem_nil,fun p hp=>absurd hp List.not_mem_nil,?_⟩
  rw[lt,e0,List.all_append,sw (m:=J.length+7) (Nat.le_add_right _ _) hc]
  have d1:∀n:Nat,bT (n+7) (km (n+1) (n+2) (n+3) (n+4))=true:=fun n=>by
   show(decide (n+1<n+7)&&(decide (n+2<n+7)&&(decide (n+3<n+7)&&(decide (n+4<n+7)&&true))))=true
   rw[PB (Nat.add_lt_add_left (by decide) _),PB (Nat.add_lt_add_left (by decide) _),PB (Nat.add_lt_add_left (by decide) _),PB (Nat.add_lt_add_left (by decide) _)];rfl
  have d2:∀n:Nat,bT n (.dict dfl)=true:=fun n=>by kernel_rfl
  simp only[List.all_cons,List.all_nil,d1,d2]
  rfl
 obtain⟨J',kn,f,m,o1,o2,L,S,co,lk,lo⟩:=D0 (P:=P) (d:=d) S0 (g 5 _ rfl) hss hl
 rw[show J.length+5=s1.length from l1.symm,show J.length+6=(s1++[ab.list []]).length by rw[Px,l1];rfl]at L
 refine⟨J',kn,f,m,?_,S,co,lk,fun i hi=>(lo i hi).trans (by rw[e0,PN hi])⟩
 rw[<- l1]
 exact LX I L
end
section
variable{P:Params}{d D C B:Nat}{s1 s2 s3 s4 s5 s6 s7 s8 s9:Hp}{r1 r5 r3 at':Int}{st nm:Str}{ns sv du cs opp cl o2 rest su:List V}
noncomputable abbrev Br(P:Params)(d B:Nat)(s:Hp)(t:V)(l:List V):Prop:=cP P d "LineBreaks" "opportunities" [.inst "LineBreaks" B,t] [] s (.lst l) s
noncomputable abbrev MO(P:Params)(B:Nat)(s:Hp):Prop:=cg (a_T P) s (.inst "LineBreaks" B) "opportunities"=some (.fn "LineBreaks")
theorem JC(f1:cP P d "" "_law_deck" [.lst ns] [] [] (.ref 1) s1)
 (q0:aM s1 .NotEq (.lst ns) (.lst [])=some true) (f2:aP P d 7 s1 r1 s2)
 (f3:cP P d "" "_law_drawn" [.ref 1,.int (1+r1)] [] s2 (.lst sv) s3)
 (f4:dR P d [.str "strict",.str "strict",.str "normal",.str "loose"] s3 (.str st) s4) (f5:aP P d 5 s4 r5 s5) (f6:aP P d 3 s5 r3 s6)
 (f7:cP P d "" "_law_data" [.lst sv] [] s6 (.tup [.inst "Data" D,.ref C]) s7)
 (f8:tyI false "list" [.ref C] s7=some (.lst cs,s7))
 (f9:cP P d "" "_law_places" [.lst sv,et st (r5==4) (r3==2)] [] s7 (.lst du) s7)
 (q1:((st=="strict")&&((((r5==4)==false)&&(((r3==2)==false)&&true))))=true)
 (l1:cP P d "LineBreaks" "__init__" [.inst "LineBreaks" s7.length,.inst "Data" D] [] (s7++[.dict []]) .none s9)
 (m0:MO P s7.length s9) (o1:cP P d "LineBreaks" "opportunities" [.inst "LineBreaks" s7.length] [("text",.ref C)] s9 (.lst opp) s9)
 (t1:tyI false "list" [.lst opp] s9=some (.lst opp,s9)) (c1:aM s9 .NotEq (.lst opp) (.lst du)=some false) (c2:aM s9 .NotEq (.ref C) (.lst cs)=some false)
 (sl:aG false s9 (.lst du) .none (.int (-1)) .none=some (.lst cl,s9))
 (i1:aM s9 .In (.str "must") (.lst cl)=some false) :
 cP P (d+1) "" "law" [.lst ns] [] [] (.bool true) s9:=by
 unfold aP at f2
 unfold aP at f5
 unfold aP at f6
 unfold dR at f4
 unfold MO at m0
 exact af (cw P) ([V.lst ns]) (fun z=>(zD f1 (zT q0 (zD f2 (zD f3 (zD f4 (zD f5 (zD f6 (zD f7 (zP f8 (zD f9 (zH q1 (zN l1 (zK m0 (zD o1 (zP t1 (zT c1 (zT c2 (zP sl (zT i1 (z0 z).F)).C.F).F)))).R.R).R.R).C.R.R).R).R.R).R.R.R.C).R.C).R).R.R.R).C).R.T).R.R.R).R.R)
theorem JD(f1:cP P d "" "_law_deck" [.lst ns] [] [] (.ref 1) s1)
 (q0:aM s1 .NotEq (.lst ns) (.lst [])=some true) (f2:aP P d 7 s1 r1 s2)
 (f3:cP P d "" "_law_drawn" [.ref 1,.int (1+r1)] [] s2 (.lst sv) s3)
 (f4:dR P d [.str "strict",.str "strict",.str "normal",.str "loose"] s3 (.str st) s4) (f5:aP P d 5 s4 r5 s5) (f6:aP P d 3 s5 r3 s6)
 (f7:cP P d "" "_law_data" [.lst sv] [] s6 (.tup [.inst "Data" D,.ref C]) s7)
 (f8:tyI false "list" [.ref C] s7=some (.lst cs,s7))
 (f9:cP P d "" "_law_places" [.lst sv,et st (r5==4) (r3==2)] [] s7 (.lst du) s7)
 (q1:((st=="strict")&&((((r5==4)==false)&&(((r3==2)==false)&&true))))=true)
 (l1:cP P d "LineBreaks" "__init__" [.inst "LineBreaks" s7.length,.inst "Data" D] [] (s7++[.dict []]) .none s9)
 (m0:MO P s7.length s9) (o1:cP P d "LineBreaks" "opportunities" [.inst "LineBreaks" s7.length] [("text",.ref C)] s9 (.lst opp) s9)
 (t1:tyI false "list" [.lst opp] s9=some (.lst opp,s9)) (c1:aM s9 .NotEq (.lst opp) (.lst du)=some false) (c2:aM s9 .NotEq (.ref C) (.lst cs)=some false)
 (sl:aG false s9 (.lst du) .none (.int (-1)) .none=some (.lst cl,s9))
 (i1:aM s9 .In (.str "must") (.lst cl)=some true)
 (ix:aS s9 "list.index" (.lst du) [.str "must"]=some (.int at',s9)) (k1:aG false s9 (.ref C) (.int at') .none .none=some (.lst rest,s9))
 (o2f:Br P d s7.length s9 (.lst rest) o2) (t2:tyI false "list" [.lst o2] s9=some (.lst o2,s9)) (k2:aG false s9 (.lst du) (.int (at'+1)) .none .none=some (.lst su,s9)) (k3:c8 false .Add (.lst [.str "no"]) (.lst su) s9=some (.lst (.str "no"::su),s9))
 (c3:aM s9 .Eq (.lst o2) (.lst (.str "no"::su))=some true) :
 cP P (d+1) "" "law" [.lst ns] [] [] (.bool true) s9:=by
 unfold aP at f2
 unfold aP at f5
 unfold aP at f6
 unfold dR at f4
 unfold MO at m0
 unfold Br at o2f
 exact af (cw P) ([V.lst ns]) (fun z=>(zD f1 (zT q0 (zD f2 (zD f3 (zD f4 (zD f5 (zD f6 (zD f7 (zP f8 (zD f9 (zH q1 (zN l1 (zK m0 (zD o1 (zP t1 (zT c1 (zT c2 (zP sl (zT i1 (zP ix (zK m0 (zP k1 (zD o2f (zP t2 (zP k2 (zP k3 (zT c3 (z0 z)))).C.R)))).R.R).C.R.R.T)).C.F).F)))).R.R).R.R).C.R.R).R).R.R).R.R.R.C).R.C).R).R.R.R).C).R.T).R.R.R).R.R)
theorem GR(f1:cP P d "" "_law_deck" [.lst ns] [] [] (.ref 1) s1)
 (q0:aM s1 .NotEq (.lst ns) (.lst [])=some true) (f2:aP P d 7 s1 r1 s2)
 (f3:cP P d "" "_law_drawn" [.ref 1,.int (1+r1)] [] s2 (.lst sv) s3)
 (f4:dR P d [.str "strict",.str "strict",.str "normal",.str "loose"] s3 (.str st) s4) (f5:aP P d 5 s4 r5 s5) (f6:aP P d 3 s5 r3 s6)
 (f7:cP P d "" "_law_data" [.lst sv] [] s6 (.tup [.inst "Data" D,.ref C]) s7)
 (f8:tyI false "list" [.ref C] s7=some (.lst cs,s7))
 (f9:cP P d "" "_law_places" [.lst sv,et st (r5==4) (r3==2)] [] s7 (.lst du) s7)
 (q1:((st=="strict")&&((((r5==4)==false)&&(((r3==2)==false)&&true))))=false)
 (l0:cP P d "LineHow" "__init__" [.inst "LineHow" s7.length] [("strictness",.str st),("keep_all",.bool (r5==4)),("numbers",.str "expression")] (s7++[.dict []]) .none s8)
 (l1:cP P d "LineBreaks" "__init__" [.inst "LineBreaks" s8.length,.inst "Data" D,.inst "LineHow" s7.length] [] (s8++[.dict []]) .none s9)
 (q2:(r3==2)=true)
 (m0:MO P s8.length s9) (o1:cP P d "LineBreaks" "opportunities" [.inst "LineBreaks" s8.length] [("text",.ref C)] s9 (.lst opp) s9)
 (t1:tyI false "list" [.lst opp] s9=some (.lst opp,s9)) (c1:aM s9 .NotEq (.lst opp) (.lst du)=some false) (c2:aM s9 .NotEq (.ref C) (.lst cs)=some false)
 (sl:aG false s9 (.lst du) .none (.int (-1)) .none=some (.lst cl,s9))
 (i1:aM s9 .In (.str "must") (.lst cl)=some false) :
 cP P (d+1) "" "law" [.lst ns] [] [] (.bool true) s9:=by
 unfold aP at f2
 unfold aP at f5
 unfold aP at f6
 unfold dR at f4
 unfold MO at m0
 exact af (cw P) ([V.lst ns]) (fun z=>(zD f1 (zT q0 (zD f2 (zD f3 (zD f4 (zD f5 (zD f6 (zD f7 (zP f8 (zD f9 (zH q1 (zH q2 (zN l0 (zN l1 (zK m0 (zD o1 (zP t1 (zT c1 (zT c2 (zP sl (zT i1 (z0 z).F)).C.F).F)))).R.R))).C.C.C.R.R.R).C.R.R).R).R.R).R.R.R.C).R.C).R).R.R.R).C).R.T).R.R.R).R.R)
theorem GS(f1:cP P d "" "_law_deck" [.lst ns] [] [] (.ref 1) s1)
 (q0:aM s1 .NotEq (.lst ns) (.lst [])=some true) (f2:aP P d 7 s1 r1 s2)
 (f3:cP P d "" "_law_drawn" [.ref 1,.int (1+r1)] [] s2 (.lst sv) s3)
 (f4:dR P d [.str "strict",.str "strict",.str "normal",.str "loose"] s3 (.str st) s4) (f5:aP P d 5 s4 r5 s5) (f6:aP P d 3 s5 r3 s6)
 (f7:cP P d "" "_law_data" [.lst sv] [] s6 (.tup [.inst "Data" D,.ref C]) s7)
 (f8:tyI false "list" [.ref C] s7=some (.lst cs,s7))
 (f9:cP P d "" "_law_places" [.lst sv,et st (r5==4) (r3==2)] [] s7 (.lst du) s7)
 (q1:((st=="strict")&&((((r5==4)==false)&&(((r3==2)==false)&&true))))=false)
 (l0:cP P d "LineHow" "__init__" [.inst "LineHow" s7.length] [("strictness",.str st),("keep_all",.bool (r5==4)),("numbers",.str "pairs")] (s7++[.dict []]) .none s8)
 (l1:cP P d "LineBreaks" "__init__" [.inst "LineBreaks" s8.length,.inst "Data" D,.inst "LineHow" s7.length] [] (s8++[.dict []]) .none s9)
 (q2:(r3==2)=false)
 (m0:MO P s8.length s9) (o1:cP P d "LineBreaks" "opportunities" [.inst "LineBreaks" s8.length] [("text",.ref C)] s9 (.lst opp) s9)
 (t1:tyI false "list" [.lst opp] s9=some (.lst opp,s9)) (c1:aM s9 .NotEq (.lst opp) (.lst du)=some false) (c2:aM s9 .NotEq (.ref C) (.lst cs)=some false)
 (sl:aG false s9 (.lst du) .none (.int (-1)) .none=some (.lst cl,s9))
 (i1:aM s9 .In (.str "must") (.lst cl)=some false) :
 cP P (d+1) "" "law" [.lst ns] [] [] (.bool true) s9:=by
 unfold aP at f2
 unfold aP at f5
 unfold aP at f6
 unfold dR at f4
 unfold MO at m0
 exact af (cw P) ([V.lst ns]) (fun z=>(zD f1 (zT q0 (zD f2 (zD f3 (zD f4 (zD f5 (zD f6 (zD f7 (zP f8 (zD f9 (zH q1 (zH q2 (zN l0 (zN l1 (zK m0 (zD o1 (zP t1 (zT c1 (zT c2 (zP sl (zT i1 (z0 z).F)).C.F).F)))).R.R))).C.C.C.R.R.R).C.R.R).R).R.R).R.R.R.C).R.C).R).R.R.R).C).R.T).R.R.R).R.R)
theorem GT(f1:cP P d "" "_law_deck" [.lst ns] [] [] (.ref 1) s1)
 (q0:aM s1 .NotEq (.lst ns) (.lst [])=some true) (f2:aP P d 7 s1 r1 s2)
 (f3:cP P d "" "_law_drawn" [.ref 1,.int (1+r1)] [] s2 (.lst sv) s3)
 (f4:dR P d [.str "strict",.str "strict",.str "normal",.str "loose"] s3 (.str st) s4) (f5:aP P d 5 s4 r5 s5) (f6:aP P d 3 s5 r3 s6)
 (f7:cP P d "" "_law_data" [.lst sv] [] s6 (.tup [.inst "Data" D,.ref C]) s7)
 (f8:tyI false "list" [.ref C] s7=some (.lst cs,s7))
 (f9:cP P d "" "_law_places" [.lst sv,et st (r5==4) (r3==2)] [] s7 (.lst du) s7)
 (q1:((st=="strict")&&((((r5==4)==false)&&(((r3==2)==false)&&true))))=false)
 (l0:cP P d "LineHow" "__init__" [.inst "LineHow" s7.length] [("strictness",.str st),("keep_all",.bool (r5==4)),("numbers",.str "expression")] (s7++[.dict []]) .none s8)
 (l1:cP P d "LineBreaks" "__init__" [.inst "LineBreaks" s8.length,.inst "Data" D,.inst "LineHow" s7.length] [] (s8++[.dict []]) .none s9)
 (q2:(r3==2)=true)
 (m0:MO P s8.length s9) (o1:cP P d "LineBreaks" "opportunities" [.inst "LineBreaks" s8.length] [("text",.ref C)] s9 (.lst opp) s9)
 (t1:tyI false "list" [.lst opp] s9=some (.lst opp,s9)) (c1:aM s9 .NotEq (.lst opp) (.lst du)=some false) (c2:aM s9 .NotEq (.ref C) (.lst cs)=some false)
 (sl:aG false s9 (.lst du) .none (.int (-1)) .none=some (.lst cl,s9))
 (i1:aM s9 .In (.str "must") (.lst cl)=some true)
 (ix:aS s9 "list.index" (.lst du) [.str "must"]=some (.int at',s9)) (k1:aG false s9 (.ref C) (.int at') .none .none=some (.lst rest,s9))
 (o2f:Br P d s8.length s9 (.lst rest) o2) (t2:tyI false "list" [.lst o2] s9=some (.lst o2,s9)) (k2:aG false s9 (.lst du) (.int (at'+1)) .none .none=some (.lst su,s9)) (k3:c8 false .Add (.lst [.str "no"]) (.lst su) s9=some (.lst (.str "no"::su),s9))
 (c3:aM s9 .Eq (.lst o2) (.lst (.str "no"::su))=some true) :
 cP P (d+1) "" "law" [.lst ns] [] [] (.bool true) s9:=by
 unfold aP at f2
 unfold aP at f5
 unfold aP at f6
 unfold dR at f4
 unfold MO at m0
 unfold Br at o2f
 exact af (cw P) ([V.lst ns]) (fun z=>(zD f1 (zT q0 (zD f2 (zD f3 (zD f4 (zD f5 (zD f6 (zD f7 (zP f8 (zD f9 (zH q1 (zH q2 (zN l0 (zN l1 (zK m0 (zD o1 (zP t1 (zT c1 (zT c2 (zP sl (zT i1 (zP ix (zK m0 (zP k1 (zD o2f (zP t2 (zP k2 (zP k3 (zT c3 (z0 z)))).C.R)))).R.R).C.R.R.T)).C.F).F)))).R.R))).C.C.C.R.R.R).C.R.R).R).R.R).R.R.R.C).R.C).R).R.R.R).C).R.T).R.R.R).R.R)
theorem GU(f1:cP P d "" "_law_deck" [.lst ns] [] [] (.ref 1) s1)
 (q0:aM s1 .NotEq (.lst ns) (.lst [])=some true) (f2:aP P d 7 s1 r1 s2)
 (f3:cP P d "" "_law_drawn" [.ref 1,.int (1+r1)] [] s2 (.lst sv) s3)
 (f4:dR P d [.str "strict",.str "strict",.str "normal",.str "loose"] s3 (.str st) s4) (f5:aP P d 5 s4 r5 s5) (f6:aP P d 3 s5 r3 s6)
 (f7:cP P d "" "_law_data" [.lst sv] [] s6 (.tup [.inst "Data" D,.ref C]) s7)
 (f8:tyI false "list" [.ref C] s7=some (.lst cs,s7))
 (f9:cP P d "" "_law_places" [.lst sv,et st (r5==4) (r3==2)] [] s7 (.lst du) s7)
 (q1:((st=="strict")&&((((r5==4)==false)&&(((r3==2)==false)&&true))))=false)
 (l0:cP P d "LineHow" "__init__" [.inst "LineHow" s7.length] [("strictness",.str st),("keep_all",.bool (r5==4)),("numbers",.str "pairs")] (s7++[.dict []]) .none s8)
 (l1:cP P d "LineBreaks" "__init__" [.inst "LineBreaks" s8.length,.inst "Data" D,.inst "LineHow" s7.length] [] (s8++[.dict []]) .none s9)
 (q2:(r3==2)=false)
 (m0:MO P s8.length s9) (o1:cP P d "LineBreaks" "opportunities" [.inst "LineBreaks" s8.length] [("text",.ref C)] s9 (.lst opp) s9)
 (t1:tyI false "list" [.lst opp] s9=some (.lst opp,s9)) (c1:aM s9 .NotEq (.lst opp) (.lst du)=some false) (c2:aM s9 .NotEq (.ref C) (.lst cs)=some false)
 (sl:aG false s9 (.lst du) .none (.int (-1)) .none=some (.lst cl,s9))
 (i1:aM s9 .In (.str "must") (.lst cl)=some true)
 (ix:aS s9 "list.index" (.lst du) [.str "must"]=some (.int at',s9)) (k1:aG false s9 (.ref C) (.int at') .none .none=some (.lst rest,s9))
 (o2f:Br P d s8.length s9 (.lst rest) o2) (t2:tyI false "list" [.lst o2] s9=some (.lst o2,s9)) (k2:aG false s9 (.lst du) (.int (at'+1)) .none .none=some (.lst su,s9)) (k3:c8 false .Add (.lst [.str "no"]) (.lst su) s9=some (.lst (.str "no"::su),s9))
 (c3:aM s9 .Eq (.lst o2) (.lst (.str "no"::su))=some true) :
 cP P (d+1) "" "law" [.lst ns] [] [] (.bool true) s9:=by
 unfold aP at f2
 unfold aP at f5
 unfold aP at f6
 unfold dR at f4
 unfold MO at m0
 unfold Br at o2f
 exact af (cw P) ([V.lst ns]) (fun z=>(zD f1 (zT q0 (zD f2 (zD f3 (zD f4 (zD f5 (zD f6 (zD f7 (zP f8 (zD f9 (zH q1 (zH q2 (zN l0 (zN l1 (zK m0 (zD o1 (zP t1 (zT c1 (zT c2 (zP sl (zT i1 (zP ix (zK m0 (zP k1 (zD o2f (zP t2 (zP k2 (zP k3 (zT c3 (z0 z)))).C.R)))).R.R).C.R.R.T)).C.F).F)))).R.R))).C.C.C.R.R.R).C.R.R).R).R.R).R.R.R.C).R.C).R).R.R.R).C).R.T).R.R.R).R.R)
theorem JE(f1:cP P d "" "_law_deck" [.lst ns] [] [] (.ref 1) s1)
 (q0:aM s1 .NotEq (.lst ns) (.lst [])=some false)
 (f3:cP P d "" "_law_drawn" [.ref 1,.int 0] [] s1 (.lst sv) s3)
 (f4:dR P d [.str "strict",.str "strict",.str "normal",.str "loose"] s3 (.str st) s4) (f5:aP P d 5 s4 r5 s5) (f6:aP P d 3 s5 r3 s6)
 (f7:cP P d "" "_law_data" [.lst sv] [] s6 (.tup [.inst "Data" D,.ref C]) s7)
 (f8:tyI false "list" [.ref C] s7=some (.lst cs,s7))
 (f9:cP P d "" "_law_places" [.lst sv,et st (r5==4) (r3==2)] [] s7 (.lst du) s7)
 (q1:((st=="strict")&&((((r5==4)==false)&&(((r3==2)==false)&&true))))=true)
 (l1:cP P d "LineBreaks" "__init__" [.inst "LineBreaks" s7.length,.inst "Data" D] [] (s7++[.dict []]) .none s9)
 (m0:MO P s7.length s9) (o1:cP P d "LineBreaks" "opportunities" [.inst "LineBreaks" s7.length] [("text",.ref C)] s9 (.lst opp) s9)
 (t1:tyI false "list" [.lst opp] s9=some (.lst opp,s9)) (c1:aM s9 .NotEq (.lst opp) (.lst du)=some false) (c2:aM s9 .NotEq (.ref C) (.lst cs)=some false)
 (sl:aG false s9 (.lst du) .none (.int (-1)) .none=some (.lst cl,s9))
 (i1:aM s9 .In (.str "must") (.lst cl)=some false) :
 cP P (d+1) "" "law" [.lst ns] [] [] (.bool true) s9:=by
 unfold aP at f5
 unfold aP at f6
 unfold dR at f4
 unfold MO at m0
 exact af (cw P) ([V.lst ns]) (fun z=>(zD f1 (zT q0 (zD f3 (zD f4 (zD f5 (zD f6 (zD f7 (zP f8 (zD f9 (zH q1 (zN l1 (zK m0 (zD o1 (zP t1 (zT c1 (zT c2 (zP sl (zT i1 (z0 z).F)).C.F).F)))).R.R).R.R).C.R.R).R).R.R).R.R.R.C).R.C).R).R.R.R).F).R.R.R).R.R)
theorem GV(f1:cP P d "" "_law_deck" [.lst ns] [] [] (.ref 1) s1)
 (q0:aM s1 .NotEq (.lst ns) (.lst [])=some false)
 (f3:cP P d "" "_law_drawn" [.ref 1,.int 0] [] s1 (.lst sv) s3)
 (f4:dR P d [.str "strict",.str "strict",.str "normal",.str "loose"] s3 (.str st) s4) (f5:aP P d 5 s4 r5 s5) (f6:aP P d 3 s5 r3 s6)
 (f7:cP P d "" "_law_data" [.lst sv] [] s6 (.tup [.inst "Data" D,.ref C]) s7)
 (f8:tyI false "list" [.ref C] s7=some (.lst cs,s7))
 (f9:cP P d "" "_law_places" [.lst sv,et st (r5==4) (r3==2)] [] s7 (.lst du) s7)
 (q1:((st=="strict")&&((((r5==4)==false)&&(((r3==2)==false)&&true))))=false)
 (l0:cP P d "LineHow" "__init__" [.inst "LineHow" s7.length] [("strictness",.str st),("keep_all",.bool (r5==4)),("numbers",.str "expression")] (s7++[.dict []]) .none s8)
 (l1:cP P d "LineBreaks" "__init__" [.inst "LineBreaks" s8.length,.inst "Data" D,.inst "LineHow" s7.length] [] (s8++[.dict []]) .none s9)
 (q2:(r3==2)=true)
 (m0:MO P s8.length s9) (o1:cP P d "LineBreaks" "opportunities" [.inst "LineBreaks" s8.length] [("text",.ref C)] s9 (.lst opp) s9)
 (t1:tyI false "list" [.lst opp] s9=some (.lst opp,s9)) (c1:aM s9 .NotEq (.lst opp) (.lst du)=some false) (c2:aM s9 .NotEq (.ref C) (.lst cs)=some false)
 (sl:aG false s9 (.lst du) .none (.int (-1)) .none=some (.lst cl,s9))
 (i1:aM s9 .In (.str "must") (.lst cl)=some false) :
 cP P (d+1) "" "law" [.lst ns] [] [] (.bool true) s9:=by
 unfold aP at f5
 unfold aP at f6
 unfold dR at f4
 unfold MO at m0
 exact af (cw P) ([V.lst ns]) (fun z=>(zD f1 (zT q0 (zD f3 (zD f4 (zD f5 (zD f6 (zD f7 (zP f8 (zD f9 (zH q1 (zH q2 (zN l0 (zN l1 (zK m0 (zD o1 (zP t1 (zT c1 (zT c2 (zP sl (zT i1 (z0 z).F)).C.F).F)))).R.R))).C.C.C.R.R.R).C.R.R).R).R.R).R.R.R.C).R.C).R).R.R.R).F).R.R.R).R.R)
theorem GW(f1:cP P d "" "_law_deck" [.lst ns] [] [] (.ref 1) s1)
 (q0:aM s1 .NotEq (.lst ns) (.lst [])=some false)
 (f3:cP P d "" "_law_drawn" [.ref 1,.int 0] [] s1 (.lst sv) s3)
 (f4:dR P d [.str "strict",.str "strict",.str "normal",.str "loose"] s3 (.str st) s4) (f5:aP P d 5 s4 r5 s5) (f6:aP P d 3 s5 r3 s6)
 (f7:cP P d "" "_law_data" [.lst sv] [] s6 (.tup [.inst "Data" D,.ref C]) s7)
 (f8:tyI false "list" [.ref C] s7=some (.lst cs,s7))
 (f9:cP P d "" "_law_places" [.lst sv,et st (r5==4) (r3==2)] [] s7 (.lst du) s7)
 (q1:((st=="strict")&&((((r5==4)==false)&&(((r3==2)==false)&&true))))=false)
 (l0:cP P d "LineHow" "__init__" [.inst "LineHow" s7.length] [("strictness",.str st),("keep_all",.bool (r5==4)),("numbers",.str "pairs")] (s7++[.dict []]) .none s8)
 (l1:cP P d "LineBreaks" "__init__" [.inst "LineBreaks" s8.length,.inst "Data" D,.inst "LineHow" s7.length] [] (s8++[.dict []]) .none s9)
 (q2:(r3==2)=false)
 (m0:MO P s8.length s9) (o1:cP P d "LineBreaks" "opportunities" [.inst "LineBreaks" s8.length] [("text",.ref C)] s9 (.lst opp) s9)
 (t1:tyI false "list" [.lst opp] s9=some (.lst opp,s9)) (c1:aM s9 .NotEq (.lst opp) (.lst du)=some false) (c2:aM s9 .NotEq (.ref C) (.lst cs)=some false)
 (sl:aG false s9 (.lst du) .none (.int (-1)) .none=some (.lst cl,s9))
 (i1:aM s9 .In (.str "must") (.lst cl)=some false) :
 cP P (d+1) "" "law" [.lst ns] [] [] (.bool true) s9:=by
 unfold aP at f5
 unfold aP at f6
 unfold dR at f4
 unfold MO at m0
 exact af (cw P) ([V.lst ns]) (fun z=>(zD f1 (zT q0 (zD f3 (zD f4 (zD f5 (zD f6 (zD f7 (zP f8 (zD f9 (zH q1 (zH q2 (zN l0 (zN l1 (zK m0 (zD o1 (zP t1 (zT c1 (zT c2 (zP sl (zT i1 (z0 z).F)).C.F).F)))).R.R))).C.C.C.R.R.R).C.R.R).R).R.R).R.R.R.C).R.C).R).R.R.R).F).R.R.R).R.R)
end
noncomputable abbrev nO:V:=.str "no"
noncomputable abbrev mY:V:=.str "may"
noncomputable abbrev mU:V:=.str "must"
noncomputable abbrev NoR(v:V):Prop:=v=.none\/∃x,v=noV x
theorem cy{q:Bool}{x y:V}(hx:NoR x)(hy:NoR y):NoR (cond q x y):=okC (R:=NoR) hx hy
theorem gU:NoR .none:=.inl rfl
theorem dy{x:Str}:NoR (noV x):=.inr ⟨x,rfl⟩
theorem nt{v:V}{r:List V}(h:NoR v):gS (eR (v::r))=cond (isR v) nO (gS (eR r)):=by
 rcases h with rfl | ⟨x,rfl⟩ <;> rfl
theorem JF{a b:Str}{r:List V}:gS (eR (lr a b::r))=cond (a=="BK") mU (cond ((a=="CR")&&(b=="LF")) nO (cond (inS a eK) mU (cond (inS b eK) nO (gS (eR r))))):=by
 unfold lr
 cases(a=="BK") <;> cases((a=="CR")&&(b=="LF")) <;> cases(inS a eK) <;> cases(inS b eK) <;> rfl
theorem D7{b s:Str}{j:Bool}{r:List V}:gS (eR (gB b s j::r))=cond (inS b ["SP","ZW"]) nO (cond (s=="ZW") mY (cond j nO (gS (eR r)))):=by
 unfold gB
 cases(inS b ["SP","ZW"]) <;> cases(s=="ZW") <;> cases j <;> rfl
theorem JG{a b s:Str}{r:List V}:gS (eR (m6 a b s::r))=cond ((inS s ["CL","CP"]&&(b=="NS"))||((s=="B2")&&(b=="B2"))) nO (cond (a=="SP") mY (gS (eR r))):=by
 unfold m6
 cases(inS s ["CL","CP"]&&(b=="NS")) <;> cases((s=="B2")&&(b=="B2")) <;> cases(a=="SP") <;> rfl
def sgB(a b a2 st:Str):Bool:=(inS b ["BA","HY","NS"]||(a=="BB"))||((inS a ["HY","BA"]&&((a2=="HL") && !(b=="HL")))||(((a=="SY")&&(b=="HL"))||((b=="IN") && !((st=="loose")&&(a=="IN")))))
theorem GX{a b a2 st:Str}{r:List V}:gS (eR (gv a b a2 st::r))=cond ((a=="QU")||(b=="QU")) nO (cond ((a=="CB")||(b=="CB")) mY (cond (sgB a b a2 st) nO (gS (eR r)))):=by
 unfold gv sgB
 cases((a=="QU")||(b=="QU")) <;> cases((a=="CB")||(b=="CB")) <;> cases(inS b ["BA","HY","NS"]||(a=="BB")) <;> cases(inS a ["HY","BA"]&&((a2=="HL") && !(b=="HL"))) <;> cases((a=="SY")&&(b=="HL")) <;> cases((b=="IN") && !((st=="loose")&&(a=="IN"))) <;> rfl
theorem ua{α:Type}{p q:Bool}{x y:α}:cond p x (cond q x y)=cond (p||q) x y:=by cases p <;> rfl
theorem NB{q:Bool}{x y w:V}:orV (cond q x y) w=cond q (orV x w) (orV y w):=by cases q <;> rfl
theorem L4{bk x ah bh b2 b6 sz lz j g c q o l5 l6 l7 l8 l9 sp:Bool}{t:V}
 (h1:bk=true->x=false/\ah=true) (h2:b6=(bh||b2)) (h3:sz=lz) (h4:(j||(g||(c||(q||o))))=(l5||(l6||(l7||(l8||l9))))) :
 cond bk mU (cond x nO (cond ah mU (cond bh nO (cond b2 nO (cond sz mY (cond j nO (cond g nO (cond c nO (cond q nO (cond o nO (cond sp mY t))))))))))) =
 cond x nO (cond ah mU (cond b6 nO (cond lz mY (cond l5 nO (cond l6 nO (cond l7 nO (cond l8 nO (cond l9 nO (cond sp mY t))))))))):=by
 rw[h2,h3]
 have e:cond j nO (cond g nO (cond c nO (cond q nO (cond o nO (cond sp mY t)))))=cond l5 nO (cond l6 nO (cond l7 nO (cond l8 nO (cond l9 nO (cond sp mY t))))):=by
  rw[ua,ua,ua,ua,ua,ua,ua,ua,Bool.or_assoc,Bool.or_assoc,Bool.or_assoc,Bool.or_assoc,Bool.or_assoc,Bool.or_assoc,h4]
 rw[e,<- ua]
 cases bk with
 |false=>rfl
 |true=>obtain⟨rfl,rfl⟩:=h1 rfl;rfl
theorem lu{q:Bool}{x y:V}:isR (cond q x y)=cond q (isR x) (isR y):=by cases q <;> rfl
theorem lx{x:Str}:isR (noV x)=true:=rfl
theorem ly:isR .none=false:=rfl
theorem bq{x:Str}(y:Str):(y==x)=(x==y):=by rw[Bool.eq_iff_iff,P4,P4];exact eq_comm
theorem L5{a b:Str}:isR (ke a b)=(inS "WJ" [a,b]||((a=="GL")||((b=="GL") && !inS a ["SP","BA","HY"]))):=by
 unfold ke
 simp only[lu,lx,ly,inS]
 generalize (a=="WJ")=x1;generalize (b=="WJ")=x2;generalize (a=="GL")=x3;generalize (b=="GL")=x4;generalize (("SP":Str)==a)=x5;generalize (("BA":Str)==a)=x6;generalize (("HY":Str)==a)=x7
 revert x1 x2 x3 x4 x5 x6 x7;decide
theorem D8{a b s nm:Str}{iw:Bool}(h:(nm=="expression")=iw):isR (dP a b s nm)=((b=="EX")||((inS b ["CL","CP","IS","SY"] && !(iw&&(a=="NU")))||(s=="OP"))):=by
 unfold dP
 simp only[lu,lx,ly,inS,h,bq (x:=b)]
 generalize (b=="CL")=x1;generalize (b=="CP")=x2;generalize (b=="EX")=x3;generalize (b=="IS")=x4;generalize (b=="SY")=x5;generalize (a=="NU")=x6;generalize (s=="OP")=x7
 clear h;revert x1 x2 x3 x4 x5 x6 x7 iw;decide
theorem GY{qi qf l7 l8:Bool}{q k N:Int}{aq c:Str}(h7:(qi&&((q==0)||inS aq i9))=l7)(h8:(qf&&((k+1==N)||inS c eu))=l8):isR (gd qi qf q k N aq c)=(l7||l8):=by
 unfold gd
 simp only[lu,lx,ly,h7,h8]
 cases l7 <;> cases l8 <;> rfl
theorem NC{x:Str}{q:Bool}{l m:List Str}:inS x (cond q l m)=cond q (inS x l) (inS x m):=by cases q <;> rfl
theorem L6{a b:Str}:inS b (p0 a)=((inP a b [("JL","JL"),("JL","JV"),("JL","H2"),("JL","H3")]||(inS a ["JV","H2"]&&inS b ["JV","JT"]))||(inS a ["JT","H3"]&&(b=="JT"))):=by
 unfold p0
 simp only[NC,inS,inP,bq (x:=b),bq (x:=a)]
 by_cases h1:a="JL"
 . subst h1
   generalize (b=="JL")=x1;generalize (b=="JV")=x2;generalize (b=="H2")=x3;generalize (b=="H3")=x4;generalize (b=="JT")=x5
   revert x1 x2 x3 x4 x5;decide +kernel
 rw[PC.mpr h1]
 by_cases h2:a="JV"
 . subst h2
   generalize (b=="JL")=x1;generalize (b=="JV")=x2;generalize (b=="H2")=x3;generalize (b=="H3")=x4;generalize (b=="JT")=x5
   revert x1 x2 x3 x4 x5;decide +kernel
 rw[PC.mpr h2]
 by_cases h3:a="H2"
 . subst h3
   generalize (b=="JL")=x1;generalize (b=="JV")=x2;generalize (b=="H2")=x3;generalize (b=="H3")=x4;generalize (b=="JT")=x5
   revert x1 x2 x3 x4 x5;decide +kernel
 rw[PC.mpr h3]
 generalize (a=="JT")=x6;generalize (a=="H3")=x7;generalize (b=="JL")=x1;generalize (b=="JV")=x2;generalize (b=="H2")=x3;generalize (b=="H3")=x4;generalize (b=="JT")=x5
 revert x1 x2 x3 x4 x5 x6 x7;decide
theorem L7{a b:Str}:inP a b yQ=cond ((inS a ["CL","CP","NU"]&&inS b ["PO","PR"])||(inS a ["PO","PR"]&&inS b ["OP","NU"])) true (inS a ["HY","IS","NU","SY"]&&(b=="NU")):=by
 simp only[inS,inP,bq (x:=b),bq (x:=a)]
 generalize (a=="CL")=x1;generalize (a=="CP")=x2;generalize (a=="NU")=x3;generalize (a=="PO")=x4;generalize (a=="PR")=x5;generalize (a=="HY")=x6;generalize (a=="IS")=x7;generalize (a=="SY")=x8
 generalize (b=="PO")=y1;generalize (b=="PR")=y2;generalize (b=="OP")=y3;generalize (b=="NU")=y4
 revert x1 x2 x3 x4 x5 x6 x7 x8 y1 y2 y3 y4;decide +kernel
theorem Pq{b:Str}:((inS b ["NU","SY","IS"]||inS b ["CL","CP"])&&inS b ["PO","PR"])=false:=by
 by_cases h1:b="PO"
 .subst h1;decide
 by_cases h2:b="PR"
 .subst h2;decide
 simp only[inS,bq (x:=b),PC.mpr h1,PC.mpr h2,Bool.or_false,Bool.and_false]
theorem L8{a b c nm:Str}{iw f1 f2:Bool}(h:(nm=="expression")=iw)(hf:inS a ["CL","CP"]=true->f1=false):isR (eo a b nm (gA a b c f1 f2))=sF a b iw (c=="NU") f1 f2:=by
 unfold eo sF
 cases iw with
 |false=>rw[h,cond_false,lu,lx,ly,L7,Bool.not_false,cond_true];cases cond ((inS a ["CL","CP","NU"]&&inS b ["PO","PR"])||(inS a ["PO","PR"]&&inS b ["OP","NU"])) true (inS a ["HY","IS","NU","SY"]&&(b=="NU")) <;> rfl
 |true =>
  have hx:=Pq (b:=b)
  rw[h,cond_true,Bool.not_true,cond_false]
  unfold gA
  have e1:inS b ["NU","SY","IS","CL","CP","PO","PR"]=((inS b ["NU","SY","IS"]||inS b ["CL","CP"])||inS b ["PO","PR"]):=by
   simp only[inS,Bool.or_false,Bool.or_assoc]
  have e2:inS b gP=inS b ["PO","PR"]:=by
   simp only[inS,Bool.or_false];exact Bool.or_comm _ _
  rw[e1,e2]
  simp only[lu,lx,ly]
  generalize ((inS a gP&&((b=="NU")||(inS b ["OP","HY"]&&(c=="NU"))))||(inS a ["OP","HY"]&&(b=="NU")))=x1
  generalize (inS b ["NU","SY","IS"]||inS b ["CL","CP"])=x2 at hx ⊢
  generalize inS b ["PO","PR"]=x3 at hx ⊢
  generalize inS a ["CL","CP"]=x4 at hf ⊢
  revert hx hf x1 x2 x3 x4 f1 f2;decide
theorem ND(la lb ia ib sa sb nua nub pra prb poa pob isa:Bool):
 ((((la&&nub)||(nua&&lb))||(((pra&&ib)||(ia&&pob))||((((pra||poa)&&lb)||(la&&(prb||pob))))))||((((sa&&pob)||(pra&&sb)))||(isa&&lb))) =
 (((la&&(nub||(prb||pob)))||(lb&&(nua||(pra||(poa||isa)))))||((pra&&(ib||sb))||(pob&&(ia||sa)))):=by
 revert la lb ia ib sa sb nua nub pra prb poa pob isa;decide +kernel
theorem D9{a b:Str}:isR (dQ a b)=(((inS a cC&&(b=="NU"))||((a=="NU")&&inS b cC))||((((a=="PR")&&inS b rT)||(inS a rT&&(b=="PO")))||((inS a gP&&inS b cC)||(inS a cC&&inS b gP)))):=by
 unfold dQ
 simp only[lu,lx,ly]
 generalize ((inS a cC&&(b=="NU"))||((a=="NU")&&inS b cC))=x;generalize (((a=="PR")&&inS b rT)||(inS a rT&&(b=="PO")))=y;generalize ((inS a gP&&inS b cC)||(inS a cC&&inS b gP))=z
 revert x y z;decide
theorem NE{a b:Str}:isR (qz a b)=(inS b (p0 a)||(((inS a A6&&(b=="PO"))||((a=="PR")&&inS b A6))||(inS a cC&&inS b cC))):=by
 unfold qz
 simp only[lu,lx,ly]
 generalize inS b (p0 a)=x;generalize ((inS a A6&&(b=="PO"))||((a=="PR")&&inS b A6))=y;generalize (inS a cC&&inS b cC)=z
 revert x y z;decide
theorem NF{a b:Str}{n0 n1:Bool}:isR (qA a b n0 n1)=(((a=="IS")&&inS b cC)||((inS a ["AL","HL","NU"]&&((b=="OP")&&n0))||((a=="CP")&&(n1&&inS b ["AL","HL","NU"])))):=by
 unfold qA
 simp only[lu,lx,ly,inS,bq (x:=b),bq (x:=a)]
 generalize (a=="IS")=x1;generalize (a=="AL")=x2;generalize (a=="HL")=x3;generalize (a=="NU")=x4;generalize (a=="CP")=x5;generalize (b=="AL")=y1;generalize (b=="HL")=y2;generalize (b=="NU")=y3;generalize (b=="OP")=y4
 revert x1 x2 x3 x4 x5 y1 y2 y3 y4 n0 n1;decide +kernel
theorem Cp{x:Str}:inS x rU=inS x ["AL","HL","JL","JV","JT","H2","H3","ID","NU"]:=by
 simp only[inS,bq (x:=x)]
 generalize (x=="AL")=x1;generalize (x=="HL")=x2;generalize (x=="ID")=x3;generalize (x=="NU")=x4;generalize (x=="JL")=x5;generalize (x=="JV")=x6;generalize (x=="JT")=x7;generalize (x=="H2")=x8;generalize (x=="H3")=x9
 revert x1 x2 x3 x4 x5 x6 x7 x8 x9;decide +kernel
theorem NG{a b g:Str}{r:Int}{ep ka rg:Bool}(h:((a=="RI")&&(r.fmod 2==1))=rg):isR (m7 a b g r ep ka)=(((b=="RI")&&rg)||(((b=="EM")&&((a=="EB")||(ep&&(g=="Cn"))))||(ka&&(inS a ["AL","HL","JL","JV","JT","H2","H3","ID","NU"]&&inS b ["AL","HL","JL","JV","JT","H2","H3","ID","NU"])))):=by
 unfold m7
 rw[<- h,<- Cp,<- Cp]
 simp only[lu,lx,ly]
 generalize (a=="RI")=x1;generalize (b=="RI")=x2;generalize (r.fmod 2==1)=x3;generalize (b=="EM")=x4;generalize ((a=="EB")||(ep&&(g=="Cn")))=x5;generalize (ka&&(inS a rU&&inS b rU))=x6
 revert x1 x2 x3 x4 x5 x6;clear h;decide +kernel
theorem NH{a b c:Str}{l r l2 r2 q9:Bool}(h:(l2&&r2)=q9):isR (t9 a b c l r l2 r2)=((((a=="AP")&&r)||((l&&inS b ["VF","VI"])||(l&&(r&&(c=="VF")))))||((a=="VI")&&q9)):=by
 unfold t9
 rw[h]
 simp only[lu,lx,ly]
 generalize ((a=="AP")&&r)=x1;generalize (l&&inS b ["VF","VI"])=x2;generalize ((a=="VI")&&q9)=x3;generalize (l&&(r&&(c=="VF")))=x4
 revert x1 x2 x3 x4;clear h;decide
theorem NK{a b:Str}:((inS a DV&&inS b ["NU","PR","PO"])||(inS b DV&&inS a ["NU","PR","PO","IS"]))=((inS a cC&&((b=="NU")||((b=="PR")||(b=="PO"))))||(inS b cC&&((a=="NU")||((a=="PR")||((a=="PO")||(a=="IS")))))):=by
 simp only[inS,bq (x:=a),bq (x:=b),Bool.or_false]
theorem GZ{x:Str}:inS x gP=((x=="PR")||(x=="PO")):=by simp only[inS,bq (x:=x),Bool.or_false]
theorem Ko{x:Str}:inS x ["ID","EB","EM","JL","JV","JT","H2","H3"]=(inS x rT||inS x A6):=by simp only[inS,Bool.or_false,Bool.or_assoc]
theorem JH{a b c g nm:Str}{n0 n1 l r l2 r2 qi qf ep ka f1 f2:Bool}{s:Str}{q k N rr:Int}{aq:Str}:NoR (ke a b)/\NoR (dP a b s nm)/\NoR (gd qi qf q k N aq c)/\NoR (dQ a b)/\NoR (eo a b nm (gA a b c f1 f2))/\NoR (qz a b)/\NoR (t9 a b c l r l2 r2)/\NoR (qA a b n0 n1)/\NoR (m7 a b g rr ep ka):=by
 unfold ke dP gd dQ eo gA qz t9 qA m7
 exact⟨cy dy (cy dy (cy dy gU)),cy (cy dy (cy dy gU)) (cy dy gU),cy dy (cy dy gU),cy dy (cy dy (cy dy gU)),
  cy (cy dy (cy (cy dy gU) (cy (cy (cy dy gU) (cy dy gU)) gU))) (cy dy gU),cy dy (cy dy (cy dy gU)),cy dy gU,cy dy (cy dy (cy dy gU)),
  cy dy (cy (cy dy (cy dy gU)) (cy dy gU))⟩
theorem NL{t1 t2 t3 t4 t5 le fg j6 j7 s2 ll a8 a9 isb b10 b11 p12 p13 p14 j4 pi po:Bool}(h:(le||(s2||isb))=(j4||(pi||po))):
 (((t1||t2)||(t3||(t4||t5)))||(le||(fg||(((j6||j7)||(s2||ll))||((a8||a9)||((isb||(b10||b11))||(p12||(p13||p14)))))))) =
 ((t1||(t2||t3))||((t4||t5)||(j4||((pi||(po||fg))||(j6||((j7||ll)||(a8||(a9||(b10||(b11||(p12||(p13||p14)))))))))))):=by
 have e:(((t1||t2)||(t3||(t4||t5)))||(le||(fg||(((j6||j7)||(s2||ll))||((a8||a9)||((isb||(b10||b11))||(p12||(p13||p14))))))))=((le||(s2||isb))||(t1||(t2||(t3||(t4||(t5||(fg||(j6||(j7||(ll||(a8||(a9||(b10||(b11||(p12||(p13||p14)))))))))))))))):=by ac_rfl
 rw[e,h];ac_rfl
theorem NN{qu cb sg le nu sy ak br pi j2 j3 j4 j5 j6 j7 j8 j9 j10 j11 j12 j13 j14:Bool}(h:(sg||(le||(nu||(sy||(ak||(br||pi))))))=(j2||(j3||(j4||(j5||(j6||(j7||(j8||(j9||(j10||(j11||(j12||(j13||j14))))))))))))):
 cond qu nO (cond cb mY (cond sg nO (cond le nO (cond nu nO (cond sy nO (cond ak nO (cond br nO (cond pi nO mY))))))))=cond (qu||cb) (cond qu nO mY) (cond j2 nO (cond j3 nO (cond j4 nO (cond j5 nO (cond j6 nO (cond j7 nO (cond j8 nO (cond j9 nO (cond j10 nO (cond j11 nO (cond j12 nO (cond j13 nO (cond j14 nO mY))))))))))))):=by
 have e:cond sg nO (cond le nO (cond nu nO (cond sy nO (cond ak nO (cond br nO (cond pi nO mY))))))=cond j2 nO (cond j3 nO (cond j4 nO (cond j5 nO (cond j6 nO (cond j7 nO (cond j8 nO (cond j9 nO (cond j10 nO (cond j11 nO (cond j12 nO (cond j13 nO (cond j14 nO mY)))))))))))):=by
  simp only[ua,Bool.or_assoc]
  rw[h]
 rw[e]
 cases qu <;> cases cb <;> rfl
theorem G0{a b c s last a2P a2L aq aj g1 gj gk st nm e1 ek:Str}{iw ka j qi qf nr fr l2 r2 ak dk k1 f1 f2 n0 n1 p1 rg zj bx:Bool}{q k N rr:Int}
 (hnm:(nm=="expression")=iw) (z1:(s=="ZW")=(last=="ZW")) (z2:(s=="OP")=(last=="OP")) (z3:inS s ["CL","CP"]=inS last ["CL","CP"]) (z4:(s=="B2")=(last=="B2"))
 (h7:(qi&&((q==0)||inS aq i9))=((last=="QU")&&((gj=="Pi")&&(zj||inS aj i9)))) (h8:(qf&&((k+1==N)||inS c eu))=((b=="QU")&&((gk=="Pf")&&bx)))
 (hf:inS a ["CL","CP"]=true->f1=false) (h21:(a2P=="HL")=(k1&&(a2L=="HL"))) (hak:(l2&&r2)=(k1&&(ak&&((b=="AK")||dk)))) (hn0:n0 = !inS ek Ce) (hn1:n1 = !inS e1 Ce) (hri:((a=="RI")&&(rr.fmod 2==1))=rg) :
 gS (eR [lr a b,gB b s j,ke a b,dP a b s nm,gd qi qf q k N aq c,m6 a b s,gv a b a2P st,dQ a b,eo a b nm (gA a b c f1 f2),qz a b,t9 a b c nr fr l2 r2,qA a b n0 n1,m7 a b g1 rr p1 ka]) =
 orV (bB a b last gj gk aj j iw zj bx) (bH a b a2L st e1 ek g1 ka (sF a b iw (c=="NU") f1 f2) nr fr ak (c=="VF") dk k1 rg p1):=by
 obtain⟨n1',n2,n3,n4,n5,n6,n7,n8,n9⟩:=JH (a:=a) (b:=b) (c:=c) (g:=g1) (nm:=nm) (n0:=n0) (n1:=n1) (l:=nr) (r:=fr) (l2:=l2) (r2:=r2) (qi:=qi) (qf:=qf) (ep:=p1) (ka:=ka) (f1:=f1) (f2:=f2) (s:=s) (q:=q) (k:=k) (N:=N) (rr:=rr) (aq:=aq)
 rw[JF,D7,nt n1',nt n2,nt n3,JG,GX,nt n4,nt n5,nt n6,nt n7,nt n8,nt n9]
 rw[L5,D8 hnm,GY h7 h8,z1,z2,z3,z4]
 unfold bB
 simp only[NB]
 have tail:cond ((a=="QU")||(b=="QU")) nO (cond ((a=="CB")||(b=="CB")) mY (cond (sgB a b a2P st) nO (cond (isR (dQ a b)) nO (cond (isR (eo a b nm (gA a b c f1 f2))) nO (cond (isR (qz a b)) nO (cond (isR (t9 a b c nr fr l2 r2)) nO (cond (isR (qA a b n0 n1)) nO (cond (isR (m7 a b g1 rr p1 ka)) nO mY)))))))) =
  bH a b a2L st e1 ek g1 ka (sF a b iw (c=="NU") f1 f2) nr fr ak (c=="VF") dk k1 rg p1:=by
  unfold bH
  have eq:inS "QU" [a,b]=((a=="QU")||(b=="QU")):=by simp only[inS,Bool.or_false]
  have ec:inS "CB" [a,b]=((a=="CB")||(b=="CB")):=by simp only[inS,Bool.or_false]
  rw[eq,ec]
  refine NN ?_
  rw[D9,L8 hnm hf,NE,L6,NH hak,NF,NG hri,NK,Ko,Ko,GZ,GZ,hn0,hn1]
  unfold sgB
  rw[h21,Bool.and_assoc k1]
  exact NL (ND _ _ _ _ _ _ _ _ _ _ _ _ _)
 show cond (a=="BK") mU _=_
 refine(L4 (bk:=(a=="BK")) (x:=((a=="CR")&&(b=="LF"))) (ah:=inS a eK) (bh:=inS b eK) (b2:=inS b ["SP","ZW"]) (b6:=inS b ["BK","CR","LF","NL","SP","ZW"]) (sz:=(last=="ZW")) (lz:=(last=="ZW")) (j:=j) (sp:=(a=="SP"))
  (l5:=(j||(inS "WJ" [a,b]||((a=="GL")||(((b=="GL") && !inS a ["SP","BA","HY"])||(b=="EX")))))) (l6:=((inS b ["CL","CP","IS","SY"] && !(iw&&(a=="NU")))||(last=="OP"))) (l7:=((last=="QU")&&((gj=="Pi")&&(zj||inS aj i9)))) (l8:=((b=="QU")&&((gk=="Pf")&&bx))) (l9:=((inS last ["CL","CP"]&&(b=="NS"))||((last=="B2")&&(b=="B2")))) ?_ ?_ rfl ?_).trans ?_
 . intro h
   rw[P4.mp h]
   exact⟨rfl,rfl⟩
 .simp only[inS,Bool.or_false,Bool.or_assoc]
 . generalize inS "WJ" [a,b]=x1;generalize (a=="GL")=x2;generalize ((b=="GL") && !inS a ["SP","BA","HY"])=x3;generalize (b=="EX")=x4;generalize (inS b ["CL","CP","IS","SY"] && !(iw&&(a=="NU")))=x5;generalize (last=="OP")=x6
   ac_rfl
 .rw[<- tail];rfl
noncomputable def eI(us:List UL):Nat:=(us.map (·.m)).sum
noncomputable def toD(cf:aw->Int)(off:Nat):List UL->List au
 |[]=>[]
 |u::r=>⟨u.w,cf u.s,(off:Int),u.j⟩::toD cf (off+u.m) r
theorem qN{cf:aw->Int}{u:UL}:∀(us:List UL) (off:Nat),toD cf off (us++[u])=toD cf off us++[⟨u.w,cf u.s,((off+eI us:Nat):Int),u.j⟩]
 |[],off=>rfl
 |v::r,off=>by
  show _::toD cf (off+v.m) (r++[u])=_::(toD cf (off+v.m) r++_)
  rw[qN r]
  have:off+v.m+eI r=off+eI (v::r):=by unfold eI;rw[List.map_cons,List.sum_cons];exact Nat.add_assoc _ _ _
  rw[this]
theorem fM{cf:aw->Int}:∀(us:List UL) (off:Nat),(toD cf off us).length=us.length
 |[],_=>rfl
 |v::r,off=>PI (· + 1) (fM r _)
theorem eC{us:List UL}{u:UL}:eI (us++[u])=eI us+u.m:=by unfold eI;rw[PW,List.sum_append];simp
theorem zf{x:Str}(h:dA x=false):(x=="ZWJ")=false:=by
 cases q:(x==("ZWJ":Str))with
 |false=>rfl
 |true=>rw[P4.mp q]at h;exact absurd h (by decide)
theorem Cq{cf:aw->Int}{st:Str}{us:List UL}{s:aw}:cx (toD cf 0 us) (aN st s) (cf s) ((eI us:Nat):Int)=toD cf 0 (eH st us s)/\eI (eH st us s)=eI us+1:=by
 have new:∀ {w:Str}{j:Bool} (vs:List UL),toD cf 0 (vs++[⟨w,s,1,j⟩])=toD cf 0 vs++[⟨w,cf s,((eI vs:Nat):Int),j⟩]:=fun vs=>by rw[qN,Nat.zero_add]
 unfold cx eH
 rcases List.eq_nil_or_concat us with rfl | ⟨vs,u,rfl⟩
 . unfold lQ
   refine⟨?_,?_⟩
   . cases q:dA (aN st s)with
     |true=>rfl
     |false=>rw[zf q];rfl
   .rfl
 . rw[P1,List.getLast?_concat,List.dropLast_concat]
   have hl:((toD cf 0 (vs++[u])).length==0)=false:=PC.mpr (by rw[fM,Px];simp)
   dsimp only
   rw[hl,Bool.false_or]
   have e:=qN (cf:=cf) (u:=u) vs 0
   rw[Nat.zero_add]at e
   have lw:uK (toD cf 0 (vs++[u]))=u.w:=by rw[e];exact uL
   rw[lw]
   unfold lQ
   cases q:dA (aN st s)with
   |false =>
    rw[cond_false,Bool.false_and,cond_false,cond_false,zf q,new,eC]
    exact⟨rfl,by rw[eC,eC]⟩
   |true =>
    rw[cond_true,Bool.true_and]
    cases q2:fJ u.w with
    |true =>
     rw[cond_true,Bool.not_true,cond_false,cond_true,new,eC]
     exact⟨rfl,by rw[eC,eC]⟩
    |false =>
     rw[cond_false,Bool.not_false,cond_true,e,m9,qN,Nat.zero_add,eC,eC]
     exact⟨rfl,by show eI vs+(u.m+1)=_;exact(Nat.add_assoc _ _ _).symm⟩
theorem zg{cf:aw->Int}{st:Str}{cl:Int->Str}(ss:List aw)(h:∀s∈ss,cl (cf s)=aN st s):aO cl [] 0 (ss.map cf)=toD cf 0 (ao st ss)/\eI (ao st ss)=ss.length:=by
 rcases List.eq_nil_or_concat ss with rfl | ⟨rs,s,rfl⟩
 .exact⟨rfl,rfl⟩
 . rw[P1]at h ⊢
   obtain⟨e1,e2⟩:=zg (cf:=cf) (st:=st) (cl:=cl) rs (fun x hx=>h x (List.mem_append_left _ hx))
   have hs:=h s (List.mem_append_right _ (PH.mpr rfl))
   have es:ao st (rs++[s])=eH st (ao st rs) s:=by unfold ao;rw[List.foldl_append];rfl
   obtain⟨f1,f2⟩:=Cq (cf:=cf) (st:=st) (us:=ao st rs) (s:=s)
   rw[PW,List.map_cons,List.map_nil,im,e1,hs,es,PA,Int.zero_add,f2,e2,Px]
   rw[e2]at f1
   exact⟨f1,rfl⟩
 termination_by ss.length
 decreasing_by all_goals (subst_vars;simp)
def fN(us:List UL)(i:Nat):Nat:=eI (us.take i)
theorem xl{cf:aw->Int}:∀(us:List UL) (off i:Nat),i<us.length->(toD cf off us)[i]?=some ⟨wA us i,cf (uA us i).s,((off+fN us i:Nat):Int),(uA us i).j⟩
 |[],_,i,h=>absurd h (Nat.not_lt_zero i)
 |v::r,off,0,h=>rfl
 |v::r,off,i+1,h=>by
  show(toD cf (off+v.m) r)[i]?=_
  rw[xl r (off+v.m) i (Nat.lt_of_succ_lt_succ h)]
  have:off+v.m+fN r i=off+fN (v::r) (i+1):=by unfold fN;rw[List.take_succ_cons];unfold eI;rw[List.map_cons,List.sum_cons];exact Nat.add_assoc _ _ _
  rw[this];rfl
noncomputable def wD(us:List au)(p:Nat):Str:=(us.getD p ⟨"",0,0,false⟩).w
theorem Bs:∀(us:List au) (l i:Int) (p:Nat),p<us.length->(bv l i us).getD p 0=i6 (match p with | 0=>l | q+1=>(bv l i us).getD q 0) (wD us p) (i+p)
 |[],_,_,p,h=>absurd h (Nat.not_lt_zero p)
 |u::r,l,i,0,h=>by rw[show i+((0:Nat):Int)=i by lia];rfl
 |u::r,l,i,q+1,h=>by
  show(bv (i6 l u.w i) (i+1) r).getD q 0=i6 ((bv l i (u::r)).getD q 0) (wD r q) _
  rw[Bs r _ _ q (Nat.lt_of_succ_lt_succ h),show i+1+(q:Int)=i+((q+1:Nat):Int) by lia]
  cases q <;> rfl
theorem Bt:∀(us:List au) (m:Int) (p:Nat),p<us.length->(bY m us).getD p 0=oV (match p with | 0=>m | q+1=>(bY m us).getD q 0) (wD us p)
 |[],_,p,h=>absurd h (Nat.not_lt_zero p)
 |u::r,m,0,h=>rfl
 |u::r,m,q+1,h=>by
  show(bY (oV m u.w) r).getD q 0=oV ((bY m (u::r)).getD q 0) (wD r q)
  rw[Bt r _ q (Nat.lt_of_succ_lt_succ h)]
  cases q <;> rfl
theorem Bu:∀(us:List au) (b:Bool) (p:Nat),p<us.length->(bS b us).getD p false=gC (match p with | 0=>b | q+1=>(bS b us).getD q false) (wD us p)
 |[],_,p,h=>absurd h (Nat.not_lt_zero p)
 |u::r,b,0,h=>rfl
 |u::r,b,q+1,h=>by
  show(bS (gC b u.w) r).getD q false=gC ((bS b (u::r)).getD q false) (wD r q)
  rw[Bu r _ q (Nat.lt_of_succ_lt_succ h)]
  cases q <;> rfl
section
variable{cf:aw->Int}{us:List UL}{Y:lP}{k:Nat}{h:fW}
theorem uQ{p:Nat}(hp:p<us.length):wD (toD cf 0 us) p=wA us p:=by
 unfold wD;rw[List.getD_eq_getElem?_getD,xl us 0 p hp];rfl
theorem Kp:∀p,p<us.length->((bv (-1) 0 (toD cf 0 us)).getD p 0=(gw us p:Nat)/\(wA us (gw us p)=="SP")=false)\/((bv (-1) 0 (toD cf 0 us)).getD p 0 = -1/\(wA us (gw us p)=="SP")=true)
 |0,hp=>by
  rw[Bs _ _ _ 0 (by rw[fM];exact hp),uQ hp]
  show(cond (wA us 0=="SP") (-1) (0+((0:Nat):Int))=((0:Nat):Int)/\(wA us 0=="SP")=false)\/(cond (wA us 0=="SP") (-1) (0+((0:Nat):Int)) = -1/\(wA us 0=="SP")=true)
  cases(wA us 0=="SP")with
  |true=>exact .inr ⟨rfl,rfl⟩
  |false=>exact .inl ⟨by rw[cond_false];decide,rfl⟩
 |p+1,hp=>by
  rw[Bs _ _ _ (p+1) (by rw[fM];exact hp),uQ hp]
  have ih:=Kp p (Qa ‹_›)
  show(cond (wA us (p+1)=="SP") ((bv (-1) 0 (toD cf 0 us)).getD p 0) (0+((p+1:Nat):Int))=((cond (wA us (p+1)=="SP") (gw us p) (p+1):Nat):Int)/\(wA us (cond (wA us (p+1)=="SP") (gw us p) (p+1))=="SP")=false)\/(cond (wA us (p+1)=="SP") ((bv (-1) 0 (toD cf 0 us)).getD p 0) (0+((p+1:Nat):Int)) = -1/\(wA us (cond (wA us (p+1)=="SP") (gw us p) (p+1))=="SP")=true)
  cases q:(wA us (p+1)=="SP")with
  |true=>exact ih
  |false=>exact .inl ⟨by rw[cond_false,cond_false];exact Int.zero_add _,by rw[cond_false];exact q⟩
theorem Kq:∀p,p<us.length->(bY 0 (toD cf 0 us)).getD p 0=(p:Int)-riZ us (p+1)
 |0,hp=>by
  rw[Bt _ _ 0 (by rw[fM];exact hp),uQ hp]
  show cond (wA us 0=="RI") ((0:Int)+1) 0=((0:Nat):Int)-cond (wA us 0=="RI") (-1) ((0:Nat):Int)
  cases(wA us 0=="RI") <;> rfl
 |p+1,hp=>by
  rw[Bt _ _ (p+1) (by rw[fM];exact hp),uQ hp]
  have ih:=Kq p (Qa ‹_›)
  show cond (wA us (p+1)=="RI") ((bY 0 (toD cf 0 us)).getD p 0+1) 0=((p+1:Nat):Int)-cond (wA us (p+1)=="RI") (riZ us (p+1)) ((p+1:Nat):Int)
  rw[ih]
  cases(wA us (p+1)=="RI")with
  |true=>rw[cond_true,cond_true];lia
  |false=>rw[cond_false,cond_false];lia
theorem G1:∀p,p<us.length->(bS false (toD cf 0 us)).getD p false=kq us p
 |0,hp=>by
  rw[Bu _ _ 0 (by rw[fM];exact hp),uQ hp]
  show((wA us 0=="NU")||(false&&_))=(wA us 0=="NU")
  rw[Bool.false_and,Bool.or_false]
 |p+1,hp=>by
  rw[Bu _ _ (p+1) (by rw[fM];exact hp),uQ hp]
  have ih:=G1 p (Qa ‹_›)
  show((wA us (p+1)=="NU")||((bS false (toD cf 0 us)).getD p false&&inS (wA us (p+1)) wT))=(wA us (cond (inS (wA us (p+1)) ["SY","IS"]) (cU (fun n=>inS (wA us n) ["SY","IS"]) p) (p+1))=="NU")
  rw[ih]
  have e:inS (wA us (p+1)) wT=((wA us (p+1)=="NU")||inS (wA us (p+1)) ["SY","IS"]):=by simp only[inS,bq (x:=wA us (p+1))]
  rw[e]
  by_cases q:wA us (p+1)="NU"
  . have i0:inS ("NU":Str) ["SY","IS"]=false:=by decide
    rw[q,i0,cond_false,q,P2,Bool.true_or]
  . rw[PC.mpr q,Bool.false_or,Bool.false_or]
    cases q2:inS (wA us (p+1)) ["SY","IS"]with
    |true=>rw[Bool.and_true,cond_true];rfl
    |false=>rw[Bool.and_false,cond_false,PC.mpr q]
end
structure YOK(Y:lP)(h:fW)(cf:aw->Int)(ss:List aw):Prop where
 cl:∀s∈ss,Y.cl (cf s)=aN h.st s
 gc:∀s∈ss,Y.gc (cf s)=s.g
 ea:∀s∈ss,Y.ea (cf s)=s.e
 ep:∀s∈ss,Y.ep (cf s)=s.p
 dc:∀s∈ss,(cf s==9676)=dcO s.c 9676
 st:Y.st=h.st
 ka:Y.ka=h.ka
 nm:(Y.nm=="expression")=h.iw
theorem G2{st:Str}{us:List UL}{s:aw}{S:aw->Prop}(hu:∀u∈us,S u.s)(hs:S s):∀u∈eH st us s,S u.s:=by
 unfold eH
 rcases List.eq_nil_or_concat us with rfl | ⟨vs,v,rfl⟩
 .intro u h;rw[PH.mp h];exact hs
 . rw[P1,List.getLast?_concat,List.dropLast_concat]
   rw[P1]at hu
   dsimp only
   cases dA (aN st s) && !fJ v.w with
   |true =>
    intro u h
    rcases PY.mp h with h | h
    .exact hu u (List.mem_append_left _ h)
    .rw[PH.mp h];exact hu v (List.mem_append_right _ (PH.mpr rfl))
   |false =>
    intro u h
    rcases PY.mp h with h | h
    .exact hu u h
    .rw[PH.mp h];exact hs
theorem uR{st:Str}{S:aw->Prop}:∀(ss:List aw) (us:List UL),(∀s∈ss,S s)->(∀u∈us,S u.s)->∀u∈ss.foldl (eH st) us,S u.s
 |[],us,_,h=>h
 |s::ss,us,hs,h=>uR ss _ (fun x hx=>hs x (List.mem_cons_of_mem _ hx)) (G2 h (hs s List.mem_cons_self))
theorem zh{st:Str}{ss:List aw}{i:Nat}(hi:i<(ao st ss).length):(uA (ao st ss) i).s∈ss :=
 uR (S:=(· ∈ ss)) ss [] (fun _ h=>h) (fun _ h=>absurd h List.not_mem_nil) _ (List.mem_of_getElem? (o7 hi))
section
variable{cf:aw->Int}{us:List UL}{Y:lP}{k:Nat}{h:fW}{ss:List aw}
abbrev VW(Y:lP)(cf:aw->Int)(us:List UL):VD:=eT Y (toD cf 0 us)
theorem kQ{i:Nat}(hi:i<us.length):bW (VW Y cf us) (i:Int)=⟨wA us i,cf (uA us i).s,((0+fN us i:Nat):Int),(uA us i).j⟩:=by
 show(toD cf 0 us).getD (i:Int).toNat _=_
 rw[Int.toNat_natCast,List.getD_eq_getElem?_getD,xl us 0 i hi];rfl
theorem G3{i:Nat}:inR (VW Y cf us) (i:Int)=decide (i<us.length):=by
 unfold inR
 show(decide ((0:Int)<=(i:Int))&&decide ((i:Int)<((toD cf 0 us).length:Int)))=_
 rw[fM,PB (show(0:Int)<=(i:Int)from Qd _),Bool.true_and]
 by_cases q:i<us.length
 .rw[PB q,PB (Int.ofNat_lt.mpr ‹_›)]
 .rw[P6 q,P6 (by lia)]
theorem Cr{p:Int}(hp:p<0):inR (VW Y cf us) p=false:=by
 unfold inR;rw[P6 (by lia)];rfl
theorem eD{i:Nat}:bz (VW Y cf us) (i:Int)=wA us i:=by
 unfold bz
 rw[G3]
 by_cases q:i<us.length
 .rw[PB q,cond_true,kQ q]
 .rw[P6 q,cond_false,Gk (Nat.not_lt.mp ‹_›)]
theorem sJ{p:Int}(hp:p<0):bz (VW Y cf us) p="":=by unfold bz;rw[Cr hp];rfl
theorem NO{a:Str}(ha:a=wA us k)(h:inS a ["CL","CP"]=true):kq us k=false:=by
 have h1:a="CL" \/ a="CP":=by
  simp only[inS,Bool.or_false,Bool.or_eq_true,P4]at h
  rcases h with h | h
  .exact .inl h.symm
  .exact .inr h.symm
 have e:cU (fun n=>inS (wA us n) ["SY","IS"]) k=k:=by
  cases k with
  |zero=>rfl
  |succ k =>
   show cond (inS (wA us (k+1)) ["SY","IS"]) _ _=_
   rw[<- ha]
   rcases h1 with rfl | rfl <;> rfl
 unfold kq
 rw[e,<- ha]
 rcases h1 with rfl | rfl <;> decide
theorem JI(μ:YOK Y h cf ss)(hu:∀i<us.length,(uA us i).s∈ss)(hk:k+1<us.length):gS (rW (VW Y cf us) ((k+1:Nat):Int))=orV (d6 us h k) (cT us h k):=by
 have e1:((k+1:Nat):Int)-1=(k:Nat):=by lia
 have e2:((k+1:Nat):Int)+1=((k+2:Nat):Int):=by lia
 have hk0:k<us.length:=Qa ‹_›
 have esol:m8 (VW Y cf us) (k:Nat)=(bv (-1) 0 (toD cf 0 us)).getD k 0:=by show(bv (-1) 0 (toD cf 0 us)).getD (k:Int).toNat 0=_;rw[Int.toNat_natCast]
 have hJ:gw us k<us.length:=PK (np k) hk0
 have S:=Kp (cf:=cf) k hk0
 have n1:DO (VW Y cf us) (k:Nat)=kq us k:=by
  show(decide ((0:Int)<=(k:Int))&&(bS false (toD cf 0 us)).getD (k:Int).toNat false)=_
  rw[PB (Qd _),Bool.true_and,Int.toNat_natCast,G1 k hk0]
 have n2:DO (VW Y cf us) (((k+1:Nat):Int)-2)=DW us k:=by
  cases k with
  |zero=>rfl
  |succ q =>
   rw[show((q+1+1:Nat):Int)-2=(q:Nat) by lia]
   show(decide ((0:Int)<=(q:Int))&&(bS false (toD cf 0 us)).getD (q:Int).toNat false)=kq us q
   rw[PB (Qd _),Bool.true_and,Int.toNat_natCast,G1 q (Qa ‹_›)]
 have ak:∀(i:Nat),i<us.length->rV (VW Y cf us) (i:Nat) ["AK","AS"]=xe (uA us i):=fun i hi=>by
  unfold rV
  rw[G3,PB hi,Bool.true_and,kQ hi]
  show(inS (wA us i) _||(cf (uA us i).s==9676))=_
  rw[μ.dc _ (hu i hi)];rfl
 unfold rW
 rw[e1,e2,eD,eD,eD]
 unfold Kg
 rw[e1,e2,eD,eD,eD,n1,n2]
 unfold d6 cT uO
 have ku:bW (VW Y cf us) (k:Nat)=_:=kQ (Y:=Y) (cf:=cf) hk0
 have ku1:bW (VW Y cf us) ((k+1:Nat):Int)=_:=kQ (Y:=Y) (cf:=cf) hk
 have hj:(bW (VW Y cf us) (k:Nat)).j=(uA us k).j:=by rw[ku]
 have hg:(VW Y cf us).gc (bW (VW Y cf us) (k:Nat)).code=(uA us k).s.g:=by rw[ku];exact μ.gc _ (hu k hk0)
 have hep:(VW Y cf us).ep (bW (VW Y cf us) (k:Nat)).code=(uA us k).s.p:=by rw[ku];exact μ.ep _ (hu k hk0)
 have hst:(VW Y cf us).st=h.st:=μ.st
 have hka:(VW Y cf us).ka=h.ka:=μ.ka
 rw[hj,hg,hep,hst,hka,ak k hk0,ak (k+1) hk]
 have hS:(m8 (VW Y cf us) (k:Nat)=(gw us k:Nat))\/(m8 (VW Y cf us) (k:Nat) = -1/\wA us (gw us k)="SP"):=by
  rw[esol]
  rcases S with⟨s1,_⟩ | ⟨s1,s2⟩
  .exact .inl s1
  .exact .inr ⟨s1,P4.mp s2⟩
 have zs:∀ {R:Str->Bool},R ""=R "SP" -> R (bz (VW Y cf us) (m8 (VW Y cf us) (k:Nat)))=R (wA us (gw us k)):=fun{R} hR=>by
  rcases hS with s1 | ⟨s1,s2⟩
  .rw[s1,eD]
  .rw[s1,s2,sJ (by decide)];exact hR
 have hlen:((VW Y cf us).us.length:Int)=(us.length:Int):=by show((toD cf 0 us).length:Int)=_;rw[fM]
 refine G0 μ.nm (zs (R:=(· == "ZW")) (by decide)) (zs (R:=(· == "OP")) (by decide)) (zs (R:=fun x=>inS x ["CL","CP"]) (by decide)) (zs (R:=(· == "B2")) (by decide)) ?_ ?_ (NO rfl) ?_ ?_ ?_ ?_ ?_
 . rcases hS with s1 | ⟨s1,s2⟩
   . rw[s1]
     unfold A8
     rw[eD,kQ hJ]
     show(((wA us (gw us k)=="QU")&&(Y.gc (cf (uA us (gw us k)).s)=="Pi"))&&_)=_
     rw[μ.gc _ (hu _ hJ),Bool.and_assoc]
     congr 2
     cases hj0:gw us k with
     |zero=>rfl
     |succ q=>rw[show((q+1:Nat):Int)-1=(q:Nat) by lia,eD];rfl
   . rw[s1,s2]
     unfold A8
     rw[sJ (by decide)];rfl
 . unfold A8
   rw[eD,ku1,hlen]
   show(((wA us (k+1)=="QU")&&(Y.gc (cf (uA us (k+1)).s)=="Pf"))&&_)=_
   rw[μ.gc _ (hu _ hk),Bool.and_assoc]
 . cases k with
   |zero=>rw[sJ (by decide)];rfl
   |succ q=>rw[show((q+1+1:Nat):Int)-2=(q:Nat) by lia,eD,PB (by lia),Bool.true_and];rfl
 . have r2:rV (VW Y cf us) ((k+1:Nat):Int) ["AK"]=((wA us (k+1)=="AK")||dcO (uA us (k+1)).s.c 9676):=by
    unfold rV
    rw[G3,PB hk,Bool.true_and,ku1]
    show(inS (wA us (k+1)) _||(cf (uA us (k+1)).s==9676))=_
    rw[μ.dc _ (hu _ hk)]
    simp only[inS,Bool.or_false,bq (x:=wA us (k+1))]
   rw[r2]
   cases k with
   |zero=>unfold rV;rw[Cr (by decide)];rfl
   |succ q=>rw[show((q+1+1:Nat):Int)-2=(q:Nat) by lia,ak q (Qa ‹_›),PB (show(1:Int)<((q+1+1:Nat):Int) by lia),Bool.true_and];rfl
 . unfold FM;rw[ku1]
   show(!inS (Y.ea (cf (uA us (k+1)).s)) _)=_
   rw[μ.ea _ (hu _ hk)]
 . unfold FM;rw[ku]
   show(!inS (Y.ea (cf (uA us k).s)) _)=_
   rw[μ.ea _ (hu _ hk0)]
 . have hr:(VW Y cf us).reg.getD ((k:Nat):Int).toNat 0=((k+1:Nat):Int)-1-riZ us (k+1):=by
    show(bY 0 (toD cf 0 us)).getD ((k:Nat):Int).toNat 0=_
    rw[Int.toNat_natCast,Kq k hk0];lia
   rw[hr]
   cases q:(wA us k=="RI")with
   |true=>rw[Bool.true_and]
   |false =>
    have:riZ us (k+1)=k:=by
     show cond (wA us k=="RI") _ _=_
     rw[q];rfl
    rw[this,show((k+1:Nat):Int)-1-(k:Int)=0 by lia];rfl
end
section
variable{cf:aw->Int}{us:List UL}{Y:lP}{h:fW}{ss:List aw}
theorem kR{i:Nat}(hi:i<us.length):fN us (i+1)=fN us i+(uA us i).m:=by
 unfold fN
 rw[List.take_add_one,o7 hi]
 show eI (us.take i++[uA us i])=_
 rw[eC]
theorem o9:∀(d i:Nat),i+d<=us.length->fN us i<=fN us (i+d)
 |0,i,_=>PS _
 |d+1,i,hi=>by
  have:=o9 d i (by lia)
  have:=kR (us:=us) (i:=i+d) (by lia)
  rw[show i+(d+1)=i+d+1 from(Nat.add_assoc _ _ _).symm];lia
theorem jb(hm:∀i<us.length,1<=(uA us i).m):∀i,i<=us.length->(aI us h i).length=fN us i
 |0,_=>rfl
 |i+1,hi=>by
  have ih:=jb hm i (Nat.le_of_succ_le ‹_›)
  have:=hm i (Nat.lt_of_succ_le ‹_›)
  have:=kR (us:=us) (i:=i) (Nat.lt_of_succ_le ‹_›)
  unfold aI cO
  rw[Px,P8,List.length_replicate,ih];lia
theorem G4(k:Nat):orV (d6 us h k) (cT us h k)=.str (eB us h (k+1)):=by
 show _=V.str (jB (orV (d6 us h k) (cT us h k)))
 rcases Cj us h k with r | ⟨x,r⟩
 . obtain⟨y,ry⟩:=za us h k
   rw[r,ry];rfl
 .rw[r];rfl
theorem Cs{n:Nat}:svs (List.replicate n ("no":Str))=List.replicate n nO:=by unfold svs;rw[List.map_replicate]
theorem JJ{n:Nat}(hn:1<=n):(fs0 n).map gS=List.replicate n nO++[mU]:=by
 unfold fs0
 rw[List.map_set,List.map_set,List.map_replicate]
 obtain⟨m,rfl⟩:∃m,n=m+1:=⟨n-1,(Nat.sub_add_cancel ‹_›).symm⟩
 have e:List.replicate (m+1+1) nO=List.replicate (m+1) nO++[nO]:=by rw[<- List.replicate_append_replicate (n:=m+1) (m:=1)];rfl
 show((List.replicate (m+1+1) nO).set (m+1) mU).set 0 nO=_
 rw[e,List.set_append_right _ _ (by rw[List.length_replicate];exact PS _),List.length_replicate,Nat.sub_self]
 rfl
theorem zi(μ:YOK Y h cf ss)(hu:∀i<us.length,(uA us i).s∈ss)(hm:∀i<us.length,1<=(uA us i).m):∀K,K<us.length ->
 (fK (VW Y cf us) (eI us) K).map gS=svs (aI us h (K+1))++(List.replicate (eI us-fN us (K+1)) nO++[mU])
 |0,hK=>by
  have h0:=hm 0 hK
  have tot:fN us us.length=eI us:=by unfold fN;rw[List.take_length]
  have le:=o9 (us:=us) (us.length-1) 1 (by lia)
  rw[show 1+(us.length-1)=us.length by lia,tot]at le
  have o1:fN us 1=(uA us 0).m:=by rw[kR hK];show 0+_=_;rw[Nat.zero_add]
  show(fs0 (eI us)).map gS=_
  rw[JJ (by lia)]
  have p:svs (aI us h (0+1))=List.replicate (uA us 0).m nO:=by
   show svs ([]++cO us h 0)=_
   rw[List.nil_append]
   unfold cO
   show svs ("no"::List.replicate ((uA us 0).m-1) "no")=_
   rw[<- List.replicate_succ,show(uA us 0).m-1+1=(uA us 0).m from Nat.sub_add_cancel ‹_›,Cs]
  rw[p,Nat.zero_add,o1,<- Pw,List.replicate_append_replicate,show(uA us 0).m+(eI us-(uA us 0).m)=eI us by grind]
 |K+1,hK=>by
  have ih:=zi μ hu hm K (Qa ‹_›)
  have hm1:=hm (K+1) hK
  have tot:fN us us.length=eI us:=by unfold fN;rw[List.take_length]
  have le:=o9 (us:=us) (us.length-(K+1+1)) (K+1+1) (by omega)
  rw[show K+1+1+(us.length-(K+1+1))=us.length by grind,tot]at le
  have os:=kR (us:=us) (i:=K+1) hK
  have pl:=jb (h:=h) hm (K+1) (Nat.le_of_lt ‹_›)
  show((fK (VW Y cf us) (eI us) K).set (bW (VW Y cf us) ((K+1:Nat):Int)).at'.toNat (rW (VW Y cf us) ((K+1:Nat):Int))).map gS=_
  rw[List.map_set,ih,kQ hK,JI μ hu hK,G4]
  have e:(((0+fN us (K+1):Nat):Int)).toNat=(svs (aI us h (K+1))).length:=by rw[Int.toNat_natCast,Nat.zero_add,svs,PA,pl]
  show(svs (aI us h (K+1))++(List.replicate (eI us-fN us (K+1)) nO++[mU])).set (((0+fN us (K+1):Nat):Int)).toNat _=_
  rw[e,List.set_append_right _ _ (PS _),Nat.sub_self]
  obtain⟨r,hr⟩:∃r,eI us-fN us (K+1)=r+1:=⟨eI us-fN us (K+1)-1,by grind⟩
  rw[hr,List.replicate_succ]
  show svs (aI us h (K+1))++(V.str (eB us h (K+1))::(List.replicate r nO++[mU]))=_
  have p:svs (aI us h (K+1+1))=svs (aI us h (K+1))++(V.str (eB us h (K+1))::List.replicate ((uA us (K+1)).m-1) nO):=by
   show svs (aI us h (K+1)++cO us h (K+1))=_
   rw[kP];unfold cO
   show _++(V.str _::svs (List.replicate _ _))=_
   rw[Cs]
  rw[p,Pw,List.cons_append,<- Pw (List.replicate ((uA us (K+1)).m-1) nO),List.replicate_append_replicate,show(uA us (K+1)).m-1+(eI us-fN us (K+1+1))=r by grind]
theorem G5(μ:YOK Y h cf ss)(h0:ss≠[]):Bk Y (ss.map cf)=svs (dM (ao h.st ss) h):=by
 obtain⟨e1,e2⟩:=zg (cf:=cf) (st:=h.st) (cl:=Y.cl) ss μ.cl
 have hm:∀i<(ao h.st ss).length,1<=(uA (ao h.st ss) i).m:=fun i hi=>(iI hi).1
 have hpos:0<(ao h.st ss).length:=by
  cases q:ao h.st ss with
  |cons _ _=>exact Nat.succ_pos _
  |nil =>
   rw[q]at e2
   cases ss with
   |nil=>exact absurd rfl h0
   |cons _ _=>exact absurd e2 (by show(0:Nat)≠_+1;lia)
 unfold Bk
 rw[e1,fM,PA,<- e2]
 have r:=zi (us:=ao h.st ss) μ (fun i hi=>zh hi) hm ((ao h.st ss).length-1) (Nat.sub_lt ‹_› (by decide))
 rw[show(ao h.st ss).length-1+1=(ao h.st ss).length by lia]at r
 have tot:fN (ao h.st ss) (ao h.st ss).length=eI (ao h.st ss):=by unfold fN;rw[List.take_length]
 rw[tot,Nat.sub_self]at r
 refine r.trans ?_
 unfold dM
 rw[kP];rfl
end
theorem gV{ps us:List UL}{i:Nat}:uA (ps++us) (ps.length+i)=uA us i:=by
 unfold uA;rw[List.getD_eq_getElem?_getD,List.getD_eq_getElem?_getD,PV (Nat.le_add_right _ _),Nat.add_sub_cancel_left]
theorem eU{ps us:List UL}{i:Nat}:wA (ps++us) (ps.length+i)=wA us i:=by unfold wA;rw[gV]
section
variable{ps us:List UL}{h:fW}{w:Str}
theorem sL(f:Str->Bool){n:Nat}(hp:ps.length=n+1)(hf:f (wA (ps++us) n)=false):∀j,
 (cU (fun i=>f (wA (ps++us) i)) (ps.length+j)=ps.length+cU (fun i=>f (wA us i)) j/\f (wA us (cU (fun i=>f (wA us i)) j))=false) \/
 (cU (fun i=>f (wA (ps++us) i)) (ps.length+j)=n/\cU (fun i=>f (wA us i)) j=0/\f (wA us 0)=true)
 |0=>by
  have st:cU (fun i=>f (wA (ps++us) i)) n=n:=by
   cases n with
   |zero=>rfl
   |succ m=>show cond (f (wA (ps++us) (m+1))) _ _=_;rw[hf];rfl
  have e:cU (fun i=>f (wA (ps++us) i)) (ps.length+0)=cond (f (wA us 0)) n (ps.length+0):=by
   have w0:wA (ps++us) (n+1)=wA us 0:=by rw[<- hp];exact eU (i:=0)
   rw[hp]
   show cond (f (wA (ps++us) (n+1))) (cU _ n) (n+1)=_
   rw[w0,st]
  rw[e]
  cases q:f (wA us 0)with
  |true=>exact .inr ⟨rfl,rfl,rfl⟩
  |false=>exact .inl ⟨rfl,q⟩
 |j+1=>by
  have ih:=sL f hp hf j
  show(cond (f (wA (ps++us) (ps.length+j+1))) (cU (fun i=>f (wA (ps++us) i)) (ps.length+j)) (ps.length+j+1)=ps.length+cond (f (wA us (j+1))) (cU (fun i=>f (wA us i)) j) (j+1)/\f (wA us (cond (f (wA us (j+1))) (cU (fun i=>f (wA us i)) j) (j+1)))=false)\/(cond (f (wA (ps++us) (ps.length+j+1))) (cU (fun i=>f (wA (ps++us) i)) (ps.length+j)) (ps.length+j+1)=n/\cond (f (wA us (j+1))) (cU (fun i=>f (wA us i)) j) (j+1)=0/\f (wA us 0)=true)
  rw[show ps.length+j+1=ps.length+(j+1)from Nat.add_assoc _ _ _,eU]
  cases q:f (wA us (j+1))with
  |true=>exact ih
  |false=>exact .inl ⟨rfl,q⟩
theorem Kr{n:Nat}(hp:ps.length=n+1)(hf:(wA (ps++us) n=="RI")=false):∀j,((ps.length+j:Nat):Int)-riZ (ps++us) (ps.length+j)=(j:Int)-riZ us j
 |0=>by
  have:riZ (ps++us) (ps.length+0)=n:=by
   rw[hp]
   show cond (wA (ps++us) n=="RI") _ _=_
   rw[hf];rfl
  rw[this,hp]
  show((n+1+0:Nat):Int)-(n:Int)=((0:Nat):Int)-(-1)
  lia
 |j+1=>by
  have ih:=Kr hp hf j
  show((ps.length+(j+1):Nat):Int)-cond (wA (ps++us) (ps.length+j)=="RI") (riZ (ps++us) (ps.length+j)) ((ps.length+j:Nat):Int)=((j+1:Nat):Int)-cond (wA us j=="RI") (riZ us j) (j:Int)
  rw[eU]
  cases(wA us j=="RI")with
  |true=>rw[cond_true,cond_true];lia
  |false=>rw[cond_false,cond_false];lia
theorem nv(hh:inS w eK=true){R:Str->Bool}(r1:R "BK"=false)(r2:R "CR"=false)(r3:R "LF"=false)(r4:R "NL"=false):R w=false:=by
 simp only[inS,Bool.or_false,Bool.or_eq_true,P4]at hh
 rcases hh with rfl | rfl | rfl | rfl <;> assumption
theorem Bv{a b l l' g g' gk aj aj':Str}{j1 iw zj zj' bx:Bool}(z:(l=l'/\g=g'/\(zj||inS aj i9)=(zj'||inS aj' i9))\/((l=="ZW")=(l'=="ZW")/\(l=="OP")=(l'=="OP")/\(l=="QU")=false/\(l'=="QU")=false/\inS l ["CL","CP"]=inS l' ["CL","CP"]/\(l=="B2")=(l'=="B2"))):
 bB a b l g gk aj j1 iw zj bx=bB a b l' g' gk aj' j1 iw zj' bx:=by
 unfold bB
 rcases z with⟨rfl,rfl,e⟩ | ⟨e1,e2,e3,e4,e5,e6⟩
 .rw[e]
 .rw[e1,e2,e3,e4,e5,e6,Bool.false_and,Bool.false_and]
theorem Ea{n:Nat}(hp:ps.length=n+1)(hh:inS (wA (ps++us) n) eK=true)(j:Nat):d6 (ps++us) h (ps.length+j)=d6 us h j:=by
 have hsp:∀ {R:Str->Bool},R "BK"=false->R "CR"=false->R "LF"=false->R "NL"=false->R (wA (ps++us) n)=false:=fun r1 r2 r3 r4=>nv hh r1 r2 r3 r4
 unfold d6
 rw[eU,show ps.length+j+1=ps.length+(j+1)from Nat.add_assoc _ _ _,eU,gV,gV,show ps.length+j+2=ps.length+(j+2)from Nat.add_assoc _ _ _,eU]
 have eb:((((ps.length+(j+1):Nat):Int)+1==(((ps++us).length:Nat):Int))||inS (wA us (j+2)) eu)=((((j+1:Nat):Int)+1==((us.length:Nat):Int))||inS (wA us (j+2)) eu):=by
  congr 1
  rw[Px,Bool.eq_iff_iff,P4,P4];lia
 rw[eb]
 refine Bv ?_
 have B:=sL (us:=us) (· == "SP") hp (hsp (R:=(· == "SP")) (by decide) (by decide) (by decide) (by decide)) j
 rcases B with⟨b1,b2⟩ | ⟨b1,b2,b3⟩
 . left
   have e:gw (ps++us) (ps.length+j)=ps.length+gw us j:=b1
   rw[e,eU,gV]
   refine⟨rfl,rfl,?_⟩
   cases hj:gw us j with
   |zero =>
    have:iH (ps++us).length (ps.length+0)=n:=by rw[hp];rfl
    rw[this]
    have i1:inS (wA (ps++us) n) i9=true:=by
     have:=hsp (R:=fun x => !inS x i9) (by decide) (by decide) (by decide) (by decide)
     simpa using this
    rw[i1,Bool.or_true];rfl
   |succ q =>
    have h1:iH (ps++us).length (ps.length+(q+1))=ps.length+q:=by
     show cond (ps.length+(q+1)==0) _ (ps.length+(q+1)-1)=_
     rw[PC.mpr (by lia)];show ps.length+(q+1)-1=_;lia
    rw[h1,eU,PC.mpr (show((ps.length+(q+1):Nat):Int)≠0 by lia),PC.mpr (show((q+1:Nat):Int)≠0 by lia)]
    rfl
 . right
   have e:gw (ps++us) (ps.length+j)=n:=b1
   have e2:gw us j=0:=b2
   rw[e,e2,P4.mp b3]
   exact⟨(hsp (R:=(· == "ZW")) (by decide) (by decide) (by decide) (by decide)).trans (by decide),(hsp (R:=(· == "OP")) (by decide) (by decide) (by decide) (by decide)).trans (by decide),hsp (R:=(· == "QU")) (by decide) (by decide) (by decide) (by decide),by decide,
    (hsp (R:=fun x=>inS x ["CL","CP"]) (by decide) (by decide) (by decide) (by decide)).trans (by decide),(hsp (R:=(· == "B2")) (by decide) (by decide) (by decide) (by decide)).trans (by decide)⟩
end
section
variable{ps us:List UL}{h:fW}{w:Str}{n:Nat}
theorem Ct(hp:ps.length=n+1)(hh:inS (wA (ps++us) n) eK=true)(j:Nat):kq (ps++us) (ps.length+j)=kq us j:=by
 have hsp:∀ {R:Str->Bool},R "BK"=false->R "CR"=false->R "LF"=false->R "NL"=false->R (wA (ps++us) n)=false:=fun r1 r2 r3 r4=>nv hh r1 r2 r3 r4
 have B:=sL (us:=us) (fun x=>inS x ["SY","IS"]) hp (hsp (R:=fun x=>inS x ["SY","IS"]) (by decide) (by decide) (by decide) (by decide)) j
 unfold kq
 rcases B with⟨b1,b2⟩ | ⟨b1,b2,b3⟩
 .rw[b1,eU]
 . rw[b1,b2,hsp (R:=(· == "NU")) (by decide) (by decide) (by decide) (by decide)]
   simp only[inS,Bool.or_false,Bool.or_eq_true,P4]at b3
   rcases b3 with b3 | b3 <;> rw[<- b3] <;> decide
theorem L9(hh:inS (wA us n) eK=true):kq us n=false:=by
 have st:cU (fun i=>inS (wA us i) ["SY","IS"]) n=n:=by
  cases n with
  |zero=>rfl
  |succ m =>
   have:=nv hh (R:=fun x=>inS x ["SY","IS"]) (by decide) (by decide) (by decide) (by decide)
   show cond (inS (wA us (m+1)) ["SY","IS"]) _ _=_
   rw[this];rfl
 unfold kq
 rw[st]
 exact nv hh (R:=(· == "NU")) (by decide) (by decide) (by decide) (by decide)
theorem Bw(hp:ps.length=n+1)(hh:inS (wA (ps++us) n) eK=true)(hc:dcO (uA (ps++us) n).s.c 9676=false)(j:Nat):cT (ps++us) h (ps.length+j)=cT us h j:=by
 have hsp:∀ {R:Str->Bool},R "BK"=false->R "CR"=false->R "LF"=false->R "NL"=false->R (wA (ps++us) n)=false:=fun r1 r2 r3 r4=>nv hh r1 r2 r3 r4
 have e1:ps.length+j+1=ps.length+(j+1):=Nat.add_assoc _ _ _
 have e2:ps.length+j+2=ps.length+(j+2):=Nat.add_assoc _ _ _
 have fg:uO (ps++us) h (ps.length+j)=uO us h j:=by
  unfold uO
  have k2:DW (ps++us) (ps.length+j)=DW us j:=by
   cases j with
   |zero =>
    show cond (ps.length+0==0) false (kq (ps++us) (ps.length+0-1))=false
    rw[hp]
    exact L9 hh
   |succ q =>
    show cond (ps.length+(q+1)==0) false (kq (ps++us) (ps.length+(q+1)-1))=kq us q
    rw[PC.mpr (by lia),cond_false,show ps.length+(q+1)-1=ps.length+q by lia]
    exact Ct hp hh q
  rw[e1,e2,eU,eU,eU,Ct hp hh,k2]
 have rz:(((ps.length+(j+1):Nat):Int)-1-riZ (ps++us) (ps.length+(j+1)))=(((j+1:Nat):Int)-1-riZ us (j+1)):=by
  have:=Kr (us:=us) hp (hsp (R:=(· == "RI")) (by decide) (by decide) (by decide) (by decide)) (j+1)
  lia
 have d1:decide ((1:Int)<((ps.length+(j+1):Nat):Int))=true:=PB (by lia)
 unfold cT
 rw[fg,e1,e2,eU,eU,eU,gV,gV,rz,d1]
 unfold bH
 cases j with
 |zero =>
  have pv:iH (ps++us).length (ps.length+0)=n:=by rw[hp];rfl
  have a2:(wA (ps++us) n=="HL")=false:=hsp (R:=(· == "HL")) (by decide) (by decide) (by decide) (by decide)
  have ak:xe (uA (ps++us) n)=false:=by
   unfold xe
   rw[hc]
   have:inS (uA (ps++us) n).w ["AK","AS"]=false:=hsp (R:=fun x=>inS x ["AK","AS"]) (by decide) (by decide) (by decide) (by decide)
   rw[this];rfl
  have d0:decide ((1:Int)<((0+1:Nat):Int))=false:=by decide
  rw[pv,a2,ak,d0]
  simp only[Bool.false_and,Bool.and_false]
 |succ q =>
  have pv:iH (ps++us).length (ps.length+(q+1))=ps.length+q:=by
   show cond (ps.length+(q+1)==0) _ (ps.length+(q+1)-1)=_
   rw[PC.mpr (by lia)];show ps.length+(q+1)-1=_;lia
  have pv2:iH us.length (q+1)=q:=rfl
  have d0:decide ((1:Int)<((q+1+1:Nat):Int))=true:=PB (by lia)
  rw[pv,pv2,eU,gV,d0]
theorem G6(hp:ps.length=n+1)(hh:inS (wA (ps++us) n) eK=true)(hc:dcO (uA (ps++us) n).s.c 9676=false)(j:Nat):eB (ps++us) h (ps.length+(j+1))=eB us h (j+1):=by
 show jB (orV (d6 (ps++us) h (ps.length+j)) (cT (ps++us) h (ps.length+j)))=jB (orV (d6 us h j) (cT us h j))
 rw[Ea hp hh,Bw hp hh hc]
theorem piece_app(hp:ps.length=n+1)(hh:inS (wA (ps++us) n) eK=true)(hc:dcO (uA (ps++us) n).s.c 9676=false)(j:Nat):cO (ps++us) h (ps.length+(j+1))=cO us h (j+1):=by
 unfold cO
 rw[G6 hp hh hc,gV]
theorem sM(hp:ps.length=n+1)(hh:inS (wA (ps++us) n) eK=true)(hc:dcO (uA (ps++us) n).s.c 9676=false):∀j,aI (ps++us) h (ps.length+(j+1))=aI (ps++us) h ps.length++(eB (ps++us) h ps.length::(aI us h (j+1)).drop 1)
 |0=>by
  show aI (ps++us) h ps.length++cO (ps++us) h ps.length=_++(_::([]++cO us h 0).drop 1)
  have:uA (ps++us) ps.length=uA us 0:=gV (i:=0)
  unfold cO
  rw[this];rfl
 |j+1=>by
  show aI (ps++us) h (ps.length+(j+1))++cO (ps++us) h (ps.length+(j+1))=_++(_::(aI us h (j+1)++cO us h (j+1)).drop 1)
  have ne:1<=(aI us h (j+1)).length:=by
   show 1<=(aI us h j++cO us h j).length
   unfold cO;rw[Px,P8];lia
  rw[sM hp hh hc j,piece_app hp hh hc,List.drop_append_of_le_length ne,Pw,List.cons_append]
theorem Bx(hp:ps.length=n+1)(hh:inS (wA (ps++us) n) eK=true)(hc:dcO (uA (ps++us) n).s.c 9676=false)(h0:us≠[]):dM (ps++us) h=aI (ps++us) h ps.length++(eB (ps++us) h ps.length::(dM us h).drop 1):=by
 obtain⟨j,hj⟩:∃j,us.length=j+1:=⟨us.length-1,by have:=List.length_pos_iff.mpr h0;lia⟩
 have ne:1<=(aI us h (j+1)).length:=by
  show 1<=(aI us h j++cO us h j).length
  unfold cO;rw[Px,P8];lia
 unfold dM
 rw[Px,hj,sM hp hh hc j,Pw,List.cons_append,List.drop_append_of_le_length ne]
end
section
variable{st:Str}{us:List UL}{h:fW}{s:aw}{ss:List aw}{n:Nat}
theorem fX{vs:List UL}{v:UL}:eH st (vs++[v]) s=vs++cond (dA (aN st s) && !fJ v.w) [⟨v.w,v.s,v.m+1,aN st s=="ZWJ"⟩] [v,lQ (aN st s) s]:=by
 unfold eH
 rw[List.getLast?_concat,List.dropLast_concat]
 dsimp only
 cases dA (aN st s) && !fJ v.w with
 |true=>rfl
 |false=>rw[cond_false,cond_false,Pw];rfl
theorem G7{ps xs:List UL}(hx:xs≠[]):eH st (ps++xs) s=ps++eH st xs s:=by
 rcases List.eq_nil_or_concat xs with rfl | ⟨vs,v,rfl⟩
 .exact absurd rfl hx
 .rw[P1,<- Pw,fX,fX,Pw]
theorem JK{xs:List UL}:eH st xs s≠[]:=by
 rcases List.eq_nil_or_concat xs with rfl | ⟨vs,v,rfl⟩
 .exact List.cons_ne_nil _ _
 . rw[P1,fX]
   cases dA (aN st s) && !fJ v.w <;> simp
theorem sQ:∀(R:List aw) (ps xs:List UL),xs≠[]->R.foldl (eH st) (ps++xs)=ps++R.foldl (eH st) xs
 |[],_,_,_=>rfl
 |r::R,ps,xs,hx=>by rw[List.foldl_cons,List.foldl_cons,G7 hx,sQ R ps _ JK]
theorem gG:∀(R:List aw) (x:UL) (xs:List UL),∃y ys,R.foldl (eH st) (x::xs)=y::ys/\x.m<=y.m
 |[],x,xs=>⟨x,xs,rfl,PS _⟩
 |r::R,x,xs=>by
  rw[List.foldl_cons]
  rcases List.eq_nil_or_concat xs with rfl | ⟨vs,v,rfl⟩
  . have e:eH st [x] r=cond (dA (aN st r) && !fJ x.w) [⟨x.w,x.s,x.m+1,aN st r=="ZWJ"⟩] [x,lQ (aN st r) r]:=fX (vs:=[])
    rw[e]
    cases dA (aN st r) && !fJ x.w with
    |true =>
     obtain⟨y,ys,h1,h2⟩:=gG R ⟨x.w,x.s,x.m+1,aN st r=="ZWJ"⟩ []
     exact⟨y,ys,h1,by have:x.m+1<=y.m:=h2;exact Nat.le_of_succ_le ‹_›⟩
    |false=>exact gG R x _
  . rw[P1,<- List.cons_append,fX,List.cons_append]
    exact gG R x _
def wOf(st:Str)(s:aw):Str:=cond (dA (aN st s)) "AL" (aN st s)
theorem Ma(hu:∀u∈us,u.w=wOf st u.s):∀u∈eH st us s,u.w=wOf st u.s:=by
 rcases List.eq_nil_or_concat us with rfl | ⟨vs,v,rfl⟩
 .intro u h;rw[PH.mp h];rfl
 . rw[P1]at hu
   rw[P1,fX]
   have hv:=hu v (List.mem_append_right _ (PH.mpr rfl))
   intro u h
   rcases PY.mp h with h | h
   .exact hu u (List.mem_append_left _ h)
   . cases q:dA (aN st s) && !fJ v.w with
     |true=>rw[q]at h;rw[PH.mp h];exact hv
     |false =>
      rw[q]at h
      rcases PZ.mp h with h | h
      .rw[h];exact hv
      .rw[PH.mp h];rfl
theorem Cu:∀(ss:List aw) (us:List UL),(∀u∈us,u.w=wOf st u.s)->∀u∈ss.foldl (eH st) us,u.w=wOf st u.s
 |[],_,h=>h
 |s::ss,us,h=>Cu ss _ (Ma h)
theorem By:∀s∈bK,dcO s.c 9676=true->s=xS "AL" "So" "N" false (some 9676):=by
 intro s hs hd
 unfold bK at hs
 rcases PY.mp hs with hs | hs
 . obtain⟨x,_,rfl⟩:=List.mem_map.mp hs
   exact absurd hd Qc
 . unfold zc at hs
   simp only[PZ,List.not_mem_nil,or_false]at hs
   rcases hs with rfl | rfl | rfl | rfl | rfl | rfl | rfl | rfl | rfl | rfl | rfl | rfl <;> first | rfl | exact absurd hd (by decide)
theorem JL(hs:s∈bK)(hw:inS (wOf st s) eK=true):dcO s.c 9676=false:=by
 cases q:dcO s.c 9676 with
 |false=>rfl
 |true =>
  rw[By s hs q]at hw
  exact absurd hw (by show ¬(inS "AL" eK=true);decide)
theorem Eb(k:Nat)(hm:eB us h (k+1)="must"):inS (wA us k) eK=true:=by
 cases q:inS (wA us k) eK with
 |true=>rfl
 |false =>
  exfalso
  have key:∀v,(v=.none\/v=nO\/v=mY)->jB (orV v (cT us h k)) ≠ "must":=fun v hv=>by
   have jn:cT us h k=nO\/cT us h k=mY:=by
    have c:∀ {q:Bool}{x y:V},(x=nO\/x=mY)->(y=nO\/y=mY)->(cond q x y=nO\/cond q x y=mY):=fun hx hy=>okC (R:=fun v=>v=nO\/v=mY) hx hy
    have a:nO=nO\/nO=mY:=.inl rfl
    have b:mY=nO\/mY=mY:=.inr rfl
    unfold cT bH
    exact c (c a b) (c a (c a (c a (c a (c a (c a (c a (c a (c a (c a (c a (c a (c a b)))))))))))))
   rcases hv with rfl | rfl | rfl
   .rcases jn with r | r <;> rw[r] <;> decide
   .show("no":Str) ≠ "must";decide
   .show("may":Str) ≠ "must";decide
  refine key (d6 us h k) ?_ hm
  unfold d6 bB
  rw[q,cond_false]
  have c:∀ {q:Bool}{x y:V},(x=.none\/x=nO\/x=mY)->(y=.none\/y=nO\/y=mY)->(cond q x y=.none\/cond q x y=nO\/cond q x y=mY):=fun hx hy=>okC (R:=fun v=>v=.none\/v=nO\/v=mY) hx hy
  have a:nO=.none\/nO=nO\/nO=mY:=.inr (.inl rfl)
  have b:mY=.none\/mY=nO\/mY=mY:=.inr (.inr rfl)
  exact c a (c a (c b (c a (c a (c a (c a (c a (c b (.inl rfl)))))))))
theorem zk:∀(R:List aw) (us:List UL),eI (R.foldl (eH st) us)=eI us+R.length
 |[],_=>rfl
 |r::R,us=>by rw[List.foldl_cons,zk R,(Cq (cf:=fun _=>0) (st:=st) (us:=us) (s:=r)).2,P8];lia
theorem sR:∀(d i:Nat),∃T,aI us h (i+d)=aI us h i++T
 |0,i=>⟨[],by rw[List.append_nil];rfl⟩
 |d+1,i=>by
  obtain⟨T,e⟩:=sR d i
  exact⟨T++cO us h (i+d),by show aI us h (i+d)++_=_;rw[e,Pw];rfl⟩
theorem kT{i:Nat}(hi:i<us.length):∃T,dM us h=aI us h i++(eB us h i::(List.replicate ((uA us i).m-1) ("no":Str)++T)):=by
 obtain⟨T,e⟩:=sR (us:=us) (h:=h) (us.length-(i+1)) (i+1)
 rw[show i+1+(us.length-(i+1))=us.length by omega]at e
 refine⟨T++[("must":Str)],?_⟩
 unfold dM
 rw[e]
 show aI us h i++(eB us h i::List.replicate ((uA us i).m-1) ("no":Str))++T++[("must":Str)]=_
 simp only[Pw,List.cons_append]
theorem JM{at':Nat}(hs:∀s∈ss,s∈bK)(hi:at'<ss.length)(hd:(dM (ao st ss) h)[at']?=some "must"):
 dM (ao st (ss.drop at')) h=("no":Str)::(dM (ao st ss) h).drop (at'+1):=by
 have e:ss=ss.take at'++(ss[at']::ss.drop (at'+1)):=by rw[<- List.drop_eq_getElem_cons hi,List.take_append_drop]
 have ed:ss.drop at'=ss[at']::ss.drop (at'+1):=List.drop_eq_getElem_cons hi
 generalize ha:ss.take at'=A at e
 generalize hr:ss[at']=r at e ed
 generalize hR:ss.drop (at'+1)=R at e ed
 have hA:A.length=at':=by rw[<- ha,Qb];exact Nat.min_eq_left (Nat.le_of_lt ‹_›)
 have sP:eI (ao st A)=at':=by unfold ao;rw[zk,hA];show 0+_=_;rw[Nat.zero_add]
 have ue:ao st ss=R.foldl (eH st) (eH st (ao st A) r):=by unfold ao;rw[e,List.foldl_append,List.foldl_cons]
 have u2:ao st (r::R)=R.foldl (eH st) [lQ (aN st r) r]:=rfl
 have hm:∀i<(ao st ss).length,1<=(uA (ao st ss) i).m:=fun i hi=>(iI hi).1
 have hw:∀i<(ao st ss).length,(uA (ao st ss) i).w=wOf st (uA (ao st ss) i).s:=fun i hi=>Cu ss [] (fun _ h=>absurd h List.not_mem_nil) _ (List.mem_of_getElem? (o7 hi))
 have hmem:∀i<(ao st ss).length,(uA (ao st ss) i).s∈bK:=fun i hi=>hs _ (zh hi)
 have mA:∀i<(ao st A).length,1<=(uA (ao st A) i).m:=fun i hi=>(iI hi).1
 rw[ed]
 generalize hus:ao st ss=us at *
 rcases List.eq_nil_or_concat (ao st A)with hP | ⟨P0,u,hP⟩
 . exfalso
   rw[hP]at sP
   have z:at'=0:=sP.symm
   obtain⟨y,ys,h1,_⟩:=gG (st:=st) R (lQ (aN st r) r) []
   have hy:us=y::ys:=by rw[ue,hP];exact h1
   obtain⟨T,hT⟩:=kT (us:=us) (h:=h) (i:=0) (by rw[hy];exact Nat.succ_pos _)
   rw[z,hT]at hd
   exact absurd (Pz hd) (by show("no":Str) ≠ "must";decide)
 . rw[P1]at hP
   rw[hP,eC]at sP
   rw[hP,fX]at ue
   have mu:1<=u.m:=by
    have:=mA P0.length (by rw[hP,Px];simp)
    rw[hP]at this
    have e0:uA (P0++[u]) P0.length=u:=gV (ps:=P0) (us:=[u]) (i:=0)
    rw[e0]at this;exact this
   cases q:dA (aN st r) && !fJ u.w with
   |true =>
    exfalso
    rw[q,cond_true,sQ _ _ _ (List.cons_ne_nil _ _)]at ue
    obtain⟨y,ys,h1,h2⟩:=gG (st:=st) R ⟨u.w,u.s,u.m+1,aN st r=="ZWJ"⟩ []
    rw[h1]at ue
    have h2:u.m+1<=y.m:=h2
    have hl:P0.length<us.length:=by rw[ue,Px,P8];lia
    have ey:uA us P0.length=y:=by rw[ue];exact gV (i:=0)
    have off:fN us P0.length=eI P0:=by unfold fN;rw[ue,List.take_left]
    have pl:=jb (h:=h) hm P0.length (Nat.le_of_lt ‹_›)
    obtain⟨T,hT⟩:=kT (h:=h) hl
    rw[hT,ey,PV (by lia),pl,off,<- sP,Nat.add_sub_cancel_left]at hd
    obtain⟨k,hk⟩:∃k,u.m=k+1:=⟨u.m-1,(Nat.sub_add_cancel ‹_›).symm⟩
    rw[hk,List.getElem?_cons_succ,PN (by rw[List.length_replicate];grind),List.getElem?_replicate]at hd
    rw[if_pos (by grind)]at hd
    exact absurd (Pz hd) (by decide)
   |false =>
    rw[q,cond_false,show P0++[u,lQ (aN st r) r]=(P0++[u])++[lQ (aN st r) r] by rw[Pw];rfl,sQ _ _ _ (List.cons_ne_nil _ _),<- u2]at ue
    have hp:(P0++[u]).length=P0.length+1:=by rw[Px];rfl
    obtain⟨y,ys,h1,_⟩:=gG (st:=st) R (lQ (aN st r) r) []
    have hne:ao st (r::R)≠[]:=by rw[u2,h1];exact List.cons_ne_nil _ _
    have hl:(P0++[u]).length<us.length:=by rw[ue,Px (as:=P0++[u])];have:=List.length_pos_iff.mpr hne;lia
    have off:fN us (P0++[u]).length=eI P0+u.m:=by unfold fN;rw[ue,List.take_left,eC]
    have pl:=jb (h:=h) hm (P0++[u]).length (Nat.le_of_lt ‹_›)
    obtain⟨T,hT⟩:=kT (h:=h) hl
    have hmust:eB us h (P0.length+1)="must":=by
     rw[hT,PV (by lia),pl,off,sP,Nat.sub_self]at hd
     rw[<- hp];exact Pz hd
    have hh:=Eb _ hmust
    have hln:P0.length<us.length:=by lia
    have hc:dcO (uA us P0.length).s.c 9676=false:=JL (st:=st) (hmem _ hln) (by rw[<- hw _ hln];exact hh)
    have pa:=Bx (ps:=P0++[u]) (us:=ao st (r::R)) (h:=h) hp (by rw[<- ue];exact hh) (by rw[<- ue];exact hc) hne
    rw[<- ue]at pa
    rw[pa,List.drop_append,pl,off,sP]
    obtain⟨T2,hT2⟩:=kT (us:=ao st (r::R)) (h:=h) (i:=0) (List.length_pos_iff.mpr hne)
    have d0:(aI us h (P0++[u]).length).drop (at'+1)=[]:=List.drop_eq_nil_of_le (by lia)
    rw[d0,show at'+1-at'=1 by lia,hT2]
    rfl
end
section
variable{P:Params}{d D:Nat}{J s':Hp}{st nm:Str}{ka:Bool}
abbrev lhQ(P:Params):cF:=((a_T P).cls.lookup ("LineHow":Str)).getD ⟨[],[]⟩
theorem NP:cP P (d+1) "LineHow" "__init__" [.inst "LineHow" J.length] [] (J++[ab.dict []]) .none (J++[oZ "strict" false "pairs"]):=by
 have k1:cH (a_T P) (J++[ab.dict []]) (.inst "LineHow" J.length) "strictness" (.str "strict")=some (J++[ab.dict [("strictness",.str "strict")]]):=dL (lhQ P) (by kernel_rfl) (by kernel_rfl) (by simp)
 have k2:cH (a_T P) (J++[ab.dict [("strictness",.str "strict")]]) (.inst "LineHow" J.length) "keep_all" (.bool false)=some (J++[ab.dict [("strictness",.str "strict"),("keep_all",.bool false)]]):=dL (lhQ P) (by kernel_rfl) (by kernel_rfl) (by simp)
 have k3:cH (a_T P) (J++[ab.dict [("strictness",.str "strict"),("keep_all",.bool false)]]) (.inst "LineHow" J.length) "numbers" (.str "pairs")=some (J++[ab.dict [("strictness",.str "strict"),("keep_all",.bool false),("numbers",.str "pairs")]]):=dL (lhQ P) (by kernel_rfl) (by kernel_rfl) (by simp)
 exact af (dE P) ([V.inst (Str.ofString "LineHow") (List.length J)]++(fun x=>V.str (Str.ofString "strict")::x) ((fun x=>V.bool false::x) ((fun x=>V.str (Str.ofString "pairs")::x) []))) (fun z=>(zS k1 (zS k2 (zS k3 (z0 z)).R).R).R.F.C.R.F.C.R)
theorem Ks(h1:inS st ["strict","normal","loose"]=true)(h2:inS nm ["pairs","expression"]=true):cP P (d+1) "LineHow" "__init__" [.inst "LineHow" J.length] [("strictness",.str st),("keep_all",.bool ka),("numbers",.str nm)] (J++[ab.dict []]) .none (J++[oZ st ka nm]):=by
 have k1:cH (a_T P) (J++[ab.dict []]) (.inst "LineHow" J.length) "strictness" (.str st)=some (J++[ab.dict [("strictness",.str st)]]):=dL (lhQ P) (by kernel_rfl) (by kernel_rfl) (by simp)
 have k2:cH (a_T P) (J++[ab.dict [("strictness",.str st)]]) (.inst "LineHow" J.length) "keep_all" (.bool ka)=some (J++[ab.dict [("strictness",.str st),("keep_all",.bool ka)]]):=dL (lhQ P) (by kernel_rfl) (by kernel_rfl) (by simp)
 have k3:cH (a_T P) (J++[ab.dict [("strictness",.str st),("keep_all",.bool ka)]]) (.inst "LineHow" J.length) "numbers" (.str nm)=some (J++[ab.dict [("strictness",.str st),("keep_all",.bool ka),("numbers",.str nm)]]):=dL (lhQ P) (by kernel_rfl) (by kernel_rfl) (by simp)
 exact af (dE P) ([V.inst (Str.ofString "LineHow") (List.length J)]++(fun x=>(Str.ofString "strictness",V.str st).snd::x) ((fun x=>(Str.ofString "keep_all",V.bool ka).snd::x) ((fun x=>(Str.ofString "numbers",V.str nm).snd::x) []))) (fun z=>(zH (nT h1) (zH (nT h2) (zS k1 (zS k2 (zS k3 (z0 z)).R).R).R).C.R).C.R)
theorem JN:cP P (d+2) "LineBreaks" "__init__" [.inst "LineBreaks" J.length,.inst "Data" D] [] (J++[ab.dict []]) .none (J++[qB D (J.length+1)]++[oZ "strict" false "pairs"]):=by
 have k1:cH (a_T P) (J++[ab.dict []]) (.inst "LineBreaks" J.length) "data" (.inst "Data" D)=some (J++[ab.dict [("data",.inst "Data" D)]]):=dL (lbC P) (by kernel_rfl) (by kernel_rfl) (by simp)
 have h0:=NP (P:=P) (d:=d) (J:=J++[ab.dict [("data",.inst "Data" D)]])
 have k2:cH (a_T P) (J++[ab.dict [("data",.inst "Data" D)]]++[oZ "strict" false "pairs"]) (.inst "LineBreaks" J.length) "how" (.inst "LineHow" (J++[ab.dict [("data",.inst "Data" D)]]).length)=some (J++[qB D (J.length+1)]++[oZ "strict" false "pairs"]):=by
  rw[FV (lbC P) aW (by kernel_rfl) (by kernel_rfl) (by simp),eG rfl,Px];rfl
 exact af (cR P) ([V.inst (Str.ofString "LineBreaks") (List.length J),V.inst (Str.ofString "Data") D]++(fun x=>V.none::x) []) (fun z=>(zS k1 (zN h0 (zS k2 (z0 z))).R.F.C.R).R)
end
noncomputable def G8:V->Bool
 |.bool b=>b
 |_=>false
def YL(f:Str->Int->V)(st nm:Str)(ka:Bool):lP :=
 ⟨fun c=>fL (jB (f "lb" c)) (jB (f "gc" c)) st (qd c) c,fun c=>jB (f "gc" c),fun c=>jB (f "ea" c),fun c=>G8 (f "ep" c),st,nm,ka⟩
theorem G9{c:Int}(h1:4096<=c)(h2:c<4200):qd c="AL":=by
 have b:∀ {x y:Int},4200<=x->btw x y c=false:=fun{x y} h=>by unfold btw;rw[P6 (by lia)];rfl
 unfold qd
 rw[b (by decide),cond_false]
 have r:sx c y6=none:=by
  simp only[sx,b (show(4200:Int)<=4352 by decide),b (show(4200:Int)<=4448 by decide),b (show(4200:Int)<=4520 by decide),b (show(4200:Int)<=43360 by decide),b (show(4200:Int)<=55216 by decide),b (show(4200:Int)<=55243 by decide),cond_false]
 rw[r];rfl
theorem JO{c:Int}(h2:c<4200):inZ c Cb=false:=by
 have b:∀ {y:Int},4200<=y->(y==c)=false:=fun{y} h=>PC.mpr (Int.ne_of_gt (P5 ‹_› ‹_›))
 unfold Cb
 simp only[inZ,b (show(4200:Int)<=12293 by decide),b (show(4200:Int)<=12347 by decide),b (show(4200:Int)<=12445 by decide),b (show(4200:Int)<=12446 by decide),b (show(4200:Int)<=12541 by decide),b (show(4200:Int)<=12542 by decide),Bool.or_false]
section
variable{P:Params}{D m hh n:Nat}{J:Hp}{kn:KN}{f:Str->Int->V}{s:aw}{ss:List aw}{c:Int}{st nm:Str}{ka:Bool}
theorem xm(S:DSt J D kn f m)(h:bR s kn=some c):s∈bK/\(s.c=some c/\(c=9676\/c=12293)\/(s.c=none/\4096<=c/\c<4200)):=by
 obtain⟨h1,h2⟩:=S.rg _ (nq h)
 have hl:=S.kl
 refine⟨h1,?_⟩
 rcases h2 with h2 | ⟨h2,h3,h4⟩
 . have h1:s∈bK:=h1
   have h2:s.c=some c:=h2
   rcases dB s h1 with⟨z,_⟩ | ⟨z | z,_⟩
   .rw[z]at h2;exact nomatch h2
   .exact .inl ⟨h2,.inl (Pz (h2.symm.trans z.1))⟩
   .exact .inl ⟨h2,.inr (Pz (h2.symm.trans z.1))⟩
 .exact .inr ⟨h2,h3,by have h4:c<4096+(kn.length:Int):=h4;lia⟩
theorem Ha(S:DSt J D kn f m)(h:bR s kn=some c):fL s.n s.g st (qd c) c=aN st s:=by
 obtain⟨hs,hc⟩:=xm S h
 have z:inZ c Cb=dcO s.c 12293:=by
  rcases hc with⟨h1,rfl | rfl⟩ | ⟨h1,h2,h3⟩
  .rw[h1];decide
  .rw[h1];decide
  .rw[h1,JO h3];rfl
 have x:s.n="XX" -> qd c="AL":=fun hx=>by
  rcases hc with⟨h1,h2⟩ | ⟨h1,h2,h3⟩
  . rcases dB s hs with⟨y,_⟩ | ⟨y | y,_⟩
    .rw[y]at h1;exact nomatch h1
    .rw[y.2]at hx;exact absurd hx (by show ¬(("AL":Str)="XX");decide)
    .rw[y.2]at hx;exact absurd hx (by show ¬(("NS":Str)="XX");decide)
  .exact G9 h2 h3
 unfold aN iu fL
 rw[z]
 by_cases q1:s.n="AI"
 .rw[q1];rfl
 by_cases q2:s.n="SG"
 .rw[q2];rfl
 by_cases q3:s.n="XX"
 .rw[x q3,q3];rfl
 have i0:inS s.n ["AI","SG","XX"]=false:=by
  simp only[inS,bq (x:=s.n),PC.mpr q1,PC.mpr q2,PC.mpr q3,Bool.or_false]
 rw[i0,cond_false,cond_false]
 have e:((st=="loose")&&dcO s.c 12293)=(dcO s.c 12293&&(st=="loose")):=Bool.and_comm _ _
 rw[e]
theorem Hb(S:DSt J D kn f m)(ρ:J[hh]?=some (oZ st ka nm))(hk:∀s∈ss,bR s kn=some (dS kn s)):Bd P J D hh (YL f st nm ka) (ss.map (dS kn)):=by
 have hl:=S.kl
 have ml:=S.ml
 have key:∀c∈ss.map (dS kn),∃s,f "lb" c=.str s.n/\f "gc" c=.str s.g/\f "ea" c=.str s.e/\f "ep" c=.bool s.p/\0<=c/\c<1114111/\bR s kn=some c:=fun c hc=>by
  obtain⟨s,hs,rfl⟩:=List.mem_map.mp hc
  obtain⟨a1,a2,a3,a4⟩:=S.fk _ (nq (hk s hs))
  have:=(xm S (hk s hs)).2
  exact⟨s,a1,a2,a3,a4,by grind,by grind,hk s hs⟩
 have A:∀H,d5 (J++H) D (D+7) f m:=fun H=>S.A.more
 refine⟨fun d c hc H=>?_,ρ,S.A.dat,fun d c hc H=>?_,fun d c hc H=>?_,fun d c hc H=>?_⟩
 . obtain⟨s,a1,a2,a3,a4,b1,b2,b3⟩:=key c hc
   have g1:=F8 (P:=P) (d:=d+2) (k:="lb") (A H) (by lia) b1 b2
   have g2:=F8 (P:=P) (d:=d+2) (k:="gc") (A H) (by lia) b1 b2
   rw[a1]at g1
   rw[a2]at g2
   show wX P (d+6) D hh (J++H) c (fL (jB (f "lb" c)) (jB (f "gc" c)) st (qd c) c)
   rw[a1,a2]
   exact Jm (fT (dtC P) (A H).c0 (by kernel_rfl) (by kernel_rfl) (by kernel_rfl)) g1 g2 (aB (lhQ P) (bD ρ) rfl rfl) LR
 . obtain⟨s,a1,a2,a3,a4,b1,b2,b3⟩:=key c hc
   have g:=F8 (P:=P) (d:=d+1) (k:="gc") (A H) (by lia) b1 b2
   rw[a2]at g
   show jz P (d+4) D (J++H) "gc" c (.str (jB (f "gc" c)))
   rw[a2];exact g
 . obtain⟨s,a1,a2,a3,a4,b1,b2,b3⟩:=key c hc
   have g:=F8 (P:=P) (d:=d+1) (k:="ea") (A H) (by lia) b1 b2
   rw[a3]at g
   show jz P (d+4) D (J++H) "ea" c (.str (jB (f "ea" c)))
   rw[a3];exact g
 . obtain⟨s,a1,a2,a3,a4,b1,b2,b3⟩:=key c hc
   have g:=F8 (P:=P) (d:=d+1) (k:="ep") (A H) (by lia) b1 b2
   rw[a4]at g
   show jz P (d+4) D (J++H) "ep" c (.bool (G8 (f "ep" c)))
   rw[a4];exact g
theorem Hc(S:DSt J D kn f m)(hk:∀s∈ss,bR s kn=some (dS kn s)){h:fW}(hn:(nm=="expression")=h.iw):YOK (YL f h.st nm h.ka) h (dS kn) ss:=by
 have fk:∀s∈ss,_:=fun s hs=>S.fk _ (nq (hk s hs))
 refine⟨fun s hs=>?_,fun s hs=>?_,fun s hs=>?_,fun s hs=>?_,fun s hs=>?_,rfl,rfl,hn⟩
 . show fL (jB (f "lb" _)) (jB (f "gc" _)) h.st _ _=_
   rw[(fk s hs).1,(fk s hs).2.1]
   exact Ha S (hk s hs)
 . show jB (f "gc" _)=_
   rw[(fk s hs).2.1];rfl
 . show jB (f "ea" _)=_
   rw[(fk s hs).2.2.1];rfl
 . show G8 (f "ep" _)=_
   rw[(fk s hs).2.2.2];rfl
 . rcases(xm S (hk s hs)).2 with⟨a,_⟩ | ⟨a,b,c⟩
   .rw[a];rfl
   .rw[a];exact PC.mpr (by lia)
end
section
variable{J:Hp}{l:List Str}{cs:List Int}{x:Str}{t:Bool}
theorem uS{n:Nat}:∀l:List Str,gz (eqV (n+1)) (svs l) (svs l)=some true
 |[]=>rfl
 |a::r=>by
  show(some (a==a)).bind (fun b=>(gz (eqV (n+1)) (svs r) (svs r)).bind fun c=>some (b&&c))=_
  rw[uS r,P2];rfl
theorem uT{n:Nat}:∀l:List Int,gz (eqV (n+1)) (ivs l) (ivs l)=some true
 |[]=>rfl
 |a::r=>by
  show(some (a==a)).bind (fun b=>(gz (eqV (n+1)) (ivs r) (ivs r)).bind fun c=>some (b&&c))=_
  rw[uT r,P2];rfl
theorem Hd:aM J .Eq (.lst (svs l)) (.lst (svs l))=some true:=by
 show(if(svs l).length=(svs l).length then gz (eqV 5) (svs l) (svs l)else _)=_
 rw[if_pos rfl,uS]
theorem Mb:aM J .NotEq (.lst (svs l)) (.lst (svs l))=some false:=by
 show(aM J .Eq (.lst (svs l)) (.lst (svs l))).map _=_
 rw[Hd];rfl
theorem He{C:Nat}(h:J[C]?=some (.list (ivs cs))):aM J .NotEq (.ref C) (.lst (ivs cs))=some false:=by
 show(els (ba J (.ref C)) (fun xs=>(some (ivs cs)).bind fun ys=>CA (eqV 5) xs ys) _).map _=_
 rw[b0 h,Co]
 show(if(ivs cs).length=(ivs cs).length then gz (eqV 5) (ivs cs) (ivs cs)else some false).map _=_
 rw[if_pos rfl,uT];rfl
theorem Hf:aM J .In (.str x) (.lst (svs l))=some (inS x l):=by
 show pJ (eqV 6) (.str x) (svs l)=_
 induction l with
 |nil=>rfl
 |cons a r ih =>
  show(some (a==x)).bind (fun b=>(pJ (eqV 6) (.str x) (svs r)).bind fun c=>some (b||c))=_
  rw[ih];rfl
theorem zl:∀l:List Str,ut (svs l)=some l
 |[]=>rfl
 |a::r=>by
  show(some a).bind (fun a=>(ut (svs r)).bind fun as=>some (a::as))=_
  rw[zl r];rfl
theorem Ec{i:Nat}(hl:l.length<=1000)(h:l.findIdx? (· == x)=some i):aS J "list.index" (.lst (svs l)) [.str x]=some (.int i,J):=by
 show(if bp (svs l)then(ut (svs l)).bind fun ss=>(ss.findIdx? (· == x)).map fun(k:Nat)=>(V.int (k:Int),J)else none)=_
 rw[if_pos (ar (by rw[PA];exact Py ‹_› (by decide))),zl,Option.bind_some,h];rfl
theorem Hg{xs:List V}{x:V}:lB (xs++[x]) none (some (-1))=xs:=by
 unfold lB kms_lo kms_hi
 simp
theorem Bz{xs:List V}{x:V}(hl:xs.length<=1000):aG false J (.lst (xs++[x])) .none (.int (-1)) .none=some (.lst xs,J):=by
 have sm:aR (-1)=true:=by decide
 rw[mr rfl (ar (by rw[Px];simp;exact Py ‹_› (by decide))) (a:=none) rfl (jP sm),Hg];rfl
theorem zm{xs:List V}(h:xs.length<=1000):tyI t "list" [.lst xs] J=some (bw t xs J):=by
 show(if bp xs then some (bw t xs J)else none)=_
 rw[if_pos (ar (Py ‹_› (by decide)))]
theorem Hh{C:Nat}(h:J[C]?=some (.list (ivs cs)))(hl:cs.length<=1000):tyI false "list" [.ref C] J=some (.lst (ivs cs),J):=by
 show(ba J (.ref C)).bind (fun xs=>if bp xs then some (bw false xs J)else none)=_
 rw[b0 h,Option.bind_some,if_pos (ar (by rw[aQ];exact Py ‹_› (by decide)))];rfl
end
theorem Mc{P:Params}{d B:Nat}{J s:Hp}{t v:V}(h:cP P (d+1) "LineBreaks" "opportunities" [.inst "LineBreaks" B,t] [] J v s):cP P (d+1) "LineBreaks" "opportunities" [.inst "LineBreaks" B] [("text",t)] J v s:=by
 obtain⟨fd,binds,a,s1,h1,h2,h3,h4⟩:=h
 have f1:(a_T P).fns.lookup (("LineBreaks":Str),("opportunities":Str))=some (aF P):=by kernel_rfl
 rw[f1]at h1
 cases h1
 have e:pN (aF P) [.inst "LineBreaks" B] [("text",t)]=pN (aF P) [.inst "LineBreaks" B,t] []:=by kernel_rfl
 exact⟨_,binds,a,s1,f1,e.trans h2,h3,h4⟩
theorem pe{t:Int}{h g:ab}(D:lK t h g):[h,g].all (bT 2)=true:=by
 obtain⟨_,c,m,_,rfl,rfl⟩:=D
 show(refsL 2 (ivs c)&&(true&&true))=true
 rw[gn fun v hv=>by obtain⟨i,_,rfl⟩:=List.mem_map.mp hv;rfl];rfl
theorem DSt.more{J H:Hp}{D m:Nat}{kn:KN}{f:Str->Int->V}(S:DSt J D kn f m)(hc:(J++H).all (bT (J++H).length)=true):DSt (J++H) D kn f m :=
 ⟨S.A.more,bD S.known,S.ml,S.kl,S.fk,S.fn,S.rg,S.lk,hc⟩
def qh(ss:List aw)(h:fW):List Str:=match ss with
 |[]=>[]
 |_=>aI (ao h.st ss) h (ao h.st ss).length
noncomputable def Kt(ss:List aw):Str:=match ss with
 |[]=>"no"
 |_=>"must"
def lV(ss:List aw)(h:fW):List Str:=qh ss h++[Kt ss]
theorem pf{ss:List aw}{h:fW}(h0:ss≠[]):lV ss h=dM (ao h.st ss) h:=by
 cases ss with
 |nil=>exact absurd rfl h0
 |cons a r=>rfl
theorem Cv{x:Str}:∀(l:List Str),inS x l=true->∃i,i<l.length/\l[i]?=some x/\∀r:List Str,(l++r).findIdx? (· == x)=some i
 |[],h=>nomatch h
 |a::l,h=>by
  by_cases q:a=x
  .exact⟨0,Nat.succ_pos _,by rw[q];rfl,fun r=>by rw[List.cons_append,List.findIdx?_cons,q,P2];rfl⟩
  . have h:((a==x)||inS x l)=true:=h
    rw[PC.mpr q,Bool.false_or]at h
    obtain⟨i,h1,h2,h3⟩:=Cv l h
    exact⟨i+1,Nat.succ_lt_succ h1,h2,fun r=>by rw[List.cons_append,List.findIdx?_cons,PC.mpr q,h3 r];rfl⟩
inductive Pr(P:Params)(B C:Nat)(s9:Hp)(du cl:List V):Prop
 |no (i1:aM s9 .In (.str "must") (.lst cl)=some false)
 |yes (i1:aM s9 .In (.str "must") (.lst cl)=some true) (at':Int) (rest su:List V)
  (ix:aS s9 "list.index" (.lst du) [.str "must"]=some (.int at',s9)) (k1:aG false s9 (.ref C) (.int at') .none .none=some (.lst rest,s9))
  (o2f:Br P 40 B s9 (.lst rest) (.str "no"::su)) (t2:tyI false "list" [.lst (.str "no"::su)] s9=some (.lst (.str "no"::su),s9)) (k2:aG false s9 (.lst du) (.int (at'+1)) .none .none=some (.lst su,s9)) (k3:c8 false .Add (.lst [.str "no"]) (.lst su) s9=some (.lst (.str "no"::su),s9))
  (c3:aM s9 .Eq (.lst (.str "no"::su)) (.lst (.str "no"::su))=some true)
structure TF(P:Params)(B C:Nat)(s9:Hp)(cs du cl:List V):Prop where
 m0:MO P B s9
 o1:cP P 40 "LineBreaks" "opportunities" [.inst "LineBreaks" B] [("text",.ref C)] s9 (.lst du) s9
 t1:tyI false "list" [.lst du] s9=some (.lst du,s9)
 c1:aM s9 .NotEq (.lst du) (.lst du)=some false
 c2:aM s9 .NotEq (.ref C) (.lst cs)=some false
 sl:aG false s9 (.lst du) .none (.int (-1)) .none=some (.lst cl,s9)
 alt:Pr P B C s9 du cl
section
variable{P:Params}{D m hh B:Nat}{J:Hp}{kn:KN}{f:Str->Int->V}{ss:List aw}{h:fW}{nm:Str}
theorem JP{Y:lP}:Bk Y []=[.str "no"]:=by
 rfl
theorem JQ(S:DSt J D kn f m)(hk:∀s∈ss,bR s kn=some (dS kn s)):(lV ss h).length=ss.length+1:=by
 cases q:ss with
 |nil=>rfl
 |cons a r =>
  rw[<- q,pf (by rw[q];exact List.cons_ne_nil _ _)]
  have e:=G5 (Hc (nm:=cond h.iw "expression" "pairs") S hk (h:=h) (by cases h.iw <;> rfl)) (by rw[q];exact List.cons_ne_nil _ _)
  have e2:=PI List.length e
  unfold Bk at e2
  rw[PA,iG,PA,PA]at e2
  exact e2.symm
theorem Cw(S:DSt J D kn f m)(hk:∀s∈ss,bR s kn=some (dS kn s))(hn:(nm=="expression")=h.iw):Bk (YL f h.st nm h.ka) (ss.map (dS kn))=svs (lV ss h):=by
 cases q:ss with
 |nil=>exact JP
 |cons a r =>
  rw[<- q,pf (by rw[q];exact List.cons_ne_nil _ _)]
  exact G5 (Hc S hk hn) (by rw[q];exact List.cons_ne_nil _ _)
theorem JR{C:Nat}{cs:List Int}(h:J[C]?=some (.list (ivs cs))):kh J (.ref C) cs:=⟨fun H=>b0 (bD h),fun H=>eY (bD h)⟩
theorem tail(S:DSt J D kn f m)(co:J[D+5]?=some (.list (ivs (ss.map (dS kn)))))(hk:∀s∈ss,bR s kn=some (dS kn s))(hs:∀s∈ss,s∈bK)(hl:ss.length<=8)
 (ρ:J[hh]?=some (oZ h.st h.ka nm)) (hB:J[B]?=some (qB D hh)) (hn:(nm=="expression")=h.iw) :
 TF P B (D+5) J (ivs (ss.map (dS kn))) (svs (lV ss h)) (svs (qh ss h)):=by
 have E:=Hb (P:=P) S ρ hk
 have dl:=JQ (h:=h) S hk
 have il:(qh ss h).length=ss.length:=by
  unfold lV at dl
  rw[Px]at dl
  exact Nat.succ.inj dl
 have ed:svs (lV ss h)=svs (qh ss h)++[.str (Kt ss)]:=kP
 have sl:(svs (qh ss h)).length<=1000:=by rw[PA];exact Py (Nat.le_of_eq ‹_›) (Py ‹_› (by decide))
 have dl2:(svs (lV ss h)).length<=1000:=by rw[PA];lia
 have op:=Kk (d:=30) E (JR co) (by rw[PA];exact Py ‹_› (by decide)) hB S.cl
 rw[Cw S hk hn]at op
 refine⟨fT (lbC P) hB (by kernel_rfl) (by kernel_rfl) (by kernel_rfl),Mc (d:=39) op,zm dl2,Mb,He co,by rw[ed];exact Bz sl,?_⟩
 cases q:inS "must" (qh ss h)with
 |false=>exact .no (by rw[Hf,q])
 |true =>
  obtain⟨i,i1,i2,i3⟩:=Cv _ q
  have iss:i<ss.length:=Nat.lt_of_lt_of_eq ‹_› ‹_›
  have h0:ss≠[]:=fun e=>by rw[e]at iss;exact absurd iss (Nat.not_lt_zero _)
  have hd:(dM (ao h.st ss) h)[i]?=some "must":=by
   rw[<- pf h0];unfold lV
   rw[PN i1];exact i2
  have re:=JM (st:=h.st) (h:=h) hs iss hd
  rw[<- pf h0]at re
  have hk2:∀s∈ss.drop i,bR s kn=some (dS kn s):=fun s hs=>hk s (List.mem_of_mem_drop hs)
  have d0:ss.drop i≠[]:=fun e=>by have:=PI List.length e;rw[List.length_drop]at this;exact absurd this (by show ¬(_=0);lia)
  have o2:=Kk (d:=30) (t:=.lst (ivs ((ss.drop i).map (dS kn)))) (Hb (P:=P) S ρ hk2) ⟨fun _=>rfl,fun _=>rfl⟩ (by rw[PA,List.length_drop];lia) hB S.cl
  rw[Cw S hk2 hn,pf d0,re]at o2
  have l3:(svs (lV ss h)).drop (i+1)=svs ((lV ss h).drop (i+1)):=List.map_drop.symm
  have ll:(V.str "no"::svs ((lV ss h).drop (i+1))).length<=1000:=by rw[P8,PA,List.length_drop];lia
  refine .yes (by rw[Hf,q]) (i:Int) (ivs ((ss.drop i).map (dS kn))) (svs ((lV ss h).drop (i+1))) (Ec (by lia) (i3 _)) ?_ o2 (zm ll) ?_ (w9 (xs:=[.str "no"]) rfl (ar (Py ll (by decide)))) (Hd (l:="no"::(lV ss h).drop (i+1)))
  . have:=gm (n:=i) (b0 co) (by rw[aQ,PA];exact Nat.le_of_lt ‹_›) (ar (by rw[aQ,PA];exact Py ‹_› (by decide))) (PU (PU ‹_› ‹_›) (by decide))
    unfold ivs at this ⊢
    rw[<- List.map_drop,<- List.map_drop]at this
    exact this
  . rw[<- l3]
    exact gm (n:=i+1) rfl (by rw[PA];lia) (ar (Py ‹_› (by decide))) (by lia)
end
inductive Ku(P:Params)(D C:Nat)(s7:Hp)(st:Str)(r5 r3:Int)(cs du cl:List V):Prop
 |d (s9:Hp) (q1:((st=="strict")&&((((r5==4)==false)&&(((r3==2)==false)&&true))))=true)
  (l1:cP P 40 "LineBreaks" "__init__" [.inst "LineBreaks" s7.length,.inst "Data" D] [] (s7++[.dict []]) .none s9)
  (F:TF P s7.length C s9 cs du cl)
 |w (s8 s9:Hp) (q1:((st=="strict")&&((((r5==4)==false)&&(((r3==2)==false)&&true))))=false)
  (l0:cP P 40 "LineHow" "__init__" [.inst "LineHow" s7.length] [("strictness",.str st),("keep_all",.bool (r5==4)),("numbers",.str "expression")] (s7++[.dict []]) .none s8)
  (l1:cP P 40 "LineBreaks" "__init__" [.inst "LineBreaks" s8.length,.inst "Data" D,.inst "LineHow" s7.length] [] (s8++[.dict []]) .none s9)
  (q2:(r3==2)=true) (F:TF P s8.length C s9 cs du cl)
 |p (s8 s9:Hp) (q1:((st=="strict")&&((((r5==4)==false)&&(((r3==2)==false)&&true))))=false)
  (l0:cP P 40 "LineHow" "__init__" [.inst "LineHow" s7.length] [("strictness",.str st),("keep_all",.bool (r5==4)),("numbers",.str "pairs")] (s7++[.dict []]) .none s8)
  (l1:cP P 40 "LineBreaks" "__init__" [.inst "LineBreaks" s8.length,.inst "Data" D,.inst "LineHow" s7.length] [] (s8++[.dict []]) .none s9)
  (q2:(r3==2)=false) (F:TF P s8.length C s9 cs du cl)
inductive Ps(P:Params)(sv:List V)(s3:Hp):Prop
 |mk (st:Str) (r5 r3:Int) (s4 s5 s6 s7:Hp) (D C:Nat) (cs du cl:List V) (ce:sv=[]->cl=[])
  (f4:dR P 40 [.str "strict",.str "strict",.str "normal",.str "loose"] s3 (.str st) s4) (f5:aP P 40 5 s4 r5 s5) (f6:aP P 40 3 s5 r3 s6)
  (f7:cP P 40 "" "_law_data" [.lst sv] [] s6 (.tup [.inst "Data" D,.ref C]) s7)
  (f8:tyI false "list" [.ref C] s7=some (.lst cs,s7))
  (f9:cP P 40 "" "_law_places" [.lst sv,et st (r5==4) (r3==2)] [] s7 (.lst du) s7)
  (F:Ku P D C s7 st r5 r3 cs du cl)
section
variable{P:Params}{ss:List aw}{t:Int}{h g:ab}
theorem zn{n D h:Nat}(h1:D<n)(h2:h<n):bT n (qB D h)=true:=by
 show(decide (D<_)&&(decide (h<_)&&true))=true
 rw[PB h1,PB h2];rfl
theorem Cx{J H:Hp}(h:J.all (bT J.length)=true)(hr:H.all (bT (J++H).length)=true):(J++H).all (bT (J++H).length)=true:=by
 rw[List.all_append,sw (m:=(J++H).length) (by rw[Px];exact Nat.le_add_right _ _) h,hr];rfl
theorem Pt{D m:Nat}{s7:Hp}{kn:KN}{f:Str->Int->V}{st:Str}{r5 r3:Int}(S:DSt s7 D kn f m)(co:s7[D+5]?=some (.list (ivs (ss.map (dS kn)))))(hk:∀s∈ss,bR s kn=some (dS kn s))(hs:∀s∈ss,s∈bK)(hl:ss.length<=8)
 (hst:inS st ["strict","normal","loose"]=true) :
 Ku P D (D+5) s7 st r5 r3 (ivs (ss.map (dS kn))) (svs (lV ss ⟨st,r5==4,r3==2⟩)) (svs (qh ss ⟨st,r5==4,r3==2⟩)):=by
 have hD:D<s7.length:=by have:=(PD.mp co).1;exact PK (Nat.le_add_right _ _) ‹_›
 have cu:∀(nm:Str),(nm=="expression")=(r3==2)->TF P (s7.length+1) (D+5) (s7++[oZ st (r5==4) nm]++[qB D s7.length]) (ivs (ss.map (dS kn))) (svs (lV ss ⟨st,r5==4,r3==2⟩)) (svs (qh ss ⟨st,r5==4,r3==2⟩)):=fun nm hn=>by
  rw[Pw]
  have hlen:(s7++([oZ st (r5==4) nm]++[qB D s7.length])).length=s7.length+2:=Px
  refine tail (h:=⟨st,r5==4,r3==2⟩) (nm:=nm) (hh:=s7.length) (S.more (Cx S.cl ?_)) (bD co) hk hs hl ?_ ?_ hn
  . rw[hlen]
    show(true&&(bT (s7.length+2) (qB D s7.length)&&true))=true
    rw[zn (by exact Nat.lt_add_right _ ‹_›) (by exact Nat.lt_add_of_pos_right (by decide))];rfl
  .rw[PV (PS _),Nat.sub_self];rfl
  .rw[PV (by exact Nat.le_succ _),Nat.add_sub_cancel_left];rfl
 cases q:((st=="strict")&&((((r5==4)==false)&&(((r3==2)==false)&&true))))with
 |true =>
  have q':=q
  rw[PJ,PJ,PJ,P4,P4,P4]at q'
  obtain⟨e1,e2,e3,_⟩:=q'
  refine .d _ q (JN (d:=38)) ?_
  rw[Pw]
  have hlen:(s7++([qB D (s7.length+1)]++[oZ "strict" false "pairs"])).length=s7.length+2:=Px
  refine tail (h:=⟨st,r5==4,r3==2⟩) (nm:="pairs") (hh:=s7.length+1) (S.more (Cx S.cl ?_)) (bD co) hk hs hl ?_ ?_ e3.symm
  . rw[hlen]
    show(bT (s7.length+2) (qB D (s7.length+1))&&true)=true
    rw[zn (by exact Nat.lt_add_right _ ‹_›) (by exact Nat.add_lt_add_left (by decide) _)];rfl
  .rw[PV (by exact Nat.le_succ _),Nat.add_sub_cancel_left,e1,e2];rfl
  .rw[PV (PS _),Nat.sub_self];rfl
 |false =>
  have lb:=fun(nm:Str)=>Jh (P:=P) (d:=39) (D:=D) (h:=s7.length) (J:=s7++[oZ st (r5==4) nm])
  have ln:∀nm:Str,(s7++[oZ st (r5==4) nm]).length=s7.length+1:=fun nm=>Px
  cases q2:r3==2 with
  |true =>
   have F:=cu "expression" q2.symm
   rw[q2]at F
   rw[<- ln "expression"]at F
   exact .w _ _ q (Ks (d:=39) hst rfl) (lb _) q2 F
  |false =>
   have F:=cu "pairs" q2.symm
   rw[q2]at F
   rw[<- ln "pairs"]at F
   exact .p _ _ q (Ks (d:=39) hst rfl) (lb _) q2 F
theorem mid(D:lK t h g)(ht:t<5000)(hs:∀s∈ss,s∈bK)(hl:ss.length<=8):Ps P (ss.map av) [h,g]:=by
 obtain⟨v,h4,g4,hv,D4,f4⟩:=IX (xs:=[.str "strict",.str "strict",.str "normal",.str "loose"]) D (by exact P5 ‹_› (by decide)) (by decide) (by decide)
 have hv:∃st:Str,v=.str st/\inS st ["strict","normal","loose"]=true:=by
  rcases PZ.mp hv with rfl | hv
  .exact⟨_,rfl,rfl⟩
  rcases PZ.mp hv with rfl | hv
  .exact⟨_,rfl,rfl⟩
  rcases PZ.mp hv with rfl | hv
  .exact⟨_,rfl,rfl⟩
  rcases PZ.mp hv with rfl | hv
  .exact⟨_,rfl,rfl⟩
  .exact nomatch hv
 obtain⟨st,rfl,hst⟩:=hv
 obtain⟨r5,h5,g5,_,_,D5,f5⟩:=DH (below:=5) D4 (by lia) (by decide) (by decide)
 obtain⟨r3,h6,g6,_,_,D6,f6⟩:=DH (below:=3) D5 (by lia) (by decide) (by decide)
 obtain⟨s7,kn,f,m,f7,S,co,hk,_⟩:=L3 (P:=P) (d:=36) (J:=[h6,g6]) hs hl (pe D6)
 refine .mk st r5 r3 _ _ _ s7 2 7 _ _ _ (fun e=>by cases ss with | nil=>rfl | cons a r=>exact nomatch e) (f4 (d:=38)) (f5 (d:=39)) (f6 (d:=39)) f7 (Hh co (by rw[PA];exact Py ‹_› (by decide))) ?_ (Pt S co hk hs hl hst)
 cases q:ss with
 |nil=>exact Gx (d:=39)
 |cons a r =>
  have h0:ss≠[]:=by rw[q];exact List.cons_ne_nil _ _
  rw[<- q,pf h0]
  exact GB (d:=36) (h:=⟨st,r5==4,r3==2⟩) h0 (by exact Py ‹_› (by decide)) S.cl
end
theorem JS(P:Params)(ns:List Int)(hl:ns.length<=63):∃J',cP P 41 "" "law" [.lst (ns.map .int)] [] [] (.bool true) J':=by
 obtain⟨h1,g1,D1,f1⟩:=Lq (P:=P) (d:=39) hl
 by_cases h0:ns=[]
 . subst h0
   have q0:aM [h1,g1] .NotEq (.lst []) (.lst [])=some false:=rfl
   obtain⟨ss,h3,g3,t3,l3,hs,D3,ht3,f3⟩:=Cn (P:=P) (d:=36) (J:=[]) (m:=0) D1 (by decide) (by decide) (fun _ _=>pe)
   obtain⟨st,r5,r3,s4,s5,s6,s7,D,C,cs,du,cl,ce,f4,f5,f6,f7,f8,f9,F⟩:=mid (P:=P) D3 (by exact Int.lt_of_le_of_lt ‹_› (by decide)) hs (by lia)
   have no:∀ {s9:Hp}{Q:Prop},aM s9 .In (.str "must") (.lst cl)=some true->Q:=fun i=>by
    rw[ce (List.map_eq_nil_iff.mpr (List.length_eq_zero_iff.mp l3))]at i
    exact nomatch (show some false=some true from i)
   rcases F with⟨s9,q1,lb,F⟩ | ⟨s8,s9,q1,l0,lb,q2,F⟩ | ⟨s8,s9,q1,l0,lb,q2,F⟩
   all_goals
    rcases F.alt with i1 | ⟨i1,at',rest,su,ix,k1,o2f,t2,k2,k3,c3⟩
   .exact⟨_,JE f1 q0 f3 f4 f5 f6 f7 f8 f9 q1 lb F.m0 F.o1 F.t1 F.c1 F.c2 F.sl i1⟩
   .exact no i1
   .exact⟨_,GV f1 q0 f3 f4 f5 f6 f7 f8 f9 q1 l0 lb q2 F.m0 F.o1 F.t1 F.c1 F.c2 F.sl i1⟩
   .exact no i1
   .exact⟨_,GW f1 q0 f3 f4 f5 f6 f7 f8 f9 q1 l0 lb q2 F.m0 F.o1 F.t1 F.c1 F.c2 F.sl i1⟩
   .exact no i1
 . have q0:aM [h1,g1] .NotEq (.lst (ivs ns)) (.lst [])=some true:=by
    cases ns with
    |nil=>exact absurd rfl h0
    |cons a r=>rfl
   obtain⟨r,h2,g2,r0,r1,D2,f2⟩:=DH (below:=7) D1 (by decide) (by decide) (by decide)
   obtain⟨k,e⟩:∃k:Nat,1+r=k:=⟨(1+r).toNat,by grind⟩
   obtain⟨ss,h3,g3,t3,l3,hs,D3,ht3,f3⟩:=Cn (P:=P) (d:=36) (J:=[]) (m:=k) D2 (by decide) (by lia) (fun _ _=>pe)
   rw[<- e]at f3
   obtain⟨st,r5,r3,s4,s5,s6,s7,D,C,cs,du,cl,ce,f4,f5,f6,f7,f8,f9,F⟩:=mid (P:=P) D3 (by exact Int.lt_of_le_of_lt ‹_› (by decide)) hs (by lia)
   have f2:aP P 40 7 [h1,g1] r [h2,g2]:=f2 (d:=39)
   rcases F with⟨s9,q1,lb,F⟩ | ⟨s8,s9,q1,l0,lb,q2,F⟩ | ⟨s8,s9,q1,l0,lb,q2,F⟩
   all_goals
    rcases F.alt with i1 | ⟨i1,at',rest,su,ix,k1,o2f,t2,k2,k3,c3⟩
   .exact⟨_,JC f1 q0 f2 f3 f4 f5 f6 f7 f8 f9 q1 lb F.m0 F.o1 F.t1 F.c1 F.c2 F.sl i1⟩
   .exact⟨_,JD f1 q0 f2 f3 f4 f5 f6 f7 f8 f9 q1 lb F.m0 F.o1 F.t1 F.c1 F.c2 F.sl i1 ix k1 o2f t2 k2 k3 c3⟩
   .exact⟨_,GR f1 q0 f2 f3 f4 f5 f6 f7 f8 f9 q1 l0 lb q2 F.m0 F.o1 F.t1 F.c1 F.c2 F.sl i1⟩
   .exact⟨_,GT f1 q0 f2 f3 f4 f5 f6 f7 f8 f9 q1 l0 lb q2 F.m0 F.o1 F.t1 F.c1 F.c2 F.sl i1 ix k1 o2f t2 k2 k3 c3⟩
   .exact⟨_,GS f1 q0 f2 f3 f4 f5 f6 f7 f8 f9 q1 l0 lb q2 F.m0 F.o1 F.t1 F.c1 F.c2 F.sl i1⟩
   .exact⟨_,GU f1 q0 f2 f3 f4 f5 f6 f7 f8 f9 q1 l0 lb q2 F.m0 F.o1 F.t1 F.c1 F.c2 F.sl i1 ix k1 o2f t2 k2 k3 c3⟩
noncomputable def zOf(K:Frag):List (Addr×Obj):=(K.map (·.1)).filterMap fun a=>(K.lookup a).map fun o=>(a,o)
theorem xn{K:Frag}{a:Addr}{o:Obj}(h:K.lookup a=some o):(a,o)∈zOf K:=by
 unfold zOf
 refine List.mem_filterMap.mpr ⟨a,?_,by rw[h];rfl⟩
 induction K with
 |nil=>cases h
 |cons p r ih =>
  obtain⟨b,x⟩:=p
  rw[PX]at h
  by_cases q:a=b
  .subst q;exact .head _
  . rw[PC.mpr q]at h
    exact .tail _ (ih h)
theorem Hi{K:Frag}{p:Addr×Obj}(h:p∈zOf K):K.lookup p.1=some p.2:=by
 unfold zOf at h
 refine ae (List.mem_filterMap.mp h) ?_;rintro a _ e
 refine ae (P9.mp e) ?_;rintro o ho rfl
 exact ho
noncomputable def Hj:Option Obj->Option (Array Value)
 |some ⟨.type t,none,.seq vs _,sl⟩=>if t=="tuple" && sl.size==0 then some vs else none
 |_=>none
theorem JT{o:Option Obj}{vs:Array Value}(h:Hj o=some vs):∃k,o=some ⟨.type "tuple",none,.seq vs k,#[]⟩:=by
 cases o with
 |none=>exact ax h
 |some o =>
  obtain⟨c,dc,dt,sl⟩:=o
  cases c with
  |type t=>cases dc with
   |none=>cases dt with
    |seq w k =>
     refine ifE (show(if t=="tuple" && sl.size==0 then some w else none)=some vs from h) fun hc e=>?_
     rw[PJ,P4,P4]at hc
     cases hc.1
     cases(Array.size_eq_zero_iff.mp hc.2:sl = #[])
     cases e
     exact⟨k,rfl⟩
    |_=>exact ax h
   |some _=>exact ax h
  |_=>exact ax h
noncomputable def Hk(f:Value->Bool):Option (Array Value)->Bool
 |some vs=>vs.toList.all f
 |none=>false
theorem zo{f:Value->Bool}{o:Option Obj}(h:Hk f (Hj o)=true):∃vs k,o=some ⟨.type "tuple",none,.seq vs k,#[]⟩/\vs.toList.all f=true:=by
 cases q:Hj o with
 |none=>rw[q]at h;exact Bool.noConfusion h
 |some vs =>
  rw[q]at h
  obtain⟨k,e⟩:=JT q
  exact⟨vs,k,e,h⟩
noncomputable def zp(K:Frag):Nat->Value->Bool
 |0,_=>false
 |n+1,v=>match v with
  |.none=>true
  |.bool _=>true
  |.int _ _=>true
  |.str _ _=>true
  |.ref a=>Hk (zp K n) (Hj (K.lookup a))
  |_=>false
theorem Cy{C:Ctx}{O:Map}{f:Value->Bool}{g:Value->V}(hf:∀v,f v=true->ac C O (g v) v):∀l:List Value,l.all f=true->ag (ac C O) (l.map g) l
 |[],_=>.nil
 |x::l,h=>by
  rw[List.all_cons,PJ]at h
  exact .cons (hf x h.1) (Cy hf l h.2)
theorem uU{C:Ctx}{O:Map}(hz:∀p∈zOf C.K,p∈O.Z)(n:Nat):∀(v:Value),zp C.K n v=true->ac C O (vOf C.K n v) v:=by
 induction n with
 |zero=>exact fun v h=>Bool.noConfusion h
 |succ n ih =>
  intro v h
  cases v with
  |none=>exact(rfl:Value.none=.none)
  |bool b=>exact(rfl:Value.bool b=.bool b)
  |int i t=>exact(⟨t,rfl⟩:∃u,Value.int i t=.int i u)
  |str i t=>exact(⟨t,rfl⟩:∃u,Value.str i t=.str i u)
  |ref a =>
   obtain⟨vs,k,ho,hall⟩:=zo (f:=zp C.K n) (o:=C.K.lookup a) h
   have e:vOf C.K (n+1) (.ref a)=MF C.K (vOf C.K n) (C.K.lookup a):=rfl
   rw[e,ho]
   exact(⟨a,vs,k,rfl,hz _ (xn ho),aL.mpr (Cy ih _ hall)⟩:∃b ws m,Value.ref a=.ref b/\(b,ju ws m)∈O.Z/\VRelL C O (vs.toList.map (vOf C.K n)) ws.toList)
  |_=>exact Bool.noConfusion h
noncomputable def pg(K:Frag)(a:Addr):List DictEntry:=match K.lookup a with
 |some ⟨_,_,.dict es _,_⟩=>es.toList
 |_=>[]
noncomputable def pn:Value->Bool
 |.str _ _=>true
 |_=>false
noncomputable def Hl(K:Frag):Value->Bool
 |.ref b=>Hk pn (Hj (K.lookup b))
 |_=>false
noncomputable def Md:Option Obj->Option (Array DictEntry)
 |some ⟨.type t,none,.dict es _,sl⟩=>if t=="dict" && sl.size==0 then some es else none
 |_=>none
theorem JU{o:Option Obj}{es:Array DictEntry}(h:Md o=some es):∃k,o=some ⟨.type "dict",none,.dict es k,#[]⟩:=by
 cases o with
 |none=>exact ax h
 |some o =>
  obtain⟨c,dc,dt,sl⟩:=o
  cases c with
  |type t=>cases dc with
   |none=>cases dt with
    |dict w k =>
     refine ifE (show(if t=="dict" && sl.size==0 then some w else none)=some es from h) fun hc e=>?_
     rw[PJ,P4,P4]at hc
     cases hc.1
     cases(Array.size_eq_zero_iff.mp hc.2:sl = #[])
     cases e
     exact⟨k,rfl⟩
    |_=>exact ax h
   |some _=>exact ax h
  |_=>exact ax h
noncomputable def Pu(f:DictEntry->Bool):Option (Array DictEntry)->Bool
 |some es=>es.toList.all f
 |none=>false
def Me(K:Frag)(a:Addr):Bool:=Pu (fun e=>pn e.key&&Hl K e.val) (Md (K.lookup a))
theorem uW{v:Value}(h:pn v=true):lD (pZ v) v:=by
 cases v <;> first | exact⟨_,rfl⟩ | cases h
theorem zq:∀l:List Value,l.all pn=true->ag lD (l.map pZ) l
 |[],_=>.nil
 |x::l,h=>by
  rw[List.all_cons,PJ]at h
  exact .cons (uW h.1) (zq l h.2)
theorem Hm{K:Frag}{Z:List (Addr×Obj)}(hz:∀p∈zOf K,p∈Z){v:Value}(h:Hl K v=true):lE Z (nU K v) v:=by
 cases v with
 |ref b =>
  obtain⟨vs,k,ho,hall⟩:=zo (f:=pn) (o:=K.lookup b) h
  have e:nU K (.ref b)=Ke (K.lookup b):=rfl
  rw[e,ho]
  exact⟨b,vs,k,rfl,hz _ (xn ho),zq _ hall⟩
 |_=>exact Bool.noConfusion h
noncomputable def jc(C:Ctx)(p:Str×V):Prop:=∃val,ac C ⟨[],C.Z₀⟩ p.2 val/\(nsIn C.K mainGlobals p.1=some (some val)\/(nsIn C.K mainGlobals p.1=some none/\bootBuiltins p.1=some val/\p.1 ≠ "__name__"))
theorem ay{α:Type}{P:α->Prop}:∀p∈([]:List α),P p:=fun _ h=>(nomatch h)
theorem aa{α:Type}{P:α->Prop}{a:α}{r:List α}(h:P a)(k:∀p∈r,P p):∀p∈a::r,P p:=fun p hp=>by
 rcases PZ.mp hp with rfl | hp
 .exact h
 .exact k p hp
section
variable{C:Ctx}(hz:∀p∈zOf C.K,p∈C.Z₀)
include hz in
theorem cY{x:Str}{v:V}(val:Value)(e1:nsIn C.K mainGlobals x=some (some val):=by kernel_rfl)(e2:zp C.K 4 val=true:=by kernel_rfl)(e3:v=vOf C.K 4 val:=by kernel_rfl):jc C (enG x v):=by
 subst e3
 exact⟨val,uU (O:=⟨[],C.Z₀⟩) hz 4 val e2,.inl e1⟩
include hz in
set_option tactic.hygienic true in
theorem NQ{x:Str}{v:V}(a:Addr)(e1:nsIn C.K mainGlobals x=some (some (.ref a)):=by kernel_rfl)(e2:Me C.K a=true:=by kernel_rfl)(e3:(pg C.K a).map (·.hash)=(pg C.K a).map fun e=>PyData.keyHash C.w.params (pZ e.key):=by kernel_rfl)
 (e4:v=.jd ((pg C.K a).map fun e=>(pZ e.key,nU C.K e.val)):=by kernel_rfl) (e5:(a==sysModules)=false:=by kernel_rfl):jc C (enG x v):=by
 subst e4
 refine⟨.ref a,?_,.inl e1⟩
 cases q:Md (C.K.lookup a)with
 |none=>rw[Me,q]at e2;exact Bool.noConfusion e2
 |some es =>
  rw[Me,q]at e2
  have e2:es.toList.all (fun e=>pn e.key&&Hl C.K e.val)=true:=e2
  obtain⟨n,ho⟩:=JU q
  have hes:pg C.K a=es.toList:=by unfold pg;rw[ho]
  rw[hes]at e3
  show ac C ⟨[],C.Z₀⟩ (.jd ((pg C.K a).map fun e=>(pZ e.key,nU C.K e.val))) (.ref a)
  rw[hes]
  refine(⟨a,es.toList,n,rfl,PC.mp e5,hz _ (xn (by rw[ho])),?_⟩:∃b ents n,Value.ref a=.ref b/\b≠sysModules/\(b,gM ents n)∈C.Z₀/\ag (zy C C.Z₀) (es.toList.map fun e=>(pZ e.key,nU C.K e.val)) ents)
  generalize es.toList=l at e2 e3 ⊢
  induction l with
  |nil=>exact .nil
  |cons e l ih =>
   rw[List.all_cons,PJ,PJ]at e2
   simp only[List.map_cons,List.cons.injEq]at e3
   exact .cons ⟨e3.1,uW e2.1.1,Hm hz e2.1.2⟩ (ih e2.2 e3.2)
theorem bO{x c m:Str}{a:Addr}(e1:nsIn C.K mainGlobals x=some (some (.ref a)):=by kernel_rfl)(e2:C.fnA c m=some a:=by kernel_rfl):jc C (enG x (.fn c m)):=⟨.ref a,by show ac _ _ (.fn c m) _;simp only[ac];exact⟨a,rfl,e2⟩,.inl e1⟩
theorem pq{x c:Str}{a:Addr}(e1:nsIn C.K mainGlobals x=some (some (.ref a)):=by kernel_rfl)(e2:C.clA c=some a:=by kernel_rfl):jc C (enG x (.cls c)):=⟨.ref a,by show ac _ _ (.cls c) _;simp only[ac];exact⟨a,rfl,e2⟩,.inl e1⟩
theorem Kw{x:Str}{id:String}(e1:nsIn C.K mainGlobals x=some none:=by kernel_rfl)(e2:bootBuiltins x=some (.builtin id):=by kernel_rfl)(e3:(x==("__name__":Str))=false:=by kernel_rfl):jc C (enG x (.bi id)):=⟨.builtin id,by show ac _ _ (.bi id) _;simp only[ac],.inr ⟨e1,e2,PC.mp e3⟩⟩
theorem uX{x:Str}{id:String}(e1:nsIn C.K mainGlobals x=some none:=by kernel_rfl)(e2:bootBuiltins x=some (.type id):=by kernel_rfl)(e3:(x==("__name__":Str))=false:=by kernel_rfl):jc C (enG x (.ty id)):=⟨.type id,by show ac _ _ (.ty id) _;simp only[ac],.inr ⟨e1,e2,PC.mp e3⟩⟩
end
noncomputable def NR:Option Obj->Bool
 |some ⟨_,_,.func _,_⟩=>true
 |_=>false
def xo(K:Frag)(f:Addr):Bool:=NR (K.lookup f)
theorem Ed{K:Frag}{f:Addr}(h:xo K f=true):∃oc od osl,K.lookup f=some ⟨oc,od,.func (aV K f),osl⟩:=by
 cases e:K.lookup f with
 |none=>rw[xo,e]at h;exact Bool.noConfusion h
 |some o =>
  rw[xo,e]at h
  rw[aV,e]
  obtain⟨c,dc,dt,sl⟩:=o
  cases dt with
  |func fd=>exact⟨c,dc,sl,rfl⟩
  |_=>exact Bool.noConfusion h
def uY(K:Frag)(f:Addr)(i:Nat):Value:=match(aV K f).defaults with
 |.ref a=>(match K.lookup a with
  |some ⟨_,_,.seq vs _,_⟩=>vs.getD i .none
  |_=>.none)
 |_=>.none
noncomputable def je(C:Ctx)(ps:List Str)(f:FuncData)(sh:Nat×List Str×List Src):Prop:=∀vals kwv:List Value,vals.length=sh.1->kwv.length=sh.2.1.length->∃r,ag (vh C kwv) sh.2.2 r /\
 ∀S,peek C.K S (bindArgs f ⟨vals,sh.2.1.zip kwv⟩)=some (ps.zip (vals++r))
theorem iJ{C:Ctx}(hz:∀p∈zOf C.K,p∈C.Z₀){kwv:List Value}{d:V}{v:Value}(h1:zp C.K 4 v=true:=by kernel_rfl)(h2:d=vOf C.K 4 v:=by kernel_rfl):vh C kwv (.dflt d) v:=by
 subst h2
 exact uU (O:=⟨[],C.Z₀⟩) hz 4 v h1
theorem aJ{C:Ctx}{c m:Str}{G:FuncData}{shapes:List (Nat×List Str×List Src)}(f:Addr)(h8:∀sh∈shapes,je C (bm G shapes).params (aV C.K f) sh)(h1:mB (bm G shapes).scope=true:=by kernel_rfl)
 (h2:((bm G shapes).params.all fun x=>(bm G shapes).scope.names.lookup x==some .local||(bm G shapes).scope.names.lookup x==some .cell)=true:=by kernel_rfl)
 (h3:decide ((bm G shapes).params.Nodup)=true:=by kernel_rfl)
 (h4:C.fnA c m=some f:=by kernel_rfl)
 (h5:xo C.K f=true:=by kernel_rfl)
 (h5':aV C.K f=fnOf (aV C.K f).name (aV C.K f).qualname (aV C.K f).params (bm G shapes).body (bm G shapes).scope (aV C.K f).defaults (aV C.K f).kwdefaults (aV C.K f).doc (aV C.K f).pyModule (aV C.K f).annotations (aV C.K f).code (aV C.K f).closureTuple:=by kernel_rfl)
 (h6:codeIn C.K (aV C.K f).code (aV C.K f).qualname=true:=by kernel_rfl)
 (h7:isFn C.K (.ref f)=true:=by kernel_rfl):CH C c m (bm G shapes):=by
 refine bf (Ed h5) ?_;rintro oc od osl e
 refine⟨h1,fun x hx=>?_,PP h3,.mk (oc:=oc) (od:=od) (osl:=osl) h4 (by rw[e,<- h5']) h6 h7 ?_⟩
 . have:=List.all_eq_true.mp h2 x hx
   rcases Bool.or_eq_true_iff.mp this with q | q
   .exact .inl (by simpa using q)
   .exact .inr (by simpa using q)
 .rw[<- h5'];exact h8
theorem ub{α:Type}{l:List α}(h:l.length=0):l=[]:=List.length_eq_zero_iff.mp h
theorem zr{α:Type}{l:List α}(h:l.length=1):∃a,l=[a]:=by
 rcases l with _ | ⟨a,l⟩
 .cases h
 .exact⟨a,by rw[ub (l:=l) (by simpa using h)]⟩
theorem Mf{α:Type}{l:List α}(h:l.length=2):∃a b,l=[a,b]:=by
 rcases l with _ | ⟨a,l⟩
 .cases h
 .obtain⟨b,rfl⟩:=zr (l:=l) (by simpa using h);exact⟨a,b,rfl⟩
theorem Mg{α:Type}{l:List α}(h:l.length=3):∃a b c,l=[a,b,c]:=by
 rcases l with _ | ⟨a,l⟩
 .cases h
 .refine gK (Mf (l:=l) (by simpa using h)) ?_;rintro b c rfl;exact⟨a,b,c,rfl⟩
theorem NS{α:Type}{l:List α}(h:l.length=4):∃a b c d,l=[a,b,c,d]:=by
 rcases l with _ | ⟨a,l⟩
 .cases h
 .refine bf (Mg (l:=l) (by simpa using h)) ?_;rintro b c d rfl;exact⟨a,b,c,d,rfl⟩
theorem Pv{α:Type}{l:List α}(h:l.length=5):∃a b c d e,l=[a,b,c,d,e]:=by
 rcases l with _ | ⟨a,l⟩
 .cases h
 .refine qF (NS (l:=l) (by simpa using h)) ?_;rintro b c d e rfl;exact⟨a,b,c,d,e,rfl⟩
theorem sh0{C:Ctx}{ps:List Str}{G:FuncData}(h:∀S,peek C.K S (bindArgs G ⟨[],[]⟩)=some (ps.zip ([]++[])):=by intros;kernel_rfl):je C ps G (0,[],[]):=fun vals kwv h1 h2=>by obtain rfl:=ub h1;obtain rfl:=ub h2;exact⟨[],.nil,h⟩
theorem sh1{C:Ctx}{ps:List Str}{G:FuncData}(h:∀a S,peek C.K S (bindArgs G ⟨[a],[]⟩)=some (ps.zip ([a]++[])):=by intros;kernel_rfl):je C ps G (1,[],[]):=fun vals kwv h1 h2=>by obtain⟨a,rfl⟩:=zr h1;obtain rfl:=ub h2;exact⟨[],.nil,h a⟩
theorem sh2{C:Ctx}{ps:List Str}{G:FuncData}(h:∀a b S,peek C.K S (bindArgs G ⟨[a,b],[]⟩)=some (ps.zip ([a,b]++[])):=by intros;kernel_rfl):je C ps G (2,[],[]):=fun vals kwv h1 h2=>by obtain⟨a,b,rfl⟩:=Mf h1;obtain rfl:=ub h2;exact⟨[],.nil,h a b⟩
theorem sh3{C:Ctx}{ps:List Str}{G:FuncData}(h:∀a b c S,peek C.K S (bindArgs G ⟨[a,b,c],[]⟩)=some (ps.zip ([a,b,c]++[])):=by intros;kernel_rfl):je C ps G (3,[],[]):=fun vals kwv h1 h2=>by obtain⟨a,b,c,rfl⟩:=Mg h1;obtain rfl:=ub h2;exact⟨[],.nil,h a b c⟩
theorem sh4{C:Ctx}{ps:List Str}{G:FuncData}(h:∀a b c d S,peek C.K S (bindArgs G ⟨[a,b,c,d],[]⟩)=some (ps.zip ([a,b,c,d]++[])):=by intros;kernel_rfl):je C ps G (4,[],[]):=fun vals kwv h1 h2=>by obtain⟨a,b,c,d,rfl⟩:=NS h1;obtain rfl:=ub h2;exact⟨[],.nil,h a b c d⟩
theorem sh5{C:Ctx}{ps:List Str}{G:FuncData}(h:∀a b c d e S,peek C.K S (bindArgs G ⟨[a,b,c,d,e],[]⟩)=some (ps.zip ([a,b,c,d,e]++[])):=by intros;kernel_rfl):je C ps G (5,[],[]):=fun vals kwv h1 h2=>by obtain⟨a,b,c,d,e,rfl⟩:=Pv h1;obtain rfl:=ub h2;exact⟨[],.nil,h a b c d e⟩
theorem pw{C:Ctx}{c:Str}{cd:cF}(a fI:Addr)(h11:∀x∈cd.attrs,findIn C.K (.ref a) x=some none)(h12:∀x∈cd.meths,∃f,findIn C.K (.ref a) x=some (some (.ref f))/\C.fnA c x=some f/\isFn C.K (.ref f)=true)
 (h1:C.clA c=some a:=by kernel_rfl) (h2:plainGet C.K a ""=true:=by kernel_rfl) (h3:hasDictIn C.K a=true:=by kernel_rfl) (h4:findIn C.K (.ref a) "__setattr__"=some (some (.builtin "object.__setattr__")):=by kernel_rfl) (h5:plainOver C.K a=true:=by kernel_rfl) (h6:makesIn C.K a=true:=by kernel_rfl) (h7:findIn C.K (.ref a) "__init__"=some (some (.ref fI)):=by kernel_rfl) (h8:C.fnA c "__init__"=some fI:=by kernel_rfl) (h9:isFn C.K (.ref fI)=true:=by kernel_rfl) (h10:keepIn C.K (.ref a)=true:=by kernel_rfl):uB C c cd :=
 .mk h1 h2 h3 h4 h5 h6 h7 h8 h9 h10 h11 h12
theorem fY{α β:Type}[BEq α][LawfulBEq α]:∀ {l:List (α×β)}{x:α}{v:β},l.lookup x=some v->(x,v)∈l
 |[],_,_,h=>by simp at h
 |(y,w)::r,x,v,h=>by
  rw[PX]at h
  by_cases q:x=y
  .subst q;rw[P2]at h;cases h;exact .head _
  .rw[PC.mpr q]at h;exact .tail _ (fY h)
theorem Mh{C:Ctx}{T:Tab}(fnl:List ((Str×Str)×Addr))(cll:List (Str×Addr))(hf:C.fnA=fun c m=>fnl.lookup (c,m))(hc:C.clA=fun c=>cll.lookup c)
 (h1:∀p∈T.fns,CH C p.1.1 p.1.2 p.2) (h2:∀p∈T.cls,uB C p.1 p.2) (h3:∀p∈T.glob,jc C p) (h4:∀p∈fnl,keepIn C.K (.ref p.2)=true) (h5:(cll.all fun p=>(T.cls.lookup p.1).isSome)=true):cp C T:=by
 refine⟨fun c m fd h=>h1 _ (fY h),fun c cd h=>h2 _ (fY h),fun x v h=>h3 _ (fY h),fun c m f h=>?_,fun c a h=>?_⟩
 .rw[hf]at h;exact h4 _ (fY h)
 . rw[hc]at h
   have:=List.all_eq_true.mp h5 _ (fY h)
   exact Option.isSome_iff_exists.mp this
theorem Hn{K:Frag}{l:List ((Str×Str)×Addr)}(h:(l.all fun p=>keepIn K (.ref p.2))=true):∀p∈l,keepIn K (.ref p.2)=true:=fun p hp=>List.all_eq_true.mp h p hp
theorem BA{scope:Scope}{binds:List (Str×V)}{x:Str}{sl:Sl}(h:(lc scope binds).lookup x=some sl):∃k,scope.names.lookup x=some k/\sl=(match k with
 |.local=>.v (binds.lookup x)
 |.cell=>.cv (binds.lookup x)
 |_=>.g):=by
 unfold lc at h
 exact iW (α:=Nat) (β:=Nat) (f:=id) (k:=.local) (g:=fun y k=>match k with
  |.local=>.v (binds.lookup y)
  |.cell=>.cv (binds.lookup y)
  |_=>.g) h
theorem Ee{C:Ctx}{O:Map}{env:Env}{h:Heap}{m:Str->Option Value}{x0:Str}{v0:V}{val0:Value}(hs:mB env.scope=true)(hc:(env.scope.names.all fun p=>p.2 != .cell)=true)(hg:env.globals=mainGlobals)(hb:env.builtins=builtinsNs)(hcl:env.cells=[])
 (hn:h.Ns env.locals m) (off:env.locals∉O.am/\(∀p∈O.Z,p.1≠env.locals)/\C.h₀.get? env.locals=none) (hm:m x0=some val0) (r:ac C O v0 val0):aK C [env.locals] O env (lc env.scope [(x0,v0)]) h:=by
 unfold mB at hs
 simp only[PJ,decide_eq_true_eq,Bool.not_eq_true']at hs
 obtain⟨⟨⟨⟨⟨k1,k2⟩,k3⟩,k4⟩,k5⟩,k6⟩:=hs
 refine⟨k1,hg,hb,by simp,fun a ha=>by rw[PH.mp ha];exact off,fun a ha=>?_,fun x y c hx=>by rw[hcl]at hx;simp at hx,fun x c hx=>by rw[hcl]at hx;simp at hx,fun x c hx=>by rw[hcl]at hx;simp at hx,m,hn,fun x sl hsl=>?_⟩
 . rw[PH.mp ha]
   refine aU (hn) ?_;rintro o _ _ e _;exact⟨o,e⟩
 . refine ae (BA hsl) ?_;rintro k hk rfl
   have hkx:env.kindOf x=some k:=hk
   have h4:=List.all_eq_true.mp k4 (x,k) (mem_of_lookup hk)
   have h5:=List.all_eq_true.mp hc (x,k) (mem_of_lookup hk)
   cases k with
   |«local» =>
    dsimp only
    by_cases q:x=x0
    . subst q
      rw[PX,P2]
      exact⟨val0,r,hkx,hm⟩
    . rw[PX,PC.mpr q]
      exact hkx
   |globalImplicit=>exact hkx
   |cell=>cases h5
   |_=>cases h4
theorem uZ{P:Params}{h:Heap}:∀ {ns:List Int}{vs:List Value},WellAll P h vs (ofPys (ns.map .int))->∀C O,ag (ac C O) (ns.map .int) vs
 |[],vs,w,C,O=>by cases w;exact .nil
 |n::ns,vs,w,C,O=>by
  cases w with
  |cons h1 h2 =>
   cases h1
   exact .cons (by simp only[ac];exact⟨_,rfl⟩) (uZ h2 C O)
def a_C(w:World)(h0:Heap)(mg mb:Str->Option Value)(Zs:List (Addr×Obj)):Ctx:=⟨PySem.Challenge.rw_nt0061_01.row.prog,w,az w.params,h0,mg,mb,fun c=>FH.lookup c,fun c m=>B8.lookup (c,m),zOf (az w.params)++Zs⟩
structure CX where
 w:World
 h:Heap
 g:Str->Option Value
 b:Str->Option Value
 Z:List (Addr×Obj)
abbrev aX(x:CX):Ctx:=a_C x.w x.h x.g x.b x.Z
theorem hzs{x:CX}:∀p∈zOf (aX x).K,p∈(aX x).Z₀:=fun p hp=>List.mem_append_left _ hp
noncomputable abbrev FO(x:CX)(c m:Str)(f:Params->aA):Prop:=CH (aX x) c m (f x.w.params)
noncomputable abbrev GO(x:CX)(n:Str)(v:V):Prop:=jc (aX x) (enG n v)
noncomputable abbrev CO(x:CX)(n:Str)(v:cF):Prop:=uB (aX x) n v
section
variable(x:CX)
theorem jC:FO x "" "place_by_half" dD:=aJ 61 (aa sh2 ay)
theorem jE:FO x "LineHow" "__init__" dE:=aJ 119 (aa (fun vals kwv h1 h2=>by obtain⟨a,rfl⟩:=zr h1;obtain rfl:=ub h2;exact⟨[uY (aX x).K 119 0,uY (aX x).K 119 1,uY (aX x).K 119 2],.cons (iJ hzs) (.cons (iJ hzs) (.cons (iJ hzs) .nil)),fun S=>by kernel_rfl⟩) (aa (fun vals kwv h1 h2=>by obtain⟨a,rfl⟩:=zr h1;obtain⟨u,rfl⟩:=zr h2;exact⟨[u,uY (aX x).K 119 1,uY (aX x).K 119 2],.cons rfl (.cons (iJ hzs) (.cons (iJ hzs) .nil)),fun S=>by kernel_rfl⟩) (aa (fun vals kwv h1 h2=>by obtain⟨a,rfl⟩:=zr h1;obtain⟨u,v,x,rfl⟩:=Mg h2;exact⟨[u,v,x],.cons rfl (.cons rfl (.cons rfl .nil)),fun S=>by kernel_rfl⟩) ay)))
theorem kU:FO x "" "line_hangul" bV:=aJ 133 (aa sh1 ay)
theorem lW:FO x "" "line_class" gt:=aJ 140 (aa sh3 ay)
theorem jf:FO x "LineUnit" "__init__" eM:=aJ 154 (aa sh4 ay)
theorem lX:FO x "" "line_units" ff:=aJ 168 (aa sh3 ay)
theorem jg:FO x "LineView" "__init__" dj:=aJ 182 (aa sh4 ay)
theorem jF:FO x "LineView" "word" cK:=aJ 189 (aa sh2 ay)
theorem gD:FO x "LineView" "solid_word" df:=aJ 196 (aa sh2 ay)
theorem g7:FO x "LineView" "is_quote" cA:=aJ 203 (aa sh3 ay)
theorem gW:FO x "LineView" "is_narrow" dp:=aJ 210 (aa sh2 ay)
theorem jh:FO x "" "line_rule_hard" eO:=aJ 224 (aa sh2 ay)
theorem iy:FO x "" "line_rule_spaces" dZ:=aJ 231 (aa sh2 ay)
theorem ji:FO x "" "line_rule_glue" eP:=aJ 238 (aa sh2 ay)
theorem g8:FO x "" "line_rule_closing" dF:=aJ 245 (aa sh2 ay)
theorem iz:FO x "" "line_rule_quotes" d3:=aJ 252 (aa sh2 ay)
theorem gp:FO x "" "line_rule_over_spaces" cL:=aJ 259 (aa sh2 ay)
theorem iK:FO x "" "line_rule_signs" ee:=aJ 266 (aa sh2 ay)
theorem g9:FO x "" "line_rule_letters" dG:=aJ 273 (aa sh2 ay)
theorem jl:FO x "" "line_is_number" dn:=aJ 280 (aa sh2 ay)
theorem gx:FO x "" "line_rule_expression" cX:=aJ 287 (aa sh2 ay)
theorem hH:FO x "" "line_rule_numbers" dH:=aJ 294 (aa sh2 ay)
theorem gE:FO x "" "line_rule_syllables" dg:=aJ 301 (aa sh2 ay)
theorem jm:FO x "" "line_is_aksara" cq:=aJ 308 (aa sh3 ay)
theorem hM:FO x "" "line_rule_aksaras" dI:=aJ 315 (aa sh2 ay)
theorem gX:FO x "" "line_rule_brackets" dq:=aJ 322 (aa sh2 ay)
theorem gY:FO x "" "line_rule_pictures" dw:=aJ 329 (aa sh2 ay)
theorem ky:FO x "" "line_verdict" fE:=aJ 336 (aa sh2 ay)
theorem jG:FO x "" "line_verdicts" dJ:=aJ 343 (aa sh3 ay)
theorem iA:FO x "LineBreaks" "__init__" cR:=aJ 358 (aa sh3 (aa (fun vals kwv h1 h2=>by obtain⟨a,b,rfl⟩:=Mf h1;obtain rfl:=ub h2;exact⟨[uY (aX x).K 358 0],.cons (iJ hzs) .nil,fun S=>by kernel_rfl⟩) ay))
theorem fO:FO x "LineBreaks" "opportunities" aF:=aJ 363 (aa sh2 (aa (fun vals kwv h1 h2=>by obtain⟨a,rfl⟩:=zr h1;obtain⟨u,rfl⟩:=zr h2;exact⟨[u],.cons rfl .nil,fun S=>by kernel_rfl⟩) ay))
theorem gZ:FO x "LineBreaks" "reasons" fu:=aJ 370 (aa sh2 ay)
theorem g0:FO x "LineBreaks" "measure" fw:=aJ 377 (aa sh3 ay)
theorem gy:FO x "LineBreaks" "fit_lines" eJ:=aJ 386 (aa sh5 ay)
theorem gq:FO x "LineBreaks" "even_lines" ef:=aJ 393 (aa sh4 ay)
theorem jo:FO x "" "range_are_like" bP:=aJ 407 (aa sh2 ay)
theorem jp:FO x "RangeMap" "__init__" eQ:=aJ 421 (aa sh2 ay)
theorem kz:FO x "RangeMap" "get" fF:=aJ 428 (aa sh2 ay)
theorem kA:FO x "RangeMap" "put" ci:=aJ 435 (aa sh4 ay)
theorem iL:FO x "RangeMap" "ranges" gi:=aJ 442 (aa sh1 ay)
theorem iM:FO x "RangeMap" "set_of" gl:=aJ 449 (aa sh2 ay)
theorem jH:FO x "" "data_defaults" dK:=aJ 463 (aa sh0 ay)
theorem lY:FO x "Data" "__init__" gu:=aJ 477 (aa sh1 ay)
theorem py:FO x "Data" "put" ij:=aJ 484 (aa sh5 ay)
theorem pz:FO x "Data" "get" ga:=aJ 491 (aa sh3 ay)
theorem kW:FO x "Data" "map_of" eF:=aJ 498 (aa sh2 ay)
theorem pA:FO x "" "_law_deck" aY:=aJ 510 (aa sh1 ay)
theorem pB:FO x "" "_law_draw" e8:=aJ 517 (aa sh2 ay)
theorem pC:FO x "" "_law_pick" ik:=aJ 524 (aa sh2 ay)
theorem nw:FO x "" "_law_sorts" eg:=aJ 529 (aa sh0 ay)
theorem ny:FO x "" "_law_class" gO:=aJ 536 (aa sh2 ay)
theorem nz:FO x "" "_law_units" fG:=aJ 543 (aa sh2 ay)
theorem jI:FO x "" "_law_is_figure" cM:=aJ 550 (aa sh2 ay)
theorem jJ:FO x "" "_law_is_aksara" ft:=aJ 557 (aa sh1 ay)
theorem kX:FO x "" "_law_figures" fV:=aJ 564 (aa sh3 ay)
theorem nA:FO x "" "_law_ahead" ei:=aJ 571 (aa sh4 ay)
theorem lZ:FO x "" "_law_joined" fh:=aJ 578 (aa sh4 ay)
theorem ma:FO x "" "_law_places" cZ:=aJ 583 (aa sh2 ay)
theorem nB:FO x "" "_law_drawn" em:=aJ 588 (aa sh2 ay)
theorem pD:FO x "" "_law_data" gb:=aJ 595 (aa sh1 ay)
theorem zt:FO x "" "law" cw:=aJ 602 (aa sh1 ay)
theorem Ho:∀p∈FE x.w.params,CH (aX x) p.1.1 p.1.2 p.2:=by
 unfold FE
 exact aa (jC x) <| aa (jE x) <| aa (kU x) <| aa (lW x) <| aa (jf x) <| aa (lX x) <| aa (jg x) <| aa (jF x) <| aa (gD x) <| aa (g7 x) <| aa (gW x) <| aa (jh x) <| aa (iy x) <| aa (ji x) <| aa (g8 x) <| aa (iz x) <| aa (gp x) <| aa (iK x) <| aa (g9 x) <| aa (jl x) <| aa (gx x) <| aa (hH x) <| aa (gE x) <| aa (jm x) <| aa (hM x) <| aa (gX x) <| aa (gY x) <| aa (ky x) <| aa (jG x) <| aa (iA x) <| aa (fO x) <| aa (gZ x) <| aa (g0 x) <| aa (gy x) <| aa (gq x) <| aa (jo x) <| aa (jp x) <| aa (kz x) <| aa (kA x) <| aa (iL x) <| aa (iM x) <| aa (jH x) <| aa (lY x) <| aa (py x) <| aa (pz x) <| aa (kW x) <| aa (pA x) <| aa (pB x) <| aa (pC x) <| aa (nw x) <| aa (ny x) <| aa (nz x) <| aa (jI x) <| aa (jJ x) <| aa (kX x) <| aa (nA x) <| aa (lZ x) <| aa (ma x) <| aa (nB x) <| aa (pD x) <| aa (zt x) <| ay
theorem uc:CO x "LineHow" ⟨["strictness","keep_all","numbers"],[]⟩:=pw 122 119 (aa (by kernel_rfl) <| aa (by kernel_rfl) <| aa (by kernel_rfl) <| ay) ay
theorem sS:CO x "LineUnit" ⟨["word","code","at","is_joined"],[]⟩:=pw 157 154 (aa (by kernel_rfl) <| aa (by kernel_rfl) <| aa (by kernel_rfl) <| aa (by kernel_rfl) <| ay) ay
theorem sU:CO x "LineView" ⟨["data","how","units","solid","regional","numeric"],["word","solid_word","is_quote","is_narrow"]⟩:=pw 213 182 (aa (by kernel_rfl) <| aa (by kernel_rfl) <| aa (by kernel_rfl) <| aa (by kernel_rfl) <| aa (by kernel_rfl) <| aa (by kernel_rfl) <| ay) (aa ⟨189,by kernel_rfl,by kernel_rfl,by kernel_rfl⟩ <| aa ⟨196,by kernel_rfl,by kernel_rfl,by kernel_rfl⟩ <| aa ⟨203,by kernel_rfl,by kernel_rfl,by kernel_rfl⟩ <| aa ⟨210,by kernel_rfl,by kernel_rfl,by kernel_rfl⟩ <| ay)
theorem pE:CO x "LineBreaks" ⟨["data","how"],["opportunities","reasons","measure","fit_lines","even_lines"]⟩:=pw 396 358 (aa (by kernel_rfl) <| aa (by kernel_rfl) <| ay) (aa ⟨363,by kernel_rfl,by kernel_rfl,by kernel_rfl⟩ <| aa ⟨370,by kernel_rfl,by kernel_rfl,by kernel_rfl⟩ <| aa ⟨377,by kernel_rfl,by kernel_rfl,by kernel_rfl⟩ <| aa ⟨386,by kernel_rfl,by kernel_rfl,by kernel_rfl⟩ <| aa ⟨393,by kernel_rfl,by kernel_rfl,by kernel_rfl⟩ <| ay)
theorem sV:CO x "RangeMap" ⟨["default","starts","values"],["get","put","ranges","set_of"]⟩:=pw 452 421 (aa (by kernel_rfl) <| aa (by kernel_rfl) <| aa (by kernel_rfl) <| ay) (aa ⟨428,by kernel_rfl,by kernel_rfl,by kernel_rfl⟩ <| aa ⟨435,by kernel_rfl,by kernel_rfl,by kernel_rfl⟩ <| aa ⟨442,by kernel_rfl,by kernel_rfl,by kernel_rfl⟩ <| aa ⟨449,by kernel_rfl,by kernel_rfl,by kernel_rfl⟩ <| ay)
theorem BB:CO x "Data" ⟨["defaults","maps","properties","words"],["put","get","map_of"]⟩:=pw 501 477 (aa (by kernel_rfl) <| aa (by kernel_rfl) <| aa (by kernel_rfl) <| aa (by kernel_rfl) <| ay) (aa ⟨484,by kernel_rfl,by kernel_rfl,by kernel_rfl⟩ <| aa ⟨491,by kernel_rfl,by kernel_rfl,by kernel_rfl⟩ <| aa ⟨498,by kernel_rfl,by kernel_rfl,by kernel_rfl⟩ <| ay)
theorem Hq:∀p∈FF,uB (aX x) p.1 p.2:=by
 unfold FF
 exact aa (uc x) <| aa (sS x) <| aa (sU x) <| aa (pE x) <| aa (sV x) <| aa (BB x) <| ay
theorem xp:GO x "MAX_CODE" (vAt (az x.w.params) "MAX_CODE"):=cY hzs (Value.int 1114111 196)
theorem nC:GO x "place_by_half" (.fn "" "place_by_half"):=bO (a:=61)
theorem ud:GO x "LINE_HARD" (vAt (az x.w.params) "LINE_HARD"):=cY hzs (Value.ref 62)
theorem uf:GO x "LINE_BARE" (vAt (az x.w.params) "LINE_BARE"):=cY hzs (Value.ref 63)
theorem sW:GO x "LINE_MARKS" (vAt (az x.w.params) "LINE_MARKS"):=cY hzs (Value.ref 64)
theorem sX:GO x "LINE_PLAIN" (vAt (az x.w.params) "LINE_PLAIN"):=cY hzs (Value.ref 65)
theorem pF:GO x "LINE_CLOSING" (vAt (az x.w.params) "LINE_CLOSING"):=cY hzs (Value.ref 66)
theorem hO:GO x "LINE_AHEAD_OF_OPENING" (vAt (az x.w.params) "LINE_AHEAD_OF_OPENING"):=cY hzs (Value.ref 67)
theorem iN:GO x "LINE_BEHIND_CLOSING" (vAt (az x.w.params) "LINE_BEHIND_CLOSING"):=cY hzs (Value.ref 68)
theorem kY:GO x "LINE_ALPHABETIC" (vAt (az x.w.params) "LINE_ALPHABETIC"):=cY hzs (Value.ref 69)
theorem kB:GO x "LINE_IDEOGRAPHIC" (vAt (az x.w.params) "LINE_IDEOGRAPHIC"):=cY hzs (Value.ref 70)
theorem pG:GO x "LINE_AFFIXES" (vAt (az x.w.params) "LINE_AFFIXES"):=cY hzs (Value.ref 71)
theorem nD:GO x "LINE_SYLLABIC" (vAt (az x.w.params) "LINE_SYLLABIC"):=cY hzs (Value.ref 72)
theorem sY:GO x "LINE_INNER" (vAt (az x.w.params) "LINE_INNER"):=cY hzs (Value.ref 73)
theorem ug:GO x "LINE_WIDE" (vAt (az x.w.params) "LINE_WIDE"):=cY hzs (Value.ref 74)
theorem uh:GO x "LINE_KEPT" (vAt (az x.w.params) "LINE_KEPT"):=cY hzs (Value.ref 75)
theorem pH:GO x "LINE_NUMBERS" (vAt (az x.w.params) "LINE_NUMBERS"):=cY hzs (Value.ref 90)
theorem ui:GO x "LINE_JAMO" (vAt (az x.w.params) "LINE_JAMO"):=(NQ (fun p hp=>List.mem_append_left _ hp) 91 (by kernel_rfl) (by kernel_rfl) (by kernel_rfl) (by kernel_rfl) (by kernel_rfl))
theorem mc:GO x "LINE_ITERATION" (vAt (az x.w.params) "LINE_ITERATION"):=cY hzs (Value.ref 97)
theorem kD:GO x "LINE_JAMO_RANGES" (vAt (az x.w.params) "LINE_JAMO_RANGES"):=cY hzs (Value.ref 104)
theorem iO:GO x "LINE_FIRST_SYLLABLE" (vAt (az x.w.params) "LINE_FIRST_SYLLABLE"):=cY hzs (Value.int 44032 416)
theorem jq:GO x "LINE_LAST_SYLLABLE" (vAt (az x.w.params) "LINE_LAST_SYLLABLE"):=cY hzs (Value.int 55203 418)
theorem sZ:GO x "LINE_TAILS" (vAt (az x.w.params) "LINE_TAILS"):=cY hzs (Value.int 28 420)
theorem nE:GO x "DOTTED_CIRCLE" (vAt (az x.w.params) "DOTTED_CIRCLE"):=cY hzs (Value.int 9676 422)
theorem zu:GO x "LineHow" (.cls "LineHow"):=pq (a:=122)
theorem qC:GO x "line_hangul" (.fn "" "line_hangul"):=bO (a:=133)
theorem tb:GO x "line_class" (.fn "" "line_class"):=bO (a:=140)
theorem xq:GO x "LineUnit" (.cls "LineUnit"):=pq (a:=157)
theorem tc:GO x "line_units" (.fn "" "line_units"):=bO (a:=168)
theorem xr:GO x "LineView" (.cls "LineView"):=pq (a:=213)
theorem md:GO x "line_rule_hard" (.fn "" "line_rule_hard"):=bO (a:=224)
theorem kE:GO x "line_rule_spaces" (.fn "" "line_rule_spaces"):=bO (a:=231)
theorem me:GO x "line_rule_glue" (.fn "" "line_rule_glue"):=bO (a:=238)
theorem jK:GO x "line_rule_closing" (.fn "" "line_rule_closing"):=bO (a:=245)
theorem kF:GO x "line_rule_quotes" (.fn "" "line_rule_quotes"):=bO (a:=252)
theorem hQ:GO x "line_rule_over_spaces" (.fn "" "line_rule_over_spaces"):=bO (a:=259)
theorem kZ:GO x "line_rule_signs" (.fn "" "line_rule_signs"):=bO (a:=266)
theorem jL:GO x "line_rule_letters" (.fn "" "line_rule_letters"):=bO (a:=273)
theorem mf:GO x "line_is_number" (.fn "" "line_is_number"):=bO (a:=280)
theorem iB:GO x "line_rule_expression" (.fn "" "line_rule_expression"):=bO (a:=287)
theorem jM:GO x "line_rule_numbers" (.fn "" "line_rule_numbers"):=bO (a:=294)
theorem iP:GO x "line_rule_syllables" (.fn "" "line_rule_syllables"):=bO (a:=301)
theorem mh:GO x "line_is_aksara" (.fn "" "line_is_aksara"):=bO (a:=308)
theorem jN:GO x "line_rule_aksaras" (.fn "" "line_rule_aksaras"):=bO (a:=315)
theorem jr:GO x "line_rule_brackets" (.fn "" "line_rule_brackets"):=bO (a:=322)
theorem js:GO x "line_rule_pictures" (.fn "" "line_rule_pictures"):=bO (a:=329)
theorem pI:GO x "line_verdict" (.fn "" "line_verdict"):=bO (a:=336)
theorem nG:GO x "line_verdicts" (.fn "" "line_verdicts"):=bO (a:=343)
theorem td:GO x "LineBreaks" (.cls "LineBreaks"):=pq (a:=396)
theorem mi:GO x "range_are_like" (.fn "" "range_are_like"):=bO (a:=407)
theorem xu:GO x "RangeMap" (.cls "RangeMap"):=pq (a:=452)
theorem nH:GO x "data_defaults" (.fn "" "data_defaults"):=bO (a:=463)
theorem Hr:GO x "Data" (.cls "Data"):=pq (a:=501)
theorem xw:GO x "_law_deck" (.fn "" "_law_deck"):=bO (a:=510)
theorem xx:GO x "_law_draw" (.fn "" "_law_draw"):=bO (a:=517)
theorem xy:GO x "_law_pick" (.fn "" "_law_pick"):=bO (a:=524)
theorem uj:GO x "_law_sorts" (.fn "" "_law_sorts"):=bO (a:=529)
theorem uk:GO x "_law_class" (.fn "" "_law_class"):=bO (a:=536)
theorem ul:GO x "_law_units" (.fn "" "_law_units"):=bO (a:=543)
theorem nK:GO x "_law_is_figure" (.fn "" "_law_is_figure"):=bO (a:=550)
theorem nL:GO x "_law_is_aksara" (.fn "" "_law_is_aksara"):=bO (a:=557)
theorem qD:GO x "_law_figures" (.fn "" "_law_figures"):=bO (a:=564)
theorem um:GO x "_law_ahead" (.fn "" "_law_ahead"):=bO (a:=571)
theorem te:GO x "_law_joined" (.fn "" "_law_joined"):=bO (a:=578)
theorem ti:GO x "_law_places" (.fn "" "_law_places"):=bO (a:=583)
theorem uo:GO x "_law_drawn" (.fn "" "_law_drawn"):=bO (a:=588)
theorem xz:GO x "_law_data" (.fn "" "_law_data"):=bO (a:=595)
theorem JV:GO x "law" (.fn "" "law"):=bO (a:=602)
theorem JW:GO x "len" (.bi "len"):=Kw
theorem tj:GO x "isinstance" (.bi "isinstance"):=Kw
theorem JX:GO x "int" (.ty "int"):=uX
theorem Hs:GO x "list" (.ty "list"):=uX
theorem Ef:GO x "tuple" (.ty "tuple"):=uX
theorem Eg:GO x "range" (.ty "range"):=uX
theorem Ht:GO x "bool" (.ty "bool"):=uX
theorem uq:GO x "enumerate" (.ty "enumerate"):=uX
theorem Eh:∀p∈AY x.w.params,jc (aX x) p:=by
 unfold AY
 exact aa (xp x) <| aa (nC x) <| aa (ud x) <| aa (uf x) <| aa (sW x) <| aa (sX x) <| aa (pF x) <| aa (hO x) <| aa (iN x) <| aa (kY x) <| aa (kB x) <| aa (pG x) <| aa (nD x) <| aa (sY x) <| aa (ug x) <| aa (uh x) <| aa (pH x) <| aa (ui x) <| aa (mc x) <| aa (kD x) <| aa (iO x) <| aa (jq x) <| aa (sZ x) <| aa (nE x) <| aa (zu x) <| aa (qC x) <| aa (tb x) <| aa (xq x) <| aa (tc x) <| aa (xr x) <| aa (md x) <| aa (kE x) <| aa (me x) <| aa (jK x) <| aa (kF x) <| aa (hQ x) <| aa (kZ x) <| aa (jL x) <| aa (mf x) <| aa (iB x) <| aa (jM x) <| aa (iP x) <| aa (mh x) <| aa (jN x) <| aa (jr x) <| aa (js x) <| aa (pI x) <| aa (nG x) <| aa (td x) <| aa (mi x) <| aa (xu x) <| aa (nH x) <| aa (Hr x) <| aa (xw x) <| aa (xx x) <| aa (xy x) <| aa (uj x) <| aa (uk x) <| aa (ul x) <| aa (nK x) <| aa (nL x) <| aa (qD x) <| aa (um x) <| aa (te x) <| aa (ti x) <| aa (uo x) <| aa (xz x) <| aa (JV x) <| aa (JW x) <| aa (tj x) <| aa (JX x) <| aa (Hs x) <| aa (Ef x) <| aa (Eg x) <| aa (Ht x) <| aa (uq x) <| ay
theorem NT:cp (aX x) (a_T x.w.params):=Mh B8 FH rfl rfl (Ho x) (Hq x) (Eh x) (Hn (by kernel_rfl)) (by kernel_rfl)
end
theorem Mi(w:World)(h0:Heap)(mg mb:Str->Option Value)(Zs:List (Addr×Obj)):cp (a_C w h0 mg mb Zs) (a_T w.params):=NT ⟨w,h0,mg,mb,Zs⟩
theorem Mj(hlaw:∀P (ns:List Int),ns.length<=63->∃J',cP P 41 "" "law" [.lst (ns.map .int)] [] [] (.bool true) J')
 {w:World}{s₁:Shared}{h₁:Heap}{l:Addr}{ns:List Int}{mg mb:Str->Option Value}{p:Program}{loose:List Str}{mean:ExcName->Option Value}{m:Str->Option Value}{env:Env}{body:List Stmt}{t:Nat}{cl:Str->Option Addr}{mean':ExcName->Option Value}{args:List WData}{E:Value->Shared->Prop}
 (KX:(az w.params).In s₁.heap) (T0:Top p loose mean mg mb s₁.heap) (hw:Well w.params s₁.heap (.ref l) (ofPy (.list (ns.map .int)))) (hn:¬(63:Int)<ns.length) (hg:s₁.gens = #[])
 (F:Fr s₁.heap s₁.heap.objs.size h₁ m) (hm:m "script"=some (.ref l))
 (e1:env.locals=s₁.heap.objs.size) (e2:env.globals=mainGlobals) (e3:env.builtins=builtinsNs) (e4:env.cells=[]) (e5:env.scope=(cw w.params).scope) (e6:body=(cw w.params).body)
 (hc1:∀cls,PySem.Challenge.rw_nt0061_01.row.claim.raises args cls=false) (hc2:PySem.Challenge.rw_nt0061_01.row.claim.post args (.bool true) args=true) :
 wpAny (model PySem.Challenge.rw_nt0061_01.row.prog w) (callerA.deeper env) (execs body env) (fun f s'=>GoodW PySem.Challenge.rw_nt0061_01.row.claim cl mean' args s₁ (.ok (.ret (match f with | .ret v=>v | _=>.none))) s') E { s₁ with heap:=h₁,toks:=t}:=by
 have hw':Well w.params s₁.heap (.ref l) (.list (ofPys (ns.map .int))):=hw
 cases hw' with
 |@list _ vs _ hl hall =>
 have TO:=Mi w s₁.heap mg mb [(l,listOf vs.toArray 0)]
 generalize hC:a_C w s₁.heap mg mb [(l,listOf vs.toArray 0)]=C at TO
 have K:aT C:=by subst hC;exact⟨T0.g,T0.b,T0.nolimit,T0.builtins,KX⟩
 have hh0:C.h₀=s₁.heap:=by subst hC;rfl
 have hZ:∀q∈C.Z₀,s₁.heap.get? q.1=some q.2:=by
  subst hC
  intro q hq
  rcases PY.mp hq with hq | hq
  .exact KX _ _ (Hi hq)
  .rw[PH.mp hq];exact hl
 have hLl:s₁.heap.get? s₁.heap.objs.size=none:=gg _
 have I:ap C ⟨[],C.Z₀⟩ [] h₁:=⟨fun b o e=>F.keep b o (hh0▸e),rfl,fun a h=>(nomatch h),.nil,fun a h=>(nomatch h),fun q h=>h,fun q h=>F.keep _ _ (hZ q h),fun q _ h=>(nomatch h),fun n c a e=>by simp at e⟩
 obtain⟨J',hcall⟩:=hlaw w.params ns (by omega)
 refine qU (hcall) ?_;rintro fd binds an s2 q1 q2 q3 _
 have f1:(a_T w.params).fns.lookup (("":Str),("law":Str))=some (cw w.params):=by kernel_rfl
 rw[f1]at q1
 cases q1
 have f2:pN (cw w.params) [.lst (ns.map .int)] []=some [(("script":Str),V.lst (ns.map V.int))]:=by kernel_rfl
 rw[f2]at q2
 cases q2
 have rl:ac C ⟨[],C.Z₀⟩ (.lst (ns.map .int)) (.ref l):=by
  simp only[ac]
  refine⟨l,vs.toArray,0,rfl,?_,aL.mpr (by simpa using uZ hall C ⟨[],C.Z₀⟩)⟩
  subst hC
  exact List.mem_append_right _ (by simp)
 have W:aK C [env.locals] ⟨[],C.Z₀⟩ env (lc env.scope [(("script":Str),V.lst (ns.map V.int))]) h₁:=by
  refine Ee ?_ ?_ e2 e3 e4 (by rw[e1];exact F.ns) ⟨fun h=>(nomatch h),fun q hq e=>?_,by rw[hh0,e1];exact hLl⟩ hm rl
  .rw[e5];kernel_rfl
  .rw[e5];kernel_rfl
  . have:=hZ q hq
    rw[e,e1,hLl]at this;cases this
 rw[e5]at W
 subst e6
 have R1:c9 (callerA.deeper env) 40:=⟨rfl,by show 1+300+1+8*40+12<=1000;omega,by show 4+3+64*40+288<=9900;omega⟩
 have hp:C.prog=PySem.Challenge.rw_nt0061_01.row.prog/\C.w=w:=by subst hC;exact⟨rfl,rfl⟩
 have S:=(As (mt:=AZ) K TO 40 (cw w.params).body).run (A:=callerA.deeper env) (E:=E) (Q:=fun f s'=>GoodW PySem.Challenge.rw_nt0061_01.row.claim cl mean' args s₁ (.ok (.ret (match f with | .ret v=>v | _=>.none))) s') (s:={ s₁ with heap:=h₁,toks:=t}) q3 R1 I W ?_
 . have e:M C=model PySem.Challenge.rw_nt0061_01.row.prog w:=by show model C.prog C.w=_;rw[hp.1,hp.2]
   rw[e]at S
   exact S
 . intro fl l J1 a1 hend O' s' f RX I' W' hf
   cases fl with
   |ret x =>
   obtain⟨rfl,rfl⟩:=hend
   refine ae (hf) ?_;rintro val rfl hv
   simp only[ac]at hv
   subst hv
   refine ae (W'.ns) ?_;rintro m' hn' _
   refine gK (RX.same) ?_;rintro h2 tk rfl
   have F':Fr s₁.heap env.locals h2 m':=⟨hn',fun b o e=>I'.base b o (by rw[hh0];exact e),by rw[e1];exact F.above⟩
   exact goodW_bool (s':={ s₁ with heap:=h2,toks:=tk}) F' hg hc1 hc2
   |next=>exact V.noConfusion hend.1
   |_=>exact False.elim hend
theorem JY(hlaw:∀P (ns:List Int),ns.length<=63->∃J',cP P 41 "" "law" [.lst (ns.map .int)] [] [] (.bool true) J'):PySem.Challenge.rw_nt0061_01.Holds:=hd (by
 k_fill
 intro w s₀ s₁ mg mb G Y fa o pm cd doc dV kV ho hfd hcd hD hmg hg args vals as hpre hlay hrd hwl hlo
 have KX:=kIn_of Y
 have X:=(Ground.X G).1
 have V:=(Ground.X G).2
 refine Ground.open G ?_
 intro T B D TE TW
 try (refine guard_noD D (by decide +kernel) ?_;clear D)
 have TA:=at_of_top T
 try (obtain⟨_,_,he,B0⟩:=based_of_top T rfl hmg ho hfd;have he':cd=_:=he;subst he';clear he)
 clear hmg
 wrow_args hpre hlay hrd hwl hlo
 refine enter_call ?_
 w_top on
 refine codeAny_mono ?_ (fun _ _ g=>GoodW.toG g)
 have K0:=below_caller (Top.heap T)
 w_call any ho hfd hcd hD T F
 clear hfd TA
 k_drop
 exact Mj hlaw (by assumption) (by assumption) (by assumption) (by assumption) (by assumption) (by assumption) rfl rfl rfl rfl rfl (by kernel_rfl) (by kernel_rfl) (raisesW_false (by wrow_none_raised)) (by first | kc_post | wrow_post))
theorem claim_nt0061_01:PySem.Challenge.rw_nt0061_01.Holds:=JY JS
end
end Mine.Internal
theorem PySem.Challenge.cw_nt0061_01_holds : PySem.Challenge.rw_nt0061_01.Holds :=
 Mine.Internal.claim_nt0061_01
