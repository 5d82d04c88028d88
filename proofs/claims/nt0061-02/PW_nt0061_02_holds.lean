import PyProof.Rows.All
import Wide.FinOn
import OpenK.AllK
import Wide.All
import Lean
import PySem.Challenge.RW_nt0061_02
open PyProof.Rows PySem PySem.Calls PySem.SeqAt PySem.Spec PySem.W
set_option maxHeartbeats 8000000
namespace Mine.Internal
local macro_rules |`(tactic|rfl')=>`(tactic|kernel_rfl)
set_option linter.defProp false
def Tk:=@Nat.le_trans
def Tl:=@List.append_assoc
def Tm:=@List.length_append
def Tn:=@List.length_map
def To:=@decide_eq_true
def Tp:=@Option.some.inj
def Tq:=@List.getElem?_eq_getElem
def Tr:=@List.getElem?_eq_some_iff
def Ts:=@Nat.lt_of_le_of_lt
def Tt:=@wpAny_bind
def Tu:=@Exists.elim
def Tv:=@beq_eq_false_iff_ne
def Tw:=@List.mem_singleton
def Tx:=@congrArg
def Ty:=@List.getElem?_map
def Tz:=@decide_eq_false
def TB:=@Nat.le_refl
def TC:=@Bool.and_eq_true
def TD:=@Option.bind_eq_some_iff
def TF:=@Nat.le_of_eq
def TG:=@Nat.lt_of_lt_of_le
def TH:=@of_decide_eq_true
def TI:=@List.map_append
def TJ:=@List.mem_append
def TK:=@Int.lt_of_lt_of_le
def TL:=@List.getElem?_append_left
def TM:=@Int.natCast_nonneg
def TN:=@wpAny_pure
def TQ:=@beq_self_eq_true
def TR:=@List.lookup_cons
def TS:=@List.mem_cons
def TT:=@Bool.false_ne_true
def TU:=@Option.map_eq_some_iff
def TV:=@Nat.lt_of_succ_lt
def TX:=@Nat.le_of_lt
def TY:=@List.length_take
def TZ:=@List.mem_of_getElem?
def Ua:=@List.append_nil
def Ub:=@beq_iff_eq
def Uc:=@List.getElem?_append_right
def Ud:=@Nat.le_antisymm
def Ue:=@Option.bind_some
def Uf:=@Heap.get?_push_of_some
def Ug:=@List.length_cons
def Uh:=@Nat.le_add_right
def Ui:=@List.concat_eq_append
def Uj:=@List.map_cons
def Uk:=@Int.le_of_eq
def Ul:=@Eq.symm
def Um:=@decide_eq_true_eq
def Un:=@List.take_add_one
def Uo:=@List.getD_eq_getElem?_getD
def Up:=@List.not_mem_nil
def Uq:=@Nat.min_le_right
def Ur:=@List.take_length
def Us:=@Fast.te14364793385576792824
def Ut:=@List.length_set
def Uu:=@List.mem_append_left
def Uv:=@List.length_eq_zero_iff
def Uw:=@List.mem_map
def Ux:=@Nat.ne_of_lt
def Uy:=@wpAny_holding
def Uz:=@List.set_append_right
def UA:=@cond_false
def UB:=@Nat.sub_self
def UD:=@Nat.add_le_add_right
def UE:=@List.mem_filter
def UF:=@Int.ofNat_lt
def UG:=@List.mem_cons_self
def UH:=@List.eq_nil_or_concat
def UI:=@List.all_eq_true
def UM:=@Eq.trans
def UN:=@Nat.lt_irrefl
def UO:=@Nat.lt_succ_self
def UP:=@Bool.or_false
def UQ:=@Heap.get?_push_size
def UR:=@Nat.add_lt_add_left
def US:=@Array.getElem?_toList
def UT:=@List.mem_append_right
def UU:=@Nat.le_of_succ_le
def UV:=@Heap.lt_size
def UX:=@Fast.te10110043849684766642
def UY:=@Nat.add_sub_cancel_left
def UZ:=@List.filter_cons
def U0:=@List.replicate_succ
def U3:=@Bool.true_and
def U4:=@decide_eq_true_iff
def U5:=@List.filter_append
def U6:=@List.getLast?_concat
def U7:=@List.getElem?_of_mem
def U8:=@sizeLine_eq
def U9:=@Int.not_lt_of_ge
def Va:=@List.mem_cons_of_mem
def Vb:=@Nat.ne_of_gt
def Vc:=@Int.toNat_natCast
def Vd:=@Nat.not_lt
def Ve:=@cond_true
def Vf:=@wpAny_standAt
def Vg:=@Bool.or_assoc
def Vh:=@Bool.false_and
def Vi:=@List.mem_range'_1
def Vj:=@Nat.not_lt_zero
def Vk:=@Int.toNat_of_nonneg
def Vl:=@List.eraseDups_cons
def Vm:=@Nat.le_succ
def Vn:=@List.getElem_mem
def Vo:=@Int.lt_of_le_of_lt
def Vp:=@List.singleton_append
def Vq:=@List.length_replicate
def Vr:=@List.mem_or_eq_of_mem_set
def Vs:=@List.drop_eq_getElem_cons
def Vt:=@Bool.eq_iff_iff
def Vu:=@List.find?_cons
def Vv:=@Bool.and_eq_true_iff
def Vw:=@List.dropLast_concat
def Vx:=@Option.isSome_iff_exists
def Vy:=@List.replicate_append_replicate
def Vz:=@Nat.le_of_not_lt
def VA:=@Bool.and_false
def VB:=@List.lookup_eq_none_iff
def VC:=@Nat.zero_le
def VE:=@Int.ofNat_le
def VG:=@Nat.sub_add_cancel
def VH:=@Nat.lt_trans
def VJ:=@looks_pair
def VK:=@List.filter_eq_nil_iff
def VL:=@Nat.lt_of_succ_lt_succ
def VM:=@List.pairwise_cons
def VN:=@Int.le_antisymm
def VO:=@List.nodup_cons
def VP:=@Bool.false_or
def VQ:=@List.take_append_drop
def VR:=@strKind_is
def VS:=@Int.not_lt
def VT:=@Bool.or_eq_false_iff
def VU:=@List.mem_iff_getElem
def VV:=@List.pairwise_append
def VX:=@List.getLast?_append
def VY:=@Int.zero_add
def VZ:=@Nat.zero_add
def V0:=@List.cons_append
def V2:=@Nat.succ_le_succ
def V3:=@Array.length_toList
def V4:=@List.getElem?_range
def V5:=@List.all_cons
def V6:=@Nat.le_add_left
def V7:=@Bool.false_eq_true
def V8:=@List.length_range'
def V9:=@Int.le_refl
def We:=@List.flatten_cons
def Wf:=@List.nodup_append
def Wg:=@wpAny_newObj_type
def Wh:=@Option.some.injEq
def Wi:=@Array.getElem?_eq_none
def Wj:=@Option.none_or
def Wk:=@Nat.le_add_right_of_le
def Wl:=@Nat.le_succ_of_le
def Wm:=@Heap.get?_update_self
def Wo:=@List.contains_iff_mem
def Wp:=@PySem.F.slot_dict_get
def Wq:=@List.length_filter_le
def Wr:=@List.length_drop
def Ws:=@Nat.add_assoc
def Wt:=@List.mem_of_getLast?
def Wu:=@Nat.not_succ_le_zero
def Wv:=@Bool.or_eq_true
def Ww:=@List.filter_nil
def Wx:=@Nat.min_le_left
def Wy:=@Nat.min_eq_left
def Wz:=@List.nil_append
def WA:=@Heap.SameBut.update
def WB:=@Int.add_zero
def WC:=@Nat.add_right_comm
def WD:=@Int.add_nonneg
def WE:=@bne_iff_ne
def WG:=@if_false
def WH:=@List.zip_cons_cons
def WI:=@wpAny_mono
def WK:=@congrFun
def WL:=@List.lookup_append
def WN:=@List.map_replicate
def WO:=@List.take_zero
def WP:=@Nat.not_le
def WR:=@wpAny_mkInt
def WS:=@wpAny_truthy_bool
def WT:=@List.size_toArray
def WU:=@getMethod_builtin
def WV:=@Nat.lt_of_succ_le
def WW:=@List.any_cons
def WX:=@Bool.not_true
def WY:=@List.map_take
def WZ:=@List.map_drop
def W5:=@Nat.sub_le
noncomputable section
set_option bootstrap.genMatcherCode false
set_option genCtorIdx false
set_option genSizeOf false
set_option Elab.async false
set_option genCtorIdx false
set_option linter.unusedVariables false
noncomputable def eg(r:Nat->Int):List Int->Nat->Int:=List.rec (fun _=>0) fun c _ f i=>c*r i+f (i+1)
noncomputable def iJ:List Int->List Int->List Int:=List.rec (fun m=>m) fun a l f m=>List.rec (a::l) (fun b m _=>(a+b)::f m) m
theorem lR{r:Nat->Int}{l:List Int}:∀{m:List Int}{i:Nat},eg r (iJ l m) i=eg r l i+eg r m i:=by
 induction l with|nil=>exact(VY _).symm|cons a l ih=>
  intro m i;cases m with
  |nil=>exact(WB _).symm
  |cons b m=>show(a+b)*r i+eg r (iJ l m) (i+1)=(a*r i+eg r l (i+1))+(b*r i+eg r m (i+1));rw[ih,Int.add_mul,Int.add_assoc,Int.add_assoc,Int.add_left_comm (b*r i)]
noncomputable def gq(l:List Int)(k:Int):List Int:=l.map (k * ·)
theorem jl{r:Nat->Int}{k:Int}{l:List Int}:∀{i:Nat},eg r (gq l k) i=k*eg r l i:=by
 induction l with|nil=>exact(Int.mul_zero _).symm|cons a l ih=>intro i;show k*a*r i+eg r (gq l k) (i+1)=k*(a*r i+eg r l (i+1));rw[ih,Int.mul_add,Int.mul_assoc]
noncomputable def mK:Nat->List Int:=Nat.rec [1] fun _ l=>0::l
theorem vQ{r:Nat->Int}{i:Nat}:∀{j:Nat},eg r (mK i) j=r (i+j):=by
 induction i with|zero=>intro j;show 1*r j+0=_;rw[Int.one_mul,WB,VZ]|succ i ih=>intro j;show 0*r j+eg r (mK i) (j+1)=_;rw[ih,Int.zero_mul,VY,WC,Ws]
noncomputable def kY{α:Type}(d:α):List α->Nat->α:=List.rec (fun _=>d) fun a _ f i=>Nat.rec a (fun i _=>f i) i
def fo(ns:List Nat)(zs:List Int)(i:Nat):Int:=bif (i%2).beq 0 then((kY 0 (1::ns) (i/2):Nat):Int)else kY 0 zs (i/2)
noncomputable def iK:List Int->Nat->Bool:=List.rec (fun _=>true) fun c _ f i=>(bif (i%2).beq 0 then decide (0<=c)else decide (c=0))&&f (i+1)
theorem gf{ns:List Nat}{zs:List Int}{l:List Int}:∀{i:Nat},iK l i=true->0<=eg (fo ns zs) l i:=by
 induction l with
 |nil=>exact fun _=>V9 _
 |cons c l ih=>
  intro i h;have h:=Vv.mp h;refine WD ?_ (ih h.2);have h:=h.1;unfold fo;revert h;cases(i%2).beq 0
  .intro h;rw[TH h,Int.zero_mul];exact V9 _
  .exact fun h=>Int.mul_nonneg (TH h) (TM _)
abbrev gH(ns:List Nat)(zs:List Int):Type:={x:(Nat×List Int)×Int×List Int // (x.1.1:Int)=eg (fo ns zs) x.1.2 0/\x.2.1=eg (fo ns zs) x.2.2 0}
section
variable{ns:List Nat}{zs:List Int}
theorem tm{k:Int}:k=eg (fo ns zs) [k] 0:=by show k=k*1+0;rw[Int.mul_one,WB]
theorem tn{i:Nat}:((kY 0 ns i:Nat):Int)=eg (fo ns zs) (mK (2*(i+1))) 0:=by rw[vQ,Nat.add_zero];unfold fo;rw[Nat.mul_mod_right,Nat.mul_div_right _ (Nat.succ_pos 1)];rfl
theorem Aw{i:Nat}:kY 0 zs i=eg (fo ns zs) (mK (2*i+1)) 0:=by rw[vQ,Nat.add_zero];unfold fo;rw[Nat.mul_add_mod,Nat.mul_add_div (Nat.succ_pos 1)];rfl
noncomputable def Ca(k:Nat):gH ns zs:=⟨((k,[(k:Nat)]),(k:Nat),[(k:Nat)]),tm,tm⟩
def OR(d:Nat):gH ns zs:=bif d.blt 24 then⟨((kY 0 ns (d-16),mK (2*(d-16+1))),(kY 0 ns (d-16):Nat),mK (2*(d-16+1))),tn,tn⟩
 else⟨((0,[]),kY 0 zs (d-24),mK (2*(d-24)+1)),rfl,Aw⟩
theorem jm{x y:Int}{l m:List Int}(h:x=eg (fo ns zs) l 0)(k:y=eg (fo ns zs) m 0):x-y=eg (fo ns zs) (iJ l (gq m (-1))) 0:=by rw[lR,jl,<-h,<-k,Int.neg_one_mul];rfl
def GD(y x:gH ns zs):gH ns zs:=⟨((x.1.1.1+y.1.1.1,iJ x.1.1.2 y.1.1.2),x.1.2.1+y.1.2.1,iJ x.1.2.2 y.1.2.2),by rw[lR,<-x.2.1,<-y.2.1];rfl,by rw[lR,<-x.2.2,<-y.2.2]⟩
def GE(y x:gH ns zs):gH ns zs:=⟨((0,[]),x.1.2.1-y.1.2.1,iJ x.1.2.2 (gq y.1.2.2 (-1))),rfl,jm x.2.2 y.2.2⟩
def GF(x:gH ns zs):gH ns zs:=⟨((0,[]), -x.1.2.1,gq x.1.2.2 (-1)),rfl,by rw[jl,<-x.2.2,Int.neg_one_mul]⟩
noncomputable def Cb(x:gH ns zs):gH ns zs:=⟨(x.1.1,x.1.1.1,x.1.1.2),x.2.1,x.2.1⟩
def GG(k:Nat)(x:gH ns zs):gH ns zs:=⟨((k*x.1.1.1,gq x.1.1.2 (k:Nat)),(k:Nat)*x.1.2.1,gq x.1.2.2 (k:Nat)),by rw[jl,<-x.2.1];rfl,by rw[jl,<-x.2.2]⟩
noncomputable def yX(f:gH ns zs->gH ns zs):List (gH ns zs)->List (gH ns zs):=List.rec [] fun x s _=>f x::s
def Cc(f:gH ns zs->gH ns zs->gH ns zs):List (gH ns zs)->List (gH ns zs):=List.rec [] fun y s _=>yX (f y) s
def La:Nat->Nat->List (gH ns zs)->List (gH ns zs):=Nat.rec (fun _ s=>s) fun _ f c s=>
 bif c.beq 0 then s else
 bif Nat.blt 15 (c%32)then f (c/32) (OR (c%32)::s)else
 bif Nat.blt 7 (c%32)then f (c/32) (Ca (c%32-8)::s)else
 bif (c%32).beq 1 then f (c/32) (Cc GD s)else
 bif (c%32).beq 2 then f (c/32) (Cc GE s)else
 bif (c%32).beq 3 then f (c/32) (yX Cb s)else
 bif (c%32).beq 4 then f (c/32) (yX GF s)else
 f (c/1024/32^(c/32%32)) (bif (c%32).beq 5 then yX (GG (c/1024%32^(c/32%32))) s else Ca (c/1024%32^(c/32%32))::s)
def gd(ns:List Nat)(zs:List Int)(c i:Nat):gH ns zs:=kY (Ca 0) (La 60 c []) i
noncomputable def d5(ns:List Nat)(zs:List Int)(k c i:Nat):Prop:=bif (k/512^i%2).beq 0 then(gd ns zs c (2*i+1)).1.1.1<=(gd ns zs c (2*i)).1.1.1 else(gd ns zs c (2*i+1)).1.2.1<=(gd ns zs c (2*i)).1.2.1
noncomputable def Cd(ns:List Nat)(zs:List Int)(k c:Nat):Prop:=bif (k/512^0%2).beq 0 then(gd ns zs c (2*0+1)).1.1.1=(gd ns zs c (2*0)).1.1.1 else(gd ns zs c (2*0+1)).1.2.1=(gd ns zs c (2*0)).1.2.1
noncomputable def KG(b:Bool)(x:gH ns zs):List Int:=bif b then x.1.1.2 else x.1.2.2
def qH(ns:List Nat)(zs:List Int)(k c i:Nat):List Int:=iJ (KG ((k/512^i%2).beq 0) (gd ns zs c (2*i))) (gq (KG ((k/512^i%2).beq 0) (gd ns zs c (2*i+1))) (-1))
theorem jn{k c i:Nat}:d5 ns zs k c i↔0<=eg (fo ns zs) (qH ns zs k c i) 0:=by
 unfold d5 qH;cases(k/512^i%2).beq 0
 .exact Int.sub_nonneg.symm.trans (.of_eq (Tx (0 <= ·) (jm (gd ns zs c (2*i)).2.2 (gd ns zs c (2*i+1)).2.2)))
 .exact VE.symm.trans (Int.sub_nonneg.symm.trans (.of_eq (Tx (0 <= ·) (jm (gd ns zs c (2*i)).2.1 (gd ns zs c (2*i+1)).2.1))))
def ky(ns:List Nat)(zs:List Int)(k c i:Nat)(l:List Int):List Int:=iJ l (gq (qH ns zs k c i) (-(k/512^i/2%256+1:Nat)))
theorem eU{k c i:Nat}{l:List Int}(h:d5 ns zs k c i)(e:0<=eg (fo ns zs) (ky ns zs k c i l) 0):0<=eg (fo ns zs) l 0:=by unfold ky at e;rw[lR,jl,Int.neg_mul]at e;exact Int.le_trans (Int.mul_nonneg (TM _) (jn.mp h)) (Int.le_of_sub_nonneg e)
end
section
variable(ns:List Nat)(zs:List Int)(k c:Nat)
theorem fp{n m:Nat}(h:m<=n):n-m+m<=n:=TF (VG h)
theorem iX{n m:Nat}(h:m<=n):n<=n-m+m:=TF (VG h).symm
theorem qI{a:Int}(h:0<=a):(a.toNat:Int)<=a:=Uk (Vk h)
theorem Ax{a:Int}(h:0<=a):a<=a.toNat:=Uk (Vk h).symm
theorem art:true=true:=rfl
theorem are(h:iK (qH ns zs k c 0) 0=true)(h':iK (gq (qH ns zs k c 0) (-1)) 0=true):Cd ns zs k c:=by
 have b:=gf h' (ns:=ns) (zs:=zs);rw[jl,Int.neg_one_mul]at b;have e:=VN (Int.nonpos_of_neg_nonneg b) (gf h);revert e;clear h h' b;unfold qH Cd;cases(k/512^0%2).beq 0
 .exact fun e=>(Int.sub_eq_zero.mp ((jm (gd ns zs c (2*0)).2.2 (gd ns zs c (2*0+1)).2.2).trans e)).symm
 .exact fun e=>(Int.ofNat_inj.mp (Int.sub_eq_zero.mp ((jm (gd ns zs c (2*0)).2.1 (gd ns zs c (2*0+1)).2.1).trans e))).symm
theorem ar0(h:iK (qH ns zs k c 0) 0=true):d5 ns zs k c 0:=jn.mpr (gf h)
theorem ar1(h1:d5 ns zs k c 1)(h:iK (ky ns zs k c 1 (qH ns zs k c 0)) 0=true):d5 ns zs k c 0:=jn.mpr (eU h1 (gf h))
theorem ar2(h1:d5 ns zs k c 1)(h2:d5 ns zs k c 2)(h:iK (ky ns zs k c 2 (ky ns zs k c 1 (qH ns zs k c 0))) 0=true):d5 ns zs k c 0:=jn.mpr (eU h1 (eU h2 (gf h)))
theorem ar3(h1:d5 ns zs k c 1)(h2:d5 ns zs k c 2)(h3:d5 ns zs k c 3)(h:iK (ky ns zs k c 3 (ky ns zs k c 2 (ky ns zs k c 1 (qH ns zs k c 0)))) 0=true):d5 ns zs k c 0:=jn.mpr (eU h1 (eU h2 (eU h3 (gf h))))
theorem ar4(h1:d5 ns zs k c 1)(h2:d5 ns zs k c 2)(h3:d5 ns zs k c 3)(h4:d5 ns zs k c 4)(h:iK (ky ns zs k c 4 (ky ns zs k c 3 (ky ns zs k c 2 (ky ns zs k c 1 (qH ns zs k c 0))))) 0=true):d5 ns zs k c 0:=jn.mpr (eU h1 (eU h2 (eU h3 (eU h4 (gf h)))))
end
set_option maxRecDepth 100000
set_option genSizeOfSpec false
set_option genInjectivity false
set_option tactic.hygienic false
set_option genCtorIdx true in
inductive V where
 |none
 |bool (b:Bool)
 |int (i:Int)
 |str (s:Str)
 |tup (xs:List V)
 |lst (xs:List V)
 |rng (a b:Int)
 |ref (n:Nat)
 |inst (c:Str)(n:Nat)
 |fn (c m:Str)
 |cls (c:Str)
 |bi (id:String)
 |ty (T:String)
 |jd (es:List (Str×List Str))
inductive ab where
 |list (xs:List V)
 |dict (es:List (Str×V))
 |tdict (es:List (V×V))
noncomputable abbrev Hp:=List ab
set_option genCtorIdx true in
inductive Sl where
 |g
 |v (o:Option V)
 |cv (o:Option V)
 |f (x:V)
 |x
noncomputable abbrev Loc:=List (Str×Sl)
noncomputable def Loc.put:Loc->Str->V->Option Loc
 |[],_,_=>Option.none
 |(y,s)::r,x,v=>if x==y then(match s with|.v _=>some ((y,.v (some v))::r)|.cv _=>some ((y,.cv (some v))::r)|_=>Option.none)else(Loc.put r x v).map ((y,s) :: ·)
set_option genCtorIdx true in
inductive Fl where
 |next|brk|cont
 |ret (v:V)
inductive Src where
 |kw (k:Nat)
 |dflt (v:V)
structure aD where
 params:List Str
 shapes:List (Nat×List Str×List Src)
 scope:Scope
 body:List Stmt
structure cF where
 attrs:List Str
 meths:List Str
structure Tab where
 fns:List ((Str×Str)×aD)
 cls:List (Str×cF)
 glob:List (Str×V)
noncomputable abbrev aG:=Str->Str->List V->List (Str×V)->Hp->V->Hp->Prop
noncomputable def asI:V->Option Int
 |.int i=>some i
 |_=>Option.none
noncomputable def asS:V->Option Str
 |.str s=>some s
 |_=>Option.none
noncomputable def asT:V->Option (List V)
 |.tup xs=>some xs
 |_=>Option.none
noncomputable def isN:V->Bool
 |.none=>true
 |_=>false
noncomputable def sE:List V->Option V
 |[x]=>some x
 |_=>Option.none
noncomputable def Ay:List V->Option (V×V)
 |[x,y]=>some (x,y)
 |_=>Option.none
noncomputable def els{α β:Type}(o:Option α)(f:α->Option β)(g:Option β):Option β:=match o with
 |some a=>f a
 |Option.none=>g
def iiI{β:Type}(f:Int->Int->Option β)(a b:V):Option β:=(asI a).bind fun x=>(asI b).bind fun y=>f x y
noncomputable def dJ{β:Type}(c:Option ab)(f:List V->Option β)(g:List (Str×V)->Option β):Option β:=match c with
 |some (.list xs)=>f xs
 |some (.dict es)=>g es
 |_=>Option.none
def to{β:Type}(J:Hp)(o:V)(f:Nat->List V->Option β)(g:Nat->List (Str×V)->Option β):Option β:=match o with
 |.ref n=>dJ J[n]? (f n) (g n)
 |_=>Option.none
noncomputable abbrev AK:=Option (Int ⊕ Str)
noncomputable def aOf:V->Option AK
 |.none=>some Option.none
 |.bool b=>some (some (.inl (if b then 1 else 0)))
 |.int i=>some (some (.inl i))
 |.str s=>some (some (.inr s))
 |_=>Option.none
noncomputable def Lb:List V->Option (List AK)
 |[]=>some []
 |x::xs=>(aOf x).bind fun a=>(Lb xs).bind fun as=>some (a::as)
def mL(v:V):Option (List AK):=(asT v).bind Lb
noncomputable def kz(k:List AK):List (V×V)->Option V
 |[]=>Option.none
 |p::r=>if mL p.1=some k then some p.2 else kz k r
noncomputable def xm(k:List AK)(x v:V):List (V×V)->List (V×V)
 |[]=>[(x,v)]
 |p::r=>if mL p.1=some k then(p.1,v)::r else p::xm k x v r
noncomputable def Lc{β:Type}(c:Option ab)(f:List (V×V)->Option β):Option β:=match c with
 |some (.tdict es)=>f es
 |some (.dict es)=>(match es with | []=>f [] |_=>Option.none)
 |_=>Option.none
def sF{β:Type}(J:Hp)(o:V)(f:Nat->List (V×V)->Option β):Option β:=match o with
 |.ref n=>Lc J[n]? (f n)
 |_=>Option.none
noncomputable def Ce:List V->Option (List Str)
 |[]=>some []
 |x::xs=>(asS x).bind fun a=>(Ce xs).bind fun as=>some (a::as)
noncomputable def bF(J:Hp):V->Option (List V)
 |.lst xs=>some xs
 |.tup xs=>some xs
 |.ref n=>dJ J[n]? some fun _=>Option.none
 |_=>Option.none
noncomputable def a7(J:Hp):V->Option (List V)
 |.lst xs=>some xs
 |.ref n=>dJ J[n]? some fun _=>Option.none
 |_=>Option.none
noncomputable def gP(f:V->V->Option Bool):List V->List V->Option Bool
 |x::xs,y::ys=>(f x y).bind fun b=>(gP f xs ys).bind fun c=>some (b&&c)
 |[],[]=>some true
 |_,_=>some false
def xn(f:V->V->Option Bool)(xs ys:List V):Option Bool:=if xs.length=ys.length then gP f xs ys else some false
noncomputable def eqV:Nat->V->V->Option Bool
 |0,_,_=>Option.none
 |n+1,a,b=>match a with
  |.none=>(match b with
   |.none=>some true
   |.bool _=>some false
   |.int _=>some false
   |.str _=>some false
   |_=>Option.none)
  |.bool x=>(match b with
   |.bool y=>some (x==y)
   |.none=>some false
   |.str _=>some false
   |_=>Option.none)
  |.int x=>(match b with
   |.int y=>some (x==y)
   |.none=>some false
   |.str _=>some false
   |_=>Option.none)
  |.str x=>(match b with
   |.str y=>some (x==y)
   |.none=>some false
   |.bool _=>some false
   |.int _=>some false
   |_=>Option.none)
  |.tup xs=>(match b with
   |.tup ys=>if xs.length=ys.length then gP (eqV n) xs ys else Option.none
   |_=>Option.none)
  |.lst xs=>(match b with
   |.lst ys=>xn (eqV n) xs ys
   |_=>Option.none)
  |_=>Option.none
def eqI(J:Hp)(a b:V):Option Bool:=els (a7 J a) (fun xs=>(a7 J b).bind fun ys=>xn (eqV 5) xs ys) (eqV 6 a b)
noncomputable def tp(f:V->V->Option Bool)(x:V):List V->Option Bool
 |[]=>some false
 |y::ys=>(f y x).bind fun b=>(tp f x ys).bind fun c=>some (b||c)
def inI(J:Hp)(x c:V):Option Bool:=els (bF J c) (fun xs=>tp (eqV 6) x xs) (els (mL x) (fun k=>sF J c fun _ es=>some (kz k es).isSome) (to J c (fun _ _=>Option.none) fun _ es=>(asS x).map fun s=>(es.lookup s).isSome))
noncomputable def bR(J:Hp):V->Option Bool
 |.none=>some false
 |.bool b=>some b
 |.str s=>if decide (s.length<1000)then some (s.length != 0)else Option.none
 |.tup xs=>if decide (xs.length<=1000000)then some (xs.length != 0)else Option.none
 |.lst xs=>if decide (xs.length<=1000000)then some (xs.length != 0)else Option.none
 |.int i=>some (i != 0)
 |_=>Option.none
noncomputable def bG(t:Bool)(xs:List V)(J:Hp):V×Hp:=if t then(.ref J.length,J++[.list xs])else(.lst xs,J)
noncomputable def aO(i:Int):Bool:=decide (-(2^62)<i)&&decide (i<2^62)
noncomputable def ba(xs:List V):Bool:=decide (xs.length<=1000000)
def dI(t:Bool)(op:Operator)(a b:V)(J:Hp):Option (V×Hp):=match op with
 |.Add=>els (asI a) (fun x=>(asI b).map fun y=>(.int (x+y),J)) (els (asT a)
  (fun xs=>(asT b).bind fun ys=>if ba (xs++ys)&&xs.length != 0&&ys.length != 0 then some (.tup (xs++ys),J)else Option.none)
  ((a7 J a).bind fun xs=>(a7 J b).bind fun ys=>if ba (xs++ys)then some (bG t (xs++ys) J)else Option.none))
 |.Sub=>iiI (fun x y=>some (.int (x-y),J)) a b
 |.Mult=>els (asI a) (fun x=>(asI b).bind fun y=>if aO x&&aO y then some (.int (x*y),J)else Option.none)
  ((asI b).bind fun y=>(a7 J a).bind fun xs=>if decide (0<=y)&&decide (y<1000)&&decide (xs.length<1000)then some (bG t (List.replicate y.toNat xs).flatten J)else Option.none)
 |.FloorDiv=>iiI (fun x y=>if decide (0<y)&&decide (y<1000000000)then some (.int (x.fdiv y),J)else Option.none) a b
 |.Mod=>iiI (fun x y=>if decide (0<y)then some (.int (x.fmod y),J)else Option.none) a b
 |_=>Option.none
def unI(op:UnaryOp)(a:V)(J:Hp):Option V:=match op with
 |.USub=>(asI a).map fun x=>.int (-x)
 |.Not=>(bR J a).map fun b=>.bool (!b)
 |_=>Option.none
def isQ(a b:V):Option Bool:=if isN b then(match a with
 |.none=>some true
 |.int _=>some false
 |.str _=>some false
 |.inst _ _=>some false
 |_=>Option.none)else Option.none
def bA(J:Hp)(op:CmpOp)(a b:V):Option Bool:=match op with
 |.Eq=>eqI J a b
 |.NotEq=>(eqI J a b).map (!·)
 |.Lt=>iiI (fun x y=>some (decide (x<y))) a b
 |.LtE=>iiI (fun x y=>some (decide (x<=y))) a b
 |.Gt=>iiI (fun x y=>some (decide (y<x))) a b
 |.GtE=>iiI (fun x y=>some (decide (y<=x))) a b
 |.In=>inI J a b
 |.NotIn=>(inI J a b).map (!·)
 |.Is=>isQ a b
 |.IsNot=>(isQ a b).map (!·)
noncomputable def qJ:Const->Option V
 |.none=>some .none
 |.bool b=>some (.bool b)
 |.int i=>some (.int i)
 |.str s=>some (.str s)
 |_=>Option.none
def gY(xs:List V)(k:Int):Option V :=
 if aO k then(seqIndex? k xs.length).bind fun j=>xs[j]? else Option.none
def af(J:Hp)(o i:V):Option V:=els (bF J o) (fun xs=>(asI i).bind fun k=>gY xs k) (els (mL i) (fun k=>sF J o fun _ es=>kz k es) (to J o (fun _ _=>Option.none) fun _ es=>(asS i).bind fun s=>es.lookup s))
noncomputable def em(x:Str)(v:V):List (Str×V)->List (Str×V)
 |[]=>[(x,v)]
 |(y,w)::r=>if x==y then(y,v)::r else(y,w)::em x v r
def t7(es:List (Str×V)):List (Str×V):=es.foldl (fun a q=>em q.1 q.2 a) []
def eo(J:Hp)(o i v:V):Option Hp:=els (mL i) (fun k=>sF J o fun n es=>if decide (es.length<900)then some (J.set n (.tdict (xm k i v es)))else Option.none) <|to J o
 (fun n xs=>(asI i).bind fun k=>if aO k then(seqIndex? k xs.length).map fun j=>J.set n (.list (xs.set j v))else Option.none)
 (fun n es=>(asS i).bind fun s=>if decide (es.length<900)then some (J.set n (.dict (em s v es)))else Option.none)
def pT(v:V):Option (Option Int):=els (asI v) (fun i=>if aO i then some (some i)else Option.none) (if isN v then some Option.none else Option.none)
noncomputable def oV(xs:List V)(lo hi:Option Int):List V:=(xs.drop (kms_lo lo xs.length)).take (kms_hi hi xs.length-kms_lo lo xs.length)
def bm(t:Bool)(J:Hp)(o lo hi st:V):Option (V×Hp) :=
 (a7 J o).bind fun xs=>if ba xs then els (asI st) (fun i=>if isN lo&&isN hi&&decide (i = -1)then some (bG t xs.reverse J)else Option.none)
  (if isN st then(pT lo).bind fun a=>(pT hi).bind fun b=>some (bG t (oV xs a b) J)else Option.none)else Option.none
noncomputable def yY:V->Bool
 |.bi _=>false
 |_=>true
def vR{β:Type}(T:Tab)(J:Hp)(o:V)(k:Str->Nat->cF->List (Str×V)->Option β):Option β:=match o with
 |.inst c n=>(T.cls.lookup c).bind fun cd=>dJ J[n]? (fun _=>Option.none) (k c n cd)
 |_=>Option.none
def bS(T:Tab)(J:Hp)(o:V)(a:Str):Option V:=vR T J o fun _ _ cd es=>if cd.attrs.contains a then(es.lookup a).bind fun v=>if yY v then some v else Option.none else Option.none
def cY(T:Tab)(J:Hp)(o:V)(a:Str)(v:V):Option Hp:=vR T J o fun _ n cd es=>if cd.attrs.contains a then(if decide (es.length<900)then some (J.set n (.dict (em a v es)))else Option.none)else Option.none
inductive MK where
 |bi (id:String)
 |fn (c:Str)
def bd(T:Tab)(J:Hp)(o:V)(a:Str):Option MK:=match o with
 |.inst c n=>vR T J (.inst c n) fun c _ cd es=>if cd.meths.contains a then(if(es.lookup a).isNone then some (.fn c)else Option.none)else Option.none
 |.jd _=>if a==("get":Str)then some (.bi "dict.get")else Option.none
 |.lst _=>if a==("index":Str)then some (.bi "list.index")else Option.none
 |.ref n=>to J (.ref n) (fun _ _=>if a==("append":Str)then some (.bi "list.append")else if a==("pop":Str)then some (.bi "list.pop")else Option.none) fun _ _=>if a==("get":Str)then some (.bi "dict.get")else Option.none
 |_=>Option.none
noncomputable def OS(o:Option (List Str))(d:V):V:=match o with
 |some l=>.tup (l.map .str)
 |Option.none=>d
def aQ(J:Hp)(id:String)(o:V)(args:List V):Option (V×Hp):=match o with
 |.jd es=>if id=="dict.get" then(Ay args).bind fun p=>(asS p.1).map fun k=>(OS (es.lookup k) p.2,J)else Option.none
 |.lst xs=>if id=="list.index" then(sE args).bind fun a=>(asS a).bind fun x=>if ba xs then(Ce xs).bind fun ss=>(ss.findIdx? (· == x)).map fun(k:Nat)=>(V.int (k:Int),J)else Option.none else Option.none
 |.ref n=>to J (.ref n)
  (fun n xs=>if id=="list.append" then(sE args).bind fun x=>if ba xs then some (.none,J.set n (.list (xs++[x])))else Option.none
   else if id=="list.pop" then(if args.isEmpty then xs.getLast?.bind fun y=>if ba xs then some (y,J.set n (.list xs.dropLast))else Option.none else Option.none)
   else Option.none)
  fun _ es=>if id=="dict.get" then els (sE args) (fun k=>(asS k).map fun k=>((es.lookup k).getD .none,J)) ((Ay args).bind fun p=>(asS p.1).map fun k=>((es.lookup k).getD p.2,J))else Option.none
 |_=>Option.none
noncomputable def tq:List V->Option (List Int)
 |[]=>some []
 |x::xs=>(asI x).bind fun a=>(tq xs).map fun l=>a::l
noncomputable def yZ:V->Option Bool
 |.bool _=>some true
 |.none=>some false
 |.str _=>some false
 |_=>Option.none
noncomputable def OT:V->Option String
 |.ty T=>some T
 |_=>Option.none
def biI(t:Bool)(id:String)(args:List V)(J:Hp):Option (V×Hp) :=
 if id=="len" then(sE args).bind fun x=>els (bF J x) (fun xs=>if ba xs then some (.int xs.length,J)else Option.none) (sF J x fun _ es=>if decide (es.length<1000)then some (.int es.length,J)else Option.none)
 else if id=="isinstance" then(Ay args).bind fun p=>(OT p.2).bind fun T=>if T=="bool" then(yZ p.1).map fun b=>(.bool b,J)else Option.none
 else if id=="max" then(Ay args).bind fun p=>iiI (fun a b=>some (.int (if b>a then b else a),J)) p.1 p.2
 else if id=="sum" then(sE args).bind fun x=>(a7 J x).bind fun xs=>(tq xs).map fun l=>(.int l.sum,J)
 else Option.none
def tyI(t:Bool)(T:String)(args:List V)(J:Hp):Option (V×Hp) :=
 if T=="int" then(sE args).bind fun x=>(asI x).map fun i=>(.int i,J)
 else if T=="list" then(sE args).bind fun x=>(a7 J x).bind fun xs=>if ba xs then some (bG t xs J)else Option.none
 else if T=="tuple" then(sE args).bind fun x=>els (asT x) (fun xs=>some (.tup xs,J)) ((a7 J x).bind fun xs=>if ba xs then some (.tup xs,J)else Option.none)
 else if T=="range" then els (sE args) (fun x=>(asI x).bind fun b=>if aO b then some (.rng 0 b,J)else Option.none)
  ((Ay args).bind fun p=>iiI (fun a b=>if aO a&&aO b then some (.rng a b,J)else Option.none) p.1 p.2)
 else Option.none
set_option genCtorIdx true in
inductive It where
 |seq (v:V)
 |enm (v:V)
 |rng (a b:Int)
def gZ(J:Hp)(v:V):Option It:=match v with
 |.rng a b=>if aO a&&aO b then some (.rng a b)else Option.none
 |.ref n=>dJ J[n]? (fun _=>some (.seq v)) fun _=>Option.none
 |.lst _=>some (.seq v)
 |.tup _=>some (.seq v)
 |_=>Option.none
noncomputable def bD(J:Hp):It->Option Nat
 |.seq v=>(bF J v).map (·.length)
 |.enm v=>(a7 J v).map (·.length)
 |.rng a b=>some (b-a).toNat
noncomputable def fD(J:Hp)(i:Nat):It->Option V
 |.seq v=>(bF J v).bind (·[i]?)
 |.enm v=>((a7 J v).bind (·[i]?)).map fun x=>.tup [.int i,x]
 |.rng a _=>some (.int (a+i))
noncomputable def QU:Option Sl->Bool
 |some (.cv _)=>true
 |some (.f _)=>true
 |_=>false
noncomputable def OU:Option Sl->Sl
 |some (.cv (some v))=>.f v
 |some (.f v)=>.f v
 |_=>.x
def qv(scope:Scope)(loc:Loc):Loc:=scope.names.map fun p=>(p.1,match p.2 with
 |.local=>.v Option.none
 |.free=>OU (loc.lookup p.1)
 |.globalImplicit=>.g
 |_=>.x)
noncomputable def g0:Option Expr->Option Str
 |some (.Constant (.str s) _ _)=>some s
 |_=>Option.none
noncomputable def Cf(t e:Expr):Bool:=match t,e with
 |.Tuple _ _ _,.Tuple vs _ _=>vs.all (foldedForSure 8) || !(vs.all (constantsAlone 8))
 |_,_=>true
noncomputable def GH:Expr->Bool
 |.ListComp ..=> true
 |.SetComp ..=> true
 |.DictComp ..=> true
 |_=>false
noncomputable def cn:List Expr->List V->Loc->Option Loc
 |[],[],loc=>some loc
 |.Name x _::es,v::vs,loc=>(loc.put x v).bind (cn es vs)
 |_,_,_=>Option.none
noncomputable def pU(T:Tab)(loc:Loc)(x:Str):Option V:=if x==("__debug__":Str)||x==("__classdict__":Str)then Option.none else(loc.lookup x).bind fun sl=>match sl with
 |.v o=>o
 |.cv o=>o
 |.f v=>some v
 |.g=>T.glob.lookup x
 |.x=>Option.none
def t8(scope:Scope)(loc:Loc):Bool:=scope.names.all (fun p=>p.2 != .free||QU (loc.lookup p.1))&&decide (scope.kind=.function)&&scope.names.all (fun p=>p.2==.local||p.2==.free||p.2==.globalImplicit)&&decide ((scope.names.map (·.1)).Nodup)
noncomputable def nU(t:Expr):It->Bool
 |.enm _=>(match t with|.Tuple ..=> true|_=>false)
 |_=>true
noncomputable def eV:Expr->Bool
 |.Starred ..=> false
 |_=>true
noncomputable def xo:Expr->Bool
 |.Call (.Name _ _) [] [] _=>false
 |_=>true
def vS(o:Expr)(args:List Expr)(kws:List Keyword):Bool:=args.all eV&&kws.all (·.arg.isSome)&&decide (args.length+kws.length<20)&&xo o
def vU(args:List Expr)(kws:List Keyword):Bool:=args.all eV&&kws.all (·.arg.isSome)
noncomputable def t9:V->Bool
 |.ty n=>n=="enumerate"
 |_=>false
noncomputable def mu:Nat:=200
noncomputable def Az(kw:List (Str×V)):List Src->Option (List V)
 |[]=>some []
 |.kw k::r=>(kw[k]?).bind fun p=>(Az kw r).map (p.2 :: ·)
 |.dflt v::r=>(Az kw r).map (v :: ·)
def vV(fd:aD)(args:List V)(kw:List (Str×V)):Option (List (Str×V)) :=
 (fd.shapes.find? fun s=>s.1==args.length&&s.2.1==kw.map (·.1)).bind fun s=>
  (Az kw s.2.2).bind fun r=>if(args++r).length=fd.params.length then some (fd.params.zip (args++r))else Option.none
noncomputable def tw(scope:Scope)(binds:List (Str×V)):Loc:=scope.names.map fun p=>(p.1,match p.2 with
 |.local=>.v (binds.lookup p.1)
 |.cell=>.cv (binds.lookup p.1)
 |_=>.g)
inductive Ans where
 |v (x:V)
 |p (x:V)(s:Hp)
 |s (s:Hp)
 |k (x:MK)
 |l (f:Fl)(l:Loc)(s:Hp)
 |i (x:It)
 |b (x:Bool)
 |t (x:Bool)
 |m (x y:List Ans)
 |o
 |c
noncomputable abbrev An:=List Ans
noncomputable def qK(o:Option V)(a:An)(k:V->An->Prop):Prop:=match a with
 |.v x::r=>o=some x/\k x r
 |.c::r=>(match o with|some x=>k x r|Option.none=>False)
 |_=>False
noncomputable def AA(o:Option (V×Hp))(a:An)(k:V->Hp->An->Prop):Prop:=match a with
 |.p x s::r=>o=some (x,s)/\k x s r
 |.c::r=>(match o with|some x=>k x.1 x.2 r|Option.none=>False)
 |_=>False
noncomputable def Ld(o:Option Hp)(a:An)(k:Hp->An->Prop):Prop:=match a with
 |.s x::r=>o=some x/\k x r
 |.c::r=>(match o with|some x=>k x r|Option.none=>False)
 |_=>False
noncomputable def OV(o:Option MK)(a:An)(k:MK->An->Prop):Prop:=match a with
 |.k x::r=>o=some x/\k x r
 |.c::r=>(match o with|some x=>k x r|Option.none=>False)
 |_=>False
noncomputable def GI(o:Option Bool)(a:An)(k:Bool->An->Prop):Prop:=match a with
 |.t x::r=>o=some x/\k x r
 |.c::r=>(match o with|some x=>k x r|Option.none=>False)
 |_=>False
noncomputable def qL(o:Option Bool)(a:An)(x y:An->Prop):Prop:=match a with
 |.b c::r=>(match o with|some d=>d=c/\(match c with|true=>x r|false=>y r)|Option.none=>False)
 |.t c::r=>o=some c/\(match c with|true=>x r|false=>y r)
 |.m p q::_=>(match o with|some d=>(d=true->x p)/\(d=false->y q)|Option.none=>False)
 |_=>False
noncomputable def Cg(F:V->Hp->Prop)(a:An)(k:V->Hp->An->Prop):Prop:=match a with
 |.p x s::r=>F x s/\k x s r
 |_=>False
noncomputable def Lf(F:Fl->Loc->Hp->Prop)(a:An)(k:Fl->Loc->Hp->An->Prop):Prop:=match a with
 |.l f l s::r=>F f l s/\k f l s r
 |_=>False
noncomputable def xp(o:Option It)(a:An)(k:It->An->Prop):Prop:=match a with
 |.i x::r=>o=some x/\k x r
 |.c::r=>(match o with|some x=>k x r|Option.none=>False)
 |_=>False
noncomputable def opB:BoolOp->Bool->Bool->Bool
 |.And,a,b=>a&&b
 |.Or,a,b=>a||b
noncomputable def tx:BoolOp->Bool->Bool
 |.And,b=> !b
 |.Or,b=>b
noncomputable def brB(op:BoolOp)(v:V)(J:Hp)(a:An)(rest:An->(V->Hp->An->Prop)->Prop)(k:V->Hp->An->Prop):Prop:=match a with
 |.o::r=>(match v with
  |.bool b=>rest r fun v2 J2 a2=>(match v2 with|.bool b2=>J2=J/\k (.bool (opB op b b2)) J a2|_=>False)
  |_=>False)
 |a=>(match op with
  |.And=>qL (bR J v) a (fun a=>rest a k) (fun a=>k v J a)
  |.Or=>qL (bR J v) a (fun a=>k v J a) (fun a=>rest a k))
noncomputable def Lg(cs:aG)(mk:MK)(J:Hp)(o:V)(a:Str)(args:List V)(kw:List (Str×V))(n:An)(k:V->Hp->An->Prop):Prop:=match mk with
 |.fn c=>Cg (cs c a (o::args) kw J) n k
 |.bi id=>(match kw with | []=>AA (aQ J id o args) n k|_=>False)
noncomputable def sG(cs:aG)(t:Bool)(f:V)(args:List V)(kw:List (Str×V))(J:Hp)(n:An)(k:V->Hp->An->Prop):Prop:=match f with
 |.fn c m=>Cg (cs c m args kw J) n k
 |.cls c=>(match n with|.s s::r=>cs c ("__init__":Str) (.inst c J.length::args) kw (J++[.dict []]) .none s/\k (.inst c J.length) s r|_=>False)
 |.bi id=>(match kw with | []=>AA (biI t id args J) n k|_=>False)
 |.ty T=>(match kw with | []=>AA (tyI t T args J) n k|_=>False)
 |_=>False
noncomputable abbrev KQ:=V->Hp->An->Prop
abbrev KL:=Loc->Hp->An->Prop
abbrev KF:=Fl->Loc->Hp->An->Prop
noncomputable def iL(asg:V->Loc->Hp->An->KL->Prop)(body:Loc->Hp->An->KF->Prop)(it:It)(N:Nat)(k:Fl->Loc->Hp->Prop):Nat->Loc->Hp->Prop
 |0,loc,J=>bD J it=some N/\k .next loc J
 |n+1,loc,J=>bD J it=some N/\∃v a,fD J (N-(n+1)) it=some v/\asg v loc J a fun loc J a=>body loc J a fun f loc J _=>match f with
  |.next=>iL asg body it N k n loc J
  |.cont=>iL asg body it N k n loc J
  |.brk=>k .next loc J
  |.ret v=>k (.ret v) loc J
noncomputable def fq(test:Loc->Hp->An->KQ->Prop)(body:Loc->Hp->An->KF->Prop)(k:Fl->Loc->Hp->Prop):Nat->Loc->Hp->Prop
 |0,_,_=>False
 |n+1,loc,J=>∃a,test loc J a fun v J a=>qL (bR J v) a (fun a=>body loc J a fun f loc J _=>match f with
  |.next=>fq test body k n loc J
  |.cont=>fq test body k n loc J
  |.brk=>k .next loc J
  |.ret v=>k (.ret v) loc J) fun _=>k .next loc J
noncomputable def et(test:Loc->Hp->An->KQ->Prop)(body:Loc->Hp->An->KF->Prop)(loc:Loc)(J:Hp)(f:Fl)(l:Loc)(s:Hp):Prop:=fq test body (fun f' l' s'=>f'=f/\l'=l/\s'=s) mu loc J
noncomputable def pV(asg:V->Loc->Hp->An->KL->Prop)(test:Loc->Hp->An->(Bool->Hp->An->Prop)->Prop)(elt:Loc->Hp->An->KQ->Prop)(it:It)(N:Nat)(k:List V->Hp->Prop):Nat->Loc->Hp->List V->Prop
 |0,_,J,acc=>bD J it=some N/\k acc J
 |n+1,loc,J,acc=>(bD J it=some N/\ba acc=true)/\∃v a,fD J (N-(n+1)) it=some v/\asg v loc J a fun loc J a=>test loc J a fun c J a=>match c with
  |false=>pV asg test elt it N k n loc J acc
  |true=>elt loc J a fun y J _=>pV asg test elt it N k n loc J (acc++[y])
noncomputable def iM(asg:V->Loc->Hp->An->KL->Prop)(test:Loc->Hp->An->(Bool->Hp->An->Prop)->Prop)(elt:Loc->Hp->An->KQ->Prop)(t:Bool)(v:V)(loc:Loc)(J:Hp)(x:V)(s:Hp):Prop :=
 ∃it N,gZ J v=some it/\bD J it=some N/\pV asg test elt it N (fun acc J=>ba acc=true/\bG t acc J=(x,s)) N loc J []
noncomputable def eW(asg:V->Loc->Hp->An->KL->Prop)(body:Loc->Hp->An->KF->Prop)(tg:Expr)(it:It)(loc:Loc)(J:Hp)(f:Fl)(l:Loc)(s:Hp):Prop :=
 ∃N,bD J it=some N/\nU tg it=true/\iL asg body it N (fun f' l' s'=>f'=f/\l'=l/\s'=s) N loc J
mutual
noncomputable def bu(T:Tab)(mt:Pos->Bool)(cs:aG):Expr->Loc->Hp->An->KQ->Prop
 |.Constant c _ _,_,J,a,k=>(match qJ c with|some v=>k v J a|Option.none=>False)
 |.Name x _,loc,J,a,k=>(match pU T loc x with|some v=>k v J a|Option.none=>False)
 |.BinOp l op r pos,loc,J,a,k=>bu T mt cs l loc J a fun x J a=>bu T mt cs r loc J a fun y J a=>AA (dI (mt pos) op x y J) a k
 |.UnaryOp op x _,loc,J,a,k=>bu T mt cs x loc J a fun v J a=>qK (unI op v J) a fun v a=>k v J a
 |.BoolOp op es _,loc,J,a,k=>runB T mt cs op es loc J a k
 |.IfExp t b e _,loc,J,a,k=>bu T mt cs t loc J a fun v J a=>qL (bR J v) a (fun a=>bu T mt cs b loc J a k) (fun a=>bu T mt cs e loc J a k)
 |.Dict keys vals pos,loc,J,a,k=>(match keys.mapM g0 with
  |some ks=>(ks.length=vals.length/\ks.length<=15)/\runEs T mt cs vals loc J a fun vs J a=>k (.ref J.length) (J++[.dict (t7 (ks.zip vs))]) a
  |Option.none=>False)
 |.List es pos,loc,J,a,k=>runEs T mt cs es loc J a fun vs J a=>ba vs=true/\k (bG (mt pos) vs J).1 (bG (mt pos) vs J).2 a
 |.Tuple es _ _,loc,J,a,k=>runEs T mt cs es loc J a fun vs J a=>ba vs=true/\k (.tup vs) J a
 |.Compare l ops rs _,loc,J,a,k=>bu T mt cs l loc J a fun x J a=>runC T mt cs x ops rs loc J a k
 |.Call (.Attribute o at' apos) args kws pos,loc,J,a,k=>(apos.endLine==pos.line&&vS o args kws)=true/\bu T mt cs o loc J a fun ov J a=>OV (bd T J ov at') a fun mk a=>runEs T mt cs args loc J a fun as J a=>runK T mt cs kws loc J a fun kw J a=>Lg cs mk J ov at' as kw a k
 |.Call (.Name f _) args kws pos,loc,J,a,k=>vU args kws=true/\(match pU T loc f with
  |some g=>runEs T mt cs args loc J a fun as J a=>runK T mt cs kws loc J a fun kw J a=>sG cs (mt pos) g as kw J a k
  |Option.none=>False)
 |.Attribute o at' _,loc,J,a,k=>xo o=true/\bu T mt cs o loc J a fun ov J a=>qK (bS T J ov at') a fun v a=>k v J a
 |.Subscript o (.Slice lo hi st _) pos,loc,J,a,k=>bu T mt cs o loc J a fun ov J a=>runP T mt cs lo loc J a fun x J a=>runP T mt cs hi loc J a fun y J a=>runP T mt cs st loc J a fun z J a=>AA (bm (mt pos) J ov x y z) a k
 |.Subscript o (.Name i ip) pos,loc,J,a,k=>bu T mt cs o loc J a fun ov J a=>bu T mt cs (.Name i ip) loc J a fun iv J a=>qK (af J ov iv) a fun v a=>k v J a
 |.Subscript o (.Constant i i2 ip) pos,loc,J,a,k=>bu T mt cs o loc J a fun ov J a=>bu T mt cs (.Constant i i2 ip) loc J a fun iv J a=>qK (af J ov iv) a fun v a=>k v J a
 |.Subscript o (.BinOp i1 i2 i3 ip) pos,loc,J,a,k=>bu T mt cs o loc J a fun ov J a=>bu T mt cs (.BinOp i1 i2 i3 ip) loc J a fun iv J a=>qK (af J ov iv) a fun v a=>k v J a
 |.Subscript o (.UnaryOp i1 i2 ip) pos,loc,J,a,k=>bu T mt cs o loc J a fun ov J a=>bu T mt cs (.UnaryOp i1 i2 ip) loc J a fun iv J a=>qK (af J ov iv) a fun v a=>k v J a
 |.Subscript o (.Call i1 i2 i3 ip) pos,loc,J,a,k=>bu T mt cs o loc J a fun ov J a=>bu T mt cs (.Call i1 i2 i3 ip) loc J a fun iv J a=>qK (af J ov iv) a fun v a=>k v J a
 |.Subscript o (.Attribute i1 i2 ip) pos,loc,J,a,k=>bu T mt cs o loc J a fun ov J a=>bu T mt cs (.Attribute i1 i2 ip) loc J a fun iv J a=>qK (af J ov iv) a fun v a=>k v J a
 |.Subscript o (.Subscript i1 i2 ip) pos,loc,J,a,k=>bu T mt cs o loc J a fun ov J a=>bu T mt cs (.Subscript i1 i2 ip) loc J a fun iv J a=>qK (af J ov iv) a fun v a=>k v J a
 |.ListComp elt [⟨tgt,iter,ifs,as⟩] scope pos,loc,J,a,k=>as=0/\t8 scope loc=true/\bu T mt cs iter loc J a fun v J a=>Cg (iM (runA T mt cs tgt) (runT T mt cs ifs) (bu T mt cs elt) (mt pos) v (qv scope loc) J) a k
 |_,_,_,_,_=>False
noncomputable def runP(T:Tab)(mt:Pos->Bool)(cs:aG):Option Expr->Loc->Hp->An->KQ->Prop
 |Option.none,_,J,a,k=>k .none J a
 |some e,loc,J,a,k=>bu T mt cs e loc J a k
noncomputable def runEs(T:Tab)(mt:Pos->Bool)(cs:aG):List Expr->Loc->Hp->An->(List V->Hp->An->Prop)->Prop
 |[],_,J,a,k=>k [] J a
 |e::es,loc,J,a,k=>bu T mt cs e loc J a fun v J a=>runEs T mt cs es loc J a fun vs J a=>k (v::vs) J a
noncomputable def runK(T:Tab)(mt:Pos->Bool)(cs:aG):List Keyword->Loc->Hp->An->(List (Str×V)->Hp->An->Prop)->Prop
 |[],_,J,a,k=>k [] J a
 |⟨some n,e,_⟩::ks,loc,J,a,k=>bu T mt cs e loc J a fun v J a=>runK T mt cs ks loc J a fun vs J a=>k ((n,v)::vs) J a
 |⟨Option.none,_,_⟩::_,_,_,_,_=>False
noncomputable def runB(T:Tab)(mt:Pos->Bool)(cs:aG):BoolOp->List Expr->Loc->Hp->An->KQ->Prop
 |_,[],_,_,_,_=>False
 |_,[e],loc,J,a,k=>bu T mt cs e loc J a k
 |op,e::e2::es,loc,J,a,k=>bu T mt cs e loc J a fun v J a=>brB op v J a (fun a k=>runB T mt cs op (e2::es) loc J a k) k
noncomputable def runC(T:Tab)(mt:Pos->Bool)(cs:aG):V->List CmpOp->List Expr->Loc->Hp->An->KQ->Prop
 |x,[op],[e],loc,J,a,k=>bu T mt cs e loc J a fun y J a=>GI (bA J op x y) a fun c a=>k (.bool c) J a
 |x,op::o2::ops,e::e2::es,loc,J,a,k=>bu T mt cs e loc J a fun y J a=>GI (bA J op x y) a fun c a=>brB .And (.bool c) J a (fun a k=>runC T mt cs y (o2::ops) (e2::es) loc J a k) k
 |_,_,_,_,_,_,_=>False
noncomputable def runT(T:Tab)(mt:Pos->Bool)(cs:aG):List Expr->Loc->Hp->An->(Bool->Hp->An->Prop)->Prop
 |[],_,J,a,k=>k true J a
 |e::es,loc,J,a,k=>bu T mt cs e loc J a fun v J a=>qL (bR J v) a (fun a=>runT T mt cs es loc J a k) (fun a=>k false J a)
noncomputable def runA(T:Tab)(mt:Pos->Bool)(cs:aG):Expr->V->Loc->Hp->An->KL->Prop
 |.Name x _,v,loc,J,a,k=>(match loc.put x v with|some l=>k l J a|Option.none=>False)
 |.Attribute o at' _,v,loc,J,a,k=>bu T mt cs o loc J a fun ov J a=>Ld (cY T J ov at' v) a fun J a=>k loc J a
 |.Subscript o i _,v,loc,J,a,k=>bu T mt cs o loc J a fun ov J a=>bu T mt cs i loc J a fun iv J a=>Ld (eo J ov iv v) a fun J a=>k loc J a
 |.Tuple es _ _,v,loc,J,a,k=>(match v with
  |.tup vs=>(match cn es vs loc with|some l=>k l J a|Option.none=>False)
  |_=>False)
 |_,_,_,_,_,_=>False
end
noncomputable def y0(T:Tab)(mt:Pos->Bool)(cs:aG):Expr->Loc->Hp->An->(It->Hp->An->Prop)->Prop
 |.Call (.Name f _) [e] [] pos,loc,J,a,k=>eV e=true/\(match pU T loc f with
  |some g=>bu T mt cs e loc J a fun v J a=>(match t9 g with
   |true=>(a7 J v).isSome=true/\k (.enm v) J a
   |false=>sG cs (mt pos) g [v] [] J a fun w J a=>xp (gZ J w) a fun it a=>k it J a)
  |Option.none=>False)
 |e,loc,J,a,k=>bu T mt cs e loc J a fun w J a=>xp (gZ J w) a fun it a=>k it J a
mutual
noncomputable def Lh(T:Tab)(mt:Pos->Bool)(cs:aG):Stmt->Loc->Hp->An->KF->Prop
 |.Expr e _,loc,J,a,k=>GH e=false/\bu T mt cs e loc J a fun v J a=>(match v with
  |.none=>k .next loc J a
  |_=>False)
 |.Pass _,loc,J,a,k=>k .next loc J a
 |.Break _,loc,J,a,k=>k .brk loc J a
 |.Continue _,loc,J,a,k=>k .cont loc J a
 |.Return Option.none _,loc,J,a,k=>k (.ret .none) loc J a
 |.Return (some e) _,loc,J,a,k=>bu T mt cs e loc J a fun v J a=>k (.ret v) loc J a
 |.Assign [t] e _,loc,J,a,k=>Cf t e=true/\bu T mt cs e loc J a fun v J a=>runA T mt cs t v loc J a fun l J a=>k .next l J a
 |.If t b o _,loc,J,a,k=>bu T mt cs t loc J a fun v J a=>qL (bR J v) a (fun a=>runSs T mt cs b loc J a k) (fun a=>runSs T mt cs o loc J a k)
 |.While t b [] _,loc,J,a,k=>Lf (et (bu T mt cs t) (runSs T mt cs b) loc J) a k
 |.For t it b [] _,loc,J,a,k=>y0 T mt cs it loc J a fun it J a=>Lf (eW (runA T mt cs t) (runSs T mt cs b) t it loc J) a k
 |_,_,_,_,_=>False
noncomputable def runSs(T:Tab)(mt:Pos->Bool)(cs:aG):List Stmt->Loc->Hp->An->KF->Prop
 |[],loc,J,a,k=>k .next loc J a
 |s::ss,loc,J,a,k=>Lh T mt cs s loc J a fun f l J a=>(match f with
  |.next=>runSs T mt cs ss l J a k
  |f=>k f l J a)
end
noncomputable def GJ(v:V)(J:Hp):KF:=fun f _ s _=>match f with
 |.ret x=>x=v/\s=J
 |.next=>.none=v/\s=J
 |_=>False
mutual
noncomputable def fG(n:Nat):V->Bool
 |.ref k=>decide (k<n)
 |.inst _ k=>decide (k<n)
 |.tup xs=>refsL n xs
 |.lst xs=>refsL n xs
 |_=>true
noncomputable def refsL(n:Nat):List V->Bool
 |[]=>true
 |x::xs=>fG n x&&refsL n xs
end
noncomputable def cg(n:Nat):ab->Bool
 |.list xs=>refsL n xs
 |.dict es=>refsL n (es.map (·.2))
 |.tdict es=>refsL n (es.map (·.1))&&refsL n (es.map (·.2))
noncomputable def OW(n:Nat)(v:V)(s1 s:Hp):Prop:=s1=s\/(s=s1.take n/\fG n v=true/\s.all (cg n)=true)
noncomputable def mv(T:Tab)(mt:Pos->Bool):Nat->aG
 |0=>fun _ _ _ _ _ _ _=>False
 |d+1=>fun c m args kw J v s=>∃fd binds a s1,T.fns.lookup (c,m)=some fd/\vV fd args kw=some binds/\runSs T mt (mv T mt d) fd.body (tw fd.scope binds) J a (GJ v s1)/\OW J.length v s1 s
noncomputable def Ch(a:An)(X:Prop):Prop:=X
theorem z0{e:Prop}(h:e):Ch [] e:=h
theorem zC{r:An}{X:Prop}(c:Ch r X):Ch (.c::r) X:=c
theorem zV{o:Option V}{x:V}{r:An}{X:Prop}(h:o=some x)(c:Ch r X):Ch (.v x::r) (o=some x/\X):=⟨h,c⟩
theorem zP{o:Option (V×Hp)}{x:V}{s:Hp}{r:An}{X:Prop}(h:o=some (x,s))(c:Ch r X):Ch (.p x s::r) (o=some (x,s)/\X):=⟨h,c⟩
theorem zS{o:Option Hp}{s:Hp}{r:An}{X:Prop}(h:o=some s)(c:Ch r X):Ch (.s s::r) (o=some s/\X):=⟨h,c⟩
theorem zK{o:Option MK}{x:MK}{r:An}{X:Prop}(h:o=some x)(c:Ch r X):Ch (.k x::r) (o=some x/\X):=⟨h,c⟩
theorem zI{o:Option It}{x:It}{r:An}{X:Prop}(h:o=some x)(c:Ch r X):Ch (.i x::r) (o=some x/\X):=⟨h,c⟩
theorem zT{o:Option Bool}{x:Bool}{r:An}{X:Prop}(h:o=some x)(c:Ch r X):Ch (.t x::r) (o=some x/\X):=⟨h,c⟩
theorem zF{F:V->Hp->Prop}{x:V}{s:Hp}{r:An}{X:Prop}(h:F x s)(c:Ch r X):Ch (.p x s::r) (F x s/\X):=⟨h,c⟩
theorem zN{cs:aG}{c m:Str}{args:List V}{kw:List (Str×V)}{J s:Hp}{r:An}{X:Prop}(h:cs c m args kw J .none s)(ch:Ch r X):Ch (.s s::r) (cs c m args kw J .none s/\X):=⟨h,ch⟩
theorem zD{cs:aG}{c m:Str}{args:List V}{kw:List (Str×V)}{J s:Hp}{x:V}{r:An}{X:Prop}(h:cs c m args kw J x s)(ch:Ch r X):Ch (.p x s::r) (cs c m args kw J x s/\X):=⟨h,ch⟩
theorem zL{F:Fl->Loc->Hp->Prop}{f:Fl}{l:Loc}{s:Hp}{r:An}{X:Prop}(h:F f l s)(c:Ch r X):Ch (.l f l s::r) (F f l s/\X):=⟨h,c⟩
theorem zA{e:Prop}{r:An}{X:Prop}(h:e)(c:Ch r X):Ch r (e/\X):=⟨h,c⟩
theorem zR{r:An}{X:Prop}(c:Ch r X):Ch r (true=true/\X):=⟨rfl,c⟩
theorem zQ{r:An}{X:Prop}(c:Ch r X):Ch r (false=false/\X):=⟨rfl,c⟩
theorem z1{r:An}{X:Prop}(c:Ch r X):Ch (.b true::r) (true=true/\X):=⟨rfl,c⟩
theorem z2{r:An}{X:Prop}(c:Ch r X):Ch (.b false::r) (false=false/\X):=⟨rfl,c⟩
theorem zH{d c:Bool}{r:An}{X:Prop}(h:d=c)(ch:Ch r X):Ch (.b c::r) (d=c/\X):=⟨h,ch⟩
theorem zO{r:An}{X:Prop}(ch:Ch r X):Ch (.o::r) X:=ch
theorem zM{d:Bool}{p q:An}{X Y:Prop}(f:d=true->Ch p X)(g:d=false->Ch q Y):Ch [.m p q] ((d=true->X)/\(d=false->Y)):=⟨f,g⟩
theorem zB{o:Option Bool}{d:Bool}{p q:An}{X Y:Prop}(h:o=some d)(f:d=true->Ch p X)(g:d=false->Ch q Y):Ch [.m p q] (qL o [.m p q] (fun _=>X) (fun _=>Y)):=by rw[h];exact⟨f,g⟩
theorem Ch.R{r:An}{X:Prop}(c:Ch r X):Ch r (true=true/\X):=zR c
theorem Ch.Q{r:An}{X:Prop}(c:Ch r X):Ch r (false=false/\X):=zQ c
theorem Ch.C{r:An}{X:Prop}(c:Ch r X):Ch (.c::r) X:=c
theorem Ch.O{r:An}{X:Prop}(c:Ch r X):Ch (.o::r) X:=c
theorem Ch.T{r:An}{X:Prop}(c:Ch r X):Ch (.b true::r) (true=true/\X):=z1 c
theorem Ch.F{r:An}{X:Prop}(c:Ch r X):Ch (.b false::r) (false=false/\X):=z2 c
theorem nT{t:Bool}(h:t=true):(!t)=false:=by rw[h];rfl
theorem nF{t:Bool}(h:t=false):(!t)=true:=by rw[h];rfl
theorem xT{α:Type}{t:Bool}{p q x:α}(h:t=true)(e:p=x):cond t p q=x:=by rw[h];exact e
theorem xF{α:Type}{t:Bool}{p q x:α}(h:t=false)(e:q=x):cond t p q=x:=by rw[h];exact e
theorem Ci{T:Tab}{mt:Pos->Bool}{d:Nat}{c m:Str}{args:List V}{kw:List (Str×V)}{J s:Hp}{v:V}{fd:aD}{binds:List (Str×V)}{a:An}{X:Prop}(f:(v=v/\s=s)->Ch a X)(h1:T.fns.lookup (c,m)=some fd:=by rfl')(h2:vV fd args kw=some binds:=by rfl')(h:X=runSs T mt (mv T mt d) fd.body (tw fd.scope binds) J a (GJ v s):=by rfl'):mv T mt (d+1) c m args kw J v s :=
 ⟨fd,binds,a,s,h1,h2,h▸f ⟨rfl,rfl⟩,.inl rfl⟩
theorem zE(s:Hp){x v:V}(h:x=v):v=x/\s=s:=⟨h.symm,rfl⟩
theorem zW(s:Hp){r:An}{X:Prop}(c:Ch r X):Ch r (s=s/\X):=⟨rfl,c⟩
theorem ag{T:Tab}{mt:Pos->Bool}{d:Nat}{c m:Str}{args:List V}{kw:List (Str×V)}{J s:Hp}{v:V}(fd:aD)(l:List V){a:An}{X:Prop}(f:(v=v/\s=s)->Ch a X)(h1:T.fns.lookup (c,m)=some fd:=by rfl')(h2:vV fd args kw=some (fd.params.zip l):=by rfl')(h:X=runSs T mt (mv T mt d) fd.body (tw fd.scope (fd.params.zip l)) J a (GJ v s):=by rfl'):mv T mt (d+1) c m args kw J v s:=Ci f h1 h2 h
universe u
theorem eX{p1:Prop}{p2:Prop}{p3:Prop}{G:Prop}(h:p1/\p2/\p3)(k:p1->p2->p3->G):G:=k h.1 h.2.1 h.2.2
theorem tz{p1:Prop}{α1:Sort u}{p2:α1->Prop}{G:Prop}(h:p1/\∃x1:α1,p2 x1)(k:p1->∀x1:α1,p2 x1->G):G:=Tu h.2 fun x1 q1=>k h.1 x1 q1
theorem ae{α1:Sort u}{p1:α1->Prop}{p2:α1->Prop}{G:Prop}(h:∃x1:α1,p1 x1/\p2 x1)(k:∀x1:α1,p1 x1->p2 x1->G):G:=Tu h fun x1 q1=>k x1 q1.1 q1.2
theorem iN{α1:Sort u}{α2:Sort u}{p1:α1->α2->Prop}{G:Prop}(h:∃x1:α1,∃x2:α2,p1 x1 x2)(k:∀x1:α1,∀x2:α2,p1 x1 x2->G):G:=Tu h fun x1 q1=>Tu q1 fun x2 q2=>k x1 x2 q2
theorem Li{p1:Prop}{p2:Prop}{α1:Sort u}{p3:α1->Prop}{G:Prop}(h:p1/\p2/\∃x1:α1,p3 x1)(k:p1->p2->∀x1:α1,p3 x1->G):G:=Tu h.2.2 fun x1 q1=>k h.1 h.2.1 x1 q1
theorem Lj{p1:Prop}{α1:Sort u}{α2:Sort u}{p2:α1->α2->Prop}{G:Prop}(h:p1/\∃x1:α1,∃x2:α2,p2 x1 x2)(k:p1->∀x1:α1,∀x2:α2,p2 x1 x2->G):G:=Tu h.2 fun x1 q1=>Tu q1 fun x2 q2=>k h.1 x1 x2 q2
theorem cG{α1:Sort u}{p1:α1->Prop}{p2:α1->Prop}{p3:α1->Prop}{G:Prop}(h:∃x1:α1,p1 x1/\p2 x1/\p3 x1)(k:∀x1:α1,p1 x1->p2 x1->p3 x1->G):G:=Tu h fun x1 q1=>k x1 q1.1 q1.2.1 q1.2.2
theorem bw{α1:Sort u}{α2:Sort u}{p1:α1->α2->Prop}{p2:α1->α2->Prop}{G:Prop}(h:∃x1:α1,∃x2:α2,p1 x1 x2/\p2 x1 x2)(k:∀x1:α1,∀x2:α2,p1 x1 x2->p2 x1 x2->G):G:=Tu h fun x1 q1=>Tu q1 fun x2 q2=>k x1 x2 q2.1 q2.2
theorem bp{α1:Sort u}{α2:Sort u}{α3:Sort u}{p1:α1->α2->α3->Prop}{G:Prop}(h:∃x1:α1,∃x2:α2,∃x3:α3,p1 x1 x2 x3)(k:∀x1:α1,∀x2:α2,∀x3:α3,p1 x1 x2 x3->G):G:=Tu h fun x1 q1=>Tu q1 fun x2 q2=>Tu q2 fun x3 q3=>k x1 x2 x3 q3
theorem y5{p1:Prop}{α1:Sort u}{α2:Sort u}{p2:α1->α2->Prop}{p3:α1->α2->Prop}{G:Prop}(h:p1/\∃x1:α1,∃x2:α2,p2 x1 x2/\p3 x1 x2)(k:p1->∀x1:α1,∀x2:α2,p2 x1 x2->p3 x1 x2->G):G:=Tu h.2 fun x1 q1=>Tu q1 fun x2 q2=>k h.1 x1 x2 q2.1 q2.2
theorem jE{α1:Sort u}{p1:α1->Prop}{p2:α1->Prop}{p3:α1->Prop}{p4:α1->Prop}{G:Prop}(h:∃x1:α1,p1 x1/\p2 x1/\p3 x1/\p4 x1)(k:∀x1:α1,p1 x1->p2 x1->p3 x1->p4 x1->G):G:=Tu h fun x1 q1=>k x1 q1.1 q1.2.1 q1.2.2.1 q1.2.2.2
theorem cW{α1:Sort u}{α2:Sort u}{p1:α1->α2->Prop}{p2:α1->α2->Prop}{p3:α1->α2->Prop}{G:Prop}(h:∃x1:α1,∃x2:α2,p1 x1 x2/\p2 x1 x2/\p3 x1 x2)(k:∀x1:α1,∀x2:α2,p1 x1 x2->p2 x1 x2->p3 x1 x2->G):G:=Tu h fun x1 q1=>Tu q1 fun x2 q2=>k x1 x2 q2.1 q2.2.1 q2.2.2
theorem aW{α1:Sort u}{α2:Sort u}{α3:Sort u}{p1:α1->α2->α3->Prop}{p2:α1->α2->α3->Prop}{G:Prop}(h:∃x1:α1,∃x2:α2,∃x3:α3,p1 x1 x2 x3/\p2 x1 x2 x3)(k:∀x1:α1,∀x2:α2,∀x3:α3,p1 x1 x2 x3->p2 x1 x2 x3->G):G:=Tu h fun x1 q1=>Tu q1 fun x2 q2=>Tu q2 fun x3 q3=>k x1 x2 x3 q3.1 q3.2
theorem qw{α1:Sort u}{α2:Sort u}{α3:Sort u}{α4:Sort u}{p1:α1->α2->α3->α4->Prop}{G:Prop}(h:∃x1:α1,∃x2:α2,∃x3:α3,∃x4:α4,p1 x1 x2 x3 x4)(k:∀x1:α1,∀x2:α2,∀x3:α3,∀x4:α4,p1 x1 x2 x3 x4->G):G:=Tu h fun x1 q1=>Tu q1 fun x2 q2=>Tu q2 fun x3 q3=>Tu q3 fun x4 q4=>k x1 x2 x3 x4 q4
theorem jo{p1:Prop}{α1:Sort u}{α2:Sort u}{p2:α1->α2->Prop}{p3:α1->α2->Prop}{p4:α1->α2->Prop}{G:Prop}(h:p1/\∃x1:α1,∃x2:α2,p2 x1 x2/\p3 x1 x2/\p4 x1 x2)(k:p1->∀x1:α1,∀x2:α2,p2 x1 x2->p3 x1 x2->p4 x1 x2->G):G:=Tu h.2 fun x1 q1=>Tu q1 fun x2 q2=>k h.1 x1 x2 q2.1 q2.2.1 q2.2.2
theorem qM{α1:Sort u}{p1:α1->Prop}{p2:α1->Prop}{p3:α1->Prop}{p4:α1->Prop}{p5:α1->Prop}{G:Prop}(h:∃x1:α1,p1 x1/\p2 x1/\p3 x1/\p4 x1/\p5 x1)(k:∀x1:α1,p1 x1->p2 x1->p3 x1->p4 x1->p5 x1->G):G:=Tu h fun x1 q1=>k x1 q1.1 q1.2.1 q1.2.2.1 q1.2.2.2.1 q1.2.2.2.2
theorem g7{α1:Sort u}{p1:α1->Prop}{p2:α1->Prop}{α2:Sort u}{p3:α1->α2->Prop}{p4:α1->α2->Prop}{G:Prop}(h:∃x1:α1,p1 x1/\p2 x1/\∃x2:α2,p3 x1 x2/\p4 x1 x2)(k:∀x1:α1,p1 x1->p2 x1->∀x2:α2,p3 x1 x2->p4 x1 x2->G):G:=Tu h fun x1 q1=>Tu q1.2.2 fun x2 q2=>k x1 q1.1 q1.2.1 x2 q2.1 q2.2
theorem eY{α1:Sort u}{α2:Sort u}{p1:α1->α2->Prop}{p2:α1->α2->Prop}{p3:α1->α2->Prop}{p4:α1->α2->Prop}{G:Prop}(h:∃x1:α1,∃x2:α2,p1 x1 x2/\p2 x1 x2/\p3 x1 x2/\p4 x1 x2)(k:∀x1:α1,∀x2:α2,p1 x1 x2->p2 x1 x2->p3 x1 x2->p4 x1 x2->G):G:=Tu h fun x1 q1=>Tu q1 fun x2 q2=>k x1 x2 q2.1 q2.2.1 q2.2.2.1 q2.2.2.2
theorem bt{α1:Sort u}{α2:Sort u}{α3:Sort u}{p1:α1->α2->α3->Prop}{p2:α1->α2->α3->Prop}{p3:α1->α2->α3->Prop}{G:Prop}(h:∃x1:α1,∃x2:α2,∃x3:α3,p1 x1 x2 x3/\p2 x1 x2 x3/\p3 x1 x2 x3)(k:∀x1:α1,∀x2:α2,∀x3:α3,p1 x1 x2 x3->p2 x1 x2 x3->p3 x1 x2 x3->G):G:=Tu h fun x1 q1=>Tu q1 fun x2 q2=>Tu q2 fun x3 q3=>k x1 x2 x3 q3.1 q3.2.1 q3.2.2
theorem Cj{α1:Sort u}{α2:Sort u}{α3:Sort u}{α4:Sort u}{p1:α1->α2->α3->α4->Prop}{p2:α1->α2->α3->α4->Prop}{G:Prop}(h:∃x1:α1,∃x2:α2,∃x3:α3,∃x4:α4,p1 x1 x2 x3 x4/\p2 x1 x2 x3 x4)(k:∀x1:α1,∀x2:α2,∀x3:α3,∀x4:α4,p1 x1 x2 x3 x4->p2 x1 x2 x3 x4->G):G:=Tu h fun x1 q1=>Tu q1 fun x2 q2=>Tu q2 fun x3 q3=>Tu q3 fun x4 q4=>k x1 x2 x3 x4 q4.1 q4.2
theorem gX{α1:Sort u}{p1:α1->Prop}{p2:α1->Prop}{α2:Sort u}{p3:α1->α2->Prop}{p4:α1->α2->Prop}{p5:α1->α2->Prop}{G:Prop}(h:∃x1:α1,p1 x1/\p2 x1/\∃x2:α2,p3 x1 x2/\p4 x1 x2/\p5 x1 x2)(k:∀x1:α1,p1 x1->p2 x1->∀x2:α2,p3 x1 x2->p4 x1 x2->p5 x1 x2->G):G:=Tu h fun x1 q1=>Tu q1.2.2 fun x2 q2=>k x1 q1.1 q1.2.1 x2 q2.1 q2.2.1 q2.2.2
theorem oW{α1:Sort u}{α2:Sort u}{p1:α1->α2->Prop}{p2:α1->α2->Prop}{p3:α1->α2->Prop}{p4:α1->α2->Prop}{p5:α1->α2->Prop}{G:Prop}(h:∃x1:α1,∃x2:α2,p1 x1 x2/\p2 x1 x2/\p3 x1 x2/\p4 x1 x2/\p5 x1 x2)(k:∀x1:α1,∀x2:α2,p1 x1 x2->p2 x1 x2->p3 x1 x2->p4 x1 x2->p5 x1 x2->G):G:=Tu h fun x1 q1=>Tu q1 fun x2 q2=>k x1 x2 q2.1 q2.2.1 q2.2.2.1 q2.2.2.2.1 q2.2.2.2.2
theorem gg{α1:Sort u}{α2:Sort u}{α3:Sort u}{p1:α1->α2->α3->Prop}{p2:α1->α2->α3->Prop}{p3:α1->α2->α3->Prop}{p4:α1->α2->α3->Prop}{G:Prop}(h:∃x1:α1,∃x2:α2,∃x3:α3,p1 x1 x2 x3/\p2 x1 x2 x3/\p3 x1 x2 x3/\p4 x1 x2 x3)(k:∀x1:α1,∀x2:α2,∀x3:α3,p1 x1 x2 x3->p2 x1 x2 x3->p3 x1 x2 x3->p4 x1 x2 x3->G):G:=Tu h fun x1 q1=>Tu q1 fun x2 q2=>Tu q2 fun x3 q3=>k x1 x2 x3 q3.1 q3.2.1 q3.2.2.1 q3.2.2.2
theorem qN{α1:Sort u}{α2:Sort u}{α3:Sort u}{p1:α1->α2->α3->Prop}{p2:α1->α2->α3->Prop}{p3:α1->α2->α3->Prop}{p4:α1->α2->α3->Prop}{p5:α1->α2->α3->Prop}{G:Prop}(h:∃x1:α1,∃x2:α2,∃x3:α3,p1 x1 x2 x3/\p2 x1 x2 x3/\p3 x1 x2 x3/\p4 x1 x2 x3/\p5 x1 x2 x3)(k:∀x1:α1,∀x2:α2,∀x3:α3,p1 x1 x2 x3->p2 x1 x2 x3->p3 x1 x2 x3->p4 x1 x2 x3->p5 x1 x2 x3->G):G:=Tu h fun x1 q1=>Tu q1 fun x2 q2=>Tu q2 fun x3 q3=>k x1 x2 x3 q3.1 q3.2.1 q3.2.2.1 q3.2.2.2.1 q3.2.2.2.2
theorem xq{α1:Sort u}{α2:Sort u}{α3:Sort u}{α4:Sort u}{p1:α1->α2->α3->α4->Prop}{p2:α1->α2->α3->α4->Prop}{p3:α1->α2->α3->α4->Prop}{p4:α1->α2->α3->α4->Prop}{G:Prop}(h:∃x1:α1,∃x2:α2,∃x3:α3,∃x4:α4,p1 x1 x2 x3 x4/\p2 x1 x2 x3 x4/\p3 x1 x2 x3 x4/\p4 x1 x2 x3 x4)(k:∀x1:α1,∀x2:α2,∀x3:α3,∀x4:α4,p1 x1 x2 x3 x4->p2 x1 x2 x3 x4->p3 x1 x2 x3 x4->p4 x1 x2 x3 x4->G):G:=Tu h fun x1 q1=>Tu q1 fun x2 q2=>Tu q2 fun x3 q3=>Tu q3 fun x4 q4=>k x1 x2 x3 x4 q4.1 q4.2.1 q4.2.2.1 q4.2.2.2
theorem vW{α1:Sort u}{α2:Sort u}{α3:Sort u}{p1:α1->α2->α3->Prop}{p2:α1->α2->α3->Prop}{p3:α1->α2->α3->Prop}{p4:α1->α2->α3->Prop}{p5:α1->α2->α3->Prop}{p6:α1->α2->α3->Prop}{G:Prop}(h:∃x1:α1,∃x2:α2,∃x3:α3,p1 x1 x2 x3/\p2 x1 x2 x3/\p3 x1 x2 x3/\p4 x1 x2 x3/\p5 x1 x2 x3/\p6 x1 x2 x3)(k:∀x1:α1,∀x2:α2,∀x3:α3,p1 x1 x2 x3->p2 x1 x2 x3->p3 x1 x2 x3->p4 x1 x2 x3->p5 x1 x2 x3->p6 x1 x2 x3->G):G:=Tu h fun x1 q1=>Tu q1 fun x2 q2=>Tu q2 fun x3 q3=>k x1 x2 x3 q3.1 q3.2.1 q3.2.2.1 q3.2.2.2.1 q3.2.2.2.2.1 q3.2.2.2.2.2
theorem bZ{J:Hp}{i j:Nat}{c:ab}(h:i≠j):(J.set i c)[j]?=J[j]?:=List.getElem?_set_ne h
theorem dg{J:Hp}{i:Nat}{a c:ab}(h:J[i]?=some a):(J.set i c)[i]?=some c:=by have:=(Tr.mp h).1;rw[List.getElem?_set_self this]
theorem b0{i:Int}(h1 : -(2^62)<i)(h2:i<2^62):aO i=true:=by unfold aO;rw[TC];exact⟨To h1,To h2⟩
theorem cp{J:Hp}{n:Nat}{xs:List V}(h:J[n]?=some (.list xs)):a7 J (.ref n)=some xs:=by show dJ J[n]? _ _=_;rw[h];rfl
theorem cq{J:Hp}{n:Nat}{xs:List V}(h:J[n]?=some (.list xs)):bF J (.ref n)=some xs:=cp h
theorem y6{J:Hp}{n:Nat}{xs:List V}(h:J[n]?=some (.list xs)):gZ J (.ref n)=some (.seq (.ref n)):=by show dJ J[n]? _ _=_;rw[h];rfl
theorem jF{J:Hp}{xs:List V}{k:Int}:af J (.lst xs) (.int k)=gY xs k:=rfl
theorem kZ{J:Hp}{o:V}{xs:List V}{k:Int}(h:bF J o=some xs):af J o (.int k)=gY xs k:=by unfold af;rw[h];rfl
theorem jp{i:Int}(h:aO i=true):pT (.int i)=some (some i):=if_pos h
theorem nV{t:Bool}{J:Hp}{o lo hi:V}{xs:List V}{a b:Option Int}(h:a7 J o=some xs)(hl:ba xs=true)(h1:pT lo=some a)(h2:pT hi=some b):bm t J o lo hi .none=some (bG t (oV xs a b) J):=by unfold bm;rw[h,Ue,if_pos hl];show((pT lo).bind fun a=>(pT hi).bind fun b=>some (bG t (oV xs a b) J))=_;rw[h1,h2];rfl
theorem ua{J:Hp}{n:Nat}{es:List (Str×V)}{k:Str}{v:V}(h:J[n]?=some (.dict es))(hk:es.lookup k=some v):af J (.ref n) (.str k)=some v:=by show els (dJ J[n]? _ _) _ (dJ J[n]? _ _)=_;rw[h];exact hk
theorem y7{s:Hp}{n:Nat}{es:List (Str×V)}{k:Str}{v:V}(h:s[n]?=some (.dict es))(hl:es.length<900):eo s (.ref n) (.str k) v=some (s.set n (.dict (em k v es))):=by show dJ s[n]? _ _=_;rw[h];exact if_pos (To hl)
theorem qO{J:Hp}{c:Nat}{xs:List V}(h:J[c]?=some (.list xs)):bA J .NotEq (.ref c) (.lst [])=some (decide (xs.length≠0)):=by show(els (dJ J[c]? _ _) _ _).map _=_;rw[h];cases xs<;>rfl
theorem OX{T:Tab}{J:Hp}{n:Nat}{xs:List V}(h:J[n]?=some (.list xs)):bd T J (.ref n) "pop"=some (.bi "list.pop"):=by show dJ J[n]? _ _=_;rw[h];rfl
theorem aM{T:Tab}{J:Hp}{n:Nat}{xs:List V}(h:J[n]?=some (.list xs)):bd T J (.ref n) "append"=some (.bi "list.append"):=by show dJ J[n]? _ _=_;rw[h];rfl
theorem Ck{J:Hp}{n:Nat}{xs:List V}{x:V}(h:J[n]?=some (.list (xs++[x])))(hl:ba (xs++[x])=true):aQ J "list.pop" (.ref n) []=some (x,J.set n (.list xs)):=by show dJ J[n]? _ _=_;rw[h];show((xs++[x]).getLast?.bind fun y=>if ba (xs++[x])then some (y,J.set n (.list (xs++[x]).dropLast))else none)=_;rw[U6,Vw,hl];rfl
theorem dz{J:Hp}{n:Nat}{xs:List V}{x:V}(h:J[n]?=some (.list xs))(hl:ba xs=true):aQ J "list.append" (.ref n) [x]=some (.none,J.set n (.list (xs++[x]))):=by show dJ J[n]? _ _=_;rw[h];exact if_pos hl
theorem oX{t:Bool}{x y:Int}{J:Hp}(h1:aO x=true)(h2:aO y=true):dI t .Mult (.int x) (.int y) J=some (.int (x*y),J):=by show(if aO x&&aO y then _ else _)=_;rw[h1,h2];rfl
theorem OY{t:Bool}{x y:Int}{J:Hp}(h1:0<y)(h2:y<1000000000):dI t .FloorDiv (.int x) (.int y) J=some (.int (x.fdiv y),J):=by show(if decide (0<y)&&decide (y<1000000000)then _ else _)=_;rw[To h1,To h2];rfl
theorem Lk{t:Bool}{x y:Int}{J:Hp}(h1:0<y):dI t .Mod (.int x) (.int y) J=some (.int (x.fmod y),J):=by show(if decide (0<y)then _ else _)=_;rw[To h1];rfl
theorem dL{a b:Int}(h:0<b):0<=a.fmod b/\a.fmod b<b:=⟨Int.fmod_nonneg_of_pos _ h,Int.fmod_lt_of_pos _ h⟩
theorem aw{F:An->Prop}{a:An}{X:Prop}(c:Ch a X)(h:X=F a:=by rfl'):∃a,F a:=⟨a,Eq.mp h c⟩
noncomputable def bf:Stmt->Expr
 |.For t _ _ _ _=>t
 |_=>.Tuple [] 0 default
noncomputable def bj:Stmt->List Stmt
 |.For _ _ b _ _=>b
 |.While _ b _ _=>b
 |.If _ b _ _=>b
 |_=>[]
noncomputable def iy:Stmt->Expr
 |.While t _ _ _=>t
 |_=>.Tuple [] 0 default
noncomputable def stE:Stmt->Expr
 |.Assign _ e _=>e
 |.Return (some e) _=>e
 |.Expr e _=>e
 |.For _ i _ _ _=>i
 |.If t _ _ _=>t
 |_=>.Tuple [] 0 default
noncomputable def coE:Expr->Expr
 |.ListComp e _ _ _=>e
 |_=>.Tuple [] 0 default
noncomputable def coG:Expr->Comprehension
 |.ListComp _ [g] _ _=>g
 |_=>⟨.Tuple [] 0 default,.Tuple [] 0 default,[],0⟩
noncomputable def Ll(n:Nat):Expr->Expr
 |.Call _ as _ _=>as.getD n (.Tuple [] 0 default)
 |.Tuple es _ _=>es.getD n (.Tuple [] 0 default)
 |.BinOp l _ r _=>if n=0 then l else r
 |.Compare l _ rs _=>if n=0 then l else rs.getD (n-1) (.Tuple [] 0 default)
 |_=>.Tuple [] 0 default
noncomputable def db(n:Nat)(ss:List Stmt):Stmt:=ss.getD n (.Pass default)
abbrev KL3:=Fl->Loc->Hp->Prop
noncomputable abbrev eZ(asg:V->Loc->Hp->An->KL->Prop)(body:Loc->Hp->An->KF->Prop)(x:V)(loc:Loc)(J:Hp)(f:Fl)(l:Loc)(s:Hp):Prop :=
 ∀k:KL3,k f l s->∃a,asg x loc J a fun loc J a=>body loc J a fun f l s _=>k f l s
section
variable{asg:V->Loc->Hp->An->KL->Prop}{body:Loc->Hp->An->KF->Prop}{test:Loc->Hp->An->(Bool->Hp->An->Prop)->Prop}{elt:Loc->Hp->An->KQ->Prop}{wt:Loc->Hp->An->KQ->Prop}{it:It}{tg:Expr}
theorem y8{N:Nat}(Inv:Nat->Loc->Hp->Prop)(Ret:V->Loc->Hp->Prop){loc:Loc}{J:Hp}(h:∀i loc J,i<N->Inv i loc J->bD J it=some N/\∃x f l s,fD J i it=some x/\eZ asg body x loc J f l s/\(((f=.next\/f=.cont)/\Inv (i+1) l s)\/∃v,f=.ret v/\Ret v l s))(hN:∀loc J,Inv N loc J->bD J it=some N)(hl:bD J it=some N)(ht:nU tg it=true)(I:Inv 0 loc J):
 (∃l s,Inv N l s/\eW asg body tg it loc J .next l s)\/∃v l s,Ret v l s/\eW asg body tg it loc J (.ret v) l s:=by
 have key:∀(k:Nat) (loc:Loc) (J:Hp),k<=N->Inv (N-k) loc J->(∃l s,Inv N l s/\iL asg body it N (fun f' l' s'=>f'=.next/\l'=l/\s'=s) k loc J)\/∃v l s,Ret v l s/\iL asg body it N (fun f' l' s'=>f'=.ret v/\l'=l/\s'=s) k loc J:=by
  intro k;induction k with
  |zero=>exact fun loc J _ I=>.inl ⟨loc,J,I,hN loc J I,rfl,rfl,rfl⟩
  |succ k ih=>
   intro loc J hk I;obtain⟨h1,x,f,l,s,h2,h3,h4⟩:=h _ _ _ (by exact ar1 [_,_,_] [] 0 634745231812144 (fp (n:=N) (m:=k+1) (ar1 [_,_] [] 0 585508619568 hk art)) art) I;rcases h4 with⟨hf,I'⟩|⟨v,rfl,hr⟩
   . have e:N-(k+1)+1=N-k:=by exact Ud (ar2 [_,_,_,_] [] 0 628688435376244705840 (fp (n:=N) (m:=k+1) (ar1 [_,_] [] 0 585508619568 hk art)) (iX (n:=N) (m:=k) (ar1 [_,_] [] 0 587760944 hk art)) art) (ar2 [_,_,_,_] [] 0 47904228024809474608 (fp (n:=N) (m:=k) (ar1 [_,_] [] 0 587760944 hk art)) (iX (n:=N) (m:=k+1) (ar1 [_,_] [] 0 585508619568 hk art)) art)
     rw[e]at I';rcases ih l s (UU ‹_›) I' with⟨l',s',I2,R⟩|⟨v,l',s',I2,R⟩
     . refine .inl ⟨l',s',I2,h1,x,?_⟩;obtain⟨a,h5⟩:=h3 (fun f loc J=>match f with
        |.next=>iL asg body it N (fun f'' l'' s''=>f''=.next/\l''=l'/\s''=s') k loc J
        |.cont=>iL asg body it N (fun f'' l'' s''=>f''=.next/\l''=l'/\s''=s') k loc J
        |.brk=>Fl.next=.next/\loc=l'/\J=s'
        |.ret v=>Fl.ret v=.next/\loc=l'/\J=s') (by rcases hf with rfl|rfl<;>exact R)
       exact⟨a,h2,h5⟩
     . refine .inr ⟨v,l',s',I2,h1,x,?_⟩;obtain⟨a,h5⟩:=h3 (fun f loc J=>match f with
        |.next=>iL asg body it N (fun f'' l'' s''=>f''=.ret v/\l''=l'/\s''=s') k loc J
        |.cont=>iL asg body it N (fun f'' l'' s''=>f''=.ret v/\l''=l'/\s''=s') k loc J
        |.brk=>Fl.next=.ret v/\loc=l'/\J=s'
        |.ret w=>Fl.ret w=.ret v/\loc=l'/\J=s') (by rcases hf with rfl|rfl<;>exact R)
       exact⟨a,h2,h5⟩
   . refine .inr ⟨v,l,s,hr,h1,x,?_⟩;obtain⟨a,h5⟩:=h3 (fun f loc J=>match f with
      |.next=>iL asg body it N (fun f'' l'' s''=>f''=.ret v/\l''=l/\s''=s) k loc J
      |.cont=>iL asg body it N (fun f'' l'' s''=>f''=.ret v/\l''=l/\s''=s) k loc J
      |.brk=>Fl.next=.ret v/\loc=l/\J=s
      |.ret w=>Fl.ret w=.ret v/\loc=l/\J=s) ⟨rfl,rfl,rfl⟩
     exact⟨a,h2,h5⟩
 rcases key N loc J (TB _) (by rw[UB];exact I)with⟨l,s,I2,R⟩|⟨v,l,s,I2,R⟩
 .exact .inl ⟨l,s,I2,N,hl,ht,R⟩
 .exact .inr ⟨v,l,s,I2,N,hl,ht,R⟩
theorem dA{N:Nat}(Inv:Nat->Loc->Hp->Prop){loc:Loc}{J:Hp}(h:∀i loc J,i<N->Inv i loc J->bD J it=some N/\∃x f l s,fD J i it=some x/\eZ asg body x loc J f l s/\(f=.next\/f=.cont)/\Inv (i+1) l s)(hN:∀loc J,Inv N loc J->bD J it=some N)(hl:bD J it=some N)(ht:nU tg it=true)(I:Inv 0 loc J):∃l s,Inv N l s/\eW asg body tg it loc J .next l s:=by
 rcases y8 (asg:=asg) (body:=body) (tg:=tg) Inv (fun _ _ _=>False) (fun i loc J hi I=>by
  obtain⟨h1,x,f,l,s,h2,h3,h4⟩:=h i loc J hi I;exact⟨h1,x,f,l,s,h2,h3,.inl h4⟩) hN hl ht I with h|⟨_,_,_,f,_⟩
 .exact h
 .exact f.elim
noncomputable abbrev kA(asg:V->Loc->Hp->An->KL->Prop)(test:Loc->Hp->An->(Bool->Hp->An->Prop)->Prop)(elt:Loc->Hp->An->KQ->Prop)(x:V)(loc:Loc)(J:Hp)(p:Bool)(y:V)(l:Loc)(s:Hp):Prop :=
 ∀k:Bool->V->Loc->Hp->Prop,k p y l s->∃a,asg x loc J a fun loc J a=>test loc J a fun c J a=>match c with
  |false=>k false .none loc J
  |true=>elt loc J a fun y J _=>k true y loc J
theorem lS{N:Nat}(Inv:Nat->Loc->Hp->List V->Prop){loc:Loc}{J:Hp}{v:V}{t:Bool}(hi:gZ J v=some it)(hl:bD J it=some N)(h:∀i loc J acc,i<N->Inv i loc J acc->(bD J it=some N/\ba acc=true)/\∃x p y l s,fD J i it=some x/\kA asg test elt x loc J p y l s/\Inv (i+1) l s (cond p (acc++[y]) acc))(hN:∀loc J acc,Inv N loc J acc->bD J it=some N/\ba acc=true)(I:Inv 0 loc J []):
 ∃acc s l,Inv N l s acc/\iM asg test elt t v loc J (bG t acc s).1 (bG t acc s).2:=by
 have key:∀(k:Nat) (loc:Loc) (J:Hp) (acc:List V),k<=N->Inv (N-k) loc J acc->∃acc' s l,Inv N l s acc'/\pV asg test elt it N (fun a J=>ba a=true/\bG t a J=((bG t acc' s).1,(bG t acc' s).2)) k loc J acc:=by
  intro k;induction k with
  |zero=>exact fun loc J acc _ I=>⟨acc,J,loc,I,(hN loc J acc I).1,(hN loc J acc I).2,rfl⟩
  |succ k ih=>
   intro loc J acc hk I;obtain⟨h1,x,p,y,l,s,h2,h3,I'⟩:=h _ _ _ _ (by exact ar1 [_,_,_] [] 0 634745231812144 (fp (n:=N) (m:=k+1) (ar1 [_,_] [] 0 585508619568 hk art)) art) I;have e:N-(k+1)+1=N-k:=by exact Ud (ar2 [_,_,_,_] [] 0 628688435376244705840 (fp (n:=N) (m:=k+1) (ar1 [_,_] [] 0 585508619568 hk art)) (iX (n:=N) (m:=k) (ar1 [_,_] [] 0 587760944 hk art)) art) (ar2 [_,_,_,_] [] 0 47904228024809474608 (fp (n:=N) (m:=k) (ar1 [_,_] [] 0 587760944 hk art)) (iX (n:=N) (m:=k+1) (ar1 [_,_] [] 0 585508619568 hk art)) art)
   rw[e]at I';refine aW (ih l s _ (UU ‹_›) I') ?_;rintro acc' s' l' I2 R;obtain⟨a,h5⟩:=h3 (fun p y loc J=>pV asg test elt it N (fun a J=>ba a=true/\bG t a J=((bG t acc' s').1,(bG t acc' s').2)) k loc J (cond p (acc++[y]) acc)) R;exact⟨acc',s',l',I2,h1,x,a,h2,h5⟩
 refine aW (key N loc J [] (TB _) (by rw[UB];exact I)) ?_;rintro acc s l I2 R;exact⟨acc,s,l,I2,it,N,hi,hl,R⟩
noncomputable abbrev fH(test:Loc->Hp->An->KQ->Prop)(body:Loc->Hp->An->KF->Prop)(loc:Loc)(J:Hp)(c:Bool)(f:Fl)(l:Loc)(s:Hp):Prop :=
 ∀k:Bool->Fl->Loc->Hp->Prop,k c f l s->∃a,test loc J a fun v J a=>qL (bR J v) a (fun a=>body loc J a fun f l s _=>k true f l s) fun _=>k false .next loc J
theorem nW(Inv:Nat->Loc->Hp->Prop)(End:Loc->Hp->Prop)(h:∀n loc J,Inv n loc J->∃c f l s,fH wt body loc J c f l s/\((c=false/\f=.next/\End l s)\/(c=true/\(f=.next\/f=.cont)/\∃m,m<n/\Inv m l s))):
 ∀(n:Nat) (loc:Loc) (J:Hp) (N:Nat),n<N->Inv n loc J->∃l s,End l s/\fq wt body (fun f' l' s'=>f'=.next/\l'=l/\s'=s) N loc J:=by
 intro n;induction n using Nat.strongRecOn with
 |_ n ih=>
  intro loc J N hN I;refine Cj (h n loc J I) ?_;rintro c f l s h1 h2;cases N with
  |zero=>exact absurd ‹_› (Vj _)
  |succ N=>
   rcases h2 with⟨rfl,rfl,he⟩|⟨rfl,hf,m,hm,I'⟩
   . obtain⟨a,h3⟩:=h1 (fun c f loc J=>match c with
      |false=>Fl.next=.next/\loc=l/\J=s
      |true=>(match f with
       |.next=>fq wt body (fun f' l' s'=>f'=.next/\l'=l/\s'=s) N loc J
       |.cont=>fq wt body (fun f' l' s'=>f'=.next/\l'=l/\s'=s) N loc J
       |.brk=>Fl.next=.next/\loc=l/\J=s
       |.ret v=>Fl.ret v=.next/\loc=l/\J=s)) ⟨rfl,rfl,rfl⟩
     exact⟨l,s,he,a,h3⟩
   . refine bw (ih m hm l s N (ar2 [_,_,_] [] 0 628687309760299042096 hm hN art) I') ?_;rintro l' s' he R;obtain⟨a,h3⟩:=h1 (fun c f loc J=>match c with
      |false=>Fl.next=.next/\loc=l'/\J=s'
      |true=>(match f with
       |.next=>fq wt body (fun f' l'' s''=>f'=.next/\l''=l'/\s''=s') N loc J
       |.cont=>fq wt body (fun f' l'' s''=>f'=.next/\l''=l'/\s''=s') N loc J
       |.brk=>Fl.next=.next/\loc=l'/\J=s'
       |.ret v=>Fl.ret v=.next/\loc=l'/\J=s')) (by rcases hf with rfl|rfl<;>exact R)
     exact⟨l',s',he,a,h3⟩
end
theorem ax{T:Tab}{J:Hp}{c a:Str}{n:Nat}{es:List (Str×V)}{v:V}(cd:cF)(h:J[n]?=some (.dict es))(h3:es.lookup a=some v)(h4:yY v=true)(h1:T.cls.lookup c=some cd:=by rfl')(h2:cd.attrs.contains a=true:=by rfl'):bS T J (.inst c n) a=some v:=by show((T.cls.lookup c).bind fun cd=>dJ J[n]? _ _)=_;rw[h1,h];show(if cd.attrs.contains a then _ else _)=_;rw[h2,h3];exact if_pos h4
theorem dU{T:Tab}{J:Hp}{c a:Str}{n:Nat}{es:List (Str×V)}{v:V}(cd:cF)(h:J[n]?=some (.dict es))(h1:T.cls.lookup c=some cd)(h2:cd.attrs.contains a=true)(h3:es.length<900):cY T J (.inst c n) a v=some (J.set n (.dict (em a v es))):=by show((T.cls.lookup c).bind fun cd=>dJ J[n]? _ _)=_;rw[h1,h];show(if cd.attrs.contains a then _ else _)=_;rw[h2];exact if_pos (To h3)
theorem dZ{T:Tab}{J:Hp}{c a:Str}{n:Nat}{es:List (Str×V)}(cd:cF)(h:J[n]?=some (.dict es))(h1:T.cls.lookup c=some cd)(h2:cd.meths.contains a=true)(h3:es.lookup a=none):bd T J (.inst c n) a=some (.fn c):=by show((T.cls.lookup c).bind fun cd=>dJ J[n]? _ _)=_;rw[h1,h];show(if cd.meths.contains a then _ else _)=_;rw[h2,h3];rfl
theorem tA{T:Tab}{J:Hp}{n:Nat}{es:List (Str×V)}(h:J[n]?=some (.dict es)):bd T J (.ref n) "get"=some (.bi "dict.get"):=by show dJ J[n]? _ _=_;rw[h];rfl
theorem y9{J:Hp}{n:Nat}{es:List (Str×V)}{k:Str}(h:J[n]?=some (.dict es)):aQ J "dict.get" (.ref n) [.str k]=some ((es.lookup k).getD .none,J):=by show dJ J[n]? _ _=_;rw[h];rfl
theorem qx{J:Hp}{n:Nat}{es:List (Str×V)}{k:Str}(h:J[n]?=some (.dict es)):inI J (.str k) (.ref n)=some (es.lookup k).isSome:=by show els (dJ J[n]? _ _) _ (dJ J[n]? _ _)=_;rw[h];rfl
theorem nX{T:Tab}{mt:Pos->Bool}{d:Nat}{c m:Str}{args:List V}{kw:List (Str×V)}{J s:Hp}{v:V}(h:mv T mt d c m args kw J v s)(h1:fG J.length v=true)(h2:(s.take J.length).all (cg J.length)=true):mv T mt d c m args kw J v (s.take J.length):=by
 cases d with|zero=>exact False.elim h|succ d=>
  obtain⟨fd,binds,a,s1,e1,e2,e3,g⟩:=h;refine⟨fd,binds,a,s1,e1,e2,e3,.inr ⟨?_,h1,h2⟩⟩;rcases g with rfl|⟨rfl,_,_⟩
  .rfl
  .rw[List.take_take,Nat.min_self]
noncomputable def kOf:Value->Option AK
 |.none=>some Option.none
 |.bool b=>some (some (.inl (if b then 1 else 0)))
 |.int i _=>some (some (.inl i))
 |.str s _=>some (some (.inr s))
 |_=>Option.none
noncomputable def KH(w:World):AK->Int
 |Option.none=>reduceHash 0xFCA86420
 |some (.inl i)=>hashInt i
 |some (.inr s)=>hashStr w s
theorem QV{v w:Value}{a b:AK}{A:Around}{s:Shared}(ha:kOf v=some a)(hb:kOf w=some b):EqAt A s v w (decide (a=b)):=by
 have no:∀{i:Int}{x:Str},decide ((some (.inl i):AK)=some (.inr x))=false:=Tz (fun e=>nomatch e);have no':∀{i:Int}{x:Str},decide ((some (.inr x):AK)=some (.inl i))=false:=Tz (fun e=>nomatch e);have ii:∀{i j:Int},decide ((some (.inl i):AK)=some (.inl j))=(i==j):=by intro i j;rw[Vt,U4,Ub,Option.some_inj,Sum.inl.injEq]
 have ss:∀{i j:Str},decide ((some (.inr i):AK)=some (.inr j))=(i==j):=by intro i j;rw[Vt,U4,Ub,Option.some_inj,Sum.inr.injEq]
 cases v with
 |none=>
  cases ha;cases w with|none=>cases hb;exact .same _|bool y=>cases hb;exact .none_bool y|int y u=>cases hb;exact .none_int y u|str y u=>cases hb;exact .none_str y u|_=>exact nomatch hb
 |bool x=>
  cases ha;cases w with|none=>cases hb;exact .bool_none x|bool y=>cases hb;rw[ii];cases x<;>cases y<;>exact EqAt.bool_bool _ _|int y u=>cases hb;rw[ii];exact .bool_int x y u|str y u=>cases hb;rw[no];exact .bool_str x y u|_=>exact nomatch hb
 |int x t=>
  cases ha;cases w with|none=>cases hb;exact .int_none x t|bool y=>cases hb;rw[ii];exact .int_bool x t y|int y u=>cases hb;rw[ii];exact .int_int x t y u|str y u=>cases hb;rw[no];exact .int_str x t y u|_=>exact nomatch hb
 |str x t=>
  cases ha;cases w with|none=>cases hb;exact .str_none x t|bool y=>cases hb;rw[no'];exact .str_bool x t y|int y u=>cases hb;rw[no'];exact .str_int x t y u|str y u=>cases hb;rw[ss];exact .str_str x t y u|_=>exact nomatch hb
 |_=>exact nomatch ha
theorem Lm{prog:Program}{w:World}{A:Around}{E:Value->Shared->Prop}{s:Shared}{k:AK}{v:Value}{Q:Int->Shared->Prop}(h:kOf v=some k)(q:Q (KH w k) { s with toks:=s.toks+1}):wpAny (model prog w) A (PySem.pyHash v) Q E s:=by
 cases v with
 |none=>cases h;exact pyHash_slot (T:="NoneType") rfl F.slot_NoneType_hash F.entry_NoneType_hash (F.args_NoneType_hash_1 _) (beq_builtin_none _) (.inl rfl) (Tt (TN (Tt (WR (TN ⟨_,_,rfl,q⟩)))))
 |bool b=>
  cases h;refine pyHash_slot (T:="bool") rfl F.slot_bool_hash entry_int_hash (args_int_hash _) (beq_builtin_none _) (.inl rfl) ?_;cases b
  .exact(show wpAny _ _ (do ret (<-mkInt 0)) _ _ s from Tt (WR (TN ⟨_,_,rfl,q⟩)))
  .exact(show wpAny _ _ (do ret (<-mkInt 1)) _ _ s from Tt (WR (TN ⟨_,_,rfl,q⟩)))
 |int i t=>cases h;exact wpAny_pyHash_int q
 |str i t=>cases h;exact wpAny_pyHash_str q
 |_=>exact nomatch h
def KI(prog:Program)(w:World):KeyKind prog w AK where
 is:=fun k v=>decide (kOf v=some k)
 hash:=KH w
 inj:=fun v a b ha hb=>Tp ((TH ha).symm.trans (TH hb))
 byValue:=fun k v h=>by have h:=TH h;cases v<;>first|rfl|exact nomatch h
 pyHash:=fun h q=>Lm (TH h) q
 eqBool:=fun ha hb q=>QV (TH ha) (TH hb) _ _ _ _ q
 «strs»:=fun k x t v h=>by
  have h:=TH h;cases h;cases v with
  |str y u=>
   refine Vt.mpr ⟨fun q=>?_,fun q=>?_⟩
   .have q:some (some (Sum.inr y))=some (some (Sum.inr x):AK):=TH q;exact Ub.mpr (Sum.inr.inj (Tp (Tp q)))
   .exact To (Tx (fun z=>some (some (Sum.inr z):AK)) (Ub.mp q))
  |_=>exact Tz (fun e=>nomatch e)
abbrev tK(prog:Program)(w:World):HeapKind prog w (List AK):=tupleKind (KI prog w)
theorem bE{α β:Type}{P:Prop}{x:Option α}{f:α->Option β}{r:β}(h:x.bind f=some r)(k:∀a,x=some a->f a=some r->P):P:=by
 cases x with|none=>cases h|some a=>exact k a rfl h
theorem aC{α:Type}{P:Prop}{x:α}(h:Option.none=some x):P:=by cases h
theorem mE{α β:Type}{P:Prop}{x:Option α}{f:α->β}{r:β}(h:x.map f=some r)(k:∀a,x=some a->f a=r->P):P:=by
 cases x with|none=>cases h|some a=>exact k a rfl (Tp h)
theorem ifE{β:Type}{P:Prop}{c:Prop}[Decidable c]{x:Option β}{r:β}(h:(if c then x else Option.none)=some r)(k:c->x=some r->P):P:=by
 by_cases hc:c
 .rw[if_pos hc]at h;exact k hc h
 .rw[if_neg hc]at h;exact aC h
theorem kH{γ β:Type}[BEq γ][LawfulBEq γ]{P:Prop}{a b:γ}{x y:Option β}{r:β}(h:(if a==b then x else y)=some r)(k1:a=b->x=some r->P)(k2:y=some r->P):P:=by
 by_cases hc:a==b
 .rw[if_pos hc]at h;exact k1 (Ub.mp hc) h
 .rw[if_neg hc]at h;exact k2 h
theorem mO{α β:Type}{P:Prop}{o:Option α}{f:α->Option β}{g:Option β}{r:β}(h:els o f g=some r)(k1:∀a,o=some a->f a=some r->P)(k2:o=Option.none->g=some r->P):P:=by
 cases o with|none=>exact k2 rfl h|some a=>exact k1 a rfl h
theorem lc{args:List V}{x:V}(h:sE args=some x):args=[x]:=by
 cases args with|nil=>exact aC h|cons y r=>cases r with
  |nil=>exact Tx (fun z=>[z]) (Tp h)
  |cons _ _=>exact aC h
theorem vX{args:List V}{p:V×V}(h:Ay args=some p):args=[p.1,p.2]:=by
 cases args with|nil=>exact aC h|cons y r=>cases r with
  |nil=>exact aC h
  |cons z r=>cases r with
   |nil=>exact Tx (fun z:V×V=>[z.1,z.2]) (Tp h)
   |cons _ _=>exact aC h
inductive ai{α β:Type}(R:α->β->Prop):List α->List β->Prop where
 |nil:ai R [] []
 |cons {x y xs ys}:R x y->ai R xs ys->ai R (x::xs) (y::ys)
namespace ai
variable{α β:Type}{R R':α->β->Prop}{xs xs':List α}{ys ys':List β}
theorem length(t:ai R xs ys):xs.length=ys.length:=by
 induction t with|nil=>rfl|cons _ _ ih=>exact Tx (· + 1) ih
theorem mono(h:∀x y,R x y->R' x y)(t:ai R xs ys):ai R' xs ys:=by
 induction t with|nil=>exact .nil|cons a _ ih=>exact .cons (h _ _ a) ih
theorem append(t:ai R xs ys)(k:ai R xs' ys'):ai R (xs++xs') (ys++ys'):=by
 induction t with|nil=>exact k|cons a _ ih=>exact .cons a ih
theorem get{i:Nat}{x:α}(t:ai R xs ys)(e:xs[i]?=some x):∃y,ys[i]?=some y/\R x y:=by
 induction t generalizing i with|nil=>exact nomatch e|cons a _ ih=>cases i with
  |zero=>exact⟨_,rfl,Tp e▸a⟩
  |succ i=>exact ih e
theorem flip(t:ai R xs ys):ai (fun y x=>R x y) ys xs:=by
 induction t with|nil=>exact .nil|cons a _ ih=>exact .cons a ih
theorem get'{i:Nat}{y:β}(t:ai R xs ys)(e:ys[i]?=some y):∃x,xs[i]?=some x/\R x y:=t.flip.get e
theorem set{x:α}{y:β}(i:Nat)(t:ai R xs ys)(h:R x y):ai R (xs.set i x) (ys.set i y):=by
 induction t generalizing i with|nil=>exact .nil|cons a t ih=>cases i with
  |zero=>exact .cons h t
  |succ i=>exact .cons a (ih i)
theorem take(i:Nat)(t:ai R xs ys):ai R (xs.take i) (ys.take i):=by
 induction t generalizing i with|nil=>rw[List.take_nil,List.take_nil];exact .nil|cons a t ih=>cases i with
  |zero=>exact .nil
  |succ i=>exact .cons a (ih i)
theorem drop(i:Nat)(t:ai R xs ys):ai R (xs.drop i) (ys.drop i):=by
 induction t generalizing i with|nil=>rw[List.drop_nil,List.drop_nil];exact .nil|cons a t ih=>cases i with
  |zero=>exact .cons a t
  |succ i=>exact ih i
theorem reverse(t:ai R xs ys):ai R xs.reverse ys.reverse:=by
 induction t with|nil=>exact .nil|cons a _ ih=>rw[List.reverse_cons,List.reverse_cons];exact ih.append (.cons a .nil)
theorem replicate(h:ai R xs ys)(n:Nat):ai R (List.replicate n xs).flatten (List.replicate n ys).flatten:=by
 induction n with|zero=>exact .nil|succ n ih=>rw[U0,U0,We,We];exact h.append ih
theorem dropLast(h:ai R xs ys):ai R xs.dropLast ys.dropLast:=by rw[List.dropLast_eq_take,List.dropLast_eq_take,h.length];exact h.take _
theorem mem(h:ai R xs ys){y:β}(hy:y∈ys):∃x∈xs,R x y:=by obtain⟨i,hi⟩:=U7 hy;refine ae (h.get' hi) ?_;rintro x h1 h2;exact⟨x,TZ h1,h2⟩
theorem no(h:ai R [] ys){G:List β->Prop}(g:G []):G ys:=by cases h;exact g
theorem un{x:α}(h:ai R (x::xs) ys){G:List β->Prop}(g:∀y ys,R x y->ai R xs ys->G (y::ys)):G ys:=by cases h with|cons a t=>exact g _ _ a t
theorem one{x:α}(h:ai R [x] ys){G:List β->Prop}(g:∀y,R x y->G [y]):G ys:=h.un fun y _ r t=>t.no (G:=fun ys=>G (y::ys)) (g y r)
theorem two{x y:α}(h:ai R [x,y] ys){G:List β->Prop}(g:∀a b,R x a->R y b->G [a,b]):G ys:=h.un fun a _ r t=>t.one (G:=fun ys=>G (a::ys)) fun b q=>g a b r q
end ai
structure Ctx where
 prog:Program
 w:World
 K:Frag
 h₀:Heap
 mg:Str->Option Value
 mb:Str->Option Value
 clA:Str->Option Addr
 fnA:Str->Str->Option Addr
 Z₀:List (Addr×Obj)
structure aU(C:Ctx):Prop where
 g:C.h₀.Ns mainGlobals C.mg
 b:C.h₀.Ns builtinsNs C.mb
 nolimit:C.h₀.NoLimit
 builtins:∀x:Str,x ≠ "__name__" -> C.mb x=bootBuiltins x
 kin:C.K.In C.h₀
structure Map where
 am:List Addr
 Z:List (Addr×Obj)
noncomputable abbrev kB(its:Array Value)(n:Nat):Obj:={ cls:=.type "tuple",data:=.seq its n}
noncomputable abbrev g8(es:List DictEntry)(n:Nat):Obj:={ cls:=.type "dict",data:=.dict es.toArray n}
noncomputable def KJ(o:Obj)(a b:Int):Prop:=∃t u v:Tok,o={ cls:=.type "range",data:=.fields #[.int a t,.int b u,.int 1 v]}
noncomputable def mP(s:Str)(v:Value):Prop:=∃t,v=.str s t
noncomputable def mR(Z:List (Addr×Obj))(l:List Str)(v:Value):Prop:=∃b vals n,v=.ref b/\(b,kB vals n)∈Z/\ai mP l vals.toList
noncomputable def xr(C:Ctx)(Z:List (Addr×Obj))(p:Str×List Str)(e:DictEntry):Prop:=e.hash=PyData.keyHash C.w.params p.1/\mP p.1 e.key/\mR Z p.2 e.val
mutual
noncomputable def ac(C:Ctx)(O:Map):V->Value->Prop
 |.none,v=>v=.none
 |.bool b,v=>v=.bool b
 |.int i,v=>∃t,v=.int i t
 |.str s,v=>∃t,v=.str s t
 |.tup xs,v=>∃a vals n,v=.ref a/\(a,kB vals n)∈O.Z/\VRelL C O xs vals.toList
 |.lst xs,v=>∃a vals n,v=.ref a/\(a,listOf vals n)∈O.Z/\VRelL C O xs vals.toList
 |.rng a b,v=>∃x o,v=.ref x/\(x,o)∈O.Z/\KJ o a b
 |.ref n,v=>∃a,v=.ref a/\O.am[n]?=some a
 |.inst c n,v=>∃x dx K,v=.ref x/\C.clA c=some K/\(x,instObj K dx)∈O.Z/\O.am[n]?=some dx
 |.fn c m,v=>∃a,v=.ref a/\C.fnA c m=some a
 |.cls c,v=>∃a,v=.ref a/\C.clA c=some a
 |.bi id,v=>v=.builtin id
 |.ty T,v=>v=.type T
 |.jd es,v=>∃a ents n,v=.ref a/\a≠sysModules/\(a,g8 ents n)∈O.Z/\ai (xr C O.Z) es ents
noncomputable def VRelL(C:Ctx)(O:Map):List V->List Value->Prop
 |[],vs=>vs=[]
 |x::xs,vs=>∃v r,vs=v::r/\ac C O x v/\VRelL C O xs r
end
theorem aL{C:Ctx}{O:Map}:∀{xs:List V}{vs:List Value},VRelL C O xs vs↔ai (ac C O) xs vs
 |[],vs=>by
  constructor
  .intro h;cases(show vs=[]from h);exact .nil
  .intro h;cases h;rfl
 |x::xs,vs=>by
  show(∃_ _,_/\_/\_)↔_;constructor
  .rintro⟨v,r,rfl,h1,h2⟩;exact .cons h1 (aL.mp h2)
  .intro h;cases h with|cons h1 h2=>exact⟨_,_,rfl,h1,aL.mpr h2⟩
structure Map.Le(O O':Map):Prop where
 pre:∃t,O'.am=O.am++t
 sub:∀p∈O.Z,p∈O'.Z
theorem Map.Le.refl(O:Map):O.Le O:=⟨⟨[],by simp⟩,fun _ h=>h⟩
theorem Map.Le.trans{a b c:Map}(h:a.Le b)(k:b.Le c):a.Le c:=by obtain⟨⟨t,ht⟩,hs⟩:=h;obtain⟨⟨u,hu⟩,ks⟩:=k;exact⟨⟨t++u,by rw[hu,ht,Tl]⟩,fun p hp=>ks p (hs p hp)⟩
theorem Map.Le.get{O O':Map}(h:O.Le O'){n:Nat}{a:Addr}(e:O.am[n]?=some a):O'.am[n]?=some a:=by obtain⟨t,ht⟩:=h.pre;rw[ht];have:n<O.am.length:=(Tr.mp e).1;rw[TL this];exact e
theorem Map.Le.mem{O O':Map}(h:O.Le O'){a:Addr}(e:a∈O.am):a∈O'.am:=by obtain⟨t,ht⟩:=h.pre;rw[ht];exact Uu _ e
theorem mR.mono{Z Z':List (Addr×Obj)}(h:∀p∈Z,p∈Z'){l:List Str}{v:Value}:mR Z l v->mR Z' l v:=fun⟨b,vals,n,e,m,r⟩=>⟨b,vals,n,e,h _ m,r⟩
mutual
theorem ac.mono{C:Ctx}{O O':Map}(h:O.Le O'):∀(x:V) {v:Value},ac C O x v->ac C O' x v
 |.none,_,r=>r
 |.bool _,_,r=>r
 |.int _,_,r=>r
 |.str _,_,r=>r
 |.tup xs,_,r=>by
  show ∃_ _ _,_/\_/\_;refine bt (r) ?_;rintro a vals n e m t;exact⟨a,vals,n,e,h.sub _ m,VRelL.mono h xs t⟩
 |.lst xs,_,r=>by
  show ∃_ _ _,_/\_/\_;refine bt (r) ?_;rintro a vals n e m t;exact⟨a,vals,n,e,h.sub _ m,VRelL.mono h xs t⟩
 |.rng _ _,_,r=>by
  show ∃_ _,_/\_/\_;refine cW (r) ?_;rintro a o e m t;exact⟨a,o,e,h.sub _ m,t⟩
 |.ref _,_,r=>by
  show ∃_,_/\_;refine ae (r) ?_;rintro a e m;exact⟨a,e,h.get m⟩
 |.inst _ _,_,r=>by
  show ∃_ _ _,_/\_/\_/\_;refine gg (r) ?_;rintro a dx K e k m t;exact⟨a,dx,K,e,k,h.sub _ m,h.get t⟩
 |.fn _ _,_,r=>r
 |.cls _,_,r=>r
 |.bi _,_,r=>r
 |.ty _,_,r=>r
 |.jd _,_,r=>by show ∃_ _ _,_/\_/\_/\_;refine gg (r) ?_;rintro a ents n e lo m t;exact⟨a,ents,n,e,lo,h.sub _ m,t.mono fun p e ⟨h1,h2,h3⟩=>⟨h1,h2,h3.mono h.sub⟩⟩
theorem VRelL.mono{C:Ctx}{O O':Map}(h:O.Le O'):∀(xs:List V) {vs:List Value},VRelL C O xs vs->VRelL C O' xs vs
 |[],_,r=>r
 |x::xs,_,r=>by show ∃_ _,_/\_/\_;refine cW (r) ?_;rintro v q e m t;exact⟨v,q,e,ac.mono h x m,VRelL.mono h xs t⟩
end
theorem cN{C:Ctx}{O O':Map}(h:O.Le O'){xs:List V}{vs:List Value}(r:ai (ac C O) xs vs):ai (ac C O') xs vs:=r.mono fun x _=>ac.mono h x
noncomputable def ft(C:Ctx)(O:Map)(p:Str×V)(e:DictEntry):Prop:=e.hash=PyData.keyHash C.w.params p.1/\mP p.1 e.key/\ac C O p.2 e.val
noncomputable abbrev tkC(C:Ctx):HeapKind C.prog C.w (List AK):=tK C.prog C.w
noncomputable def iY(C:Ctx)(O:Map)(p:V×V)(x:List AK×Addr×Value):Prop:=mL p.1=some x.1/\ac C O p.1 (.ref x.2.1)/\ac C O p.2 x.2.2
noncomputable def nY(C:Ctx)(O:Map)(c:ab)(o:Obj):Prop:=match c with
 |.list xs=>∃vals n,o=listOf vals n/\ai (ac C O) xs vals.toList
 |.dict es=>∃ents n,o=g8 ents n/\ai (ft C O) es ents/\(es.map (·.1)).Nodup
 |.tdict es=>∃xs n,o=g8 (xs.map (entryOfKey (tkC C))) n/\ai (iY C O) es xs/\(xs.map (·.1)).Nodup
theorem nY.mono{C:Ctx}{O O':Map}(h:O.Le O'){c:ab}{o:Obj}(r:nY C O c o):nY C O' c o:=by
 cases c with
 |list xs=>refine bw (r) ?_;rintro vals n e t;exact⟨vals,n,e,cN h t⟩
 |dict es=>refine cW (r) ?_;rintro vals n e t q;exact⟨vals,n,e,t.mono fun p e ⟨h1,h2,h3⟩=>⟨h1,h2,ac.mono h _ h3⟩,q⟩
 |tdict es=>refine cW (r) ?_;rintro vals n e t q;exact⟨vals,n,e,t.mono fun p e h1=>⟨h1.1,ac.mono h _ h1.2.1,ac.mono h _ h1.2.2⟩,q⟩
theorem nY.notFreed{C:Ctx}{O:Map}{c:ab}{o:Obj}(r:nY C O c o):o.isFreed=false:=by
 cases c with
 |list xs=>refine bw (r) ?_;rintro vals n e t;subst e;rfl
 |dict es=>refine bw (r) ?_;rintro vals n e t;subst e;rfl
 |tdict es=>refine bw (r) ?_;rintro vals n e t;subst e;rfl
structure au(C:Ctx)(O:Map)(J:Hp)(h:Heap):Prop where
 base:∀b o,C.h₀.get? b=some o->h.get? b=some o
 len:O.am.length=J.length
 fresh:∀a∈O.am,C.h₀.get? a=none
 nodup:O.am.Nodup
 low:∀a∈O.am,a≠sysModules
 z₀:∀p∈C.Z₀,p∈O.Z
 z:∀p∈O.Z,h.get? p.1=some p.2
 zam:∀p∈O.Z,p.1∉O.am
 cell:∀(n:Nat) (c:ab) (a:Addr),J[n]?=some c->O.am[n]?=some a->∃o,h.get? a=some o/\nY C O c o
structure al(O O':Map)(s s':Shared):Prop where
 le:O.Le O'
 keep:∀b o,b∉O.am->s.heap.get? b=some o->s'.heap.get? b=some o
 new:∀a∈O'.am,a∉O.am->s.heap.get? a=none
 newZ:∀p∈O'.Z,p∈O.Z\/(p.1∉O.am->s.heap.get? p.1=none)
 same:∃h tk,s'={ s with heap:=h,toks:=tk}
theorem al.refl(O:Map)(s:Shared):al O O s s:=⟨.refl _,fun _ _ _ e=>e,fun _ h k=>absurd h k,fun _ h=>.inl h,⟨s.heap,s.toks,rfl⟩⟩
theorem al.trans{a b c:Map}{s s' s'':Shared}(h:al a b s s')(k:al b c s' s''):al a c s s'':=by
 refine⟨h.le.trans k.le,fun x o hx e=>k.keep x o (fun hb=>?_) (h.keep x o hx e),fun x hx na=>?_,fun p hp=>?_,?_⟩
 .have:=h.new x hb hx;rw[e]at this;cases this
 . by_cases hb:x∈b.am
   .exact h.new x hb na
   .cases q:s.heap.get? x with|none=>rfl|some o=>have:=k.new x hx hb;rw[h.keep x o na q]at this;cases this
 . rcases k.newZ p hp with hp|hp
   .exact h.newZ p hp
   . refine .inr fun na=>?_;by_cases hb:p.1∈b.am
     .exact h.new _ hb na
     .cases q:s.heap.get? p.1 with|none=>rfl|some o=>have:=hp hb;rw[h.keep _ o na q]at this;cases this
 .refine iN (h.same) ?_;rintro h1 t1 rfl;refine iN (k.same) ?_;rintro h2 t2 rfl;exact⟨h2,t2,rfl⟩
theorem al.toks(O:Map)(s:Shared)(t:Nat):al O O s { s with toks:=t}:=⟨.refl _,fun _ _ _ e=>e,fun _ h k=>absurd h k,fun _ h=>.inl h,⟨s.heap,t,rfl⟩⟩
section
variable{C:Ctx}{O O':Map}{J J':Hp}{h h':Heap}{s s':Shared}
theorem au.at(I:au C O J h)(k:∀b o,h.get? b=some o->h'.get? b=some o):au C O J h' :=
 ⟨fun b o e=>k b o (I.base b o e),I.len,I.fresh,I.nodup,I.low,I.z₀,fun p hp=>k _ _ (I.z p hp),I.zam,fun n c a e1 e2=>by refine ae (I.cell n c a e1 e2) ?_;rintro o ho r;exact⟨o,k _ _ ho,r⟩⟩
theorem al.at(k:∀b o,s.heap.get? b=some o->h'.get? b=some o){t:Nat}:al O O s { s with heap:=h',toks:=t} :=
 ⟨.refl _,fun b o _ e=>k b o e,fun _ h k=>absurd h k,fun _ h=>.inl h,⟨h',t,rfl⟩⟩
theorem au.lt(I:au C O J h){a:Addr}(ha:a∈O.am):a<h.objs.size:=by obtain⟨n,hn⟩:=U7 ha;have hl:n<J.length:=I.len▸(Tr.mp hn).1;refine ae (I.cell n J[n] a (by simp[hl]) hn) ?_;rintro o ho _;exact UV ho
theorem au.frozen(I:au C O J h){o:Obj}(hf:o.isFreed=false:=by rfl):au C ⟨O.am,(h.objs.size,o)::O.Z⟩ J (h.push o):=by
 have le:O.Le ⟨O.am,(h.objs.size,o)::O.Z⟩:=⟨⟨[],by simp⟩,fun p hp=>.tail _ hp⟩;refine⟨fun b x e=>Uf _ (I.base b x e),I.len,I.fresh,I.nodup,I.low,fun p hp=>.tail _ (I.z₀ p hp),fun p hp=>?_,fun p hp=>?_,fun n c a e1 e2=>?_⟩
 . rcases TS.mp hp with rfl|hp
   .exact UQ _ hf
   .exact Uf _ (I.z p hp)
 . rcases TS.mp hp with rfl|hp
   .intro ha;exact absurd (I.lt ha) (UN _)
   .exact I.zam p hp
 .refine ae (I.cell n c a e1 e2) ?_;rintro o' ho r;exact⟨o',Uf _ ho,r.mono le⟩
theorem g9(h:Heap):h.get? h.objs.size=none:=by
 cases q:h.get? h.objs.size with|none=>rfl|some o'=>exact absurd (UV q) (UN _)
theorem al.frozen{o x:Obj}{t:Nat}:al O ⟨O.am,(s.heap.objs.size,x)::O.Z⟩ s { s with heap:=s.heap.push o,toks:=t} :=
 ⟨⟨⟨[],by simp⟩,fun p hp=>.tail _ hp⟩,fun b x _ e=>Uf _ e,fun _ h k=>absurd h k,fun p hp=>by
  rcases TS.mp hp with rfl|hp
  .exact .inr fun _=>g9 _
  .exact .inl hp,⟨_,t,rfl⟩⟩
theorem au.track(K:aU C)(I:au C O J h){o:Obj}{c:ab}(r:nY C O c o):au C ⟨O.am++[h.objs.size],O.Z⟩ (J++[c]) (h.push o):=by
 have le:O.Le ⟨O.am++[h.objs.size],O.Z⟩:=⟨⟨_,rfl⟩,fun p hp=>hp⟩;refine⟨fun b x e=>Uf _ (I.base b x e),by simp[I.len],fun a ha=>?_,?_,fun a ha=>?_,I.z₀,fun p hp=>Uf _ (I.z p hp),fun p hp ha=>?_,fun n c' a e1 e2=>?_⟩
 . rcases TJ.mp ha with ha|ha
   .exact I.fresh a ha
   .rw[Tw.mp ha];cases q:C.h₀.get? h.objs.size with|none=>rfl|some o'=>exact absurd (UV (I.base _ _ q)) (UN _)
 .refine Wf.mpr ⟨I.nodup,by simp,fun a ha b hb=>?_⟩;rw[Tw.mp hb];intro e;subst e;exact absurd (I.lt ha) (UN _)
 . rcases TJ.mp ha with ha|ha
   .exact I.low a ha
   .rw[Tw.mp ha];refine ae (K.nolimit) ?_;rintro _ hn _;refine aW (hn) ?_;rintro o' _ _ ho' _;have:=UV (I.base _ _ ho');exact Vb (VH (by decide) this)
 . rcases TJ.mp ha with ha|ha
   .exact I.zam p hp ha
   .have:=UV (I.z p hp);rw[Tw.mp ha]at this;exact UN _ this
 . by_cases hn:n<J.length
   .rw[TL hn]at e1;rw[TL (by rw[I.len];exact hn)]at e2;refine ae (I.cell n c' a e1 e2) ?_;rintro o' ho r';exact⟨o',Uf _ ho,r'.mono le⟩
   . have e:n=J.length:=by have:=(Tr.mp e1).1;simp at this;exact Ud (ar1 [_,_] [] 0 601338971440 this art) (ar1 [_,_] [] 0 574000 (Vz hn :) art)
     subst e;simp at e1;subst e1;rw[<-I.len]at e2;simp at e2;subst e2;exact⟨o,UQ _ r.notFreed,r.mono le⟩
theorem al.track(I:au C O J s.heap){o:Obj}{t:Nat}:al O ⟨O.am++[s.heap.objs.size],O.Z⟩ s { s with heap:=s.heap.push o,toks:=t} :=
 ⟨⟨⟨_,rfl⟩,fun p hp=>hp⟩,fun b x _ e=>Uf _ e,fun a ha k=>by
  rcases TJ.mp ha with ha|ha
  .exact absurd ha k
  .rw[Tw.mp ha];cases q:s.heap.get? s.heap.objs.size with|none=>rfl|some o'=>exact absurd (UV q) (UN _),fun _ h=>.inl h,⟨_,t,rfl⟩⟩
theorem au.turn(I:au C O J h){n:Nat}{a:Addr}{c:ab}{o:Obj}(ha:O.am[n]?=some a)(hs:∀b,b≠a->∀x,h.get? b=some x->h'.get? b=some x)(ho:h'.get? a=some o)(r:nY C O c o):au C O (J.set n c) h':=by
 have hm:a∈O.am:=TZ ha;refine⟨fun b x e=>hs b (fun q=>?_) x (I.base b x e),by simp[I.len],I.fresh,I.nodup,I.low,I.z₀,fun p hp=>hs _ (fun q=>I.zam p hp (by rw[q];exact hm)) _ (I.z p hp),I.zam,fun k c' b e1 e2=>?_⟩
 .subst q;rw[I.fresh b hm]at e;cases e
 . by_cases hk:k=n
   .subst hk;rw[ha]at e2;cases e2;have hl:k<J.length:=I.len▸(Tr.mp ha).1;rw[List.getElem?_set_self hl]at e1;cases e1;exact⟨o,ho,r⟩
   .rw[List.getElem?_set_ne (Ne.symm hk)]at e1;refine ae (I.cell k c' b e1 e2) ?_;rintro o' ho' r';refine⟨o',hs b (fun q=>?_) _ ho',r'⟩;subst q;have l1:=(Tr.mp ha).1;have l2:=(Tr.mp e2).1;have:=(List.getElem_inj (i:=k) (j:=n) (h₀:=l2) (h₁:=l1) I.nodup).mp (by rw[(Tr.mp ha).2,(Tr.mp e2).2]);exact hk this
theorem al.turn{n:Nat}{a:Addr}{t:Nat}(ha:O.am[n]?=some a)(hs:∀b,b≠a->∀x,s.heap.get? b=some x->h'.get? b=some x):al O O s { s with heap:=h',toks:=t} :=
 ⟨.refl _,fun b o hb e=>hs b (fun q=>hb (q▸TZ ha)) o e,fun _ h k=>absurd h k,fun _ h=>.inl h,⟨h',t,rfl⟩⟩
noncomputable def eM(C:Ctx)(O:Map)(s:Shared)(J':Hp)(r:V)(Q:Value->Shared->Prop):Prop:=∀O' s' v,al O O' s s'->au C O' J' s'.heap->ac C O' r v->Q v s'
theorem eM.at{C:Ctx}{O:Map}{s:Shared}{J' J1:Hp}{r r1:V}{Q:Value->Shared->Prop}(P:eM C O s J' r Q)(h:some (r1,J1)=some (r,J')):eM C O s J1 r1 Q:=by cases h;exact P
theorem eM.after{Q:Value->Shared->Prop}{r:V}(R:al O O' s s')(P:eM C O s J' r Q):eM C O' s' J' r Q:=fun O'' s'' v R' I' r'=>P O'' s'' v (R.trans R') I' r'
theorem eM.here{Q:Value->Shared->Prop}{r:V}{v:Value}(P:eM C O s J r Q)(I:au C O J s.heap)(h:ac C O r v):Q v s:=P O s v (.refl _ _) I h
theorem eM.tok{Q:Value->Shared->Prop}{r:V}{v:Value}(P:eM C O s J r Q)(I:au C O J s.heap)(t:Nat)(h:ac C O r v):Q v { s with toks:=t}:=P O _ v (.toks _ _ _) I h
structure sH(A:Around)(d:Nat):Prop where
 handled:A.handled=none
 depth:A.depth+8*d+8<=recursionLimit
 units:A.units+64*d+256<=cLine
end
section
variable{C:Ctx}{O:Map}{J:Hp}{s:Shared}{v:V}{val:Value}{G:Value->Prop}
theorem vNo:ac C O .none .none:=by simp only[ac]
theorem vBl{b:Bool}:ac C O (.bool b) (.bool b):=by simp only[ac]
theorem vIn{i:Int}{t:Tok}:ac C O (.int i) (.int i t):=by simp only[ac];exact⟨t,rfl⟩
theorem vSt{x:Str}{t:Tok}:ac C O (.str x) (.str x t):=by simp only[ac];exact⟨t,rfl⟩
theorem elI{i:Int}(r:ac C O (.int i) val)(g:∀t,G (.int i t)):G val:=by simp only[ac]at r;obtain⟨t,rfl⟩:=r;exact g t
theorem elS{x:Str}(r:ac C O (.str x) val)(g:∀t,G (.str x t)):G val:=by simp only[ac]at r;obtain⟨t,rfl⟩:=r;exact g t
theorem elT{xs:List V}(r:ac C O (.tup xs) val)(g:∀a vals n,(a,kB vals n)∈O.Z->ai (ac C O) xs vals.toList->G (.ref a)):G val:=by simp only[ac]at r;refine bt (r) ?_;rintro a vals n rfl m t;exact g a vals n m (aL.mp t)
theorem elL{xs:List V}(r:ac C O (.lst xs) val)(g:∀a vals n,(a,listOf vals n)∈O.Z->ai (ac C O) xs vals.toList->G (.ref a)):G val:=by simp only[ac]at r;refine bt (r) ?_;rintro a vals n rfl m t;exact g a vals n m (aL.mp t)
theorem elR{n:Nat}(r:ac C O (.ref n) val)(g:∀a,O.am[n]?=some a->G (.ref a)):G val:=by simp only[ac]at r;refine ae (r) ?_;rintro a rfl ha;exact g a ha
theorem elN(r:ac C O .none val)(g:G .none):G val:=by simp only[ac]at r;subst r;exact g
theorem elB{b:Bool}(r:ac C O (.bool b) val)(g:G (.bool b)):G val:=by simp only[ac]at r;subst r;exact g
theorem Ln(e:isN v=true):v=.none:=by
 cases v with|none=>rfl|_=>exact nomatch e
theorem Lo{i:Int}(e:asI v=some i):v=.int i:=by
 cases v with|int j=>exact Tx V.int (Tp e)|_=>exact aC e
theorem Lp{x:Str}(e:asS v=some x):v=.str x:=by
 cases v with|str j=>exact Tx V.str (Tp e)|_=>exact aC e
theorem qP{xs:List V}(e:asT v=some xs):v=.tup xs:=by
 cases v with|tup j=>exact Tx V.tup (Tp e)|_=>exact aC e
theorem qQ(e:isN v=true)(r:ac C O v val)(g:G .none):G val:=elN (Ln e▸r) g
theorem fu{i:Int}(e:asI v=some i)(r:ac C O v val)(g:∀t,G (.int i t)):G val:=elI (Lo e▸r) g
theorem ld{x:Str}(e:asS v=some x)(r:ac C O v val)(g:∀t,G (.str x t)):G val:=elS (Lp e▸r) g
theorem xu{xs:List V}(e:asT v=some xs)(r:ac C O v val)(g:∀a vals n,(a,kB vals n)∈O.Z->ai (ac C O) xs vals.toList->G (.ref a)):G val:=elT (qP e▸r) g
theorem jG{β:Type}{f:Int->Int->Option β}{a b:V}{va vb:Value}{r:β}(e:iiI f a b=some r)(ra:ac C O a va)(rb:ac C O b vb){G:Value->Value->Prop}(g:∀x y t u,f x y=some r->G (.int x t) (.int y u)):G va vb :=
 bE e fun x hx e=>bE e fun y hy e=>fu (G:=fun va=>G va vb) hx ra fun t=>fu (G:=fun vb=>G (.int x t) vb) hy rb fun u=>g x y t u e
theorem Cm{β:Type}{P:Prop}{c:Option ab}{f:List V->Option β}{g:List (Str×V)->Option β}{r:β}(e:dJ c f g=some r)(k1:∀xs,c=some (.list xs)->f xs=some r->P)(k2:∀es,c=some (.dict es)->g es=some r->P):P:=by
 cases c with|none=>exact aC e|some c=>cases c with
  |list xs=>exact k1 xs rfl e
  |dict es=>exact k2 es rfl e
  |tdict _=>exact aC e
theorem vY{β:Type}{n:Nat}{f:List V->Option β}{g:List (Str×V)->Option β}{r:β}(I:au C O J s.heap)(e:dJ J[n]? f g=some r)(ro:ac C O (.ref n) val)(k1:∀xs a vals k,J[n]?=some (.list xs)->O.am[n]?=some a->s.heap.get? a=some (listOf vals k)->ai (ac C O) xs vals.toList->f xs=some r->G (.ref a))(k2:∀es a ents k,J[n]?=some (.dict es)->O.am[n]?=some a->s.heap.get? a=some (g8 ents k)->ai (ft C O) es ents->(es.map (·.1)).Nodup->g es=some r->G (.ref a)):G val:=by
 refine elR ro fun a ha=>Cm e (fun xs hn e=>?_) fun es hn e=>?_
 .refine ae (I.cell n _ a hn ha) ?_;rintro o ho ⟨vals,k,rfl,t⟩;exact k1 xs a vals k hn ha ho t e
 .refine ae (I.cell n _ a hn ha) ?_;rintro o ho ⟨ents,k,rfl,t,nd⟩;exact k2 es a ents k hn ha ho t nd e
theorem ub{β:Type}{o:V}{f:Nat->List V->Option β}{g:Nat->List (Str×V)->Option β}{r:β}(I:au C O J s.heap)(e:to J o f g=some r)(ro:ac C O o val)(k1:∀n xs a vals k,J[n]?=some (.list xs)->O.am[n]?=some a->s.heap.get? a=some (listOf vals k)->ai (ac C O) xs vals.toList->f n xs=some r->G (.ref a))(k2:∀n es a ents k,J[n]?=some (.dict es)->O.am[n]?=some a->s.heap.get? a=some (g8 ents k)->ai (ft C O) es ents->(es.map (·.1)).Nodup->g n es=some r->G (.ref a)):G val:=by
 cases o with|ref n=>exact vY I e ro (k1 n) (k2 n)|_=>exact aC e
theorem fb{xs:List V}(I:au C O J s.heap)(e:a7 J v=some xs)(r:ac C O v val)(g:∀a vals n,s.heap.get? a=some (listOf vals n)->ai (ac C O) xs vals.toList->G (.ref a)):G val:=by
 cases v with
 |lst ys=>cases e;exact elL r fun a vals n m t=>g a vals n (I.z _ m) t
 |ref n=>exact vY I e r (fun _ a vals k _ _ ho t e=>g a vals k ho (Tp e▸t)) fun _ _ _ _ _ _ _ _ _ e=>aC e
 |_=>exact aC e
theorem qR{xs:List V}(I:au C O J s.heap)(e:bF J v=some xs)(r:ac C O v val)(g1:∀a vals n,s.heap.get? a=some (listOf vals n)->ai (ac C O) xs vals.toList->G (.ref a))(g2:∀a vals n,(a,kB vals n)∈O.Z->ai (ac C O) xs vals.toList->G (.ref a)):G val:=by
 cases v with
 |tup ys=>cases e;exact elT r fun a vals n m t=>g2 a vals n m t
 |lst ys=>exact fb (v:=.lst ys) I e r g1
 |ref n=>exact fb (v:=.ref n) I e r g1
 |_=>exact aC e
end
theorem lT{C:Ctx}{O:Map}{J:Hp}{s:Shared}(I:au C O J s.heap){v:V}{xs:List V}{val:Value}(e:a7 J v=some xs)(r:ac C O v val):∃a vals n,val=.ref a/\s.heap.get? a=some (listOf vals n)/\ai (ac C O) xs vals.toList:=by apply fb I e r;intro a vals n ho t;exact⟨a,vals,n,rfl,ho,t⟩
section
variable{C:Ctx}{O:Map}{J:Hp}{s:Shared}
theorem OZ{v:V}{val:Value}{a:AK}(e:aOf v=some a)(r:ac C O v val):kOf val=some a:=by
 cases v with
 |none=>exact elN (G:=fun v=>kOf v=some a) r e
 |bool b=>exact elB (G:=fun v=>kOf v=some a) r e
 |int i=>exact elI (G:=fun v=>kOf v=some a) r fun _=>e
 |str i=>exact elS (G:=fun v=>kOf v=some a) r fun _=>e
 |_=>exact aC e
theorem Cn{xs:List V}{vs:List Value}{k:List AK}(e:Lb xs=some k)(t:ai (ac C O) xs vs):ItemsAre (KI C.prog C.w) k vs:=by
 induction t generalizing k with|nil=>cases e;exact .nil|cons r _ ih=>refine bE e fun a h1 e=>bE e fun as h2 e=>?_;cases e;exact .cons (To (OZ h1 r)) (ih h2)
theorem xw{v:V}{val:Value}{k:List AK}{G:Value->Prop}(I:au C O J s.heap)(e:mL v=some k)(r:ac C O v val)(g:∀a,(tkC C).is s.heap k a->ac C O v (.ref a)->G (.ref a)):G val:=by refine bE e fun xs h1 e=>?_;refine elT (G:=fun val=>ac C O v val->G val) (qP h1▸r) (fun a vals n m t r=>g a ⟨_,_,_,I.z _ m,rfl,rfl,Cn e t⟩ r) r
theorem Lq{v:V}{a:Addr}{k:List AK}(I:au C O J s.heap)(e:mL v=some k)(r:ac C O v (.ref a)):(tkC C).is s.heap k a:=by refine bE e fun xs h1 e=>?_;have r:ac C O (.tup xs) (.ref a):=qP h1▸r;simp only[ac]at r;refine bt (r) ?_;rintro b vals n q m t;cases q;exact⟨_,_,_,I.z _ m,rfl,rfl,Cn e (aL.mp t)⟩
theorem vZ{es:List (V×V)}{xs:List (List AK×Addr×Value)}{a:Addr}{n:Nat}(I:au C O J s.heap)(ho:s.heap.get? a=some (g8 (xs.map (entryOfKey (tkC C))) n))(t:ai (iY C O) es xs)(nd:(xs.map (·.1)).Nodup):s.heap.DictOfH (tkC C) a xs :=
 ⟨_,_,n,ho,⟨rfl,rfl,rfl⟩,rfl,rfl,fun x hx=>by refine ae (t.mem hx) ?_;rintro p _ h;exact Lq I h.1 h.2.1,nd⟩
theorem Co{es:List (V×V)}{xs:List (List AK×Addr×Value)}{a:Addr}{h:Heap}(D:h.DictOfH (tkC C) a xs)(t:ai (iY C O) es xs):∃o,h.get? a=some o/\nY C O (.tdict es) o:=by refine qN (D) ?_;rintro⟨c,dd,dat,sl⟩ ents n ho ⟨e1,e2,e3⟩ ed he ⟨_,nd⟩;simp only at e1 e2 e3 ed;subst e1 e2 e3 ed;exact⟨_,ho,xs,n,by rw[<-he],t,nd⟩
theorem uc{β:Type}{o:V}{vo:Value}{f:Nat->List (V×V)->Option β}{r:β}{G:Value->Prop}(I:au C O J s.heap)(e:sF J o f=some r)(ro:ac C O o vo)(g:∀n es a xs,O.am[n]?=some a->s.heap.DictOfH (tkC C) a xs->ai (iY C O) es xs->f n es=some r->G (.ref a)):G vo:=by
 cases o with
 |ref n=>
  apply elR ro;intro a ha;have e:Lc J[n]? (f n)=some r:=e;cases hn:J[n]? with
  |none=>rw[hn]at e;exact aC e
  |some c=>
   rw[hn]at e;refine ae (I.cell n c a hn ha) ?_;intro o ho r';cases c with
   |list xs=>exact aC e
   |tdict es=>refine cW (r') ?_;rintro xs m rfl t nd;exact g n es a xs ha (vZ I ho t nd) t e
   |dict es=>
    cases es with|cons _ _=>exact aC e|nil=>refine cW (r') ?_;rintro ents m rfl t nd;cases t;exact g n [] a [] ha (vZ (es:=[]) (n:=m) I ho .nil .nil) .nil e
 |_=>exact aC e
theorem wa{es:List (V×V)}{xs:List (List AK×Addr×Value)}(t:ai (iY C O) es xs)(k:List AK):(∀v,kz k es=some v->∃p,atKey xs k=some p/\ac C O v p.2)/\(kz k es=none->atKey xs k=none):=by
 induction t with|nil=>exact⟨fun v h=>aC h,fun _=>rfl⟩|@cons p x es xs h _ ih=>
  unfold kz;by_cases hx:x.1=k
  . rw[if_pos (h.1.trans (Tx some hx))];have:atKey (x::xs) k=some x.2:=by unfold atKey;rw[Vu,To hx];rfl
    rw[this];exact⟨fun v e=>⟨x.2,rfl,Tp e▸h.2.2⟩,fun h=>nomatch h⟩
  . rw[if_neg (by rw[h.1];exact fun e=>hx (Tp e))];have:atKey (x::xs) k=atKey xs k:=by unfold atKey;rw[Vu,Tz hx]
    rw[this];exact ih
theorem xx{es:List (V×V)}{xs:List (List AK×Addr×Value)}(t:ai (iY C O) es xs)(k:List AK):(atKey xs k).isSome=(kz k es).isSome:=by
 obtain⟨l1,l2⟩:=wa t k;cases q:kz k es with|none=>rw[l2 q];rfl|some v=>refine ae (l1 v q) ?_;rintro p hp _;rw[hp];rfl
theorem GK{es:List (V×V)}{xs:List (List AK×Addr×Value)}{k:List AK}{a:Addr}{x v:V}{val:Value}(t:ai (iY C O) es xs)(nd:(xs.map (·.1)).Nodup)(hk:mL x=some k)(rx:ac C O x (.ref a))(rv:ac C O v val):ai (iY C O) (xm k x v es) (storedH xs k a val):=by
 induction t with|nil=>exact .cons ⟨hk,rx,rv⟩ .nil|@cons p y es xs h t ih=>
  rw[Uj,VO]at nd;unfold xm;by_cases hx:y.1=k
  . rw[if_pos (h.1.trans (Tx some hx))];have:storedH (y::xs) k a val=(y.1,y.2.1,val)::xs:=by
     have e:atKey (y::xs) k=some y.2:=by unfold atKey;rw[Vu,To hx];rfl
     rw[storedH_old e,Uj,map_putAt_of_not_mem xs k val (hx▸nd.1)];unfold putAt;rw[if_pos hx]
    rw[this];exact .cons ⟨h.1,h.2.1,rv⟩ t
  . rw[if_neg (by rw[h.1];exact fun e=>hx (Tp e))];have:storedH (y::xs) k a val=y::storedH xs k a val:=by
     have e:atKey (y::xs) k=atKey xs k:=by unfold atKey;rw[Vu,Tz hx]
     unfold storedH;rw[e]
     split
     .rw[Uj];unfold putAt;rw[if_neg hx]
     .rfl
    rw[this];exact .cons h (ih nd.2)
theorem GL{xs:List V}{vals:List Value}{ss:List Str}(e:Ce xs=some ss)(t:ai (ac C O) xs vals):ai (fun s v=>∃t,v=Value.str s t) ss vals:=by
 induction t generalizing ss with|nil=>cases e;exact .nil|cons r _ ih=>refine bE e fun a h1 e=>bE e fun as h2 e=>?_;cases e;exact .cons (ld (G:=fun v=>∃t,v=Value.str a t) h1 r fun t=>⟨t,rfl⟩) (ih h2)
end
theorem isL{s:Shared}{a:Addr}{vals:Array Value}{n:Nat}(h:s.heap.get? a=some (listOf vals n)):s.heap.IsList a vals:=⟨_,h,rfl,n,rfl⟩
section
variable{C:Ctx}{O:Map}{J:Hp}{s:Shared}{A:Around}
theorem cz(I:au C O J s.heap){a:Addr}{vals:Array Value}{n:Nat}(m:(a,kB vals n)∈O.Z):s.heap.IsTuple a vals:=⟨_,I.z _ m,rfl,n,rfl⟩
theorem oY(I:au C O J s.heap){a:Addr}{vals:Array Value}{n:Nat}(m:(a,listOf vals n)∈O.Z):s.heap.IsList a vals:=⟨_,I.z _ m,rfl,n,rfl⟩
noncomputable def tB(f:V->V->Option Bool)(xs ys:List V)(j:Nat):Bool:=match xs[j]?,ys[j]? with
 |some x,some y=>f x y==some true
 |_,_=>false
theorem qS{f:V->V->Option Bool}{xs ys:List V}{b:Bool}(hl:xs.length=ys.length)(e:gP f xs ys=some b):
 (∀j x y,xs[j]?=some x->ys[j]?=some y->f x y=some (tB f xs ys j))/\b=(List.range xs.length).all (tB f xs ys):=by
 induction xs generalizing ys b with
 |nil=>cases ys with
  |nil=>exact⟨fun j x y h=>(nomatch h),(Tp e).symm⟩
  |cons _ _=>exact absurd hl (Nat.succ_ne_zero _).symm
 |cons x xs ih=>cases ys with
  |nil=>exact absurd hl (Nat.succ_ne_zero _)
  |cons y ys=>
   refine bE e fun b1 h1 e=>bE e fun b2 h2 e=>?_;obtain⟨g1,g2⟩:=ih (Nat.succ.inj hl) h2;have e0:tB f (x::xs) (y::ys) 0=b1:=by show(f x y==some true)=b1;rw[h1];cases b1<;>rfl
   refine⟨fun j u v hu hv=>?_,?_⟩
   .cases j with|zero=>rw[e0,<-Tp hu,<-Tp hv,h1]|succ j=>exact g1 j u v hu hv
   .rw[<-Tp e,g2,Ug,List.range_succ_eq_map,V5,List.all_map,e0];rfl
theorem wb{R:V->Value->Prop}{xs:List V}{vals:Array Value}(r:ai R xs vals.toList){j:Nat}(h:j<vals.size):∃x,xs[j]?=some x/\R x vals[j]:=by refine r.get' ?_;rw[US];exact Array.getElem?_eq_getElem h
theorem bL{R:V->Value->Prop}{xs:List V}{vals:Array Value}(r:ai R xs vals.toList):xs.length=vals.size:=r.length.trans V3
theorem Cp{f:V->V->Option Bool}{xs ys:List V}{b:Bool}(hl:xs.length=ys.length)(e:gP f xs ys=some b)(h:∀(j:Nat) (x y:V),xs[j]?=some x->ys[j]?=some y->∀r,f x y=some r->r=true):b=true:=by obtain⟨g1,g2⟩:=qS hl e;rw[g2,UI];intro j hj;have hj:j<xs.length:=List.mem_range.mp hj;have hx:=Tq hj;have hy:=Tq (hl▸hj);exact h j _ _ hx hy _ (g1 j _ _ hx hy)
inductive EqC(f:V->V->Option Bool):V->V->Bool->Prop where
 |nn:EqC f .none .none true
 |bb (x y:Bool):EqC f (.bool x) (.bool y) (x==y)
 |ii (x y:Int):EqC f (.int x) (.int y) (x==y)
 |ss (x y:Str):EqC f (.str x) (.str y) (x==y)
 |tt (xs ys:List V) (r:Bool) (hl:xs.length=ys.length) (h:gP f xs ys=some r):EqC f (.tup xs) (.tup ys) r
 |ll (xs ys:List V) (r:Bool) (h:xn f xs ys=some r):EqC f (.lst xs) (.lst ys) r
 |nb (x:Bool):EqC f .none (.bool x) false
 |ni (x:Int):EqC f .none (.int x) false
 |ns (x:Str):EqC f .none (.str x) false
 |bn (x:Bool):EqC f (.bool x) .none false
 |bs (x:Bool) (y:Str):EqC f (.bool x) (.str y) false
 |«in» (x:Int):EqC f (.int x) .none false
 |«is» (x:Int) (y:Str):EqC f (.int x) (.str y) false
 |sn (x:Str):EqC f (.str x) .none false
 |sb (x:Str) (y:Bool):EqC f (.str x) (.bool y) false
 |si (x:Str) (y:Int):EqC f (.str x) (.int y) false
theorem Cq{n:Nat}{a b:V}{r:Bool}(e:eqV (n+1) a b=some r):EqC (eqV n) a b r:=by
 cases a with
 |none=>
  cases b with|none=>exact Tp e▸.nn|bool x=>exact Tp e▸.nb x|int x=>exact Tp e▸.ni x|str x=>exact Tp e▸.ns x|_=>exact aC e
 |bool x=>
  cases b with|none=>exact Tp e▸.bn x|bool y=>exact Tp e▸.bb x y|str y=>exact Tp e▸.bs x y|_=>exact aC e
 |int x=>
  cases b with|none=>exact Tp e▸.in x|int y=>exact Tp e▸.ii x y|str y=>exact Tp e▸.is x y|_=>exact aC e
 |str x=>
  cases b with|none=>exact Tp e▸.sn x|bool y=>exact Tp e▸.sb x y|int y=>exact Tp e▸.si x y|str y=>exact Tp e▸.ss x y|_=>exact aC e
 |tup xs=>
  cases b with
  |tup ys=>
   have e:(if xs.length=ys.length then gP (eqV n) xs ys else none)=some r:=e;by_cases hl:xs.length=ys.length
   .rw[if_pos hl]at e;exact .tt xs ys r hl e
   .rw[if_neg hl]at e;exact aC e
  |_=>exact aC e
 |lst xs=>
  cases b with|lst ys=>exact .ll xs ys r e|_=>exact aC e
 |_=>exact aC e
theorem qT(I:au C O J s.heap){a:Addr}{o o':Obj}(m:(a,o)∈O.Z)(m':(a,o')∈O.Z):o=o':=Tp ((I.z _ m).symm.trans (I.z _ m'))
noncomputable def kV:V->Nat
 |.none=>0
 |.bool _=>1
 |.int _=>2
 |.str _=>3
 |_=>4
noncomputable def Cr:Value->Nat
 |.none=>0
 |.bool _=>1
 |.int _ _=>2
 |.str _ _=>3
 |_=>4
theorem KK{a:V}{v:Value}(r:ac C O a v)(h:kV a<4):Cr v=kV a:=by
 cases a with
 |none=>exact elN (G:=fun v=>Cr v=0) r rfl
 |bool b=>exact elB (G:=fun v=>Cr v=1) r rfl
 |int i=>exact elI (G:=fun v=>Cr v=2) r fun _=>rfl
 |str i=>exact elS (G:=fun v=>Cr v=3) r fun _=>rfl
 |_=>exact absurd h (UN 4)
theorem mw{a b:V}{v:Value}{P:Prop}(ra:ac C O a v)(rb:ac C O b v)(h:(decide (kV a<4)&&decide (kV b<4)&&decide (kV a≠kV b))=true):P:=by rw[TC,TC]at h;exact absurd ((KK ra (TH h.1.1)).symm.trans (KK rb (TH h.1.2))) (TH h.2)
theorem Cs{f:V->V->Option Bool}{a b:V}{r:Bool}{v:Value}(c:EqC f a b r)(I:au C O J s.heap)(hf:∀x y v q,f x y=some q->ac C O x v->ac C O y v->q=true)(ra:ac C O a v)(rb:ac C O b v):r=true:=by
 have seq:∀{xs ys:List V}{vals:Array Value}{r:Bool},ai (ac C O) xs vals.toList->ai (ac C O) ys vals.toList->gP f xs ys=some r->r=true:=fun t t' e=>
  Cp ((bL t).trans (bL t').symm) e fun j x y hx hy r' e'=>by refine ae (t.get hx) ?_;rintro v hv rx;refine ae (t'.get hy) ?_;rintro v' hv' ry;exact hf x y v r' e' rx (Tp (hv.symm.trans hv')▸ry)
 induction c with
 |nn=>rfl
 |bb x y=>exact Ub.mpr (Value.bool.inj (ra.symm.trans rb))
 |ii x y=>obtain⟨t,ht⟩:=ra;obtain⟨u,hu⟩:=rb;exact Ub.mpr (Value.int.inj (ht.symm.trans hu)).1
 |ss x y=>obtain⟨t,ht⟩:=ra;obtain⟨u,hu⟩:=rb;exact Ub.mpr (Value.str.inj (ht.symm.trans hu)).1
 |tt xs ys _ hl h=>refine bt (ra) ?_;rintro a vals k ha m t;refine bt (rb) ?_;rintro b vals' k' hb m' t';cases Value.ref.inj (ha.symm.trans hb);cases qT I m m';exact seq (aL.mp t) (aL.mp t') h
 |ll xs ys _ h=>refine bt (ra) ?_;rintro a vals k ha m t;refine bt (rb) ?_;rintro b vals' k' hb m' t';cases Value.ref.inj (ha.symm.trans hb);cases qT I m m';have t:=aL.mp t;have t':=aL.mp t';exact seq t t' ((if_pos ((bL t).trans (bL t').symm)).symm.trans h)
 |nb x=>exact mw ra rb rfl
 |ni x=>exact mw ra rb rfl
 |ns x=>exact mw ra rb rfl
 |bn x=>exact mw ra rb rfl
 |bs x y=>exact mw ra rb rfl
 |«in» x=>exact mw ra rb rfl
 |«is» x y=>exact mw ra rb rfl
 |sn x=>exact mw ra rb rfl
 |sb x y=>exact mw ra rb rfl
 |si x y=>exact mw ra rb rfl
theorem Ct(n:Nat){a b:V}{v:Value}{r:Bool}(e:eqV n a b=some r)(I:au C O J s.heap)(ra:ac C O a v)(rb:ac C O b v):r=true:=by
 induction n generalizing a b v r with|zero=>exact aC e|succ n ih=>exact Cs (Cq e) I (fun _ _ _ _ e rx ry=>ih e rx ry) ra rb
theorem Cu{xs ys:List V}{vals vals':Array Value}{f:V->V->Option Bool}{r:Bool}(t:ai (ac C O) xs vals.toList)(t':ai (ac C O) ys vals'.toList)(hl:xs.length=ys.length)(e:gP f xs ys=some r)(hf:∀x y v w q,f x y=some q->ac C O x v->ac C O y w->EqAt A s v w q):(∀j (h1:j<vals.size) (h2:j<vals'.size),EqAt A s vals[j] vals'[j] (tB f xs ys j))/\vals.size=vals'.size/\(List.range vals.size).all (tB f xs ys)=r:=by obtain⟨g1,g2⟩:=qS hl e;refine⟨fun j h1 h2=>?_,by rw[<-bL t,<-bL t',hl],by rw[<-bL t,g2]⟩;refine ae (wb t h1) ?_;rintro x hx rx;refine ae (wb t' h2) ?_;rintro y hy ry;exact hf _ _ _ _ _ (g1 j x y hx hy) rx ry
theorem wc{a b:Addr}{xs ys:List V}{vals vals':Array Value}{f:V->V->Option Bool}{r:Bool}(hu:A.units<cLine)(L:s.heap.IsList a vals)(L':s.heap.IsList b vals')(t:ai (ac C O) xs vals.toList)(t':ai (ac C O) ys vals'.toList)(e:xn f xs ys=some r)(hf:∀x y v w q,f x y=some q->ac C O x v->ac C O y w->EqAt A.in1 s v w q):RcAt A s (.ref a) (.ref b) r/\RcNeAt A s (.ref a) (.ref b) (!r):=by
 unfold xn at e;by_cases hl:xs.length=ys.length
 .rw[if_pos hl]at e;refine eX (Cu t t' hl e hf) ?_;rintro he hsz hr;exact⟨hr▸RcAt.lists L L' hsz hu he,hr▸RcNeAt.lists L L' hsz hu he⟩
 .rw[if_neg hl]at e;have hsz:(vals.size != vals'.size)=true:=WE.mpr fun q=>hl ((bL t).trans (q.trans (bL t').symm));exact Tp e▸⟨.lists_lengths L L' hsz hu,.lists_lengths L L' hsz hu⟩
theorem AB{a b:Addr}{xs ys:List V}{vals vals':Array Value}{f:V->V->Option Bool}{r:Bool}(hu:A.units<cLine)(L:s.heap.IsTuple a vals)(L':s.heap.IsTuple b vals')(t:ai (ac C O) xs vals.toList)(t':ai (ac C O) ys vals'.toList)(hl:xs.length=ys.length)(e:gP f xs ys=some r)(hf:∀x y v w q,f x y=some q->ac C O x v->ac C O y w->EqAt A.in1 s v w q):RcAt A s (.ref a) (.ref b) r/\RcNeAt A s (.ref a) (.ref b) (!r):=by
 refine eX (Cu t t' hl e hf) ?_;rintro he hsz hr;have q:((List.range (min vals.size vals'.size)).all (tB f xs ys)&&vals.size==vals'.size)=r:=by rw[<-hsz,Nat.min_self,hr,TQ,Bool.and_true]
 exact⟨q▸RcAt.tuples L L' hu he,q▸RcNeAt.tuples L L' hu he⟩
theorem za{a b:Addr}{r:Bool}(h:a=b->r=true)(rc:RcAt A s (.ref a) (.ref b) r/\RcNeAt A s (.ref a) (.ref b) (!r)):EqAt A s (.ref a) (.ref b) r/\RcAt A s (.ref a) (.ref b) r/\RcNeAt A s (.ref a) (.ref b) (!r):=by
 refine⟨?_,rc⟩;by_cases hab:a=b
 .rw[h hab,hab];exact .same _
 .exact .of_refs hab rc.1
theorem Lr{f:V->V->Option Bool}{a b:V}{r:Bool}{va vb:Value}(c:EqC f a b r)(I:au C O J s.heap)(hu:A.units<cLine)(hs:∀v,ac C O a v->ac C O b v->r=true)(hf:∀x y v w q,f x y=some q->ac C O x v->ac C O y w->EqAt A.in1 s v w q)(ra:ac C O a va)(rb:ac C O b vb):EqAt A s va vb r/\RcAt A s va vb r/\RcNeAt A s va vb (!r):=by
 induction c with
 |nn=>apply elN ra;apply elN rb;exact⟨.same _,.none_none,.none_none⟩
 |bb x y=>apply elB ra;apply elB rb;exact⟨.bool_bool _ _,.bool_bool _ _,.bool_bool _ _⟩
 |ii x y=>apply elI ra;intro _;apply elI rb;intro _;exact⟨.int_int _ _ _ _,.int_int _ _ _ _,.int_int _ _ _ _⟩
 |ss x y=>apply elS ra;intro _;apply elS rb;intro _;exact⟨.str_str _ _ _ _,.str_str _ _ _ _,.str_str _ _ _ _⟩
 |tt xs ys _ hl h=>refine elT (G:=fun va=>ac C O _ va->EqAt A s va vb _/\RcAt A s va vb _/\RcNeAt A s va vb _) ra (fun a vals k m t ra=>?_) ra;refine elT (G:=fun vb=>ac C O _ vb->EqAt A s _ vb _/\RcAt A s _ vb _/\RcNeAt A s _ vb _) rb (fun b vals' k' m' t' rb=>?_) rb;exact za (fun q=>hs _ ra (q▸rb)) (AB hu (cz I m) (cz I m') t t' hl h hf)
 |ll xs ys _ h=>refine elL (G:=fun va=>ac C O _ va->EqAt A s va vb _/\RcAt A s va vb _/\RcNeAt A s va vb _) ra (fun a vals k m t ra=>?_) ra;refine elL (G:=fun vb=>ac C O _ vb->EqAt A s _ vb _/\RcAt A s _ vb _/\RcNeAt A s _ vb _) rb (fun b vals' k' m' t' rb=>?_) rb;exact za (fun q=>hs _ ra (q▸rb)) (wc hu (oY I m) (oY I m') t t' h hf)
 |nb x=>apply elN ra;apply elB rb;exact⟨.none_bool _,.none_bool _,.none_bool _⟩
 |ni x=>apply elN ra;apply elI rb;intro _;exact⟨.none_int _ _,.none_int _ _,.none_int _ _⟩
 |ns x=>apply elN ra;apply elS rb;intro _;exact⟨.none_str _ _,.none_str _ _,.none_str _ _⟩
 |bn x=>apply elB ra;apply elN rb;exact⟨.bool_none _,.bool_none _,.bool_none _⟩
 |bs x y=>apply elB ra;apply elS rb;intro _;exact⟨.bool_str _ _ _,.bool_str _ _ _,.bool_str _ _ _⟩
 |«in» x=>apply elI ra;intro _;apply elN rb;exact⟨.int_none _ _,.int_none _ _,.int_none _ _⟩
 |«is» x y=>apply elI ra;intro _;apply elS rb;intro _;exact⟨.int_str _ _ _ _,.int_str _ _ _ _,.int_str _ _ _ _⟩
 |sn x=>apply elS ra;intro _;apply elN rb;exact⟨.str_none _ _,.str_none _ _,.str_none _ _⟩
 |sb x y=>apply elS ra;intro _;apply elB rb;exact⟨.str_bool _ _ _,.str_bool _ _ _,.str_bool _ _ _⟩
 |si x y=>apply elS ra;intro _;apply elI rb;intro _;exact⟨.str_int _ _ _ _,.str_int _ _ _ _,.str_int _ _ _ _⟩
theorem ud(n:Nat){A:Around}{a b:V}{va vb:Value}{r:Bool}(e:eqV n a b=some r)(I:au C O J s.heap)(ra:ac C O a va)(rb:ac C O b vb)(hu:A.units+n<cLine):EqAt A s va vb r/\RcAt A s va vb r/\RcNeAt A s va vb (!r):=by
 induction n generalizing A a b va vb r with|zero=>exact aC e|succ n ih=>exact Lr (Cq e) I (Ts (Uh _ _) ‹_›) (fun v ra rb=>Ct (n+1) e I ra rb) (fun x y v w q e rx ry=>(ih e rx ry (by show A.units+1+n<cLine;exact ar1 [_,_] [] 0 401595752376554676299138131985212976 hu art)).1) ra rb
theorem Cv(I:au C O J s.heap){a b:V}{va vb:Value}{r:Bool}(e:eqI J a b=some r)(ra:ac C O a va)(rb:ac C O b vb)(hu:A.units+16<cLine):RcAt A s va vb r/\RcNeAt A s va vb (!r):=by
 refine mO e (fun xs hx e=>bE e fun ys hy e=>?_) fun _ e=>(ud 6 e I ra rb (ar1 [_] [] 0 392183351930135795146557163570384 hu art)).2;exact fb (G:=fun va=>RcAt A s va vb _/\RcNeAt A s va vb _) I hx ra fun a vals n ho t=>fb (G:=fun vb=>RcAt A s _ vb _/\RcNeAt A s _ vb _) I hy rb fun b vals' n' ho' t'=>
  wc (Ts (Uh _ _) ‹_›) (isL ho) (isL ho') t t' e fun x y v w q eq rx ry=>(ud 5 eq I rx ry (by show A.units+1+5<cLine;exact ar1 [_] [] 0 401595752376403560571686303338857680 hu art)).1
theorem xy{f:V->V->Option Bool}{x:V}{xs:List V}{b:Bool}(e:tp f x xs=some b):(∀y∈xs,∃c,f y x=some c)/\(b=true↔∃y∈xs,f y x=some true):=by
 induction xs generalizing b with|nil=>rw[<-Tp e];exact⟨fun _ h=>absurd h Up,fun h=>absurd h TT,fun⟨_,h,_⟩=>absurd h Up⟩|cons y ys ih=>
  refine bE e fun b1 h1 e=>bE e fun b2 h2 e=>?_;obtain⟨g1,g2⟩:=ih h2;rw[<-Tp e];refine⟨List.forall_mem_cons.mpr ⟨⟨_,h1⟩,g1⟩,?_⟩;rw[Wv,g2];constructor
  . rintro(h|⟨z,hz,h⟩)
    .exact⟨y,.head _,by rw[h1,h]⟩
    .exact⟨z,.tail _ hz,h⟩
  . rintro⟨z,hz,h⟩;rcases TS.mp hz with rfl|hz
    .rw[h1]at h;exact .inl (Tp h)
    .exact .inr ⟨z,hz,h⟩
open Classical in
theorem Cw(I:au C O J s.heap){x:V}{xs:List V}{vx:Value}{vals:Array Value}{b:Bool}(e:tp (eqV 6) x xs=some b)(t:ai (ac C O) xs vals.toList)(rx:ac C O x vx)(hu:A.units+16<cLine):
 ∃g:Value->Bool,(∀y,y∈vals->EqAt A s y vx (g y))/\vals.any g=b:=by
 obtain⟨g1,g2⟩:=xy e;refine⟨fun v=>decide (∃y∈xs,ac C O y v/\eqV 6 y x=some true),fun v hv=>?_,?_⟩
 . refine ae (t.mem (Array.mem_toList_iff.mpr hv)) ?_;rintro y hy ry;by_cases q:∃y∈xs,ac C O y v/\eqV 6 y x=some true
   .refine cG (q) ?_;rintro z hz rz ez;show EqAt A s v vx (decide _);rw[To (p:=∃y∈xs,ac C O y v/\eqV 6 y x=some true) ⟨z,hz,rz,ez⟩];exact(ud 6 ez I rz rx (ar1 [_] [] 0 392183351930135795146557163570384 hu art)).1
   .show EqAt A s v vx (decide _);rw[Tz q];obtain⟨c,hc⟩:=g1 y hy;cases c with|true=>exact absurd ⟨y,hy,ry,hc⟩ q|false=>exact(ud 6 hc I ry rx (ar1 [_] [] 0 392183351930135795146557163570384 hu art)).1
 . rw[Vt,g2,Array.any_eq_true];constructor
   .rintro⟨i,hi,h⟩;refine cG (TH h) ?_;rintro y hy ry ey;exact⟨y,hy,ey⟩
   .rintro⟨y,hy,ey⟩;obtain⟨i,hi⟩:=U7 hy;refine ae (t.get hi) ?_;rintro v hv rv;rw[US]at hv;obtain⟨hl,hv⟩:=Array.getElem?_eq_some_iff.mp hv;exact⟨i,hl,by rw[hv];exact To ⟨y,hy,rv,ey⟩⟩
end
section
variable{C:Ctx}{O:Map}{J J':Hp}{s:Shared}{A:Around}{d:Nat}{E:Value->Shared->Prop}
theorem sH.u{A:Around}{d:Nat}(R:sH A d):A.units+16<cLine:=by have:=R.units;exact ar1 [_,_] [] 0 13475317364606670915741096021602426912052784 this art
theorem dW{xs:List V}(h:ba xs=true):xs.length<=1000000:=TH h
theorem qU(I:au C O J s.heap){v:V}{val:Value}{b:Bool}(e:bR J v=some b)(r:ac C O v val){Q:Bool->Shared->Prop}(h:∀t,Q b { s with toks:=t}):
 wpAny (model C.prog C.w) A (truthy val) Q E s:=by
 have h0:=h s.toks;have seq:∀{xs:List V}{vals:Array Value},ai (ac C O) xs vals.toList->decide (xs.length<=1000000)=true->vals.size<=1000000/\(xs.length != 0)=(!vals.isEmpty):=fun t hx=>by have hl:=bL t;exact⟨hl▸TH hx,by rw[hl,Array.isEmpty];rfl⟩
 cases v with
 |none=>cases e;apply elN r;exact PyProof.Rows.truthy_none h0
 |bool x=>cases e;apply elB r;exact WS h0
 |int x=>cases e;apply elI r;intro t;exact PyProof.Rows.truthy_int h0
 |str x=>
  refine ifE e fun hx e=>?_;have hx:=TH hx;apply elS r;intro t;refine PySem.P.truthy_str (by lia) ?_;have:((x.length:Int) != 0)=b:=by rw[<-Tp e,Vt];simp only[WE,ne_eq];lia
  rw[this];exact h _
 |tup xs=>refine ifE e fun hx e=>?_;apply elT r;intro a vals n m t;obtain⟨h1,h2⟩:=seq t hx;exact PyProof.Rows.truthy_tuple (items:=vals) (cz I m) (Vo (VE.mpr ‹_›) (by decide)) (by rw[<-h2,Tp e];exact h _)
 |lst xs=>refine ifE e fun hx e=>?_;apply elL r;intro a vals n m t;obtain⟨h1,h2⟩:=seq t hx;exact wpAny_truthy_list (items:=vals) (isL (I.z _ m)) (Vo (VE.mpr ‹_›) (by decide)) (by rw[<-h2,Tp e];exact h _)
 |_=>exact aC e
theorem lU(K:aU C)(I:au C O J s.heap){xs:List V}{vals:Array Value}(t:ai (ac C O) xs vals.toList){tr:Bool}{J':Hp}{r:V}(e:bG tr xs J=(r,J')){Q:Value->Shared->Prop}(P:eM C O s J' r Q)(tk:Nat):
 Q (.ref s.heap.objs.size) { s with heap:=s.heap.push { cls:=.type "list",data:=.seq vals},toks:=tk}:=by
 unfold bG at e;cases tr with
 |true=>cases e;refine P ⟨O.am++[s.heap.objs.size],O.Z⟩ _ _ (al.track I) (I.track K ⟨vals,0,rfl,t⟩) ?_;simp only[ac];exact⟨_,rfl,by rw[<-I.len];simp⟩
 |false=>cases e;refine P ⟨O.am,(s.heap.objs.size,listOf vals 0)::O.Z⟩ _ _ al.frozen (I.frozen (o:=listOf vals 0)) ?_;simp only[ac];exact⟨_,vals,0,rfl,.head _,aL.mpr (cN ⟨⟨[],by simp⟩,fun p hp=>.tail _ hp⟩ t)⟩
theorem mT(I:au C O J s.heap){xs:List V}{vals:Array Value}(t:ai (ac C O) xs vals.toList){Q:Value->Shared->Prop}(P:eM C O s J (.tup xs) Q)(tk:Nat):
 Q (.ref s.heap.objs.size) { s with heap:=s.heap.push { cls:=.type "tuple",data:=.seq vals},toks:=tk}:=by
 refine P ⟨O.am,(s.heap.objs.size,kB vals 0)::O.Z⟩ _ _ al.frozen (I.frozen (o:=kB vals 0)) ?_;simp only[ac];exact⟨_,vals,0,rfl,.head _,aL.mpr (cN ⟨⟨[],by simp⟩,fun p hp=>.tail _ hp⟩ t)⟩
theorem xz(K:aU C)(I:au C O J s.heap){xs:List V}{vals:List Value}(t:ai (ac C O) xs vals)(hl:ba xs=true){tr:Bool}{J':Hp}{r:V}(e:bG tr xs J=(r,J')){Q:Value->Shared->Prop}(P:eM C O s J' r Q):
 wpAny (model C.prog C.w) A (newList vals) Q E s:=by
 have:=dW hl;have hv:=t.length;exact Wg (lU K I (vals:=vals.toArray) (by simpa using t) e P s.toks) (by show vals.toArray.size<=sizeLine;rw[WT,U8];exact Tk (TF (Ul ‹_›)) (Tk ‹_› (by decide)))
theorem we(I:au C O J s.heap){xs:List V}{vals:List Value}(t:ai (ac C O) xs vals)(hl:ba xs=true){Q:Value->Shared->Prop}(P:eM C O s J (.tup xs) Q):
 wpAny (model C.prog C.w) A (newTuple vals) Q E s:=by
 have:=dW hl;have hv:=t.length;exact Wg (mT I (vals:=vals.toArray) (by simpa using t) P s.toks) (by show vals.toArray.size<=sizeLine;rw[WT,U8];exact Tk (TF (Ul ‹_›)) (Tk ‹_› (by decide)))
theorem hM{i:Int}(h:aO i=true): -(2^62)<i/\i<2^62:=by obtain⟨a,b⟩:=Vv.mp h;exact⟨TH a,TH b⟩
theorem qV{α:Type}(xs:Array α):∀(n:Nat) (acc:Array α),(List.foldl (fun x1 x2=>x1++x2) acc (List.replicate n xs)).toList=acc.toList++(List.replicate n xs.toList).flatten
 |0,acc=>by simp
 |n+1,acc=>by rw[U0,U0,List.foldl_cons,qV xs n,We];simp
theorem Ls(K:aU C)(I:au C O J s.heap){t:Bool}{op:Operator}{a b r:V}{va vb:Value}(e:dI t op a b J=some (r,J'))(ra:ac C O a va)(rb:ac C O b vb){Q:Value->Shared->Prop}(P:eM C O s J' r Q):
 wpAny (model C.prog C.w) A (binaryOp op va vb) Q E s:=by
 cases op with
 |Add=>
  refine mO e (fun x hx e=>mE e fun y hy e=>?_) fun _ e=>mO e (fun xs hx e=>bE e fun ys hy e=>ifE e fun hc e=>?_) fun _ e=>bE e fun xs hx e=>bE e fun ys hy e=>ifE e fun hc e=>?_
  .apply fu hx ra;intro t;apply fu hy rb;intro u;exact PyProof.Rows.add_int ((P.at (Tx some e)).tok I _ vIn)
  . replace P:=P.at e
    rw[TC,TC,WE,WE]at hc;have hlen:=dW hc.1.1;apply xu hx ra;intro a vals n m t;apply xu hy rb;intro b vals' n' m' t';have l1:=bL t;have l2:=bL t';rw[Tm]at hlen;exact PySem.P.add_tuple (t:=a) (b:=b) (items:=vals) (items2:=vals') (n:=n) (n2:=n') (I.z _ m) (I.z _ m') (fun hq=>hc.1.2 (l1.trans (TH hq))) (fun hq=>hc.2 (l2.trans (TH hq)))
     (mT I (vals:=vals++vals') (by rw[Array.toList_append];exact t.append t') P s.toks) (by rw[U8];exact ar3 [_,_,_,_] [] 0 20769187634881818510111344149743152 (TF (Ul l2) :) hlen (TF (Ul l1) :) art)
  . have hlen:=dW hc;apply fb I hx ra;intro a vals n ho t;apply fb I hy rb;intro b vals' n' ho' t';have l1:=bL t;have l2:=bL t';rw[Tm]at hlen;exact concat_meets ⟨_,ho,rfl⟩ ⟨_,ho',rfl⟩ noFill_list_add seq_list_add PySem.F.slot_list_add PySem.F.entry_list_add (PySem.F.args_list_add_2 _ _) (list_addW a b vals vals' n n' none none #[] #[] (by rw[U8];exact ar3 [_,_,_,_] [] 0 20769187634881818510111344149743152 (TF (Ul l2) :) hlen (TF (Ul l1) :) art))
     ⟨ho,ho',lU K I (vals:=vals++vals') (by rw[Array.toList_append];exact t.append t') (Tp e) P s.toks⟩
 |Sub=>apply jG e ra rb;intro x y t u e;exact PyProof.Rows.sub_int ((P.at e).tok I _ vIn)
 |Mult=>
  refine mO e (fun x hx e=>bE e fun y hy e=>ifE e fun hc e=>?_) fun _ e=>bE e fun y hy e=>bE e fun xs hx e=>ifE e fun hc e=>?_
  .apply fu hx ra;intro t;apply fu hy rb;intro u;have h1:=hM (Vv.mp hc).1;exact PyProof.Rows.mul_int ((P.at e).tok I _ vIn) (IntMulOk.of_left (intBits_le_64 (ar1 [] [_] 513 1178926819896281884119629248306585516542180223204269752742 h1.1 art) (ar1 [] [_] 513 766247770432944429196293521323271591825900840783381816 h1.2 art)))
  . rw[TC,TC,Um,Um,Um]at hc;apply fb I hx ra;intro a vals n ho t;apply fu hy rb;intro u;have l1:=bL t;have hz:vals.size*y.toNat<=2^24:=by have:vals.size*y.toNat<=1000*1000:=Nat.mul_le_mul (ar2 [_,_] [] 0 1153000933944509793584 (TF (Ul l1) :) hc.2 art) (ar2 [_] [_] 262656 36896029025915717748024 (qI (a:=y) (ar1 [] [_] 513 795400 hc.1.1 art)) hc.1.2 art);exact Tk ‹_› (by decide)
    refine wpAny_binaryOp_repeat_ref (T:="list") (U:="int") (by decide) ⟨_,ho,rfl⟩ (fun s'=>typeIs_int s' y u) noFill_list_mul PySem.F.fills_int_mul PySem.F.slot_int_rmul repeat_list PySem.F.slot_int_index.lookup
     (call_meets PySem.F.slot_int_rmul (typeIs_int s y u) PySem.F.entry_int_rmul (PySem.F.args_int_rmul_2 _ _) (int___rmul___int_list y u a vals n)
      ⟨ho,rfl,⟨_,ho,rfl⟩,call_meets PySem.F.slot_list_mul ⟨_,ho,rfl⟩ PySem.F.entry_list_mul (PySem.F.args_list_mul_2 _ _)
       (AutoListH.list___mul___list_int_3 a vals n y u (by simp[Builtin.List.listFitsIndex];exact⟨ar1 [] [_] 513 29874974854316716165339454216 hc.1.1 art,ar1 [] [_] 513 10633823966279326983705632181097530680 hc.1.2 art⟩) (by lia) (by simp[Builtin.List.listTooLong,sizeLine];exact Tk ‹_› (by decide)))
       ⟨ho,lU K I ?_ (Tp e) P s.toks⟩⟩)
    rw[qV];by_cases hv:vals.isEmpty=true
    .rw[if_pos hv];have:xs=[]:=Uv.mp (l1.trans (by simpa [Array.isEmpty]using hv));subst this;simp;exact .nil
    .rw[if_neg hv];simpa using t.replicate y.toNat
 |FloorDiv=>apply jG e ra rb;intro x y t u e;refine ifE e fun hc e=>?_;rw[TC,Um,Um]at hc;exact floordiv_int (Int.ne_of_gt (ar1 [] [_] 513 826018628904 hc.1 art)) ((P.at e).tok I _ vIn) (.inl (PyProof.noPylong_small (by omega)))
 |Mod=>apply jG e ra rb;intro x y t u e;refine ifE e fun hc e=>?_;have hc:=TH hc;exact mod_int' (Int.ne_of_gt (ar1 [] [_] 513 826018628904 hc art)) ((P.at e).tok I _ vIn)
 |_=>exact aC e
end
section
variable{C:Ctx}{O:Map}{J J':Hp}{s:Shared}{A:Around}{d:Nat}{E:Value->Shared->Prop}
noncomputable abbrev sK(C:Ctx):=strKind C.prog C.w
noncomputable def KV(C:Ctx)(O:Map)(p:Str×V)(q:Str×Value):Prop:=q.1=p.1/\ac C O p.2 q.2
theorem ue{es:List (Str×V)}{kvs:List (Str×Value)}(t:ai (KV C O) es kvs):kvs.map (·.1)=es.map (·.1):=by
 induction t with|nil=>rfl|cons h _ ih=>rw[Uj,Uj,ih,h.1]
theorem Cx{es:List (Str×V)}{ents:List DictEntry}(t:ai (ft C O) es ents):∃kvs,Pairs (sK C) ents kvs/\ai (KV C O) es kvs/\KeysOf (sK C) ents.toArray:=by
 induction t with|nil=>exact⟨[],.nil,.nil,fun e h=>by simp at h⟩|@cons p e es ents h _ ih=>
  refine cG (ih) ?_;rintro kvs h1 h2 h3;refine eX (h) ?_;rintro hh ⟨tk,hk⟩ hv;have is:(sK C).is p.1 e.key=true:=by rw[hk];exact VR _ _ _ _
  refine⟨(p.1,e.val)::kvs,.cons is rfl h1,.cons ⟨rfl,hv⟩ h2,fun x hx=>?_⟩;rcases TS.mp (by simpa using hx)with rfl|hx
  .exact⟨p.1,is,hh⟩
  .exact h3 x (by simpa using hx)
theorem xA{es:List (Str×V)}{kvs:List (Str×Value)}{ents:List DictEntry}(h1:Pairs (sK C) ents kvs)(h2:ai (KV C O) es kvs)(h3:∀e∈ents,∃k,(sK C).is k e.key=true/\e.hash=(sK C).hash k):ai (ft C O) es ents:=by
 induction h1 generalizing es with|nil=>cases h2;exact .nil|@cons e kv ents kvs i1 i2 _ ih=>
  cases h2 with|@cons p _ es _ k1 k2=>
   refine .cons ?_ (ih k2 fun e he=>h3 e (.tail _ he));refine ae (h3 e (.head _)) ?_;rintro k a b;have:k=kv.1:=(sK C).inj _ _ _ a i1;subst this;refine⟨?_,?_,?_⟩
   .rw[<-k1.1];exact b
   .rw[<-k1.1];exact Value.isStrOf_shape i1
   .rw[i2];exact k1.2
theorem gx{es:List (Str×V)}{ents:List DictEntry}{n:Nat}{h:Heap}{a:Addr}(ho:h.get? a=some (g8 ents n))(t:ai (ft C O) es ents)(nd:(es.map (·.1)).Nodup):∃kvs,h.DictOf (sK C) a kvs/\ai (KV C O) es kvs:=by refine cG (Cx t) ?_;rintro kvs h1 h2 h3;exact⟨kvs,⟨_,ents.toArray,n,ho,⟨rfl,rfl,rfl⟩,rfl,h3,by simpa using h1,by rw[ue h2];exact nd⟩,h2⟩
theorem pW{es:List (Str×V)}{kvs:List (Str×Value)}{h:Heap}{a:Addr}(D:h.DictOf (sK C) a kvs)(t:ai (KV C O) es kvs):∃o,h.get? a=some o/\nY C O (.dict es) o:=by refine vW (D) ?_;rintro⟨c,dd,dat,sl⟩ ents n ho ⟨e1,e2,e3⟩ ed hk hp nd;simp only at e1 e2 e3 ed;subst e1 e2 e3 ed;exact⟨_,ho,ents.toList,n,by simp[g8],xA hp t fun e he=>hk e (Array.mem_toList_iff.mp he),by rw[<-ue t];exact nd⟩
theorem wf{α:Type}{R:α->Value->Prop}{es:List (Str×α)}{kvs:List (Str×Value)}(t:ai (fun p q=>q.1=p.1/\R p.2 q.2) es kvs)(x:Str):(∀v,es.lookup x=some v->∃val,valueAt kvs x=some val/\R v val)/\(es.lookup x=none->valueAt kvs x=none):=by
 induction t with|nil=>exact⟨fun v h=>aC h,fun _=>rfl⟩|@cons p q es kvs h _ ih=>
  obtain⟨y,w⟩:=p;rw[TR];by_cases hx:x=y
  .subst hx;rw[TQ];refine⟨fun v e=>?_,fun h=>nomatch h⟩;exact⟨q.2,by simp[valueAt,h.1],Tp e▸h.2⟩
  . rw[Tv.mpr hx];have:valueAt (q::kvs) x=valueAt kvs x:=by unfold valueAt;rw[Vu,Tz (h.1▸Ne.symm hx)]
    rw[this];exact ih
theorem mV{es:List (Str×V)}{kvs:List (Str×Value)}(t:ai (KV C O) es kvs)(x:Str):(∀v,es.lookup x=some v->∃val,valueAt kvs x=some val/\ac C O v val)/\(es.lookup x=none->valueAt kvs x=none):=wf t x
theorem tC{es:List (Str×V)}{kvs:List (Str×Value)}(t:ai (KV C O) es kvs)(x:Str){d:V}{vd:Value}(r:ac C O d vd):ac C O ((es.lookup x).getD d) ((valueAt kvs x).getD vd):=by
 obtain⟨l1,l2⟩:=mV t x;cases q:es.lookup x with|none=>rw[l2 q];exact r|some v=>refine ae (l1 v q) ?_;rintro val hv rv;rw[hv];exact rv
theorem AC{es:List (Str×V)}{kvs:List (Str×Value)}(t:ai (KV C O) es kvs)(x:Str):(valueAt kvs x).isSome=(es.lookup x).isSome:=by
 obtain⟨l1,l2⟩:=mV t x;cases q:es.lookup x with|none=>rw[l2 q];rfl|some v=>refine ae (l1 v q) ?_;rintro val hv rv;rw[hv];rfl
theorem qW{es:List (Str×V)}{kvs:List (Str×Value)}(t:ai (KV C O) es kvs)(nd:(es.map (·.1)).Nodup)(x:Str){v:V}{val:Value}(r:ac C O v val):ai (KV C O) (em x v es) (stored kvs x val):=by
 induction t with|nil=>exact .cons ⟨rfl,r⟩ .nil|@cons p q es kvs h t ih=>
  obtain⟨k1,k2⟩:=h;obtain⟨y,w⟩:=p;simp only at k1 k2;rw[Uj,VO]at nd;unfold em;by_cases hx:x=y
  . subst hx;rw[TQ,if_pos rfl];have hn:x∉kvs.map (·.1):=by rw[ue t];exact nd.1
    have e:stored (q::kvs) x val=(q.1,val)::kvs:=by unfold stored;rw[if_pos (by simp[k1]),Uj,if_pos k1,map_store_of_not_mem kvs _ val hn]
    rw[e];exact .cons ⟨k1,r⟩ t
  . rw[Tv.mpr hx,if_neg TT];have hq:q.1≠x:=by rw[k1];exact fun e=>hx e.symm
    have e:stored (q::kvs) x val=q::stored kvs x val:=by
     unfold stored;rw[WW,Tz hq,VP]
     split
     .rw[Uj,if_neg hq]
     .rfl
    rw[e];exact .cons ⟨k1,k2⟩ (ih nd.2)
theorem oZ(x:Str)(v:V):∀es:List (Str×V),(em x v es).map (·.1)=es.map (·.1)\/((em x v es).map (·.1)=es.map (·.1)++[x]/\x∉es.map (·.1))
 |[]=>.inr ⟨rfl,by simp⟩
 |(y,w)::r=>by
  unfold em;by_cases hx:x=y
  .subst hx;rw[TQ,if_pos rfl];exact .inl rfl
  . rw[Tv.mpr hx,if_neg TT];rcases oZ x v r with h|⟨h,k⟩
    .exact .inl (by rw[Uj,Uj,h])
    .exact .inr ⟨by rw[Uj,Uj,h];rfl,by simp[hx];simpa using k⟩
theorem qX{x:Str}{v:V}{es:List (Str×V)}(nd:(es.map (·.1)).Nodup):((em x v es).map (·.1)).Nodup:=by
 rcases oZ x v es with h|⟨h,k⟩
 .rw[h];exact nd
 .rw[h];exact Wf.mpr ⟨nd,by simp,fun a ha b hb=>by rw[Tw.mp hb];rintro rfl;exact k ha⟩
theorem jH(I:au C O J s.heap){n:Nat}{a:Addr}(e:O.am[n]?=some a):(a==sysModules)=false:=Tv.mpr (I.low a (TZ e))
theorem KM(R:sH A d)(I:au C O J s.heap){x c:V}{vx vc:Value}{b:Bool}(e:inI J x c=some b)(rx:ac C O x vx)(rc:ac C O c vc){Q:Value->Shared->Prop}:
 ((∀t,Q (.bool b) { s with toks:=t})->wpAny (model C.prog C.w) A (compareOp .In vx vc) Q E s)/\((∀t,Q (.bool (!b)) { s with toks:=t})->wpAny (model C.prog C.w) A (compareOp .NotIn vx vc) Q E s):=by
 have hu:A.in1.units+16<cLine:=by have:=R.units;show A.units+1+16<cLine;exact ar1 [_,_] [] 0 13798724981357230423311295736388133798134486576 this art
 refine mO e (fun xs hx e=>?_) fun _ e=>mO e (fun k hk e=>?_) fun _ e=>?_
 . apply qR I hx rc
   .intro a vals n ho t;refine ae (Cw (A:=A.in1) I e t rx hu) ?_;rintro g hg rfl;exact⟨fun h=>in_listAt g (isL ho) hg (h s.toks),fun h=>notIn_listAt g (isL ho) hg (h s.toks)⟩
   .intro a vals n m t;refine ae (Cw (A:=A.in1) I e t rx hu) ?_;rintro g hg rfl;exact⟨fun h=>in_tupleAt g (cz I m) hg (h s.toks),fun h=>notIn_tupleAt g (cz I m) hg (h s.toks)⟩
 . apply uc I e rc;intro n es a xs ha D t e;have hb:=(xx t k).trans (Tp e);have hr:(tkC C).room A.in1:=by have:=R.units;show A.units+1<cLine;exact Ts (Uh _ _) ‹_›
   apply xw I hk rx;intro b kb _;exact⟨fun h=>wpAny_in_heap hr kb (jH I ha) D (by rw[hb];exact h _),fun h=>wpAny_notIn_heap hr kb (jH I ha) D (by rw[hb];exact h _)⟩
 . apply ub I e rc
   .intro n xs a vals k hn ha ho t e;exact aC e
   .intro n es a ents k hn ha ho t nd e;refine mE e fun x hx e=>?_;apply ld hx rx;intro tk;refine ae (gx ho t nd) ?_;rintro kvs D kv;have hb:=(AC kv x).trans e;exact⟨fun h=>wpAny_in_of (VR _ _ _ _) (jH I ha) D.mapOf (by rw[hb];exact h _),fun h=>wpAny_notIn_of (VR _ _ _ _) (jH I ha) D.mapOf (by rw[hb];exact h _)⟩
theorem Cy{a b:V}{va vb:Value}{r:Bool}(e:isQ a b=some r)(ra:ac C O a va)(rb:ac C O b vb){Q:Value->Shared->Prop}:(Q (.bool r) s->wpAny (model C.prog C.w) A (compareOp .Is va vb) Q E s)/\(Q (.bool (!r)) s->wpAny (model C.prog C.w) A (compareOp .IsNot va vb) Q E s):=by
 refine ifE e fun hb e=>?_;apply qQ hb rb;cases a with
 |none=>apply elN ra;exact Tp e▸⟨fun h=>is_none h,fun h=>isNot_none h⟩
 |int i=>apply elI ra;intro t;exact Tp e▸⟨fun h=>is_none h,fun h=>isNot_none h⟩
 |str i=>apply elS ra;intro t;exact Tp e▸⟨fun h=>is_none h,fun h=>isNot_none h⟩
 |inst c n=>simp only[ac]at ra;refine aW (ra) ?_;rintro x dx K rfl _;exact Tp e▸⟨fun h=>is_none h,fun h=>isNot_none h⟩
 |_=>exact aC e
theorem xB(R:sH A d)(I:au C O J s.heap){op:CmpOp}{a b:V}{va vb:Value}{r:Bool}(e:bA J op a b=some r)(ra:ac C O a va)(rb:ac C O b vb){Q:Value->Shared->Prop}(h:∀t,Q (.bool r) { s with toks:=t}):
 wpAny (model C.prog C.w) A (compareOp op va vb) Q E s:=by
 have h0:=h s.toks;cases op with
 |Eq=>exact(Cv I e ra rb R.u).1 _ _ _ _ h0
 |NotEq=>exact mE e fun q e er=>(Cv I e ra rb R.u).2 _ _ _ _ (er▸h0)
 |Lt=>apply jG e ra rb;intro x y t u e;exact PyProof.Rows.lt_int (Tp e▸h0)
 |LtE=>apply jG e ra rb;intro x y t u e;exact PyProof.Rows.le_int (Tp e▸h0)
 |Gt=>apply jG e ra rb;intro x y t u e;exact PyProof.Rows.gt_int (Tp e▸h0)
 |GtE=>apply jG e ra rb;intro x y t u e;exact PyProof.Rows.ge_int (Tp e▸h0)
 |In=>exact(KM R I e ra rb).1 h
 |NotIn=>exact mE e fun q e er=>(KM R I e ra rb).2 (er▸h)
 |Is=>exact(Cy e ra rb).1 h0
 |IsNot=>exact mE e fun q e er=>(Cy e ra rb).2 (er▸h0)
theorem O5(I:au C O J s.heap){op:UnaryOp}{a r:V}{va:Value}(e:unI op a J=some r)(ra:ac C O a va){Q:Value->Shared->Prop}(P:eM C O s J r Q):
 wpAny (model C.prog C.w) A (unaryOp op va) Q E s:=by
 cases op with
 |USub=>refine mE e fun i hi e=>?_;apply fu hi ra;intro t;exact PyProof.Rows.neg_int (P.tok I _ (e▸vIn))
 |Not=>exact mE e fun q e er=>PyProof.Rows.not_of (qU I e ra fun t=>P.tok I _ (er▸vBl))
 |_=>exact aC e
theorem Cz(I:au C O J s.heap){c:Const}{r:V}{env:Env}(e:qJ c=some r){Q:Value->Shared->Prop}(P:eM C O s J r Q):
 wpAny (model C.prog C.w) A (constValue env c) Q E s:=by
 cases c with|none=>exact TN (P.here I (v:=.none) (Tp e▸vNo))|bool b=>exact TN (P.here I (v:=.bool _) (Tp e▸vBl))|int i=>exact WR (P.tok I _ (v:=.int _ _) (Tp e▸vIn))|str x=>exact wpAny_mkText (P.tok I _ (v:=.str _ _) (Tp e▸vSt))|_=>exact aC e
theorem pX{k:Int}{n j:Nat}(e:seqIndex? k n=some j):j<n/\(0<=k->j=k.toNat)/\(k<0->j=(k+n).toNat /\ -(n:Int)<=k):=by
 unfold seqIndex? at e;by_cases h:k<0
 . simp only[h,if_true]at e
   split at e
   .rename_i hc;simp only[TC,Um]at hc;cases e;exact⟨ar2 [_,_] [_] 262656 620539066862482953495154200 (qI (a:=k + ↑n) (ar1 [_] [_] 513 39058702189320 hc.1 art)) hc.2 art,fun q=>absurd ‹_› (VS.mpr ‹_›),fun _=>⟨rfl,ar1 [_] [_] 513 26529477280520 hc.1 art⟩⟩
   .exact aC e
 . simp only[h,WG]at e
   split at e
   .rename_i hc;simp only[TC,Um]at hc;cases e;exact⟨ar2 [_,_] [_] 262656 577922831685780792 (qI (a:=k) (ar1 [] [_] 513 795400 hc.1 art)) hc.2 art,fun _=>rfl,fun q=>absurd q h⟩
   .exact aC e
theorem AD(I:au C O J s.heap){xs:List V}{k:Int}{r:V}{a:Addr}{vals:Array Value}{u:Tok}(e:gY xs k=some r)(t:ai (ac C O) xs vals.toList)(L:s.heap.IsList a vals){Q:Value->Shared->Prop}(P:eM C O s J r Q):
 wpAny (model C.prog C.w) A (getItem (.ref a) (.int k u)) Q E s:=by
 unfold gY at e
 split at e
 . rename_i hs;obtain⟨b1,b2⟩:=hM hs;refine bE e fun j hj hx=>?_;refine ae (t.get hx) ?_;rintro y hy ry;rw[US]at hy;refine eX (pX hj) ?_;rintro g1 g2 g3;have hl:=bL t;by_cases h:k<0
   .obtain⟨g3,g4⟩:=g3 h;rw[hl]at g3 g4;exact wpAny_getItem_list_neg L h g4 (ar1 [] [_] 513 1155732110775080733268799453657286400738090289872241062 b1 art) (by rw[<-g3];exact hy) (P.here I ry)
   .exact wpAny_getItem_list L (VS.mp ‹_›) (TK ‹_› (by decide)) (by rw[<-g2 (VS.mp ‹_›)];exact hy) (P.here I ry)
 .exact aC e
theorem xC(I:au C O J s.heap){xs:List V}{k:Int}{r:V}{a:Addr}{vals:Array Value}{n:Nat}{u:Tok}(e:gY xs k=some r)(t:ai (ac C O) xs vals.toList)(L:s.heap.get? a=some (kB vals n)){Q:Value->Shared->Prop}(P:eM C O s J r Q):
 wpAny (model C.prog C.w) A (getItem (.ref a) (.int k u)) Q E s:=by
 unfold gY at e
 split at e
 .rename_i hs;obtain⟨b1,b2⟩:=hM hs;refine bE e fun j hj hx=>?_;refine ae (t.get hx) ?_;rintro y hy ry;rw[US]at hy;have hl:=bL t;rw[hl]at hj;exact PyProof.Rows.getItem_tuple ⟨_,L,rfl,n,rfl⟩ (ar1 [] [_] 513 1155732110775080733268799453657286400738090289872241062 b1 art) (TK ‹_› (by decide)) hj hy (P.here I ry)
 .exact aC e
theorem CA(I:au C O J s.heap){o i r:V}{vo vi:Value}(e:af J o i=some r)(ro:ac C O o vo)(ri:ac C O i vi){value slice:Expr}(hu:A.units+1<cLine)(hs:∃ops,subscripted slice false vo vi=operate ops (getItem vo vi)){Q:Value->Shared->Prop}(P:eM C O s J r Q):
 wpAny (model C.prog C.w) A (subscriptTail value slice vo vi) Q E s:=by
 refine mO e (fun xs hx e=>bE e fun k hk e=>?_) fun _ e=>mO e (fun k hk e=>?_) fun _ e=>?_
 . revert hs;apply fu hk ri;intro u;apply qR I hx ro
   .rintro a vals n ho t ⟨ops,hs⟩;exact tail_any ⟨_,ho,rfl⟩ list_getitem_lookup (AD I e t (isL ho) P) hs
   .rintro a vals n m t ⟨ops,hs⟩;exact tail_any ⟨_,I.z _ m,rfl⟩ PyProof.Rows.slot_tuple_getitem.lookup (xC I e t (I.z _ m) P) hs
 .revert hs;apply uc I e ro;intro n es a xs ha D t e;apply xw I hk ri;rintro b kb _ ⟨ops,hs⟩;refine ae ((wa t k).1 r e) ?_;rintro p hp rv;exact tail_any D.typeIs slot_dict_getitem.lookup (wpAny_getItem_heap hu kb D hp (P.tok I _ rv)) hs
 . revert hs;apply ub I e ro
   .intro n xs a vals k hn ha ho t e;exact aC e
   .intro n es a ents k hn ha ho t nd e;refine bE e fun x hx e=>?_;apply ld hx ri;rintro u ⟨ops,hs⟩;refine ae (gx ho t nd) ?_;rintro kvs D kv;refine ae ((mV kv x).1 r e) ?_;rintro val hv rv;exact tail_any ⟨_,ho,rfl⟩ slot_dict_getitem.lookup (wpAny_getItem_of (VR _ _ _ _) D.mapOf hv (P.tok I _ rv)) hs
noncomputable def KO(C:Ctx)(O:Map)(s:Shared)(J':Hp)(Q:Shared->Prop):Prop:=∀O' s',al O O' s s'->au C O' J' s'.heap->Q s'
theorem CB(I:au C O J s.heap){o i v:V}{vo vi vv:Value}(e:eo J o i v=some J')(ro:ac C O o vo)(ri:ac C O i vi)(rv:ac C O v vv){Q:Unit->Shared->Prop}(hu:A.units+1<cLine)(P:KO C O s J' (Q ())):
 wpAny (model C.prog C.w) A (setItem vo vi vv) Q E s:=by
 refine mO e (fun k hk e=>?_) fun _ e=>?_
 . apply uc I e ro;intro n es a xs ha D t e;refine ifE e fun hz e=>?_;have hz:=TH hz;cases e;apply xw I hk ri;intro b kb rb;refine wpAny_setItem_heap (knd:=tkC C) hu kb D (fun h' D' hs=>?_) (by rw[<-t.length,U8];exact TX (TG ‹_› (by decide)));have nd:(xs.map (·.1)).Nodup:=by refine qN (D) ?_;rintro _ _ _ _ _ _ _ ⟨_,nd⟩;exact nd
   refine ae (Co D' (GK t nd hk rb rv)) ?_;rintro o' ho' r';have hsame:∀b,b≠a->∀x,s.heap.get? b=some x->h'.get? b=some x:=fun b hb x hx=>(hs.2 b hb).trans hx;exact P O _ (al.turn ha hsame) (I.turn ha hsame ho' r')
 apply ub I e ro
 . intro n xs a vals c hn ha ho t e;refine bE e fun x hx e=>ifE e fun hs e=>mE e fun j hj e=>?_;subst e;apply fu hx ri;intro u;obtain⟨b1,b2⟩:=hM hs;refine eX (pX hj) ?_;rintro g1 g2 g3;have hl:=bL t;have fin:Q () { s with heap:=s.heap.update a (Obj.mapSeq (·.setIfInBounds j vv))}:=by have hsame:∀b,b≠a->∀x,s.heap.get? b=some x->(s.heap.update a (Obj.mapSeq (·.setIfInBounds j vv))).get? b=some x:=fun b hb x hx=>((WA s.heap a _).2 b hb).trans hx;refine P O _ (al.turn ha hsame) (I.turn ha hsame (Wm _ ho rfl) ⟨vals.setIfInBounds j vv,c,by simp[Obj.mapSeq],?_⟩);rw[Array.toList_setIfInBounds];exact t.set j rv
   by_cases h:x<0
   .obtain⟨g3,g4⟩:=g3 h;rw[hl]at g3 g4;exact ki_setBack ho h g4 (ar1 [] [_] 513 1155732110775080733268799453657286400738090289872241062 b1 art) (by rw[<-g3];exact fin)
   .exact ki_setAt ho (VS.mp ‹_›) (TK ‹_› (by decide)) (by lia) (by rw[<-g2 (VS.mp ‹_›)];exact fin)
 .intro n es a ents c hn ha ho t nd e;refine bE e fun x hx e=>ifE e fun hz e=>?_;have hz:=TH hz;cases e;apply ld hx ri;intro u;refine ae (gx ho t nd) ?_;rintro kvs D kv;refine wpAny_setItem_pairs (VR _ _ _ _) D (fun h' D' hs=>?_) (by rw[<-kv.length,U8];exact TX (TG ‹_› (by decide)));refine ae (pW D' (qW kv nd x rv)) ?_;rintro o' ho' r';have hsame:∀b,b≠a->∀x,s.heap.get? b=some x->h'.get? b=some x:=fun b hb x hx=>(hs.2 b hb).trans hx;exact P O _ (al.turn ha hsame) (I.turn ha hsame ho' r')
end
noncomputable def Kv(C:Ctx)(O:Map)(p:Str×V)(q:Str×Value):Prop:=q.1=p.1/\ac C O p.2 q.2
noncomputable def uf(C:Ctx)(kw:List Value)(x:Src)(v:Value):Prop:=match x with
 |.kw k=>kw[k]?=some v
 |.dflt d=>ac C ⟨[],C.Z₀⟩ d v
noncomputable def ug(sc:Scope):Bool:=decide (sc.kind=.function) && !sc.isCoroutine && !sc.isGenerator&&sc.names.all (fun p=>p.2==.local||p.2==.cell||p.2==.globalImplicit)&&decide ((sc.names.map (·.1)).Nodup)&&sc.names.all (fun p=>p.1 != ("__debug__":Str))
inductive O6(C:Ctx)(c m:Str)(fd:aD):Prop where
 |mk {f oc od osl name qual params dV kV doc pm an cdv ct} (h1:C.fnA c m=some f) (h2:C.K.lookup f=some ⟨oc,od,.func (fnOf name qual params fd.body fd.scope dV kV doc pm an cdv ct),osl⟩) (h3:codeIn C.K cdv qual=true) (h4:isFn C.K (.ref f)=true)
  (h5:∀sh∈fd.shapes,∀vals kwv:List Value,vals.length=sh.1->kwv.length=sh.2.1.length->∃r,ai (uf C kwv) sh.2.2 r /\
   ∀S,peek C.K S (bindArgs (fnOf name qual params fd.body fd.scope dV kV doc pm an cdv ct) ⟨vals,sh.2.1.zip kwv⟩)=some (fd.params.zip (vals++r))):O6 C c m fd
structure AE(C:Ctx)(c m:Str)(fd:aD):Prop where
 ok:ug fd.scope=true
 params:∀x∈fd.params,fd.scope.names.lookup x=some .local\/fd.scope.names.lookup x=some .cell
 pnodup:fd.params.Nodup
 at_:O6 C c m fd
inductive tD(C:Ctx)(c:Str)(cd:cF):Prop where
 |mk {a fI:Addr} (h1:C.clA c=some a) (h2:plainGet C.K a ""=true) (h3:hasDictIn C.K a=true) (h4:findIn C.K (.ref a) "__setattr__"=some (some (.builtin "object.__setattr__"))) (h5:plainOver C.K a=true) (h6:makesIn C.K a=true)
  (h7:findIn C.K (.ref a) "__init__"=some (some (.ref fI))) (h8:C.fnA c "__init__"=some fI) (h9:isFn C.K (.ref fI)=true) (h10:keepIn C.K (.ref a)=true) (h11:∀x∈cd.attrs,findIn C.K (.ref a) x=some none)
  (h12:∀x∈cd.meths,∃f,findIn C.K (.ref a) x=some (some (.ref f))/\C.fnA c x=some f/\isFn C.K (.ref f)=true):tD C c cd
structure cM(C:Ctx)(T:Tab):Prop where
 fns:∀c m fd,T.fns.lookup (c,m)=some fd->AE C c m fd
 cls:∀c cd,T.cls.lookup c=some cd->tD C c cd
 glob:∀x v,T.glob.lookup x=some v->∃val,ac C ⟨[],C.Z₀⟩ v val/\(nsIn C.K mainGlobals x=some (some val)\/(nsIn C.K mainGlobals x=some none/\bootBuiltins x=some val/\x ≠ "__name__"))
 fnv:∀c m f,C.fnA c m=some f->keepIn C.K (.ref f)=true
 clv:∀c a,C.clA c=some a->∃cd,T.cls.lookup c=some cd
section
variable{C:Ctx}{T:Tab}{O:Map}{J J':Hp}{s:Shared}{A:Around}{d:Nat}{E:Value->Shared->Prop}
theorem mX(K:aU C)(I:au C O J s.heap):C.K.In s.heap:=K.kin.keeps I.base
theorem AF{v:V}{val:Value}(r:ac C O v val)(hb:∀id,v≠.bi id):handedIn val=true:=by
 cases v with
 |none=>simp only[ac]at r;subst r;rfl
 |bool b=>simp only[ac]at r;subst r;rfl
 |int i=>simp only[ac]at r;obtain⟨t,rfl⟩:=r;rfl
 |str i=>simp only[ac]at r;obtain⟨t,rfl⟩:=r;rfl
 |tup xs=>simp only[ac]at r;refine aW (r) ?_;rintro a vals n rfl _;rfl
 |lst xs=>simp only[ac]at r;refine aW (r) ?_;rintro a vals n rfl _;rfl
 |rng a b=>simp only[ac]at r;refine bw (r) ?_;rintro a o rfl _;rfl
 |ref n=>simp only[ac]at r;refine ae (r) ?_;rintro a rfl _;rfl
 |inst c n=>simp only[ac]at r;refine aW (r) ?_;rintro a dx K rfl _;rfl
 |fn c m=>simp only[ac]at r;refine ae (r) ?_;rintro a rfl _;rfl
 |cls c=>simp only[ac]at r;refine ae (r) ?_;rintro a rfl _;rfl
 |bi id=>exact absurd rfl (hb id)
 |ty T=>simp only[ac]at r;subst r;rfl
 |jd es=>simp only[ac]at r;refine aW (r) ?_;rintro a ents n rfl _;rfl
theorem pY{p:Str×V}{e:DictEntry}(h:ft C O p e)(x:Str):e.key.isStr x=(x==p.1):=by refine eX (h) ?_;rintro _ ⟨t,ht⟩ _;rw[ht];show(p.1==x)=_;rw[Vt,Ub,Ub];exact eq_comm
theorem pZ{p:Str×V}{e:DictEntry}(h:ft C O p e):e.refKey=false:=by refine eX (h) ?_;rintro _ ⟨t,ht⟩ _;obtain⟨hs,k,v⟩:=e;simp only at ht;subst ht;rfl
theorem uh{es:List (Str×V)}{ents:List DictEntry}(t:ai (ft C O) es ents)(x:Str):(ents.any (·.refKey))=false/\(∀v,es.lookup x=some v->∃val,getL x ents=some (some val)/\ac C O v val)/\(es.lookup x=none->getL x ents=some none/\ents.any (·.key.isStr x)=false):=by
 have nr:∀{es:List (Str×V)}{ents:List DictEntry},ai (ft C O) es ents->(ents.any (·.refKey))=false:=by
  intro es ents t;induction t with
  |nil=>rfl
  |cons h _ ih=>rw[WW,pZ h,ih];rfl
 refine⟨nr t,?_⟩;induction t with|nil=>exact⟨fun v h=>by simp at h,fun _=>⟨rfl,rfl⟩⟩|@cons p e es ents h t ih=>
  have hk:=pY h x;obtain⟨y,w⟩:=p;simp only at hk;have n1:=nr t;rw[TR];by_cases hx:x=y
  .subst hx;rw[TQ];refine⟨fun v q=>?_,fun q=>by cases q⟩;cases q;rw[TQ]at hk;exact⟨e.val,by unfold getL;rw[Vu,hk],h.2.2⟩
  . rw[Tv.mpr hx]at hk ⊢;have:getL x (e::ents)=getL x ents:=by unfold getL;rw[Vu,hk,WW,pZ h,VP]
    rw[this];exact⟨ih.1,fun q=>⟨(ih.2 q).1,by rw[WW,hk,(ih.2 q).2];rfl⟩⟩
theorem GM{es:List (Str×V)}{ents:List DictEntry}(t:ai (ft C O) es ents)(x:Str){v:V}{val:Value}{k:Tok}(r:ac C O v val):ai (ft C O) (em x v es) (putL x (PyData.keyHash C.w.params x) (.str x k) val ents):=by
 induction t with|nil=>exact .cons ⟨rfl,⟨k,rfl⟩,r⟩ .nil|@cons p e es ents h t ih=>
  have hk:=pY h x;obtain⟨y,w⟩:=p;simp only at hk;unfold em putL;rw[hk];by_cases hx:x=y
  .subst hx;rw[TQ,if_pos rfl,if_pos rfl];exact .cons ⟨h.1,h.2.1,r⟩ t
  .rw[Tv.mpr hx,if_neg TT,if_neg TT];exact .cons h ih
theorem ui{β:Type}{o:V}{k:Str->Nat->cF->List (Str×V)->Option β}{r:β}{vo:Value}{G:Value->Prop}(TO:cM C T)(I:au C O J s.heap)(e:vR T J o k=some r)(ro:ac C O o vo)(g:∀c n cd es x dx a ents m,plainGet C.K a ""=true->hasDictIn C.K a=true->findIn C.K (.ref a) "__setattr__"=some (some (.builtin "object.__setattr__"))->plainOver C.K a=true->(∀x∈cd.attrs,findIn C.K (.ref a) x=some none) ->
  (∀x∈cd.meths,∃f,findIn C.K (.ref a) x=some (some (.ref f))/\C.fnA c x=some f/\isFn C.K (.ref f)=true)->PySem.W.InstAt s.heap x (instObj a dx) a (some (g8 ents m))->s.heap.get? dx=some (g8 ents m)->O.am[n]?=some dx->ai (ft C O) es ents->(es.map (·.1)).Nodup->k c n cd es=some r->G (.ref x)):G vo:=by
 cases o with
 |inst c n=>refine bE e fun cd hc e=>Cm e (fun _ _ e=>aC e) fun es hn e=>?_;simp only[ac]at ro;refine gg (ro) ?_;rintro x dx a rfl ha m hd;refine ae (I.cell n _ dx hn hd) ?_;rintro o ho ⟨ents,k,rfl,t,nd⟩;obtain @⟨ka',fI,h1,h2,h3,h4,h5,h6,h7,h8,h9,h10,h11,h12⟩:=TO.cls c cd hc;cases Tp (ha.symm.trans h1);exact g c n cd es x dx a ents k h2 h3 h4 h5 h11 h12 ⟨I.z _ m,rfl,rfl,ho⟩ ho hd t nd e
 |_=>exact aC e
theorem Lu(K:aU C)(TO:cM C T)(I:au C O J s.heap){o r:V}{a:Str}{vo:Value}{ex:Bool}(e:bS T J o a=some r)(ro:ac C O o vo){Q:Value->Shared->Prop}(P:eM C O s J r Q):
 wpAny (model C.prog C.w) A (getAttr vo a ex) Q E s:=by
 apply ui TO I e ro;intro c n cd es x dx ka ents k h2 h3 h4 h5 h11 h12 IA ho hd t nd e;refine ifE e fun hat e=>bE e fun v e e'=>ifE e' fun hb e'=>?_;cases e';refine ae ((uh t a).2.1 r e) ?_;rintro val hv rv;exact get_value (mX K I) IA (plainGet_of h2).1 (findObj_own h3 (h11 a (Wo.mp hat)) rfl hv) (AF rv fun id q=>by subst q;cases hb) (P.tok I _ rv)
theorem Lv(K:aU C)(TO:cM C T)(I:au C O J s.heap){o v:V}{a:Str}{vo vv:Value}(e:cY T J o a v=some J')(ro:ac C O o vo)(rv:ac C O v vv){Q:Unit->Shared->Prop}(P:KO C O s J' (Q ())):
 wpAny (model C.prog C.w) A (setAttr vo a vv) Q E s:=by
 apply ui TO I e ro;intro c n cd es x dx ka ents k h2 h3 h4 h5 h11 h12 IA ho hd t nd e;refine ifE e fun hat e=>ifE e fun hz e=>?_;have hz:=TH hz;cases e;have X:=mX K I;have ht:takerIn C.K ka a=some none:=by unfold takerIn;rw[h11 a (Wo.mp hat)];rfl
 refine set_plain X IA h4 (osa_open (s:={ s with toks:=s.toks+1}) X IA h5 ht fun b=>?_);refine ae (PySem.W.any_some h3) ?_;rintro cd' hcd hd';refine Tt (TN (Tt (Tt (wpAny_loadPart IA.at_ (Tt (Looks.here (s:={ s with toks:=s.toks+1}) (looks_clsIn X hcd) ?_))))));rw[hd'];refine TN (a:=some dx) (Tt (TN (Tt ?_)));unfold nsSet;refine Tt (Tt (wpAny_askSetting (TN (Tt (wpAny_mkText (Tt (wpAny_loadPart ho ?_)))))));refine eX (uh t a) ?_;rintro g1 g2 g3;have cc:(!ents.toArray.any (·.key.isStr a)&&ents.toArray.any (·.refKey))=false:=by rw[<-Array.any_toList,<-Array.any_toList];show(_&&ents.any (·.refKey))=false;rw[g1,VA]
 dsimp only;rw[aRefKeyMayBeTheName_at,cc];refine wpAny_updatePart ho ?_;have hnew:Obj.putName a (PyData.keyHash C.w.params a) (.str a (s.toks+1)) vv (g8 ents k)=g8 (putL a (PyData.keyHash C.w.params a) (.str a (s.toks+1)) vv ents) (putN a ents k):=putName_dict a _ _ vv ents k;have hsame:∀b,b≠dx->∀y,s.heap.get? b=some y->(s.heap.update dx (Obj.putName a (PyData.keyHash C.w.params a) (.str a (s.toks+1)) vv)).get? b=some y:=fun b hb y hy=>((WA s.heap dx _).2 b hb).trans hy;have hget:(s.heap.update dx (Obj.putName a (PyData.keyHash C.w.params a) (.str a (s.toks+1)) vv)).get? dx=some (g8 (putL a (PyData.keyHash C.w.params a) (.str a (s.toks+1)) vv ents) (putN a ents k)):=by rw[<-hnew];exact Wm _ ho (by rw[hnew];rfl)
 have hp:=GM t a (k:=s.toks+1) rv;have hlen:(putL a (PyData.keyHash C.w.params a) (.str a (s.toks+1)) vv ents).length<=901:=by
  rw[<-hp.length];rcases oZ a v es with q|⟨q,_⟩
  .have:=Tx List.length q;simp at this;exact ar2 [_,_] [] 0 1038861704985076499760 (TF this :) hz art
  .have:=Tx List.length q;simp at this;exact ar2 [_,_] [] 0 1063794368722025144583472 (TF this :) hz art
 refine Tt (wpAny_lookBehind hget (pastItsLine_dict (by rw[WT,U8];exact Tk ‹_› (by decide))) ?_);exact TN (P O _ (al.turn hd hsame) (I.turn hd hsame hget ⟨_,_,rfl,hp,qX nd⟩))
theorem zb{v:V}{val:Value}{p:Option Int}(e:pT v=some p)(r:ac C O v val):IsPart val p:=by
 refine mO e (fun i hi e=>ifE e fun _ e=>?_) fun _ e=>ifE e fun hn e=>?_
 .apply fu hi r;intro t;exact Tp e▸.int _ _
 .apply qQ hn r;exact Tp e▸.none
theorem CC(K:aU C)(I:au C O J s.heap){t:Bool}{o lo hi st r:V}{vo vl vu vs:Value}(e:bm t J o lo hi st=some (r,J'))(ro:ac C O o vo)(rl:ac C O lo vl)(ru:ac C O hi vu)(rs:ac C O st vs){value slice:Expr}(hs:∀x,∃ops,subscripted slice false vo (.ref x)=operate ops (getItem vo (.ref x))){Q:Value->Shared->Prop}(P:eM C O s J' r Q):
 wpAny (model C.prog C.w) A (newFields "slice" [vl,vu,vs]) (fun i s₂=>wpAny (model C.prog C.w) A (subscriptTail value slice vo i) Q E s₂) E s:=by
 refine bE e fun xs hx e=>ifE e fun hl e=>?_;have hl:=dW hl;revert hs;apply fb I hx ro;intro a vals n ho tl hs;have hlen:=bL tl;refine Wg ?_ (by show _<=sizeLine+2;rw[U8];simp);obtain⟨ops,hs⟩:=hs s.heap.objs.size;have L:=Heap.IsList.push (isL ho) { cls:=.type "slice",data:=.fields #[vl,vu,vs]};have k1:∀b x,s.heap.get? b=some x->(s.heap.push { cls:=.type "slice",data:=.fields #[vl,vu,vs]}).get? b=some x:=fun b x hx=>Uf _ hx;have I1:=I.at k1;have R1:al O O s { s with heap:=s.heap.push { cls:=.type "slice",data:=.fields #[vl,vu,vs]}}:=al.at (t:=s.toks) k1;refine tail_any (s:={ s with heap:=s.heap.push { cls:=.type "slice",data:=.fields #[vl,vu,vs]}}) L.typeIs list_getitem_lookup ?_ hs;have fin:∀{l u k:Option Int}{ys:List V},IsPart vl l->IsPart vu u->IsPart vs k->k≠some 0->bG t ys J=(r,J')->ai (ac C O) ys (slicePick vals l u k).toList ->
  wpAny (model C.prog C.w) A (getItem (.ref a) (.ref s.heap.objs.size)) Q E { s with heap:=s.heap.push { cls:=.type "slice",data:=.fields #[vl,vu,vs]}}:=fun pl pu pk h0 e q=>
  wpAny_getItem_list_slice L (Heap.IsSliceOf.new ..) pl pu pk h0 (lU K I1 q e (P.after R1) s.toks) (by rw[U8];exact Tk (TF (Ul ‹_›)) (Tk ‹_› (by decide)))
 refine mO e (fun k hk e=>ifE e fun hc e=>?_) fun _ e=>ifE e fun hn e=>bE e fun l hl' e=>bE e fun u hu' e=>?_
 . rw[TC,TC,Um]at hc;refine fu (G:=fun v=>IsPart v (some k)) hk rs (fun _=>.int _ _) |> fun ps=>?_
   refine fin (qQ (G:=fun v=>IsPart v none) hc.1.1 rl .none) (qQ (G:=fun v=>IsPart v none) hc.1.2 ru .none) ps (by rw[hc.2];simp) (Tp e) ?_;rw[hc.2,krv_pick];exact tl.reverse
 .refine fin (zb hl' rl) (zb hu' ru) (qQ (G:=fun v=>IsPart v none) hn rs .none) (by simp) (Tp e) ?_;rw[kms_pick_eq];unfold oV kms_pick;rw[hlen,V3];exact(tl.drop _).take _
end
section
variable{C:Ctx}{T:Tab}{O:Map}{J J':Hp}{s:Shared}{A:Around}{d:Nat}{E:Value->Shared->Prop}
theorem GN{d:Addr}{xs:List (List AK×Addr×Value)}(hd:(d==sysModules)=false)(D:s.heap.DictOfH (tkC C) d xs)(hfit:(xs.length:Int)<2^63){Q:Value->Shared->Prop}(h:Q (.int xs.length (s.toks+1)) { s with toks:=s.toks+1+1}):wpAny (model C.prog C.w) A (call (.builtin "len") [.ref d]) Q E s:=by
 refine Calls.call_function_entry kind_len plain_len entry_len (args_len1 _) ?_;obtain⟨o,es,ep,ho,hc,hdat,he,his,hn⟩:=D;have m:MeetsIn C.prog C.w (Builtin.«dict.__len__» ⟨[.ref d],[]⟩) (fun _ R s'=>s'.heap.get? d=some o/\R (.ok (.ret (.int xs.length s'.toks))) { s' with toks:=s'.toks+1}):=.of_wp fun A R s ⟨ho,h⟩=>by show wpAny _ _ (dictSize d >>= _) _ _ s;unfold dictSize;refine Tt (Tt (wpAny_dictEntries ho hdat (TN ?_)));show wpAny _ _ (Builtin.Dict.pendingCount d >>= _) _ _ s;refine Tt (wpAny_pendingCount_other hd ?_);refine wpAny_ret_mkInt ?_;rw[Nat.add_zero,size_of_entries he];exact h
 unfold Builtin.«len»;refine Tt (m:=oneArg "len" _) (TN ?_);refine Tt (m:=callSpecial? (.ref d) (Str.ofString "__len__")) (wpAny_callSpecial?_slot (name:=Str.ofString "__len__") ⟨o,ho,hc.1⟩ PySem.F.slot_dict_len (call_meetsIn PySem.F.slot_dict_len ⟨o,ho,hc.1⟩ PySem.F.entry_dict_len (PySem.F.args_dict_len_1 _) m ⟨ho,?_⟩));show wpAny _ _ _ _ _ { s with toks:=s.toks+1};refine Tt (Uy (TN ?_));refine Tt (wpAny_letGo ?_);show wpAny _ _ (if((xs.length:Nat):Int)<0 then _ else _) _ _ _;rw[if_neg (by exact U9 (ar0 [_] [] 1 3592 art))];show wpAny _ _ (if((xs.length:Nat):Int)≥2^63 then _ else _) _ _ _;rw[if_neg (by lia)];exact Tt (WR (TN ⟨_,rfl,h⟩))
theorem AG(I:au C O J s.heap){a:V}{va:Value}{b:Bool}(e:yZ a=some b)(ra:ac C O a va){Q:Value->Shared->Prop}(h:∀t,Q (.bool b) { s with toks:=t}):wpAny (model C.prog C.w) A (call (.builtin "isinstance") [va,.type "bool"]) Q E s:=by
 cases a with|none=>apply elN ra;exact IsiPair.NoneType_bool (Tp e▸h _)|bool i=>apply elB ra;exact IsiPair.bool_bool (Tp e▸h _)|str i=>apply elS ra;intro t;exact IsiPair.str_bool (Tp e▸h _)|_=>exact aC e
theorem GP{v:V}{T:String}(e:OT v=some T):v=.ty T:=by
 cases v with|ty j=>exact Tx V.ty (Tp e)|_=>exact aC e
theorem zd:∀{xs:List V}{vals:List Value}{l:List Int},tq xs=some l->ai (ac C O) xs vals->∃ys:List (Int×Tok),vals=ys.map (fun p=>.int p.1 p.2)/\ys.map (·.1)=l
 |[],_,l,e,.nil=>⟨[],rfl,by cases e;rfl⟩
 |x::xs,_,l,e,.cons r rs=>bE e fun a h1 e=>mE e fun l' h2 e=>by obtain⟨ys,q1,q2⟩:=zd h2 rs;apply fu h1 r;intro t;exact⟨(a,t)::ys,by rw[q1];rfl,by rw[Uj,q2];exact e⟩
theorem O7(K:aU C)(hh:A.handled=none)(I:au C O J s.heap){t:Bool}{id:String}{args:List V}{vals:List Value}{r:V}(e:biI t id args J=some (r,J'))(ra:ai (ac C O) args vals){Q:Value->Shared->Prop}(P:eM C O s J' r Q):
 wpAny (model C.prog C.w) A (call (.builtin id) vals) Q E s:=by
 refine kH e (fun hid e=>?_) fun e=>kH e (fun hid e=>?_) fun e=>kH e (fun hid e=>?_) fun e=>kH e (fun hid e=>?_) fun e=>aC e
 . subst hid;refine bE e fun x h1 e=>mO e (fun xs hx e=>ifE e fun hl e=>?_) fun _ e=>?_
   rotate_left
   .rw[lc h1]at ra;apply ai.one ra;intro v r1;apply uc I e r1;intro n es a xs ha D t e;refine ifE e fun hz e=>?_;have hz:=TH hz;have hl:=t.length;exact GN (jH I ha) D (ar2 [_,_] [] 1 348449143727040986602066131183063191979312 (TF (Ul hl) :) hz art) ((P.at e).tok I _ (hl▸vIn))
   rw[lc h1]at ra;have hl:=dW hl
   replace P:=P.at e
   apply ai.one ra;intro v r1;apply qR I hx r1
   .intro a vs n ho tl;have hlen:=bL tl;exact call_len_list (isL ho) (ar2 [_,_] [] 1 348449143727040986602066131183062403256528 (TF (Ul hlen) :) hl art) (P.tok I _ (hlen▸vIn))
   .intro a vs n m tl;have hlen:=bL tl;exact PyProof.Rows.len_tuple (cz I m) (ar2 [_,_] [] 1 348449143727040986602066131183062403256528 (TF (Ul hlen) :) hl art) (P.tok I _ (hlen▸vIn))
 .subst hid;refine bE e fun p h1 e=>bE e fun T hT e=>kH e (fun q e=>?_) fun e=>aC e;subst q;rw[vX h1]at ra;apply ai.two ra;intro v w r1 r2;rw[GP hT]at r2;simp only[ac]at r2;subst r2;exact mE e fun b e er=>AG I e r1 fun t=>(P.at (Tx some er)).tok I t vBl
 . subst hid;refine bE e fun p h1 e=>?_;rw[vX h1]at ra;apply ai.two ra;intro v w r1 r2;apply jG e r1 r2;intro x y t u e;refine max_two_ints hh fun h' tk hk=>?_;by_cases q:y>x
   .rw[if_pos q]at e ⊢;exact P.at e O _ _ (al.at hk) (I.at hk) vIn
   .rw[if_neg q]at e ⊢;exact P.at e O _ _ (al.at hk) (I.at hk) vIn
 . subst hid;refine bE e fun x h1 e=>bE e fun xs hx e=>mE e fun l hl e=>?_;rw[lc h1]at ra;apply ai.one ra;intro v r1;apply fb I hx r1;intro a vals n ho tl;obtain⟨ys,q1,q2⟩:=zd hl tl;have hv:vals=intItems ys.toArray:=by apply Array.toList_inj.mp;rw[q1];unfold intItems;simp
   refine sum_intListG hh (xs:=ys.toArray) (hv▸isL ho) fun h' tk t' hk=>?_;rw[preSum_eq,List.take_of_length_le (by simp),show ys.toArray.toList=ys from rfl,q2];exact P.at (Tx some e) O _ _ (al.at hk) (I.at hk) vIn
theorem xE(K:aU C)(I:au C O J s.heap){xs:List V}{vals:Array Value}{c:Nat}{h':Heap}(t:ai (ac C O) xs vals.toList)(k:∀b o',s.heap.get? b=some o'->h'.get? b=some o')(ho:h'.get? s.heap.objs.size=some (listOf vals c)){tr:Bool}{r:V}(e:bG tr xs J=(r,J')){Q:Value->Shared->Prop}(P:eM C O s J' r Q)(tk:Nat):Q (.ref s.heap.objs.size) { s with heap:=h',toks:=tk}:=by
 have fresh:s.heap.get? s.heap.objs.size=none:=by
  cases q:s.heap.get? s.heap.objs.size with|none=>rfl|some o=>exact absurd (UV q) (UN _)
 have hnew:∀a∈O.am,a≠s.heap.objs.size:=fun a ha q=>by have:=I.lt ha;rw[q]at this;exact UN _ this
 unfold bG at e;cases tr with
 |true=>
  cases e;have I1:=(I.track (o:=listOf vals c) (c:=.list xs) K ⟨vals,c,rfl,t⟩);have le:O.Le ⟨O.am++[s.heap.objs.size],O.Z⟩:=⟨⟨_,rfl⟩,fun p hp=>hp⟩;refine P ⟨O.am++[s.heap.objs.size],O.Z⟩ _ _ ⟨le,fun b o _ e=>k b o e,fun a ha na=>?_,fun p hp=>.inl hp,⟨h',tk,rfl⟩⟩ ⟨fun b o e=>k b o (I.base b o e),I1.len,I1.fresh,I1.nodup,I1.low,I1.z₀,fun p hp=>k _ _ (I.z p hp),I1.zam,fun n c' a e1 e2=>?_⟩ ?_
  . rcases TJ.mp ha with ha|ha
    .exact absurd ha na
    .rw[Tw.mp ha];exact fresh
  . by_cases hn:n<J.length
    .rw[TL hn]at e1;rw[TL (by rw[I.len];exact hn)]at e2;refine ae (I.cell n c' a e1 e2) ?_;rintro o' ho' r';exact⟨o',k _ _ ho',r'.mono le⟩
    . have en:n=J.length:=by have:=(Tr.mp e1).1;simp at this;exact Ud (ar1 [_,_] [] 0 601338971440 this art) (ar1 [_,_] [] 0 574000 (Vz hn :) art)
      subst en;simp at e1;subst e1;rw[<-I.len]at e2;simp at e2;subst e2;exact⟨_,ho,vals,c,rfl,cN le t⟩
  .simp only[ac];exact⟨_,rfl,by rw[<-I.len];simp⟩
 |false=>
  cases e;have le:O.Le ⟨O.am,(s.heap.objs.size,listOf vals c)::O.Z⟩:=⟨⟨[],by simp⟩,fun p hp=>.tail _ hp⟩;refine P ⟨O.am,(s.heap.objs.size,listOf vals c)::O.Z⟩ _ _ ⟨le,fun b o _ e=>k b o e,fun _ h k=>absurd h k,fun p hp=>by
   rcases TS.mp hp with rfl|hp
   .exact .inr fun _=>fresh
   .exact .inl hp,⟨h',tk,rfl⟩⟩ ⟨fun b o e=>k b o (I.base b o e),I.len,I.fresh,I.nodup,I.low,fun p hp=>.tail _ (I.z₀ p hp),fun p hp=>?_,fun p hp=>?_,fun n c' a e1 e2=>?_⟩ ?_
  . rcases TS.mp hp with rfl|hp
    .exact ho
    .exact k _ _ (I.z p hp)
  . rcases TS.mp hp with rfl|hp
    .exact fun ha=>hnew _ ha rfl
    .exact I.zam p hp
  .refine ae (I.cell n c' a e1 e2) ?_;rintro o' ho' r';exact⟨o',k _ _ ho',r'.mono le⟩
  .simp only[ac];exact⟨_,vals,c,rfl,.head _,aL.mpr (cN le t)⟩
theorem wg(I:au C O J s.heap){o:Obj}{a b:Int}(h:KJ o a b){Q:Value->Shared->Prop}(P:eM C O s J (.rng a b) Q)(tk:Nat):Q (.ref s.heap.objs.size) { s with heap:=s.heap.push o,toks:=tk}:=by
 have hf:o.isFreed=false:=by refine bp (h) ?_;rintro _ _ _ rfl;rfl
 refine P ⟨O.am,(s.heap.objs.size,o)::O.Z⟩ _ _ al.frozen (I.frozen hf) ?_;simp only[ac];exact⟨_,o,rfl,.head _,h⟩
theorem O8(K:aU C)(I:au C O J s.heap){t:Bool}{id:String}{args:List V}{vals:List Value}{r:V}(e:tyI t id args J=some (r,J'))(ra:ai (ac C O) args vals){Q:Value->Shared->Prop}(P:eM C O s J' r Q):
 wpAny (model C.prog C.w) A (call (.type id) vals) Q E s:=by
 refine kH e (fun hid e=>?_) fun e=>kH e (fun hid e=>?_) fun e=>kH e (fun hid e=>?_) fun e=>kH e (fun hid e=>?_) fun e=>aC e
 .subst hid;refine bE e fun x h1 e=>mE e fun i hi e=>?_;rw[lc h1]at ra;apply ai.one ra;intro v r1;apply fu hi r1;intro t;exact call_int_int ((P.at (Tx some e)).here I vIn)
 .subst hid;refine bE e fun x h1 e=>bE e fun xs hx e=>ifE e fun hl e=>?_;rw[lc h1]at ra;have hl:=dW hl;apply ai.one ra;intro v r1;apply fb I hx r1;intro a vs n ho tl;have hlen:=bL tl;exact call_list_seq (hsz:=by rw[U8];exact Tk (TF (Ul ‹_›)) (Tk ‹_› (by decide))) a (.inl rfl) ho rfl rfl fun h' c' hk hD=>xE K I tl hk hD (Tp e) P s.toks
 . subst hid;refine bE e fun x h1 e=>mO e (fun xs hx e=>?_) fun _ e=>bE e fun xs hx e=>ifE e fun hl e=>?_
   .rw[lc h1]at ra;apply ai.one ra;intro v r1;apply xu hx r1;intro a vals n m tl;exact call_tuple_same (cz I m) ((P.at e).here I (by simp only[ac];exact⟨a,vals,n,rfl,m,aL.mpr tl⟩))
   rw[lc h1]at ra;have hl:=dW hl
   replace P:=P.at e
   apply ai.one ra;intro v r1;apply fb I hx r1;intro a vs n ho tl;have hlen:=bL tl;exact call_tuple_list (hsz:=by rw[U8];exact Tk (TF (Ul ‹_›)) (Tk ‹_› (by decide))) (isL ho) fun h' hk=>mT (s:={ s with heap:=h'}) (I.at hk) tl (P.after (al.at (t:=s.toks) hk)) s.toks
 . subst hid;refine mO e (fun x h1 e=>bE e fun b hb e=>ifE e fun hs e=>?_) fun _ e=>bE e fun p h1 e=>?_
   .rw[lc h1]at ra;obtain⟨b1,b2⟩:=hM hs;apply ai.one ra;intro v r1;apply fu hb r1;intro u;exact call_range_1 (wg I ⟨_,_,_,rfl⟩ (P.at e) _)
   .rw[vX h1]at ra;apply ai.two ra;intro v w r1 r2;apply jG e r1 r2;intro x y t u e;refine ifE e fun hs e=>?_;exact call_range_2 (wg I ⟨_,_,_,rfl⟩ (P.at e) _)
end
section
variable{C:Ctx}{T:Tab}{O:Map}{J J':Hp}{s:Shared}{A:Around}{d:Nat}{E:Value->Shared->Prop}
noncomputable def O9(C:Ctx)(k:MK)(a:Str)(f:Value):Prop:=match k with
 |.fn c=>∃x,C.fnA c a=some x/\f=.ref x
 |.bi id=>f=.builtin id
theorem uj(K:aU C)(TO:cM C T)(I:au C O J s.heap){o:V}{a:Str}{k:MK}{vo:Value}{pl:Sem Bool}(e:bd T J o a=some k)(ro:ac C O o vo){Q:Value×List Value->Shared->Prop}(h:∀f,O9 C k a f->Q (f,[vo]) s):wpAny (model C.prog C.w) A (getMethod vo a pl) Q E s:=by
 have dict:∀{x ents n},s.heap.get? x=some (g8 ents n)->(if a==("get":Str)then some (MK.bi "dict.get")else none)=some k->vo=.ref x->wpAny (model C.prog C.w) A (getMethod vo a pl) Q E s:=fun{x ents n} ho e hv=>by subst hv;refine kH e (fun hid e=>?_) fun e=>aC e;subst hid;cases e;exact WU (T:="dict") ⟨_,ho,rfl⟩ PySem.F.plainAttrs_dict Wp PySem.F.type_dict_get (fun y q=>by cases q;exact⟨_,ho,rfl⟩) (h _ rfl)
 cases o with
 |inst c n=>
  replace e:vR T J (.inst c n) (fun c _ cd es=>if cd.meths.contains a then(if(es.lookup a).isNone then some (MK.fn c)else Option.none)else Option.none)=some k:=e
  revert h;apply ui TO I e ro;intro c n cd es x dx ka ents k h2 h3 h4 h5 h11 h12 IA ho hd t nd e h;refine ifE e fun hat e=>ifE e fun hl e=>?_;cases e;refine cG (h12 a (Wo.mp hat)) ?_;rintro f g1 g2 g3;have hg:=((uh t a).2.2 (Option.isNone_iff_eq_none.mp hl)).1;refine method_fn (mX K I) IA (plainGet_of h2).1 (plainGet_of h2).2 g1 (Ub.mp g3) ?_ (h _ ⟨f,g2,rfl⟩);show(getL a ents).map _=some false;rw[hg];rfl
 |jd es=>simp only[ac]at ro;refine gg (ro) ?_;rintro x ents n rfl lo m t;exact dict (I.z _ m) e rfl
 |lst xs=>refine kH e (fun hid e=>?_) fun e=>aC e;subst hid;cases e;revert h;apply elL ro;intro x vals n m t h;exact WU (T:="list") ⟨_,I.z _ m,rfl⟩ PySem.F.plainAttrs_list PySem.F.slot_list_index PySem.F.type_list_index (fun y q=>by cases q;exact⟨_,I.z _ m,rfl⟩) (h _ rfl)
 |ref n=>
  revert h dict;apply vY I e ro
  . intro xs x vals c hn hx ho t e h _;refine kH e (fun hid e=>?_) fun e=>kH e (fun hid e=>?_) fun e=>aC e
    .subst hid;cases e;exact getMethod_list_append ho rfl rfl (h _ rfl)
    .subst hid;cases e;exact WU (T:="list") ⟨_,ho,rfl⟩ PySem.F.plainAttrs_list PySem.F.slot_list_pop PySem.F.type_list_pop (fun y q=>by cases q;exact⟨_,ho,rfl⟩) (h _ rfl)
  .intro es x ents c hn hx ho t nd e h dict;exact dict ho e rfl
 |_=>exact aC e
theorem Lw{es:List (Str×List Str)}{ents:List DictEntry}{Z:List (Addr×Obj)}(t:ai (xr C Z) es ents):∃kvs:List (Str×Value),Pairs (sK C) ents kvs/\ai (fun p q=>q.1=p.1/\mR Z p.2 q.2) es kvs/\KeysOf (sK C) ents.toArray:=by
 induction t with|nil=>exact⟨[],.nil,.nil,fun e h=>by simp at h⟩|@cons p e es ents h _ ih=>
  refine cG (ih) ?_;rintro kvs h1 h2 h3;refine eX (h) ?_;rintro hh ⟨tk,hk⟩ hv;have is:(sK C).is p.1 e.key=true:=by rw[hk];exact VR _ _ _ _
  refine⟨(p.1,e.val)::kvs,.cons is rfl h1,.cons ⟨rfl,hv⟩ h2,fun x hx=>?_⟩;rcases TS.mp (by simpa using hx)with rfl|hx
  .exact⟨p.1,is,hh⟩
  .exact h3 x (by simpa using hx)
theorem xG{l:List Str}{val:Value}(h:mR O.Z l val):ac C O (.tup (l.map .str)) val:=by
 obtain⟨b,vals,n,rfl,m,t⟩:=h;simp only[ac];refine⟨b,vals,n,rfl,m,aL.mpr ?_⟩;generalize vals.toList=vl at t ⊢;induction t with|nil=>exact .nil|cons h _ ih=>exact .cons (by simp only[ac];exact h) ih
theorem uk{a:Addr}{f:Str->Option Value}{args:List Value}{k:Str}{vk vd:Value}(M:s.heap.MapOf (sK C) a f)(ho:s.TypeIs (.ref a) "dict")(lo:(a==sysModules)=false)(rk:∃t,vk=.str k t)(ha:args=[vk,vd]\/(args=[vk]/\vd=.none)){Q:Value->Shared->Prop}(h:Q ((f k).getD vd) { s with toks:=s.toks+1}):
 wpAny (model C.prog C.w) A (call (.builtin "dict.get") (.ref a::args)) Q E s:=by
 obtain⟨t,rfl⟩:=rk;rcases ha with rfl|⟨rfl,rfl⟩
 .exact call_meetsIn Wp ho PySem.F.entry_dict_get (by first|exact PySem.F.args_dict_get_3 _ _ _|exact PySem.args_dict_get_default _ _ _) (meets_dict_get_default (knd:=sK C) _ (VR _ _ _ _) lo _) ⟨_,M,h⟩
 .exact call_meetsIn Wp ho PySem.F.entry_dict_get (by first|exact PySem.F.args_dict_get_2 _ _|exact PySem.args_dict_get _ _) (meets_dict_get (knd:=sK C) _ (VR _ _ _ _) lo) ⟨_,M,h⟩
theorem AH(K:aU C)(I:au C O J s.heap){id:String}{o r:V}{args:List V}{vo:Value}{vals:List Value}(e:aQ J id o args=some (r,J'))(ro:ac C O o vo)(ra:ai (ac C O) args vals){Q:Value->Shared->Prop}(P:eM C O s J' r Q):
 wpAny (model C.prog C.w) A (call (.builtin id) (vo::vals)) Q E s:=by
 cases o with
 |jd es=>
  refine kH e (fun hid e=>bE e fun p h1 e=>mE e fun k hk e9=>?_) fun e=>aC e;subst hid;rw[vX h1]at ra;simp only[ac]at ro;refine gg (ro) ?_;rintro a ents n rfl lo m t;refine cG (Lw t) ?_;rintro kvs p1 p2 p3;have mp:s.heap.MapOf (sK C) a (valueAt kvs):=⟨_,ents.toArray,n,I.z _ m,⟨rfl,rfl,rfl⟩,rfl,p3,fun k=>by
   rw[<-p1.find k];unfold findBy;rw[List.find?_toArray]⟩
  apply ai.two ra;intro v w r1 r2;refine uk (k:=k) (vd:=w) mp ⟨_,I.z _ m,rfl⟩ (Tv.mpr lo) ?_ (.inl rfl) ?_
  .apply ld hk r1;intro t;exact⟨t,rfl⟩
  .refine(P.at (Tx some e9)).tok I _ ?_;obtain⟨l1,l2⟩:=wf p2 k;cases q:es.lookup k with|none=>rw[l2 q];exact r2|some l=>refine ae (l1 l q) ?_;rintro val hv tv;rw[hv];exact xG tv
 |lst xs=>
  refine kH e (fun hid e=>bE e fun y h1 e=>bE e fun x hx e=>ifE e fun hl e=>bE e fun ss h2 e=>mE e fun j hj e9=>?_) fun e=>aC e;subst hid;rw[lc h1]at ra;have hl:=dW hl;apply elL ro;intro a vals n m t;have hlen:=bL t;have ts:=GL h2 t;obtain⟨j1,j2,j3⟩:=List.findIdx?_eq_some_iff_getElem.mp hj;have gs:∀i (hi:i<vals.size),∃(hs:i<ss.length) (t:Tok),vals[i]=.str ss[i] t:=fun i hi=>by
   have q:vals.toList[i]?=some vals[i]:=by rw[US];exact Array.getElem?_eq_getElem hi
   refine ae (ts.get' q) ?_;rintro z hz ⟨t,ht⟩;obtain⟨hs,hz⟩:=Tr.mp hz;exact⟨hs,t,by rw[ht,hz]⟩
  have sz:ss.length=vals.size:=ts.length.trans V3;apply ai.one ra;intro v r1;apply ld hx r1;intro u;refine call_meets PySem.F.slot_list_index ⟨_,I.z _ m,rfl⟩ PySem.F.entry_list_index (PySem.F.args_list_index_2 _ _) (list_indexAt a vals n none #[] (.str x u) (fun v=>match v with|.str z _=>z==x|_=>false) j (Nat.lt_of_lt_of_eq ‹_› ‹_›) (ar4 [_,_,_,_] [] 1 109624314812916366088638710665150017635511548596195536 j1 (TF sz :) (TF (Ul hlen) :) hl art) ?_ ?_) ⟨I.z _ m,fun w hw=>?_,(P.at (Tx some e9)).tok I _ vIn⟩
  .obtain⟨hs,t,ht⟩:=gs j (Nat.lt_of_lt_of_eq ‹_› ‹_›);rw[ht];exact j2
  .intro i hi hij;obtain⟨hs,t,ht⟩:=gs i hi;rw[ht];exact Bool.not_eq_true _▸j3 i hij
  .obtain⟨i,hi,rfl⟩:=Array.mem_iff_getElem.mp hw;obtain⟨hs,t,ht⟩:=gs i hi;rw[ht];exact .str_str _ _ _ _
 |ref n=>
  apply vY I e ro
  . intro xs x vals c hn hx ho t e;have hlen:=bL t;refine kH e (fun hid e=>bE e fun y h1 e=>ifE e fun hl e9=>?_) fun e=>kH e (fun hid e=>ifE e fun h0 e=>bE e fun y hy e=>ifE e fun hl e9=>?_) fun e=>aC e
    . subst hid;rw[lc h1]at ra;have hl:=dW hl
      replace P:=P.at e9
      apply ai.one ra;intro v r1;refine wpAny_list_append_plain (hsz:=by rw[U8];exact Tk (TF (Ul ‹_›)) (Tk ‹_› (by decide))) ⟨c,ho⟩ fun h' hp hs=>?_;obtain⟨k2,hp⟩:=hp;have hsame:∀b,b≠x->∀y,s.heap.get? b=some y->h'.get? b=some y:=fun b hb y hy=>(hs.2 b hb).trans hy;refine P O _ _ (al.turn hx hsame) (I.turn hx hsame hp ⟨_,k2,rfl,?_⟩) vNo;rw[Array.toList_push];exact t.append (.cons r1 .nil)
    . subst hid;rw[List.isEmpty_iff.mp h0]at ra;have hl:=dW hl
      replace P:=P.at e9
      apply ai.no ra;have hne:0<xs.length:=List.length_pos_of_mem (Wt hy);rw[List.getLast?_eq_getElem?]at hy;refine ae (t.get hy) ?_;rintro vy hvy rvy;rw[US,hlen]at hvy;refine call_meets PySem.F.slot_list_pop ⟨_,ho,rfl⟩ PySem.F.entry_list_pop (PySem.F.args_list_pop_1 _) (PySem.MeetsSeq.list_pop_last x _ c vy hvy (by rw[U8];exact Tk (TF (Ul ‹_›)) (Tk ‹_› (by decide)))) ⟨ho,?_⟩;have hsame:∀b,b≠x->∀y,s.heap.get? b=some y->(s.heap.update x (Obj.mapSeq fun xs=>xs.eraseIdxIfInBounds (vals.size-1))).get? b=some y:=fun b hb y hy=>((WA s.heap x _).2 b hb).trans hy;refine P O _ _ (al.turn hx hsame) (I.turn hx hsame (Wm _ ho rfl) ⟨_,_,rfl,?_⟩) rvy;have:(vals.eraseIdxIfInBounds (vals.size-1)).toList=vals.toList.dropLast:=by unfold Array.eraseIdxIfInBounds;rw[dif_pos (by omega),Array.toList_eraseIdx,<-V3];exact List.eraseIdx_length_sub_one
      rw[this];exact t.dropLast
  . intro es x ents c hn hx ho t nd e;refine kH e (fun hid e=>mO e (fun y h1 e=>mE e fun k hk e9=>?_) fun _ e=>bE e fun p h1 e=>mE e fun k hk e9=>?_) fun e=>aC e
    .subst hid;rw[lc h1]at ra;refine ae (gx ho t nd) ?_;rintro kvs D kv;apply ai.one ra;intro v r1;refine uk (k:=k) D.mapOf ⟨_,ho,rfl⟩ (jH I hx) ?_ (.inr ⟨rfl,rfl⟩) ((P.at (Tx some e9)).tok I _ (tC kv k vNo));apply ld hk r1;intro t;exact⟨t,rfl⟩
    .subst hid;rw[vX h1]at ra;refine ae (gx ho t nd) ?_;rintro kvs D kv;apply ai.two ra;intro v w r1 r2;refine uk (k:=k) (vd:=w) D.mapOf ⟨_,ho,rfl⟩ (jH I hx) ?_ (.inl rfl) ((P.at (Tx some e9)).tok I _ (tC kv k r2));apply ld hk r1;intro t;exact⟨t,rfl⟩
 |_=>exact aC e
end
structure bH(L:List Addr)(O O':Map)(s s':Shared):Prop where
 le:O.Le O'
 keep:∀b o,b∉O.am->b∉L->s.heap.get? b=some o->s'.heap.get? b=some o
 live:∀b o,b∉O.am->s.heap.get? b=some o->∃o',s'.heap.get? b=some o'
 new:∀a∈O'.am,a∉O.am->s.heap.get? a=none
 newZ:∀p∈O'.Z,p∈O.Z\/(p.1∉O.am->s.heap.get? p.1=none)
 same:∃h tk,s'={ s with heap:=h,toks:=tk}
theorem al.x{L:List Addr}{O O':Map}{s s':Shared}(h:al O O' s s'):bH L O O' s s':=⟨h.le,fun b o h1 _ e=>h.keep b o h1 e,fun b o h1 e=>⟨o,h.keep b o h1 e⟩,h.new,h.newZ,h.same⟩
theorem bH.refl(L:List Addr)(O:Map)(s:Shared):bH L O O s s:=(al.refl O s).x
theorem bH.trans{L:List Addr}{a b c:Map}{s s' s'':Shared}(h:bH L a b s s')(k:bH L b c s' s''):bH L a c s s'':=by
 have nb:∀x o,x∉a.am->s.heap.get? x=some o->x∉b.am:=fun x o na e hb=>by have:=h.new x hb na;rw[e]at this;cases this
 refine⟨h.le.trans k.le,fun x o hx hL e=>k.keep x o (nb x o hx e) hL (h.keep x o hx hL e),fun x o hx e=>?_,fun x hx na=>?_,fun p hp=>?_,?_⟩
 .obtain⟨o',e'⟩:=h.live x o hx e;exact k.live x o' (nb x o hx e) e'
 . by_cases hb:x∈b.am
   .exact h.new x hb na
   .cases q:s.heap.get? x with|none=>rfl|some o=>obtain⟨o',e'⟩:=h.live x o na q;have:=k.new x hx hb;rw[e']at this;cases this
 . rcases k.newZ p hp with hp|hp
   .exact h.newZ p hp
   . refine .inr fun na=>?_;by_cases hb:p.1∈b.am
     .exact h.new _ hb na
     .cases q:s.heap.get? p.1 with|none=>rfl|some o=>obtain⟨o',e'⟩:=h.live _ o na q;have:=hp hb;rw[e']at this;cases this
 .refine iN (h.same) ?_;rintro h1 t1 rfl;refine iN (k.same) ?_;rintro h2 t2 rfl;exact⟨h2,t2,rfl⟩
theorem al.thenX{L:List Addr}{a b c:Map}{s s' s'':Shared}(h:al a b s s')(k:bH L b c s' s'')(hL:∀x∈L,s.heap.get? x=none):al a c s s'':=by
 have nb:∀x o,x∉a.am->s.heap.get? x=some o->x∉b.am:=fun x o na e hb=>by have:=h.new x hb na;rw[e]at this;cases this
 have j:=(h.x (L:=L)).trans k;refine⟨j.le,fun x o hx e=>k.keep x o (nb x o hx e) (fun q=>?_) (h.keep x o hx e),j.new,j.newZ,j.same⟩;rw[hL x q]at e;cases e
noncomputable def QW(L:List Addr)(C:Ctx)(O:Map)(env:Env)(m:Str->Option Value)(h:Heap)(x:Str):Sl->Prop
 |.g=>env.kindOf x=some .globalImplicit
 |.v none=>env.kindOf x=some .local
 |.v (some v)=>∃val,ac C O v val/\env.kindOf x=some .local/\m x=some val
 |.cv none=>env.kindOf x=some .cell/\∃c v,env.cells.lookup x=some c/\c∈L/\h.IsCell c v
 |.cv (some v)=>∃val,ac C O v val/\env.kindOf x=some .cell/\∃c,env.cells.lookup x=some c/\c∈L/\h.IsCell c (some val)
 |.f v=>∃val,ac C O v val/\(env.kindOf x=some .cell\/env.kindOf x=some .free)/\∃c,env.cells.lookup x=some c/\h.IsCell c (some val)
 |.x=>True
structure aP(C:Ctx)(L:List Addr)(O:Map)(env:Env)(loc:Loc)(h:Heap):Prop where
 kind:env.scope.kind=.function
 glob:env.globals=mainGlobals
 bi:env.builtins=builtinsNs
 own:env.locals∈L
 off:∀a∈L,a∉O.am/\(∀p∈O.Z,p.1≠a)/\C.h₀.get? a=none
 here:∀a∈L,∃o,h.get? a=some o
 inj:∀x y c,env.cells.lookup x=some c->env.cells.lookup y=some c->x=y
 apart:∀x c,env.cells.lookup x=some c->c≠env.locals
 cells:∀x c,env.cells.lookup x=some c->c∉O.am/\∃o,h.get? c=some o
 ns:∃m,h.Ns env.locals m/\∀x sl,loc.lookup x=some sl->QW L C O env m h x sl
section
variable{C:Ctx}{T:Tab}{mt:Pos->Bool}{L:List Addr}{O O':Map}{J J':Hp}{s s':Shared}{A:Around}{d:Nat}{E:Value->Shared->Prop}{env:Env}{loc loc':Loc}{h h':Heap}
theorem jq{c:Addr}{v:Option Value}(x:Heap.IsCell h c v)(hk:∀o,h.get? c=some o->h'.get? c=some o):Heap.IsCell h' c v:=let ⟨o,ho,hd⟩:=x;⟨o,hk o ho,hd⟩
theorem qY{a m}(hn:Heap.Ns h a m)(hk:∀o,h.get? a=some o->h'.get? a=some o):Heap.Ns h' a m:=let ⟨o,es,ep,e,r⟩:=hn;⟨o,es,ep,hk _ e,r⟩
theorem aP.keeps(W:aP C L O env loc s.heap)(R:al O O' s s'):aP C L O' env loc s'.heap:=by
 have old:∀a,a∉O.am->(∃o,s.heap.get? a=some o)->a∉O'.am:=fun a na ⟨o,e⟩ q=>by have:=R.new a q na;rw[e]at this;cases this
 refine ae (W.ns) ?_;rintro m hn hs;refine⟨W.kind,W.glob,W.bi,W.own,fun a ha=>?_,fun a ha=>?_,W.inj,W.apart,fun x c hc=>?_,m,qY hn fun o e=>R.keep _ o (W.off _ W.own).1 e,fun x sl e=>?_⟩
 . refine eX (W.off a ha) ?_;rintro h1 h2 h3;refine⟨old a h1 (W.here a ha),fun p hp q=>?_,h3⟩;rcases R.newZ p hp with hp|hp
   .exact h2 p hp q
   .obtain⟨o,e⟩:=W.here a ha;have:=hp (by rw[q];exact h1);rw[q,e]at this;cases this
 .obtain⟨o,e⟩:=W.here a ha;exact⟨o,R.keep a o (W.off a ha).1 e⟩
 .refine tz (W.cells x c hc) ?_;rintro h1 o e;exact⟨old c h1 ⟨o,e⟩,o,R.keep _ o h1 e⟩
 . have:=hs x sl e;cases sl with
   |g=>exact this
   |v o=>
    cases o with|none=>exact this|some v=>refine ae (this) ?_;rintro val r q;exact⟨val,ac.mono R.le _ r,q⟩
   |cv o=>
    cases o with
    |none=>refine jo (this) ?_;rintro h1 c v h2 h3 h4;exact⟨h1,c,v,h2,h3,jq h4 fun o e=>R.keep _ o (W.off c h3).1 e⟩
    |some v=>refine gX (this) ?_;rintro val r h1 c h2 h3 h4;exact⟨val,ac.mono R.le _ r,h1,c,h2,h3,jq h4 fun o e=>R.keep _ o (W.off c h3).1 e⟩
   |f v=>refine g7 (this) ?_;rintro val r q c h2 h5;exact⟨val,ac.mono R.le _ r,q,c,h2,jq h5 fun o e=>R.keep _ o (W.cells _ _ h2).1 e⟩
   |x=>trivial
theorem au.own(I:au C O J h)(off:∀a∈L,a∉O.am/\(∀p∈O.Z,p.1≠a)/\C.h₀.get? a=none)(hk:∀b o,b∉L->h.get? b=some o->h'.get? b=some o):au C O J h' :=
 ⟨fun b o e=>hk b o (fun q=>by rw[(off b q).2.2]at e;cases e) (I.base b o e),I.len,I.fresh,I.nodup,I.low,I.z₀,fun p hp=>hk _ _ (fun q=>(off _ q).2.1 p hp rfl) (I.z p hp),I.zam,fun n c a e1 e2=>by
  refine ae (I.cell n c a e1 e2) ?_;rintro o ho r;exact⟨o,hk a o (fun q=>(off a q).1 (TZ e2)) ho,r⟩⟩
noncomputable def CD(s0:Sl)(v:V)(s1:Sl):Prop:=((∃o,s0=.v o)/\s1=.v (some v))\/((∃o,s0=.cv o)/\s1=.cv (some v))
theorem wh:∀{loc loc':Loc}{x:Str}{v:V},loc.put x v=some loc'->∃s0 s1,loc.lookup x=some s0/\CD s0 v s1/\∀y,loc'.lookup y=if y=x then some s1 else loc.lookup y
 |[],_,_,_,e=>by simp[Loc.put]at e
 |(z,sl)::r,loc',x,v,e=>by
  unfold Loc.put at e;by_cases hx:x=z
  . subst hx;rw[TQ,if_pos rfl]at e;have fin:∀s1,CD sl v s1->loc'=(x,s1)::r->∃s0 s1,List.lookup x ((x,sl)::r)=some s0/\CD s0 v s1/\∀y,List.lookup y loc'=if y=x then some s1 else List.lookup y ((x,sl)::r):=by
     rintro s1 hs rfl;refine⟨sl,s1,?_,hs,fun y=>?_⟩
     .rw[TR,TQ]
     . rw[TR,TR];by_cases hy:y=x
       .subst hy;simp
       .simp[hy,Tv.mpr hy]
    split at e
    .exact fin _ (.inl ⟨⟨_,rfl⟩,rfl⟩) (by cases e;rfl)
    .exact fin _ (.inr ⟨⟨_,rfl⟩,rfl⟩) (by cases e;rfl)
    .exact aC e
  . rw[Tv.mpr hx,if_neg TT]at e;refine ae (TU.mp e) ?_;rintro l hl rfl;refine cW (wh hl) ?_;rintro s0 s1 h1 h2 h3;refine⟨s0,s1,?_,h2,fun y=>?_⟩
    .rw[TR,Tv.mpr hx];exact h1
    . rw[TR,TR];by_cases hy:y=z
      .subst hy;simp[Ne.symm hx]
      .rw[Tv.mpr hy];exact h3 y
noncomputable def my(C:Ctx)(L:List Addr)(O:Map)(s:Shared)(J':Hp)(env:Env)(loc':Loc)(Q:Shared->Prop):Prop :=
 ∀O' s',bH L O O' s s'->au C O' J' s'.heap->aP C L O' env loc' s'.heap->Q s'
theorem xH(I:au C O J s.heap)(W:aP C L O env loc s.heap){x:Str}{v:V}{val:Value}(e:loc.put x v=some loc')(r:ac C O v val){Q:Unit->Shared->Prop}(P:my C L O s J env loc' (Q ())):
 wpAny (model C.prog C.w) A (storeName env x val) Q E s:=by
 refine cW (wh e) ?_;rintro s0 s1 h1 hput h2;refine ae (W.ns) ?_;rintro m hn hs;have hloc:(env.kindOf x=some .local/\s1=.v (some v))\/((env.kindOf x=some .cell/\∃c v,env.cells.lookup x=some c/\c∈L/\s.heap.IsCell c v)/\s1=.cv (some v)):=by
  have h0:=hs _ _ h1;rcases hput with⟨⟨_|w,rfl⟩,q⟩|⟨⟨_|w,rfl⟩,q⟩
  .exact .inl ⟨h0,q⟩
  .refine cG (h0) ?_;rintro _ _ a _;exact .inl ⟨a,q⟩
  .exact .inr ⟨h0,q⟩
  .refine gX (h0) ?_;rintro _ _ a c b d f;exact .inr ⟨⟨a,c,_,b,d,f⟩,q⟩
 rcases hloc with⟨hl,rfl⟩|⟨⟨hl,c,v₀,hc,hcL,hcv⟩,rfl⟩
 . refine wpAny_storeName_local hl hn (fun h' hn' hs'=>?_) (by rw[W.kind];rfl);have hk:∀b o,b≠env.locals->s.heap.get? b=some o->h'.get? b=some o:=fun b o hb q=>(hs'.2 b hb).trans q;have hlive:∀b o,s.heap.get? b=some o->∃o',h'.get? b=some o':=fun b o q=>by
    by_cases hb:b=env.locals
    .subst hb;refine aW (hn') ?_;rintro o' _ _ q' _;exact⟨o',q'⟩
    .exact⟨o,hk b o hb q⟩
   refine P O _ ⟨.refl _,fun b o _ hb q=>hk b o (fun e=>hb (e▸W.own)) q,fun b o _ q=>hlive b o q,fun _ h k=>absurd h k,fun _ h=>.inl h,⟨h',_,rfl⟩⟩
    (I.own W.off fun b o hb q=>hk b o (fun e=>hb (e▸W.own)) q) ⟨W.kind,W.glob,W.bi,W.own,W.off,fun a ha=>?_,W.inj,W.apart,fun y c hy=>?_,_,hn',fun y sl q=>?_⟩
   .obtain⟨o,q⟩:=W.here a ha;exact hlive a o q
   .refine tz (W.cells y c hy) ?_;rintro h1 o q;exact⟨h1,hlive c o q⟩
   . rw[h2]at q;by_cases hy:y=x
     .subst hy;rw[if_pos rfl]at q;cases q;exact⟨val,r,hl,if_pos rfl⟩
     . rw[if_neg hy]at q;have:=hs y sl q;have kc:∀{c v},env.cells.lookup y=some c->s.heap.IsCell c v->h'.IsCell c v:=fun hc x=>jq x fun o q=>hk _ o (W.apart _ _ hc) q;cases sl with
       |g=>exact this
       |v o=>
        cases o with|none=>exact this|some v=>refine cG (this) ?_;rintro val' r' q1 q2;exact⟨val',r',q1,(if_neg hy).trans q2⟩
       |cv o=>
        cases o with
        |none=>refine jo (this) ?_;rintro h1 c v h2 h3 h4;exact⟨h1,c,v,h2,h3,kc h2 h4⟩
        |some v=>refine gX (this) ?_;rintro val' r' h1 c h2 h3 h4;exact⟨val',r',h1,c,h2,h3,kc h2 h4⟩
       |f v=>refine g7 (this) ?_;rintro val' r' q c h2 h5;exact⟨val',r',q,c,h2,kc h2 h5⟩
       |x=>trivial
 . refine wpAny_storeName_cell W.kind hl hc hcv fun h' hc' hs'=>?_;have hk:∀b o,b≠c->s.heap.get? b=some o->h'.get? b=some o:=fun b o hb q=>(hs'.2 b hb).trans q;have hlive:∀b o,s.heap.get? b=some o->∃o',h'.get? b=some o':=fun b o q=>by
    by_cases hb:b=c
    .subst hb;refine ae (hc') ?_;rintro o' q' _;exact⟨o',q'⟩
    .exact⟨o,hk b o hb q⟩
   refine P O _ ⟨.refl _,fun b o _ hb q=>hk b o (fun e=>hb (e▸hcL)) q,fun b o _ q=>hlive b o q,fun _ h k=>absurd h k,fun _ h=>.inl h,⟨h',s.toks,rfl⟩⟩
    (I.own W.off fun b o hb q=>hk b o (fun e=>hb (e▸hcL)) q) ⟨W.kind,W.glob,W.bi,W.own,W.off,fun a ha=>?_,W.inj,W.apart,fun y c hy=>?_,m,qY hn fun o q=>hk _ o (Ne.symm (W.apart _ _ hc)) q,fun y sl q=>?_⟩
   .obtain⟨o,q⟩:=W.here a ha;exact hlive a o q
   .refine tz (W.cells y c hy) ?_;rintro h1 o q;exact⟨h1,hlive c o q⟩
   . rw[h2]at q;by_cases hy:y=x
     .subst hy;rw[if_pos rfl]at q;cases q;exact⟨val,r,hl,c,hc,hcL,hc'⟩
     . rw[if_neg hy]at q;have:=hs y sl q;have kc:∀{c' v},env.cells.lookup y=some c'->s.heap.IsCell c' v->h'.IsCell c' v:=fun{c'} _ hc'' x'=>jq x' fun o q=>hk _ o (fun e=>hy (W.inj y x c (e▸hc'') hc)) q;cases sl with
       |g=>exact this
       |v o=>
        cases o with|none=>exact this|some v=>refine cG (this) ?_;rintro val' r' q1 q2;exact⟨val',r',q1,q2⟩
       |cv o=>
        cases o with
        |none=>refine jo (this) ?_;rintro h1 c v h2 h3 h4;exact⟨h1,c,v,h2,h3,kc h2 h4⟩
        |some v=>refine gX (this) ?_;rintro val' r' h1 c h2 h3 h4;exact⟨val',r',h1,c,h2,h3,kc h2 h4⟩
       |f v=>refine g7 (this) ?_;rintro val' r' q c h2 h5;exact⟨val',r',q,c,h2,kc h2 h5⟩
       |x=>trivial
theorem wi(I:au C O J h){v:V}{val:Value}(r:ac C ⟨[],C.Z₀⟩ v val):ac C O v val:=ac.mono ⟨⟨O.am,by simp⟩,fun p hp=>I.z₀ p hp⟩ v r
theorem ul(K:aU C)(TO:cM C T)(I:au C O J s.heap)(W:aP C L O env loc s.heap){x:Str}{r:V}{pos:Pos}(e:pU T loc x=some r){Q:Value->Shared->Prop}(P:∀v,ac C O r v->Q v s):
 wpAny (model C.prog C.w) A (eval (.Name x pos) env) Q E s:=by
 unfold pU at e
 split at e
 .exact aC e
 . rename_i hd;have hd:(x==("__debug__":Str))=false/\(x==("__classdict__":Str))=false:=by rw[Bool.not_eq_true,VT]at hd;exact hd
   refine ae (W.ns) ?_;rintro m hn hs;cases hl:loc.lookup x with|none=>rw[hl]at e;exact aC e|some sl=>
   rw[hl]at e;cases sl with
   |v o=>have e:o=some r:=e;subst e;refine cG (hs _ _ hl) ?_;rintro val rv q1 q2;exact wpAny_Name (wpAny_loadName_local W.kind q1 hn q2 (P _ rv)) hd.1
   |cv o=>have e:o=some r:=e;subst e;refine gX (hs _ _ hl) ?_;rintro val rv q1 c h2 h3 h4;exact wpAny_Name (wpAny_loadName_cell W.kind q1 h2 h4 (P _ rv)) hd.1
   |f v=>
    cases(show some v=some r from e);refine g7 (hs _ _ hl) ?_;rintro val rv q c h2 h5;rcases q with q|q
    .exact wpAny_Name (wpAny_loadName_cell W.kind q h2 h5 (P _ rv)) hd.1
    .exact wpAny_Name (wpAny_loadName_free W.kind q h2 h5 (P _ rv) hd.2) hd.1
   |g=>
    have e:T.glob.lookup x=some r:=e;have hg:=hs _ _ hl;refine ae (TO.glob _ _ e) ?_;rintro val rv q;have G:s.heap.Ns mainGlobals C.mg:=K.g.keeps I.base;have B:s.heap.Ns builtinsNs C.mb:=K.b.keeps I.base;have X:=mX K I;rcases q with q|⟨q1,q2,q3⟩
    .exact Name_function_global W.kind hg (loadGlobal_global (W.glob▸G) (mg_of X G q) (P _ (wi I rv))) hd.1
    .exact Name_function_global W.kind hg (loadGlobal_builtin (W.glob▸G) (mg_none_of X G q1) (W.bi▸B) ((K.builtins x q3).trans q2) (P _ (wi I rv))) hd.1
   |x=>exact aC e
end
noncomputable def wj(o:Option (List V))(h:Heap)(Ia l:Addr)(i:Nat):Prop:=match o with
 |some _=>h.IsTupleIter Ia l i
 |Option.none=>h.IsListIter Ia l i
noncomputable def d6(C:Ctx)(O:Map)(h:Heap)(it:It)(i:Nat)(Ia Ja:Addr):Prop:=match it with
 |.seq v=>∃l,ac C O v (.ref l)/\wj (asT v) h Ia l i
 |.enm v=>∃l old,ac C O v (.ref l)/\IsEnum h Ia Ja i old/\h.IsListIter Ja l i/\Ia≠Ja
 |.rng a b=>IsRangeIter h Ia (a+i) (((b-a).toNat:Int)-i) 1
structure Off(C:Ctx)(O:Map)(h:Heap)(a:Addr):Prop where
 am:a∉O.am
 Z:∀p∈O.Z,p.1≠a
 h₀:C.h₀.get? a=none
 here:∃o,h.get? a=some o
structure lg(Ia Ja:Addr)(O O':Map)(s s':Shared):Prop where
 am:O'.am=O.am
 sub:∀p∈O.Z,p∈O'.Z
 newZ:∀p∈O'.Z,p∈O.Z\/s.heap.get? p.1=none
 keep:∀b o,b≠Ia->b≠Ja->s.heap.get? b=some o->s'.heap.get? b=some o
 same:∃h tk,s'={ s with heap:=h,toks:=tk}
section
variable{C:Ctx}{T:Tab}{mt:Pos->Bool}{L:List Addr}{O₀ O O':Map}{J J':Hp}{s₀ s s':Shared}{A:Around}{d:Nat}{E:Value->Shared->Prop}{env:Env}{loc loc':Loc}{h h':Heap}{it:It}{i:Nat}{Ia Ja a:Addr}
theorem Off.keeps(μ:Off C O s.heap a)(R:bH L O O' s s'):Off C O' s'.heap a:=by
 obtain⟨o,e⟩:=μ.here;refine⟨fun q=>?_,fun p hp q=>?_,μ.h₀,R.live a o μ.am e⟩
 .have:=R.new a q μ.am;rw[e]at this;cases this
 . rcases R.newZ p hp with hp|hp
   .exact μ.Z p hp q
   .have:=hp (by rw[q];exact μ.am);rw[q,e]at this;cases this
theorem Off.step(μ:Off C O s.heap a)(R:lg Ia Ja O O' s s')(e':∃o,s'.heap.get? a=some o):Off C O' s'.heap a:=by
 obtain⟨o,e⟩:=μ.here;refine⟨by rw[R.am];exact μ.am,fun p hp q=>?_,μ.h₀,e'⟩;rcases R.newZ p hp with hp|hp
 .exact μ.Z p hp q
 .rw[q,e]at hp;cases hp
theorem lg.le(R:lg Ia Ja O O' s s'):O.Le O':=⟨⟨[],by rw[R.am];simp⟩,R.sub⟩
theorem bH.step(R:bH L O₀ O s₀ s)(S:lg Ia Ja O O' s s')(h1:s₀.heap.get? Ia=none)(h2:s₀.heap.get? Ja=none):bH L O₀ O' s₀ s':=by
 have ne:∀b o,s₀.heap.get? b=some o->b≠Ia/\b≠Ja:=fun b o e=>⟨fun q=>(by rw[q,h1]at e;cases e),fun q=>(by rw[q,h2]at e;cases e)⟩;refine⟨R.le.trans S.le,fun b o hb hL e=>S.keep b o (ne b o e).1 (ne b o e).2 (R.keep b o hb hL e),fun b o hb e=>?_,fun x hx na=>R.new x (S.am▸hx) na,fun p hp=>?_,?_⟩
 .obtain⟨o',e'⟩:=R.live b o hb e;exact⟨o',S.keep b o' (ne b o e).1 (ne b o e).2 e'⟩
 . rcases S.newZ p hp with hp|hp
   .exact R.newZ p hp
   .refine .inr fun na=>?_;cases q:s₀.heap.get? p.1 with|none=>rfl|some o=>obtain⟨o',e'⟩:=R.live _ o na q;rw[e']at hp;cases hp
 .refine iN (R.same) ?_;rintro h1 t1 rfl;refine iN (S.same) ?_;rintro h2 t2 rfl;exact⟨h2,t2,rfl⟩
theorem au.step(I:au C O J s.heap)(S:lg Ia Ja O O' s s')(μ1:Off C O s.heap Ia)(μ2:Off C O s.heap Ja)(hz:∀p∈O'.Z,p∉O.Z->s'.heap.get? p.1=some p.2):au C O' J s'.heap:=by
 have ka:∀a∈O.am,a≠Ia/\a≠Ja:=fun a ha=>⟨fun q=>μ1.am (q▸ha),fun q=>μ2.am (q▸ha)⟩;refine⟨fun b o e=>S.keep b o (fun q=>by rw[q,μ1.h₀]at e;cases e) (fun q=>by rw[q,μ2.h₀]at e;cases e) (I.base b o e),by rw[S.am];exact I.len,by rw[S.am];exact I.fresh,by rw[S.am];exact I.nodup,by rw[S.am];exact I.low,
  fun p hp=>S.sub p (I.z₀ p hp),fun p hp=>?_,fun p hp=>?_,fun n c x e1 e2=>?_⟩
 . by_cases hm:p∈O.Z
   .exact S.keep _ _ (μ1.Z p hm) (μ2.Z p hm) (I.z p hm)
   .exact hz p hp hm
 . rw[S.am];rcases S.newZ p hp with hp|hp
   .exact I.zam p hp
   .intro ha;obtain⟨n,hn⟩:=U7 ha;have hl:n<J.length:=I.len▸(Tr.mp hn).1;refine ae (I.cell n J[n] _ (by simp[hl]) hn) ?_;rintro o ho _;rw[ho]at hp;cases hp
 .rw[S.am]at e2;refine ae (I.cell n c x e1 e2) ?_;rintro o ho r;have:=ka x (TZ e2);exact⟨o,S.keep x o this.1 this.2 ho,r.mono S.le⟩
theorem aP.step(W:aP C L O env loc s.heap)(S:lg Ia Ja O O' s s')(h1:Ia∉L)(h2:Ja∉L)(hc:∀x c,env.cells.lookup x=some c->c≠Ia/\c≠Ja):aP C L O' env loc s'.heap:=by
 have kL:∀a∈L,∀o,s.heap.get? a=some o->s'.heap.get? a=some o:=fun a ha o e=>S.keep a o (fun q=>h1 (q▸ha)) (fun q=>h2 (q▸ha)) e;have kC:∀{x c v},env.cells.lookup x=some c->s.heap.IsCell c v->s'.heap.IsCell c v:=fun hx e=>jq e fun o q=>S.keep _ o (hc _ _ hx).1 (hc _ _ hx).2 q;refine ae (W.ns) ?_;rintro m hn hs;refine⟨W.kind,W.glob,W.bi,W.own,fun a ha=>?_,fun a ha=>?_,W.inj,W.apart,fun x c hx=>?_,m,qY hn (kL _ W.own),fun x sl e=>?_⟩
 . refine eX (W.off a ha) ?_;rintro g1 g2 g3;refine⟨by rw[S.am];exact g1,fun p hp q=>?_,g3⟩;rcases S.newZ p hp with hp|hp
   .exact g2 p hp q
   .obtain⟨o,e⟩:=W.here a ha;rw[q,e]at hp;cases hp
 .obtain⟨o,e⟩:=W.here a ha;exact⟨o,kL a ha o e⟩
 .refine tz (W.cells x c hx) ?_;rintro g1 o e;exact⟨by rw[S.am];exact g1,o,S.keep _ o (hc _ _ hx).1 (hc _ _ hx).2 e⟩
 . have:=hs x sl e;cases sl with
   |g=>exact this
   |v o=>
    cases o with|none=>exact this|some v=>refine ae (this) ?_;rintro val r q;exact⟨val,ac.mono S.le _ r,q⟩
   |cv o=>
    cases o with
    |none=>refine jo (this) ?_;rintro g1 c v g2 g3 g4;exact⟨g1,c,v,g2,g3,kC g2 g4⟩
    |some v=>refine gX (this) ?_;rintro val r g1 c g2 g3 g4;exact⟨val,ac.mono S.le _ r,g1,c,g2,g3,kC g2 g4⟩
   |f v=>refine g7 (this) ?_;rintro val r q c g2 g5;exact⟨val,ac.mono S.le _ r,q,c,g2,kC g2 g5⟩
   |x=>trivial
theorem d6.keeps(t:d6 C O s.heap it i Ia Ja)(R:bH L O O' s s')(μ1:Off C O s.heap Ia)(μ2:Off C O s.heap Ja)(h1:Ia∉L)(h2:Ja∉L):d6 C O' s'.heap it i Ia Ja:=by
 have k1:∀o,s.heap.get? Ia=some o->s'.heap.get? Ia=some o:=fun o e=>R.keep Ia o μ1.am h1 e;have k2:∀o,s.heap.get? Ja=some o->s'.heap.get? Ja=some o:=fun o e=>R.keep Ja o μ2.am h2 e;have kt:∀{l},s.heap.IsTupleIter Ia l i->s'.heap.IsTupleIter Ia l i:=fun⟨o,e,r⟩=>⟨o,k1 _ e,r⟩;have kl:∀{l},s.heap.IsListIter Ia l i->s'.heap.IsListIter Ia l i:=fun⟨o,e,r⟩=>⟨o,k1 _ e,r⟩;cases it with
 |rng a b=>exact k1 _ t
 |enm v=>refine eY (t) ?_;rintro l old r q1 ⟨o,e,q2⟩ q3;exact⟨l,old,ac.mono R.le _ r,k1 _ q1,⟨o,k2 _ e,q2⟩,q3⟩
 |seq v=>
  refine ae (t) ?_;rintro l r q;refine⟨l,ac.mono R.le _ r,?_⟩;cases hT:asT v with|some _=>rw[hT]at q;exact kt q|none=>rw[hT]at q;exact kl q
theorem lj{target:Expr}{v:Value}{o:Obj}{n:String}{vs:Array Value}{Q:Unit->Shared->Prop}(ho:s.heap.get? Ia=some o)(hc:o.cls=.type n)(hd:o.data=.fields vs)(hn:["enumerate","zip","dict_itemiterator","dict_reverseitemiterator","odict_iterator","itertools.zip_longest","itertools.pairwise"].contains n=false)(h:Q () s):
 wpAny (model C.prog C.w) A (letOwnedTupleGo target (.ref Ia) v) Q E s:=by
 unfold letOwnedTupleGo;cases target<;>first
  |exact TN h
  |(cases v<;>first
   |exact TN h
   |(refine Tt (wpAny_load ho ?_);rw[hc,hd];dsimp only;rw[hn];exact TN h))
theorem CE(I:au C O J s.heap){xs:List V}{v:V}{l:Addr}(r:ac C O (.tup xs) (.ref l))(e:xs[i]?=some v):∃vals val,s.heap.IsTuple l vals/\vals[i]?=some val/\ac C O v val:=by simp only[ac]at r;refine bt (r) ?_;rintro a vals n q m t;cases q;refine ae ((aL.mp t).get e) ?_;rintro y h1 h2;exact⟨vals,y,cz I m,by rw[<-US];exact h1,h2⟩
theorem tE(I:au C O J s.heap){xs:List V}{x v:V}{l:Addr}(hx:a7 J x=some xs)(r:ac C O x (.ref l))(e:xs[i]?=some v):∃vals val,s.heap.IsList l vals/\vals[i]?=some val/\ac C O v val:=by refine bt (lT I hx r) ?_;rintro a vals n q ho t;cases q;refine ae (t.get e) ?_;rintro y h1 h2;exact⟨vals,y,isL ho,by rw[<-US];exact h1,h2⟩
theorem mz{x:V}{xs:List V}(h:bF J x=some xs)(ht:asT x=none):a7 J x=some xs:=by
 cases x with|tup _=>exact nomatch ht|_=>exact h
theorem tF(I:au C O J s.heap)(t:d6 C O s.heap it i Ia Ja)(μ1:Off C O s.heap Ia)(μ2:Off C O s.heap Ja){N:Nat}{v:V}(hN:bD J it=some N)(hi:i<N)(e:fD J i it=some v){tgt:Expr}(ht:nU tgt it=true){F:Shared->Prop}{G:Value->Shared->Prop}{E':Value->Shared->Prop}(P:∀O' s' val,lg Ia Ja O O' s s'->au C O' J s'.heap->d6 C O' s'.heap it (i+1) Ia Ja->Off C O' s'.heap Ia->Off C O' s'.heap Ja->ac C O' v val->G val s'):
 wpAny (model C.prog C.w) A (pyNext (.ref Ia)) (fun r s₁=>match r with|none=>F s₁|some val=>wpAny (model C.prog C.w) A (letOwnedTupleGo tgt (.ref Ia) val) (fun _ s₁'=>G val s₁') E' s₁) E s:=by
 have σ2:∀{s':Shared},Heap.SameBut Ia s.heap s'.heap->(∃o,s'.heap.get? Ia=some o)->∃o,s'.heap.get? Ja=some o:=fun hs h1=>by
  by_cases q:Ja=Ia
  .rw[q];exact h1
  .obtain⟨o,e⟩:=μ2.here;exact⟨o,(hs.2 _ q).trans e⟩
 have simple:∀{h':Heap}{tk:Nat},Heap.SameBut Ia s.heap h'->lg Ia Ja O O s { s with heap:=h',toks:=tk}:=fun{h'} {tk} hs=>
  ⟨rfl,fun _ h=>h,fun _ h=>.inl h,fun b o h1 _ e=>(hs.2 b h1).trans e,⟨h',tk,rfl⟩⟩
 have fin:∀{h':Heap}{tk:Nat}{val:Value},Heap.SameBut Ia s.heap h'->(∃o,h'.get? Ia=some o)->d6 C O h' it (i+1) Ia Ja->ac C O v val->G val { s with heap:=h',toks:=tk}:=fun{h'} {tk} {val} hs h1 t' r=>by have S:=simple (tk:=tk) hs;exact P O _ val S (I.step S μ1 μ2 fun p hp hm=>absurd hp hm) t' (μ1.step S h1) (μ2.step S (σ2 (s':={ s with heap:=h',toks:=tk}) hs h1)) r
 cases it with
 |rng a b=>simp only[bD,Wh]at hN;simp only[fD,Wh]at e;have t:IsRangeIter s.heap Ia (a+i) (((b-a).toNat:Int)-i) 1:=t;refine wpAny_pyNext_range_item t (ar2 [_,_,_] [] 1 77898236406923577904 hi (TF (Ul hN) :) art) fun h' ht' hs=>?_;refine lj (s:={ s with heap:=h',toks:=s.toks+1}) ht' rfl rfl (by decide) ?_;refine fin hs ⟨_,ht'⟩ ?_ (by subst e;simp only[ac];exact⟨_,rfl⟩);show IsRangeIter h' Ia (a+(i+1:Nat)) (((b-a).toNat:Int)-(i+1:Nat)) 1;have e1:a+((i+1:Nat):Int)=a+i+1:=are [_] [_] 1 46200954649880088 art art;have e2:((b-a).toNat:Int)-((i+1:Nat):Int)=((b-a).toNat:Int)-i-1:=are [_,_] [] 1 84239307114924000368 art art;rw[e1,e2];exact ht'
 |seq x=>
  simp only[fD]at e;refine bE e fun xs hx e=>?_;refine ae ((t:∃l,ac C O x (.ref l)/\wj (asT x) s.heap Ia l i)) ?_;rintro l r q;cases hT:asT x with
  |some ys=>rw[hT]at q;cases qP hT;cases hx;refine cW (CE I r e) ?_;rintro vals val h1 h2 h3;refine wpAny_pyNext_tuple_item q h1 h2 fun h' ht' hs=>?_;refine cG (id ht') ?_;rintro o ho hc hd;exact lj (s:={ s with heap:=h'}) ho hc hd (by decide) (fin (tk:=s.toks) hs ⟨_,ho⟩ ⟨l,r,ht'⟩ h3)
  |none=>rw[hT]at q;refine cW (tE I (mz hx hT) r e) ?_;rintro vals val h1 h2 h3;refine wpAny_pyNext_list_item q h1 h2 fun h' ht' hs=>?_;refine cG (id ht') ?_;rintro o ho hc hd;exact lj (s:={ s with heap:=h'}) ho hc hd (by decide) (fin (tk:=s.toks) hs ⟨_,ho⟩ ⟨l,r,by rw[hT];exact ht'⟩ h3)
 |enm x=>
  simp only[fD]at e;refine ae (TU.mp e) ?_;rintro y e' rfl;refine bE e' fun xs hx e=>?_;refine eY ((t:∃l old,ac C O x (.ref l)/\IsEnum s.heap Ia Ja i old/\s.heap.IsListIter Ja l i/\Ia≠Ja)) ?_;rintro l old r q1 q2 q3;refine cW (tE I hx r e) ?_;rintro vals val h1 h2 h3;cases tgt with
  |Tuple elts x1 pt=>
   refine wpAny_pyNext_enum_item q1 q2 h1 h2 q3 fun h' g1 g2 g3 g4 g5=>?_;refine wpAny_letOwnedTupleGo_enum (s:={ s with heap:=h',toks:=s.toks+1}) g1 fun h₂ k1 k2=>?_;have k2:Heap.SameBut Ia h' h₂:=k2;have hIa:Ia<s.heap.objs.size:=UV q1;have g3':h₂.get? s.heap.objs.size=some (kB #[.int i s.toks,val] 0):=(k2.2 _ (Vb hIa)).trans g3;have S:lg Ia Ja O ⟨O.am,(s.heap.objs.size,kB #[.int i s.toks,val] 0)::O.Z⟩ s { s with heap:=h₂,toks:=s.toks+1} :=
    ⟨rfl,fun p hp=>.tail _ hp,fun p hp=>by
     rcases TS.mp hp with rfl|hp
     .exact .inr (g9 _)
     .exact .inl hp,fun b o n1 n2 e=>(k2.2 b n1).trans (g5 b o n1 n2 e),⟨h₂,_,rfl⟩⟩
   refine ae (g2) ?_;rintro o ho hr;have hJ:h₂.get? Ja=some o:=(k2.2 _ (Ne.symm q3)).trans ho;have k1':IsEnum h₂ Ia Ja ((i+1:Nat):Int) val:=by have:((i+1:Nat):Int)=(i:Int)+1:=Int.natCast_succ _;rw[this];exact k1
   refine P _ _ _ S (I.step S μ1 μ2 fun p hp hm=>?_) ⟨l,val,ac.mono S.le _ r,k1',⟨o,hJ,hr⟩,q3⟩ (μ1.step S ⟨_,k1⟩) (μ2.step S ⟨_,hJ⟩) ?_
   . rcases TS.mp hp with rfl|hp
     .exact g3'
     .exact absurd hp hm
   .simp only[ac];refine⟨_,#[.int i s.toks,val],0,rfl,.head _,?_⟩;exact aL.mpr (.cons (by simp only[ac];exact⟨_,rfl⟩) (.cons (ac.mono S.le _ h3) .nil))
  |_=>exact nomatch ht
theorem wk(hh:A.handled=none)(I:au C O J s.heap)(t:d6 C O s.heap it i Ia Ja)(μ1:Off C O s.heap Ia)(μ2:Off C O s.heap Ja){N:Nat}(hN:bD J it=some N)(hi:i=N){Q:Option Value->Shared->Prop}(P:∀s',lg Ia Ja O O s s'->au C O J s'.heap->Q none s'):
 wpAny (model C.prog C.w) A (pyNext (.ref Ia)) Q E s:=by
 have fin:∀{x:Addr}{h':Heap},x=Ia\/x=Ja->Heap.ExtBut x s.heap h'->Q none { s with heap:=h'}:=fun{x} {h'} hx hs=>by have S:lg Ia Ja O O s { s with heap:=h'}:=⟨rfl,fun _ h=>h,fun _ h=>.inl h,fun b o h1 h2 e=>hs b o (by rcases hx with rfl|rfl;exact h1;exact h2) e,⟨h',s.toks,rfl⟩⟩;exact P _ S (I.step S μ1 μ2 fun p hp hm=>absurd hp hm)
 subst hi;cases it with
 |rng a b=>simp only[bD,Wh]at hN;have t:IsRangeIter s.heap Ia (a+i) (((b-a).toNat:Int)-i) 1:=t;exact wpAny_pyNext_range_end hh t (ar1 [_,_] [] 1 277143994928 (TF hN :) art) fun h' hs=>fin (.inl rfl) hs
 |seq x=>
  simp only[bD,TU]at hN;refine ae (hN) ?_;rintro xs hx hl;refine ae ((t:∃l,ac C O x (.ref l)/\wj (asT x) s.heap Ia l _)) ?_;rintro l r q;cases hT:asT x with
  |some ys=>rw[hT]at q;cases qP hT;cases hx;simp only[ac]at r;refine bt (r) ?_;rintro a vals n q' m tl;cases q';have hsz:=bL (aL.mp tl);exact wpAny_pyNext_tuple_end hh q (cz I m) (by rw[Wi];exact ar2 [_,_,_] [] 0 589842992 (TF (Ul hsz) :) (TF hl :) art) fun h' hs=>fin (.inl rfl) hs
  |none=>rw[hT]at q;refine bt (lT I (mz hx hT) r) ?_;rintro a vals n q' ho tl;cases q';have hsz:=bL tl;exact wpAny_pyNext_list_end hh q (isL ho) (by rw[Wi];exact ar2 [_,_,_] [] 0 589842992 (TF (Ul hsz) :) (TF hl :) art) fun h' hs=>fin (.inl rfl) hs
 |enm x=>simp only[bD,TU]at hN;refine ae (hN) ?_;rintro xs hx hl;refine eY ((t:∃l old,ac C O x (.ref l)/\IsEnum s.heap Ia Ja i old/\s.heap.IsListIter Ja l i/\Ia≠Ja)) ?_;rintro l old r q1 q2 q3;refine bt (lT I hx r) ?_;rintro a vals n q' ho tl;cases q';have hsz:=bL tl;exact wpAny_pyNext_enum_end hh q1 q2 (isL ho) (by rw[Wi];exact ar2 [_,_,_] [] 0 589842992 (TF (Ul hsz) :) (TF hl :) art) fun h' hs=>fin (.inr rfl) hs
theorem jI(I:au C O J s.heap)(ha:s.heap.get? a=none)(e:∃o,h'.get? a=some o):Off C O h' a:=by
 refine⟨fun q=>?_,fun p hp q=>?_,?_,e⟩
 .obtain⟨n,hn⟩:=U7 q;have hl:n<J.length:=I.len▸(Tr.mp hn).1;refine ae (I.cell n J[n] _ (by simp[hl]) hn) ?_;rintro o ho _;rw[ho]at ha;cases ha
 .have:=I.z p hp;rw[q,ha]at this;cases this
 .cases q:C.h₀.get? a with|none=>rfl|some o=>rw[I.base a o q]at ha;cases ha
set_option tactic.hygienic true in
theorem um(I:au C O J s.heap){v:V}{val:Value}(e:gZ J v=some it)(r:ac C O v val){Q:Value->Shared->Prop}(P:∀s' Ia Ja,al O O s s'->au C O J s'.heap->d6 C O s'.heap it 0 Ia Ja->s.heap.get? Ia=none->s.heap.get? Ja=none->Off C O s'.heap Ia->Off C O s'.heap Ja->(∀s Q E',d6 C O s.heap it 0 Ia Ja->Q (.ref Ia) s->wpAny (model C.prog C.w) A (pyIter (.ref Ia)) Q E' s)->Q (.ref Ia) s'):
 wpAny (model C.prog C.w) A (pyIter val) Q E s:=by
 have fin:∀{o:Obj},o.isFreed=false->d6 C O (s.heap.push o) it 0 s.heap.objs.size s.heap.objs.size->(∀s' Q E',d6 C O s'.heap it 0 s.heap.objs.size s.heap.objs.size->Q (.ref s.heap.objs.size) s'->wpAny (model C.prog C.w) A (pyIter (.ref s.heap.objs.size)) Q E' s')->Q (.ref s.heap.objs.size) { s with heap:=s.heap.push o}:=fun{o} hf t hi=>by have k:∀b x,s.heap.get? b=some x->(s.heap.push o).get? b=some x:=fun b x hx=>Uf _ hx;have hs:=g9 s.heap;have μ:Off C O (s.heap.push o) s.heap.objs.size:=jI I hs ⟨_,UQ _ hf⟩;exact P _ _ _ (al.at (t:=s.toks) k) (I.at k) t hs hs μ μ hi
 have list:∀{a:Addr}{vals:Array Value},some (It.seq v)=some it->s.heap.IsList a vals->asT v=none->ac C O v (.ref a)->wpAny (model C.prog C.w) A (pyIter (.ref a)) Q E s:=fun{a vals} e L hT r0=>by
  cases e;refine wpAny_pyIter_list L (fin rfl ⟨a,r0,?_⟩ fun s' Q E' t h=>?_)
  .rw[hT];exact⟨_,UQ _ rfl,rfl,rfl⟩
  .refine ae ((t:∃l,_/\wj (asT v) _ _ l _)) ?_;rintro l _ t;rw[hT]at t;exact wpAny_pyIter_listiter t h
 cases v with
 |rng a b=>
  refine ifE e fun hs e=>?_;rw[TC]at hs;obtain⟨a1,a2⟩:=hM hs.1;obtain⟨b1,b2⟩:=hM hs.2;cases e;simp only[ac]at r;refine cW (r) ?_;rintro x o rfl m ⟨t,u,w,rfl⟩;refine wpAny_pyIter_range (I.z _ m) (small_one (Int.le_of_lt ‹_›) a2 (Int.le_of_lt ‹_›) b2) ?_;refine fin rfl ?_ fun s' Q E' t h=>wpAny_pyIter_rangeiter t h;have e2:Builtin.Range.rangeSize a b 1=((b-a).toNat:Int):=by rw[rangeSize_one];split<;>grind
  show IsRangeIter _ _ (a+(0:Nat)) (((b-a).toNat:Int)-(0:Nat)) 1;rw[e2];have h0:=UQ s.heap (o:={ cls:=.type "range_iterator",data:=.fields #[rawInt a,rawInt ((b-a).toNat:Int),rawInt 1]}) rfl;simpa using h0
 |ref n=>refine vY (G:=fun val=>ac C O (.ref n) val->wpAny (model C.prog C.w) A (pyIter val) Q E s) I e r (fun xs a vals k hn ha ho t e r0=>list e (isL ho) rfl r0) (fun _ _ _ _ _ _ _ _ _ e=>aC e) r
 |lst xs=>refine elL (G:=fun val=>ac C O (.lst xs) val->wpAny (model C.prog C.w) A (pyIter val) Q E s) r (fun a vals n m t r0=>list e (oY I m) rfl r0) r
 |tup xs=>refine elT (G:=fun val=>ac C O (.tup xs) val->wpAny (model C.prog C.w) A (pyIter val) Q E s) r (fun a vals n m t r0=>?_) r;cases e;refine wpAny_pyIter_tuple (cz I m) (fin rfl ⟨a,r0,(⟨_,UQ _ rfl,rfl,rfl⟩:Heap.IsTupleIter _ _ _ _)⟩ fun s' Q E' t h=>?_);refine ae ((t:∃l,_/\wj (asT (.tup xs)) _ _ l _)) ?_;rintro l _ t;exact wpAny_pyIter_tupleiter t h
 |_=>exact aC e
theorem GQ(I:au C O J s.heap){v:V}{val:Value}{xs:List V}(e:a7 J v=some xs)(r:ac C O v val){Q:Value->Shared->Prop}(P:∀s' Ia Ja,al O O s s'->au C O J s'.heap->d6 C O s'.heap (.enm v) 0 Ia Ja->s.heap.get? Ia=none->s.heap.get? Ja=none->Off C O s'.heap Ia->Off C O s'.heap Ja->(∀s Q E',d6 C O s.heap (.enm v) 0 Ia Ja->Q (.ref Ia) s->wpAny (model C.prog C.w) A (pyIter (.ref Ia)) Q E' s)->Q (.ref Ia) s'):
 wpAny (model C.prog C.w) A (call (.type "enumerate") [val]) Q E s:=by
 refine bt (lT I e r) ?_;rintro a vals n rfl ho t;refine call_enumerate_list (isL ho) fun h' h1 h2 h3 k=>?_;have n1:s.heap.get? (s.heap.objs.size+1)=none:=by
  cases q:s.heap.get? (s.heap.objs.size+1)with|none=>rfl|some o'=>exact absurd (UV q) (Vd.mpr (Vm _))
 have n2:=g9 s.heap;refine ae (id h2) ?_;rintro o ho' hr;exact P { s with heap:=h'} _ _ (al.at (t:=s.toks) k) (I.at k) ⟨a,.none,r,h1,h2,Nat.succ_ne_self _⟩ n1 n2 (jI I n1 ⟨_,h1⟩) (jI I n2 ⟨_,ho'⟩) fun s Q E' t h=>by refine cW (t) ?_;rintro l old _ t _;exact wpAny_pyIter_enum t h
end
structure dp(A:Around)(d:Nat):Prop where
 handled:A.handled=none
 depth:A.depth+8*d+12<=recursionLimit
 units:A.units+64*d+288<=cLine
theorem dp.room{A:Around}{d:Nat}(h:dp A d):sH A d:=⟨h.handled,by have:=h.depth;exact ar1 [_,_] [] 0 1361222565614647669115661747703175924717104 this art,by have:=h.units;exact ar1 [_,_] [] 0 452156620143607399298574090243148081587825322038832 this art⟩
theorem dp.under{A:Around}{d:Nat}(h:dp A d)(x:Addr)(vals:List Value)(kw:List (Str×Value)):sH (A.under (.builtin "type.__call__" ⟨.ref x::vals,kw⟩)) d :=
 ⟨h.handled,by have:=h.depth;show A.depth+1+_+_<=_;exact ar1 [_,_] [] 0 1393891907189399213155483122832092667893028400 this art,by have:=h.units;show A.units+1+_+_<=_;exact ar1 [_,_] [] 0 463008379027053976881739274001397044661386165260195376 this art⟩
theorem sH.deeper{A:Around}{d:Nat}(h:sH A (d+1))(env:Env):dp (A.deeper env) d :=
 ⟨h.handled,by have:=h.depth;show A.depth+1+_+_<=_;exact ar1 [_,_] [] 0 1427345318406462665006230133194052107231124563504 this art,by have:=h.units;show A.units+3+_+_<=_;exact ar1 [_,_] [] 0 474120580169375198493491735306596925210949159079486989872 this art⟩
theorem jJ{o:Option V}{a:An}{k:V->An->Prop}(h:qK o a k):∃x r,o=some x/\k x r:=by
 rcases a with _|⟨q,r⟩
 .exact False.elim h
 cases q with
 |v x=>exact⟨_,_,h.1,h.2⟩
 |c=>cases o with
  |none=>exact False.elim h
  |some x=>exact⟨_,_,rfl,h⟩
 |_=>exact False.elim h
theorem gr{o:Option (V×Hp)}{a:An}{k:V->Hp->An->Prop}(h:AA o a k):∃x s r,o=some (x,s)/\k x s r:=by
 rcases a with _|⟨q,r⟩
 .exact False.elim h
 cases q with
 |p x s=>exact⟨_,_,_,h.1,h.2⟩
 |c=>cases o with
  |none=>exact False.elim h
  |some x=>exact⟨_,_,_,rfl,h⟩
 |_=>exact False.elim h
theorem zf{o:Option Hp}{a:An}{k:Hp->An->Prop}(h:Ld o a k):∃x r,o=some x/\k x r:=by
 rcases a with _|⟨q,r⟩
 .exact False.elim h
 cases q with
 |s x=>exact⟨_,_,h.1,h.2⟩
 |c=>cases o with
  |none=>exact False.elim h
  |some x=>exact⟨_,_,rfl,h⟩
 |_=>exact False.elim h
theorem zh{o:Option MK}{a:An}{k:MK->An->Prop}(h:OV o a k):∃x r,o=some x/\k x r:=by
 rcases a with _|⟨q,r⟩
 .exact False.elim h
 cases q with
 |k x=>exact⟨_,_,h.1,h.2⟩
 |c=>cases o with
  |none=>exact False.elim h
  |some x=>exact⟨_,_,rfl,h⟩
 |_=>exact False.elim h
theorem zi{o:Option It}{a:An}{k:It->An->Prop}(h:xp o a k):∃x r,o=some x/\k x r:=by
 rcases a with _|⟨q,r⟩
 .exact False.elim h
 cases q with
 |i x=>exact⟨_,_,h.1,h.2⟩
 |c=>cases o with
  |none=>exact False.elim h
  |some x=>exact⟨_,_,rfl,h⟩
 |_=>exact False.elim h
theorem nZ{o:Option Bool}{a:An}{k:Bool->An->Prop}(h:GI o a k):∃x r,o=some x/\k x r:=by
 rcases a with _|⟨q,r⟩
 .exact False.elim h
 cases q with
 |t x=>exact⟨_,_,h.1,h.2⟩
 |c=>cases o with
  |none=>exact False.elim h
  |some x=>exact⟨_,_,rfl,h⟩
 |_=>exact False.elim h
theorem jK{F:V->Hp->Prop}{a:An}{k:V->Hp->An->Prop}(h:Cg F a k):∃x s r,F x s/\k x s r:=by
 rcases a with _|⟨q,r⟩
 .exact False.elim h
 cases q with|p x s=>exact⟨_,_,_,h.1,h.2⟩|_=>exact False.elim h
theorem zk{F:Fl->Loc->Hp->Prop}{a:An}{k:Fl->Loc->Hp->An->Prop}(h:Lf F a k):∃f l s r,F f l s/\k f l s r:=by
 rcases a with _|⟨q,r⟩
 .exact False.elim h
 cases q with|l f l s=>exact⟨_,_,_,_,h.1,h.2⟩|_=>exact False.elim h
theorem iO{o:Option Bool}{a:An}{x y:An->Prop}(h:qL o a x y):∃c,o=some c/\(c=true->∃r,x r)/\(c=false->∃r,y r):=by
 rcases a with _|⟨q,r⟩
 .exact False.elim h
 have g:∀c:Bool,(match c with|true=>x r|false=>y r)->(c=true->∃r,x r)/\(c=false->∃r,y r):=fun c h=>by
  cases c with|true=>exact⟨fun _=>⟨_,h⟩,fun q=>(nomatch q)⟩|false=>exact⟨fun q=>(nomatch q),fun _=>⟨_,h⟩⟩
 cases q with
 |b c=>cases o with
  |none=>exact False.elim h
  |some d=>exact⟨c,Tx some h.1,g c h.2⟩
 |t c=>exact⟨c,h.1,g c h.2⟩
 |m p q=>cases o with
  |none=>exact False.elim h
  |some d=>exact⟨d,rfl,fun e=>⟨_,h.1 e⟩,fun e=>⟨_,h.2 e⟩⟩
 |_=>exact False.elim h
inductive BrO(op:BoolOp)(v:V)(J:Hp)(rest:An->KQ->Prop)(k:KQ):Prop
 |mk (b:Bool):bR J v=some b->(tx op b=false->∃r k',rest r k'/\∀v2 J2 a2,k' v2 J2 a2->∃a3,k v2 J2 a3)->(tx op b=true->∃a3,k v J a3)->BrO op v J rest k
theorem o0{op:BoolOp}{v:V}{J:Hp}{a:An}{rest:An->KQ->Prop}{k:KQ}(ad:∀r k',rest r k'->∃v s a,k' v s a)(h:brB op v J a rest k):
 BrO op v J rest k:=by
 have gen:∀a,(match(generalizing:=false) op with
  |.And=>qL (bR J v) a (fun a=>rest a k) (fun a=>k v J a)
  |.Or=>qL (bR J v) a (fun a=>k v J a) (fun a=>rest a k))->BrO op v J rest k:=fun a h=>by
  cases op with
  |And=>refine cG (iO h) ?_;rintro c e h1 h2;refine⟨c,e,fun s=>?_,fun s=>h2 (by cases c<;>first|rfl|cases s)⟩;obtain⟨r,h1⟩:=h1 (by cases c<;>first|rfl|cases s);exact⟨r,k,h1,fun _ _ _ h=>⟨_,h⟩⟩
  |Or=>refine cG (iO h) ?_;rintro c e h1 h2;refine⟨c,e,fun s=>?_,fun s=>h1 (by cases c<;>first|rfl|cases s)⟩;obtain⟨r,h2⟩:=h2 (by cases c<;>first|rfl|cases s);exact⟨r,k,h2,fun _ _ _ h=>⟨_,h⟩⟩
 rcases a with _|⟨q,r⟩
 .exact gen _ h
 cases q with
 |o=>cases v with
  |bool b=>
   refine⟨b,rfl,fun s=>⟨r,_,h,fun v2 J2 a2 hk=>?_⟩,fun s=>?_⟩
   . cases v2 with
     |bool b2=>obtain⟨rfl,hk⟩:=hk;refine⟨a2,?_⟩;cases op<;>cases b<;>first|exact hk|cases s
     |_=>exact False.elim hk
   . refine bp (ad _ _ h) ?_;rintro v2 J2 a2 hk;cases v2 with
     |bool b2=>obtain⟨rfl,hk⟩:=hk;refine⟨a2,?_⟩;cases op<;>cases b<;>first|exact hk|cases s
     |_=>exact False.elim hk
  |_=>exact False.elim h
 |_=>exact gen _ h
noncomputable abbrev M(C:Ctx):=model C.prog C.w
noncomputable def zl(C:Ctx)(O:Map):Fl->Flow->Prop
 |.next,f=>f=.next
 |.brk,f=>f=.brk
 |.cont,f=>f=.cont
 |.ret v,f=>∃val,f=.ret val/\ac C O v val
noncomputable def p0(C:Ctx)(L:List Addr)(O:Map)(s:Shared)(J':Hp)(env:Env)(loc':Loc)(fl:Fl)(Q:Flow->Shared->Prop):Prop :=
 ∀O' s' f,bH L O O' s s'->au C O' J' s'.heap->aP C L O' env loc' s'.heap->zl C O' fl f->Q f s'
noncomputable def iZ(C:Ctx)(cs:aG)(d:Nat):Prop:=∀{A:Around}{c m:Str}{f:Addr}{args:List V}{kw:List (Str×V)}{J J':Hp}{r:V}{O:Map}{s:Shared}{vals:List Value}{kwp:List (Str×Value)}{R:Result->Shared->Prop},
 cs c m args kw J r J'->C.fnA c m=some f->sH A d->au C O J s.heap->ai (ac C O) args vals->ai (Kv C O) kw kwp ->
 (∀O' s' v,al O O' s s'->au C O' J' s'.heap->ac C O' r v->R (.ok (.ret v)) s')->codeAny (M C) A (.call (.ref f) ⟨vals,kwp⟩) R s
structure gh(C:Ctx)(T:Tab)(mt:Pos->Bool)(cs:aG)(d:Nat)(ss:List Stmt):Prop where
 run:∀{A:Around}{L:List Addr}{env:Env}{loc:Loc}{J:Hp}{a:An}{k:KF}{O:Map}{s:Shared}{Q:Flow->Shared->Prop}{E:Value->Shared->Prop},
  runSs T mt cs ss loc J a k->dp A d->au C O J s.heap->aP C L O env loc s.heap->(∀f l J' a',k f l J' a'->p0 C L O s J' env l f Q)->wpAny (M C) A (execs ss env) Q E s
theorem wn{kindOf:Str->Option NameKind}{x:Str}(hx:kindOf x=some .local):∀(binds:List (Str×Value)) (m:Str->Option Value),(binds.map (·.1)).Nodup->bindL kindOf binds m x=(match binds.lookup x with|some v=>some v|none=>m x)
 |[],m,_=>rfl
 |(n,v)::r,m,hn=>by
  unfold bindL;rw[wn hx r _ (VO.mp hn).2,TR];by_cases q:x=n
  . subst q;rw[TQ,if_pos hx];have:r.lookup x=none:=by rw[VB];intro p hp;rw[WE];rintro rfl;exact(VO.mp hn).1 (Uw.mpr ⟨p,hp,rfl⟩)
    rw[this];exact if_pos rfl
  . rw[Tv.mpr q];cases r.lookup x with|some w=>rfl|none=>
     dsimp only
     split
     .exact if_neg q
     .rfl
theorem wo{kindOf:Str->Option NameKind}{x:Str}(hx:kindOf x≠some .local):∀(binds:List (Str×Value)) (m:Str->Option Value),(binds.map (·.1)).Nodup->bindC kindOf binds m x=(match binds.lookup x with|some v=>some v|none=>m x)
 |[],m,_=>rfl
 |(n,v)::r,m,hn=>by
  unfold bindC;rw[wo hx r _ (VO.mp hn).2,TR];by_cases q:x=n
  . subst q;rw[TQ,if_neg hx];have:r.lookup x=none:=by rw[VB];intro p hp;rw[WE];rintro rfl;exact(VO.mp hn).1 (Uw.mpr ⟨p,hp,rfl⟩)
    rw[this];exact if_pos rfl
  . rw[Tv.mpr q];cases r.lookup x with|some w=>rfl|none=>
     dsimp only
     split
     .rfl
     .exact if_neg q
theorem qZ{C:Ctx}{O:Map}:∀{ps:List Str}{vs:List V}{vals:List Value}{x:Str},ai (ac C O) vs vals->(∀v,(ps.zip vs).lookup x=some v->∃val,(ps.zip vals).lookup x=some val/\ac C O v val)/\((ps.zip vs).lookup x=none->(ps.zip vals).lookup x=none)
 |[],_,_,_,_=>by simp
 |_::_,_,_,_,.nil=>by simp
 |p::ps,_,_,x,.cons h t=>by
  rw[WH,WH,TR,TR];by_cases q:x=p
  .subst q;simp only[TQ];exact⟨fun v e=>by cases e;exact⟨_,rfl,h⟩,fun e=>by cases e⟩
  .simp only[Tv.mpr q];exact qZ t
theorem mZ{α β:Type}{f:α->β}{x:Str}{k:NameKind}:∀{l:List (Str×NameKind)}{g:Str->NameKind->Sl}{sl:Sl},(l.map fun p=>(p.1,g p.1 p.2)).lookup x=some sl->∃k,l.lookup x=some k/\sl=g x k
 |[],_,_,e=>by simp at e
 |(y,k)::r,g,sl,e=>by
  rw[Uj,TR]at e;rw[TR];by_cases q:x=y
  .subst q;simp only[TQ]at e ⊢;exact⟨k,rfl,(Tp e).symm⟩
  .simp only[Tv.mpr q]at e ⊢;exact mZ (α:=α) (β:=β) (f:=f) (k:=k) e
section
variable{C:Ctx}{T:Tab}{mt:Pos->Bool}{cs:aG}{d:Nat}
theorem uo{kw:List (Str×V)}{kwp:List (Str×Value)}{O:Map}(hz:∀p∈C.Z₀,p∈O.Z)(hk:ai (Kv C O) kw kwp):∀{srcs:List Src}{rs:List V}{r:List Value},Az kw srcs=some rs->ai (uf C (kwp.map (·.2))) srcs r->ai (ac C O) rs r
 |[],rs,r,e,h=>by cases h;cases e;exact .nil
 |.kw k::t,rs,r,e,h=>by
  cases h with|cons h1 h2=>
  unfold Az at e;refine ae (TD.mp e) ?_;rintro p hp e;refine ae (TU.mp e) ?_;rintro q hq rfl;refine ae (hk.get hp) ?_;rintro y hy ⟨e1,e2⟩;have h1:(kwp.map (·.2))[k]?=some _:=h1;rw[Ty,hy]at h1;cases h1;exact .cons e2 (uo hz hk hq h2)
 |.dflt v::t,rs,r,e,h=>by
  cases h with|cons h1 h2=>
  unfold Az at e;refine ae (TU.mp e) ?_;rintro q hq rfl;exact .cons (ac.mono ⟨⟨O.am,by simp⟩,hz⟩ _ h1) (uo hz hk hq h2)
theorem AI{kw:List (Str×V)}{kwp:List (Str×Value)}{O:Map}(h:ai (Kv C O) kw kwp):kwp=(kw.map (·.1)).zip (kwp.map (·.2)):=by
 induction h with|nil=>rfl|@cons p q _ _ h _ ih=>rw[Uj,Uj,WH,<-ih,<-h.1]
theorem Pa(K:aU C){c m:Str}{fd:aD}{f:Addr}(F:AE C c m fd)(hf:C.fnA c m=some f)(B:gh C T mt cs d fd.body){A:Around}{args:List V}{kw:List (Str×V)}{J J':Hp}{r:V}{O:Map}{s:Shared}{vals:List Value}{kwp:List (Str×Value)}{R:Result->Shared->Prop}{binds:List (Str×V)}{an:An}(hb:vV fd args kw=some binds)(he:runSs T mt cs fd.body (tw fd.scope binds) J an (GJ r J'))(hR:sH A (d+1))(I:au C O J s.heap)(ra:ai (ac C O) args vals)(rk:ai (Kv C O) kw kwp)(P:∀O' s' v,al O O' s s'->au C O' J' s'.heap->ac C O' r v->R (.ok (.ret v)) s'):codeAny (M C) A (.call (.ref f) ⟨vals,kwp⟩) R s:=by
 obtain @⟨f',oc,od,osl,name,qual,params,dV,kV,doc,pm,an,cdv,ct,h1,h2,h3,h4,h5⟩:=F.at_;rw[hf]at h1;cases h1;have ok:=F.ok;unfold ug at ok;simp only[TC,Um,Bool.not_eq_true']at ok;obtain⟨⟨⟨⟨⟨k1,k2⟩,k3⟩,k4⟩,k5⟩,k6⟩:=ok;have X:=mX K I;unfold vV at hb;obtain⟨sh,hsh,hb⟩:=TD.mp hb;obtain⟨rs,hrs,hb⟩:=TD.mp hb
 split at hb
 . rename_i hlen;cases hb;have hm:=List.mem_of_find?_eq_some hsh;have hq:=List.find?_some hsh;simp only[TC,Ub]at hq;obtain⟨q1,q2⟩:=hq;refine ae (h5 sh hm vals (kwp.map (·.2)) (by rw[q1,ra.length]) (by rw[q2];simp[rk.length])) ?_;rintro rv hrv hpk;have hkw:kwp=sh.2.1.zip (kwp.map (·.2)):=by rw[q2];exact AI rk
   rw[<-hkw]at hpk;have rr:=uo I.z₀ rk hrs hrv;have rall:=ra.append rr;have BT:=kp_binds X hpk;have hkeys:(fd.params.zip (vals++rv)).map (·.1)=fd.params:=by rw[List.map_fst_zip];rw[<-rall.length,hlen];exact TB _
   have hroom:A.depth<recursionLimit:=by have:=hR.depth;exact ar1 [_,_] [] 0 40567593799625500918238375106881072 this art
   have kinds:∀x∈fd.params.zip (vals++rv),fd.scope.names.lookup x.1=some .local\/(fd.scope.names.lookup x.1=some .cell/\((cellsFrom (s.heap.objs.size+1) fd.scope.names []).lookup x.1).isSome=true):=fun x hx=>by
    have:x.1∈fd.params:=by rw[<-hkeys];exact Uw.mpr ⟨x,hx,rfl⟩
    rcases F.params _ this with q|q
    .exact .inl q
    .exact .inr ⟨q,cellsFrom_some _ _ _ (.inl q)⟩
   refine codeAny_call_function hroom (X _ _ h2) rfl k2 k3 rfl (codeRec_of X h3) (BT _ _ _ _ ?_);refine wpAny_newFunctionEnv_cells k1 kinds fun env henv s₁ hin=>?_;obtain⟨⟨⟨h',tk,rfl⟩,hns,hkeep,hfresh⟩,hcell,hapart,habove⟩:=hin;refine⟨K.nolimit.keeps fun b o e=>hkeep b o (I.base b o e),codeAny_func ?_⟩;have hscope:env.scope=fd.scope:=by rw[henv];rfl
   have hkind:∀x,env.kindOf x=fd.scope.names.lookup x:=fun x=>by show env.scope.names.lookup x=_;rw[hscope]
   have hLnone:s.heap.get? env.locals=none:=by
    cases q:s.heap.get? env.locals with|none=>rfl|some o=>exact absurd (UV q) (Vd.mpr hfresh)
   have hcnone:∀x cc,(x,cc)∈env.cells->s.heap.get? cc=none:=fun x cc hx=>by
    cases q:s.heap.get? cc with|none=>rfl|some o=>exact absurd (VH (Ts hfresh (habove x cc hx)) (UV q)) (UN _)
   have hLall:∀a∈env.locals::env.cells.map (·.2),s.heap.get? a=none:=fun a ha=>by
    rcases TS.mp ha with rfl|ha
    .exact hLnone
    .refine ae (Uw.mp ha) ?_;rintro p hp rfl;exact hcnone p.1 p.2 hp
   have cellHere:∀x cc,env.cells.lookup x=some cc->∃o,h'.get? cc=some o:=fun x cc hx=>by refine ae (hcell x cc hx) ?_;rintro o e _;exact⟨o,e⟩
   have lookOf:∀p∈env.cells,env.cells.lookup p.1=some p.2\/∃q,env.cells.lookup p.1=some q:=fun p hp=>by
    cases q:env.cells.lookup p.1 with|some v=>exact .inr ⟨v,rfl⟩|none=>rw[VB]at q;have:=q p hp;simp at this
   have I1:au C O J h':=I.at hkeep;have R1:al O O s { s with heap:=h',toks:=tk}:=al.at hkeep;have ndc:∀x cc cc',(x,cc)∈env.cells->(x,cc')∈env.cells->env.cells.lookup x=some cc\/True:=fun _ _ _ _ _=>.inr trivial;have V1:aP C (env.locals::(env.cells.map (·.2)).filter fun cc=>(h'.get? cc).isSome) O env (tw fd.scope (fd.params.zip (args++rs))) h':=by
    have hsub:∀a∈(env.locals::(env.cells.map (·.2)).filter fun cc=>(h'.get? cc).isSome),a∈env.locals::env.cells.map (·.2):=fun a ha=>by
     rcases TS.mp ha with rfl|ha
     .exact .head _
     .exact .tail _ (UE.mp ha).1
    refine⟨by rw[hscope];exact k1,by rw[henv];rfl,by rw[henv];rfl,.head _,fun a ha=>?_,fun a ha=>?_,fun x y cc hx hy=>?_,fun x cc hx=>?_,fun x cc hx=>?_,_,hns,fun x sl hsl=>?_⟩
    . have μ:=jI (h':=s.heap) (C:=C) (a:=a) I (hLall a (hsub a ha));refine⟨fun q=>?_,fun p hp q=>?_,?_⟩
      . exact absurd (I.lt q) (by
         rcases TS.mp (hsub a ha)with rfl|hb
         .exact Vd.mpr hfresh
         .refine ae (Uw.mp hb) ?_;rintro p hp rfl;exact Vd.mpr (TX (Ts hfresh (habove p.1 p.2 hp))))
      .have:=I.z p hp;rw[q,hLall a (hsub a ha)]at this;cases this
      .cases q:C.h₀.get? a with|none=>rfl|some o=>have:=I.base a o q;rw[hLall a (hsub a ha)]at this;cases this
    . rcases TS.mp ha with rfl|ha
      .refine aW (hns) ?_;rintro o _ _ e _;exact⟨o,e⟩
      .exact Vx.mp (UE.mp ha).2
    .exact name_of_addr hapart (mem_of_lookup hx) (mem_of_lookup hy)
    .exact Vb (habove x cc (mem_of_lookup hx))
    .refine⟨fun q=>?_,cellHere x cc hx⟩;have:=I.lt q;exact absurd (VH (Ts hfresh (habove x cc (mem_of_lookup hx))) this) (UN _)
    . unfold tw at hsl;obtain⟨k,hk,rfl⟩:=mZ (α:=Nat) (β:=Nat) (f:=id) (k:=.local) (g:=fun y k=>match k with
       |.local=>.v ((fd.params.zip (args++rs)).lookup y)
       |.cell=>.cv ((fd.params.zip (args++rs)).lookup y)
       |_=>.g) hsl
      have hkx:env.kindOf x=some k:=(hkind x).trans hk;obtain⟨z1,z2⟩:=qZ (x:=x) (ps:=fd.params) rall;have nd:((fd.params.zip (vals++rv)).map (·.1)).Nodup:=by rw[hkeys];exact F.pnodup
      have memc:∀cc,env.cells.lookup x=some cc->cc∈(env.locals::(env.cells.map (·.2)).filter fun cc=>(h'.get? cc).isSome):=fun cc hc=>by refine .tail _ (UE.mpr ⟨Uw.mpr ⟨_,mem_of_lookup hc,rfl⟩,?_⟩);obtain⟨o,e⟩:=cellHere x cc hc;rw[e];rfl
      have hmem:=UI.mp k4 (x,k) (mem_of_lookup hk);cases k with
      |«local»=>
       have bl:=wn (x:=x) hkx (fd.params.zip (vals++rv)) (fun _=>none) nd;cases q:(fd.params.zip (args++rs)).lookup x with
       |some v=>obtain⟨val,w1,w2⟩:=z1 v q;rw[w1]at bl;exact⟨val,w2,hkx,bl⟩
       |none=>exact hkx
      |cell=>
       obtain⟨cc,hcc⟩:=Vx.mp (cellsFrom_some (x:=x) fd.scope.names (s.heap.objs.size+1) [] (.inl hk));have hcc:env.cells.lookup x=some cc:=by rw[henv];exact hcc
       have bc:=wo (x:=x) (kindOf:=env.kindOf) (by rw[hkx];decide) (fd.params.zip (vals++rv)) (fun _=>none) nd;have hv:=hcell x cc hcc;rw[bc]at hv;cases q:(fd.params.zip (args++rs)).lookup x with
       |some v=>obtain⟨val,w1,w2⟩:=z1 v q;rw[w1]at hv;exact⟨val,w2,hkx,cc,hcc,memc cc hcc,hv⟩
       |none=>exact⟨hkx,cc,_,hcc,memc cc hcc,hv⟩
      |globalImplicit=>exact hkx
      |_=>cases hmem
   refine B.run he (hR.deeper env) I1 V1 fun fl loc' J₁ a' hend O' s' fv RX I' V' hfl=>?_;have RR:al O O' s s':=R1.thenX RX fun a ha=>hLall a (by
    rcases TS.mp ha with rfl|ha
    .exact .head _
    .exact .tail _ (UE.mp ha).1)
   cases fl with
   |ret x=>obtain⟨rfl,rfl⟩:=hend;obtain⟨val,rfl,hv⟩:=hfl;exact P O' s' val RR I' hv
   |next=>obtain⟨rfl,rfl⟩:=hend;have:fv=.next:=hfl;subst this;exact P O' s' .none RR I' (by simp only[ac])
   |_=>exact False.elim hend
 .cases hb
mutual
theorem ac.cut{C:Ctx}{l:List Addr}{l':List Addr}{Z:List (Addr×Obj)}:∀(x:V) {v:Value},fG l.length x=true->ac C ⟨l++l',Z⟩ x v->ac C ⟨l,Z⟩ x v
 |.ref k,v,h,r=>by
  simp only[ac]at r ⊢;refine ae (r) ?_;rintro a e q;exact⟨a,e,(TL (TH h)).symm.trans q⟩
 |.inst c k,v,h,r=>by
  simp only[ac]at r ⊢;refine gg (r) ?_;rintro x dx K e h1 h2 q;exact⟨x,dx,K,e,h1,h2,(TL (TH h)).symm.trans q⟩
 |.tup xs,v,h,r=>by
  simp only[ac]at r ⊢;refine bt (r) ?_;rintro a vals n e h1 q;exact⟨a,vals,n,e,h1,VRelL.cut xs h q⟩
 |.lst xs,v,h,r=>by
  simp only[ac]at r ⊢;refine bt (r) ?_;rintro a vals n e h1 q;exact⟨a,vals,n,e,h1,VRelL.cut xs h q⟩
 |.none,v,h,r=>r
 |.bool _,v,h,r=>r
 |.int _,v,h,r=>r
 |.str _,v,h,r=>r
 |.rng _ _,v,h,r=>by simp only[ac]at r ⊢;exact r
 |.fn _ _,v,h,r=>r
 |.cls _,v,h,r=>r
 |.bi _,v,h,r=>r
 |.ty _,v,h,r=>r
 |.jd _,v,h,r=>by simp only[ac]at r ⊢;exact r
theorem VRelL.cut{C:Ctx}{l:List Addr}{l':List Addr}{Z:List (Addr×Obj)}:∀(xs:List V) {vs:List Value},refsL l.length xs=true->VRelL C ⟨l++l',Z⟩ xs vs->VRelL C ⟨l,Z⟩ xs vs
 |[],vs,h,r=>r
 |x::xs,vs,h,r=>by simp only[VRelL]at r ⊢;refine cW (r) ?_;rintro v w e h1 h2;have h:(fG l.length x&&refsL l.length xs)=true:=h;rw[TC]at h;exact⟨v,w,e,ac.cut x h.1 h1,VRelL.cut xs h.2 h2⟩
end
theorem GR{C:Ctx}{l l':List Addr}{Z:List (Addr×Obj)}{xs:List V}{vs:List Value}(h:refsL l.length xs=true)(r:ai (ac C ⟨l++l',Z⟩) xs vs):ai (ac C ⟨l,Z⟩) xs vs:=aL.mp (VRelL.cut xs h (aL.mpr r))
theorem CG{C:Ctx}{l l':List Addr}{Z:List (Addr×Obj)}{es:List (Str×V)}{ents:List DictEntry}(t:ai (ft C ⟨l++l',Z⟩) es ents):refsL l.length (es.map (·.2))=true->ai (ft C ⟨l,Z⟩) es ents:=by
 induction t with
 |nil=>exact fun _=>.nil
 |@cons p e es ents h _ ih=>intro q;have q:(fG l.length p.2&&refsL l.length (es.map (·.2)))=true:=q;rw[TC]at q;exact .cons ⟨h.1,h.2.1,ac.cut _ q.1 h.2.2⟩ (ih q.2)
theorem AJ{C:Ctx}{l l':List Addr}{Z:List (Addr×Obj)}{es:List (V×V)}{ents:List (List AK×Addr×Value)}(t:ai (iY C ⟨l++l',Z⟩) es ents):refsL l.length (es.map (·.1))=true->refsL l.length (es.map (·.2))=true->ai (iY C ⟨l,Z⟩) es ents:=by
 induction t with
 |nil=>exact fun _ _=>.nil
 |@cons p e es ents h _ ih=>intro q w;have q:(fG l.length p.1&&refsL l.length (es.map (·.1)))=true:=q;have w:(fG l.length p.2&&refsL l.length (es.map (·.2)))=true:=w;rw[TC]at q w;exact .cons ⟨h.1,ac.cut _ q.1 h.2.1,ac.cut _ w.1 h.2.2⟩ (ih q.2 w.2)
theorem nY.cut{C:Ctx}{l l':List Addr}{Z:List (Addr×Obj)}{c:ab}{o:Obj}(h:cg l.length c=true)(r:nY C ⟨l++l',Z⟩ c o):nY C ⟨l,Z⟩ c o:=by
 cases c with
 |list xs=>refine bw (r) ?_;rintro vals n e t;exact⟨vals,n,e,GR h t⟩
 |dict es=>refine cW (r) ?_;rintro ents n e t q;exact⟨ents,n,e,CG t h,q⟩
 |tdict es=>refine cW (r) ?_;rintro ents n e t nd;have h:(refsL l.length (es.map (·.1))&&refsL l.length (es.map (·.2)))=true:=h;rw[TC]at h;exact⟨ents,n,e,AJ t h.1 h.2,nd⟩
theorem Pb{C:Ctx}{O O':Map}{J s1 s2:Hp}{s s':Shared}{h:Heap}{v:V}{val:Value}(I0:au C O J h)(g:OW J.length v s1 s2)(R:al O O' s s')(I:au C O' s1 s'.heap)(r:ac C O' v val):
 ∃O'',al O O'' s s'/\au C O'' s2 s'.heap/\ac C O'' v val:=by
 rcases g with rfl|⟨rfl,g1,g2⟩
 .exact⟨O',R,I,r⟩
 . obtain⟨am,Z⟩:=O';obtain⟨l',e⟩:=R.le.pre;have e:am=O.am++l':=e;subst e;have hl:=I0.len;rw[<-hl]at g1 g2 ⊢;refine⟨⟨O.am,Z⟩,⟨⟨⟨[],by simp⟩,R.le.sub⟩,R.keep,fun a h1 h2=>absurd h1 h2,R.newZ,R.same⟩,⟨I.base,?_,fun a ha=>I.fresh a (Uu _ ha),(Wf.mp I.nodup).1,fun a ha=>I.low a (Uu _ ha),I.z₀,I.z,fun p hp hm=>I.zam p hp (Uu _ hm),fun n c a e1 e2=>?_⟩,ac.cut v g1 r⟩
   .have:=I.len;simp at this;simp;lia
   . have hn:n<O.am.length:=(Tr.mp e2).1;have e3:s1[n]?=some c:=by rw[List.getElem?_take]at e1;rw[if_pos hn]at e1;exact e1
     refine ae (I.cell n c a e3 (by show(O.am++l')[n]?=_;rw[TL hn];exact e2)) ?_;rintro o ho hc;exact⟨o,ho,hc.cut (UI.mp g2 c (TZ e1))⟩
theorem Pc(K:aU C)(TO:cM C T)(B:∀(cs:aG) (d:Nat),iZ C cs d->∀ss,gh C T mt cs d ss)(d:Nat):iZ C (mv T mt d) d:=by
 induction d with
 |zero=>exact fun e=>False.elim e
 |succ d ih=>intro A c m f args kw J J' r O s vals kwp R e hf hR I ra rk P;refine xq (e) ?_;rintro fd binds an s1 hfd hb e g;refine Pa K (TO.fns c m fd hfd) hf (B _ d ih fd.body) hb e hR I ra rk fun O' s' v R' I' r'=>?_;refine cG (Pb I g R' I' r') ?_;rintro O'' R2 I2 r2;exact P O'' s' v R2 I2 r2
end
structure aH(C:Ctx)(T:Tab)(mt:Pos->Bool)(cs:aG)(d:Nat)(e:Expr):Prop where
 run:∀{A:Around}{L:List Addr}{env:Env}{loc:Loc}{J:Hp}{a:An}{k:KQ}{O:Map}{s:Shared}{Q:Value->Shared->Prop}{E:Value->Shared->Prop},
  bu T mt cs e loc J a k->dp A d->au C O J s.heap->aP C L O env loc s.heap->(∀v J' a',k v J' a'->eM C O s J' v Q)->wpAny (M C) A (eval e env) Q E s
 ad:∀{loc:Loc}{J:Hp}{a:An}{k:KQ},bu T mt cs e loc J a k->∃v J' a',k v J' a'
noncomputable def tG(C:Ctx)(O:Map)(s:Shared)(J':Hp)(b:Bool)(Q:Bool->Shared->Prop):Prop:=∀O' s',al O O' s s'->au C O' J' s'.heap->Q b s'
noncomputable def p7(C:Ctx)(O:Map)(s:Shared)(J':Hp)(v:V)(Q:Bool->Shared->Prop):Prop:=∃b,bR J' v=some b/\tG C O s J' b Q
noncomputable def Pd(C:Ctx)(O:Map)(s:Shared)(J':Hp)(rs:List V)(Q:List Value->Shared->Prop):Prop:=∀O' s' vs,al O O' s s'->au C O' J' s'.heap->ai (ac C O') rs vs->Q vs s'
structure fw(C:Ctx)(T:Tab)(mt:Pos->Bool)(cs:aG)(d:Nat)(e:Expr):Prop where
 run:∀{A:Around}{L:List Addr}{env:Env}{loc:Loc}{J:Hp}{a:An}{k:KQ}{O:Map}{s:Shared}{Q:Bool->Shared->Prop}{E:Value->Shared->Prop},
  bu T mt cs e loc J a k->dp A d->au C O J s.heap->aP C L O env loc s.heap->(∀v J' a',k v J' a'->p7 C O s J' v Q)->wpAny (M C) A (isTrue e env (eval e env)) Q E s
structure eu(C:Ctx)(T:Tab)(mt:Pos->Bool)(cs:aG)(d:Nat)(e:Expr):Prop where
 run:∀{A:Around}{L:List Addr}{env:Env}{loc:Loc}{J:Hp}{a:An}{k:KL}{v:V}{val:Value}{O:Map}{s:Shared}{Q:Unit->Shared->Prop}{E:Value->Shared->Prop},
  runA T mt cs e v loc J a k->ac C O v val->dp A d->au C O J s.heap->aP C L O env loc s.heap->(∀l J' a',k l J' a'->my C L O s J' env l (Q ()))->wpAny (M C) A (assign e env val) Q E s
structure cO(C:Ctx)(T:Tab)(mt:Pos->Bool)(cs:aG)(d:Nat)(es:List Expr):Prop where
 items:∀{A:Around}{L:List Addr}{env:Env}{loc:Loc}{J:Hp}{a:An}{k:List V->Hp->An->Prop}{O:Map}{s:Shared}{pos:Pos}{Q:List Value->Shared->Prop}{E:Value->Shared->Prop},
  runEs T mt cs es loc J a k->dp A d->au C O J s.heap->aP C L O env loc s.heap->(∀rs J' a',k rs J' a'->Pd C O s J' rs Q)->wpAny (M C) A (spliced (backTo pos (starEach es env))) Q E s
 pairs:∀{A:Around}{L:List Addr}{env:Env}{loc:Loc}{J:Hp}{a:An}{k:List V->Hp->An->Prop}{keys:List (Option Expr)}{ks:List Str}{O:Map}{s:Shared}{pos:Pos}{Q:List (Value×Value)->Shared->Prop}{E:Value->Shared->Prop},
  runEs T mt cs es loc J a k->keys.mapM g0=some ks->ks.length=es.length->dp A d->au C O J s.heap->aP C L O env loc s.heap ->
  (∀rs J' a',k rs J' a'->∀O' s' ps,al O O' s s'->au C O' J' s'.heap->ai (fun p q=>mP p.1 q.1/\ac C O' p.2 q.2) (ks.zip rs) ps->Q ps s')->wpAny (M C) A (evalPairs (pairTrees keys es env pos)) Q E s
 bool:∀{A:Around}{L:List Addr}{env:Env}{loc:Loc}{J:Hp}{a:An}{k:KQ}{op:BoolOp}{O:Map}{s:Shared}{pos:Pos}{Q:Value->Shared->Prop}{E:Value->Shared->Prop},
  runB T mt cs op es loc J a k->dp A d->au C O J s.heap->aP C L O env loc s.heap->(∀v J' a',k v J' a'->eM C O s J' v Q)->wpAny (M C) A (boolOp pos op (evalEach es env)) Q E s
 all:∀{A:Around}{L:List Addr}{env:Env}{loc:Loc}{J:Hp}{a:An}{k:KQ}{op:BoolOp}{O:Map}{s:Shared}{Q:Bool->Shared->Prop}{E:Value->Shared->Prop},
  runB T mt cs op es loc J a k->dp A d->au C O J s.heap->aP C L O env loc s.heap->(∀v J' a',k v J' a'->p7 C O s J' v Q)->wpAny (M C) A (allTrue op es env) Q E s
 chain:∀{A:Around}{L:List Addr}{env:Env}{loc:Loc}{J:Hp}{a:An}{k:KQ}{x:V}{va:Value}{ops:List CmpOp}{O:Map}{s:Shared}{pos:Pos}{Q:Value->Shared->Prop}{E:Value->Shared->Prop},
  runC T mt cs x ops es loc J a k->ac C O x va->dp A d->au C O J s.heap->aP C L O env loc s.heap->(∀v J' a',k v J' a'->eM C O s J' v Q)->wpAny (M C) A (compareChain pos va ops (markedEach ops es (evalEach es env))) Q E s
 tchain:∀{A:Around}{L:List Addr}{env:Env}{loc:Loc}{J:Hp}{a:An}{k:KQ}{x:V}{va:Value}{ops:List CmpOp}{O:Map}{s:Shared}{pos:Pos}{Q:Bool->Shared->Prop}{E:Value->Shared->Prop},
  runC T mt cs x ops es loc J a k->ac C O x va->dp A d->au C O J s.heap->aP C L O env loc s.heap->(∀v J' a',k v J' a'->p7 C O s J' v Q)->wpAny (M C) A (testChain pos va ops (markedEach ops es (evalEach es env))) Q E s
 tests:∀{A:Around}{L:List Addr}{env:Env}{loc:Loc}{J:Hp}{a:An}{k:Bool->Hp->An->Prop}{O:Map}{s:Shared}{Q:Bool->Shared->Prop}{E:Value->Shared->Prop},
  runT T mt cs es loc J a k->dp A d->au C O J s.heap->aP C L O env loc s.heap->(∀b J' a',k b J' a'->tG C O s J' b Q) ->
  wpAny (M C) A (forIn es true fun c r=>if r=true then do let ok<-isTrue c env (eval c env);pure (ForInStep.yield ok)else pure (ForInStep.yield r)) Q E s
 adE:∀{loc:Loc}{J:Hp}{a:An}{k:List V->Hp->An->Prop},runEs T mt cs es loc J a k->∃v J' a',k v J' a'
 adB:∀{op:BoolOp}{loc:Loc}{J:Hp}{a:An}{k:KQ},runB T mt cs op es loc J a k->∃v J' a',k v J' a'
 adC:∀{x:V}{ops:List CmpOp}{loc:Loc}{J:Hp}{a:An}{k:KQ},runC T mt cs x ops es loc J a k->∃v J' a',k v J' a'
noncomputable def kwN(ks:List Keyword):List Str:=ks.filterMap (·.arg)
structure mA(C:Ctx)(T:Tab)(mt:Pos->Bool)(cs:aG)(d:Nat)(ks:List Keyword):Prop where
 run:∀{A:Around}{L:List Addr}{env:Env}{loc:Loc}{J:Hp}{a:An}{k:List (Str×V)->Hp->An->Prop}{O:Map}{s:Shared}{pos:Pos}{Q:List Value->Shared->Prop}{E:Value->Shared->Prop},
  runK T mt cs ks loc J a k->dp A d->au C O J s.heap->aP C L O env loc s.heap ->
  (∀rs J' a',k rs J' a'->∀O' s' vs,al O O' s s'->au C O' J' s'.heap->ai (Kv C O') rs ((kwN ks).zip vs)->Q vs s')->wpAny (M C) A (evalAll ((backToKw pos (keywordEach ks env)).map (·.2))) Q E s
 ad:∀{loc:Loc}{J:Hp}{a:An}{k:List (Str×V)->Hp->An->Prop},runK T mt cs ks loc J a k->∃v J' a',k v J' a'
structure jL(C:Ctx)(T:Tab)(mt:Pos->Bool)(cs:aG)(d:Nat)(o:Option Expr):Prop where
 run:∀{A:Around}{L:List Addr}{env:Env}{loc:Loc}{J:Hp}{a:An}{k:KQ}{O:Map}{s:Shared}{Q:Value->Shared->Prop}{E:Value->Shared->Prop},
  runP T mt cs o loc J a k->dp A d->au C O J s.heap->aP C L O env loc s.heap->(∀v J' a',k v J' a'->eM C O s J' v Q)->wpAny (M C) A (valueOrNone (evalOpt o env)) Q E s
 ad:∀{loc:Loc}{J:Hp}{a:An}{k:KQ},runP T mt cs o loc J a k->∃v J' a',k v J' a'
section
variable{C:Ctx}{T:Tab}{mt:Pos->Bool}{cs:aG}{d:Nat}
theorem tG.after{O O':Map}{s s':Shared}{J':Hp}{b:Bool}{Q:Bool->Shared->Prop}(R:al O O' s s')(P:tG C O s J' b Q):tG C O' s' J' b Q:=fun O'' s'' R' I'=>P O'' s'' (R.trans R') I'
theorem p7.after{O O':Map}{s s':Shared}{J':Hp}{v:V}{Q:Bool->Shared->Prop}(R:al O O' s s')(P:p7 C O s J' v Q):p7 C O' s' J' v Q:=P.elim fun b h=>⟨b,h.1,h.2.after R⟩
theorem p7.at{O:Map}{s:Shared}{J':Hp}{v:V}{b:Bool}{Q:Bool->Shared->Prop}(P:p7 C O s J' v Q)(h:bR J' v=some b):tG C O s J' b Q:=P.elim fun c q=>by have:c=b:=Tp (q.1.symm.trans h);exact this▸q.2
theorem fJ{e:Expr}(h:aH C T mt cs d e)(he:∀env whole,isTrue e env whole=(do let v<-whole;standAt e.pos;holding [v] (truthy v))):fw C T mt cs d e:=by refine⟨fun e1 R I W P=>?_⟩;refine isTrue_plain (h.run e1 R I W fun v J' a' hk O' s' val R' I' r=>?_) (he _ _);refine ae (P _ _ _ hk) ?_;rintro b e2 P;exact qU I' e2 r fun t=>P O' _ (R'.trans (al.toks _ _ t)) I'
theorem d0{e:Expr}(h:∀v loc J a k,runA T mt cs e v loc J a k->False):eu C T mt cs d e:=⟨fun e1=>(h _ _ _ _ _ e1).elim⟩
theorem CH(c:Const)(k:_)(p:Pos):aH C T mt cs d (.Constant c k p):=by
 have key:∀{loc:Loc}{J:Hp}{a:An}{k1:KQ},bu T mt cs (.Constant c k p) loc J a k1->∃v,qJ c=some v/\k1 v J a:=fun{loc J a k1} h=>by
  have h:(match qJ c with|some v=>k1 v J a|Option.none=>False):=h;cases q:qJ c with|none=>rw[q]at h;exact h.elim|some v=>rw[q]at h;exact⟨v,rfl,h⟩
 exact⟨fun e R I W P=>(key e).elim fun v h=>Cz I h.1 (P _ _ _ h.2),fun e=>(key e).elim fun v h=>⟨_,_,_,h.2⟩⟩
theorem oa{x:Str}{loc:Loc}{P:V->Prop}(h:match pU T loc x with|some v=>P v|Option.none=>False):∃v,pU T loc x=some v/\P v:=by
 cases q:pU T loc x with|none=>rw[q]at h;exact h.elim|some v=>rw[q]at h;exact⟨v,rfl,h⟩
theorem GS(K:aU C)(TO:cM C T)(x:Str)(p:Pos):aH C T mt cs d (.Name x p):=by
 refine⟨fun{A L env loc J a k O s Q E} e R I W P=>?_,fun{loc J a k} e=>?_⟩
 .refine ae (oa (P:=fun v=>k v J a) e) ?_;rintro v hv h;exact ul K TO I W hv fun v r=>(P _ _ _ h).here I r
 .refine ae (oa (P:=fun v=>k v J a) e) ?_;rintro v hv h;exact⟨_,_,_,h⟩
theorem CI(K:aU C){l r:Expr}{op:Operator}{p:Pos}(hl:aH C T mt cs d l)(hr:aH C T mt cs d r):aH C T mt cs d (.BinOp l op r p):=by
 refine⟨fun h R I W P=>?_,fun h=>?_⟩
 .refine wpAny_BinOp (hl.run h R I W fun v1 J1 a1 h1 O1 s1 a R1 I1 r1=>hr.run h1 R I1 (W.keeps R1) fun v2 J2 a2 h2 O2 s2 b R2 I2 r2=>?_);refine aW (gr h2) ?_;rintro x J3 r e hk;exact Ls K I2 e (ac.mono R2.le _ r1) r2 ((P _ _ _ hk).after (R1.trans R2))
 .refine bp (hl.ad h) ?_;rintro _ _ _ h;refine bp (hr.ad h) ?_;rintro _ _ _ h;refine aW (gr h) ?_;rintro _ _ _ _ h;exact⟨_,_,_,h⟩
theorem GT{x:Expr}{op:UnaryOp}{p:Pos}(hx:aH C T mt cs d x):aH C T mt cs d (.UnaryOp op x p):=by
 refine⟨fun h R I W P=>?_,fun h=>?_⟩
 .refine wpAny_UnaryOp (hx.run h R I W fun v1 J1 a1 h1 O1 s1 a R1 I1 r1=>?_);refine bw (jJ h1) ?_;rintro v r e hk;exact O5 I1 e r1 ((P _ _ _ hk).after R1)
 .refine bp (hx.ad h) ?_;rintro _ _ _ h;refine bw (jJ h) ?_;rintro _ _ _ h;exact⟨_,_,_,h⟩
theorem CJ{x:Expr}{p:Pos}(hx:fw C T mt cs d x):fw C T mt cs d (.UnaryOp .Not x p):=by refine⟨fun h R I W P=>?_⟩;show wpAny _ _ (do return !(<-isTrue x _ (eval x _))) _ _ _;refine Tt (hx.run h R I W fun v J' a' h=>?_);refine bw (jJ h) ?_;rintro w r e hk;refine ae (TU.mp e) ?_;rintro b hb rfl;exact⟨b,hb,fun O' s' R' I'=>TN ((P _ _ _ hk).at rfl O' s' R' I')⟩
theorem AL{op:BoolOp}{es:List Expr}{p:Pos}(h:cO C T mt cs d es):aH C T mt cs d (.BoolOp op es p):=⟨fun e R I W P=>h.bool e R I W P,fun e=>h.adB e⟩
theorem wp{op:BoolOp}{es:List Expr}{p:Pos}(h:cO C T mt cs d es):fw C T mt cs d (.BoolOp op es p):=⟨fun e R I W P=>h.all e R I W P⟩
theorem CK{t b o:Expr}{p:Pos}(ht:fw C T mt cs d t)(ht':aH C T mt cs d t)(hb:aH C T mt cs d b)(ho:aH C T mt cs d o):aH C T mt cs d (.IfExp t b o p):=by
 refine⟨fun h R I W P=>?_,fun h=>?_⟩
 . refine wpAny_IfExp (ht.run h R I W fun v J' a' h=>?_);refine cG (iO h) ?_;rintro c hc h1 h2;refine⟨c,hc,fun O1 s1 R1 I1=>?_⟩;cases c with
   |true=>exact(h1 rfl).elim fun r h=>hb.run h R I1 (W.keeps R1) fun v J a hk=>(P v J a hk).after R1
   |false=>exact(h2 rfl).elim fun r h=>ho.run h R I1 (W.keeps R1) fun v J a hk=>(P v J a hk).after R1
 . refine bp (ht'.ad h) ?_;rintro _ _ _ h;refine cG (iO h) ?_;rintro c hc h1 h2;cases c with
   |true=>exact(h1 rfl).elim fun r h=>hb.ad h
   |false=>exact(h2 rfl).elim fun r h=>ho.ad h
theorem xI{t b o:Expr}{p:Pos}(ht:fw C T mt cs d t)(hb:fw C T mt cs d b)(ho:fw C T mt cs d o):fw C T mt cs d (.IfExp t b o p):=by
 refine⟨fun{A L env loc J a k O s Q E} h R I W P=>?_⟩;show wpAny _ _ (do if<-isTrue t env (eval t env)then isTrue b env (eval b env)else isTrue o env (eval o env)) _ _ _;refine Tt (ht.run h R I W fun v J' a' h=>?_);refine cG (iO h) ?_;rintro c hc h1 h2;refine⟨c,hc,fun O1 s1 R1 I1=>?_⟩;cases c with
 |true=>exact(h1 rfl).elim fun r h=>hb.run h R I1 (W.keeps R1) fun v J a hk=>(P v J a hk).after R1
 |false=>exact(h2 rfl).elim fun r h=>ho.run h R I1 (W.keeps R1) fun v J a hk=>(P v J a hk).after R1
theorem GU(K:aU C){es:List Expr}{p:Pos}(h:cO C T mt cs d es):aH C T mt cs d (.List es p) :=
 ⟨fun e R I W P=>List_ (h.items e R I W fun rs J1 a1 h1 O1 s1 vals R1 I1 r1=>xz K I1 r1 h1.1 rfl ((P _ _ _ h1.2).after R1)),fun e=>by
  refine bp (h.adE e) ?_;rintro _ _ _ h;exact⟨_,_,_,h.2⟩⟩
theorem CL{es:List Expr}{k:Nat}{p:Pos}(h:cO C T mt cs d es):aH C T mt cs d (.Tuple es k p) :=
 ⟨fun e R I W P=>Tuple_ (h.items e R I W fun rs J1 a1 h1 O1 s1 vals R1 I1 r1=>we I1 r1 h1.1 ((P _ _ _ h1.2).after R1)),fun e=>by
  refine bp (h.adE e) ?_;rintro _ _ _ h;exact⟨_,_,_,h.2⟩⟩
theorem xJ{l:Expr}{ops:List CmpOp}{rs:List Expr}{p:Pos}(hl:aH C T mt cs d l)(h:cO C T mt cs d rs):aH C T mt cs d (.Compare l ops rs p):=by
 refine⟨fun{A L env loc J a k O s Q E} e R I W P=>?_,fun e=>?_⟩
 .show wpAny _ _ (do compareChain p (<-eval l env) ops (markedEach ops rs (evalEach rs env))) _ _ _;exact Tt (hl.run e R I W fun v1 J1 a1 h1 O1 s1 a R1 I1 r1=>h.chain h1 r1 R I1 (W.keeps R1) fun v J a hk=>(P v J a hk).after R1)
 .refine bp (hl.ad e) ?_;rintro _ _ _ e;exact h.adC e
theorem uq{l:Expr}{ops:List CmpOp}{rs:List Expr}{p:Pos}(hl:aH C T mt cs d l)(h:cO C T mt cs d rs):fw C T mt cs d (.Compare l ops rs p):=by refine⟨fun{A L env loc J a k O s Q E} e R I W P=>?_⟩;show wpAny _ _ (do testChain p (<-eval l env) ops (markedEach ops rs (evalEach rs env))) _ _ _;exact Tt (hl.run e R I W fun v1 J1 a1 h1 O1 s1 a R1 I1 r1=>h.tchain h1 r1 R I1 (W.keeps R1) fun v J a hk=>(P v J a hk).after R1)
theorem zm{o:Expr}{a:Str}{env:Env}{whole:Sem Value}(h:xo o=true):attributeBase o a env whole=whole:=by
 cases o with
 |Call f as ks p=>cases f with
  |Name n q=>cases as with
   |nil=>cases ks with
    |nil=>exact Bool.noConfusion h
    |cons _ _=>rfl
   |cons _ _=>rfl
  |_=>rfl
 |_=>rfl
theorem GV(K:aU C)(TO:cM C T){o:Expr}{a:Str}{p:Pos}(ho:aH C T mt cs d o):aH C T mt cs d (.Attribute o a p):=by
 refine⟨fun{A L env loc J an k O s Q E} e R I W P=>?_,fun e=>?_⟩
 . obtain⟨hbo,e⟩:=e;show wpAny _ _ (do
    let o'<-attributeBase o a env (eval o env)
    standAt p.atName
    let r<-holding [o'] (getAttr o' a true)
    letTemporaryGo o o' r
    pure r) _ _ _
   rw[zm hbo];refine Tt (ho.run e R I W fun v1 J1 a1 h1 O1 s1 a R1 I1 r1=>Tt (Vf (Tt (Uy ?_))));refine bw (jJ h1) ?_;rintro v r hv hk;exact Lu K TO I1 hv r1 fun O2 s2 v R2 I2 r2=>Tt (wpAny_letTemporaryGo (TN (P _ _ _ hk O2 s2 v (R1.trans R2) I2 r2)))
 .refine bp (ho.ad e.2) ?_;rintro _ _ _ h;refine bw (jJ h) ?_;rintro _ _ _ h;exact⟨_,_,_,h⟩
theorem zo(slice:Expr)(o i:Value):∃ops,subscripted slice false o i=operate ops (getItem o i):=by
 cases slice with|Slice a b c p=>cases c<;>exact⟨_,rfl⟩|_=>exact⟨_,rfl⟩
theorem CM{o i:Expr}{p:Pos}(ho:aH C T mt cs d o)(hi:aH C T mt cs d i)(hn:∀loc J a k,bu T mt cs (.Subscript o i p) loc J a k->bu T mt cs o loc J a fun ov J a=>bu T mt cs i loc J a fun iv J a=>qK (af J ov iv) a fun v a=>k v J a):aH C T mt cs d (.Subscript o i p):=by
 refine⟨fun e R I W P=>?_,fun e=>?_⟩
 .refine Subscript_ (ho.run (hn _ _ _ _ e) R I W fun v1 J1 a1 h1 O1 s1 a R1 I1 r1=>hi.run h1 R I1 (W.keeps R1) fun v2 J2 a2 h2 O2 s2 b R2 I2 r2=>?_);refine bw (jJ h2) ?_;rintro v r hv hk;exact CA I2 hv (ac.mono R2.le _ r1) r2 (by have:=R.units;exact ar1 [_,_] [] 0 13159489613865620588814655427349256934960 this art) (zo _ _ _) ((P _ _ _ hk).after (R1.trans R2))
 .refine bp (ho.ad (hn _ _ _ _ e)) ?_;rintro _ _ _ h;refine bp (hi.ad h) ?_;rintro _ _ _ h;refine bw (jJ h) ?_;rintro _ _ _ h;exact⟨_,_,_,h⟩
theorem CN(K:aU C){o:Expr}{lo hi st:Option Expr}{p q:Pos}(ho:aH C T mt cs d o)(hl:jL C T mt cs d lo)(hu:jL C T mt cs d hi)(hs:jL C T mt cs d st):aH C T mt cs d (.Subscript o (.Slice lo hi st q) p):=by
 refine⟨fun{A L env loc J a k O s Q E} e R I W P=>?_,fun e=>?_⟩
 . refine Subscript_ (ho.run e R I W fun v1 J1 a1 h1 O1 s1 a R1 I1 r1=>?_);show wpAny _ _ (do
    let l<-valueOrNone (evalOpt lo env)
    let u<-holding [l] (valueOrNone (evalOpt hi env))
    let s<-holding [l,u] (valueOrNone (evalOpt st env))
    newFields "slice" [l,u,s]) _ _ _
   refine Tt (hl.run h1 R I1 (W.keeps R1) fun v2 J2 a2 h2 O2 s2 l R2 I2 r2=>Tt (Uy (hu.run h2 R I2 ((W.keeps R1).keeps R2) fun v3 J3 a3 h3 O3 s3 u R3 I3 r3=>Tt (Uy (hs.run h3 R I3 (((W.keeps R1).keeps R2).keeps R3) fun v4 J4 a4 h4 O4 s4 t R4 I4 r4=>?_)))));refine aW (gr h4) ?_;rintro v J5 r e hk;have l2:=R3.le.trans R4.le;exact CC K I4 e (ac.mono (R2.le.trans l2) _ r1) (ac.mono l2 _ r2) (ac.mono R4.le _ r3) r4 (fun x=>zo _ _ _) ((P _ _ _ hk).after (R1.trans (R2.trans (R3.trans R4))))
 .refine bp (ho.ad e) ?_;rintro _ _ _ h;refine bp (hl.ad h) ?_;rintro _ _ _ h;refine bp (hu.ad h) ?_;rintro _ _ _ h;refine bp (hs.ad h) ?_;rintro _ _ _ h;refine aW (gr h) ?_;rintro _ _ _ _ h;exact⟨_,_,_,h⟩
theorem AN:jL C T mt cs d none:=⟨fun e R I W P=>TN ((P _ _ _ e).here I (by simp only[ac])),fun e=>⟨_,_,_,e⟩⟩
theorem AO{e:Expr}(h:aH C T mt cs d e):jL C T mt cs d (some e):=⟨fun e1 R I W P=>h.run e1 R I W P,fun e1=>h.ad e1⟩
theorem ur:mA C T mt cs d []:=⟨fun e R I W P=>kwAll_nil (P _ _ _ e _ _ [] (.refl _ _) I .nil),fun e=>⟨_,_,_,e⟩⟩
theorem CP{n:Str}{e:Expr}{p:Pos}{ks:List Keyword}(h:aH C T mt cs d e)(hk:mA C T mt cs d ks):mA C T mt cs d (⟨some n,e,p⟩::ks):=by
 refine⟨fun e R I W P=>?_,fun e=>?_⟩
 .refine kwAll_cons (h.run e R I W fun v1 J1 a1 h1 O1 s1 a R1 I1 r1=>hk.run h1 R I1 (W.keeps R1) fun rs J2 a2 h2 O2 s2 vs R2 I2 r2=>P _ _ _ h2 _ _ _ (R1.trans R2) I2 ?_);exact .cons ⟨rfl,ac.mono R2.le _ r1⟩ r2
 .refine bp (h.ad e) ?_;rintro _ _ _ h;refine bp (hk.ad h) ?_;rintro _ _ _ h;exact⟨_,_,_,h⟩
theorem CQ{e:Expr}{p:Pos}{ks:List Keyword}:mA C T mt cs d (⟨none,e,p⟩::ks):=⟨fun e=>False.elim e,fun e=>False.elim e⟩
theorem q6{pos:Pos}{env:Env}:∀{ks:List Keyword},ks.all (·.arg.isSome)=true->(backToKw pos (keywordEach ks env)).filterMap (·.1)=kwN ks/\(backToKw pos (keywordEach ks env)).all (·.1.isSome)=true/\(backToKw pos (keywordEach ks env)).any (·.1.isNone)=false
 |[],_=>⟨rfl,rfl,rfl⟩
 |⟨none,_,_⟩::_,h=>nomatch h
 |⟨some n,e,p⟩::ks,h=>by refine eX (q6 (pos:=pos) (env:=env) (ks:=ks) h) ?_;rintro h1 h2 h3;exact⟨Tx (n :: ·) h1,h2,h3⟩
end
section
variable{C:Ctx}{T:Tab}{mt:Pos->Bool}{cs:aG}{d:Nat}
theorem tH{e:Expr}{rest:List Expr}{env:Env}{loc:Loc}{J:Hp}{a:An}{k:KQ}(h:bu T mt cs e loc J a k):starEach (e::rest) env=(false,eval e env)::starEach rest env:=by cases e<;>first|rfl|exact False.elim h
theorem KP{e:Expr}{loc:Loc}{J:Hp}{a:An}{k:KQ}(h:bu T mt cs e loc J a k)(op:CmpOp):behindInMarks op e=false:=by cases e<;>first|rfl|exact False.elim h
theorem tJ{e:Expr}{loc:Loc}{J:Hp}{a:An}{k:KQ}(h:bu T mt cs e loc J a k)(env:Env)(x:Value):foldedSetIterable e env x=pure x:=by cases e<;>first|rfl|exact False.elim h
theorem m6{pos:Pos}{env:Env}:∀{es:List Expr},es.all eV=true->(backTo pos (starEach es env)).any (·.1)=false/\(starEach es env).all (!·.1)=true
 |[],_=>⟨rfl,rfl⟩
 |e::es,h=>by
  have h:(eV e&&es.all eV)=true:=h;rw[TC]at h;have hc:starEach (e::es) env=(false,eval e env)::starEach es env:=by have h1:=h.1;cases e<;>first|rfl|exact absurd h1 TT
  have ih:=m6 (pos:=pos) (env:=env) h.2;rw[hc];exact⟨ih.1,ih.2⟩
theorem p8{A:Around}{env:Env}{s:Shared}{Q:Bool->Shared->Prop}{E:Value->Shared->Prop}(h:Q false s):∀es:List Expr,
 wpAny (M C) A (forIn es false fun c r=>if r=true then do let ok<-isTrue c env (eval c env);pure (ForInStep.yield ok)else pure (ForInStep.yield r)) Q E s
 |[]=>TN h
 |e::es=>by rw[List.forIn_cons];exact Tt (TN (p8 h es))
theorem AQ:cO C T mt cs d []:=by
 refine⟨fun e R I W P=>wpAny_items_nil (P _ _ _ e _ _ [] (.refl _ _) I .nil),fun{A L env loc J a k keys ks O s pos Q E} e hk hl R I W P=>?_,fun e=>False.elim e,fun e=>False.elim e,fun{A L env loc J a k x va ops O s pos Q E} e=>?_,fun{A L env loc J a k x va ops O s pos Q E} e=>?_,fun e R I W P=>TN (P _ _ _ e _ _ (.refl _ _) I),fun e=>⟨_,_,_,e⟩,fun e=>False.elim e,fun{x ops loc J a k} e=>?_⟩
 . have:ks=[]:=Uv.mp hl;subst this;have:keys=[]:=by
    cases keys with|nil=>rfl|cons k r=>rw[List.mapM_cons]at hk;refine ae (TD.mp hk) ?_;rintro _ _ hk;refine ae (TD.mp hk) ?_;rintro _ _ hk;cases hk
   subst this;exact pairTrees_nil_walk (P _ _ _ e _ _ [] (.refl _ _) I .nil)
 .rcases ops with _|⟨op,_|⟨o2,ops⟩⟩<;>exact False.elim e
 .rcases ops with _|⟨op,_|⟨o2,ops⟩⟩<;>exact False.elim e
 .rcases ops with _|⟨op,_|⟨o2,ops⟩⟩<;>exact False.elim e
theorem qa{k:Option Expr}{x:Str}(h:g0 k=some x):∃n p,k=some (.Constant (.str x) n p):=by
 cases k with|none=>exact aC h|some e=>cases e with
  |Constant c n p=>cases c with
   |str s=>exact⟨n,p,by rw[Tp h]⟩
   |_=>exact aC h
  |_=>exact aC h
theorem tL{e:Expr}{env:Env}{loc:Loc}{J:Hp}{an:An}{A:Around}{L:List Addr}{O:Map}{s:Shared}{x:V}{va:Value}{β:Type}{Q:β->Shared->Prop}{E:Value->Shared->Prop}{op:CmpOp}{k1:Bool->V->Hp->An->Prop}{pos:Pos}{z:Value->Value->Sem β}{y:Value->Sem β}(he:aH C T mt cs d e)(h:bu T mt cs e loc J an fun y J a=>GI (bA J op x y) a fun c a=>k1 c y J a)(ra:ac C O x va)(R:dp A d)(I:au C O J s.heap)(W:aP C L O env loc s.heap)(P:∀c yv J' a',k1 c yv J' a'->∀O' s' rv,al O O' s s'->au C O' J' s'.heap->ac C O' yv rv->wpAny (M C) A (if c=true then z (.bool c) rv else y (.bool c)) Q E s'):
 wpAny (M C) A (do
  let rv<-holding [va] (eval e env)
  standAt pos
  let c<-holding [va,rv] (compareOp op va rv)
  release [va,rv] [c]
  if<-holding [c,rv] (truthy c)then z c rv else y c) Q E s:=by
 refine Tt (Uy (he.run h R I W fun v1 J1 a1 h1 O1 s1 rv R1 I1 r1=>Tt (Vf (Tt (Uy ?_)))));refine bw (nZ h1) ?_;rintro c r hc hk;refine xB R.room I1 hc (ac.mono R1.le _ ra) r1 fun t=>Tt (wpAny_release (Tt (Uy (WS ?_))));exact P _ _ _ _ hk O1 _ _ (R1.trans (al.toks _ _ _)) I1 r1
theorem xK{e:Expr}{es:List Expr}(he:aH C T mt cs d e)(ht:fw C T mt cs d e)(hs:cO C T mt cs d es):cO C T mt cs d (e::es):=by
 have adB:∀{op:BoolOp}{loc:Loc}{J:Hp}{a:An}{k:KQ},runB T mt cs op (e::es) loc J a k->∃v J' a',k v J' a':=fun{op loc J a k} h=>by
  cases es with|nil=>exact he.ad h|cons e2 es=>
   refine bp (he.ad h) ?_;rintro v J1 a1 h;obtain⟨b,hb,h1,h2⟩:=o0 (fun _ _ h=>hs.adB h) h;cases q:tx op b with
   |true=>exact(h2 q).elim fun a h=>⟨_,_,_,h⟩
   |false=>refine bw (h1 q) ?_;rintro r k' h3 h4;refine bp (hs.adB h3) ?_;rintro _ _ _ h5;exact(h4 _ _ _ h5).elim fun a h=>⟨_,_,_,h⟩
 have adC:∀{x:V}{ops:List CmpOp}{loc:Loc}{J:Hp}{a:An}{k:KQ},runC T mt cs x ops (e::es) loc J a k->∃v J' a',k v J' a':=fun{x ops loc J a k} h=>by
  clear adB;rcases ops with _|⟨op,_|⟨o2,ops⟩⟩
  .cases es<;>exact False.elim h
  . cases es with
    |nil=>refine bp (he.ad h) ?_;rintro v J1 a1 h;refine bw (nZ h) ?_;rintro _ _ _ h;exact⟨_,_,_,h⟩
    |cons e2 es=>exact False.elim h
  . cases es with|nil=>exact False.elim h|cons e2 es=>
     refine bp (he.ad h) ?_;rintro v J1 a1 h;refine bw (nZ h) ?_;rintro _ _ _ h;obtain⟨b,hb,h1,h2⟩:=o0 (fun _ _ h=>hs.adC h) h;cases q:tx .And b with
     |true=>exact(h2 q).elim fun a h=>⟨_,_,_,h⟩
     |false=>refine bw (h1 q) ?_;rintro r k' h3 h4;refine bp (hs.adC h3) ?_;rintro _ _ _ h5;exact(h4 _ _ _ h5).elim fun a h=>⟨_,_,_,h⟩
 refine⟨fun{A L env loc J a k O s pos Q E} h R I W P=>?_,fun{A L env loc J a k keys ks O s pos Q E} h hk hl R I W P=>?_,fun{A L env loc J a k op O s pos Q E} h R I W P=>?_,fun{A L env loc J a k op O s Q E} h R I W P=>?_,
  fun{A L env loc J a k x va ops O s pos Q E} h ra R I W P=>?_,fun{A L env loc J a k x va ops O s pos Q E} h ra R I W P=>?_,fun{A L env loc J a k O s Q E} h R I W P=>?_,fun h=>?_,adB,adC⟩
 all_goals clear adB adC
 .refine wpAny_items_cons (he.run h R I W fun v1 J1 a1 h1 O1 s1 a R1 I1 r1=>hs.items h1 R I1 (W.keeps R1) fun v2 J2 a2 h2 O2 s2 vs R2 I2 r2=>?_) (tH h);exact P _ _ _ h2 _ _ _ (R1.trans R2) I2 (.cons (ac.mono R2.le _ r1) r2)
 .cases keys with|nil=>cases hk;cases hl|cons key keys=>rw[List.mapM_cons]at hk;refine ae (TD.mp hk) ?_;rintro x hx hk;refine ae (TD.mp hk) ?_;rintro xs hxs hk;cases hk;refine iN (qa hx) ?_;rintro n p rfl;refine pairTrees_cons_walk ?_;show wpAny _ _ (constValue env (.str x)) _ _ _;refine wpAny_mkText ?_;have R0:al O O s { s with toks:=s.toks+1}:=al.toks _ _ _;refine he.run h R I (W.keeps R0) fun v1 J1 a1 h1 O1 s1 a R1 I1 r1=>hs.pairs h1 hxs (Nat.succ.inj hl) R I1 ((W.keeps R0).keeps R1) fun v2 J2 a2 h2 O2 s2 vs R2 I2 r2=>?_;exact P _ _ _ h2 _ _ _ (R0.trans (R1.trans R2)) I2 (.cons ⟨⟨_,rfl⟩,ac.mono R2.le _ r1⟩ r2)
 . cases es with|nil=>exact he.run h R I W P|cons e2 es=>
    show wpAny _ _ (do
     let v<-eval e env
     standAt pos
     let t<-holding [v] (truthy v)
     match op,t with|.And,false|.Or,true=>pure v|_,_=>boolOp pos op (evalEach (e2::es) env)) _ _ _
    refine Tt (he.run h R I W fun v1 J1 a1 h1 O1 s1 a R1 I1 r1=>Tt (Vf (Tt (Uy ?_))));obtain⟨b,hb,h1,h2⟩:=o0 (fun _ _ h=>hs.adB h) h1;refine qU I1 hb r1 fun t=>?_;have Rt:al O O1 s { s1 with toks:=t}:=R1.trans (al.toks _ _ _);have go:tx op b=false->wpAny (M C) A (boolOp pos op (evalEach (e2::es) env)) Q E { s1 with toks:=t}:=fun q=>by refine bw (h1 q) ?_;rintro r k' h3 h4;exact hs.bool h3 R I1 (W.keeps Rt) fun v J a hk=>(h4 _ _ _ hk).elim fun a hk=>(P _ _ _ hk).after Rt
    cases op<;>cases b
    .exact(h2 rfl).elim fun a hk=>TN (P _ _ _ hk _ _ _ Rt I1 r1)
    .exact go rfl
    .exact go rfl
    .exact(h2 rfl).elim fun a hk=>TN (P _ _ _ hk _ _ _ Rt I1 r1)
 . show wpAny _ _ (do
    match op,<-isTrue e env (eval e env)with|.And,false=>pure false|.Or,true=>pure true|_,_=>allTrue op es env) _ _ _
   cases es with
   |nil=>refine Tt (ht.run h R I W fun v J' a' hk=>?_);refine ae (P _ _ _ hk) ?_;rintro b hb P;refine⟨b,hb,fun O1 s1 R1 I1=>?_⟩;cases op<;>cases b<;>exact TN (P _ _ R1 I1)
   |cons e2 es=>
    refine Tt (ht.run h R I W fun v J' a' h1=>?_);obtain⟨b,hb,h1,h2⟩:=o0 (fun _ _ h=>hs.adB h) h1;refine⟨b,hb,fun O1 s1 R1 I1=>?_⟩;have go:tx op b=false->wpAny (M C) A (allTrue op (e2::es) env) Q E s1:=fun q=>by refine bw (h1 q) ?_;rintro r k' h3 h4;exact hs.all h3 R I1 (W.keeps R1) fun v J a hk=>(h4 _ _ _ hk).elim fun a hk=>(P _ _ _ hk).after R1
    cases op<;>cases b
    .exact(h2 rfl).elim fun a hk=>TN ((P _ _ _ hk).at hb _ _ R1 I1)
    .exact go rfl
    .exact go rfl
    .exact(h2 rfl).elim fun a hk=>TN ((P _ _ _ hk).at hb _ _ R1 I1)
 . rcases ops with _|⟨op,_|⟨o2,ops⟩⟩
   .cases es<;>exact False.elim h
   . cases es with
     |nil=>show wpAny _ _ (do let rv<-holding [va] (markedBehindIn op e (eval e env));standAt pos;operate [va,rv] (compareOp op va rv)) _ _ _;rw[markedBehindIn_of_false (KP h op)];refine Tt (Uy (he.run h R I W fun v1 J1 a1 h1 O1 s1 rv R1 I1 r1=>Tt (Vf (wpAny_operate' ?_))));refine bw (nZ h1) ?_;rintro c r hc hk;exact xB R.room I1 hc (ac.mono R1.le _ ra) r1 fun t=>P _ _ _ hk _ _ _ (R1.trans (al.toks _ _ _)) I1 (by simp only[ac])
     |cons e2 es=>exact False.elim h
   . cases es with|nil=>exact False.elim h|cons e2 es=>
      show wpAny (M C) A (do
       let rv<-holding [va] (eval e env)
       standAt pos
       let c<-holding [va,rv] (compareOp op va rv)
       release [va,rv] [c]
       if<-holding [c,rv] (truthy c)then compareChain pos rv (o2::ops) (markedEach (o2::ops) (e2::es) (evalEach (e2::es) env))else pure c) Q E s
      refine tL (z:=fun c rv=>compareChain pos rv (o2::ops) (markedEach (o2::ops) (e2::es) (evalEach (e2::es) env))) (y:=fun c=>pure c) (k1:=fun c y J a=>brB .And (.bool c) J a (fun a k=>runC T mt cs y (o2::ops) (e2::es) loc J a k) k) he h ra R I W fun c yv J' a' hk O' s' rv R' I' r'=>?_;obtain⟨b,hb,h1,h2⟩:=o0 (fun _ _ h=>hs.adC h) hk;cases hb;cases c with
      |true=>refine bw (h1 rfl) ?_;rintro r k' h3 h4;rw[if_pos rfl];exact hs.chain h3 r' R I' (W.keeps R') fun v J a hk=>(h4 _ _ _ hk).elim fun a hk=>(P _ _ _ hk).after R'
      |false=>exact(h2 rfl).elim fun a hk=>TN (P _ _ _ hk _ _ _ R' I' (by simp only[ac]))
 . rcases ops with _|⟨op,_|⟨o2,ops⟩⟩
   .cases es<;>exact False.elim h
   . cases es with
     |nil=>show wpAny _ _ (do let rv<-holding [va] (markedBehindIn op e (eval e env));standAt pos;let c<-operate [va,rv] (compareOp op va rv);holding [c] (truthy c)) _ _ _;rw[markedBehindIn_of_false (KP h op)];refine Tt (Uy (he.run h R I W fun v1 J1 a1 h1 O1 s1 rv R1 I1 r1=>Tt (Vf (Tt (wpAny_operate' ?_)))));refine bw (nZ h1) ?_;rintro c r hc hk;exact xB R.room I1 hc (ac.mono R1.le _ ra) r1 fun t=>Uy (WS ((P _ _ _ hk).at rfl _ _ (R1.trans (al.toks _ _ _)) I1))
     |cons e2 es=>exact False.elim h
   . cases es with|nil=>exact False.elim h|cons e2 es=>
      show wpAny (M C) A (do
       let rv<-holding [va] (eval e env)
       standAt pos
       let c<-holding [va,rv] (compareOp op va rv)
       release [va,rv] [c]
       if<-holding [c,rv] (truthy c)then testChain pos rv (o2::ops) (markedEach (o2::ops) (e2::es) (evalEach (e2::es) env))else pure false) Q E s
      refine tL (z:=fun c rv=>testChain pos rv (o2::ops) (markedEach (o2::ops) (e2::es) (evalEach (e2::es) env))) (y:=fun c=>pure false) (k1:=fun c y J a=>brB .And (.bool c) J a (fun a k=>runC T mt cs y (o2::ops) (e2::es) loc J a k) k) he h ra R I W fun c yv J' a' hk O' s' rv R' I' r'=>?_;obtain⟨b,hb,h1,h2⟩:=o0 (fun _ _ h=>hs.adC h) hk;cases hb;cases c with
      |true=>refine bw (h1 rfl) ?_;rintro r k' h3 h4;rw[if_pos rfl];exact hs.tchain h3 r' R I' (W.keeps R') fun v J a hk=>(h4 _ _ _ hk).elim fun a hk=>(P _ _ _ hk).after R'
      |false=>exact(h2 rfl).elim fun a hk=>TN ((P _ _ _ hk).at rfl _ _ R' I')
 . rw[List.forIn_cons];refine Tt ?_;rw[if_pos rfl];refine Tt (ht.run h R I W fun v J' a' h=>?_);refine cG (iO h) ?_;rintro b hb h1 h2;refine⟨b,hb,fun O1 s1 R1 I1=>TN ?_⟩;cases b with
   |true=>exact(h1 rfl).elim fun a h=>hs.tests h R I1 (W.keeps R1) fun b J a hk=>(P _ _ _ hk).after R1
   |false=>exact(h2 rfl).elim fun a hk=>p8 (P _ _ _ hk _ _ R1 I1) _
 .refine bp (he.ad h) ?_;rintro _ _ _ h;refine bp (hs.adE h) ?_;rintro _ _ _ h;exact⟨_,_,_,h⟩
end
section
variable{C:Ctx}{T:Tab}{mt:Pos->Bool}{cs:aG}{d:Nat}
noncomputable def q7(C:Ctx)(f:Value):Prop:=∀h,C.K.In h->∃k,(k=Keeper.frame\/k=Keeper.machine\/k=Keeper.boundFrame)/\Looks (M C) h (keeperOf f) k
theorem wq(id:String):q7 C (.builtin id):=fun h _=>⟨.machine,.inr (.inl rfl),Looks.of_pure rfl⟩
theorem wr(id:String):q7 C (.type id):=fun h _=>⟨.machine,.inr (.inl rfl),Looks.of_pure rfl⟩
theorem o5{a:Addr}(h:keepIn C.K (.ref a)=true):q7 C (.ref a):=fun hp X=>keeps_K h hp X
theorem ob(K:aU C){args:List Expr}{kws:List Keyword}(ha:cO C T mt cs d args)(hk:mA C T mt cs d kws)(pa:args.all eV=true)(pk:kws.all (·.arg.isSome)=true){A:Around}{L:List Addr}{env:Env}{loc:Loc}{J:Hp}{a:An}{k:List V->List (Str×V)->Hp->An->Prop}{O:Map}{s:Shared}{pos:Pos}{f:Value}{first:List Value}{Q:Value->Shared->Prop}{E:Value->Shared->Prop}(e:runEs T mt cs args loc J a fun as J a=>runK T mt cs kws loc J a fun kw J a=>k as kw J a)(kf:q7 C f)(R:dp A d)(I:au C O J s.heap)(W:aP C L O env loc s.heap)(P:∀as kw J' a',k as kw J' a'->∀O' s' vs kwp,al O O' s s'->au C O' J' s'.heap->aP C L O' env loc s'.heap->ai (ac C O') as vs->ai (Kv C O') kw kwp->wpAny (M C) A (call f (first++vs) kwp) Q E s'):
 wpAny (M C) A (callWith pos f first (backTo pos (starEach args env)) (backToKw pos (keywordEach kws env))) Q E s:=by
 refine eX (q6 (pos:=pos) (env:=env) pk) ?_;rintro n1 n2 n3;refine callWith_of (P:=C.K.In) (by rw[(m6 pa).1,n3];rfl) kf ?_;have fin:∀{as:List V}{J1:Hp}{a1:An} (h:runK T mt cs kws loc J1 a1 fun kw J a=>k as kw J a) {O1:Map}{s1:Shared}{vs:List Value},al O O1 s s1->au C O1 J1 s1.heap->ai (ac C O1) as vs ->
  wpAny (M C) A (evalAll ((backToKw pos (keywordEach kws env)).map (·.2))) (fun ks s₂=>(fun(a:Args) s₁=>C.K.In s₁.heap/\wpAny (M C) A (call f (first++a.pos) a.kw) Q E s₁) ⟨vs,((backToKw pos (keywordEach kws env)).filterMap (·.1)).zip ks⟩ s₂) E s1:=fun{as J1 a1} h {O1 s1 vs} R1 I1 r1=>
  hk.run h R I1 (W.keeps R1) fun rs J2 a2 h2 O2 s2 ks R2 I2 r2=>by rw[n1];exact⟨mX K I2,P _ _ _ _ h2 O2 s2 _ _ (R1.trans R2) I2 ((W.keeps R1).keeps R2) (cN R2.le r1) r2⟩
 cases args with|nil=>exact evalArgs_kw2_nil n2 (fin e (.refl _ _) I .nil)|cons e1 rest=>exact evalArgs_kw2 n2 (ha.items e R I W fun rs J1 a1 h1 O1 s1 vs R1 I1 r1=>fin h1 R1 I1 r1) (tH (k:=fun v J a=>runEs T mt cs rest loc J a fun vs J a=>runK T mt cs kws loc J a fun kw J a=>k (v::vs) kw J a) e)
theorem zq(K:aU C){O:Map}{J:Hp}{h:Heap}(I:au C O J h){a:Addr}(ha:h.objs.size<=a):a≠sysModules:=by refine ae (K.nolimit) ?_;rintro _ hn _;refine aW (hn) ?_;rintro o' _ _ ho' _;have:=UV (I.base _ _ ho');exact Vb (TG (VH (by decide) this) ha)
theorem zr(K:aU C)(TO:cM C T)(CS:iZ C cs d){A:Around}{f:V}{vf:Value}{as:List V}{kw:List (Str×V)}{J:Hp}{n:An}{k:KQ}{t:Bool}{O:Map}{s:Shared}{vs:List Value}{kwp:List (Str×Value)}{Q:Value->Shared->Prop}{E:Value->Shared->Prop}(e:sG cs t f as kw J n k)(rf:ac C O f vf)(R:dp A d)(I:au C O J s.heap)(ra:ai (ac C O) as vs)(rk:ai (Kv C O) kw kwp)(P:∀v J' a',k v J' a'->eM C O s J' v Q):
 wpAny (M C) A (call vf vs kwp) Q E s:=by
 cases f with
 |fn c m=>refine aW (jK e) ?_;rintro r J' an e hk;simp only[ac]at rf;refine ae (rf) ?_;rintro a rfl ha;exact wpAny_call (CS e ha R.room I ra rk fun O' s' v R' I' r'=>P _ _ _ hk O' s' v R' I' r')
 |cls c=>
  simp only[ac]at rf;refine ae (rf) ?_;rintro a rfl ha;have e:∃J' an,cs c ("__init__":Str) (.inst c J.length::as) kw (J++[.dict []]) .none J'/\k (.inst c J.length) J' an:=by
   rcases n with _|⟨q,r⟩
   .exact False.elim e
   cases q with|s x=>exact⟨_,_,e⟩|_=>exact False.elim e
  refine bw (e) ?_;rintro J' an hc hk;obtain⟨cd,hcd⟩:=TO.clv c a ha;obtain @⟨a',fI,h1,h2,h3,h4,h5,h6,h7,h8,h9,h10,h11,h12⟩:=TO.cls c cd hcd;rw[ha]at h1;cases h1;have X:=mX K I;obtain⟨hp,g,dd,tk,os⟩:=s;refine wpAny_call (make_core (makes_of X h6) (looks_findIn X h7) (fun self=>bind_fn X self (Ub.mp h9)) (.inl rfl) ?_);have I1:au C ⟨O.am++[hp.objs.size],O.Z⟩ (J++[.dict []]) (hp.push emptyDict):=I.track (o:=emptyDict) (c:=.dict []) K ⟨[],0,rfl,.nil,.nil⟩;have I2:=I1.frozen (o:=instObj a hp.objs.size);have R1:al O ⟨O.am++[hp.objs.size],O.Z⟩ ⟨hp,g,dd,tk,os⟩ ⟨hp.push emptyDict,g,dd,tk,os⟩:=al.track (s:=⟨hp,g,dd,tk,os⟩) I (t:=tk);have R2:al ⟨O.am++[hp.objs.size],O.Z⟩ ⟨O.am++[hp.objs.size],((hp.push emptyDict).objs.size,instObj a hp.objs.size)::O.Z⟩ ⟨hp.push emptyDict,g,dd,tk,os⟩ ⟨(hp.push emptyDict).push (instObj a hp.objs.size),g,dd,tk,os⟩ :=
   al.frozen (s:=⟨hp.push emptyDict,g,dd,tk,os⟩) (t:=tk)
  have R12:=R1.trans R2;rw[Heap.size_push]at I2 R12;have rx:ac C ⟨O.am++[hp.objs.size],(hp.objs.size+1,instObj a hp.objs.size)::O.Z⟩ (.inst c J.length) (.ref (hp.objs.size+1)):=by simp only[ac];exact⟨_,hp.objs.size,a,rfl,ha,.head _,by rw[<-I.len];simp⟩
  refine CS hc h8 (R.under a vs kwp) I2 (.cons rx (cN R12.le ra)) (rk.mono fun p q h=>⟨h.1,ac.mono R12.le _ h.2⟩) fun O' s' v R' I' r'=>?_;simp only[ac]at r';subst r';exact⟨rfl,P _ _ _ hk O' s' _ (R12.trans R') I' (ac.mono R'.le _ rx)⟩
 |bi id=>
  simp only[ac]at rf;subst rf;cases kw with
  |nil=>refine aW (gr e) ?_;rintro r J' an e hk;cases rk;exact O7 (t:=t) K R.handled I e ra (P _ _ _ hk)
  |cons _ _=>exact False.elim e
 |ty id=>
  simp only[ac]at rf;subst rf;cases kw with
  |nil=>refine aW (gr e) ?_;rintro r J' an e hk;cases rk;exact O8 (t:=t) K I e ra (P _ _ _ hk)
  |cons _ _=>exact False.elim e
 |_=>exact False.elim e
theorem GW{cs:aG}{t:Bool}{f:V}{as:List V}{kw:List (Str×V)}{J:Hp}{n:An}{k:KQ}(e:sG cs t f as kw J n k):∃v J' a',k v J' a':=by
 cases f with
 |fn c m=>refine aW (jK e) ?_;rintro r J' an e hk;exact⟨_,_,_,hk⟩
 |cls c=>
  rcases n with _|⟨q,r⟩
  .exact False.elim e
  cases q with|s x=>exact⟨_,_,_,e.2⟩|_=>exact False.elim e
 |bi id=>cases kw with
  |nil=>refine aW (gr e) ?_;rintro r J' an e hk;exact⟨_,_,_,hk⟩
  |cons _ _=>exact False.elim e
 |ty id=>cases kw with
  |nil=>refine aW (gr e) ?_;rintro r J' an e hk;exact⟨_,_,_,hk⟩
  |cons _ _=>exact False.elim e
 |_=>exact False.elim e
noncomputable def xL:V->Prop
 |.fn ..=> True
 |.cls ..=> True
 |.bi ..=> True
 |.ty ..=> True
 |_=>False
theorem qb{cs:aG}{t:Bool}{f:V}{as:List V}{kw:List (Str×V)}{J:Hp}{n:An}{k:KQ}(e:sG cs t f as kw J n k):xL f:=by cases f<;>first|exact True.intro|exact False.elim e
theorem zt(TO:cM C T){f:V}{vf:Value}{O:Map}(rf:ac C O f vf)(e:xL f):q7 C vf:=by
 cases f with
 |fn c m=>simp only[ac]at rf;refine ae (rf) ?_;rintro a rfl ha;exact o5 (TO.fnv c m a ha)
 |cls c=>simp only[ac]at rf;refine ae (rf) ?_;rintro a rfl ha;obtain⟨cd,hcd⟩:=TO.clv c a ha;obtain @⟨a',fI,h1,h2,h3,h4,h5,h6,h7,h8,h9,h10,h11,h12⟩:=TO.cls c cd hcd;rw[ha]at h1;cases h1;exact o5 h10
 |bi id=>simp only[ac]at rf;subst rf;exact wq id
 |ty id=>simp only[ac]at rf;subst rf;exact wr id
 |_=>exact False.elim e
theorem ut{args:List Expr}{kws:List Keyword}(ha:cO C T mt cs d args)(hk:mA C T mt cs d kws){loc:Loc}{J:Hp}{a:An}{k:List V->List (Str×V)->Hp->An->Prop}(e:runEs T mt cs args loc J a fun as J a=>runK T mt cs kws loc J a fun kw J a=>k as kw J a):∃as kw J' a',k as kw J' a':=by refine bp (ha.adE e) ?_;rintro as _ _ h;refine bp (hk.ad h) ?_;rintro kw _ _ h;exact⟨_,_,_,_,h⟩
theorem zu{args:List Expr}{kws:List Keyword}(h:vU args kws=true):args.all eV=true/\kws.all (·.arg.isSome)=true:=TC _ _▸h
theorem GX(K:aU C)(TO:cM C T)(CS:iZ C cs d){x:Str}{p:Pos}{args:List Expr}{kws:List Keyword}{pos:Pos}(ha:cO C T mt cs d args)(hk:mA C T mt cs d kws):aH C T mt cs d (.Call (.Name x p) args kws pos):=by
 refine⟨fun{A L env loc J a k O s Q E} e R I W P=>?_,fun{loc J a k} e=>?_⟩
 . obtain⟨hf,e⟩:=e;refine ae (oa (P:=fun g=>runEs T mt cs args loc J a fun as J a=>runK T mt cs kws loc J a fun kw J a=>sG cs (mt pos) g as kw J a k) e) ?_;rintro g hg e;refine qw (ut ha hk e) ?_;rintro as kw _ _ hc;show wpAny _ _ (do callWith pos (<-eval (.Name x p) env) [] (backTo pos (starEach args env)) (backToKw pos (keywordEach kws env))) _ _ _;refine Tt (ul K TO I W hg fun vf rf=>?_);exact ob K ha hk (zu hf).1 (zu hf).2 e (zt TO rf (qb hc)) R I W fun as kw J1 a1 h1 O1 s1 vs kwp R1 I1 W1 ra rk=>
    zr K TO CS h1 (ac.mono R1.le _ rf) R I1 ra rk fun v J a hk=>(P _ _ _ hk).after R1
 .obtain⟨hf,e⟩:=e;refine ae (oa (P:=fun g=>runEs T mt cs args loc J a fun as J a=>runK T mt cs kws loc J a fun kw J a=>sG cs (mt pos) g as kw J a k) e) ?_;rintro g hg e;refine qw (ut ha hk e) ?_;rintro as kw _ _ hc;exact GW hc
theorem wu(env:Env)(pos:Pos):∀(es:List Expr),(backTo pos (starEach es env)).all (!·.1)=(starEach es env).all (!·.1):=fun es=>by unfold backTo;rw[List.all_map];rfl
theorem GY(K:aU C)(TO:cM C T)(CS:iZ C cs d){o:Expr}{a:Str}{args:List Expr}{kws:List Keyword}{apos pos:Pos}(ho:aH C T mt cs d o)(ha:cO C T mt cs d args)(hk:mA C T mt cs d kws):aH C T mt cs d (.Call (.Attribute o a apos) args kws pos):=by
 refine⟨fun{A L env loc J an k O s Q E} e R I W P=>?_,fun{loc J an k} e=>?_⟩
 . obtain⟨hf,e⟩:=e;rw[TC,Ub]at hf;obtain⟨hl,hf⟩:=hf;unfold vS at hf;simp only[TC,Um]at hf;obtain⟨⟨⟨f1,f2⟩,f3⟩,f4⟩:=hf;refine eX (q6 (pos:=pos) (env:=env) f2) ?_;rintro n1 n2 n3;have form:methodCallForm (args.length+kws.length) (backTo pos (starEach args env)) (backToKw pos (keywordEach kws env))=true:=by
    unfold methodCallForm;rw[wu,(m6 (pos:=pos) (env:=env) f1).2,n2];simp only[Bool.and_self,U3,Um]
    split<;>lia
   show wpAny _ _ (do
    let ov<-attributeBase o a env (eval o env)
    standAt apos.atName
    methodCall o a apos pos env ov (args.length+kws.length) (backTo pos (starEach args env)) (backToKw pos (keywordEach kws env))) _ _ _
   rw[zm f4];refine Tt (ho.run e R I W fun ov J1 a1 h1 O1 s1 ovv R1 I1 r1=>Tt (Vf ?_));refine bw (zh h1) ?_;rintro mk a2 ek h2;unfold methodCall;rw[form];refine Tt (Uy ?_);show wpAny _ _ (getMethod ovv a _) _ _ _;refine uj K TO I1 ek r1 fun f hkf=>?_;dsimp only;unfold methodCallPos;rw[if_pos (by rw[hl];simp)];refine Tt (TN ?_);cases mk with
   |fn c=>refine ae (hkf) ?_;rintro x hx rfl;refine ob (k:=fun as kw J a3=>Cg (cs c a (ov::as) kw J) a3 k) K ha hk f1 f2 h2 (o5 (TO.fnv c a x hx)) R I1 (W.keeps R1) fun as kw J2 a3 h3 O2 s2 vs kwp R2 I2 W2 ra rk=>?_;refine aW (jK h3) ?_;rintro r J3 a4 e hk;exact wpAny_call (CS e hx R.room I2 (.cons (ac.mono R2.le _ r1) ra) rk fun O' s' v R' I' r'=>P _ _ _ hk O' s' v ((R1.trans R2).trans R') I' r')
   |bi id=>
    have hkf:f=.builtin id:=hkf;subst hkf;refine ob (k:=fun as kw J a3=>Lg cs (.bi id) J ov a as kw a3 k) K ha hk f1 f2 h2 (wq id) R I1 (W.keeps R1) fun as kw J2 a3 h3 O2 s2 vs kwp R2 I2 W2 ra rk=>?_;cases kw with
    |nil=>refine aW (gr h3) ?_;rintro r J3 a4 e hk;cases rk;exact AH K I2 e (ac.mono R2.le _ r1) ra ((P _ _ _ hk).after (R1.trans R2))
    |cons _ _=>exact False.elim h3
 . refine bp (ho.ad e.2) ?_;rintro ov _ _ h;refine bw (zh h) ?_;rintro mk _ _ h;refine qw (ut (k:=fun as kw J a3=>Lg cs mk J ov a as kw a3 k) ha hk h) ?_;rintro as kw _ _ h;cases mk with
   |fn c=>refine aW (jK h) ?_;rintro r J' an e hk;exact⟨_,_,_,hk⟩
   |bi id=>cases kw with
    |nil=>refine aW (gr h) ?_;rintro r J' an e hk;exact⟨_,_,_,hk⟩
    |cons _ _=>exact False.elim h
theorem lp(K:aU C){O O':Map}{J:Hp}{s s₁:Shared}{D:Addr}{c:ab}{o:Obj}{h':Heap}{tk:Nat}(R:al O O' s s₁)(I:au C O' J s₁.heap)(hD:s.heap.get? D=none)(μ:Off C O' s₁.heap D)(hl:D≠sysModules)(k:∀b x,b≠D->s₁.heap.get? b=some x->h'.get? b=some x)(ho:h'.get? D=some o)(r:nY C O' c o):
 au C ⟨O'.am++[D],O'.Z⟩ (J++[c]) h'/\al O ⟨O'.am++[D],O'.Z⟩ s { s₁ with heap:=h',toks:=tk}:=by
 have le:O'.Le ⟨O'.am++[D],O'.Z⟩:=⟨⟨_,rfl⟩,fun p hp=>hp⟩;refine⟨⟨fun b x e=>k b x (fun q=>by rw[q,μ.h₀]at e;cases e) (I.base b x e),by simp[I.len],fun a ha=>?_,?_,fun a ha=>?_,I.z₀,fun p hp=>k _ _ (μ.Z p hp) (I.z p hp),fun p hp ha=>?_,fun n c' a e1 e2=>?_⟩,⟨R.le.trans le,fun b x hb e=>k b x (fun q=>by rw[q,hD]at e;cases e) (R.keep b x hb e),fun a ha na=>?_,R.newZ,?_⟩⟩
 . rcases TJ.mp ha with ha|ha
   .exact I.fresh a ha
   .rw[Tw.mp ha];exact μ.h₀
 .refine Wf.mpr ⟨I.nodup,by simp,fun a ha b hb=>?_⟩;rw[Tw.mp hb];rintro rfl;exact μ.am ha
 . rcases TJ.mp ha with ha|ha
   .exact I.low a ha
   .rw[Tw.mp ha];exact hl
 . rcases TJ.mp ha with ha|ha
   .exact I.zam p hp ha
   .exact μ.Z p hp (Tw.mp ha)
 . by_cases hn:n<J.length
   .rw[TL hn]at e1;rw[TL (by rw[I.len];exact hn)]at e2;refine ae (I.cell n c' a e1 e2) ?_;rintro o' ho' r';exact⟨o',k a o' (fun q=>μ.am (q▸TZ e2)) ho',r'.mono le⟩
   . have e:n=J.length:=by have:=(Tr.mp e1).1;simp at this;exact Ud (ar1 [_,_] [] 0 601338971440 this art) (ar1 [_,_] [] 0 574000 (Vz hn :) art)
     subst e;simp at e1;subst e1;rw[<-I.len]at e2;simp at e2;subst e2;exact⟨o,ho,r.mono le⟩
 . rcases TJ.mp ha with ha|ha
   .exact R.new a ha na
   .rw[Tw.mp ha];exact hD
 .refine iN (R.same) ?_;rintro h1 t1 rfl;exact⟨h',tk,rfl⟩
theorem oe{O O':Map}{J:Hp}{s s₁:Shared}{D:Addr}{o:Obj}{h':Heap}{tk:Nat}(R:al O O' s s₁)(I:au C O' J s₁.heap)(hD:s.heap.get? D=none)(μ:Off C O' s₁.heap D)(k:∀b x,b≠D->s₁.heap.get? b=some x->h'.get? b=some x)(ho:h'.get? D=some o):
 au C ⟨O'.am,(D,o)::O'.Z⟩ J h'/\al O ⟨O'.am,(D,o)::O'.Z⟩ s { s₁ with heap:=h',toks:=tk}:=by
 have le:O'.Le ⟨O'.am,(D,o)::O'.Z⟩:=⟨⟨[],by simp⟩,fun p hp=>.tail _ hp⟩;refine⟨⟨fun b x e=>k b x (fun q=>by rw[q,μ.h₀]at e;cases e) (I.base b x e),I.len,I.fresh,I.nodup,I.low,fun p hp=>.tail _ (I.z₀ p hp),fun p hp=>?_,fun p hp=>?_,fun n c' a e1 e2=>?_⟩,⟨R.le.trans le,fun b x hb e=>k b x (fun q=>by rw[q,hD]at e;cases e) (R.keep b x hb e),R.new,fun p hp=>?_,?_⟩⟩
 . rcases TS.mp hp with rfl|hp
   .exact ho
   .exact k _ _ (μ.Z p hp) (I.z p hp)
 . rcases TS.mp hp with rfl|hp
   .exact μ.am
   .exact I.zam p hp
 .refine ae (I.cell n c' a e1 e2) ?_;rintro o' ho' r';exact⟨o',k a o' (fun q=>μ.am (q▸TZ e2)) ho',r'.mono le⟩
 . rcases TS.mp hp with rfl|hp
   .exact .inr fun _=>hD
   .exact R.newZ p hp
 .refine iN (R.same) ?_;rintro h1 t1 rfl;exact⟨h',tk,rfl⟩
theorem xM(K:aU C){O O':Map}{J J':Hp}{s s₁:Shared}{D:Addr}{xs:List V}{vals:Array Value}{n:Nat}{h':Heap}{tk:Nat}{t:Bool}{r:V}{Q:Value->Shared->Prop}(R:al O O' s s₁)(I:au C O' J s₁.heap)(hD:s.heap.get? D=none)(μ:Off C O' s₁.heap D)(hl:D≠sysModules)(k:∀b x,b≠D->s₁.heap.get? b=some x->h'.get? b=some x)(ho:h'.get? D=some (listOf vals n))(rl:ai (ac C O') xs vals.toList)(e:bG t xs J=(r,J'))(P:eM C O s J' r Q):Q (.ref D) { s₁ with heap:=h',toks:=tk}:=by
 cases t with
 |true=>cases e;obtain⟨h1,h2⟩:=lp (tk:=tk) K R I hD μ hl k ho (c:=.list xs) ⟨vals,n,rfl,rl⟩;exact P _ _ _ h2 h1 (by simp only[ac];exact⟨_,rfl,by rw[<-I.len];simp⟩)
 |false=>cases e;obtain⟨h1,h2⟩:=oe (tk:=tk) R I hD μ k ho;refine P _ _ _ h2 h1 ?_;simp only[ac];exact⟨_,vals,n,rfl,.head _,aL.mpr (cN ⟨⟨[],by simp⟩,fun p hp=>.tail _ hp⟩ rl)⟩
theorem xN{O:Map}{es:List (Str×V)}{ps:List (Value×Value)}(h:ai (fun p q=>mP p.1 q.1/\ac C O p.2 q.2) es ps):Carries (sK C) ps ((es.map (·.1)).zip (ps.map (·.2)))/\ai (KV C O) es ((es.map (·.1)).zip (ps.map (·.2))):=by
 induction h with|nil=>exact⟨trivial,.nil⟩|@cons p q es ps h1 _ ih=>obtain⟨⟨t,ht⟩,h2⟩:=h1;refine⟨⟨?_,rfl,ih.1⟩,.cons ⟨rfl,h2⟩ ih.2⟩;rw[ht];exact VR _ _ _ _
theorem AR{O:Map}{es:List (Str×V)}{kvs:List (Str×Value)}(h:ai (KV C O) es kvs):∀{a:List (Str×V)}{b:List (Str×Value)},ai (KV C O) a b->(a.map (·.1)).Nodup->ai (KV C O) (es.foldl (fun a q=>em q.1 q.2 a) a) (merged b kvs)/\((es.foldl (fun a q=>em q.1 q.2 a) a).map (·.1)).Nodup:=by
 induction h with
 |nil=>exact fun h n=>⟨h,n⟩
 |@cons p q es kvs h1 _ ih=>intro a b h n;have:=qW h n p.1 (v:=p.2) (val:=q.2) h1.2;rw[<-h1.1]at this;have e:p.1=q.1:=h1.1.symm;rw[List.foldl_cons];refine ih (b:=stored b q.1 q.2) ?_ (qX n);rw[e];exact this
theorem ww:∀{keys:List (Option Expr)}{ks:List Str},keys.mapM g0=some ks->keys.length=ks.length/\keys.all (·.isSome)=true
 |[],ks,h=>by cases h;exact⟨rfl,rfl⟩
 |k::keys,ks,h=>by rw[List.mapM_cons]at h;refine ae (TD.mp h) ?_;rintro x hx h;refine ae (TD.mp h) ?_;rintro xs hxs h;cases h;obtain⟨h1,h2⟩:=ww hxs;refine iN (qa hx) ?_;rintro n p rfl;exact⟨by rw[Ug,Ug,h1],by rw[V5,h2];rfl⟩
theorem GZ(K:aU C){keys:List (Option Expr)}{vals:List Expr}{pos:Pos}(h:cO C T mt cs d vals):aH C T mt cs d (.Dict keys vals pos):=by
 have key:∀{loc:Loc}{J:Hp}{a:An}{k:KQ},bu T mt cs (.Dict keys vals pos) loc J a k->∃ks,keys.mapM g0=some ks/\(ks.length=vals.length/\ks.length<=15)/\runEs T mt cs vals loc J a fun vs J a=>k (.ref J.length) (J++[.dict (t7 (ks.zip vs))]) a:=fun{loc J a k} e=>by
  have e:(match keys.mapM g0 with
   |some ks=>(ks.length=vals.length/\ks.length<=15)/\runEs T mt cs vals loc J a fun vs J a=>k (.ref J.length) (J++[.dict (t7 (ks.zip vs))]) a
   |Option.none=>False):=e
  cases q:keys.mapM g0 with|none=>rw[q]at e;exact e.elim|some ks=>rw[q]at e;exact⟨ks,rfl,e⟩
 refine⟨fun{A L env loc J a k O s Q E} e R I W P=>?_,fun e=>?_⟩
 . refine cG (key e) ?_;rintro ks hks ⟨hlen1,hlen2⟩ e;obtain⟨hkl,hall⟩:=ww hks;by_cases h0:keys=[]
   .subst h0;have:ks=[]:=Uv.mp hkl.symm;subst this;have:vals=[]:=Uv.mp hlen1.symm;subst this;refine wpAny_Dict_empty ?_;have I1:au C ⟨O.am++[s.heap.objs.size],O.Z⟩ (J++[.dict []]) (s.heap.push emptyDict):=I.track (o:=emptyDict) (c:=.dict []) K ⟨[],0,rfl,.nil,.nil⟩;exact P _ _ _ e _ _ _ (al.track I (t:=s.toks)) I1 (by simp only[ac];exact⟨_,rfl,by rw[<-I.len];simp⟩)
   .refine wpAny_Dict_walk (knd:=sK C) hall (by rw[hkl,hlen1]) h0 (by rw[hkl];exact hlen2) ?_;have k0:∀b x,s.heap.get? b=some x->(s.heap.push emptyDict).get? b=some x:=fun b x hx=>Uf _ hx;have R0:al O O s { s with heap:=s.heap.push emptyDict}:=al.at (t:=s.toks) k0;have μ0:Off C O (s.heap.push emptyDict) s.heap.objs.size:=jI I (g9 _) ⟨_,UQ _ rfl⟩;refine h.pairs e hks hlen1 R (I.at k0) (W.keeps R0) fun rs J1 a1 h1 O1 s1 ps R1 I1 r1=>?_;obtain⟨c1,c2⟩:=xN r1;have μ1:Off C O1 s1.heap s.heap.objs.size:=Off.keeps (s:={ s with heap:=s.heap.push emptyDict}) (L:=[]) μ0 R1.x;have hD:s1.heap.get? s.heap.objs.size=some emptyDict:=R1.keep _ _ μ0.am (UQ _ rfl);obtain⟨m1,m2⟩:=AR c2 (a:=[]) (b:=[]) .nil .nil;refine⟨_,c1,⟨_,#[],0,hD,⟨rfl,rfl,rfl⟩,rfl,(fun e h=>by simp at h),.nil,.nil⟩,fun h' D' hs=>?_⟩;refine ae (pW D' m1) ?_;rintro o ho hc;obtain⟨g1,g2⟩:=lp (tk:=s1.toks+ps.length) K (R0.trans R1) I1 (g9 _) μ1 (zq K I (TB _)) (fun b x hb q=>(hs.2 b hb).trans q) ho hc;refine P _ _ _ h1 _ _ _ g2 g1 ?_;simp only[ac];exact⟨_,rfl,by rw[<-I1.len];simp⟩
 .refine cG (key e) ?_;rintro ks hks _ e;refine bp (h.adE e) ?_;rintro _ _ _ e;exact⟨_,_,_,e⟩
end
section
variable{C:Ctx}{T:Tab}{mt:Pos->Bool}{cs:aG}{d:Nat}
theorem uu{A:Around}{R:Result->Shared->Prop}{s:Shared}{elt target iter:Expr}{ifs:List Expr}{scope:Scope}{pos:Pos}{it acc:Value}{env:Env}(I:Nat->Shared->Prop)(turn:∀n s,I n s->wpAny (M C) A (pyNext it) (fun r s₁=>match r with
  |none=>R (.ok .next) s₁
  |some v=>wpAny (M C) A (letOwnedTupleGo target it v) (fun _ s₁'=>wpAny (M C) A (assign target env v) (fun _ s₂=>
   wpAny (M C) A (forIn ifs true fun c r=>if r=true then do let ok<-isTrue c env (eval c env);pure (ForInStep.yield ok)else pure (ForInStep.yield r)) (fun ok s₃=>
    if ok=true then wpAny (M C) A (eval elt env) (fun x s₄=>
     wpAny (M C) A (call (.builtin "list.append") [acc,x]) (fun _ s₅=>∃m,m<n/\I m s₅) (notedBy (M C) A env fun e s'=>R (.error e) s') s₄) (notedBy (M C) A env fun e s'=>R (.error e) s') s₃
    else ∃m,m<n/\I m s₃) (notedBy (M C) A env fun e s'=>R (.error e) s') s₂) (notedBy (M C) A env fun e s'=>R (.error e) s') s₁') (notedBy (M C) A env fun e s'=>R (.error e) s') s₁) (notedBy (M C) A env fun e s'=>R (.error e) s') s)(n:Nat)(h:I n s):codeAny (M C) A (.compLoop (.ListComp elt [⟨target,iter,ifs,0⟩] scope pos) 0 it acc env) R s:=by
 refine codeAny_loop rfl I (fun n s hI=>?_) n h;show wpAny _ A ((compTurn (.ListComp elt [⟨target,iter,ifs,0⟩] scope pos) 0 it acc env).onRaise (fun x=>do noteFrame x env;theTreesLotGoes x)) _ _ s;refine wpAny_noted ?_;rw[compTurn_list];refine Tt (Vf (Tt (WI (turn n s hI) (fun r s₁ h₁=>?_) fun _ _ h'=>h')));cases r with|none=>exact TN h₁|some v=>
  refine Tt (WI h₁ (fun _ s₁' h₁'=>?_) fun _ _ h'=>h');refine Tt (WI h₁' (fun _ s₂ h₂=>Tt (WI h₂ (fun ok s₃ h₃=>?_) fun _ _ h'=>h')) fun _ _ h'=>h');cases ok with|false=>exact TN ⟨rfl,h₃⟩|true=>exact Tt (Tt (WI h₃ (fun x s₄ h₄=>Tt (WI h₄ (fun _ s₅ h₅=>TN (TN ⟨rfl,h₅⟩)) fun _ _ h'=>h')) fun _ _ h'=>h'))
theorem bH.nil{O O':Map}{s s':Shared}(h:bH [] O O' s s'):al O O' s s':=(al.refl O s).thenX h fun _ h=>(nomatch h)
theorem uw{env:Env}(get:Str->Option Addr)(f:Str×NameKind->List (Str×Addr)->Sem (ForInStep (List (Str×Addr))))(hf:∀name kind cs,f (name,kind) cs=if kind==.free then(do let a<-cellOf env name;pure (.yield ((name,a)::cs)))else pure (.yield cs)):
 ∀(names:List (Str×NameKind)) (acc:List (Str×Addr)),(∀p∈names,p.2=.free->∃c,env.cells.lookup p.1=some c)->(∀p∈acc,env.cells.lookup p.1=some p.2) ->
 ∃cl,forIn names acc f=pure cl/\(∀p∈cl,env.cells.lookup p.1=some p.2)/\(∀p∈names,p.2=.free->∃c,(p.1,c)∈cl)/\(∀p∈acc,p∈cl)
 |[],acc,_,ha=>⟨acc,rfl,ha,fun _ h=>(nomatch h),fun _ h=>h⟩
 |(n,k)::r,acc,hn,ha=>by
  rw[List.forIn_cons,hf];by_cases hk:k=.free
  . subst hk;obtain⟨c,hc⟩:=hn (n,.free) (.head _) rfl;have hc':cellOf env n=pure c:=by unfold cellOf;rw[hc]
    obtain⟨cl,h1,h2,h3,h4⟩:=uw get f hf r ((n,c)::acc) (fun p hp=>hn p (.tail _ hp)) (fun p hp=>by
     rcases TS.mp hp with rfl|hp
     .exact hc
     .exact ha p hp)
    refine⟨cl,?_,h2,fun p hp hq=>?_,fun p hp=>h4 p (.tail _ hp)⟩
    .rw[hc'];exact h1
    . rcases TS.mp hp with rfl|hp
      .exact⟨c,h4 _ (.head _)⟩
      .exact h3 p hp hq
  . refine jE (uw get f hf r acc (fun p hp=>hn p (.tail _ hp)) ha) ?_;rintro cl h1 h2 h3 h4;refine⟨cl,?_,h2,fun p hp hq=>?_,h4⟩
    . have:(k==NameKind.free)=false:=by simpa using hk
      rw[this];exact h1
    . rcases TS.mp hp with rfl|hp
      .exact absurd hq hk
      .exact h3 p hp hq
theorem xO{env:Env}{scope:Scope}(h:∀p∈scope.names,p.2=.free->∃c,env.cells.lookup p.1=some c):∃cl,closureFor scope env=pure cl/\(∀p∈cl,env.cells.lookup p.1=some p.2)/\(∀p∈scope.names,p.2=.free->∃c,(p.1,c)∈cl):=by
 have key:∀f:Str×NameKind->List (Str×Addr)->Sem (ForInStep (List (Str×Addr))),closureFor scope env=(forIn scope.names [] f >>= fun r=>pure r)->(∀name kind cs,f (name,kind) cs=if kind==.free then(do let a<-cellOf env name;pure (.yield ((name,a)::cs)))else pure (.yield cs)) ->
  ∃cl,closureFor scope env=pure cl/\(∀p∈cl,env.cells.lookup p.1=some p.2)/\(∀p∈scope.names,p.2=.free->∃c,(p.1,c)∈cl):=fun f e hf=>by
  refine jE (uw (env:=env) (fun _=>none) f hf scope.names [] h (fun _ h=>(nomatch h))) ?_;rintro cl h1 h2 h3 _;exact⟨cl,by rw[e,h1];rfl,h2,h3⟩
 exact key _ rfl fun name kind cs=>by cases hk:kind==NameKind.free<;>simp[hk]
theorem AS{l:List (Str×Addr)}{g:Str->Option Addr}(h:∀p∈l,g p.1=some p.2){x:Str}{c:Addr}(hm:(x,c)∈l):l.lookup x=some c:=by
 induction l with|nil=>cases hm|cons p r ih=>
  obtain⟨y,b⟩:=p;rw[TR];by_cases q:x=y
  .subst q;rw[TQ];have e1:=h (x,b) (.head _);have e2:=h (x,c) hm;rw[e1]at e2;exact e2
  . rw[Tv.mpr q];rcases TS.mp hm with e|hm
    .cases e;exact absurd rfl q
    .exact ih (fun p hp=>h p (.tail _ hp)) hm
theorem lq{env:Env}{x:Str}{k:NameKind}:∀{names:List (Str×NameKind)},names.lookup x=some k ->
 (names.map fun(n,k)=>if(k==NameKind.free&&env.scope.kind==.function&&env.kindOf n==some .cell)then(n,NameKind.cell)else(n,k)).lookup x=some (if(k==NameKind.free&&env.scope.kind==.function&&env.kindOf x==some .cell)then .cell else k)
 |[],h=>by simp at h
 |(n,k')::r,h=>by
  rw[Uj];show List.lookup x ((if(k'==NameKind.free&&env.scope.kind==.function&&env.kindOf n==some .cell)=true then(n,NameKind.cell)else(n,k'))::_)=_;by_cases q:x=n
  . subst q;rw[TR,TQ]at h;cases h
    split<;>rw[TR,TQ]
  . rw[TR,Tv.mpr q]at h;have ih:=@lq env x k r h
    split<;>(rw[TR,Tv.mpr q];exact ih)
theorem lg.x{Ia Ja:Addr}{O O':Map}{s s':Shared}(S:lg Ia Ja O O' s s')(l:∀a,a=Ia\/a=Ja->∃o,s'.heap.get? a=some o):bH [Ia,Ja] O O' s s' :=
 ⟨S.le,fun b o _ h e=>S.keep b o (fun q=>h (q▸.head _)) (fun q=>h (q▸.tail _ (.head _))) e,fun b o _ e=>by
  by_cases h:b=Ia\/b=Ja
  .exact l b h
  .exact⟨o,S.keep b o (fun q=>h (.inl q)) (fun q=>h (.inr q)) e⟩,fun a ha na=>absurd (S.am▸ha) na,fun p hp=>(S.newZ p hp).imp id fun e _=>e,S.same⟩
structure G0(C:Ctx)(O O':Map)(J':Hp)(s s':Shared)(D Cl:Addr)(acc:List V):Prop where
 reach:al O O' s s'
 inv:au C O' J' s'.heap
 offD:Off C O' s'.heap D
 offC:Off C O' s'.heap Cl
 newD:s.heap.get? D=none
 newC:s.heap.get? Cl=none
 low:D≠sysModules
 ne:D≠Cl
 ns:∃m,s'.heap.Ns Cl m
 list:∃vals k,s'.heap.get? D=some (listOf vals k)/\ai (ac C O') acc vals.toList
set_option tactic.hygienic true in
theorem CR{A:Around}{L:List Addr}{O:Map}{J:Hp}{s:Shared}{env:Env}{loc:Loc}{scope:Scope}(W:aP C L O env loc s.heap)(hok:t8 scope loc=true):
 ∃cl,closureFor scope env=pure cl/\(∀p∈cl,env.cells.lookup p.1=some p.2)/\(∀p∈scope.names,p.2=.free->∃c,(p.1,c)∈cl)/\scope.kind=.function/\(∀x∈scope.names,x.2≠.cell)/\(∀x∈scope.names,x.2=.local->scope.names.lookup x.1=some .local) /\
  (∀p∈scope.names,p.2=.local\/p.2=.free\/p.2=.globalImplicit):=by
 unfold t8 at hok;simp only[TC,Um]at hok;obtain⟨⟨⟨k1,k2⟩,k3⟩,k4⟩:=hok;have kinds:∀p∈scope.names,p.2=.local\/p.2=.free\/p.2=.globalImplicit:=fun p hp=>by
  have:=UI.mp k3 p hp;simp only[Wv,Ub]at this;rcases this with(q|q)|q
  .exact .inl q
  .exact .inr (.inl q)
  .exact .inr (.inr q)
 refine ae (W.ns) ?_;rintro m hn hs;obtain⟨cl,h1,h2,h3⟩:=xO (env:=env) (scope:=scope) fun p hp hf=>by
  have:=UI.mp k1 p hp;rw[hf]at this;simp only[bne_self_eq_false,VP]at this;cases hl:loc.lookup p.1 with|none=>rw[hl]at this;exact Bool.noConfusion this|some sl=>
   rw[hl]at this;have hh:=hs _ _ hl;cases sl with
   |cv o=>cases o with
    |none=>refine y5 (hh) ?_;rintro _ c _ hc _;exact⟨c,hc⟩
    |some v=>refine g7 (hh) ?_;rintro _ _ _ c hc _;exact⟨c,hc⟩
   |f v=>refine g7 (hh) ?_;rintro _ _ _ c hc _;exact⟨c,hc⟩
   |_=>exact Bool.noConfusion this
 refine⟨cl,h1,h2,h3,k2,fun x hx q=>?_,fun x hx hl=>?_,kinds⟩
 .rcases kinds x hx with e|e|e<;>rw[e]at q<;>cases q
 . cases q:scope.names.lookup x.1 with|none=>rw[VB]at q;have:=q x hx;simp at this|some k=>
    have hm:=mem_of_lookup q;have:(x.1,k)=x:=by
     obtain⟨i,hi,e1⟩:=VU.mp hm;obtain⟨j,hj,e2⟩:=VU.mp hx;have hij:i=j:=by refine(List.getElem_inj (i:=i) (j:=j) (h₀:=by simpa using hi) (h₁:=by simpa using hj) k4).mp ?_;rw[List.getElem_map,List.getElem_map,e1,e2]
     subst hij;rw[<-e1,e2]
    rw[<-this]at hl;exact Tx some hl
theorem Lx{J:Hp}{v:V}{it:It}{tgt:Expr}(e1:gZ J v=some it):nU tgt it=true:=by
 cases it with
 |enm w=>
  cases v with
  |rng a b=>exact ifE e1 fun _ e=>nomatch e
  |ref n=>exact Cm e1 (fun _ _ e=>nomatch e) fun _ _ e=>aC e
  |lst _=>exact nomatch e1
  |tup _=>exact nomatch e1
  |_=>exact aC e1
 |_=>rfl
structure mB(C:Ctx)(it:It)(Ia Ja D:Addr)(O1:Map)(s1:Shared)(acc:List V)(vals:Array Value)(k:Nat)(j:Nat)(O:Map)(s:Shared):Prop where
 rx:al O1 O s1 s
 t:d6 C O s.heap it j Ia Ja
 oi:Off C O s.heap Ia
 oj:Off C O s.heap Ja
 od:Off C O s.heap D
 hd:s.heap.get? D=some (listOf vals k)
 r:ai (ac C O) acc vals.toList
inductive ux(C:Ctx)(it:It)(N:Nat)(Ia Ja D Cl:Addr)(O1:Map)(s1:Shared)(cenv:Env)(F:Nat->Loc->Hp->List V->Prop)(n:Nat)(s:Shared):Prop where
 |mk {O:Map}{J:Hp}{cloc:Loc}{acc:List V}{vals:Array Value}{k:Nat} (hn:n<=N) (S:mB C it Ia Ja D O1 s1 acc vals k (N-n) O s) (I:au C O J s.heap) (W:aP C [Cl] O cenv cloc s.heap) (ec:F n cloc J acc):ux C it N Ia Ja D Cl O1 s1 cenv F n s
section
variable{it:It}{Ia Ja D Cl:Addr}{O1 O O2:Map}{s1 s s2:Shared}{acc:List V}{vals:Array Value}{k j j':Nat}
theorem mB.more{L:List Addr}(S:mB C it Ia Ja D O1 s1 acc vals k j O s)(R:bH L O O2 s s2)(hI:Ia∉L)(hJ:Ja∉L)(hD:D∉L)(hL:∀a∈L,s1.heap.get? a=none):mB C it Ia Ja D O1 s1 acc vals k j O2 s2 :=
 ⟨S.rx.thenX R hL,S.t.keeps R S.oi S.oj hI hJ,S.oi.keeps R,S.oj.keeps R,S.od.keeps R,R.keep _ _ S.od.am hD S.hd,cN R.le S.r⟩
theorem mB.far(S:mB C it Ia Ja D O1 s1 acc vals k j O s)(R:al O O2 s s2):mB C it Ia Ja D O1 s1 acc vals k j O2 s2 :=
 S.more (L:=[]) R.x (fun h=>nomatch h) (fun h=>nomatch h) (fun h=>nomatch h) fun _ h=>nomatch h
theorem mB.next(S:mB C it Ia Ja D O1 s1 acc vals k j O s)(T:lg Ia Ja O O2 s s2)(nI:s1.heap.get? Ia=none)(nJ:s1.heap.get? Ja=none)(iD:D≠Ia)(jD:D≠Ja)(t:d6 C O2 s2.heap it j' Ia Ja)(oi:Off C O2 s2.heap Ia)(oj:Off C O2 s2.heap Ja):mB C it Ia Ja D O1 s1 acc vals k j' O2 s2 :=
 have hd:=T.keep _ _ iD jD S.hd
 ⟨(bH.step (L:=[]) S.rx.x T nI nJ).nil,t,oi,oj,S.od.step T ⟨_,hd⟩,hd,cN T.le S.r⟩
end
set_option tactic.hygienic true in
theorem AT(K:aU C){elt tgt iter:Expr}{ifs:List Expr}{scope:Scope}{pos:Pos}(htgt:eu C T mt cs d tgt)(hifs:cO C T mt cs d ifs)(helt:aH C T mt cs d elt){A:Around}{cenv:Env}{O1:Map}{s1 s4:Shared}{use:Option (Value->Sem Unit)}{Q:Value->Shared->Prop}{E:Value->Shared->Prop}{it:It}{N:Nat}{kk:List V->Hp->Prop}{Ia Ja D Cl:Addr}{J:Hp}{v0:V}(R:dp A d)(e1:gZ J v0=some it)(nIa:s1.heap.get? Ia=none)(nJa:s1.heap.get? Ja=none)(n1D:s1.heap.get? D=none)(n1C:s1.heap.get? Cl=none)(iaC:Cl≠Ia)(jaC:Cl≠Ja)(iaD:D≠Ia)(jaD:D≠Ja)(hDC:D≠Cl)(hcl:cenv.locals=Cl)(cne:∀x c,cenv.cells.lookup x=some c->c≠Ia/\c≠Ja/\c≠D)(F:∀acc' J2,kk acc' J2->∀O' s' vals k,al O1 O' s1 s'->au C O' J2 s'.heap->Off C O' s'.heap D->Off C O' s'.heap Cl->(∃m,s'.heap.Ns Cl m)->s'.heap.get? D=some (listOf vals k)->ai (ac C O') acc' vals.toList->compPost (M C) A E use Q (.ref D) Cl (.ok .next) s')(I0:ux C it N Ia Ja D Cl O1 s1 cenv (pV (runA T mt cs tgt) (runT T mt cs ifs) (bu T mt cs elt) it N kk) N s4):
 codeAny (M C) A (.compLoop (.ListComp elt [⟨tgt,iter,ifs,0⟩] scope pos) 0 (.ref Ia) (.ref D) cenv) (compPost (M C) A E use Q (.ref D) Cl) s4:=by
 refine uu (ux C it N Ia Ja D Cl O1 s1 cenv (pV (runA T mt cs tgt) (runT T mt cs ifs) (bu T mt cs elt) it N kk)) ?_ N I0;rintro n s' ⟨hn,S,I',W',ec⟩;rename_i O' J' cloc acc vals k;cases n with
 |zero=>refine wk (it:=it) R.handled I' S.t S.oi S.oj ec.1 (Nat.sub_zero N) fun s'' T I''=>?_;have kp:∀b o,b≠Ia->b≠Ja->s'.heap.get? b=some o->s''.heap.get? b=some o:=T.keep;refine ae (W'.ns) ?_;rintro m' hn' _;rw[hcl]at hn';have hD':=kp _ _ iaD jaD S.hd;refine F _ _ ec.2 O' s'' vals k (bH.step (L:=[]) S.rx.x T nIa nJa).nil I'' (S.od.step T ⟨_,hD'⟩) ?_ ⟨m',qY hn' fun o e=>kp _ o iaC jaC e⟩ hD' S.r;refine eX (W'.off Cl (.head _)) ?_;rintro g1 g2 g3;refine aW (hn') ?_;rintro o _ _ e _;exact⟨g1,g2,g3,o,kp _ o iaC jaC e⟩
 |succ n=>
  refine y5 (ec) ?_;rintro⟨clen,lacc⟩ v an ev ea;have inC:∀{x:Addr},Cl≠x->x∉[Cl]:=fun h q=>by cases q with|head=>exact h rfl|tail _ q=>exact nomatch q
  refine tF (it:=it) (N:=N) I' S.t S.oi S.oj clen (ar1 [_,_,_] [] 0 634745231812144 (fp (n:=N) (m:=n+1) (ar1 [_,_] [] 0 585508619568 hn art)) art) ev (Lx e1) fun μa sa val Ta Ia' ta OIa OJa rv=>?_;have Sa:=S.next Ta nIa nJa iaD jaD ta OIa OJa;have Wa:=W'.step Ta (inC iaC) (inC jaC) fun x c hx=>⟨(cne x c hx).1,(cne x c hx).2.1⟩;refine htgt.run ea rv R Ia' Wa fun cloc1 σa a2 eb μb sb RXb Ib Wb=>?_;have Sb:=Sa.more RXb (inC iaC) (inC jaC) (inC (Ne.symm hDC)) fun a ha=>by cases ha with|head=>exact n1C|tail _ q=>exact nomatch q
  refine hifs.tests eb R Ib Wb fun b σb a3 ec μc sc Rc Ic=>?_;have Sc:=Sb.far Rc;have Wc:=Wb.keeps Rc;have hidx:N-(n+1)+1=N-n:=Ud (ar2 [_,_,_,_] [] 0 628688435376244705840 (fp (n:=N) (m:=n+1) (ar1 [_,_] [] 0 585508619568 hn art)) (iX (n:=N) (m:=n) (ar1 [_,_] [] 0 587760944 hn art)) art) (ar2 [_,_,_,_] [] 0 47904228024809474608 (fp (n:=N) (m:=n) (ar1 [_,_] [] 0 587760944 hn art)) (iX (n:=N) (m:=n+1) (ar1 [_,_] [] 0 585508619568 hn art)) art);rw[hidx]at Sc;cases b with|false=>rw[if_neg TT];exact⟨n,UO _,.mk (UU ‹_›) Sc Ic Wc ec⟩|true=>
   rw[if_pos rfl];refine helt.run ec R Ic Wc fun y σd a4 ed μd sd yv Rd Id rd=>?_;have Sd:=Sc.far Rd;have hsz:vals.size<=sizeLine:=by have h2:=dW lacc;have h3:=bL Sd.r;rw[U8];exact Tk (TF (Ul ‹_›)) (Tk ‹_› (by decide))
   refine wpAny_list_append_plain (hsz:=hsz) ⟨k,Sd.hd⟩ fun h' hp hs=>?_;obtain⟨k',hp⟩:=hp;have T5:lg D D μd μd sd { sd with heap:=h'}:=⟨rfl,fun _ h=>h,fun _ h=>.inl h,fun b o hb _ e=>(hs.2 b hb).trans e,⟨h',sd.toks,rfl⟩⟩;have X5:=T5.x fun a ha=>by rcases ha with rfl|rfl<;>exact⟨_,hp⟩
   have inD:∀{x:Addr},D≠x->x∉[D,D]:=fun h q=>by
    cases q with|head=>exact h rfl|tail _ q=>
     cases q with|head=>exact h rfl|tail _ q=>exact nomatch q
   refine⟨n,UO _,.mk (acc:=acc++[y]) (vals:=vals.push yv) (UU ‹_›) ⟨Sd.rx.thenX X5 fun a ha=>?_,Sd.t.keeps X5 Sd.oi Sd.oj (inD iaD) (inD jaD),Sd.oi.keeps X5,Sd.oj.keeps X5,Sd.od.keeps X5,hp,?_⟩ (Id.step T5 Sd.od Sd.od fun p hp hm=>absurd hp hm) ((Wc.keeps Rd).step T5 (inC (Ne.symm hDC)) (inC (Ne.symm hDC)) fun x c hx=>⟨(cne x c hx).2.2,(cne x c hx).2.2⟩) ed⟩
   . cases ha with|head=>exact n1D|tail _ q=>
      cases q with|head=>exact n1D|tail _ q=>exact nomatch q
   .rw[Array.toList_push];exact Sd.r.append (.cons rd .nil)
set_option tactic.hygienic true in
theorem wx(K:aU C){elt tgt iter:Expr}{ifs:List Expr}{scope:Scope}{pos pos':Pos}(hi:aH C T mt cs d iter)(htgt:eu C T mt cs d tgt)(hifs:cO C T mt cs d ifs)(helt:aH C T mt cs d elt){A:Around}{L:List Addr}{env:Env}{loc:Loc}{J:Hp}{a:An}{k1:KQ}{O:Map}{s:Shared}{use:Option (Value->Sem Unit)}{Q:Value->Shared->Prop}{E:Value->Shared->Prop}(hok:t8 scope loc=true)(e0:bu T mt cs iter loc J a k1)(R:dp A d)(I:au C O J s.heap)(W:aP C L O env loc s.heap)(ρ:∀v J1 a1,k1 v J1 a1->∃it N kk,gZ J1 v=some it/\bD J1 it=some N/\pV (runA T mt cs tgt) (runT T mt cs ifs) (bu T mt cs elt) it N kk N (qv scope loc) J1 []/\∀acc' J2,kk acc' J2->∀O' s' D Cl,G0 C O O' J2 s s' D Cl acc'->compPost (M C) A E use Q (.ref D) Cl (.ok .next) s'):
 wpAny (M C) A (comprehension (.ListComp elt [⟨tgt,iter,ifs,0⟩] scope pos) scope env pos' (newList []) false (eval iter env) use) Q E s:=by
 obtain⟨cl,c1,c2,c3,c4,c5,c6,c7⟩:=CR (A:=A) (J:=J) (s:=s) W hok;refine wpAny_comprehension_free rfl (tJ e0 env) c1 c4 c6 ?_;refine hi.run e0 R I W fun v0 J1 a1 hk1 O1 s1 xv R1 I1 r1=>?_;obtain⟨it,N,kk,e1,e2,e3,F⟩:=ρ _ _ _ hk1;have W1:=W.keeps R1;refine um I1 e1 r1 fun s2 Ia Ja R2 I2 t2 nIa nJa OIa2 OJa2 self=>?_;have W2:=W1.keeps R2;refine Wg (wpAny_newFunctionEnv c5 (by intro y hy;simp at hy) (fun h₁ hns₁ hsb₁=>?_) c4);dsimp only at hns₁ hsb₁ ⊢;generalize hH2:s2.heap.push { cls:=.type "list",dict:=none,data:=.seq ([]:List Value).toArray}=ρ2 at hns₁ hsb₁ ⊢;generalize hD:s2.heap.objs.size=D;generalize hCl:ρ2.objs.size=Cl at hns₁ hsb₁ ⊢;have hC:Cl=D+1:=by rw[<-hCl,<-hH2,Heap.size_push,hD]
 have hDC:D≠Cl:=by rw[hC];exact Ux (UO _)
 have below:∀b o,s2.heap.get? b=some o->b≠Cl/\b≠D:=fun b o e=>by have:=UV e;rw[hD]at this;exact⟨by rw[hC];exact Ux (Nat.lt_succ_of_lt this),Ux this⟩
 have old:∀b o,s2.heap.get? b=some o->h₁.get? b=some o:=fun b o e=>hsb₁.extBut b o (below b o e).1 (Uf _ (hH2▸Uf _ e));have hacc:h₁.get? D=some (listOf #[] 0):=hsb₁.extBut _ _ hDC (Uf _ (by rw[<-hH2,<-hD];exact UQ _ rfl));have n2D:s2.heap.get? D=none:=hD▸g9 _;have n2C:s2.heap.get? Cl=none:=by
  cases q:s2.heap.get? Cl with|none=>rfl|some o=>exact absurd rfl (below _ o q).1
 have back:∀{x:Addr},s2.heap.get? x=none->s1.heap.get? x=none:=fun{x} h=>by
  cases q:s1.heap.get? x with|none=>rfl|some o=>
   by_cases hx:x∈O1.am
   .obtain⟨n,hn⟩:=U7 hx;have hl:n<J1.length:=I2.len▸(Tr.mp hn).1;refine ae (I2.cell n J1[n] _ (by simp[hl]) hn) ?_;rintro o ho _;rw[ho]at h;cases h
   .rw[R2.keep x o hx q]at h;cases h
 have back0:∀{x:Addr},s1.heap.get? x=none->s.heap.get? x=none:=fun{x} h=>by
  cases q:s.heap.get? x with|none=>rfl|some o=>
   by_cases hx:x∈O.am
   .obtain⟨n,hn⟩:=U7 (R1.le.mem hx);have hl:n<J1.length:=I1.len▸(Tr.mp hn).1;refine ae (I1.cell n J1[n] _ (by simp[hl]) hn) ?_;rintro o ho _;rw[ho]at h;cases h
   .rw[R1.keep x o hx q]at h;cases h
 have n1D:=back n2D;have n1C:=back n2C;generalize hs4:({ s2 with heap:=h₁,toks:=s2.toks+([]:List (Str×Value)).length}:Shared)=s4;have hh4:s4.heap=h₁:=by rw[<-hs4]
 have R24:al O1 O1 s2 s4:=by rw[<-hs4];exact al.at (t:=s2.toks+([]:List (Str×Value)).length) old
 have I4:au C O1 J1 s4.heap:=by rw[hh4];exact I2.at old
 have R14:=R2.trans R24;have neI:∀{a x:Addr},s2.heap.get? x=none->(∃o,s2.heap.get? a=some o)->a≠x:=fun{a x} h ⟨o,e⟩ q=>by rw[q,h]at e;cases e
 have iaD:=neI n2D OIa2.here;have iaC:=neI n2C OIa2.here;have jaD:=neI n2D OJa2.here;have jaC:=neI n2C OJa2.here;have OD4:Off C O1 s4.heap D:=jI (h':=s4.heap) I2 n2D ⟨_,hh4▸hacc⟩;have OC4:Off C O1 s4.heap Cl:=jI (h':=s4.heap) I2 n2C (by refine aW (hns₁) ?_;rintro o _ _ e _;exact⟨o,hh4▸e⟩);have OIa4:Off C O1 s4.heap Ia:=OIa2.keeps (L:=[]) R24.x;have OJa4:Off C O1 s4.heap Ja:=OJa2.keeps (L:=[]) R24.x;have t4:d6 C O1 s4.heap it 0 Ia Ja:=t2.keeps (L:=[]) R24.x OIa2 OJa2 (by simp) (by simp);generalize hcenv:({ newEnv scope Cl env.globals cl env.qual none .none (some env) builtinsNs with scope:=relabel scope env}:Env)=cenv;have cells2:∀x c,cl.lookup x=some c->env.cells.lookup x=some c:=fun x c h=>c2 (x,c) (mem_of_lookup h);have hcc:cenv.cells=cl:=by rw[<-hcenv];rfl
 have hck:∀x,cenv.kindOf x=(relabel scope env).names.lookup x:=fun x=>by rw[<-hcenv];rfl
 have hcl:cenv.locals=Cl:=by rw[<-hcenv];rfl
 have W4:aP C [Cl] O1 cenv (qv scope loc) s4.heap:=by
  have W24:=W2.keeps R24;refine ae (W24.ns) ?_;rintro m' hn' hs';refine⟨by rw[<-hcenv];exact c4,by rw[<-hcenv];exact W.glob,by rw[<-hcenv];exact W.bi,by rw[hcl];simp,fun a ha=>?_,fun a ha=>?_,fun x y c hx hy=>?_,fun x c hx=>?_,fun x c hx=>?_,_,by rw[hcl,hh4];exact hns₁,fun x sl hsl=>?_⟩
  .rw[Tw.mp ha];exact⟨OC4.am,OC4.Z,OC4.h₀⟩
  .rw[Tw.mp ha];exact OC4.here
  .rw[hcc]at hx hy;exact W.inj x y c (cells2 x c hx) (cells2 y c hy)
  .rw[hcc]at hx;rw[hcl];refine tz (W2.cells x c (cells2 x c hx)) ?_;rintro _ o e;exact(below c o e).1
  .rw[hcc]at hx;exact W24.cells x c (cells2 x c hx)
  . unfold qv at hsl;obtain⟨k,hk,rfl⟩:=mZ (α:=Nat) (β:=Nat) (f:=id) (k:=.local) (g:=fun y k=>match k with
     |.local=>.v none
     |.free=>OU (loc.lookup y)
     |.globalImplicit=>.g
     |_=>.x) hsl
    have hkx:cenv.kindOf x=some (if(k==NameKind.free&&env.scope.kind==.function&&env.kindOf x==some .cell)then .cell else k):=(hck x).trans (lq hk);cases k with
    |«local»=>exact hkx
    |globalImplicit=>exact hkx
    |free=>
     have hkx':cenv.kindOf x=some .cell\/cenv.kindOf x=some .free:=by
      split at hkx
      .exact .inl hkx
      .exact .inr hkx
     obtain⟨c,hc⟩:=c3 (x,.free) (mem_of_lookup hk) rfl;have hcl':=AS (g:=fun x=>env.cells.lookup x) c2 hc;have hce:=c2 _ hc;have hce:env.cells.lookup x=some c:=hce;dsimp only;cases hlv:loc.lookup x with|none=>trivial|some sl=>cases sl with
      |cv o=>cases o with
       |none=>trivial
       |some v=>obtain⟨val,w1,w2,c',w3,w4,w5⟩:=hs' _ _ hlv;have w3:env.cells.lookup x=some c':=w3;rw[hce]at w3;cases w3;exact⟨val,w1,hkx',c,by rw[hcc];exact hcl',w5⟩
      |f v=>obtain⟨val,w1,w2,c',w3,w5⟩:=hs' _ _ hlv;have w3:env.cells.lookup x=some c':=w3;rw[hce]at w3;cases w3;exact⟨val,w1,hkx',c,by rw[hcc];exact hcl',w5⟩
      |_=>trivial
    |_=>trivial
 have cne:∀x c,cenv.cells.lookup x=some c->c≠Ia/\c≠Ja/\c≠D:=fun x c hx=>by rw[hcc]at hx;obtain⟨_,o,e⟩:=W1.cells x c (cells2 x c hx);exact⟨fun q=>by(rw[q,nIa]at e;cases e),fun q=>by(rw[q,nJa]at e;cases e),fun q=>by(rw[q,n1D]at e;cases e)⟩
 have F':∀acc' J2,kk acc' J2->∀O' s' vals k,al O1 O' s1 s'->au C O' J2 s'.heap->Off C O' s'.heap D->Off C O' s'.heap Cl->(∃m,s'.heap.Ns Cl m)->s'.heap.get? D=some (listOf vals k)->ai (ac C O') acc' vals.toList->compPost (M C) A E use Q (.ref D) Cl (.ok .next) s' :=
  fun acc' J2 hk O' s' vals k RX I' oD oC hm hD' r=>F _ _ hk O' s' D Cl ⟨R1.trans RX,I',oD,oC,back0 n1D,back0 n1C,zq K I2 (by rw[hD];exact TB _),hDC,hm,vals,k,hD',r⟩
 have loop:codeAny (M C) A (.compLoop (.ListComp elt [⟨tgt,iter,ifs,0⟩] scope pos) 0 (.ref Ia) (.ref D) cenv) (compPost (M C) A E use Q (.ref D) Cl) s4 :=
  AT K htgt hifs helt R e1 nIa nJa n1D n1C (Ne.symm iaC) (Ne.symm jaC) (Ne.symm iaD) (Ne.symm jaD) hDC hcl cne F'
   (.mk (TB _) ⟨R14,by rw[UB];exact t4,OIa4,OJa4,OD4,hh4▸hacc,.nil⟩ I4 W4 e3)
 have hEnv:∀x:Env,x=newEnv scope Cl env.globals cl env.qual none .none (some env) builtinsNs->({ x with scope:=relabel scope env}:Env)=cenv:=fun x hx=>by rw[hx];exact hcenv
 have goal:codeAny (M C) A (.compStart (.ListComp elt [⟨tgt,iter,ifs,0⟩] scope pos) 0 (.ref Ia) (.ref D) cenv) (compPost (M C) A E use Q (.ref D) Cl) s4 :=
  codeAny_compStart_list loop (self s4 _ _ t4 loop)
 exact goal
theorem G1(K:aU C){elt tgt iter:Expr}{ifs:List Expr}{n:Int}{scope:Scope}{pos:Pos}(hi:aH C T mt cs d iter)(htgt:eu C T mt cs d tgt)(hifs:cO C T mt cs d ifs)(helt:aH C T mt cs d elt):
 aH C T mt cs d (.ListComp elt [⟨tgt,iter,ifs,n⟩] scope pos):=by
 refine⟨fun{A L env loc J a k O s Q E} e R I W P=>?_,fun{loc J a k} e=>?_⟩
 .refine eX (e) ?_;rintro rfl hok e;rw[eval_ListComp];refine wx K hi htgt hifs helt hok e R I W fun v J1 a1 hk=>?_;refine aW (jK hk) ?_;rintro x J2 r ⟨it,N,h1,h2,h3⟩ hk;refine⟨it,N,_,h1,h2,h3,fun acc' J3 hm O' s' D Cl X=>?_⟩;obtain⟨m,hn⟩:=X.ns;refine⟨m,hn,fun h' hs=>?_⟩;refine bw (X.list) ?_;rintro vals k hD rl;have S:lg Cl Cl O' O' s' { s' with heap:=h'}:=⟨rfl,fun _ h=>h,fun _ h=>.inl h,fun b o hb _ e=>(hs.2 b hb).trans e,⟨h',s'.toks,rfl⟩⟩;have I1:=X.inv.step S X.offC X.offC fun p hp hm=>absurd hp hm;have hD':=S.keep _ _ X.ne X.ne hD;have R1:al O O' s { s' with heap:=h'}:=(bH.step (L:=[]) X.reach.x S X.newC X.newC).nil;exact xM (s₁:={ s' with heap:=h'}) (h':=h') (tk:=s'.toks) K R1 I1 X.newD (X.offD.step S ⟨_,hD'⟩) X.low (fun b x _ e=>e) hD' rl hm.2 (P _ _ _ hk)
 .refine eX (e) ?_;rintro _ _ e;refine bp (hi.ad e) ?_;rintro _ _ _ h;refine aW (jK h) ?_;rintro _ _ _ _ h;exact⟨_,_,_,h⟩
end
section
variable{C:Ctx}{T:Tab}{mt:Pos->Bool}{cs:aG}{d:Nat}
theorem my.after{L:List Addr}{O O':Map}{s s':Shared}{J':Hp}{env:Env}{loc:Loc}{Q:Shared->Prop}(R:al O O' s s')(P:my C L O s J' env loc Q):my C L O' s' J' env loc Q:=fun O'' s'' R' I W=>P O'' s'' (R.x.trans R') I W
theorem my.afterX{L:List Addr}{O O':Map}{s s':Shared}{J':Hp}{env:Env}{loc:Loc}{Q:Shared->Prop}(R:bH L O O' s s')(P:my C L O s J' env loc Q):my C L O' s' J' env loc Q:=fun O'' s'' R' I W=>P O'' s'' (R.trans R') I W
theorem wy(x:Str)(p:Pos):eu C T mt cs d (.Name x p):=by
 refine⟨fun{A L env loc J a k v val O s Q E} e r R I W P=>?_⟩;have e:(match loc.put x v with|some l=>k l J a|Option.none=>False):=e;cases q:loc.put x v with|none=>rw[q]at e;exact e.elim|some l=>rw[q]at e;exact wpAny_assign_Name (xH I W q r (P _ _ _ e))
theorem wz(K:aU C)(TO:cM C T){o:Expr}{a:Str}{p:Pos}(ho:aH C T mt cs d o):eu C T mt cs d (.Attribute o a p):=by
 refine⟨fun{A L env loc J an k v val O s Q E} e r R I W P=>?_⟩;show wpAny _ _ (do
  let ov<-holding [val] (eval o env)
  standAt p.atName
  holding [val,ov] (setAttr ov a val)
  release [val,ov] []) _ _ _
 refine Tt (Uy (ho.run e R I W fun v1 J1 a1 h1 O1 s1 ov R1 I1 r1=>Tt (Vf (Tt (Uy ?_)))));refine bw (zf h1) ?_;rintro J2 a2 hs hk;exact Lv K TO I1 hs r1 (ac.mono R1.le _ r) fun O2 s2 R2 I2=>wpAny_release (P _ _ _ hk O2 s2 (R1.trans R2).x I2 (W.keeps (R1.trans R2)))
theorem xP{o i:Expr}{p:Pos}(ho:aH C T mt cs d o)(hi:aH C T mt cs d i):eu C T mt cs d (.Subscript o i p):=by
 refine⟨fun{A L env loc J an k v val O s Q E} e r R I W P=>?_⟩;show wpAny _ _ (do
  let ov<-holding [val] (eval o env)
  let iv<-holding [val,ov] (eval i env)
  standAt p
  holding [val,ov,iv] (setItem ov iv val)
  release (match(generalizing:=false) i with|.Slice _ _ none _=>[iv,val,ov] |_=>[val,ov,iv]) []) _ _ _
 refine Tt (Uy (ho.run e R I W fun v1 J1 a1 h1 O1 s1 ov R1 I1 r1=>Tt (Uy (hi.run h1 R I1 (W.keeps R1) fun v2 J2 a2 h2 O2 s2 iv R2 I2 r2=>Tt (Vf (Tt (Uy ?_)))))));refine bw (zf h2) ?_;rintro J3 a3 hs hk;exact CB I2 hs (ac.mono R2.le _ r1) r2 (ac.mono (R1.trans R2).le _ r) (by have:=R.units;exact ar1 [_,_] [] 0 13159489613865620588814655427349256934960 this art) fun O3 s3 R3 I3=>wpAny_release (P _ _ _ hk O3 s3 ((R1.trans R2).trans R3).x I3 (W.keeps ((R1.trans R2).trans R3)))
theorem lV{e:Expr}{es:List Expr}{v:V}{vs:List V}{loc l:Loc}(h:cn (e::es) (v::vs) loc=some l):∃x p l1,e=.Name x p/\loc.put x v=some l1/\cn es vs l1=some l:=by
 cases e with
 |Name x p=>refine ae (TD.mp h) ?_;rintro l1 h1 h2;exact⟨x,p,l1,rfl,h1,h2⟩
 |_=>cases h
theorem gi{es:List Expr}:∀{vs:List V}{loc l:Loc},cn es vs loc=some l->es.length=vs.length:=by
 induction es with
 |nil=>intro vs loc l h;cases vs with
  |nil=>rfl
  |cons _ _=>cases h
 |cons e es ih=>intro vs loc l h;cases vs with
  |nil=>cases e<;>cases h
  |cons v vs=>refine bt (lV h) ?_;rintro x p l1 rfl h1 h2;rw[Ug,Ug,ih h2]
theorem CT{A:Around}{L:List Addr}{env:Env}{E:Value->Shared->Prop}{es:List Expr}:∀{vs:List V}{vals:List Value}{loc loc':Loc}{J:Hp}{O:Map}{s:Shared}{Q:Unit->Shared->Prop},
 cn es vs loc=some loc'->ai (ac C O) vs vals->au C O J s.heap->aP C L O env loc s.heap->my C L O s J env loc' (Q ()) ->
 wpAny (M C) A (assignInOrder ((assignEach es env).map (·.2)) vals) Q E s:=by
 induction es with|nil=>intro vs vals loc loc' J O s Q e h I W P;have:=gi e;have:vs=[]:=Uv.mp this.symm;subst this;cases e;cases h;exact TN (P _ _ (.refl _ _ _) I W)|cons e0 es ih=>
  intro vs vals loc loc' J O s Q e h I W P;have:=gi e;cases vs with
  |nil=>cases this
  |cons v vs=>
   cases h with|cons h1 h2=>
   refine bt (lV e) ?_;rintro x p l1 rfl hl e;refine Tt (Uy (wpAny_assign_Name (xH I W hl h1 fun O1 s1 R1 I1 W1=>?_)));exact ih e (cN R1.le h2) I1 W1 (P.afterX R1)
theorem xQ{env:Env}{es:List Expr}:∀{vs:List V}{loc loc':Loc},cn es vs loc=some loc'->(assignEach es env).length=vs.length/\(assignEach es env).findIdx? (·.1)=none:=by
 induction es with|nil=>intro vs loc loc' e;exact⟨gi e,rfl⟩|cons e0 es ih=>
  intro vs loc loc' e;have:=gi e;cases vs with
  |nil=>cases this
  |cons v vs=>refine bt (lV e) ?_;rintro x p l1 rfl hl e;obtain⟨h1,h2⟩:=ih e;have h0:assignEach (.Name x p::es) env=(false,assign (.Name x p) env)::assignEach es env:=rfl;rw[h0];exact⟨by rw[Ug,Ug,h1],by rw[List.findIdx?_cons,h2];rfl⟩
theorem zv{es:List Expr}{n:Nat}{p:Pos}{v:V}{loc:Loc}{J:Hp}{a:An}{k:KL}(e:runA T mt cs (.Tuple es n p) v loc J a k):∃vs l,v=.tup vs/\cn es vs loc=some l/\k l J a:=by
 cases v with
 |tup vs=>
  have e:(match cn es vs loc with|some l=>k l J a|Option.none=>False):=e;cases q:cn es vs loc with|none=>rw[q]at e;exact e.elim|some l=>rw[q]at e;exact⟨_,_,rfl,q,e⟩
 |_=>exact False.elim e
theorem uy{es:List Expr}{k:Nat}{p:Pos}:eu C T mt cs d (.Tuple es k p):=by refine⟨fun{A L env loc J an k v val O s Q E} e r R I W P=>?_⟩;refine cW (zv e) ?_;rintro vs l rfl hl hk;simp only[ac]at r;refine bt (r) ?_;rintro a vals n rfl m t;have t:=aL.mp t;obtain⟨n1,n2⟩:=xQ (env:=env) hl;refine wpAny_assign_Tuple R.handled (cz I m) (by rw[n1,t.length];simp) n2 fun h' hx=>?_;have k':∀b x,s.heap.get? b=some x->h'.get? b=some x:=fun b x hb=>hx b x (Ux (UV hb)) hb;have R1:al O O s { s with heap:=h'}:=al.at (t:=s.toks) k';exact CT (s:={ s with heap:=h'}) hl t (I.at k') (W.keeps R1) ((P _ _ _ hk).after R1)
noncomputable def KR(C:Ctx)(T:Tab)(mt:Pos->Bool)(cs:aG)(d:Nat):Expr->Prop
 |.Attribute o _ _=>aH C T mt cs d o
 |.Slice lo hi st _=>jL C T mt cs d lo/\jL C T mt cs d hi/\jL C T mt cs d st
 |_=>True
structure m7(C:Ctx)(T:Tab)(mt:Pos->Bool)(cs:aG)(d:Nat)(e:Expr):Prop where
 eval:aH C T mt cs d e
 test:fw C T mt cs d e
 assign:eu C T mt cs d e
 parts:KR C T mt cs d e
structure zw(C:Ctx)(T:Tab)(mt:Pos->Bool)(cs:aG)(d:Nat)(g:Comprehension):Prop where
 tgt:m7 C T mt cs d g.target
 iter:m7 C T mt cs d g.iter
 ifs:cO C T mt cs d g.ifs
structure xR(C:Ctx)(T:Tab)(mt:Pos->Bool)(cs:aG)(d:Nat)(gs:List Comprehension):Prop where
 all:∀g∈gs,zw C T mt cs d g
theorem AU{g:Comprehension}{gs:List Comprehension}(h1:zw C T mt cs d g)(h2:xR C T mt cs d gs):xR C T mt cs d (g::gs):=⟨fun x h=>by
 rcases TS.mp h with rfl|h
 .exact h1
 .exact h2.all x h⟩
theorem og{e:Expr}(h:∀loc J a k,bu T mt cs e loc J a k->False):aH C T mt cs d e:=⟨fun e=>(h _ _ _ _ e).elim,fun e=>(h _ _ _ _ e).elim⟩
theorem eI{e:Expr}(h:∀loc J a k,bu T mt cs e loc J a k->False)(h2:∀v loc J a k,runA T mt cs e v loc J a k->False)(hp:KR C T mt cs d e):m7 C T mt cs d e :=
 ⟨og h,⟨fun e=>(h _ _ _ _ e).elim⟩,⟨fun e=>(h2 _ _ _ _ _ e).elim⟩,hp⟩
theorem CU(K:aU C)(TO:cM C T)(CS:iZ C cs d){f:Expr}{args:List Expr}{kws:List Keyword}{pos:Pos}(hf:m7 C T mt cs d f)(ha:cO C T mt cs d args)(hk:mA C T mt cs d kws):aH C T mt cs d (.Call f args kws pos):=by
 cases f<;>first
  |exact GX K TO CS ha hk
  |exact GY K TO CS hf.parts ha hk
  |exact og fun _ _ _ _ h=>h
theorem G2(K:aU C){o i:Expr}{p:Pos}(ho:m7 C T mt cs d o)(hi:m7 C T mt cs d i):aH C T mt cs d (.Subscript o i p):=by
 cases i<;>first
  |exact CM ho.eval hi.eval (fun _ _ _ _ h=>h)
  |exact CN K ho.eval hi.parts.1 hi.parts.2.1 hi.parts.2.2
  |exact og fun _ _ _ _ h=>h
mutual
theorem cu(K:aU C)(TO:cM C T)(CS:iZ C cs d):∀e:Expr,m7 C T mt cs d e
 |.BoolOp op es p=>have h:=listsOK K TO CS es;⟨AL h,wp h,d0 fun _ _ _ _ _ h=>h,trivial⟩
 |.NamedExpr ..=> eI (fun _ _ _ _ h=>h) (fun _ _ _ _ _ h=>h) trivial
 |.BinOp l op r p=>have h:=CI K (op:=op) (p:=p) (cu K TO CS l).eval (cu K TO CS r).eval;⟨h,fJ h fun _ _=>rfl,d0 fun _ _ _ _ _ h=>h,trivial⟩
 |.UnaryOp op x p=>by
  have hx:=cu K TO CS x;have h:aH C T mt cs d (.UnaryOp op x p):=GT hx.eval;refine⟨h,?_,d0 fun _ _ _ _ _ h=>h,trivial⟩;cases op with|Not=>exact CJ hx.test|_=>exact fJ h fun _ _=>rfl
 |.Lambda ..=> eI (fun _ _ _ _ h=>h) (fun _ _ _ _ _ h=>h) trivial
 |.IfExp t b o p=>
  have ht:=cu K TO CS t;have hb:=cu K TO CS b;have ho:=cu K TO CS o
  ⟨CK ht.test ht.eval hb.eval ho.eval,xI ht.test hb.test ho.test,d0 fun _ _ _ _ _ h=>h,trivial⟩
 |.Dict keys vals p=>have h:=GZ K (keys:=keys) (pos:=p) (listsOK K TO CS vals);⟨h,fJ h fun _ _=>rfl,d0 fun _ _ _ _ _ h=>h,trivial⟩
 |.Set ..=> eI (fun _ _ _ _ h=>h) (fun _ _ _ _ _ h=>h) trivial
 |.ListComp elt gens scope p=>by
  have he:=cu K TO CS elt;have hg:=gensOK K TO CS gens;have h:aH C T mt cs d (.ListComp elt gens scope p):=by
   rcases gens with _|⟨⟨tgt,iter,ifs,a⟩,_|⟨g2,gs⟩⟩
   .exact og fun _ _ _ _ h=>h
   .have:=hg.all _ (.head _);exact G1 K this.iter.eval this.tgt.assign this.ifs he.eval
   .exact og fun _ _ _ _ h=>h
  exact⟨h,fJ h fun _ _=>rfl,d0 fun _ _ _ _ _ h=>h,trivial⟩
 |.SetComp ..=> eI (fun _ _ _ _ h=>h) (fun _ _ _ _ _ h=>h) trivial
 |.DictComp ..=> eI (fun _ _ _ _ h=>h) (fun _ _ _ _ _ h=>h) trivial
 |.GeneratorExp ..=> eI (fun _ _ _ _ h=>h) (fun _ _ _ _ _ h=>h) trivial
 |.Await ..=> eI (fun _ _ _ _ h=>h) (fun _ _ _ _ _ h=>h) trivial
 |.Yield ..=> eI (fun _ _ _ _ h=>h) (fun _ _ _ _ _ h=>h) trivial
 |.YieldFrom ..=> eI (fun _ _ _ _ h=>h) (fun _ _ _ _ _ h=>h) trivial
 |.Compare l ops rs p=>have hl:=cu K TO CS l;have hr:=listsOK K TO CS rs;⟨xJ hl.eval hr,uq hl.eval hr,d0 fun _ _ _ _ _ h=>h,trivial⟩
 |.Call f args kws p=>have h:=CU K TO CS (pos:=p) (cu K TO CS f) (listsOK K TO CS args) (kwsOK K TO CS kws);⟨h,fJ h fun _ _=>rfl,d0 fun _ _ _ _ _ h=>h,trivial⟩
 |.FormattedValue ..=> eI (fun _ _ _ _ h=>h) (fun _ _ _ _ _ h=>h) trivial
 |.JoinedStr ..=> eI (fun _ _ _ _ h=>h) (fun _ _ _ _ _ h=>h) trivial
 |.Constant c k p=>have h:=CH c k p;⟨h,fJ h fun _ _=>rfl,d0 fun _ _ _ _ _ h=>h,trivial⟩
 |.Attribute o a p=>have ho:=cu K TO CS o;have h:=GV K TO (a:=a) (p:=p) ho.eval;⟨h,fJ h fun _ _=>rfl,wz K TO ho.eval,ho.eval⟩
 |.Subscript o i p=>have ho:=cu K TO CS o;have hi:=cu K TO CS i;have h:=G2 K (p:=p) ho hi;⟨h,fJ h fun _ _=>rfl,xP ho.eval hi.eval,trivial⟩
 |.Starred ..=> eI (fun _ _ _ _ h=>h) (fun _ _ _ _ _ h=>h) trivial
 |.Name x p=>have h:=GS K TO x p;⟨h,fJ h fun _ _=>rfl,wy x p,trivial⟩
 |.List es p=>have h:=GU K (p:=p) (listsOK K TO CS es);⟨h,fJ h fun _ _=>rfl,d0 fun _ _ _ _ _ h=>h,trivial⟩
 |.Tuple es k p=>have h:=CL (k:=k) (p:=p) (listsOK K TO CS es);⟨h,fJ h fun _ _=>rfl,uy,trivial⟩
 |.Slice lo hi st p=>eI (fun _ _ _ _ h=>h) (fun _ _ _ _ _ h=>h) ⟨partOK K TO CS lo,partOK K TO CS hi,partOK K TO CS st⟩
theorem listsOK(K:aU C)(TO:cM C T)(CS:iZ C cs d):∀es:List Expr,cO C T mt cs d es
 |[]=>AQ
 |e::es=>have h:=cu K TO CS e;xK h.eval h.test (listsOK K TO CS es)
theorem kwsOK(K:aU C)(TO:cM C T)(CS:iZ C cs d):∀ks:List Keyword,mA C T mt cs d ks
 |[]=>ur
 |⟨some n,e,p⟩::ks=>CP (cu K TO CS e).eval (kwsOK K TO CS ks)
 |⟨none,e,p⟩::ks=>CQ
theorem partOK(K:aU C)(TO:cM C T)(CS:iZ C cs d):∀o:Option Expr,jL C T mt cs d o
 |none=>AN
 |some e=>AO (cu K TO CS e).eval
theorem KS(K:aU C)(TO:cM C T)(CS:iZ C cs d):∀g:Comprehension,zw C T mt cs d g
 |⟨t,i,ifs,a⟩=>⟨cu K TO CS t,cu K TO CS i,listsOK K TO CS ifs⟩
theorem gensOK(K:aU C)(TO:cM C T)(CS:iZ C cs d):∀gs:List Comprehension,xR C T mt cs d gs
 |[]=>⟨fun _ h=>(nomatch h)⟩
 |g::gs=>AU (KS K TO CS g) (gensOK K TO CS gs)
end
end
section
variable{C:Ctx}{T:Tab}{mt:Pos->Bool}{cs:aG}{d:Nat}
structure i4(C:Ctx)(T:Tab)(mt:Pos->Bool)(cs:aG)(d:Nat)(st:Stmt):Prop where
 run:∀{A:Around}{L:List Addr}{env:Env}{loc:Loc}{J:Hp}{a:An}{k:KF}{O:Map}{s:Shared}{Q:Flow->Shared->Prop}{E:Value->Shared->Prop},
  Lh T mt cs st loc J a k->dp A d->au C O J s.heap->aP C L O env loc s.heap->(∀f l J' a',k f l J' a'->p0 C L O s J' env l f Q)->wpAny (M C) A (exec st env) Q E s
theorem p0.after{L:List Addr}{O O':Map}{s s':Shared}{J':Hp}{env:Env}{loc:Loc}{fl:Fl}{Q:Flow->Shared->Prop}(R:al O O' s s')(P:p0 C L O s J' env loc fl Q):p0 C L O' s' J' env loc fl Q:=fun O'' s'' f R' I W h=>P O'' s'' f (R.x.trans R') I W h
theorem p0.afterX{L:List Addr}{O O':Map}{s s':Shared}{J':Hp}{env:Env}{loc:Loc}{fl:Fl}{Q:Flow->Shared->Prop}(R:bH L O O' s s')(P:p0 C L O s J' env loc fl Q):p0 C L O' s' J' env loc fl Q:=fun O'' s'' f R' I W h=>P O'' s'' f (R.trans R') I W h
theorem uz{O:Map}{f:Flow}(h:zl C O .next f):f=.next:=h
theorem xU{O:Map}{f:Flow}(h:zl C O .brk f):f=.brk:=h
theorem uB{O:Map}{f:Flow}(h:zl C O .cont f):f=.cont:=h
theorem uC:gh C T mt cs d []:=⟨fun e R I W P=>wpAny_execs_nil (P _ _ _ _ e _ _ .next (.refl _ _ _) I W rfl)⟩
theorem sJ{st:Stmt}{ss:List Stmt}(h:i4 C T mt cs d st)(hs:gh C T mt cs d ss):gh C T mt cs d (st::ss):=by
 refine⟨fun e R I W P=>?_⟩;refine wpAny_execs_cons (h.run e R I W fun f l1 J1 a1 e O1 s1 fl R1 I1 W1 hf=>?_);cases f with
 |next=>cases uz hf;exact hs.run e R I1 W1 fun f l J a hk=>(P _ _ _ _ hk).afterX R1
 |brk=>cases xU hf;exact P _ _ _ _ e _ _ _ R1 I1 W1 rfl
 |cont=>cases uB hf;exact P _ _ _ _ e _ _ _ R1 I1 W1 rfl
 |ret v=>refine ae (hf) ?_;rintro val rfl hv;exact P _ _ _ _ e _ _ _ R1 I1 W1 ⟨val,rfl,hv⟩
theorem G3{e:Expr}{p:Pos}(h:aH C T mt cs d e):i4 C T mt cs d (.Expr e p):=by
 refine⟨fun{A L env loc J a k O s Q E} e1 R I W P=>?_⟩;obtain⟨hc,e1⟩:=e1;refine wpAny_Expr (h.run e1 R I W fun v J1 a1 h1 O1 s1 val R1 I1 r1=>?_) (by unfold interactive;rw[W.kind];rfl) ?_
 .cases v with|none=>simp only[ac]at r1;subst r1;exact P _ _ _ _ h1 _ _ .next R1.x I1 (W.keeps R1) rfl|_=>exact False.elim h1
 .cases e<;>first|rfl|exact absurd hc.symm TT
theorem AV{e:Expr}{p:Pos}(h:aH C T mt cs d e):i4 C T mt cs d (.Return (some e) p) :=
 ⟨fun e1 R I W P=>wpAny_Return_some (h.run e1 R I W fun v J1 a1 h1 O1 s1 v R1 I1 r1=>P _ _ _ _ h1 _ _ _ R1.x I1 (W.keeps R1) ⟨v,rfl,r1⟩)⟩
theorem Pe{t:Expr}{b o:List Stmt}{p:Pos}(ht:fw C T mt cs d t)(hb:gh C T mt cs d b)(ho:gh C T mt cs d o):i4 C T mt cs d (.If t b o p):=by
 refine⟨fun e1 R I W P=>?_⟩;refine wpAny_If (ht.run e1 R I W fun v J1 a1 h=>?_);refine cG (iO h) ?_;rintro c hc h1 h2;refine⟨c,hc,fun O1 s1 R1 I1=>?_⟩;cases c with
 |true=>exact(h1 rfl).elim fun a h=>hb.run h R I1 (W.keeps R1) fun f l J a hk=>(P _ _ _ _ hk).after R1
 |false=>exact(h2 rfl).elim fun a h=>ho.run h R I1 (W.keeps R1) fun f l J a hk=>(P _ _ _ _ hk).after R1
inductive zx(C:Ctx)(L:List Addr)(O0:Map)(s0:Shared)(env:Env)(F:Nat->Loc->Hp->Prop)(n:Nat)(s:Shared):Prop where
 |mk {O:Map}{l:Loc}{J:Hp} (X:bH L O0 O s0 s) (I:au C O J s.heap) (W:aP C L O env l s.heap) (e:F n l J):zx C L O0 s0 env F n s
theorem xV{t:Expr}{b:List Stmt}(ht:fw C T mt cs d t)(hb:gh C T mt cs d b){A:Around}{L:List Addr}{env:Env}{O:Map}{s s':Shared}{kk:Fl->Loc->Hp->Prop}{E0:Value->Shared->Prop}{G R0:Flow->Shared->Prop}{n:Nat}(R:dp A d)(h:zx C L O s env (fq (bu T mt cs t) (runSs T mt cs b) kk) n s')(hE:∀s1 O1 l J,kk .next l J->bH L O O1 s s1->au C O1 J s1.heap->aP C L O1 env l s1.heap->R0 .next s1/\G .brk s1)(hR:∀s1 O1 l J v val,kk (.ret v) l J->bH L O O1 s s1->au C O1 J s1.heap->aP C L O1 env l s1.heap->ac C O1 v val->G (.ret val) s1)(hG:∀m s1 f,m<n->zx C L O s env (fq (bu T mt cs t) (runSs T mt cs b) kk) m s1->f=.next\/f=.cont->G f s1):
 wpAny (M C) A (isTrue t env (eval t env)) (fun c s₂=>if c then wpAny (M C) A (execs b env) G E0 s₂ else wpAny (M C) A (execs [] env) R0 E0 s₂) E0 s':=by
 obtain⟨RX,I',W',ew⟩:=h;cases n with|zero=>exact False.elim ew|succ n=>
  obtain⟨an,ew⟩:=ew;refine ht.run ew R I' W' fun v J2 a2 h=>?_;obtain⟨c,hc,h1,h2⟩:=iO h;refine⟨c,hc,fun O2 s2 R2 I2=>?_⟩;have W2:=W'.keeps R2;have RX2:=RX.trans R2.x;cases c with
  |false=>exact(h2 rfl).elim fun _ hk=>wpAny_execs_nil (hE _ _ _ _ hk RX2 I2 W2).1
  |true=>
   refine(h1 rfl).elim fun a3 h1=>hb.run h1 R I2 W2 fun f l2 J4 a4 ew O3 s3 fl3 R3 I3 W3 hf=>?_;have RX3:=RX2.trans R3;cases f with|next=>cases uz hf;exact hG n _ _ (UO _) (.mk RX3 I3 W3 ew) (.inl rfl)|cont=>cases uB hf;exact hG n _ _ (UO _) (.mk RX3 I3 W3 ew) (.inr rfl)|brk=>cases xU hf;exact(hE _ _ _ _ ew RX3 I3 W3).2|ret v=>obtain⟨val,rfl,hv⟩:=hf;exact hR _ _ _ _ _ _ ew RX3 I3 W3 hv
theorem CV{t:Expr}{b:List Stmt}{p:Pos}(ht:fw C T mt cs d t)(hb:gh C T mt cs d b):i4 C T mt cs d (.While t b [] p):=by
 refine⟨fun{A L env loc J a k O s Q E} e1 R I W P=>?_⟩;obtain⟨fl,loc',J',a',e1,hk⟩:=zk e1;have P:=P _ _ _ _ hk;refine wpAny_While (codeAny_whileLoop (zx C L O s env (fq (bu T mt cs t) (runSs T mt cs b) (fun f' l' s'=>f'=fl/\l'=loc'/\s'=J'))) (fun n s' h=>xV ht hb R h ?_ ?_ ?_) mu (.mk (.refl _ _ _) I W e1))
 .rintro s1 O1 l J ⟨rfl,rfl,rfl⟩ X I W;exact⟨P _ _ .next X I W rfl,P _ _ .next X I W rfl⟩
 .rintro s1 O1 l J v val ⟨rfl,rfl,rfl⟩ X I W hv;exact P _ _ _ X I W ⟨val,rfl,hv⟩
 . rintro m s1 f hm h (rfl|rfl)
   .exact⟨m,hm,h⟩
   .exact⟨m,hm,h⟩
noncomputable def oneArg(X:V->Prop):List V->List (Str×V)->Prop
 |[v],[]=>X v
 |_,_=>False
theorem xW{X:V->Prop}:∀{vs:List V}{kw:List (Str×V)},oneArg X vs kw->∃v,vs=[v]/\kw=[]/\X v
 |[v],[],h=>⟨v,rfl,rfl,h⟩
 |[],_,h=>h.elim
 |_::_::_,_,h=>h.elim
 |[_],_::_,h=>h.elim
theorem AW{g:V}(h:t9 g=true):g=.ty "enumerate":=by
 cases g with|ty n=>exact Tx V.ty (Ub.mp h)|_=>cases h
noncomputable def G4(T:Tab)(mt:Pos->Bool)(cs:aG)(e:Expr):Prop:=∀loc J a k,y0 T mt cs e loc J a k=bu T mt cs e loc J a fun w J a=>xp (gZ J w) a fun it a=>k it J a
theorem xX(T:Tab)(mt:Pos->Bool)(cs:aG)(e:Expr):(∃f p e1 pos,e=.Call (.Name f p) [e1] [] pos)\/G4 T mt cs e:=by
 cases e with
 |Call f args kws pos=>
  cases f with
  |Name x p=>
   rcases args with _|⟨a,_|⟨b,args⟩⟩
   .exact .inr fun _ _ _ _=>rfl
   .cases kws with|nil=>exact .inl ⟨_,_,_,_,rfl⟩|cons _ _=>exact .inr fun _ _ _ _=>rfl
   .exact .inr fun _ _ _ _=>rfl
  |_=>exact .inr fun _ _ _ _=>rfl
 |_=>exact .inr fun _ _ _ _=>rfl
noncomputable def wC(C:Ctx)(k:It->Hp->An->Prop)(L:List Addr)(env:Env)(loc:Loc)(O:Map)(s:Shared)(Q:Value->Shared->Prop):Prop :=
 ∀it J1 a1,k it J1 a1->∀O1 s1 s2 Ia Ja,al O O1 s s1->aP C L O1 env loc s1.heap->al O1 O1 s1 s2->au C O1 J1 s2.heap->d6 C O1 s2.heap it 0 Ia Ja->s1.heap.get? Ia=none->s1.heap.get? Ja=none->Off C O1 s2.heap Ia->Off C O1 s2.heap Ja->Q (.ref Ia) s2
theorem AX(K:aU C)(TO:cM C T)(CS:iZ C cs d){f:Str}{p pos:Pos}{e1:Expr}(hL:cO C T mt cs d [e1]){A:Around}{L:List Addr}{env:Env}{loc:Loc}{J:Hp}{a:An}{k:It->Hp->An->Prop}{O:Map}{s:Shared}{Q:Value->Shared->Prop}{E:Value->Shared->Prop}(e0:y0 T mt cs (.Call (.Name f p) [e1] [] pos) loc J a k)(R:dp A d)(I:au C O J s.heap)(W:aP C L O env loc s.heap)(P:wC C k L env loc O s Q):
 wpAny (M C) A (do callWith pos (<-eval (.Name f p) env) [] (backTo pos (starEach [e1] env)) (backToKw pos (keywordEach [] env))) (fun x s₁=>wpAny (M C) A (pyIter x) Q E s₁) E s:=by
 obtain⟨pa,e0⟩:=e0;obtain⟨g,hg,e0⟩:=oa (P:=fun g=>bu T mt cs e1 loc J a fun v J a=>(match t9 g with
  |true=>(a7 J v).isSome=true/\k (.enm v) J a
  |false=>sG cs (mt pos) g [v] [] J a fun w J a=>xp (gZ J w) a fun it a=>k it J a)) e0
 refine Tt (ul K TO I W hg fun vf rf=>?_);have pa:[e1].all eV=true:=by show(eV e1&&true)=true;rw[pa];rfl
 cases hen:t9 g with
 |true=>
  rw[hen]at e0;have rf:ac C O (.ty "enumerate") vf:=AW hen▸rf;simp only[ac]at rf;subst rf;refine ob (a:=a) (k:=fun vs kw J a=>oneArg (fun v=>(a7 J v).isSome=true/\k (.enm v) J a) vs kw) K hL ur pa rfl e0 (wr _) R I W fun as kw J1 a1 h1 O1 s1 vs kwp R1 I1 W1 ra rk=>?_;obtain⟨v,rfl,rfl,hx,hk⟩:=xW h1;cases rk;cases ra with|cons r1 r2=>
  cases r2;obtain⟨xs,hx⟩:=Vx.mp hx;exact GQ I1 hx r1 fun s2 Ia Ja R2 I2 t2 n1 n2 μ1 μ2 self=>self s2 _ _ t2 (P _ _ _ hk O1 s1 s2 Ia Ja R1 W1 R2 I2 t2 n1 n2 μ1 μ2)
 |false=>
  rw[hen]at e0;have hcal:xL g:=by obtain⟨vs,_,_,h⟩:=hL.adE (k:=fun vs J a=>oneArg (fun v=>sG cs (mt pos) g [v] [] J a fun w J a=>xp (gZ J w) a fun it a=>k it J a) vs []) e0;obtain⟨v,rfl,_,h⟩:=xW h;exact qb h
  refine ob (a:=a) (k:=fun vs kw J a=>oneArg (fun v=>sG cs (mt pos) g [v] [] J a fun w J a=>xp (gZ J w) a fun it a=>k it J a) vs kw) K hL ur pa rfl e0 (zt TO rf hcal) R I W fun as kw J1 a1 h1 O1 s1 vs kwp R1 I1 W1 ra rk=>?_;obtain⟨v,rfl,rfl,h1⟩:=xW h1;refine zr K TO CS h1 (ac.mono R1.le _ rf) R I1 ra rk fun w J2 a2 h2 O2 s2 x R2 I2 r2=>?_;obtain⟨it,a3,hi,hk⟩:=zi h2;exact um I2 hi r2 fun s3 Ia Ja R3 I3 t3 n1 n2 μ1 μ2 _=>P _ _ _ hk O2 s2 s3 Ia Ja (R1.trans R2) (W1.keeps R2) R3 I3 t3 n1 n2 μ1 μ2
theorem CW(K:aU C)(TO:cM C T)(CS:iZ C cs d){e:Expr}(h:aH C T mt cs d e)(hl:∀f p e1 pos,e=.Call (.Name f p) [e1] [] pos->cO C T mt cs d [e1]){A:Around}{L:List Addr}{env:Env}{loc:Loc}{J:Hp}{a:An}{k:It->Hp->An->Prop}{O:Map}{s:Shared}{Q:Value->Shared->Prop}{E:Value->Shared->Prop}(e0:y0 T mt cs e loc J a k)(R:dp A d)(I:au C O J s.heap)(W:aP C L O env loc s.heap)(P:wC C k L env loc O s Q):
 wpAny (M C) A (eval e env) (fun x s₁=>wpAny (M C) A (pyIter x) Q E s₁) E s/\∀x,foldedSetIterable e env x=pure x:=by
 rcases xX T mt cs e with⟨f,p,e1,pos,rfl⟩|hg
 .exact⟨AX K TO CS (hl f p e1 pos rfl) e0 R I W P,fun _=>rfl⟩
 .rw[hg]at e0;refine⟨h.run e0 R I W fun v J1 a1 h1 O1 s1 x R1 I1 r1=>?_,tJ e0 env⟩;obtain⟨it,a2,hi,hk⟩:=zi h1;exact um I1 hi r1 fun s2 Ia Ja R2 I2 t2 n1 n2 μ1 μ2 _=>P _ _ _ hk O1 s1 s2 Ia Ja R1 (W.keeps R1) R2 I2 t2 n1 n2 μ1 μ2
structure CY(C:Ctx)(L:List Addr)(it:It)(Ia Ja:Addr)(O0:Map)(s0:Shared)(j:Nat)(O:Map)(s:Shared):Prop where
 x:bH L O0 O s0 s
 t:d6 C O s.heap it j Ia Ja
 oi:Off C O s.heap Ia
 oj:Off C O s.heap Ja
inductive uD(C:Ctx)(L:List Addr)(it:It)(N:Nat)(Ia Ja:Addr)(O0:Map)(s0:Shared)(env:Env)(F:Nat->Loc->Hp->Prop)(n:Nat)(s:Shared):Prop where
 |mk {O:Map}{l:Loc}{J:Hp} (hn:n<=N) (S:CY C L it Ia Ja O0 s0 (N-n) O s) (I:au C O J s.heap) (W:aP C L O env l s.heap) (e:F n l J):uD C L it N Ia Ja O0 s0 env F n s
theorem CY.more{L:List Addr}{it:It}{Ia Ja:Addr}{O0 O O2:Map}{s0 s s2:Shared}{j:Nat}(S:CY C L it Ia Ja O0 s0 j O s)(R:bH L O O2 s s2)(hI:Ia∉L)(hJ:Ja∉L):CY C L it Ia Ja O0 s0 j O2 s2 :=
 ⟨S.x.trans R,S.t.keeps R S.oi S.oj hI hJ,S.oi.keeps R,S.oj.keeps R⟩
theorem CZ{t:Expr}{b:List Stmt}(ht:eu C T mt cs d t)(hb:gh C T mt cs d b){A:Around}{L:List Addr}{env:Env}{O:Map}{s s':Shared}{it:It}{N:Nat}{Ia Ja:Addr}{kk:Fl->Loc->Hp->Prop}{E0:Value->Shared->Prop}{G R0:Flow->Shared->Prop}{n:Nat}(R:dp A d)(htgt:nU t it=true)(n1:s.heap.get? Ia=none)(n2:s.heap.get? Ja=none)(iaL:Ia∉L)(jaL:Ja∉L)(cne:∀x c,env.cells.lookup x=some c->c≠Ia/\c≠Ja)(h:uD C L it N Ia Ja O s env (iL (runA T mt cs t) (runSs T mt cs b) it N kk) n s')(hE:∀s1 O1 l J,kk .next l J->bH L O O1 s s1->au C O1 J s1.heap->aP C L O1 env l s1.heap->R0 .next s1/\G .brk s1)(hR:∀s1 O1 l J v val,kk (.ret v) l J->bH L O O1 s s1->au C O1 J s1.heap->aP C L O1 env l s1.heap->ac C O1 v val->G (.ret val) s1)(hG:∀m s1 f,m<n->uD C L it N Ia Ja O s env (iL (runA T mt cs t) (runSs T mt cs b) it N kk) m s1->f=.next\/f=.cont->G f s1):
 wpAny (M C) A (pyNext (.ref Ia)) (fun r s₁=>match r with
  |none=>wpAny (M C) A (execs [] env) R0 E0 s₁
  |some v=>wpAny (M C) A (letOwnedTupleGo t (.ref Ia) v) (fun _ s₁'=>wpAny (M C) A (assign t env v) (fun _ s₂=>wpAny (M C) A (execs b env) G E0 s₂) E0 s₁') E0 s₁) E0 s':=by
 obtain⟨hn,S,I',W',el⟩:=h;cases n with
 |zero=>exact wk (it:=it) R.handled I' S.t S.oi S.oj el.1 (Nat.sub_zero N) fun s'' X I''=>wpAny_execs_nil (hE _ _ _ _ el.2 (S.x.step X n1 n2) I'' (W'.step X iaL jaL cne)).1
 |succ n=>
  obtain⟨clen,v,an,ev,ea⟩:=el;refine tF (it:=it) (N:=N) I' S.t S.oi S.oj clen (ar1 [_,_,_] [] 0 634745231812144 (fp (n:=N) (m:=n+1) (ar1 [_,_] [] 0 585508619568 hn art)) art) ev htgt fun μa sa val Xa Ia' ta OIa OJa rv=>?_;have Sa:CY C L it Ia Ja O s (N-(n+1)+1) μa sa:=⟨S.x.step Xa n1 n2,ta,OIa,OJa⟩;have hidx:N-(n+1)+1=N-n:=Ud (ar2 [_,_,_,_] [] 0 628688435376244705840 (fp (n:=N) (m:=n+1) (ar1 [_,_] [] 0 585508619568 hn art)) (iX (n:=N) (m:=n) (ar1 [_,_] [] 0 587760944 hn art)) art) (ar2 [_,_,_,_] [] 0 47904228024809474608 (fp (n:=N) (m:=n) (ar1 [_,_] [] 0 587760944 hn art)) (iX (n:=N) (m:=n+1) (ar1 [_,_] [] 0 585508619568 hn art)) art);rw[hidx]at Sa;refine ht.run ea rv R Ia' (W'.step Xa iaL jaL cne) fun la σa a3 eb μb sb RXb Ib Wb=>?_;have Sb:=Sa.more RXb iaL jaL;refine hb.run eb R Ib Wb fun f lb σb a4 el μc sc fc RXc Ic Wc hf=>?_;have Sc:=Sb.more RXc iaL jaL;cases f with|next=>cases uz hf;exact hG n _ _ (UO _) (.mk (UU hn) Sc Ic Wc el) (.inl rfl)|cont=>cases uB hf;exact hG n _ _ (UO _) (.mk (UU hn) Sc Ic Wc el) (.inr rfl)|brk=>cases xU hf;exact(hE _ _ _ _ el Sc.x Ic Wc).2|ret v=>obtain⟨val,rfl,hv⟩:=hf;exact hR _ _ _ _ _ _ el Sc.x Ic Wc hv
theorem Ly(K:aU C)(TO:cM C T)(CS:iZ C cs d){t it:Expr}{b:List Stmt}{p:Pos}(hi:aH C T mt cs d it)(hl:∀f p e1 pos,it=.Call (.Name f p) [e1] [] pos->cO C T mt cs d [e1])(ht:eu C T mt cs d t)(hb:gh C T mt cs d b):i4 C T mt cs d (.For t it b [] p):=by
 refine⟨fun{A L env loc J a k O s Q E} e0 R I W P=>?_⟩;have RUN:=fun{Q:Value->Shared->Prop}{E:Value->Shared->Prop} P=>CW (Q:=Q) (E:=E) K TO CS hi hl e0 R I W P;refine wpAny_For (RUN (Q:=fun it' s₂=>codeAny (M C) A (.forLoop t it' b [] env) (fun r s'=>match r with|.ok f=>Q f s' |.error e=>cameBackBy (M C) A env E e s') s₂) (E:=E) ?_).1 (RUN (Q:=fun _ _=>True) (E:=E) fun _ _ _ _ _ _ _ _ _ _ _ _ _ _ _ _ _ _=>trivial).2;intro iter J1 a1 h1 O1 s1 s2 Ia Ja R1 W1 R2 I2 t2 n1 n2 μ1 μ2;obtain⟨fl,loc',J',a2,⟨N,hN,htgt,e1⟩,hk⟩:=zk h1;have P:=P _ _ _ _ hk;have ex1:∀{a x:Addr},s1.heap.get? x=none->(∃o,s1.heap.get? a=some o)->a≠x:=fun{a x} h ⟨o,e⟩ q=>by rw[q,h]at e;cases e
 refine codeAny_forLoop_any (uD C L iter N Ia Ja O1 s1 env (iL (runA T mt cs t) (runSs T mt cs b) iter N (fun f' l' s'=>f'=fl/\l'=loc'/\s'=J')))
  (fun n s' h=>CZ ht hb R htgt n1 n2 (fun q=>ex1 n1 (W1.here _ q) rfl) (fun q=>ex1 n2 (W1.here _ q) rfl) (fun x c hx=>⟨ex1 n1 (W1.cells x c hx).2,ex1 n2 (W1.cells x c hx).2⟩) h ?_ ?_ ?_) N
  (.mk (TB _) ⟨R2.x,by rw[UB];exact t2,μ1,μ2⟩ I2 (W1.keeps R2) e1)
 .rintro s3 O3 l J ⟨rfl,rfl,rfl⟩ X I W;exact⟨P _ _ .next (R1.x.trans X) I W rfl,P _ _ .next (R1.x.trans X) I W rfl⟩
 .rintro s3 O3 l J v val ⟨rfl,rfl,rfl⟩ X I W hv;exact P _ _ _ (R1.x.trans X) I W ⟨val,rfl,hv⟩
 . rintro m s3 f hm h (rfl|rfl)
   .exact⟨m,hm,h⟩
   .exact⟨m,hm,h⟩
end
section
variable{C:Ctx}{T:Tab}{mt:Pos->Bool}{cs:aG}{d:Nat}
theorem lr:∀{loc l1 l2:Loc}{x y:Str}{v w:V},loc.put x v=some l1->l1.put y w=some l2->x≠y->∃l3,loc.put y w=some l3/\l3.put x v=some l2
 |[],_,_,_,_,_,_,h,_,_=>by simp[Loc.put]at h
 |(z,sl)::r,l1,l2,x,y,v,w,h,k,ne=>by
  by_cases hx:x=z
  . subst hx;have hy:(y==x)=false:=Tv.mpr (Ne.symm ne);have fin:∀s1,(Loc.put ((x,sl)::r) x v=some ((x,s1)::r))->(∀r',Loc.put ((x,sl)::r') x v=some ((x,s1)::r'))->∃l3,Loc.put ((x,sl)::r) y w=some l3/\l3.put x v=some l2:=fun s1 e1 e2=>by rw[h]at e1;cases e1;unfold Loc.put at k;rw[hy,if_neg TT]at k;refine ae (TU.mp k) ?_;rintro r' hr rfl;refine⟨(x,sl)::r',?_,e2 r'⟩;unfold Loc.put;rw[hy,if_neg TT,hr];rfl
    have un:∀r',Loc.put ((x,sl)::r') x v=(match(generalizing:=false) sl with|.v _=>some ((x,.v (some v))::r')|.cv _=>some ((x,.cv (some v))::r')|_=>Option.none):=fun r'=>by unfold Loc.put;rw[TQ,if_pos rfl];try (cases sl<;>rfl)
    cases sl with|v _=>exact fin _ (un r) un|cv _=>exact fin _ (un r) un|_=>rw[un]at h;cases h
  . have hx':(x==z)=false:=Tv.mpr hx;have h0:=h;unfold Loc.put at h;rw[hx',if_neg TT]at h;refine ae (TU.mp h) ?_;rintro r1 hr1 rfl;by_cases hy:y=z
    . subst hy;have un:∀r',Loc.put ((y,sl)::r') y w=(match(generalizing:=false) sl with|.v _=>some ((y,.v (some w))::r')|.cv _=>some ((y,.cv (some w))::r')|_=>Option.none):=fun r'=>by unfold Loc.put;rw[TQ,if_pos rfl];try (cases sl<;>rfl)
      have fin:∀s1,l2=(y,s1)::r1->Loc.put ((y,sl)::r) y w=some ((y,s1)::r)->∃l3,Loc.put ((y,sl)::r) y w=some l3/\l3.put x v=some l2:=by rintro s1 rfl e2;refine⟨_,e2,?_⟩;unfold Loc.put;rw[hx',if_neg TT,hr1];rfl
      rw[un]at k;have e2:=un r;cases sl with|v _=>cases k;exact fin _ rfl e2|cv _=>cases k;exact fin _ rfl e2|_=>cases k
    . have hy':(y==z)=false:=Tv.mpr hy;unfold Loc.put at k;rw[hy',if_neg TT]at k;refine ae (TU.mp k) ?_;rintro r2 hr2 rfl;refine ae (lr hr1 hr2 ne) ?_;rintro r3 h3 h4;refine⟨(z,sl)::r3,?_,?_⟩
      .unfold Loc.put;rw[hy',if_neg TT,h3];rfl
      .unfold Loc.put;rw[hx',if_neg TT,h4];rfl
noncomputable def zy(t e:Expr)(r:Sem Bool):Prop:=r=pure false\/(r=pure true/\∃elt gens scope q x px,e=.ListComp elt gens scope q/\t=.Name x px)
theorem C0(t e:Expr):zy t e (pure false):=.inl rfl
theorem C5{e t:Expr}{line:Nat}{env:Env}{loc:Loc}{J:Hp}{a:An}{k:KQ}(h:bu T mt cs e loc J a k):
 zy t e (swapsWithSole [t] e line env):=by
 cases e with
 |ListComp elt gens scope q=>
  cases t with
  |Name x px=>
   have:swapsWithSole [.Name x px] (.ListComp elt gens scope q) line env=pure (env.blockKind==.function&&env.kindOf x==some .local&&px.line==(Expr.ListComp elt gens scope q).pos.line
    && !(scope.names.any fun(n,k)=>n==x&&(k==.local||k==.cell))):=rfl
   cases hb:(env.blockKind==.function&&env.kindOf x==some .local&&px.line==(Expr.ListComp elt gens scope q).pos.line
    && !(scope.names.any fun(n,k)=>n==x&&(k==.local||k==.cell)))with
   |true=>exact .inr ⟨by rw[this,hb],elt,gens,scope,q,x,px,rfl,rfl⟩
   |false=>rw[this,hb];exact C0 _ _
  |_=>exact C0 _ _
 |SetComp _ _ _ _=>exact False.elim h
 |DictComp _ _ _ _ _=>exact False.elim h
 |_=>exact C0 _ _
theorem xY{t:Expr}{v:V}{loc:Loc}{J:Hp}{a:An}{k:KL}(h:runA T mt cs t v loc J a k)(env:Env):(assignEach [t] env).map (·.2)=[assign t env]:=by cases t<;>first|rfl|exact False.elim h
theorem wE{f:Expr->Option Str}:∀{ts:List Expr},(ts.filterMap f).length=ts.length->∀t∈ts,∃x,f t=some x
 |[],_,_,h=>(nomatch h)
 |t::ts,e,x,hx=>by
  cases q:f t with|none=>rw[List.filterMap_cons_none q]at e;have:=List.length_filterMap_le f ts;simp at e;lia|some y=>
   rw[List.filterMap_cons_some q]at e;rcases TS.mp hx with rfl|hx
   .exact⟨y,q⟩
   .exact wE (by simpa using e) x hx
theorem zz{f:Expr->Option Str}:∀{ts:List Expr},(ts.filterMap f).length=ts.length->ts.map f=(ts.filterMap f).map some
 |[],_=>rfl
 |t::ts,e=>by obtain⟨x,hx⟩:=wE e t (.head _);rw[List.filterMap_cons_some hx]at e ⊢;rw[Uj,Uj,hx,zz (by simpa using e)]
theorem wF{ts:List Expr}{f:Expr->Option Str}(h1:ts.length=2\/ts.length=3)(h2:(ts.filterMap f).length=ts.length)(h3:(ts.filterMap f).eraseDups.length=(ts.filterMap f).length)(hf:∀t x,f t=some x->∃q,t=.Name x q):
 ((ts.filterMap f).length=2\/(ts.filterMap f).length=3)/\(ts.filterMap f).Nodup/\(ts.filterMap f).length=ts.length/\(∀(i:Nat) x,(ts.filterMap f)[i]?=some x->∃q,ts[i]?=some (.Name x q)):=by
 have hl:(ts.filterMap f).length=2\/(ts.filterMap f).length=3:=by rw[h2];exact h1
 refine⟨hl,?_,h2,fun i x hx=>?_⟩
 . generalize ts.filterMap f=ns at hl h3;rcases ns with _|⟨a,_|⟨b,_|⟨c,_|⟨e,ns⟩⟩⟩⟩
   .simp at hl
   .simp at hl
   . have:a≠b:=by rintro rfl;simp[Vl]at h3
     simp[this]
   . have g1:a≠b:=by
      rintro rfl;simp only[Vl,UZ,TQ,WX,V7,WG,Ww]at h3
      split at h3<;>simp[Vl]at h3
     have g2:a≠c:=by
      rintro rfl;simp only[Vl,UZ,TQ,WX,V7,WG,Ww]at h3
      split at h3<;>simp[Vl]at h3
     have g3:b≠c:=by
      rintro rfl;have e1:(!(b==a))=true:=by simpa using Ne.symm g1
      simp[Vl,Ne.symm g1]at h3
     simp[g1,g2,g3]
   .simp at hl
 .have:=zz h2;have e:=Tx (fun l=>l[i]?) this;simp only[Ty,hx,Option.map_some]at e;refine ae (TU.mp e) ?_;rintro t ht e;obtain⟨q,rfl⟩:=hf t x e;exact⟨q,ht⟩
noncomputable def uE(t e:Expr)(env:Env)(r:Sem (Option (List Str))):Prop:=r=pure none\/∃ts k p vs k' p' names,t=.Tuple ts k p/\e=.Tuple vs k' p'/\r=pure (some names)/\(names.length=2\/names.length=3)/\names.Nodup /\
 names.length=ts.length/\(∀(i:Nat) x,names[i]?=some x->∃q,ts[i]?=some (.Name x q))
theorem G5{α:Type}{x y z:α}{P:α->Prop}{c1 c2 c3 c4 c5:Bool}(h0:P x)(h5:c5=true->c4=true)(h:c1=false->c3=false->P y):P (if c1 then x else if c2 then x else if c3 then x else if c4 then x else if c5 then z else y):=by
 cases c1
 . cases c2
   . cases c3
     . cases c4
       . cases c5
         .exact h rfl rfl
         .exact absurd (h5 rfl) TT
       .exact h0
     .exact h0
   .exact h0
 .exact h0
theorem C6(t e:Expr)(env:Env):uE t e env (pure none):=.inl rfl
theorem xZ{t e:Expr}{env:Env}(ht:Cf t e=true)(hl:∀ts p,t≠.List ts p):uE t e env (swappedStores [t] e env):=by
 cases t with
 |Tuple ts k p=>
  cases e with
  |Tuple vs k' p'=>
   refine G5 (P:=uE (.Tuple ts k p) (.Tuple vs k' p') env) (c4:=vs.all (foldedForSure 8)) (c5:=vs.all (constantsAlone 8)) (C6 _ _ _) (fun h5=>?_) fun h1 h3=>.inr ⟨ts,k,p,vs,k',p',_,rfl,rfl,rfl,?_⟩
   .have ht:(vs.all (foldedForSure 8) || !(vs.all (constantsAlone 8)))=true:=ht;rw[h5]at ht;cases q:vs.all (foldedForSure 8)with|true=>rfl|false=>rw[q]at ht;cases ht
   . rw[VT,VT]at h1;rw[VT]at h3;have l:=h1.1.1;rw[Bool.not_eq_false',Wv,Ub,Ub]at l;refine wF l (bne_eq_false_iff_eq.mp h3.1) (bne_eq_false_iff_eq.mp h3.2) ?_;intro t x hx;cases t with
     |Name y q=>
      have hx:(if env.kindOf y==some .local&&q.line==(ts.head?.map (·.pos.line)).getD 0 then some y else none)=some x:=hx
      split at hx
      .cases hx;exact⟨q,rfl⟩
      .cases hx
     |_=>cases hx
  |_=>exact C6 _ _ _
 |List ts p=>exact absurd rfl (hl ts p)
 |_=>exact C6 _ _ _
noncomputable def ls:List Str->List V->Loc->Option Loc
 |[],[],loc=>some loc
 |x::xs,v::vs,loc=>(loc.put x v).bind (ls xs vs)
 |_,_,_=>none
theorem wG{A:Around}{L:List Addr}{env:Env}{E:Value->Shared->Prop}:∀{xs:List Str}{vs:List V}{vals:List Value}{loc loc':Loc}{J:Hp}{O:Map}{s:Shared}{Q:Unit->Shared->Prop},
 ls xs vs loc=some loc'->ai (ac C O) vs vals->au C O J s.heap->aP C L O env loc s.heap->my C L O s J env loc' (Q ()) ->
 wpAny (M C) A (assignInOrder (xs.map fun n=>bindName env n) vals) Q E s
 |[],[],_,_,_,_,_,_,_,e,h,I,W,P=>by cases e;cases h;exact TN (P _ _ (.refl _ _ _) I W)
 |x::xs,v::vs,_,_,_,_,_,_,_,e,h,I,W,P=>by
  cases h with|cons h1 h2=>
  refine ae (TD.mp e) ?_;rintro l hl e;refine Tt (Uy (wpAny_bindName (xH I W hl h1 fun O1 s1 R1 I1 W1=>?_)));exact wG e (cN R1.le h2) I1 W1 (P.afterX R1)
 |[],_::_,_,_,_,_,_,_,_,e,_,_,_,_=>by cases e
 |_::_,[],_,_,_,_,_,_,_,e,_,_,_,_=>by cases e
theorem AY{ts:List Expr}:∀{names:List Str}{vs:List V}{loc loc':Loc},names.length=ts.length->(∀(i:Nat) x,names[i]?=some x->∃q,ts[i]?=some (.Name x q))->cn ts vs loc=some loc'->ls names vs loc=some loc':=by
 induction ts with|nil=>intro names vs loc loc' hl hn e;have:names=[]:=Uv.mp hl;subst this;have:=gi e;have:vs=[]:=Uv.mp this.symm;subst this;exact e|cons t ts ih=>
  intro names vs loc loc' hl hn e;have hv:=gi e;cases vs with
  |nil=>cases hv
  |cons v vs=>
   cases names with|nil=>cases hl|cons n names=>refine bt (lV e) ?_;rintro x p l1 rfl h1 h2;obtain⟨q,hq⟩:=hn 0 n rfl;cases hq;show(loc.put n v).bind (ls names vs)=_;rw[h1];exact ih (by simpa using hl) (fun i x hx=>hn (i+1) x hx) h2
theorem ya{names:List Str}{vs:List V}{loc loc':Loc}(hl:names.length=2\/names.length=3)(nd:names.Nodup)(e:ls names vs loc=some loc'):ls names.reverse vs.reverse loc=some loc':=by
 rcases names with _|⟨a,_|⟨b,_|⟨c,_|⟨x,ns⟩⟩⟩⟩
 .simp at hl
 .simp at hl
 . rcases vs with _|⟨v,_|⟨w,_|⟨u,vs⟩⟩⟩
   .cases e
   .refine ae (TD.mp e) ?_;rintro l _ e;cases e
   . refine ae (TD.mp e) ?_;rintro l1 e1 e;refine ae (TD.mp e) ?_;rintro l2 e2 e;cases e;have ne:a≠b:=by simp at nd;exact nd
     refine ae (lr e1 e2 ne) ?_;rintro l3 h1 h2;show(loc.put b w).bind (fun l=>(l.put a v).bind (ls [] []))=_;rw[h1,Ue,h2];rfl
   .refine ae (TD.mp e) ?_;rintro l _ e;refine ae (TD.mp e) ?_;rintro l _ e;cases e
 . rcases vs with _|⟨v,_|⟨w,_|⟨u,_|⟨y,vs⟩⟩⟩⟩
   .cases e
   .refine ae (TD.mp e) ?_;rintro l _ e;cases e
   .refine ae (TD.mp e) ?_;rintro l _ e;refine ae (TD.mp e) ?_;rintro l _ e;cases e
   . refine ae (TD.mp e) ?_;rintro l1 e1 e;refine ae (TD.mp e) ?_;rintro l2 e2 e;refine ae (TD.mp e) ?_;rintro l3 e3 e;cases e;have ne:(a≠b/\a≠c)/\b≠c:=by simp at nd;exact⟨⟨nd.1.1,nd.1.2⟩,nd.2⟩
     refine ae (lr e2 e3 ne.2) ?_;rintro m1 g1 g2;refine ae (lr e1 g1 ne.1.2) ?_;rintro m2 g3 g4;refine ae (lr g4 g2 ne.1.1) ?_;rintro m3 g5 g6;show(loc.put c u).bind (fun l=>(l.put b w).bind (fun l=>(l.put a v).bind (ls [] [])))=_;rw[g3,Ue,g5,Ue,g6];rfl
   .refine ae (TD.mp e) ?_;rintro l _ e;refine ae (TD.mp e) ?_;rintro l _ e;refine ae (TD.mp e) ?_;rintro l _ e;cases e
 .simp at hl
theorem uF{elt:Expr}{gens:List Comprehension}{scope:Scope}{q:Pos}{loc:Loc}{J:Hp}{a:An}{k:KQ}(h:bu T mt cs (.ListComp elt gens scope q) loc J a k):∃tgt iter ifs,gens=[⟨tgt,iter,ifs,0⟩]:=by
 rcases gens with _|⟨⟨tgt,iter,ifs,n⟩,_|⟨g2,gs⟩⟩
 .exact False.elim h
 .obtain⟨rfl,h⟩:=h;exact⟨_,_,_,rfl⟩
 .exact False.elim h
theorem wH(K:aU C){O O':Map}{J J':Hp}{s s₁:Shared}{D:Addr}{xs:List V}{vals:Array Value}{n:Nat}{h':Heap}{tk:Nat}{t:Bool}{r:V}(R:al O O' s s₁)(I:au C O' J s₁.heap)(hD:s.heap.get? D=none)(μ:Off C O' s₁.heap D)(hl:D≠sysModules)(k:∀b x,b≠D->s₁.heap.get? b=some x->h'.get? b=some x)(ho:h'.get? D=some (listOf vals n))(rl:ai (ac C O') xs vals.toList)(e:bG t xs J=(r,J')):
 ∃O'',au C O'' J' h'/\al O O'' s { s₁ with heap:=h',toks:=tk}/\ac C O'' r (.ref D)/\∀a,a≠D->Off C O' s₁.heap a->Off C O'' h' a:=by
 cases t with
 |true=>
  cases e;obtain⟨h1,h2⟩:=lp (tk:=tk) K R I hD μ hl k ho (c:=.list xs) ⟨vals,n,rfl,rl⟩;refine⟨_,h1,h2,by simp only[ac];exact⟨_,rfl,by rw[<-I.len];simp⟩,fun a ha Oa=>⟨fun q=>?_,Oa.Z,Oa.h₀,?_⟩⟩
  . rcases TJ.mp q with q|q
    .exact Oa.am q
    .exact ha (Tw.mp q)
  .obtain⟨o,e⟩:=Oa.here;exact⟨o,k a o ha e⟩
 |false=>
  cases e;obtain⟨h1,h2⟩:=oe (tk:=tk) R I hD μ k ho;refine⟨_,h1,h2,?_,fun a ha Oa=>⟨Oa.am,fun p hp=>?_,Oa.h₀,?_⟩⟩
  .simp only[ac];exact⟨_,vals,n,rfl,.head _,aL.mpr (cN ⟨⟨[],by simp⟩,fun p hp=>.tail _ hp⟩ rl)⟩
  . rcases TS.mp hp with rfl|hp
    .exact Ne.symm ha
    .exact Oa.Z p hp
  .obtain⟨o,e⟩:=Oa.here;exact⟨o,k a o ha e⟩
structure G6(C:Ctx)(T:Tab)(mt:Pos->Bool)(cs:aG)(d:Nat)(e:Expr):Prop where
 of:∀elt tgt iter ifs scope q,e=.ListComp elt [⟨tgt,iter,ifs,0⟩] scope q->aH C T mt cs d elt/\zw C T mt cs d ⟨tgt,iter,ifs,0⟩
theorem Pf(K:aU C)(TO:cM C T)(CS:iZ C cs d)(e:Expr):G6 C T mt cs d e:=⟨fun elt tgt iter ifs scope q _=>⟨(cu K TO CS elt).eval,KS K TO CS _⟩⟩
theorem AZ(K:aU C)(TO:cM C T)(CS:iZ C cs d){t e:Expr}{p:Pos}:i4 C T mt cs d (.Assign [t] e p):=by
 have ht:=cu (mt:=mt) K TO CS t;have he:=cu (mt:=mt) K TO CS e;have hg:=Pf (mt:=mt) K TO CS e;refine⟨fun{A L env loc J a k O s Q E} e1 R I W P=>?_⟩;obtain⟨htup,e1⟩:=e1;have stores:(assignEach [t] env).map (·.2)=[assign t env]:=by refine bp (he.eval.ad e1) ?_;rintro _ _ _ h;exact xY h env
 have nolist:∀ts q,t≠.List ts q:=by rintro ts q rfl;refine bp (he.eval.ad e1) ?_;rintro _ _ _ h;exact h
 show wpAny _ _ (do
  standAt p
  if<-swapsWithSole [t] e p.line env then do
   evalThenUse e env fun v=>assignAll v ((assignEach [t] env).map (·.2))
   pure .next
  else do
   let v<-eval e env
   assignStores env v (<-swappedStores [t] e env) ((assignEach [t] env).map (·.2))) _ _ _
 rw[stores];refine Tt (Vf ?_);rcases C5 (t:=t) (line:=p.line) (env:=env) e1 with q|⟨q,elt,gens,scope,pp,x,px,rfl,rfl⟩
 . rw[q];refine Tt (TN ?_);rw[if_neg TT];refine Tt (he.eval.run e1 R I W fun v J1 a1 h1 O1 s1 val R1 I1 r1=>?_);have W1:=W.keeps R1;rcases xZ (env:=env) htup nolist with q|⟨ts,k',p1,vs,k'',p',names,rfl,rfl,q,n1,n2,n3,n4⟩
   .rw[q];refine Tt (TN ?_);show wpAny _ _ (do assign t env val;pure Flow.next) _ _ _;exact Tt (ht.assign.run h1 r1 R I1 W1 fun l J2 a2 hk O2 s2 R2 I2 W2=>TN (P _ _ _ _ hk _ _ .next (R1.x.trans R2) I2 W2 rfl))
   . rw[q];refine Tt (TN ?_);refine cW (zv h1) ?_;rintro ws l2 rfl e5 hk;simp only[ac]at r1;refine bt (r1) ?_;rintro a vals n rfl m tl;have tl:=aL.mp tl;have pr:=ya n1 n2 (AY n3 n4 e5);have hsz:names.length=vals.size:=by rw[n3,gi e5];exact bL tl
     show wpAny _ _ (do
      rule "assign.swapped-stores"
      let items<-unpackItems (.ref a) names.length none
      assignInOrder (names.reverse.map fun n=>bindName env n) items.reverse
      pure Flow.next) _ _ _
     rw[hsz];refine Tt (wpAny_rule (Tt (wpAny_unpackItems_tuple R.handled (cz I1 m) fun h' hx=>?_)));have k1:∀b x,s1.heap.get? b=some x->h'.get? b=some x:=fun b x hb=>hx b x (Ux (UV hb)) hb;have R2:al O1 O1 s1 { s1 with heap:=h'}:=al.at (t:=s1.toks) k1;exact Tt (wG (s:={ s1 with heap:=h'}) pr tl.reverse (I1.at k1) (W1.keeps R2) fun O3 s3 R3 I3 W3=>TN (P _ _ _ _ hk _ _ .next ((R1.trans R2).x.trans R3) I3 W3 rfl))
 . rw[q];refine Tt (TN ?_);rw[if_pos rfl];refine bp (uF e1) ?_;rintro tgt iter ifs rfl;obtain⟨he1,hg1⟩:=hg.of _ _ _ _ _ _ rfl;refine eX (e1) ?_;rintro _ hok e1;show wpAny _ _ (do
    (do
     let _<-comprehension (.ListComp elt [⟨tgt,iter,ifs,0⟩] scope pp) scope env (firstIterPos [⟨tgt,iter,ifs,0⟩] pp) (newList []) false (eval iter env) (some fun v=>assignAll v [assign (.Name x px) env])
     pure ())
    pure Flow.next) _ _ _
   refine Tt (Tt (wx K hg1.iter.eval hg1.tgt.assign hg1.ifs he1 hok e1 R I W fun v J1 a1 hk=>?_));refine aW (jK hk) ?_;rintro xv J2 r ⟨it,N,h1,h2,h3⟩ hk;refine⟨it,N,_,h1,h2,h3,fun acc' J3 hm O' s' D Cl X=>?_⟩;refine bw (X.list) ?_;rintro vals k' hD rl;obtain⟨m,hn⟩:=X.ns;have aCl:∀a,(∃o,s.heap.get? a=some o)->a≠Cl:=fun a ⟨o,e⟩ q=>by rw[q,X.newC]at e;cases e
   show wpAny _ _ (assign (.Name x px) env (.ref D)) _ _ _;refine jE (wH (s₁:=s') (h':=s'.heap) (tk:=s'.toks) K X.reach X.inv X.newD X.offD X.low (fun b x _ e=>e) hD rl hm.2) ?_;rintro O2 I2 R2 r2 off2;have R2:al O O2 s s':=R2;have OC:Off C O2 s'.heap Cl:=off2 Cl (Ne.symm X.ne) X.offC;have clL:Cl∉L:=fun q=>aCl _ (W.here _ q) rfl;have cne:∀x c,env.cells.lookup x=some c->c≠Cl:=fun x c hx=>aCl _ (W.cells x c hx).2;refine(ht.assign.run hk r2 R I2 (W.keeps R2) fun l J4 a4 hk O3 s3 R3 I3 W3=>?_);have OC3:=OC.keeps R3;refine⟨m,qY hn fun o e=>R3.keep _ o OC.am clL e,fun h' hs=>TN ?_⟩;have S:lg Cl Cl O3 O3 s3 { s3 with heap:=h'}:=⟨rfl,fun _ h=>h,fun _ h=>.inl h,fun b o hb _ e=>(hs.2 b hb).trans e,⟨h',s3.toks,rfl⟩⟩;exact TN (P _ _ _ _ hk _ _ .next ((R2.x.trans R3).step S X.newC X.newC) (I3.step S OC3 OC3 fun p hp hm=>absurd hp hm) (W3.step S clL clL fun x c hx=>⟨cne x c hx,cne x c hx⟩) rfl)
theorem bP{st:Stmt}(h:∀loc J a k,Lh T mt cs st loc J a k->False):i4 C T mt cs d st:=⟨fun e=>(h _ _ _ _ e).elim⟩
theorem G7(K:aU C)(TO:cM C T)(CS:iZ C cs d){t it:Expr}{b:List Stmt}{p:Pos}(hb:gh C T mt cs d b):i4 C T mt cs d (.For t it b [] p) :=
 Ly K TO CS (cu K TO CS it).eval (fun _ _ _ _ _=>listsOK K TO CS _) (cu K TO CS t).assign hb
mutual
theorem Lz(K:aU C)(TO:cM C T)(CS:iZ C cs d):∀st:Stmt,i4 C T mt cs d st
 |.Expr e p=>G3 (cu K TO CS e).eval
 |.Pass p=>⟨fun e R I W P=>wpAny_Pass (P _ _ _ _ e _ _ .next (.refl _ _ _) I W rfl)⟩
 |.Break p=>⟨fun e R I W P=>wpAny_Break (P _ _ _ _ e _ _ .brk (.refl _ _ _) I W rfl)⟩
 |.Continue p=>⟨fun e R I W P=>wpAny_Continue (P _ _ _ _ e _ _ .cont (.refl _ _ _) I W rfl)⟩
 |.Return none p=>⟨fun e R I W P=>wpAny_Return_none (P _ _ _ _ e _ _ (.ret .none) (.refl _ _ _) I W ⟨.none,rfl,by simp only[ac]⟩)⟩
 |.Return (some e) p=>AV (cu K TO CS e).eval
 |.Assign [t] e p=>AZ K TO CS
 |.Assign [] e p=>bP fun _ _ _ _ h=>h
 |.Assign (_::_::_) e p=>bP fun _ _ _ _ h=>h
 |.If t b o p=>Pe (cu K TO CS t).test (execsOK K TO CS b) (execsOK K TO CS o)
 |.While t b [] p=>CV (cu K TO CS t).test (execsOK K TO CS b)
 |.While _ _ (_::_) _=>bP fun _ _ _ _ h=>h
 |.For t it b [] p=>G7 K TO CS (execsOK K TO CS b)
 |.For _ _ _ (_::_) _=>bP fun _ _ _ _ h=>h
 |.FunctionDef ..=> bP fun _ _ _ _ h=>h
 |.AsyncFunctionDef ..=> bP fun _ _ _ _ h=>h
 |.ClassDef ..=> bP fun _ _ _ _ h=>h
 |.Delete ..=> bP fun _ _ _ _ h=>h
 |.TypeAlias ..=> bP fun _ _ _ _ h=>h
 |.AugAssign ..=> bP fun _ _ _ _ h=>h
 |.AnnAssign ..=> bP fun _ _ _ _ h=>h
 |.AsyncFor ..=> bP fun _ _ _ _ h=>h
 |.With ..=> bP fun _ _ _ _ h=>h
 |.AsyncWith ..=> bP fun _ _ _ _ h=>h
 |.Match ..=> bP fun _ _ _ _ h=>h
 |.Raise ..=> bP fun _ _ _ _ h=>h
 |.Try ..=> bP fun _ _ _ _ h=>h
 |.TryStar ..=> bP fun _ _ _ _ h=>h
 |.Assert ..=> bP fun _ _ _ _ h=>h
 |.Import ..=> bP fun _ _ _ _ h=>h
 |.ImportFrom ..=> bP fun _ _ _ _ h=>h
 |.Global ..=> bP fun _ _ _ _ h=>h
 |.Nonlocal ..=> bP fun _ _ _ _ h=>h
theorem execsOK(K:aU C)(TO:cM C T)(CS:iZ C cs d):∀ss:List Stmt,gh C T mt cs d ss
 |[]=>uC
 |st::ss=>sJ (Lz K TO CS st) (execsOK K TO CS ss)
end
theorem Pg(K:aU C)(TO:cM C T)(d:Nat):iZ C (mv T mt d) d:=Pc K TO (fun cs d CS ss=>execsOK K TO CS ss) d
end
noncomputable def fdO:Option Obj->FuncData
 |some ⟨_,_,.func fd,_⟩=>fd
 |_=>default
def aS(K:Frag)(a:Addr):FuncData:=fdO (K.lookup a)
noncomputable def aY(fd:FuncData)(shapes:List (Nat×List Str×List Src)):aD:=⟨fd.params.args.map (·.arg),shapes,fd.scope,match fd.body with|.stmts b=>b|_=>[]⟩
noncomputable def qc:Value->Str
 |.str s _=>s
 |_=>""
noncomputable def KT:Option Obj->List Str
 |some ⟨_,_,.seq vs _,_⟩=>vs.toList.map qc
 |_=>[]
noncomputable def o6(K:Frag):Value->List Str
 |.ref a=>KT (K.lookup a)
 |_=>[]
noncomputable def Ph(K:Frag)(f:Value->V):Option Obj->V
 |some ⟨_,_,.seq vs _,_⟩=>.tup (vs.toList.map f)
 |some ⟨_,_,.dict es _,_⟩=>.jd (es.toList.map fun e=>(qc e.key,o6 K e.val))
 |_=>.none
noncomputable def vOf(K:Frag):Nat->Value->V
 |0,_=>.none
 |n+1,v=>match v with
  |.bool b=>.bool b
  |.int i _=>.int i
  |.str s _=>.str s
  |.ref a=>Ph K (vOf K n) (K.lookup a)
  |_=>.none
def vAt(K:Frag)(x:Str):V:=match nsIn K mainGlobals x with
 |some (some v)=>vOf K 4 v
 |_=>.none
noncomputable def enF(c m:Str)(fd:aD):(Str×Str)×aD:=((c,m),fd)
noncomputable def enA(c m:Str)(a:Addr):(Str×Str)×Addr:=((c,m),a)
noncomputable def enC(c:Str)(as ms:List Str):Str×cF:=(c,⟨as,ms⟩)
noncomputable def enG(x:Str)(v:V):Str×V:=(x,v)
noncomputable def enK(x:Str)(a:Addr):Str×Addr:=(x,a)
noncomputable def pr:Program:=PySem.Challenge.rw_nt0061_02.row.toRowW.1
noncomputable def tI(i:Nat):Stmt:=(pr.main.body[i]?).getD (.Pass ⟨0,0,0,0⟩)
noncomputable def cB:Stmt->List Stmt
 |.ClassDef _ _ _ b ..=> b
 |_=>[]
noncomputable def cI(i j:Nat):Stmt:=((cB (tI i))[j]?).getD (.Pass ⟨0,0,0,0⟩)
noncomputable def cS:Stmt->Scope
 |.ClassDef _ _ _ _ _ _ s ..=> s
 |_=>pr.main.scope
noncomputable def fA:Stmt->Arguments
 |.FunctionDef _ a ..=> a
 |_=>⟨[],[],none,[],[],none,[]⟩
noncomputable def fB:Stmt->List Stmt
 |.FunctionDef _ _ b ..=> b
 |_=>[]
noncomputable def fS:Stmt->Scope
 |.FunctionDef _ _ _ _ _ _ s ..=> s
 |_=>pr.main.scope
noncomputable def fP:Stmt->Pos
 |.FunctionDef _ _ _ _ _ _ _ _ _ p=>p
 |_=>⟨0,0,0,0⟩
noncomputable abbrev sO:String->Str:=Str.ofString
noncomputable abbrev vs(s:String)(n:Nat):Value:=.str (Str.ofString s) n
noncomputable abbrev vr(n:Nat):Value:=.ref n
noncomputable abbrev vt(s:String):Value:=.type s
noncomputable abbrev vi(i:Int)(n:Nat):Value:=.int i n
noncomputable abbrev de(P:Params)(s:String)(n:Nat)(v:Value):DictEntry:=⟨PyData.keyHash P (Str.ofString s),.str (Str.ofString s) n,v⟩
noncomputable abbrev dl(P:Params)(s:String)(n r:Nat):DictEntry:=de P s n (.ref r)
noncomputable abbrev oB(c:Value)(d:Data):Obj:=⟨c,none,d,List.toArray []⟩
noncomputable abbrev oT(l:List Value):Obj:=⟨.type "tuple",none,.seq (List.toArray l) 0,List.toArray []⟩
noncomputable abbrev PO:=Params->PySem.Obj
noncomputable abbrev TP:=Params->BT
noncomputable abbrev q(o:PO)(l r:TP):TP:=fun P=>.node (o P) (l P) (r P)
noncomputable abbrev e:TP:=fun _=>.nil
noncomputable abbrev f(o:PO):TP:=q o e e
noncomputable def hq0:PO:=fun _=>(oT [])
noncomputable def hq1:PO:=fun _=>(oB Value.none (Data.fields (List.toArray [])))
noncomputable def hq2(x0:String)(x1 x2 x3:Nat)(x4:Int)(x5 x6:Nat)(x7:Int)(x8:Nat):PO:=fun _=>(oB (vt "code") (Data.fields (List.toArray [(vs x0 x1),(vs x0 x2),(vs "/claim/cut.py" x3),(vi x4 0),(vi 0 0),(vi 0 0),(vi 0 0),(vi 0 0),(vr x5),(Value.bool Bool.false),(vi 181 0),(vr x6),Value.none,Value.none,Value.none,Value.none,(vi x7 0),(vi x4 0),(vs "/claim/cut.py" x8)])))
noncomputable def hq3(x0 x1:Nat)(x2:String)(x3:Nat):PO:=fun _=>(Obj.mk (vt "frame") none Data.plain (List.toArray [(Option.some (vr x0)),(Option.some (vr 3)),(Option.some (vr x1)),none,(Option.some (vs x2 x3)),none,(Option.some (vr 0))]))
noncomputable def hq4(x0:String)(x1 x2:Nat):PO:=fun _=>(oB Value.none (Data.func (FuncData.mk (sO x0) (sO x0) (fA (tI x1)) (FuncBody.stmts (fB (tI x2))) (fS (tI x2)) 0 [] Value.none Value.none Value.none Value.none none Value.none Value.none 0)))
noncomputable def hq5(x0:String)(x1:Nat)(x2:String)(x3 x4:Nat)(x5 x6:Int)(x7 x8 x9 x10 x11:Nat)(x12:Int)(x13:Nat):PO:=fun _=>(oB (vt "code") (Data.fields (List.toArray [(vs x0 x1),(vs x2 x3),(vs "/claim/cut.py" x4),(vi x5 0),(vi x6 0),(vi 0 0),(vi 0 0),(vi 3 0),(vr x7),(Value.bool Bool.true),(vi 181 0),(vr x8),Value.none,(vr x9),(vr x10),(vr x11),(vi x12 0),(vi x5 0),(vs "/claim/cut.py" x13)])))
noncomputable def hq6(x0:String)(x1 x2:Nat)(x3:String)(x4 x5:Nat):PO:=fun _=>(oB (vt "function") (Data.func (FuncData.mk (sO x0) (sO x0) (fA (tI x1)) (FuncBody.stmts (fB (tI x2))) (fS (tI x2)) 3 [] Value.none Value.none Value.none (vs x3 x4) none (vr x5) Value.none 0)))
noncomputable def hq7:PO:=fun _=>(oB (vt "builtin_function_or_method") (Data.fields (List.toArray [(Value.builtin "type.__prepare__"),(vt "type")])))
noncomputable def hq8(x0:String)(x1:Nat)(x2:String)(x3:Nat):PO:=fun _=>(oT [(vs x0 x1),(vs x2 x3)])
noncomputable def hq9(x0 x1:String)(x2 x3:Nat):PO:=fun _=>(oB Value.none (Data.func (FuncData.mk (sO x0) (sO x1) (fA (cI x2 x3)) (FuncBody.stmts (fB (cI x2 x3))) (fS (cI x2 x3)) 0 [] Value.none Value.none Value.none Value.none none Value.none Value.none 0)))
noncomputable def G8(x0 x1:String)(x2 x3 x4:Nat)(x5:String)(x6 x7:Nat):PO:=fun _=>(oB (vt "function") (Data.func (FuncData.mk (sO x0) (sO x1) (fA (cI x2 x3)) (FuncBody.stmts (fB (cI x2 x3))) (fS (cI x2 x3)) 3 [] (vr x4) Value.none Value.none (vs x5 x6) none (vr x7) Value.none 0)))
noncomputable def wI(x0 x1:Nat):PO:=fun _=>(oB (vt "getset_descriptor") (Data.fields (List.toArray [(vs "__weakref__" x0),(vr x1),(Value.builtin "ExceptionGroup.__weakref__"),Value.none])))
noncomputable def uG(x0:Nat):PO:=fun _=>(oB (vt "super") (Data.fields (List.toArray [(vr x0),(vr x0),(vr x0)])))
noncomputable def uI(x0:Nat):PO:=fun _=>(oB (vt "builtin_function_or_method") (Data.fields (List.toArray [(Value.builtin "object.__init_subclass__"),(vr x0)])))
noncomputable def jM(x0:String)(x1:Nat)(x2:String)(x3:Nat)(x4:String)(x5:Nat)(x6:String)(x7:Nat):PO:=fun _=>(oT [(vs x0 x1),(vs x2 x3),(vs x4 x5),(vs x6 x7)])
noncomputable def yb(x0:String)(x1 x2 x3 x4:Nat):PO:=fun _=>(Obj.mk (vt "type") none (Data.cls (ClassData.mk (sO x0) [(vt "object")] [(vr x1),(vt "object")] x2 (sO x0) Bool.true [] [] Bool.false none Bool.false)) (List.toArray [none,none,(Option.some (vs x0 x3)),(Option.some (vs x0 x4)),(Option.some (Value.builtin "object.__new__")),(Option.some (Value.bool Bool.true))]))
noncomputable def yc(x0 x1:Nat):PO:=fun _=>(oB (vt "getset_descriptor") (Data.fields (List.toArray [(vs "__dict__" x0),(vr x1),(Value.builtin "function.__dict__"),(Value.builtin "function.__dict__#set")])))
noncomputable def i5(x0 x1:String)(x2 x3:Nat)(x4:String)(x5 x6:Nat):PO:=fun _=>(oB (vt "function") (Data.func (FuncData.mk (sO x0) (sO x1) (fA (cI x2 x3)) (FuncBody.stmts (fB (cI x2 x3))) (fS (cI x2 x3)) 3 [] Value.none Value.none Value.none (vs x4 x5) none (vr x6) Value.none 0)))
noncomputable def uJ(x0:String)(x1:Nat)(x2:String)(x3 x4:Nat)(x5 x6:Int)(x7 x8 x9:Nat)(x10:Int)(x11:Nat):PO:=fun _=>(oB (vt "code") (Data.fields (List.toArray [(vs x0 x1),(vs x2 x3),(vs "/claim/cut.py" x4),(vi x5 0),(vi x6 0),(vi 0 0),(vi 0 0),(vi 3 0),(vr x7),(Value.bool Bool.true),(vi 181 0),(vr x8),Value.none,Value.none,Value.none,(vr x9),(vi x10 0),(vi x5 0),(vs "/claim/cut.py" x11)])))
def o45:=hq2 "<module>" 182 183 184 1 11 12 185 186
def o46:=hq3 13 3 "__main__" 164
noncomputable def o49:PO:=fun P=>(oB Value.none (Data.dict (List.toArray [(de P "type.__subclasses__.Exception.0" 223 (vi 39 0)),(de P "type.__subclasses__.Exception.n" 224 (vi 1 0))]) 2))
noncomputable def o54:PO:=fun P=>(oT [(vs "k" 190)])
def o56:=hq4 "_wall" 0 0
def o57:=hq5 "_wall" 187 "_wall" 188 189 1 1 15 16 17 18 19 191 192
def o58:=hq6 "_wall" 0 0 "__main__" 164 20
noncomputable def o59:PO:=fun P=>(oT [(vt "Exception")])
noncomputable def o61:PO:=fun P=>(oB (vt "dict") (Data.dict (List.toArray [(de P "__module__" 205 (vs "unicore.base" 194)),(de P "__qualname__" 207 (vs "UniError" 206)),(de P "__firstlineno__" 209 (vi 6 208)),(dl P "__init__" 217 36),(dl P "__static_attributes__" 219 37)]) 5))
noncomputable def o63:PO:=fun P=>(oB Value.none (Data.fields (List.toArray [(vi 8 0),(vi 4 0),(vr 35)])))
def o64:=hq2 "UniError" 200 201 202 6 25 26 203 204
def o65:=hq3 27 24 "unicore.base" 194
noncomputable def o66:PO:=fun P=>(oT [Value.none])
def o69:=hq8 "self" 213 "told" 214
def o71:=hq9 "__init__" "UniError.__init__" 3 0
def o72:=hq5 "__init__" 210 "UniError.__init__" 211 212 8 2 30 31 32 33 34 215 216
def o73:=G8 "__init__" "UniError.__init__" 3 0 29 "unicore.base" 194 35
noncomputable def o74:PO:=fun P=>(oT [(vs "told" 218)])
noncomputable def o75:PO:=fun P=>(oB (vt "dict") (Data.dict (List.toArray [(de P "__module__" 205 (vs "unicore.base" 194)),(de P "__firstlineno__" 209 (vi 6 208)),(dl P "__init__" 217 36),(dl P "__static_attributes__" 219 37),(dl P "__weakref__" 221 40),(de P "__doc__" 222 Value.none)]) 3))
def o77:=wI 220 39
def o78:=uG 39
def o79:=uI 39
noncomputable def o80:PO:=fun P=>(oB (vt "dict") (Data.dict (List.toArray [(de P "__name__" 165 (vs "unicore.linebreaks" 254)),(de P "__doc__" 166 Value.none),(de P "__package__" 167 Value.none),(de P "__loader__" 168 (Value.builtin "__main__.__loader__#opaque")),(de P "__spec__" 169 Value.none),(dl P "__annotations__" 170 6),(dl P "__builtins__" 171 4),(de P "__file__" 173 (vs "/claim/cut.py" 172)),(de P "__cached__" 174 Value.none),(dl P "_wall" 193 21),(de P "MAX_CODE" 197 (vi 1114111 196)),(dl P "UniError" 226 39),(dl P "BadRule" 242 52),(dl P "place_by_half" 253 61),(dl P "LINE_HARD" 260 62),(dl P "LINE_BARE" 267 63),(dl P "LINE_MARKS" 270 64),(dl P "LINE_PLAIN" 274 65),(dl P "LINE_CLOSING" 280 66),(dl P "LINE_AHEAD_OF_OPENING" 290 67),(dl P "LINE_BEHIND_CLOSING" 305 68),(dl P "LINE_ALPHABETIC" 308 69),(dl P "LINE_IDEOGRAPHIC" 312 70)]) 23))
noncomputable def o81:PO:=fun P=>(oB Value.none (Data.fields (List.toArray [(vi 1 0),(vi 0 0),(vr 20),(vi 6 0),(vi 0 0),(vr 27),(vi 10 0),(vi 0 0),(vr 48),(vi 12 0),(vi 0 0),(vr 60)])))
noncomputable def o82:PO:=fun P=>(Obj.mk (vt "type") none (Data.cls (ClassData.mk (sO "UniError") [(vt "Exception")] [(vr 39),(vt "Exception"),(vt "BaseException"),(vt "object")] 38 (sO "UniError") Bool.true [] [(vr 52)] Bool.false none Bool.false)) (List.toArray [(Option.some (vr 22)),none,(Option.some (vs "UniError" 198)),(Option.some (vs "UniError" 206)),(Option.some (Value.builtin "Exception.__new__")),(Option.some (Value.bool Bool.true))]))
noncomputable def o83:PO:=fun P=>(oT [(vr 39)])
noncomputable def o85:PO:=fun P=>(oB (vt "dict") (Data.dict (List.toArray [(de P "__module__" 234 (vs "unicore.base" 194)),(de P "__qualname__" 236 (vs "BadRule" 235)),(de P "__firstlineno__" 238 (vi 10 237)),(dl P "__static_attributes__" 239 50)]) 4))
def o88:=hq2 "BadRule" 229 230 231 10 46 47 232 233
def o89:=hq3 48 45 "unicore.base" 194
noncomputable def o91:PO:=fun P=>(oB (vt "dict") (Data.dict (List.toArray [(de P "__module__" 234 (vs "unicore.base" 194)),(de P "__firstlineno__" 238 (vi 10 237)),(dl P "__static_attributes__" 239 50),(de P "__doc__" 240 Value.none)]) 2))
noncomputable def o92:PO:=fun P=>(Obj.mk (vt "type") none (Data.cls (ClassData.mk (sO "BadRule") [(vr 39)] [(vr 52),(vr 39),(vt "Exception"),(vt "BaseException"),(vt "object")] 51 (sO "BadRule") Bool.true [] [] Bool.false none Bool.false)) (List.toArray [(Option.some (vr 43)),none,(Option.some (vs "BadRule" 227)),(Option.some (vs "BadRule" 235)),(Option.some (Value.builtin "Exception.__new__")),(Option.some (Value.bool Bool.true))]))
def o93:=uG 52
def o94:=uI 52
noncomputable def o97:PO:=fun P=>(oT [(vs "firsts" 246),(vs "number" 247),(vs "low" 248),(vs "high" 249),(vs "middle" 250)])
def o99:=hq4 "place_by_half" 5 5
def yd:=hq5 "place_by_half" 243 "place_by_half" 244 245 12 2 55 56 57 58 59 251 252
def ye:=hq6 "place_by_half" 5 5 "unicore.base" 194 60
def yf:=jM "BK" 256 "CR" 257 "LF" 258 "NL" 259
noncomputable def yg:PO:=fun P=>(oT [(vs "BK" 261),(vs "CR" 262),(vs "LF" 263),(vs "NL" 264),(vs "SP" 265),(vs "ZW" 266)])
def yh:=hq8 "CM" 268 "ZWJ" 269
noncomputable def yi:PO:=fun P=>(oT [(vs "AI" 271),(vs "SG" 272),(vs "XX" 273)])
noncomputable def yj:PO:=fun P=>(oT [(vs "CL" 275),(vs "CP" 276),(vs "EX" 277),(vs "IS" 278),(vs "SY" 279)])
noncomputable def yk:PO:=fun P=>(oT [(vs "BK" 281),(vs "CR" 282),(vs "LF" 283),(vs "NL" 284),(vs "OP" 285),(vs "QU" 286),(vs "GL" 287),(vs "SP" 288),(vs "ZW" 289)])
noncomputable def yl:PO:=fun P=>(oT [(vs "SP" 291),(vs "GL" 292),(vs "WJ" 293),(vs "CL" 294),(vs "QU" 295),(vs "CP" 296),(vs "EX" 297),(vs "IS" 298),(vs "SY" 299),(vs "BK" 300),(vs "CR" 301),(vs "LF" 302),(vs "NL" 303),(vs "ZW" 304)])
def ym:=hq8 "AL" 306 "HL" 307
noncomputable def yn:PO:=fun P=>(oT [(vs "ID" 309),(vs "EB" 310),(vs "EM" 311)])
noncomputable def QX:PO:=fun P=>(oB (vt "dict") (Data.dict (List.toArray [(de P "__name__" 165 (vs "unicore.linebreaks" 254)),(de P "__doc__" 166 Value.none),(de P "__package__" 167 Value.none),(de P "__loader__" 168 (Value.builtin "__main__.__loader__#opaque")),(de P "__spec__" 169 Value.none),(dl P "__annotations__" 170 6),(dl P "__builtins__" 171 4),(de P "__file__" 173 (vs "/claim/cut.py" 172)),(de P "__cached__" 174 Value.none),(dl P "_wall" 193 21),(de P "MAX_CODE" 197 (vi 1114111 196)),(dl P "UniError" 226 39),(dl P "BadRule" 242 52),(dl P "place_by_half" 253 61),(dl P "LINE_HARD" 260 62),(dl P "LINE_BARE" 267 63),(dl P "LINE_MARKS" 270 64),(dl P "LINE_PLAIN" 274 65),(dl P "LINE_CLOSING" 280 66),(dl P "LINE_AHEAD_OF_OPENING" 290 67),(dl P "LINE_BEHIND_CLOSING" 305 68),(dl P "LINE_ALPHABETIC" 308 69),(dl P "LINE_IDEOGRAPHIC" 312 70),(dl P "LINE_AFFIXES" 315 71),(dl P "LINE_SYLLABIC" 321 72),(dl P "LINE_INNER" 325 73),(dl P "LINE_WIDE" 329 74),(dl P "LINE_KEPT" 339 75),(dl P "LINE_NUMBERS" 368 90),(dl P "LINE_JAMO" 389 91),(dl P "LINE_ITERATION" 396 97),(dl P "LINE_JAMO_RANGES" 415 104),(de P "LINE_FIRST_SYLLABLE" 417 (vi 44032 416)),(de P "LINE_LAST_SYLLABLE" 419 (vi 55203 418)),(de P "LINE_TAILS" 421 (vi 28 420)),(de P "DOTTED_CIRCLE" 423 (vi 9676 422))]) 36))
def A5:=hq8 "PR" 313 "PO" 314
noncomputable def A6:PO:=fun P=>(oT [(vs "JL" 316),(vs "JV" 317),(vs "JT" 318),(vs "H2" 319),(vs "H3" 320)])
noncomputable def A7:PO:=fun P=>(oT [(vs "NU" 322),(vs "SY" 323),(vs "IS" 324)])
noncomputable def A8:PO:=fun P=>(oT [(vs "F" 326),(vs "W" 327),(vs "H" 328)])
noncomputable def A9:PO:=fun P=>(oT [(vs "AL" 330),(vs "HL" 331),(vs "ID" 332),(vs "NU" 333),(vs "JL" 334),(vs "JV" 335),(vs "JT" 336),(vs "H2" 337),(vs "H3" 338)])
def Ba:=hq8 "CL" 340 "PO" 341
def Bb:=hq8 "CP" 342 "PO" 343
def Bc:=hq8 "CL" 344 "PR" 345
def Bd:=hq8 "CP" 346 "PR" 347
def Be:=hq8 "NU" 348 "PO" 349
def Bf:=hq8 "NU" 350 "PR" 351
def Bg:=hq8 "PO" 352 "OP" 353
def Bh:=hq8 "PO" 354 "NU" 355
def Bi:=hq8 "PR" 356 "OP" 357
def Bj:=hq8 "PR" 358 "NU" 359
def Bk:=hq8 "HY" 360 "NU" 361
def Bl:=hq8 "IS" 362 "NU" 363
def Bm:=hq8 "NU" 364 "NU" 365
def Bn:=hq8 "SY" 366 "NU" 367
noncomputable def Bo:PO:=fun P=>(oT [(vr 76),(vr 77),(vr 78),(vr 79),(vr 80),(vr 81),(vr 82),(vr 83),(vr 84),(vr 85),(vr 86),(vr 87),(vr 88),(vr 89)])
noncomputable def Bp:PO:=fun P=>(oB (vt "dict") (Data.dict (List.toArray [(dl P "JL" 369 92),(dl P "JV" 374 93),(dl P "H2" 377 94),(dl P "JT" 380 95),(dl P "H3" 382 96)]) 5))
def Bq:=jM "JL" 370 "JV" 371 "H2" 372 "H3" 373
def Br:=hq8 "JV" 375 "JT" 376
def Bs:=hq8 "JV" 378 "JT" 379
noncomputable def Bt:PO:=fun P=>(oT [(vs "JT" 381)])
noncomputable def Bu:PO:=fun P=>(oT [(vs "JT" 383)])
noncomputable def Bv:PO:=fun P=>(oT [(vi 12293 390),(vi 12347 391),(vi 12445 392),(vi 12446 393),(vi 12541 394),(vi 12542 395)])
noncomputable def Bw:PO:=fun P=>(oT [(vi 4352 397),(vi 4447 398),(vs "JL" 399)])
noncomputable def Bx:PO:=fun P=>(oT [(vi 4448 400),(vi 4519 401),(vs "JV" 402)])
noncomputable def By:PO:=fun P=>(oT [(vi 4520 403),(vi 4607 404),(vs "JT" 405)])
noncomputable def Bz:PO:=fun P=>(oT [(vi 43360 406),(vi 43388 407),(vs "JL" 408)])
noncomputable def BA:PO:=fun P=>(oT [(vi 55216 409),(vi 55238 410),(vs "JV" 411)])
noncomputable def BB:PO:=fun P=>(oT [(vi 55243 412),(vi 55291 413),(vs "JT" 414)])
noncomputable def BC:PO:=fun P=>(oT [(vr 98),(vr 99),(vr 100),(vr 101),(vr 102),(vr 103)])
noncomputable def G9:PO:=fun P=>(oB (vt "dict") (Data.dict (List.toArray [(de P "__module__" 431 (vs "unicore.linebreaks" 254)),(de P "__qualname__" 433 (vs "LineHow" 432)),(de P "__firstlineno__" 435 (vi 45 434)),(dl P "__init__" 447 119),(dl P "__static_attributes__" 451 120)]) 5))
noncomputable def Ha:PO:=fun P=>(oB Value.none (Data.fields (List.toArray [(vi 47 0),(vi 4 0),(vr 118)])))
def Hb:=hq2 "LineHow" 426 427 428 45 108 109 429 430
def Hc:=hq3 110 107 "unicore.linebreaks" 254
noncomputable def C7:PO:=fun P=>(oT [(vs "strict" 436),(Value.bool Bool.false),(vs "pairs" 437)])
def C8:=jM "self" 441 "strictness" 442 "keep_all" 443 "numbers" 444
def Hd:=hq9 "__init__" "LineHow.__init__" 29 0
def C9:=hq5 "__init__" 438 "LineHow.__init__" 439 440 47 4 113 114 115 116 117 445 446
def Da:=G8 "__init__" "LineHow.__init__" 29 0 112 "unicore.linebreaks" 254 118
noncomputable def Db:PO:=fun P=>(oT [(vs "keep_all" 448),(vs "numbers" 449),(vs "strictness" 450)])
noncomputable def Dc:PO:=fun P=>(oB (vt "dict") (Data.dict (List.toArray [(de P "__module__" 431 (vs "unicore.linebreaks" 254)),(de P "__firstlineno__" 435 (vi 45 434)),(dl P "__init__" 447 119),(dl P "__static_attributes__" 451 120),(dl P "__dict__" 453 123),(dl P "__weakref__" 455 124),(de P "__doc__" 456 Value.none)]) 4))
def Dd:=yb "LineHow" 122 121 424 432
def De:=yc 452 122
def Df:=wI 454 122
def He:=uG 122
def Hg:=uI 122
def Dg:=jM "code" 462 "first" 463 "last" 464 "word" 465
def Hh:=hq4 "line_hangul" 30 30
def Dh:=hq5 "line_hangul" 459 "line_hangul" 460 461 55 1 127 128 129 130 131 466 467
def Di:=hq6 "line_hangul" 30 30 "unicore.linebreaks" 254 132
def Dj:=jM "code" 472 "data" 473 "how" 474 "word" 475
def Hi:=hq4 "line_class" 31 31
def Dk:=hq5 "line_class" 469 "line_class" 470 471 62 3 134 135 136 137 138 476 477
def Dl:=hq6 "line_class" 31 31 "unicore.linebreaks" 254 139
noncomputable def Hj:PO:=fun P=>(oB (vt "dict") (Data.dict (List.toArray [(de P "__module__" 486 (vs "unicore.linebreaks" 254)),(de P "__qualname__" 488 (vs "LineUnit" 487)),(de P "__firstlineno__" 490 (vi 73 489)),(dl P "__init__" 500 154),(dl P "__static_attributes__" 505 155)]) 5))
noncomputable def Hk:PO:=fun P=>(oB Value.none (Data.fields (List.toArray [(vi 75 0),(vi 4 0),(vr 153)])))
def Hl:=hq2 "LineUnit" 481 482 483 73 144 145 484 485
def Hm:=hq3 146 143 "unicore.linebreaks" 254
def Dm:=jM "self" 494 "word" 495 "code" 496 "at" 497
def Hn:=hq9 "__init__" "LineUnit.__init__" 32 0
def Dn:=hq5 "__init__" 491 "LineUnit.__init__" 492 493 75 4 148 149 150 151 152 498 499
def Do:=i5 "__init__" "LineUnit.__init__" 32 0 "unicore.linebreaks" 254 153
def Dp:=jM "at" 501 "code" 502 "is_joined" 503 "word" 504
noncomputable def Dq:PO:=fun P=>(oB (vt "dict") (Data.dict (List.toArray [(de P "__module__" 486 (vs "unicore.linebreaks" 254)),(de P "__firstlineno__" 490 (vi 73 489)),(dl P "__init__" 500 154),(dl P "__static_attributes__" 505 155),(dl P "__dict__" 507 158),(dl P "__weakref__" 509 159),(de P "__doc__" 510 Value.none)]) 4))
def Dr:=yb "LineUnit" 157 156 479 487
def Ds:=yc 506 157
def Dt:=wI 508 157
def Ho:=uG 157
def Hq:=uI 157
noncomputable def Du:PO:=fun P=>(oT [(vs "text" 516),(vs "data" 517),(vs "how" 518),(vs "found" 519),(vs "at" 520),(vs "code" 521),(vs "word" 522)])
def Hr:=hq4 "line_units" 33 33
def Dv:=hq5 "line_units" 513 "line_units" 514 515 80 3 162 163 164 165 166 523 524
def Dw:=hq6 "line_units" 33 33 "unicore.linebreaks" 254 167
noncomputable def Hs:PO:=fun P=>(oB (vt "dict") (Data.dict (List.toArray [(de P "__module__" 533 (vs "unicore.linebreaks" 254)),(de P "__qualname__" 535 (vs "LineView" 534)),(de P "__firstlineno__" 537 (vi 91 536)),(dl P "__init__" 552 182),(dl P "word" 560 189),(dl P "solid_word" 568 196),(dl P "is_quote" 577 203),(dl P "is_narrow" 585 210),(dl P "__static_attributes__" 592 211)]) 9))
noncomputable def Ht:PO:=fun P=>(oB Value.none (Data.fields (List.toArray [(vi 93 0),(vi 4 0),(vr 181),(vi 109 0),(vi 4 0),(vr 188),(vi 112 0),(vi 4 0),(vr 195),(vi 115 0),(vi 4 0),(vr 202),(vi 118 0),(vi 4 0),(vr 209)])))
def Hu:=hq2 "LineView" 528 529 530 91 172 173 531 532
def Hv:=hq3 174 171 "unicore.linebreaks" 254
noncomputable def Dx:PO:=fun P=>(oT [(vs "self" 541),(vs "text" 542),(vs "data" 543),(vs "how" 544),(vs "last" 545),(vs "many" 546),(vs "is_number" 547),(vs "place" 548),(vs "unit" 549)])
def Hw:=hq9 "__init__" "LineView.__init__" 34 0
def Dy:=hq5 "__init__" 538 "LineView.__init__" 539 540 93 4 176 177 178 179 180 550 551
def Dz:=i5 "__init__" "LineView.__init__" 34 0 "unicore.linebreaks" 254 181
def DB:=hq8 "self" 556 "place" 557
def Hx:=hq9 "word" "LineView.word" 34 1
def DC:=hq5 "word" 553 "LineView.word" 554 555 109 2 183 184 185 186 187 558 559
def DD:=i5 "word" "LineView.word" 34 1 "unicore.linebreaks" 254 188
def DE:=hq8 "self" 564 "place" 565
def Hy:=hq9 "solid_word" "LineView.solid_word" 34 2
def DF:=hq5 "solid_word" 561 "LineView.solid_word" 562 563 112 2 190 191 192 193 194 566 567
def DG:=i5 "solid_word" "LineView.solid_word" 34 2 "unicore.linebreaks" 254 195
noncomputable def DH:PO:=fun P=>(oT [(vs "self" 572),(vs "place" 573),(vs "kind" 574)])
def Hz:=hq9 "is_quote" "LineView.is_quote" 34 3
def DI:=hq5 "is_quote" 569 "LineView.is_quote" 570 571 115 3 197 198 199 200 201 575 576
def DJ:=i5 "is_quote" "LineView.is_quote" 34 3 "unicore.linebreaks" 254 202
def DK:=hq8 "self" 581 "place" 582
def HA:=hq9 "is_narrow" "LineView.is_narrow" 34 4
def DL:=hq5 "is_narrow" 578 "LineView.is_narrow" 579 580 118 2 204 205 206 207 208 583 584
def DN:=i5 "is_narrow" "LineView.is_narrow" 34 4 "unicore.linebreaks" 254 209
noncomputable def DO:PO:=fun P=>(oT [(vs "data" 586),(vs "how" 587),(vs "numeric" 588),(vs "regional" 589),(vs "solid" 590),(vs "units" 591)])
noncomputable def DP:PO:=fun P=>(oB (vt "dict") (Data.dict (List.toArray [(de P "__module__" 533 (vs "unicore.linebreaks" 254)),(de P "__firstlineno__" 537 (vi 91 536)),(dl P "__init__" 552 182),(dl P "word" 560 189),(dl P "solid_word" 568 196),(dl P "is_quote" 577 203),(dl P "is_narrow" 585 210),(dl P "__static_attributes__" 592 211),(dl P "__dict__" 594 214),(dl P "__weakref__" 596 215),(de P "__doc__" 597 Value.none)]) 4))
def DQ:=yb "LineView" 213 212 526 534
def DR:=yc 593 213
def DT:=wI 595 213
def HB:=uG 213
def HC:=uI 213
def DU:=jM "view" 603 "at" 604 "a" 605 "b" 606
def HD:=hq4 "line_rule_hard" 35 35
def DV:=hq5 "line_rule_hard" 600 "line_rule_hard" 601 602 120 2 218 219 220 221 222 607 608
def DW:=hq6 "line_rule_hard" 35 35 "unicore.linebreaks" 254 223
noncomputable def dq0(P:Params):=[(de P "__name__" 165 (vs "unicore.linebreaks" 254)),(de P "__doc__" 166 Value.none),(de P "__package__" 167 Value.none),(de P "__loader__" 168 (Value.builtin "__main__.__loader__#opaque")),(de P "__spec__" 169 Value.none),(dl P "__annotations__" 170 6),(dl P "__builtins__" 171 4),(de P "__file__" 173 (vs "/claim/cut.py" 172)),(de P "__cached__" 174 Value.none),(dl P "_wall" 193 21),(de P "MAX_CODE" 197 (vi 1114111 196)),(dl P "UniError" 226 39),(dl P "BadRule" 242 52),(dl P "place_by_half" 253 61),(dl P "LINE_HARD" 260 62),(dl P "LINE_BARE" 267 63),(dl P "LINE_MARKS" 270 64),(dl P "LINE_PLAIN" 274 65),(dl P "LINE_CLOSING" 280 66),(dl P "LINE_AHEAD_OF_OPENING" 290 67),(dl P "LINE_BEHIND_CLOSING" 305 68),(dl P "LINE_ALPHABETIC" 308 69),(dl P "LINE_IDEOGRAPHIC" 312 70),(dl P "LINE_AFFIXES" 315 71),(dl P "LINE_SYLLABIC" 321 72),(dl P "LINE_INNER" 325 73),(dl P "LINE_WIDE" 329 74),(dl P "LINE_KEPT" 339 75),(dl P "LINE_NUMBERS" 368 90),(dl P "LINE_JAMO" 389 91),(dl P "LINE_ITERATION" 396 97),(dl P "LINE_JAMO_RANGES" 415 104),(de P "LINE_FIRST_SYLLABLE" 417 (vi 44032 416)),(de P "LINE_LAST_SYLLABLE" 419 (vi 55203 418)),(de P "LINE_TAILS" 421 (vi 28 420)),(de P "DOTTED_CIRCLE" 423 (vi 9676 422)),(dl P "LineHow" 458 122),(dl P "line_hangul" 468 133),(dl P "line_class" 478 140),(dl P "LineUnit" 512 157),(dl P "line_units" 525 168),(dl P "LineView" 599 213),(dl P "line_rule_hard" 609 224),(dl P "line_rule_spaces" 617 231),(dl P "line_rule_glue" 627 238),(dl P "line_rule_closing" 637 245),(dl P "line_rule_quotes" 646 252),(dl P "line_rule_over_spaces" 656 259),(dl P "line_rule_signs" 667 266),(dl P "line_rule_letters" 677 273),(dl P "line_is_number" 685 280),(dl P "line_rule_expression" 697 287),(dl P "line_rule_numbers" 705 294),(dl P "line_rule_syllables" 715 301),(dl P "line_is_aksara" 724 308)]
def QY:PO:=fun P=>(oB (vt "dict") (Data.dict (List.toArray (dq0 P)) 55))
noncomputable def QZ:PO:=fun P=>(oB Value.none (Data.fields (List.toArray [(vi 1 0),(vi 0 0),(vr 20),(vi 6 0),(vi 0 0),(vr 27),(vi 10 0),(vi 0 0),(vr 48),(vi 12 0),(vi 0 0),(vr 60),(vi 45 0),(vi 0 0),(vr 110),(vi 55 0),(vi 0 0),(vr 132),(vi 62 0),(vi 0 0),(vr 139),(vi 73 0),(vi 0 0),(vr 146),(vi 80 0),(vi 0 0),(vr 167),(vi 91 0),(vi 0 0),(vr 174),(vi 120 0),(vi 0 0),(vr 223),(vi 129 0),(vi 0 0),(vr 230),(vi 135 0),(vi 0 0),(vr 237),(vi 142 0),(vi 0 0),(vr 244),(vi 149 0),(vi 0 0),(vr 251),(vi 156 0),(vi 0 0),(vr 258),(vi 163 0),(vi 0 0),(vr 265),(vi 177 0),(vi 0 0),(vr 272),(vi 186 0),(vi 0 0),(vr 279),(vi 188 0),(vi 0 0),(vr 286),(vi 199 0),(vi 0 0),(vr 293),(vi 203 0),(vi 0 0),(vr 300),(vi 210 0),(vi 0 0),(vr 307)])))
def DX:=hq8 "view" 613 "at" 614
def HE:=hq4 "line_rule_spaces" 36 36
def DY:=hq5 "line_rule_spaces" 610 "line_rule_spaces" 611 612 129 2 225 226 227 228 229 615 616
def DZ:=hq6 "line_rule_spaces" 36 36 "unicore.linebreaks" 254 230
def D0:=jM "view" 621 "at" 622 "a" 623 "b" 624
def HF:=hq4 "line_rule_glue" 37 37
def D7:=hq5 "line_rule_glue" 618 "line_rule_glue" 619 620 135 2 232 233 234 235 236 625 626
def D8:=hq6 "line_rule_glue" 37 37 "unicore.linebreaks" 254 237
def D9:=jM "view" 631 "at" 632 "b" 633 "is_left" 634
def HG:=hq4 "line_rule_closing" 38 38
def Ea:=hq5 "line_rule_closing" 628 "line_rule_closing" 629 630 142 2 239 240 241 242 243 635 636
def Eb:=hq6 "line_rule_closing" 38 38 "unicore.linebreaks" 254 244
noncomputable def Ec:PO:=fun P=>(oT [(vs "view" 641),(vs "at" 642),(vs "quote" 643)])
def HH:=hq4 "line_rule_quotes" 39 39
def Ed:=hq5 "line_rule_quotes" 638 "line_rule_quotes" 639 640 149 2 246 247 248 249 250 644 645
def Ee:=hq6 "line_rule_quotes" 39 39 "unicore.linebreaks" 254 251
def Ef:=jM "view" 650 "at" 651 "solid" 652 "b" 653
def HI:=hq4 "line_rule_over_spaces" 40 40
def Eg:=hq5 "line_rule_over_spaces" 647 "line_rule_over_spaces" 648 649 156 2 253 254 255 256 257 654 655
def Eh:=hq6 "line_rule_over_spaces" 40 40 "unicore.linebreaks" 254 258
noncomputable def Ei:PO:=fun P=>(oT [(vs "view" 660),(vs "at" 661),(vs "a" 662),(vs "b" 663),(vs "is_parted" 664)])
def HJ:=hq4 "line_rule_signs" 41 41
def Ej:=hq5 "line_rule_signs" 657 "line_rule_signs" 658 659 163 2 260 261 262 263 264 665 666
def Ek:=hq6 "line_rule_signs" 41 41 "unicore.linebreaks" 254 265
def El:=jM "view" 671 "at" 672 "a" 673 "b" 674
def HK:=hq4 "line_rule_letters" 42 42
def Em:=hq5 "line_rule_letters" 668 "line_rule_letters" 669 670 177 2 267 268 269 270 271 675 676
def Eo:=hq6 "line_rule_letters" 42 42 "unicore.linebreaks" 254 272
def Ep:=hq8 "view" 681 "place" 682
def HL:=hq4 "line_is_number" 43 43
def Er:=hq5 "line_is_number" 678 "line_is_number" 679 680 186 2 274 275 276 277 278 683 684
def Es:=hq6 "line_is_number" 43 43 "unicore.linebreaks" 254 279
noncomputable def Et:PO:=fun P=>(oT [(vs "view" 689),(vs "at" 690),(vs "a" 691),(vs "b" 692),(vs "is_begun" 693),(vs "end" 694)])
def HM:=hq4 "line_rule_expression" 44 44
def Eu:=hq5 "line_rule_expression" 686 "line_rule_expression" 687 688 188 2 281 282 283 284 285 695 696
def Ev:=hq6 "line_rule_expression" 44 44 "unicore.linebreaks" 254 286
def Ew:=hq8 "view" 701 "at" 702
def HN:=hq4 "line_rule_numbers" 45 45
def Ex:=hq5 "line_rule_numbers" 698 "line_rule_numbers" 699 700 199 2 288 289 290 291 292 703 704
def Ey:=hq6 "line_rule_numbers" 45 45 "unicore.linebreaks" 254 293
def Ez:=jM "view" 709 "at" 710 "a" 711 "b" 712
def HP:=hq4 "line_rule_syllables" 46 46
def EA:=hq5 "line_rule_syllables" 706 "line_rule_syllables" 707 708 203 2 295 296 297 298 299 713 714
def EB:=hq6 "line_rule_syllables" 46 46 "unicore.linebreaks" 254 300
noncomputable def EC:PO:=fun P=>(oT [(vs "view" 719),(vs "place" 720),(vs "words" 721)])
def HQ:=hq4 "line_is_aksara" 47 47
def ED:=hq5 "line_is_aksara" 716 "line_is_aksara" 717 718 210 3 302 303 304 305 306 722 723
def EE:=hq6 "line_is_aksara" 47 47 "unicore.linebreaks" 254 307
noncomputable def HR:PO:=fun P=>(oT [(vs "view" 728),(vs "at" 729),(vs "a" 730),(vs "b" 731),(vs "every" 732),(vs "is_left" 733),(vs "is_right" 734),(vs "is_held" 735)])
def LA:=hq4 "line_rule_aksaras" 48 48
def HS:=hq5 "line_rule_aksaras" 725 "line_rule_aksaras" 726 727 214 2 309 310 311 312 313 736 737
def HT:=hq6 "line_rule_aksaras" 48 48 "unicore.linebreaks" 254 314
def HU:=jM "view" 742 "at" 743 "a" 744 "b" 745
def LB:=hq4 "line_rule_brackets" 49 49
def HV:=hq5 "line_rule_brackets" 739 "line_rule_brackets" 740 741 221 2 316 317 318 319 320 746 747
def HW:=hq6 "line_rule_brackets" 49 49 "unicore.linebreaks" 254 321
noncomputable def HX:PO:=fun P=>(oT [(vs "view" 752),(vs "at" 753),(vs "a" 754),(vs "b" 755),(vs "code" 756)])
def LD:=hq4 "line_rule_pictures" 50 50
def HY:=hq5 "line_rule_pictures" 749 "line_rule_pictures" 750 751 230 2 323 324 325 326 327 757 758
def HZ:=hq6 "line_rule_pictures" 50 50 "unicore.linebreaks" 254 328
noncomputable def H0:PO:=fun P=>(oT [(vs "view" 763),(vs "at" 764),(vs "told" 765)])
def LE:=hq4 "line_verdict" 51 51
def H1:=hq5 "line_verdict" 760 "line_verdict" 761 762 241 2 330 331 332 333 334 766 767
def H2:=hq6 "line_verdict" 51 51 "unicore.linebreaks" 254 335
noncomputable def H3:PO:=fun P=>(oT [(vs "text" 772),(vs "data" 773),(vs "how" 774),(vs "found" 775),(vs "view" 776),(vs "at" 777)])
def LG:=hq4 "line_verdicts" 52 52
def H4:=hq5 "line_verdicts" 769 "line_verdicts" 770 771 247 3 337 338 339 340 341 778 779
def H5:=hq6 "line_verdicts" 52 52 "unicore.linebreaks" 254 342
noncomputable def LH:PO:=fun P=>(oB (vt "dict") (Data.dict (List.toArray [(de P "__module__" 788 (vs "unicore.linebreaks" 254)),(de P "__qualname__" 790 (vs "LineMeasure" 789)),(de P "__firstlineno__" 792 (vi 255 791)),(dl P "__init__" 803 357),(dl P "width" 813 364),(dl P "__static_attributes__" 816 365)]) 6))
noncomputable def LI:PO:=fun P=>(oB Value.none (Data.fields (List.toArray [(vi 257 0),(vi 4 0),(vr 356),(vi 264 0),(vi 4 0),(vr 363)])))
def LJ:=hq2 "LineMeasure" 783 784 785 255 347 348 786 787
def LK:=hq3 349 346 "unicore.linebreaks" 254
noncomputable def H6:PO:=fun P=>(oT [(vs "self" 796),(vs "widths" 797),(vs "hangs" 798),(vs "at" 799),(vs "width" 800)])
def LM:=hq9 "__init__" "LineMeasure.__init__" 53 0
def H7:=hq5 "__init__" 793 "LineMeasure.__init__" 794 795 257 3 351 352 353 354 355 801 802
def H8:=i5 "__init__" "LineMeasure.__init__" 53 0 "unicore.linebreaks" 254 356
def H9:=jM "self" 807 "start" 808 "end" 809 "last" 810
def LO:=hq9 "width" "LineMeasure.width" 53 1
def Ie:=hq5 "width" 804 "LineMeasure.width" 805 806 264 3 358 359 360 361 362 811 812
def Ig:=i5 "width" "LineMeasure.width" 53 1 "unicore.linebreaks" 254 363
def Ih:=hq8 "ends" 814 "sums" 815
noncomputable def Ii:PO:=fun P=>(oB (vt "dict") (Data.dict (List.toArray [(de P "__module__" 788 (vs "unicore.linebreaks" 254)),(de P "__firstlineno__" 792 (vi 255 791)),(dl P "__init__" 803 357),(dl P "width" 813 364),(dl P "__static_attributes__" 816 365),(dl P "__dict__" 818 368),(dl P "__weakref__" 820 369),(de P "__doc__" 821 Value.none)]) 4))
def Ij:=yb "LineMeasure" 367 366 781 789
def Ik:=yc 817 367
def Il:=wI 819 367
def LP:=uG 367
def LQ:=uI 367
noncomputable def Im:PO:=fun P=>(oT [(vs "places" 827),(vs "start" 828),(vs "end" 829),(vs "measure" 830),(vs "most" 831),(vs "found" 832),(vs "place" 833)])
def LR:=hq4 "line_last_within" 54 54
def Io:=hq5 "line_last_within" 824 "line_last_within" 825 826 267 5 372 373 374 375 376 834 835
def Ip:=hq6 "line_last_within" 54 54 "unicore.linebreaks" 254 377
noncomputable def Iq:PO:=fun P=>(oT [(vr 379)])
def LS:=hq4 "line_fitted" 55 55
def Ir:=uJ "line_fitted" 837 "line_fitted" 838 839 273 4 381 382 383 840 841
noncomputable def Iu:PO:=fun P=>(oB (vt "function") (Data.func (FuncData.mk (sO "line_fitted") (sO "line_fitted") (fA (tI 55)) (FuncBody.stmts (fB (tI 55))) (fS (tI 55)) 3 [] (vr 380) Value.none Value.none (vs "unicore.linebreaks" 254) none (vr 384) Value.none 0)))
noncomputable def LU:PO:=fun P=>(oB (vt "dict") (Data.dict (List.toArray [(de P "__module__" 850 (vs "unicore.linebreaks" 254)),(de P "__qualname__" 852 (vs "LineBreaks" 851)),(de P "__firstlineno__" 854 (vi 290 853)),(dl P "__init__" 863 400),(dl P "opportunities" 869 405),(dl P "reasons" 877 412),(dl P "measure" 883 417),(dl P "fit_lines" 894 426),(dl P "even_lines" 904 433),(dl P "__static_attributes__" 907 434)]) 10))
noncomputable def LV:PO:=fun P=>(oB Value.none (Data.fields (List.toArray [(vi 292 0),(vi 4 0),(vr 399),(vi 296 0),(vi 4 0),(vr 404),(vi 299 0),(vi 4 0),(vr 411),(vi 302 0),(vi 4 0),(vr 416),(vi 306 0),(vi 4 0),(vr 425),(vi 309 0),(vi 4 0),(vr 432)])))
def LW:=hq2 "LineBreaks" 845 846 847 290 389 390 848 849
def LX:=hq3 391 388 "unicore.linebreaks" 254
noncomputable def Iv:PO:=fun P=>(oT [Value.none])
noncomputable def Iw:PO:=fun P=>(oT [(vs "self" 858),(vs "data" 859),(vs "how" 860)])
def LY:=hq9 "__init__" "LineBreaks.__init__" 56 0
def Ix:=hq5 "__init__" 855 "LineBreaks.__init__" 856 857 292 3 394 395 396 397 398 861 862
def Iy:=G8 "__init__" "LineBreaks.__init__" 56 0 393 "unicore.linebreaks" 254 399
def LZ:=hq9 "opportunities" "LineBreaks.opportunities" 56 1
def Iz:=uJ "opportunities" 864 "LineBreaks.opportunities" 865 866 296 2 401 402 403 867 868
def IB:=i5 "opportunities" "LineBreaks.opportunities" 56 1 "unicore.linebreaks" 254 404
def IC:=hq8 "self" 873 "text" 874
def L0:=hq9 "reasons" "LineBreaks.reasons" 56 2
def ID:=hq5 "reasons" 870 "LineBreaks.reasons" 871 872 299 2 406 407 408 409 410 875 876
def IE:=i5 "reasons" "LineBreaks.reasons" 56 2 "unicore.linebreaks" 254 411
def L3:=hq9 "measure" "LineBreaks.measure" 56 3
def IF:=uJ "measure" 878 "LineBreaks.measure" 879 880 302 3 413 414 415 881 882
def IG:=i5 "measure" "LineBreaks.measure" 56 3 "unicore.linebreaks" 254 416
noncomputable def IH:PO:=fun P=>(oT [(vr 418)])
noncomputable def II:PO:=fun P=>(oT [(vs "self" 887),(vs "text" 888),(vs "widths" 889),(vs "most" 890),(vs "inner" 891)])
def L4:=hq9 "fit_lines" "LineBreaks.fit_lines" 56 4
def IJ:=hq5 "fit_lines" 884 "LineBreaks.fit_lines" 885 886 306 5 420 421 422 423 424 892 893
def IK:=G8 "fit_lines" "LineBreaks.fit_lines" 56 4 419 "unicore.linebreaks" 254 425
def IL:=jM "self" 898 "text" 899 "widths" 900 "most" 901
def L5:=hq9 "even_lines" "LineBreaks.even_lines" 56 5
def IM:=hq5 "even_lines" 895 "LineBreaks.even_lines" 896 897 309 4 427 428 429 430 431 902 903
def IN:=i5 "even_lines" "LineBreaks.even_lines" 56 5 "unicore.linebreaks" 254 432
def IO:=hq8 "data" 905 "how" 906
noncomputable def IP:PO:=fun P=>(oB (vt "dict") (Data.dict (List.toArray [(de P "__module__" 850 (vs "unicore.linebreaks" 254)),(de P "__firstlineno__" 854 (vi 290 853)),(dl P "__init__" 863 400),(dl P "opportunities" 869 405),(dl P "reasons" 877 412),(dl P "measure" 883 417),(dl P "fit_lines" 894 426),(dl P "even_lines" 904 433),(dl P "__static_attributes__" 907 434),(dl P "__dict__" 909 437),(dl P "__weakref__" 911 438),(de P "__doc__" 912 Value.none)]) 4))
def IQ:=yb "LineBreaks" 436 435 843 851
def IR:=yc 908 436
def IS:=wI 910 436
def L6:=uG 436
def L7:=uI 436
noncomputable def dq1(P:Params):=[(de P "__name__" 165 (vs "unicore.data" 994)),(de P "__doc__" 166 Value.none),(de P "__package__" 167 Value.none),(de P "__loader__" 168 (Value.builtin "__main__.__loader__#opaque")),(de P "__spec__" 169 Value.none),(dl P "__annotations__" 170 6),(dl P "__builtins__" 171 4),(de P "__file__" 173 (vs "/claim/cut.py" 172)),(de P "__cached__" 174 Value.none),(dl P "_wall" 193 21),(de P "MAX_CODE" 197 (vi 1114111 196)),(dl P "UniError" 226 39),(dl P "BadRule" 242 52),(dl P "place_by_half" 253 61),(dl P "LINE_HARD" 260 62),(dl P "LINE_BARE" 267 63),(dl P "LINE_MARKS" 270 64),(dl P "LINE_PLAIN" 274 65),(dl P "LINE_CLOSING" 280 66),(dl P "LINE_AHEAD_OF_OPENING" 290 67),(dl P "LINE_BEHIND_CLOSING" 305 68),(dl P "LINE_ALPHABETIC" 308 69),(dl P "LINE_IDEOGRAPHIC" 312 70),(dl P "LINE_AFFIXES" 315 71),(dl P "LINE_SYLLABIC" 321 72),(dl P "LINE_INNER" 325 73),(dl P "LINE_WIDE" 329 74),(dl P "LINE_KEPT" 339 75),(dl P "LINE_NUMBERS" 368 90),(dl P "LINE_JAMO" 389 91),(dl P "LINE_ITERATION" 396 97),(dl P "LINE_JAMO_RANGES" 415 104),(de P "LINE_FIRST_SYLLABLE" 417 (vi 44032 416)),(de P "LINE_LAST_SYLLABLE" 419 (vi 55203 418)),(de P "LINE_TAILS" 421 (vi 28 420)),(de P "DOTTED_CIRCLE" 423 (vi 9676 422)),(dl P "LineHow" 458 122),(dl P "line_hangul" 468 133),(dl P "line_class" 478 140),(dl P "LineUnit" 512 157),(dl P "line_units" 525 168),(dl P "LineView" 599 213),(dl P "line_rule_hard" 609 224),(dl P "line_rule_spaces" 617 231),(dl P "line_rule_glue" 627 238),(dl P "line_rule_closing" 637 245),(dl P "line_rule_quotes" 646 252),(dl P "line_rule_over_spaces" 656 259),(dl P "line_rule_signs" 667 266),(dl P "line_rule_letters" 677 273),(dl P "line_is_number" 685 280),(dl P "line_rule_expression" 697 287),(dl P "line_rule_numbers" 705 294),(dl P "line_rule_syllables" 715 301),(dl P "line_is_aksara" 724 308),(dl P "line_rule_aksaras" 738 315),(dl P "line_rule_brackets" 748 322),(dl P "line_rule_pictures" 759 329),(dl P "line_verdict" 768 336),(dl P "line_verdicts" 780 343),(dl P "LineMeasure" 823 367),(dl P "line_last_within" 836 378),(dl P "line_fitted" 842 385),(dl P "LineBreaks" 914 436),(dl P "range_are_like" 924 447),(dl P "RangeMap" 993 492)]
def Q2:PO:=fun P=>(oB (vt "dict") (Data.dict (List.toArray (dq1 P)) 66))
noncomputable def Q3:PO:=fun P=>(oB Value.none (Data.fields (List.toArray [(vi 1 0),(vi 0 0),(vr 20),(vi 6 0),(vi 0 0),(vr 27),(vi 10 0),(vi 0 0),(vr 48),(vi 12 0),(vi 0 0),(vr 60),(vi 45 0),(vi 0 0),(vr 110),(vi 55 0),(vi 0 0),(vr 132),(vi 62 0),(vi 0 0),(vr 139),(vi 73 0),(vi 0 0),(vr 146),(vi 80 0),(vi 0 0),(vr 167),(vi 91 0),(vi 0 0),(vr 174),(vi 120 0),(vi 0 0),(vr 223),(vi 129 0),(vi 0 0),(vr 230),(vi 135 0),(vi 0 0),(vr 237),(vi 142 0),(vi 0 0),(vr 244),(vi 149 0),(vi 0 0),(vr 251),(vi 156 0),(vi 0 0),(vr 258),(vi 163 0),(vi 0 0),(vr 265),(vi 177 0),(vi 0 0),(vr 272),(vi 186 0),(vi 0 0),(vr 279),(vi 188 0),(vi 0 0),(vr 286),(vi 199 0),(vi 0 0),(vr 293),(vi 203 0),(vi 0 0),(vr 300),(vi 210 0),(vi 0 0),(vr 307),(vi 214 0),(vi 0 0),(vr 314),(vi 221 0),(vi 0 0),(vr 321),(vi 230 0),(vi 0 0),(vr 328),(vi 241 0),(vi 0 0),(vr 335),(vi 247 0),(vi 0 0),(vr 342),(vi 255 0),(vi 0 0),(vr 349),(vi 267 0),(vi 0 0),(vr 377),(vi 273 0),(vi 0 0),(vr 384),(vi 290 0),(vi 0 0),(vr 391),(vi 312 0),(vi 0 0),(vr 446),(vi 314 0),(vi 0 0),(vr 453)])))
def IT:=hq8 "one" 920 "other" 921
def L8:=hq4 "range_are_like" 58 58
def IU:=hq5 "range_are_like" 917 "range_are_like" 918 919 312 2 441 442 443 444 445 922 923
def IV:=hq6 "range_are_like" 58 58 "unicore.ranges" 915 446
noncomputable def L9:PO:=fun P=>(oB (vt "dict") (Data.dict (List.toArray [(de P "__module__" 932 (vs "unicore.ranges" 915)),(de P "__qualname__" 934 (vs "RangeMap" 933)),(de P "__firstlineno__" 936 (vi 314 935)),(dl P "__init__" 944 461),(dl P "get" 952 468),(dl P "put" 967 475),(dl P "ranges" 974 482),(dl P "set_of" 982 489),(dl P "__static_attributes__" 986 490)]) 9))
noncomputable def Ma:PO:=fun P=>(oB Value.none (Data.fields (List.toArray [(vi 316 0),(vi 4 0),(vr 460),(vi 321 0),(vi 4 0),(vr 467),(vi 324 0),(vi 4 0),(vr 474),(vi 339 0),(vi 4 0),(vr 481),(vi 342 0),(vi 4 0),(vr 488)])))
def Mb:=hq2 "RangeMap" 927 928 929 314 451 452 930 931
def Mc:=hq3 453 450 "unicore.ranges" 915
def IW:=hq8 "self" 940 "default" 941
def Md:=hq9 "__init__" "RangeMap.__init__" 59 0
def IX:=hq5 "__init__" 937 "RangeMap.__init__" 938 939 316 2 455 456 457 458 459 942 943
def IY:=i5 "__init__" "RangeMap.__init__" 59 0 "unicore.ranges" 915 460
def IZ:=hq8 "self" 948 "code" 949
def Me:=hq9 "get" "RangeMap.get" 59 1
def I5:=hq5 "get" 945 "RangeMap.get" 946 947 321 2 462 463 464 465 466 950 951
def I6:=i5 "get" "RangeMap.get" 59 1 "unicore.ranges" 915 467
noncomputable def I7:PO:=fun P=>(oT [(vs "self" 956),(vs "first" 957),(vs "last" 958),(vs "value" 959),(vs "low" 960),(vs "high" 961),(vs "behind" 962),(vs "starts" 963),(vs "values" 964)])
def Mf:=hq9 "put" "RangeMap.put" 59 2
def I8:=hq5 "put" 953 "RangeMap.put" 954 955 324 4 469 470 471 472 473 965 966
def I9:=i5 "put" "RangeMap.put" 59 2 "unicore.ranges" 915 474
noncomputable def Jb:PO:=fun P=>(oT [(vs "self" 971)])
def Mg:=hq9 "ranges" "RangeMap.ranges" 59 3
def Jc:=hq5 "ranges" 968 "RangeMap.ranges" 969 970 339 1 476 477 478 479 480 972 973
def Jd:=i5 "ranges" "RangeMap.ranges" 59 3 "unicore.ranges" 915 481
def Je:=hq8 "self" 978 "value" 979
def Mh:=hq9 "set_of" "RangeMap.set_of" 59 4
def Jf:=hq5 "set_of" 975 "RangeMap.set_of" 976 977 342 2 483 484 485 486 487 980 981
def Jg:=i5 "set_of" "RangeMap.set_of" 59 4 "unicore.ranges" 915 488
noncomputable def Jh:PO:=fun P=>(oT [(vs "default" 983),(vs "starts" 984),(vs "values" 985)])
noncomputable def Ji:PO:=fun P=>(oB (vt "dict") (Data.dict (List.toArray [(de P "__module__" 932 (vs "unicore.ranges" 915)),(de P "__firstlineno__" 936 (vi 314 935)),(dl P "__init__" 944 461),(dl P "get" 952 468),(dl P "put" 967 475),(dl P "ranges" 974 482),(dl P "set_of" 982 489),(dl P "__static_attributes__" 986 490),(dl P "__dict__" 988 493),(dl P "__weakref__" 990 494),(de P "__doc__" 991 Value.none)]) 4))
def Jj:=yb "RangeMap" 492 491 925 933
def Jk:=yc 987 492
def Jl:=wI 989 492
def Mi:=uG 492
def Mj:=uI 492
def Mk:=hq8 "found" 999 "name" 1000
def Pi:=hq4 "data_defaults" 67 61
def Ml:=hq5 "data_defaults" 996 "data_defaults" 997 998 345 0 497 498 499 500 501 1001 1002
def Mm:=hq6 "data_defaults" 67 61 "unicore.data" 994 502
noncomputable def Pj:PO:=fun P=>(oB (vt "dict") (Data.dict (List.toArray [(de P "__module__" 1011 (vs "unicore.data" 994)),(de P "__qualname__" 1013 (vs "Data" 1012)),(de P "__firstlineno__" 1015 (vi 357 1014)),(dl P "__init__" 1022 517),(dl P "put" 1033 524),(dl P "get" 1042 531),(dl P "map_of" 1050 538),(dl P "__static_attributes__" 1055 539)]) 8))
noncomputable def Pk:PO:=fun P=>(oB Value.none (Data.fields (List.toArray [(vi 359 0),(vi 4 0),(vr 516),(vi 365 0),(vi 4 0),(vr 523),(vi 368 0),(vi 4 0),(vr 530),(vi 373 0),(vi 4 0),(vr 537)])))
def Pl:=hq2 "Data" 1006 1007 1008 357 507 508 1009 1010
def Pm:=hq3 509 506 "unicore.data" 994
noncomputable def Mn:PO:=fun P=>(oT [(vs "self" 1019)])
def Pn:=hq9 "__init__" "Data.__init__" 62 0
def Mo:=hq5 "__init__" 1016 "Data.__init__" 1017 1018 359 1 511 512 513 514 515 1020 1021
def Mp:=i5 "__init__" "Data.__init__" 62 0 "unicore.data" 994 516
noncomputable def Mq:PO:=fun P=>(oT [(vs "self" 1026),(vs "name" 1027),(vs "first" 1028),(vs "last" 1029),(vs "value" 1030)])
def Po:=hq9 "put" "Data.put" 62 1
def Mr:=hq5 "put" 1023 "Data.put" 1024 1025 365 5 518 519 520 521 522 1031 1032
def Ms:=i5 "put" "Data.put" 62 1 "unicore.data" 994 523
noncomputable def Mt:PO:=fun P=>(oT [(vs "self" 1037),(vs "name" 1038),(vs "code" 1039)])
def Pp:=hq9 "get" "Data.get" 62 2
def Mu:=hq5 "get" 1034 "Data.get" 1035 1036 368 3 525 526 527 528 529 1040 1041
def Mv:=i5 "get" "Data.get" 62 2 "unicore.data" 994 530
def Mw:=hq8 "self" 1046 "name" 1047
def Pq:=hq9 "map_of" "Data.map_of" 62 3
def Mx:=hq5 "map_of" 1043 "Data.map_of" 1044 1045 373 2 532 533 534 535 536 1048 1049
def My:=i5 "map_of" "Data.map_of" 62 3 "unicore.data" 994 537
def Mz:=jM "defaults" 1051 "maps" 1052 "properties" 1053 "words" 1054
noncomputable def MB:PO:=fun P=>(oB (vt "dict") (Data.dict (List.toArray [(de P "__module__" 1011 (vs "unicore.data" 994)),(de P "__firstlineno__" 1015 (vi 357 1014)),(dl P "__init__" 1022 517),(dl P "put" 1033 524),(dl P "get" 1042 531),(dl P "map_of" 1050 538),(dl P "__static_attributes__" 1055 539),(dl P "__dict__" 1057 542),(dl P "__weakref__" 1059 543),(de P "__doc__" 1060 Value.none)]) 4))
def MC:=yb "Data" 541 540 1004 1012
def MD:=yc 1056 541
def ME:=wI 1058 541
def Pr:=uG 541
def Ps:=uI 541
def Pt:=hq4 "_law_deck" 64 64
def MF:=uJ "_law_deck" 1065 "_law_deck" 1066 1067 378 1 546 547 548 1068 1069
def MG:=hq6 "_law_deck" 64 64 "law_nt0061_02" 1063 549
def MH:=jM "deck" 1074 "below" 1075 "figure" 1076 "cell" 1077
def Pu:=hq4 "_law_draw" 65 65
def MI:=hq5 "_law_draw" 1071 "_law_draw" 1072 1073 383 2 551 552 553 554 555 1078 1079
def MJ:=hq6 "_law_draw" 65 65 "law_nt0061_02" 1063 556
def MM:=hq8 "deck" 1084 "some" 1085
def Pv:=hq4 "_law_pick" 66 66
def MN:=hq5 "_law_pick" 1081 "_law_pick" 1082 1083 395 2 558 559 560 561 562 1086 1087
def MO:=hq6 "_law_pick" 66 66 "law_nt0061_02" 1063 563
def Pw:=hq4 "_law_sorts" 67 67
def MQ:=uJ "_law_sorts" 1089 "_law_sorts" 1090 1091 397 0 565 566 567 1092 1093
def MR:=hq6 "_law_sorts" 67 67 "law_nt0061_02" 1063 568
noncomputable def MT:PO:=fun P=>(oT [(vs "sort" 1098),(vs "strictness" 1099),(vs "name" 1100)])
def Px:=hq4 "_law_class" 68 68
def MU:=hq5 "_law_class" 1095 "_law_class" 1096 1097 407 2 570 571 572 573 574 1101 1102
def MW:=hq6 "_law_class" 68 68 "law_nt0061_02" 1063 575
noncomputable def MX:PO:=fun P=>(oT [(vs "sorts" 1107),(vs "strictness" 1108),(vs "found" 1109),(vs "sort" 1110),(vs "name" 1111)])
def Py:=hq4 "_law_units" 69 69
def MY:=hq5 "_law_units" 1104 "_law_units" 1105 1106 416 2 577 578 579 580 581 1112 1113
def MZ:=hq6 "_law_units" 69 69 "law_nt0061_02" 1063 582
def M0:=hq8 "names" 1118 "at" 1119
def Pz:=hq4 "_law_is_figure" 70 70
def M1:=hq5 "_law_is_figure" 1115 "_law_is_figure" 1116 1117 425 2 584 585 586 587 588 1120 1121
def M3:=hq6 "_law_is_figure" 70 70 "law_nt0061_02" 1063 589
noncomputable def M4:PO:=fun P=>(oT [(vs "unit" 1126)])
def PA:=hq4 "_law_is_aksara" 71 71
def M5:=hq5 "_law_is_aksara" 1123 "_law_is_aksara" 1124 1125 429 1 591 592 593 594 595 1127 1128
def M6:=hq6 "_law_is_aksara" 71 71 "law_nt0061_02" 1063 596
noncomputable def M7:PO:=fun P=>(oT [(vs "names" 1133),(vs "k" 1134),(vs "is_whole" 1135),(vs "a" 1136),(vs "b" 1137)])
def PB:=hq4 "_law_figures" 72 72
def M8:=hq5 "_law_figures" 1130 "_law_figures" 1131 1132 431 3 598 599 600 601 602 1138 1139
def M9:=hq6 "_law_figures" 72 72 "law_nt0061_02" 1063 603
noncomputable def Na:PO:=fun P=>(oT [(vs "units" 1144),(vs "names" 1145),(vs "k" 1146),(vs "how" 1147),(vs "a" 1148),(vs "b" 1149),(vs "j" 1150),(vs "last" 1151),(vs "opens" 1152),(vs "shuts" 1153)])
def PC:=hq4 "_law_ahead" 73 73
def Nb:=hq5 "_law_ahead" 1141 "_law_ahead" 1142 1143 442 4 605 606 607 608 609 1154 1155
def Nc:=hq6 "_law_ahead" 73 73 "law_nt0061_02" 1063 610
noncomputable def Nd:PO:=fun P=>(oT [(vs "units" 1160),(vs "names" 1161),(vs "k" 1162),(vs "how" 1163),(vs "a" 1164),(vs "b" 1165),(vs "wide" 1166),(vs "letters" 1167),(vs "jamo" 1168),(vs "pictures" 1169),(vs "near" 1170),(vs "far" 1171),(vs "j" 1172),(vs "kept" 1173)])
def PD:=hq4 "_law_joined" 74 74
def Nf:=hq5 "_law_joined" 1157 "_law_joined" 1158 1159 468 4 612 613 614 615 616 1174 1175
def Ng:=hq6 "_law_joined" 74 74 "law_nt0061_02" 1063 617
def PE:=hq4 "_law_places" 75 75
def Nh:=uJ "_law_places" 1177 "_law_places" 1178 1179 503 2 619 620 621 1180 1181
def Ni:=hq6 "_law_places" 75 75 "law_nt0061_02" 1063 622
def PF:=hq4 "_law_drawn" 76 76
def Nj:=uJ "_law_drawn" 1183 "_law_drawn" 1184 1185 513 2 624 625 626 1186 1187
def Nk:=hq6 "_law_drawn" 76 76 "law_nt0061_02" 1063 627
noncomputable def dq2(P:Params):=[(de P "__name__" 165 (vs "law_nt0061_02" 1063)),(de P "__doc__" 166 Value.none),(de P "__package__" 167 Value.none),(de P "__loader__" 168 (Value.builtin "__main__.__loader__#opaque")),(de P "__spec__" 169 Value.none),(dl P "__annotations__" 170 6),(dl P "__builtins__" 171 4),(de P "__file__" 173 (vs "/claim/cut.py" 172)),(de P "__cached__" 174 Value.none),(dl P "_wall" 193 21),(de P "MAX_CODE" 197 (vi 1114111 196)),(dl P "UniError" 226 39),(dl P "BadRule" 242 52),(dl P "place_by_half" 253 61),(dl P "LINE_HARD" 260 62),(dl P "LINE_BARE" 267 63),(dl P "LINE_MARKS" 270 64),(dl P "LINE_PLAIN" 274 65),(dl P "LINE_CLOSING" 280 66),(dl P "LINE_AHEAD_OF_OPENING" 290 67),(dl P "LINE_BEHIND_CLOSING" 305 68),(dl P "LINE_ALPHABETIC" 308 69),(dl P "LINE_IDEOGRAPHIC" 312 70),(dl P "LINE_AFFIXES" 315 71),(dl P "LINE_SYLLABIC" 321 72),(dl P "LINE_INNER" 325 73),(dl P "LINE_WIDE" 329 74),(dl P "LINE_KEPT" 339 75),(dl P "LINE_NUMBERS" 368 90),(dl P "LINE_JAMO" 389 91),(dl P "LINE_ITERATION" 396 97),(dl P "LINE_JAMO_RANGES" 415 104),(de P "LINE_FIRST_SYLLABLE" 417 (vi 44032 416)),(de P "LINE_LAST_SYLLABLE" 419 (vi 55203 418)),(de P "LINE_TAILS" 421 (vi 28 420)),(de P "DOTTED_CIRCLE" 423 (vi 9676 422)),(dl P "LineHow" 458 122),(dl P "line_hangul" 468 133),(dl P "line_class" 478 140),(dl P "LineUnit" 512 157),(dl P "line_units" 525 168),(dl P "LineView" 599 213),(dl P "line_rule_hard" 609 224),(dl P "line_rule_spaces" 617 231),(dl P "line_rule_glue" 627 238),(dl P "line_rule_closing" 637 245),(dl P "line_rule_quotes" 646 252),(dl P "line_rule_over_spaces" 656 259),(dl P "line_rule_signs" 667 266),(dl P "line_rule_letters" 677 273),(dl P "line_is_number" 685 280),(dl P "line_rule_expression" 697 287),(dl P "line_rule_numbers" 705 294),(dl P "line_rule_syllables" 715 301),(dl P "line_is_aksara" 724 308),(dl P "line_rule_aksaras" 738 315),(dl P "line_rule_brackets" 748 322),(dl P "line_rule_pictures" 759 329),(dl P "line_verdict" 768 336),(dl P "line_verdicts" 780 343),(dl P "LineMeasure" 823 367),(dl P "line_last_within" 836 378),(dl P "line_fitted" 842 385),(dl P "LineBreaks" 914 436),(dl P "range_are_like" 924 447),(dl P "RangeMap" 993 492),(dl P "data_defaults" 1003 503),(dl P "Data" 1062 541),(dl P "_law_deck" 1070 550),(dl P "_law_draw" 1080 557),(dl P "_law_pick" 1088 564),(dl P "_law_sorts" 1094 569),(dl P "_law_class" 1103 576),(dl P "_law_units" 1114 583),(dl P "_law_is_figure" 1122 590),(dl P "_law_is_aksara" 1129 597),(dl P "_law_figures" 1140 604),(dl P "_law_ahead" 1156 611),(dl P "_law_joined" 1176 618),(dl P "_law_places" 1182 623),(dl P "_law_drawn" 1188 628),(dl P "_law_data" 1200 635),(dl P "_law_width" 1210 642),(dl P "_law_lines" 1216 647),(dl P "law" 1222 652)]
def Nl:PO:=fun P=>(oB (vt "dict") (Data.dict (List.toArray (dq2 P)) 85))
noncomputable def PG:PO:=fun P=>(oB Value.none (Data.fields (List.toArray [(vi 1 0),(vi 0 0),(vr 20),(vi 6 0),(vi 0 0),(vr 27),(vi 10 0),(vi 0 0),(vr 48),(vi 12 0),(vi 0 0),(vr 60),(vi 45 0),(vi 0 0),(vr 110),(vi 55 0),(vi 0 0),(vr 132),(vi 62 0),(vi 0 0),(vr 139),(vi 73 0),(vi 0 0),(vr 146),(vi 80 0),(vi 0 0),(vr 167),(vi 91 0),(vi 0 0),(vr 174),(vi 120 0),(vi 0 0),(vr 223),(vi 129 0),(vi 0 0),(vr 230),(vi 135 0),(vi 0 0),(vr 237),(vi 142 0),(vi 0 0),(vr 244),(vi 149 0),(vi 0 0),(vr 251),(vi 156 0),(vi 0 0),(vr 258),(vi 163 0),(vi 0 0),(vr 265),(vi 177 0),(vi 0 0),(vr 272),(vi 186 0),(vi 0 0),(vr 279),(vi 188 0),(vi 0 0),(vr 286),(vi 199 0),(vi 0 0),(vr 293),(vi 203 0),(vi 0 0),(vr 300),(vi 210 0),(vi 0 0),(vr 307),(vi 214 0),(vi 0 0),(vr 314),(vi 221 0),(vi 0 0),(vr 321),(vi 230 0),(vi 0 0),(vr 328),(vi 241 0),(vi 0 0),(vr 335),(vi 247 0),(vi 0 0),(vr 342),(vi 255 0),(vi 0 0),(vr 349),(vi 267 0),(vi 0 0),(vr 377),(vi 273 0),(vi 0 0),(vr 384),(vi 290 0),(vi 0 0),(vr 391),(vi 312 0),(vi 0 0),(vr 446),(vi 314 0),(vi 0 0),(vr 453),(vi 345 0),(vi 0 0),(vr 502),(vi 357 0),(vi 0 0),(vr 509),(vi 378 0),(vi 0 0),(vr 549),(vi 383 0),(vi 0 0),(vr 556),(vi 395 0),(vi 0 0),(vr 563),(vi 397 0),(vi 0 0),(vr 568),(vi 407 0),(vi 0 0),(vr 575),(vi 416 0),(vi 0 0),(vr 582),(vi 425 0),(vi 0 0),(vr 589),(vi 429 0),(vi 0 0),(vr 596),(vi 431 0),(vi 0 0),(vr 603),(vi 442 0),(vi 0 0),(vr 610),(vi 468 0),(vi 0 0),(vr 617),(vi 503 0),(vi 0 0),(vr 622),(vi 513 0),(vi 0 0),(vr 627),(vi 517 0),(vi 0 0),(vr 634),(vi 531 0),(vi 0 0),(vr 641),(vi 535 0),(vi 0 0),(vr 646),(vi 547 0),(vi 0 0),(vr 651)])))
noncomputable def Nm:PO:=fun P=>(oT [(vs "sorts" 1192),(vs "data" 1193),(vs "codes" 1194),(vs "known" 1195),(vs "sort" 1196),(vs "code" 1197)])
def PH:=hq4 "_law_data" 77 77
def Nn:=hq5 "_law_data" 1189 "_law_data" 1190 1191 517 1 629 630 631 632 633 1198 1199
def No:=hq6 "_law_data" 77 77 "law_nt0061_02" 1063 634
def Np:=jM "sorts" 1204 "widths" 1205 "start" 1206 "end" 1207
def PI:=hq4 "_law_width" 78 78
def Nq:=hq5 "_law_width" 1201 "_law_width" 1202 1203 531 4 636 637 638 639 640 1208 1209
def Nr:=hq6 "_law_width" 78 78 "law_nt0061_02" 1063 641
def PJ:=hq4 "_law_lines" 79 79
def Nt:=uJ "_law_lines" 1211 "_law_lines" 1212 1213 535 5 643 644 645 1214 1215
def Nu:=hq6 "_law_lines" 79 79 "law_nt0061_02" 1063 646
def PK:=hq4 "law" 80 80
def Nv:=uJ "law" 1217 "law" 1218 1219 547 1 648 649 650 1220 1221
def Nw:=hq6 "law" 80 80 "law_nt0061_02" 1063 651
def h46:Params->PySem.Heap:=fun P=>(Heap.mk ⟨[boot_o_0 P,boot_o_1 P,boot_o_2 P,boot_o_3 P,boot_o_4 P,boot_o_5 P,boot_o_6 P,boot_o_7 P,boot_o_8 P,boot_o_9 P,boot_o_10 P,hq0 P,hq1 P,o45 P,o46 P]⟩ (Life.mk [] [] [] 0 [] [] Bool.false (List.toArray []) [] 0 Bool.false Bool.false Bool.false 0 [2000,10,10] Bool.false 0 Bool.true [] [] 0 Bool.false))
def t47:TP:=(q boot_o_0 (q boot_o_1 (q boot_o_3 (f boot_o_7) (f hq0)) (q boot_o_5 (f boot_o_9) (f o45))) (q boot_o_2 (q boot_o_4 (f boot_o_8) (f hq1)) (q boot_o_6 (f boot_o_10) (f o46))))
def Jm:TP:=(q boot_o_0 (q boot_o_1 (q o80 (q boot_o_7 (q hq0 (q hq1 (f yg) e) (f hq1)) (q hq7 (f o82) (f hq0))) (q hq0 (q o56 (q o72 (f yk) e) (f o91)) (q o64 (f o83) (f o99)))) (q boot_o_5 (q boot_o_9 (q o54 (q hq0 (f yi) e) (f o89)) (q hq0 (f o78) (f o97))) (q o45 (q o58 (q o74 (f ym) e) (f o93)) (q o66 (f o85) (f ye))))) (q o49 (q boot_o_4 (q boot_o_8 (q hq1 (q o69 (f yh) e) (f o88)) (q o61 (f o77) (f hq1))) (q o81 (q o57 (q o73 (f yl) e) (f o92)) (q o65 (f hq7) (f yd)))) (q boot_o_6 (q boot_o_10 (q hq0 (q o71 (f yj) e) (f hq0)) (q o63 (f o79) (f hq0))) (q o46 (q o59 (q o75 (f yn) e) (f o94)) (q hq0 (f hq0) (f yf))))))
def Jn:TP:=(q boot_o_0 (q boot_o_1 (q QX (q boot_o_7 (q hq0 (q hq1 (f yg) (f Bt)) (q hq1 (f Bd) e)) (q hq7 (q o82 (f A5) (f BB)) (q hq0 (f Bl) e))) (q hq0 (q o56 (q o72 (f yk) (f Bx)) (q o91 (f Bh) e)) (q o64 (q o83 (f A9) e) (q o99 (f Bp) e)))) (q boot_o_5 (q boot_o_9 (q o54 (q hq0 (f yi) (f Bv)) (q o89 (f Bf) e)) (q hq0 (q o78 (f A7) e) (q o97 (f Bn) e))) (q o45 (q o58 (q o74 (f ym) (f Bz)) (q o93 (f Bj) e)) (q o66 (q o85 (f Bb) e) (q ye (f Br) e))))) (q o49 (q boot_o_4 (q boot_o_8 (q hq1 (q o69 (f yh) (f Bu)) (q o88 (f Be) e)) (q o61 (q o77 (f A6) (f BC)) (q hq1 (f Bm) e))) (q o81 (q o57 (q o73 (f yl) (f By)) (q o92 (f Bi) e)) (q o65 (q hq7 (f Ba) e) (q yd (f Bq) e)))) (q boot_o_6 (q boot_o_10 (q hq0 (q o71 (f yj) (f Bw)) (q hq0 (f Bg) e)) (q o63 (q o79 (f A8) e) (q hq0 (f Bo) e))) (q o46 (q o59 (q o75 (f yn) (f BA)) (q o94 (f Bk) e)) (q hq0 (q hq0 (f Bc) e) (q yf (f Bs) e))))))
def PM:TP:=(q boot_o_0 (q boot_o_1 (q QY (q boot_o_7 (q hq0 (q hq1 (q yg (q hq0 (f Ef) e) (f hq1)) (q Bt (q Dt (f Ev) e) (f DV))) (q hq1 (q Bd (q Hj (f HK) e) (f hq0)) (q Hc (q Hv (f hq1) e) (f hq0)))) (q hq7 (q o82 (q A5 (q hq1 (f hq0) e) (f DH)) (q BB (q Dv (f hq0) e) (f DZ))) (q hq0 (q Bl (q hq0 (f Er) e) (f DT)) (q Da (f hq0) (f hq1))))) (q hq0 (q o56 (q o72 (q yk (q Hh (f Eh) e) (f DF)) (q Bx (q hq1 (f hq0) e) (f DX))) (q o91 (q Bh (q Hm (f hq1) e) (f DO)) (q C8 (q hq0 (f ED) e) (f HG)))) (q o64 (q o83 (q A9 (q Dk (f hq0) e) (f DJ)) (q G9 (q Hs (f HP) e) (f hq0))) (q o99 (q Bp (q Dp (f Et) e) (f hq1)) (q De (f Hx) (f Ed)))))) (q boot_o_5 (q boot_o_9 (q o54 (q hq0 (q yi (q Dg (f HI) e) (f hq0)) (q Bv (q Hq (f hq1) e) (f hq0))) (q o89 (q Bf (q Hk (f Eo) e) (f DL)) (q hq0 (q hq1 (f hq0) e) (f D9)))) (q hq0 (q o78 (q A7 (q hq0 (f Ej) e) (f Hz)) (q hq0 (q hq0 (f Ez) e) (f hq1))) (q o97 (q Bn (q Dn (f hq0) e) (f HC)) (q Dc (f DB) (f hq0))))) (q o45 (q o58 (q o74 (q ym (q Di (f hq1) e) (f hq0)) (q Bz (q hq0 (f Ex) e) (f HE))) (q o93 (q Bj (q hq1 (f hq0) e) (f DQ)) (q Hd (f Dy) (f Eb)))) (q o66 (q o85 (q Bb (q hq0 (f El) e) (f hq1)) (q Ha (q Ht (f EB) e) (f D7))) (q ye (q Br (q Dr (f HM) e) (f hq0)) (q He (f DD) (f hq0))))))) (q o49 (q boot_o_4 (q boot_o_8 (q hq1 (q o69 (q yh (q hq1 (f hq0) e) (f DE)) (q Bu (q Ho (f hq0) e) (f DW))) (q o88 (q Be (q hq0 (f Em) e) (f HA)) (q C7 (q hq0 (f EC) e) (f hq1)))) (q o61 (q o77 (q A6 (q Dj (f HJ) e) (f hq0)) (q BC (q Dw (f hq1) e) (f hq0))) (q hq1 (q Bm (q Hn (f Es) e) (f HB)) (q Db (f hq1) (f Ec))))) (q QZ (q o57 (q o73 (q yl (q Dh (f hq0) e) (f DG)) (q By (q Du (f HN) e) (f hq0))) (q o92 (q Bi (q hq0 (f Ep) e) (f DP)) (q hq0 (q Hw (f EE) e) (f Ea)))) (q o65 (q hq7 (q Ba (q Dl (f hq1) e) (f hq0)) (q hq0 (q hq0 (f EA) e) (f HF))) (q yd (q Bq (q Dq (f hq0) e) (f DU)) (q Df (f DC) (f Ee)))))) (q boot_o_6 (q boot_o_10 (q hq0 (q o71 (q yj (q hq0 (f Eg) e) (f Hy)) (q Bw (q hq0 (f Ew) e) (f hq1))) (q hq0 (q Bg (q Hl (f hq0) e) (f DN)) (q hq1 (q Dx (f HQ) e) (f hq0)))) (q o63 (q o79 (q A8 (q Hi (f Ek) e) (f DI)) (q hq7 (q hq7 (f hq0) e) (f D0))) (q hq0 (q Bo (q Do (f hq1) e) (f hq0)) (q Dd (f hq0) (f HH))))) (q o46 (q o59 (q o75 (q yn (q hq0 (f Ei) e) (f hq1)) (q BA (q Hr (f Ey) e) (f DY))) (q o94 (q Bk (q Dm (f HL) e) (f DR)) (q C9 (f Dz) (f hq0)))) (q hq0 (q hq0 (q Bc (q hq7 (f hq0) e) (f DK)) (q Hb (q Hu (f hq0) e) (f D8))) (q yf (q Bs (q Ds (f Eu) e) (f HD)) (q Hg (f hq0) (f hq1))))))))
def PN:TP:=(q boot_o_0 (q boot_o_1 (q Q2 (q boot_o_7 (q hq0 (q hq1 (q yg (q hq0 (f Ef) (f LS)) (q hq1 (f hq0) (f IV))) (q Bt (q Dt (f Ev) (f L3)) (q DV (f hq0) (f hq0)))) (q hq1 (q Bd (q Hj (f HK) (f Ix)) (q hq0 (f H1) (f hq1))) (q Hc (q Hv (f hq1) (f L5)) (q hq0 (f Ij) (f Mi))))) (q hq7 (q o82 (q A5 (q hq1 (f hq0) (f LW)) (q DH (f LD) (f hq0))) (q BB (q Dv (f hq0) (f hq0)) (q DZ (f hq1) (f Mh)))) (q hq0 (q Bl (q hq0 (f Er) (f hq1)) (q DT (f H5) (f I7))) (q Da (q hq0 (f HR) (f L6)) (q hq1 (f hq0) e))))) (q hq0 (q o56 (q o72 (q yk (q Hh (f Eh) (f hq7)) (q DF (f hq0) (f hq0))) (q Bx (q hq1 (f hq0) (f IH)) (q DX (f LM) (f hq0)))) (q o91 (q Bh (q Hm (f hq1) (f LZ)) (q DO (f H3) (f I5))) (q C8 (q hq0 (f ED) (f IP)) (q HG (f LQ) e)))) (q o64 (q o83 (q A9 (q Dk (f hq0) (f hq1)) (q DJ (f hq1) (f Md))) (q G9 (q Hs (f HP) (f hq0)) (q hq0 (f Ie) (f Ji)))) (q o99 (q Bp (q Dp (f Et) (f ID)) (q hq1 (f hq0) (f I9))) (q De (q Hx (f HT) (f IT)) (q Ed (f hq0) e)))))) (q boot_o_5 (q boot_o_9 (q o54 (q hq0 (q yi (q Dg (f HI) (f Iu)) (q hq0 (f HV) (f hq7))) (q Bv (q Hq (f hq1) (f IG)) (q hq0 (f H6) (f Jc)))) (q o89 (q Bf (q Hk (f Eo) (f hq0)) (q DL (f hq0) (f hq0))) (q hq0 (q hq1 (f hq0) (f IN)) (q D9 (f Il) e)))) (q hq0 (q o78 (q A7 (q hq0 (f Ej) (f Iv)) (q Hz (f HZ) (f IW))) (q hq0 (q hq0 (f Ez) (f IJ)) (q hq1 (f hq0) (f Jg)))) (q o97 (q Bn (q Dn (f hq0) (f hq0)) (q HC (f hq7) (f Mf))) (q Dc (q DB (f LA) (f hq0)) (q hq0 (f Io) e))))) (q o45 (q o58 (q o74 (q ym (q Di (f hq1) (f hq0)) (q hq0 (f HX) (f Mb))) (q Bz (q hq0 (f Ex) (f hq1)) (q HE (f H8) (f Je)))) (q o93 (q Bj (q hq1 (f hq0) (f IB)) (q DQ (f LG) (f hq0))) (q Hd (q Dy (f hq0) (f IR)) (q Eb (f hq1) e)))) (q o66 (q o85 (q Bb (q hq0 (f El) (f hq0)) (q hq1 (f hq0) (f IY))) (q Ha (q Ht (f EB) (f IL)) (q D7 (f Ih) (f Jk)))) (q ye (q Br (q Dr (f HM) (f hq0)) (q hq0 (f LJ) (f hq1))) (q He (q DD (f hq1) (f L8)) (q hq0 (f hq0) e))))))) (q o49 (q boot_o_4 (q boot_o_8 (q hq1 (q o69 (q yh (q hq1 (f hq0) (f Ir)) (q DE (f LB) (f hq0))) (q Bu (q Ho (f hq0) (f IF)) (q DW (f hq1) (f Mg)))) (q o88 (q Be (q hq0 (f Em) (f Iy)) (q HA (f H2) (f IZ))) (q C7 (q hq0 (f EC) (f IM)) (q hq1 (f Ik) (f Mj))))) (q o61 (q o77 (q A6 (q Dj (f HJ) (f LX)) (q hq0 (f HY) (f hq1))) (q BC (q Dw (f hq1) (f L4)) (q hq0 (f H9) (f Jf)))) (q hq1 (q Bm (q Hn (f Es) (f IC)) (q HB (f hq0) (f hq0))) (q Db (q hq1 (f hq0) (f L7)) (q Ec (f LR) e))))) (q Q3 (q o57 (q o73 (q yl (q Dh (f hq0) (f LU)) (q DG (f hq1) (f Ma))) (q By (q Du (f HN) (f hq0)) (q hq0 (f H7) (f hq1)))) (q o92 (q Bi (q hq0 (f Ep) (f Iz)) (q DP (f hq0) (f I6))) (q hq0 (q Hw (f EE) (f IQ)) (q Ea (f hq0) e)))) (q o65 (q hq7 (q Ba (q Dl (f hq1) (f Iw)) (q hq0 (f H0) (f IX))) (q hq0 (q hq0 (f EA) (f hq1)) (q HF (f Ig) (f Jj)))) (q yd (q Bq (q Dq (f hq0) (f IE)) (q DU (f LI) (f hq0))) (q Df (q DC (f hq0) (f hq0)) (q Ee (f Iq) e)))))) (q boot_o_6 (q boot_o_10 (q hq0 (q o71 (q yj (q hq0 (f Eg) (f hq0)) (q Hy (f HW) (f L9))) (q Bw (q hq0 (f Ew) (f hq0)) (q hq1 (f hq0) (f Jd)))) (q hq0 (q Bg (q Hl (f hq0) (f hq1)) (q DN (f hq1) (f Me))) (q hq1 (q Dx (f HQ) (f IO)) (q hq0 (f LP) e)))) (q o63 (q o79 (q A8 (q Hi (f Ek) (f hq0)) (q DI (f hq0) (f hq0))) (q hq7 (q hq7 (f hq0) (f IK)) (q D0 (f LO) (f Jh)))) (q hq0 (q Bo (q Do (f hq1) (f L0)) (q hq0 (f LH) (f I8))) (q Dd (q hq0 (f HS) (f hq1)) (q HH (f Ip) e))))) (q o46 (q o59 (q o75 (q yn (q hq0 (f Ei) (f LV)) (q hq1 (f hq0) (f Mc))) (q BA (q Hr (f Ey) (f II)) (q DY (f hq0) (f hq0)))) (q o94 (q Bk (q Dm (f HL) (f hq0)) (q DR (f H4) (f hq1))) (q C9 (q Dz (f hq1) (f IS)) (q hq0 (f Im) e)))) (q hq0 (q hq0 (q Bc (q hq7 (f hq0) (f LY)) (q DK (f LE) (f hq0))) (q Hb (q Hu (f hq0) (f hq0)) (q D8 (f Ii) (f Jl)))) (q yf (q Bs (q Ds (f Eu) (f hq1)) (q HD (f LK) (f Jb))) (q Hg (q hq0 (f HU) (f IU)) (q hq1 (f hq1) e))))))))
def PP:TP:=(q boot_o_0 (q boot_o_1 (q Nl (q boot_o_7 (q hq0 (q hq1 (q yg (q hq0 (q Ef (f hq0) e) (q LS (f hq0) e)) (q hq1 (q hq0 (f MU) e) (f IV))) (q Bt (q Dt (q Ev (f ME) e) (f L3)) (q DV (q hq0 (f Na) e) (f hq0)))) (q hq1 (q Bd (q Hj (q HK (f Mt) e) (f Ix)) (q hq0 (q H1 (f hq0) e) (f hq1))) (q Hc (q Hv (q hq1 (f hq1) e) (f L5)) (q hq0 (q Ij (f Ni) e) (f Mi))))) (q hq7 (q o82 (q A5 (q hq1 (q hq0 (f hq1) e) (q LW (f Nu) e)) (q DH (q LD (f MZ) e) (f hq0))) (q BB (q Dv (q hq0 (f hq0) e) (f hq0)) (q DZ (q hq1 (f hq0) e) (f Mh)))) (q hq0 (q Bl (q hq0 (q Er (f hq0) e) (f hq1)) (q DT (q H5 (f hq1) e) (f I7))) (q Da (q hq0 (q HR (f Pw) e) (f L6)) (q hq1 (q hq0 (f Nm) e) (f Mm)))))) (q hq0 (q o56 (q o72 (q yk (q Hh (q Eh (f Pn) e) (q hq7 (f hq0) e)) (q DF (q hq0 (f MX) e) (f hq0))) (q Bx (q hq1 (q hq0 (f hq1) e) (f IH)) (q DX (q LM (f Nc) e) (f hq0)))) (q o91 (q Bh (q Hm (q hq1 (f Mv) e) (f LZ)) (q DO (q H3 (f PA) e) (f I5))) (q C8 (q hq0 (q ED (f MN) e) (f IP)) (q HG (q LQ (f Nj) e) (f Mk))))) (q o64 (q o83 (q A9 (q Dk (q hq0 (f Mr) e) (q hq1 (f Nv) e)) (q DJ (q hq1 (f hq0) e) (f Md))) (q G9 (q Hs (q HP (f Pu) e) (f hq0)) (q hq0 (q Ie (f hq0) e) (f Ji)))) (q o99 (q Bp (q Dp (q Et (f Mz) e) (f ID)) (q hq1 (q hq0 (f M8) e) (f I9))) (q De (q Hx (q HT (f hq1) e) (f IT)) (q Ed (q hq0 (f No) e) (f hq0))))))) (q boot_o_5 (q boot_o_9 (q o54 (q hq0 (q yi (q Dg (q HI (f Mn) e) (q Iu (f Nq) e)) (q hq0 (q HV (f hq0) e) (f hq7))) (q Bv (q Hq (q hq1 (f Ps) e) (f IG)) (q hq0 (q H6 (f PC) e) (f Jc)))) (q o89 (q Bf (q Hk (q Eo (f Pp) e) (f hq0)) (q DL (q hq0 (f M4) e) (f hq0))) (q hq0 (q hq1 (q hq0 (f hq0) e) (f IN)) (q D9 (q Il (f hq1) e) (f hq0))))) (q hq0 (q o78 (q A7 (q hq0 (q Ej (f hq0) e) (q Iv (f hq1) e)) (q Hz (q HZ (f hq1) e) (f IW))) (q hq0 (q hq0 (q Ez (f MH) e) (f IJ)) (q hq1 (q hq0 (f Nf) e) (f Jg)))) (q o97 (q Bn (q Dn (q hq0 (f Mx) e) (f hq0)) (q HC (q hq7 (f hq0) e) (f Mf))) (q Dc (q DB (q LA (f MR) e) (f hq0)) (q hq0 (q Io (f PH) e) (f hq7)))))) (q o45 (q o58 (q o74 (q ym (q Di (q hq1 (f Mp) e) (q hq0 (f PJ) e)) (q hq0 (q HX (f Py) e) (f Mb))) (q Bz (q hq0 (q Ex (f MF) e) (f hq1)) (q HE (q H8 (f hq1) e) (f Je)))) (q o93 (q Bj (q hq1 (q hq0 (f hq1) e) (f IB)) (q DQ (q LG (f M6) e) (f hq0))) (q Hd (q Dy (q hq0 (f hq0) e) (f IR)) (q Eb (q hq1 (f hq0) e) (f Pi))))) (q o66 (q o85 (q Bb (q hq0 (q El (f hq0) e) (f hq0)) (q hq1 (q hq0 (f M1) e) (f IY))) (q Ha (q Ht (q EB (f MJ) e) (f IL)) (q D7 (q Ih (f PE) e) (f Jk)))) (q ye (q Br (q Dr (q HM (f MC) e) (f hq0)) (q hq0 (q LJ (f hq0) e) (f hq1))) (q He (q DD (q hq1 (f hq0) e) (f L8)) (q hq0 (q hq0 (f hq1) e) (f Pl)))))))) (q o49 (q boot_o_4 (q boot_o_8 (q hq1 (q o69 (q yh (q hq1 (q hq0 (f hq1) e) (q Ir (f PI) e)) (q DE (q LB (f MW) e) (f hq0))) (q Bu (q Ho (q hq0 (f Pr) e) (f IF)) (q DW (q hq1 (f hq0) e) (f Mg)))) (q o88 (q Be (q hq0 (q Em (f hq0) e) (f Iy)) (q HA (q H2 (f hq1) e) (f IZ))) (q C7 (q hq0 (q EC (f MM) e) (f IM)) (q hq1 (q Ik (f hq0) e) (f Mj))))) (q o61 (q o77 (q A6 (q Dj (q HJ (f Mq) e) (q LX (f hq0) e)) (q hq0 (q HY (f hq0) e) (f hq1))) (q BC (q Dw (q hq1 (f hq1) e) (f L4)) (q hq0 (q H9 (f PD) e) (f Jf)))) (q hq1 (q Bm (q Hn (q Es (f Pq) e) (f IC)) (q HB (q hq0 (f M7) e) (f hq0))) (q Db (q hq1 (q hq0 (f MQ) e) (f L7)) (q Ec (q LR (f hq0) e) (f hq0)))))) (q PG (q o57 (q o73 (q yl (q Dh (q hq0 (f Mo) e) (q LU (f hq1) e)) (q DG (q hq1 (f hq0) e) (f Ma))) (q By (q Du (q HN (f Pt) e) (f hq0)) (q hq0 (q H7 (f hq0) e) (f hq1)))) (q o92 (q Bi (q hq0 (q Ep (f hq0) e) (f Iz)) (q DP (q hq0 (f M5) e) (f I6))) (q hq0 (q Hw (q EE (f MO) e) (f IQ)) (q Ea (q hq0 (f Nk) e) (f hq0))))) (q o65 (q hq7 (q Ba (q Dl (q hq1 (f Ms) e) (q Iw (f Nw) e)) (q hq0 (q H0 (f Pz) e) (f IX))) (q hq0 (q hq0 (q EA (f MI) e) (f hq1)) (q HF (q Ig (f hq1) e) (f Jj)))) (q yd (q Bq (q Dq (q hq0 (f MB) e) (f IE)) (q DU (q LI (f M9) e) (f hq0))) (q Df (q DC (q hq0 (f MT) e) (f hq0)) (q Ee (q Iq (f hq0) e) (f Pk))))))) (q boot_o_6 (q boot_o_10 (q hq0 (q o71 (q yj (q hq0 (q Eg (f hq0) e) (q hq0 (f Nr) e)) (q Hy (q HW (f hq1) e) (f L9))) (q Bw (q hq0 (q Ew (f hq0) e) (f hq0)) (q hq1 (q hq0 (f Nb) e) (f Jd)))) (q hq0 (q Bg (q Hl (q hq0 (f Mu) e) (f hq1)) (q DN (q hq1 (f hq0) e) (f Me))) (q hq1 (q Dx (q HQ (f Pv) e) (f IO)) (q hq0 (q LP (f PF) e) (f hq1))))) (q o63 (q o79 (q A8 (q Hi (q Ek (f Po) e) (q hq0 (f PK) e)) (q DI (q hq0 (f M0) e) (f hq0))) (q hq7 (q hq7 (q hq0 (f hq0) e) (f IK)) (q D0 (q LO (f Ng) e) (f Jh)))) (q hq0 (q Bo (q Do (q hq1 (f My) e) (f L0)) (q hq0 (q LH (f PB) e) (f I8))) (q Dd (q hq0 (q HS (f hq0) e) (f hq1)) (q HH (q Ip (f Nn) e) (f Pj)))))) (q o46 (q o59 (q o75 (q yn (q hq0 (q Ei (f hq0) e) (q LV (f Nt) e)) (q hq1 (q hq0 (f MY) e) (f Mc))) (q BA (q Hr (q Ey (f MG) e) (f II)) (q DY (q hq0 (f Nd) e) (f hq0)))) (q o94 (q Bk (q Dm (q HL (f Mw) e) (f hq0)) (q DR (q H4 (f hq0) e) (f hq1))) (q C9 (q Dz (q hq1 (f hq1) e) (f IS)) (q hq0 (q Im (f hq1) e) (f Ml))))) (q hq0 (q hq0 (q Bc (q hq7 (q hq0 (f hq1) e) (f LY)) (q DK (q LE (f M3) e) (f hq0))) (q Hb (q Hu (q hq0 (f hq0) e) (f hq0)) (q D8 (q Ii (f Nh) e) (f Jl)))) (q yf (q Bs (q Ds (q Eu (f MD) e) (f hq1)) (q HD (q LK (f hq1) e) (f Jb))) (q Hg (q hq0 (q HU (f Px) e) (f IU)) (q hq1 (q hq1 (f Np) e) (f Pm)))))))))
def fK:Params->PySem.Heap:=fun P=>(Heap.mk ⟨[boot_o_0 P,boot_o_1 P,o49 P,Nl P,boot_o_4 P,boot_o_5 P,boot_o_6 P,boot_o_7 P,boot_o_8 P,boot_o_9 P,boot_o_10 P,hq0 P,PG P,o45 P,o46 P,hq0 P,hq1 P,o54 P,hq0 P,o56 P,o57 P,o58 P,o59 P,hq7 P,o61 P,hq0 P,o63 P,o64 P,o65 P,o66 P,hq0 P,hq1 P,o69 P,hq0 P,o71 P,o72 P,o73 P,o74 P,o75 P,o82 P,o77 P,o78 P,o79 P,o83 P,hq7 P,o85 P,hq0 P,hq1 P,o88 P,o89 P,hq0 P,o91 P,o92 P,o93 P,o94 P,hq0 P,hq1 P,o97 P,hq0 P,o99 P,yd P,ye P,yf P,yg P,yh P,yi P,yj P,yk P,yl P,ym P,yn P,A5 P,A6 P,A7 P,A8 P,A9 P,Ba P,Bb P,Bc P,Bd P,Be P,Bf P,Bg P,Bh P,Bi P,Bj P,Bk P,Bl P,Bm P,Bn P,Bo P,Bp P,Bq P,Br P,Bs P,Bt P,Bu P,Bv P,Bw P,Bx P,By P,Bz P,BA P,BB P,BC P,hq0 P,hq7 P,G9 P,hq0 P,Ha P,Hb P,Hc P,C7 P,hq0 P,hq1 P,C8 P,hq0 P,Hd P,C9 P,Da P,Db P,Dc P,Dd P,De P,Df P,He P,Hg P,hq0 P,hq1 P,Dg P,hq0 P,Hh P,Dh P,Di P,hq0 P,hq1 P,Dj P,hq0 P,Hi P,Dk P,Dl P,hq0 P,hq7 P,Hj P,hq0 P,Hk P,Hl P,Hm P,hq0 P,hq1 P,Dm P,hq0 P,Hn P,Dn P,Do P,Dp P,Dq P,Dr P,Ds P,Dt P,Ho P,Hq P,hq0 P,hq1 P,Du P,hq0 P,Hr P,Dv P,Dw P,hq0 P,hq7 P,Hs P,hq0 P,Ht P,Hu P,Hv P,hq0 P,hq1 P,Dx P,hq0 P,Hw P,Dy P,Dz P,hq0 P,hq1 P,DB P,hq0 P,Hx P,DC P,DD P,hq0 P,hq1 P,DE P,hq0 P,Hy P,DF P,DG P,hq0 P,hq1 P,DH P,hq0 P,Hz P,DI P,DJ P,hq0 P,hq1 P,DK P,hq0 P,HA P,DL P,DN P,DO P,DP P,DQ P,DR P,DT P,HB P,HC P,hq0 P,hq1 P,DU P,hq0 P,HD P,DV P,DW P,hq0 P,hq1 P,DX P,hq0 P,HE P,DY P,DZ P,hq0 P,hq1 P,D0 P,hq0 P,HF P,D7 P,D8 P,hq0 P,hq1 P,D9 P,hq0 P,HG P,Ea P,Eb P,hq0 P,hq1 P,Ec P,hq0 P,HH P,Ed P,Ee P,hq0 P,hq1 P,Ef P,hq0 P,HI P,Eg P,Eh P,hq0 P,hq1 P,Ei P,hq0 P,HJ P,Ej P,Ek P,hq0 P,hq1 P,El P,hq0 P,HK P,Em P,Eo P,hq0 P,hq1 P,Ep P,hq0 P,HL P,Er P,Es P,hq0 P,hq1 P,Et P,hq0 P,HM P,Eu P,Ev P,hq0 P,hq1 P,Ew P,hq0 P,HN P,Ex P,Ey P,hq0 P,hq1 P,Ez P,hq0 P,HP P,EA P,EB P,hq0 P,hq1 P,EC P,hq0 P,HQ P,ED P,EE P,hq0 P,hq1 P,HR P,hq0 P,LA P,HS P,HT P,hq0 P,hq1 P,HU P,hq0 P,LB P,HV P,HW P,hq0 P,hq1 P,HX P,hq0 P,LD P,HY P,HZ P,hq0 P,hq1 P,H0 P,hq0 P,LE P,H1 P,H2 P,hq0 P,hq1 P,H3 P,hq0 P,LG P,H4 P,H5 P,hq0 P,hq7 P,LH P,hq0 P,LI P,LJ P,LK P,hq0 P,hq1 P,H6 P,hq0 P,LM P,H7 P,H8 P,hq0 P,hq1 P,H9 P,hq0 P,LO P,Ie P,Ig P,Ih P,Ii P,Ij P,Ik P,Il P,LP P,LQ P,hq0 P,hq1 P,Im P,hq0 P,LR P,Io P,Ip P,hq0 P,Iq P,hq0 P,hq1 P,LS P,Ir P,Iu P,hq0 P,hq7 P,LU P,hq0 P,LV P,LW P,LX P,Iv P,hq0 P,hq1 P,Iw P,hq0 P,LY P,Ix P,Iy P,hq0 P,hq1 P,LZ P,Iz P,IB P,hq0 P,hq1 P,IC P,hq0 P,L0 P,ID P,IE P,hq0 P,hq1 P,L3 P,IF P,IG P,hq0 P,IH P,hq0 P,hq1 P,II P,hq0 P,L4 P,IJ P,IK P,hq0 P,hq1 P,IL P,hq0 P,L5 P,IM P,IN P,IO P,IP P,IQ P,IR P,IS P,L6 P,L7 P,hq0 P,hq1 P,IT P,hq0 P,L8 P,IU P,IV P,hq0 P,hq7 P,L9 P,hq0 P,Ma P,Mb P,Mc P,hq0 P,hq1 P,IW P,hq0 P,Md P,IX P,IY P,hq0 P,hq1 P,IZ P,hq0 P,Me P,I5 P,I6 P,hq0 P,hq1 P,I7 P,hq0 P,Mf P,I8 P,I9 P,hq0 P,hq1 P,Jb P,hq0 P,Mg P,Jc P,Jd P,hq0 P,hq1 P,Je P,hq0 P,Mh P,Jf P,Jg P,Jh P,Ji P,Jj P,Jk P,Jl P,Mi P,Mj P,hq0 P,hq1 P,Mk P,hq0 P,Pi P,Ml P,Mm P,hq0 P,hq7 P,Pj P,hq0 P,Pk P,Pl P,Pm P,hq0 P,hq1 P,Mn P,hq0 P,Pn P,Mo P,Mp P,hq0 P,hq1 P,Mq P,hq0 P,Po P,Mr P,Ms P,hq0 P,hq1 P,Mt P,hq0 P,Pp P,Mu P,Mv P,hq0 P,hq1 P,Mw P,hq0 P,Pq P,Mx P,My P,Mz P,MB P,MC P,MD P,ME P,Pr P,Ps P,hq0 P,hq1 P,Pt P,MF P,MG P,hq0 P,hq1 P,MH P,hq0 P,Pu P,MI P,MJ P,hq0 P,hq1 P,MM P,hq0 P,Pv P,MN P,MO P,hq0 P,hq1 P,Pw P,MQ P,MR P,hq0 P,hq1 P,MT P,hq0 P,Px P,MU P,MW P,hq0 P,hq1 P,MX P,hq0 P,Py P,MY P,MZ P,hq0 P,hq1 P,M0 P,hq0 P,Pz P,M1 P,M3 P,hq0 P,hq1 P,M4 P,hq0 P,PA P,M5 P,M6 P,hq0 P,hq1 P,M7 P,hq0 P,PB P,M8 P,M9 P,hq0 P,hq1 P,Na P,hq0 P,PC P,Nb P,Nc P,hq0 P,hq1 P,Nd P,hq0 P,PD P,Nf P,Ng P,hq0 P,hq1 P,PE P,Nh P,Ni P,hq0 P,hq1 P,PF P,Nj P,Nk P,hq0 P,hq1 P,Nm P,hq0 P,PH P,Nn P,No P,hq0 P,hq1 P,Np P,hq0 P,PI P,Nq P,Nr P,hq0 P,hq1 P,PJ P,Nt P,Nu P,hq0 P,hq1 P,PK P,Nv P,Nw P]⟩ (Life.mk [] [] [] 0 [] [] Bool.false (List.toArray []) [] 0 Bool.false Bool.false Bool.false 0 [2000,10,10] Bool.false 0 Bool.true [] [] 0 Bool.false))
def aB:Params->Frag:=fun P=>[(2,o49 P),(3,Nl P),(15,hq0 P),(17,o54 P),(18,hq0 P),(20,o57 P),(21,o58 P),(22,o59 P),(29,o66 P),(30,hq0 P),(32,o69 P),(33,hq0 P),(35,o72 P),(36,o73 P),(37,o74 P),(38,o75 P),(39,o82 P),(40,o77 P),(43,o83 P),(50,hq0 P),(51,o91 P),(52,o92 P),(55,hq0 P),(57,o97 P),(58,hq0 P),(60,yd P),(61,ye P),(62,yf P),(63,yg P),(64,yh P),(65,yi P),(66,yj P),(67,yk P),(68,yl P),(69,ym P),(70,yn P),(71,A5 P),(72,A6 P),(73,A7 P),(74,A8 P),(75,A9 P),(76,Ba P),(77,Bb P),(78,Bc P),(79,Bd P),(80,Be P),(81,Bf P),(82,Bg P),(83,Bh P),(84,Bi P),(85,Bj P),(86,Bk P),(87,Bl P),(88,Bm P),(89,Bn P),(90,Bo P),(91,Bp P),(92,Bq P),(93,Br P),(94,Bs P),(95,Bt P),(96,Bu P),(97,Bv P),(98,Bw P),(99,Bx P),(100,By P),(101,Bz P),(102,BA P),(103,BB P),(104,BC P),(112,C7 P),(113,hq0 P),(115,C8 P),(116,hq0 P),(118,C9 P),(119,Da P),(120,Db P),(121,Dc P),(122,Dd P),(123,De P),(124,Df P),(127,hq0 P),(129,Dg P),(130,hq0 P),(132,Dh P),(133,Di P),(134,hq0 P),(136,Dj P),(137,hq0 P),(139,Dk P),(140,Dl P),(148,hq0 P),(150,Dm P),(151,hq0 P),(153,Dn P),(154,Do P),(155,Dp P),(156,Dq P),(157,Dr P),(158,Ds P),(159,Dt P),(162,hq0 P),(164,Du P),(165,hq0 P),(167,Dv P),(168,Dw P),(176,hq0 P),(178,Dx P),(179,hq0 P),(181,Dy P),(182,Dz P),(183,hq0 P),(185,DB P),(186,hq0 P),(188,DC P),(189,DD P),(190,hq0 P),(192,DE P),(193,hq0 P),(195,DF P),(196,DG P),(197,hq0 P),(199,DH P),(200,hq0 P),(202,DI P),(203,DJ P),(204,hq0 P),(206,DK P),(207,hq0 P),(209,DL P),(210,DN P),(211,DO P),(212,DP P),(213,DQ P),(214,DR P),(215,DT P),(218,hq0 P),(220,DU P),(221,hq0 P),(223,DV P),(224,DW P),(225,hq0 P),(227,DX P),(228,hq0 P),(230,DY P),(231,DZ P),(232,hq0 P),(234,D0 P),(235,hq0 P),(237,D7 P),(238,D8 P),(239,hq0 P),(241,D9 P),(242,hq0 P),(244,Ea P),(245,Eb P),(246,hq0 P),(248,Ec P),(249,hq0 P),(251,Ed P),(252,Ee P),(253,hq0 P),(255,Ef P),(256,hq0 P),(258,Eg P),(259,Eh P),(260,hq0 P),(262,Ei P),(263,hq0 P),(265,Ej P),(266,Ek P),(267,hq0 P),(269,El P),(270,hq0 P),(272,Em P),(273,Eo P),(274,hq0 P),(276,Ep P),(277,hq0 P),(279,Er P),(280,Es P),(281,hq0 P),(283,Et P),(284,hq0 P),(286,Eu P),(287,Ev P),(288,hq0 P),(290,Ew P),(291,hq0 P),(293,Ex P),(294,Ey P),(295,hq0 P),(297,Ez P),(298,hq0 P),(300,EA P),(301,EB P),(302,hq0 P),(304,EC P),(305,hq0 P),(307,ED P),(308,EE P),(309,hq0 P),(311,HR P),(312,hq0 P),(314,HS P),(315,HT P),(316,hq0 P),(318,HU P),(319,hq0 P),(321,HV P),(322,HW P),(323,hq0 P),(325,HX P),(326,hq0 P),(328,HY P),(329,HZ P),(330,hq0 P),(332,H0 P),(333,hq0 P),(335,H1 P),(336,H2 P),(337,hq0 P),(339,H3 P),(340,hq0 P),(342,H4 P),(343,H5 P),(351,hq0 P),(353,H6 P),(354,hq0 P),(356,H7 P),(357,H8 P),(358,hq0 P),(360,H9 P),(361,hq0 P),(363,Ie P),(364,Ig P),(365,Ih P),(366,Ii P),(367,Ij P),(368,Ik P),(369,Il P),(372,hq0 P),(374,Im P),(375,hq0 P),(377,Io P),(378,Ip P),(379,hq0 P),(380,Iq P),(381,hq0 P),(384,Ir P),(385,Iu P),(393,Iv P),(394,hq0 P),(396,Iw P),(397,hq0 P),(399,Ix P),(400,Iy P),(401,hq0 P),(404,Iz P),(405,IB P),(406,hq0 P),(408,IC P),(409,hq0 P),(411,ID P),(412,IE P),(413,hq0 P),(416,IF P),(417,IG P),(418,hq0 P),(419,IH P),(420,hq0 P),(422,II P),(423,hq0 P),(425,IJ P),(426,IK P),(427,hq0 P),(429,IL P),(430,hq0 P),(432,IM P),(433,IN P),(434,IO P),(435,IP P),(436,IQ P),(437,IR P),(438,IS P),(441,hq0 P),(443,IT P),(444,hq0 P),(446,IU P),(447,IV P),(455,hq0 P),(457,IW P),(458,hq0 P),(460,IX P),(461,IY P),(462,hq0 P),(464,IZ P),(465,hq0 P),(467,I5 P),(468,I6 P),(469,hq0 P),(471,I7 P),(472,hq0 P),(474,I8 P),(475,I9 P),(476,hq0 P),(478,Jb P),(479,hq0 P),(481,Jc P),(482,Jd P),(483,hq0 P),(485,Je P),(486,hq0 P),(488,Jf P),(489,Jg P),(490,Jh P),(491,Ji P),(492,Jj P),(493,Jk P),(494,Jl P),(497,hq0 P),(499,Mk P),(500,hq0 P),(502,Ml P),(503,Mm P),(511,hq0 P),(513,Mn P),(514,hq0 P),(516,Mo P),(517,Mp P),(518,hq0 P),(520,Mq P),(521,hq0 P),(523,Mr P),(524,Ms P),(525,hq0 P),(527,Mt P),(528,hq0 P),(530,Mu P),(531,Mv P),(532,hq0 P),(534,Mw P),(535,hq0 P),(537,Mx P),(538,My P),(539,Mz P),(540,MB P),(541,MC P),(542,MD P),(543,ME P),(546,hq0 P),(549,MF P),(550,MG P),(551,hq0 P),(553,MH P),(554,hq0 P),(556,MI P),(557,MJ P),(558,hq0 P),(560,MM P),(561,hq0 P),(563,MN P),(564,MO P),(565,hq0 P),(568,MQ P),(569,MR P),(570,hq0 P),(572,MT P),(573,hq0 P),(575,MU P),(576,MW P),(577,hq0 P),(579,MX P),(580,hq0 P),(582,MY P),(583,MZ P),(584,hq0 P),(586,M0 P),(587,hq0 P),(589,M1 P),(590,M3 P),(591,hq0 P),(593,M4 P),(594,hq0 P),(596,M5 P),(597,M6 P),(598,hq0 P),(600,M7 P),(601,hq0 P),(603,M8 P),(604,M9 P),(605,hq0 P),(607,Na P),(608,hq0 P),(610,Nb P),(611,Nc P),(612,hq0 P),(614,Nd P),(615,hq0 P),(617,Nf P),(618,Ng P),(619,hq0 P),(622,Nh P),(623,Ni P),(624,hq0 P),(627,Nj P),(628,Nk P),(629,hq0 P),(631,Nm P),(632,hq0 P),(634,Nn P),(635,No P),(636,hq0 P),(638,Np P),(639,hq0 P),(641,Nq P),(642,Nr P),(643,hq0 P),(646,Nt P),(647,Nu P),(648,hq0 P),(651,Nv P),(652,Nw P)]
noncomputable def KU:List Addr:=[2,3,15,17,18,20,21,22,29,30,32,33,35,36,37,38,39,40,43,50,51,52,55,57,58,60,61,62,63,64,65,66,67,68,69,70,71,72,73,74,75,76,77,78,79,80,81,82,83,84,85,86,87,88,89,90,91,92,93,94,95,96,97,98,99,100,101,102,103,104,112,113,115,116,118,119,120,121,122,123,124,127,129,130,132,133,134,136,137,139,140,148,150,151,153,154,155,156,157,158,159,162,164,165,167,168,176,178,179,181,182,183,185,186,188,189,190,192,193,195,196,197,199,200,202,203,204,206,207,209,210,211,212,213,214,215,218,220,221,223,224,225,227,228,230,231,232,234,235,237,238,239,241,242,244,245,246,248,249,251,252,253,255,256,258,259,260,262,263,265,266,267,269,270,272,273,274,276,277,279,280,281,283,284,286,287,288,290,291,293,294,295,297,298,300,301,302,304,305,307,308,309,311,312,314,315,316,318,319,321,322,323,325,326,328,329,330,332,333,335,336,337,339,340,342,343,351,353,354,356,357,358,360,361,363,364,365,366,367,368,369,372,374,375,377,378,379,380,381,384,385,393,394,396,397,399,400,401,404,405,406,408,409,411,412,413,416,417,418,419,420,422,423,425,426,427,429,430,432,433,434,435,436,437,438,441,443,444,446,447,455,457,458,460,461,462,464,465,467,468,469,471,472,474,475,476,478,479,481,482,483,485,486,488,489,490,491,492,493,494,497,499,500,502,503,511,513,514,516,517,518,520,521,523,524,525,527,528,530,531,532,534,535,537,538,539,540,541,542,543,546,549,550,551,553,554,556,557,558,560,561,563,564,565,568,569,570,572,573,575,576,577,579,580,582,583,584,586,587,589,590,591,593,594,596,597,598,600,601,603,604,605,607,608,610,611,612,614,615,617,618,619,622,623,624,627,628,629,631,632,634,635,636,638,639,641,642,643,646,647,648,651,652]
noncomputable def vw:Program:=view pr [0,2,3,4,5,7,8,9,10,11,12,13,14,15,16,17,18,19,20,21,22,23,24,25,26,27,28,29,30,31,32,33,34,35,36,37,38,39,40,41,42,43,44,45,46,47,48,49,50,51,52,53,54,56,58,59,61,62,64,65,66,67,68,69,70,71,72,73,74,75,76,77,78,79,80]
noncomputable def loose:List Str:=[sO "UniError",sO "LINE_JAMO",sO "line_fitted",sO "LineBreaks"]
noncomputable def en:Env:={ scope:=pr.main.scope,locals:=mainNs,globals:=mainNs,cells:=[],code:=.ref 13,frame:=some 14}
noncomputable def bo:List Stmt:=behindTheImports pr
noncomputable def cd:Code:=.body bo en
noncomputable abbrev tf:List Frame:=[topFrame ⟨0,0,0,0⟩]
noncomputable def sg(a b:Nat):List Stmt:=(bo.drop a).take b
noncomputable def S(T:TP)(n t:Nat)(w:World)(os:OsState):SharedT:=⟨T w.params,n,{},⟨[]⟩,{},t,os⟩
noncomputable def ρ(T:Params->Heap)(t:Nat)(w:World)(os:OsState):Shared:=⟨T w.params,⟨[]⟩,{},t,os⟩
theorem PQ(w:World):(fun os=>topGo treeTable pr w 11 (some (.ref 6)) 12 ⟨boot_heap w.params,⟨[]⟩,boot_drawn,boot_toks,os⟩ (topStub pr))=fun os=>some (ρ h46 187 w os,⟨denote treeTable cd,cd,⟨0,0,0,0⟩,tf⟩):=by rw[Fast.te15667345088766844465,Fast.te11892475500146522536,Us];rfl'
theorem PR(w:World):(fun os=>segRun treeTable pr w 11 (some (.ref 6)) 1 1 (ρ h46 187 w os) (blockOf bo en cd ⟨0,0,0,0⟩ tf))=fun os=>some (.next,(S t47 15 187 w os).abs,cd,⟨0,0,0,0⟩):=by rw[Fast.te14374325043358763698,Us];rfl'
theorem Q4(w:World):(fun os=>segRunT treeTable pr w 11 (some (.ref 6)) 1 671 (S t47 15 187 w os) (piecesOf (sg 0 16) en cd ⟨0,0,0,0⟩ tf))=fun os=>some (.next,S Jm 71 313 w os,cd,⟨31,0,31,16⟩):=by rw[UX,Us];rfl'
theorem PS(w:World):(fun os=>segRunT treeTable pr (w.withFollow "special-get-raises" false) 11 (some (.ref 6)) 1 331 (S Jm 71 313 (w.withFollow "special-get-raises" false) os) (piecesOf (sg 16 13) en cd ⟨31,0,31,16⟩ tf))=fun os=>some (.next,S Jn 105 424 (w.withFollow "special-get-raises" false) os,cd,⟨44,0,44,13⟩):=by rw[UX,Us];rfl'
theorem PT(w:World):(fun os=>segRunT treeTable pr (w.withFollow "special-get-raises" true) 11 (some (.ref 6)) 1 331 (S Jm 71 313 (w.withFollow "special-get-raises" true) os) (piecesOf (sg 16 13) en cd ⟨31,0,31,16⟩ tf))=fun os=>some (.next,S Jn 105 424 (w.withFollow "special-get-raises" true) os,cd,⟨44,0,44,13⟩):=by rw[UX,Us];rfl'
theorem Q5:∀w:World,(fun os=>segRunT treeTable pr w 11 (some (.ref 6)) 1 331 (S Jm 71 313 w os) (piecesOf (sg 16 13) en cd ⟨31,0,31,16⟩ tf))=fun os=>some (.next,S Jn 105 424 w os,cd,⟨44,0,44,13⟩):=byRow2 "special-get-raises" PS PT
theorem Q6(w:World):(fun os=>segRunT treeTable pr w 11 (some (.ref 6)) 1 1333 (S Jn 105 424 w os) (piecesOf (sg 29 19) en cd ⟨44,0,44,13⟩ tf))=fun os=>some (.next,S PM 309 725 w os,cd,⟨210,0,213,85⟩):=by rw[UX,Us];rfl'
theorem Q7(w:World):(fun os=>segRunT treeTable pr w 11 (some (.ref 6)) 1 1285 (S PM 309 725 w os) (piecesOf (sg 48 13) en cd ⟨210,0,213,85⟩ tf))=fun os=>some (.next,S PN 497 996 w os,cd,⟨344,0,344,8⟩):=by rw[UX,Us];rfl'
theorem Q8(w:World):(fun os=>segRunT treeTable pr w 11 (some (.ref 6)) 1 886 (S PN 497 996 w os) (piecesOf (sg 61 20) en cd ⟨344,0,344,8⟩ tf))=fun os=>some (.next,S PP 653 1223 w os,cd,⟨547,0,560,86⟩):=by rw[UX,Us];rfl'
theorem PU(w:World):(fun os=>topRun treeTable pr w 11 (some (.ref 6)) 2 (S PP 653 1223 w os).abs ⟨doneF .next,cd,⟨547,0,560,86⟩,tf⟩)=fun os=>some (ρ fK 1223 w os):=by rw[Fast.te14082659384304107361,Us];rfl'
theorem Jo:sg 0 16++(sg 16 13++(sg 29 19++(sg 48 13++(sg 61 20++[]))))=bo:=by rfl'
noncomputable def PV:Nat:=12+(1+(671+(331+(1333+(1285+(886+(2)))))))
theorem PW(w:World)(os:OsState):topRun treeTable pr w 11 (some (.ref 6)) PV ⟨boot_heap w.params,⟨[]⟩,boot_drawn,boot_toks,os⟩ (topStub pr)=some (ρ fK 1223 w os) :=
 go_top (WK (PQ w) os) (piece_block (WK (PR w) os) (Eq.mp (Tx (fun l=>topRun treeTable pr w 11 (some (.ref 6)) _ (S t47 15 187 w os).abs (restOf l en cd ⟨0,0,0,0⟩ tf)=some (ρ fK 1223 w os)) Jo)
  (piece_app (segRun_of (WK (Q4 w) os)) (piece_app (segRun_of (WK (Q5 w) os)) (piece_app (segRun_of (WK (Q6 w) os)) (piece_app (segRun_of (WK (Q7 w) os)) (piece_app (segRun_of (WK (Q8 w) os)) (piece_nil (WK (PU w) os)))))))))
theorem Jp(P:Params):KU=(aB P).map (·.1):=by rfl'
abbrev hk:Hook:=kHook aB KU Jp
noncomputable abbrev row:OpenRow:=PySem.Challenge.rw_nt0061_02.row
abbrev xt(s:Shared):Bool:=xlAt vw [] s&&recOk (RowW.records row.toRowW) s
theorem Nx(w:World):((boot_heap w.params).isNs mainGlobals&&(⟨[]⟩:Array GenState).size==0,(boot_heap w.params).objs.size,(boot_heap w.params).nsMap mainGlobals "__annotations__")=(true,11,some (Value.ref 6)):=by rw[Fast.te8920871248978507458];rfl'
theorem Q9(w:World)(os:OsState):(staticsOk (importedModules pr.main.body) (boot_heap w.params) (fK w.params)&&namesBound pr (fK w.params)&&gensDone (ρ fK 1223 w os)&&laidKept (boot_heap w.params) (fK w.params))=true:=by rw[Fast.te5923862056798008813];rfl'
theorem Ra(w:World)(os:OsState):PyProof.Rows.seen ((PyProof.Rows.recsOf vw).map (·.name)) (PyProof.Rows.ownsOf vw) [] { ρ fK 1223 w os with gens := #[]}=PyProof.Rows.expectedOf vw:=by rw[Fast.te5160383126252970620,Fast.te3399658132070893891,Fast.te5991557255702980513];rfl'
theorem Rb(w:World)(os:OsState):(ρ fK 1223 w os).heap.bltView=bltViewBooted:=by rfl'
theorem Re(w:World)(os:OsState):((ρ fK 1223 w os).heap.keysOk (looseW vw loose) ((PyProof.Rows.recsOf vw).map (·.name)) ((PyProof.Rows.litsOf vw).map (·.1)) ((PyProof.Rows.clssOf vw (looseW vw loose)).map (·.name))&&(ρ fK 1223 w os).heap.accountedOkI (importedModules pr.main.body)&&(ρ fK 1223 w os).heap.isNs mainGlobals&&(ρ fK 1223 w os).heap.isNs builtinsNs&&PyProof.Rows.tablesOk vw (ρ fK 1223 w os).heap&&xt (ρ fK 1223 w os)&&(if true=true then(ρ fK 1223 w os).gens.size==0 else !leftWithCleanup (ρ fK 1223 w os).gens))=true:=by rw[Fast.te10880121769531294198,Fast.te821141287760084731,Fast.te3399658132070893891,Fast.te7409074990110511671,Fast.te13664370479719496447,Fast.te14722251495701143533,Fast.te5923862056798008813,Fast.te10994771534591457954];rfl'
theorem Rf(w:World)(os:OsState):PyProof.Rows.tabsOk vw (ρ fK 1223 w os)=true:=by rw[Fast.te479339242167458305];rfl'
theorem Rg(w:World)(os:OsState):pinSeenD vw (PyProof.Rows.drecsOf vw) (ρ fK 1223 w os)=pinGoodD (PyProof.Rows.drecsOf vw):=by rw[Fast.te16090120013241838585,Fast.te3247288618530077131];rfl'
theorem Rh(w:World)(os:OsState):PyProof.Rows.plainSeenE vw (looseW vw loose) (ρ fK 1223 w os)=PyProof.Rows.plainGoodE vw (looseW vw loose):=by rw[Fast.te2386780881361962483,Fast.te821141287760084731];rfl'
theorem Ri(w:World)(os:OsState):PyProof.Rows.plainSeenD vw loose (ρ fK 1223 w os)=PyProof.Rows.plainGoodD vw loose:=by rw[Fast.te11698064438423848299];rfl'
theorem Rj(w:World)(os:OsState):wideSeen vw (ρ fK 1223 w os)=wideGood vw:=by rw[Fast.te7317090234206586261];rfl'
theorem PX(w:World)(os:OsState):clsSeenW vw loose (ρ fK 1223 w os)=clsGoodW vw loose:=by rw[Fast.te7369524293546568484];rfl'
theorem Jq(w:World):(fun os=>((staticsOk (importedModules pr.main.body) (boot_heap w.params) (fK w.params)&&namesBound pr (fK w.params)&&gensDone (ρ fK 1223 w os)&&laidKept (boot_heap w.params) (fK w.params)),openSeen vw loose (importedModules pr.main.body) xt true (ρ fK 1223 w os),hk.obs (ρ fK 1223 w os)))=fun _=>(true,openGood vw loose,hk.val w):=by
 funext os
 refine VJ (Q9 w os) (VJ ?_ (by rfl'));exact VJ (Ra w os) (VJ (Rb w os) (VJ (Re w os) (VJ (Rf w os) (VJ (Rg w os) (VJ (Rh w os) (VJ (Ri w os) (VJ (Rj w os) (PX w os))))))))
theorem Ny:LeftO pr vw loose xt hk.obs hk.val 9110 :=
 LeftO.of_pieces (boot_open (by rfl') (by decide) (fun s=>by rfl')) Nx PW (by decide +kernel) Jq
theorem Nz:PySem.Challenge.rw_nt0061_02.wellSaid=true:=by rw[Fast.te9446332074065402090];rfl'
noncomputable def dr:DefRec:=⟨"law",fA (tI 80),fB (tI 80),fS (tI 80),fP (tI 80)⟩
theorem hd(T:WalkO vw loose (XL vw []) hk.says row.toRowW dr [] fun f vs=>PySem.call f vs):PySem.Challenge.rw_nt0061_02.Holds:=by refine holds_law Nz fun said=>?_;exact PySem.W.holds_open (q:=vw) (loose:=loose) (Xt:=xt) (XP:=XL vw []) (Yf:=hk.obs) (Ya:=hk.val) (YP:=hk.says) (N:=9110) Ny hk.of hk.keeps (fun s e=>xl_of s (Vv.mp e).1) XL.keeps (by rfl') (by rfl') (by rfl') (fun s e=>recFacts_of (Vv.mp e).2) (by rfl') said (by rfl') ⟨rfl,rfl,rfl,rfl,rfl,by decide +kernel⟩ (by w_witness2) T
noncomputable abbrev PY:V:=.tup []
def dM(P:Params):aD:=aY (aS (aB P) 61) [(2,[],[])]
def fx(P:Params):aD:=aY (aS (aB P) 119) [(1,[],[.dflt (.str "strict"),.dflt (.bool false),.dflt (.str "pairs")])]
def ce(P:Params):aD:=aY (aS (aB P) 133) [(1,[],[])]
def gI(P:Params):aD:=aY (aS (aB P) 140) [(3,[],[])]
def eO(P:Params):aD:=aY (aS (aB P) 154) [(4,[],[])]
def fe(P:Params):aD:=aY (aS (aB P) 168) [(3,[],[])]
def dw(P:Params):aD:=aY (aS (aB P) 182) [(4,[],[])]
def cQ(P:Params):aD:=aY (aS (aB P) 189) [(2,[],[])]
def di(P:Params):aD:=aY (aS (aB P) 196) [(2,[],[])]
def cH(P:Params):aD:=aY (aS (aB P) 203) [(3,[],[])]
def dB(P:Params):aD:=aY (aS (aB P) 210) [(2,[],[])]
def eP(P:Params):aD:=aY (aS (aB P) 224) [(2,[],[])]
def d7(P:Params):aD:=aY (aS (aB P) 231) [(2,[],[])]
def eQ(P:Params):aD:=aY (aS (aB P) 238) [(2,[],[])]
def dN(P:Params):aD:=aY (aS (aB P) 245) [(2,[],[])]
def d8(P:Params):aD:=aY (aS (aB P) 252) [(2,[],[])]
def cR(P:Params):aD:=aY (aS (aB P) 259) [(2,[],[])]
def eA(P:Params):aD:=aY (aS (aB P) 266) [(2,[],[])]
def dO(P:Params):aD:=aY (aS (aB P) 273) [(2,[],[])]
def dy(P:Params):aD:=aY (aS (aB P) 280) [(2,[],[])]
def c8(P:Params):aD:=aY (aS (aB P) 287) [(2,[],[])]
def dP(P:Params):aD:=aY (aS (aB P) 294) [(2,[],[])]
def dj(P:Params):aD:=aY (aS (aB P) 301) [(2,[],[])]
def cA(P:Params):aD:=aY (aS (aB P) 308) [(3,[],[])]
def dQ(P:Params):aD:=aY (aS (aB P) 315) [(2,[],[])]
def dC(P:Params):aD:=aY (aS (aB P) 322) [(2,[],[])]
def dD(P:Params):aD:=aY (aS (aB P) 329) [(2,[],[])]
def fL(P:Params):aD:=aY (aS (aB P) 336) [(2,[],[])]
def dR(P:Params):aD:=aY (aS (aB P) 343) [(3,[],[])]
def cJ(P:Params):aD:=aY (aS (aB P) 357) [(3,[],[])]
def dS(P:Params):aD:=aY (aS (aB P) 364) [(3,[],[])]
def cX(P:Params):aD:=aY (aS (aB P) 378) [(5,[],[])]
def dE(P:Params):aD:=aY (aS (aB P) 385) [(4,[],[])]
def d9(P:Params):aD:=aY (aS (aB P) 400) [(2,[],[.dflt .none])]
def bB(P:Params):aD:=aY (aS (aB P) 405) [(2,[],[])]
def fE(P:Params):aD:=aY (aS (aB P) 412) [(2,[],[])]
def cw(P:Params):aD:=aY (aS (aB P) 417) [(3,[],[])]
def bV(P:Params):aD:=aY (aS (aB P) 426) [(4,[],[.dflt PY]),(1,["most","widths","text","inner"],[.kw 2,.kw 1,.kw 0,.kw 3])]
def eB(P:Params):aD:=aY (aS (aB P) 433) [(4,[],[])]
def bQ(P:Params):aD:=aY (aS (aB P) 447) [(2,[],[])]
def eR(P:Params):aD:=aY (aS (aB P) 461) [(2,[],[])]
def fM(P:Params):aD:=aY (aS (aB P) 468) [(2,[],[])]
def cx(P:Params):aD:=aY (aS (aB P) 475) [(4,[],[])]
def gy(P:Params):aD:=aY (aS (aB P) 482) [(1,[],[])]
def gz(P:Params):aD:=aY (aS (aB P) 489) [(2,[],[])]
def dT(P:Params):aD:=aY (aS (aB P) 503) [(0,[],[])]
def gJ(P:Params):aD:=aY (aS (aB P) 517) [(1,[],[])]
def i6(P:Params):aD:=aY (aS (aB P) 524) [(5,[],[])]
def gt(P:Params):aD:=aY (aS (aB P) 531) [(3,[],[])]
def eJ(P:Params):aD:=aY (aS (aB P) 538) [(2,[],[])]
def aZ(P:Params):aD:=aY (aS (aB P) 550) [(1,[],[])]
def e6(P:Params):aD:=aY (aS (aB P) 557) [(2,[],[])]
def i7(P:Params):aD:=aY (aS (aB P) 564) [(2,[],[])]
def eC(P:Params):aD:=aY (aS (aB P) 569) [(0,[],[])]
def hO(P:Params):aD:=aY (aS (aB P) 576) [(2,[],[])]
def fN(P:Params):aD:=aY (aS (aB P) 583) [(2,[],[])]
def cT(P:Params):aD:=aY (aS (aB P) 590) [(2,[],[])]
def fy(P:Params):aD:=aY (aS (aB P) 597) [(1,[],[])]
def gl(P:Params):aD:=aY (aS (aB P) 604) [(3,[],[])]
def eD(P:Params):aD:=aY (aS (aB P) 611) [(4,[],[])]
def ff(P:Params):aD:=aY (aS (aB P) 618) [(4,[],[])]
def da(P:Params):aD:=aY (aS (aB P) 623) [(2,[],[])]
def eE(P:Params):aD:=aY (aS (aB P) 628) [(2,[],[])]
def gu(P:Params):aD:=aY (aS (aB P) 635) [(1,[],[])]
def fO(P:Params):aD:=aY (aS (aB P) 642) [(4,[],[])]
def fQ(P:Params):aD:=aY (aS (aB P) 647) [(5,[],[])]
def gA(P:Params):aD:=aY (aS (aB P) 652) [(1,[],[])]
def EF(P:Params):List ((Str×Str)×aD):=[
 enF "" "place_by_half" (dM P),
 enF "LineHow" "__init__" (fx P),
 enF "" "line_hangul" (ce P),
 enF "" "line_class" (gI P),
 enF "LineUnit" "__init__" (eO P),
 enF "" "line_units" (fe P),
 enF "LineView" "__init__" (dw P),
 enF "LineView" "word" (cQ P),
 enF "LineView" "solid_word" (di P),
 enF "LineView" "is_quote" (cH P),
 enF "LineView" "is_narrow" (dB P),
 enF "" "line_rule_hard" (eP P),
 enF "" "line_rule_spaces" (d7 P),
 enF "" "line_rule_glue" (eQ P),
 enF "" "line_rule_closing" (dN P),
 enF "" "line_rule_quotes" (d8 P),
 enF "" "line_rule_over_spaces" (cR P),
 enF "" "line_rule_signs" (eA P),
 enF "" "line_rule_letters" (dO P),
 enF "" "line_is_number" (dy P),
 enF "" "line_rule_expression" (c8 P),
 enF "" "line_rule_numbers" (dP P),
 enF "" "line_rule_syllables" (dj P),
 enF "" "line_is_aksara" (cA P),
 enF "" "line_rule_aksaras" (dQ P),
 enF "" "line_rule_brackets" (dC P),
 enF "" "line_rule_pictures" (dD P),
 enF "" "line_verdict" (fL P),
 enF "" "line_verdicts" (dR P),
 enF "LineMeasure" "__init__" (cJ P),
 enF "LineMeasure" "width" (dS P),
 enF "" "line_last_within" (cX P),
 enF "" "line_fitted" (dE P),
 enF "LineBreaks" "__init__" (d9 P),
 enF "LineBreaks" "opportunities" (bB P),
 enF "LineBreaks" "reasons" (fE P),
 enF "LineBreaks" "measure" (cw P),
 enF "LineBreaks" "fit_lines" (bV P),
 enF "LineBreaks" "even_lines" (eB P),
 enF "" "range_are_like" (bQ P),
 enF "RangeMap" "__init__" (eR P),
 enF "RangeMap" "get" (fM P),
 enF "RangeMap" "put" (cx P),
 enF "RangeMap" "ranges" (gy P),
 enF "RangeMap" "set_of" (gz P),
 enF "" "data_defaults" (dT P),
 enF "Data" "__init__" (gJ P),
 enF "Data" "put" (i6 P),
 enF "Data" "get" (gt P),
 enF "Data" "map_of" (eJ P),
 enF "" "_law_deck" (aZ P),
 enF "" "_law_draw" (e6 P),
 enF "" "_law_pick" (i7 P),
 enF "" "_law_sorts" (eC P),
 enF "" "_law_class" (hO P),
 enF "" "_law_units" (fN P),
 enF "" "_law_is_figure" (cT P),
 enF "" "_law_is_aksara" (fy P),
 enF "" "_law_figures" (gl P),
 enF "" "_law_ahead" (eD P),
 enF "" "_law_joined" (ff P),
 enF "" "_law_places" (da P),
 enF "" "_law_drawn" (eE P),
 enF "" "_law_data" (gu P),
 enF "" "_law_width" (fO P),
 enF "" "_law_lines" (fQ P),
 enF "" "law" (gA P)]
def zG:List ((Str×Str)×Addr):=[
 enA "" "place_by_half" 61,enA "LineHow" "__init__" 119,enA "" "line_hangul" 133,enA "" "line_class" 140,enA "LineUnit" "__init__" 154,enA "" "line_units" 168,enA "LineView" "__init__" 182,enA "LineView" "word" 189,enA "LineView" "solid_word" 196,enA "LineView" "is_quote" 203,enA "LineView" "is_narrow" 210,enA "" "line_rule_hard" 224,enA "" "line_rule_spaces" 231,enA "" "line_rule_glue" 238,enA "" "line_rule_closing" 245,enA "" "line_rule_quotes" 252,enA "" "line_rule_over_spaces" 259,enA "" "line_rule_signs" 266,enA "" "line_rule_letters" 273,enA "" "line_is_number" 280,enA "" "line_rule_expression" 287,enA "" "line_rule_numbers" 294,enA "" "line_rule_syllables" 301,enA "" "line_is_aksara" 308,enA "" "line_rule_aksaras" 315,enA "" "line_rule_brackets" 322,enA "" "line_rule_pictures" 329,enA "" "line_verdict" 336,enA "" "line_verdicts" 343,enA "LineMeasure" "__init__" 357,enA "LineMeasure" "width" 364,enA "" "line_last_within" 378,enA "" "line_fitted" 385,enA "LineBreaks" "__init__" 400,enA "LineBreaks" "opportunities" 405,enA "LineBreaks" "reasons" 412,enA "LineBreaks" "measure" 417,enA "LineBreaks" "fit_lines" 426,enA "LineBreaks" "even_lines" 433,enA "" "range_are_like" 447,enA "RangeMap" "__init__" 461,enA "RangeMap" "get" 468,enA "RangeMap" "put" 475,enA "RangeMap" "ranges" 482,enA "RangeMap" "set_of" 489,enA "" "data_defaults" 503,enA "Data" "__init__" 517,enA "Data" "put" 524,enA "Data" "get" 531,enA "Data" "map_of" 538,enA "" "_law_deck" 550,enA "" "_law_draw" 557,enA "" "_law_pick" 564,enA "" "_law_sorts" 569,enA "" "_law_class" 576,enA "" "_law_units" 583,enA "" "_law_is_figure" 590,enA "" "_law_is_aksara" 597,enA "" "_law_figures" 604,enA "" "_law_ahead" 611,enA "" "_law_joined" 618,enA "" "_law_places" 623,enA "" "_law_drawn" 628,enA "" "_law_data" 635,enA "" "_law_width" 642,enA "" "_law_lines" 647,enA "" "law" 652]
def EG:List (Str×cF):=[
 enC "LineHow" ["strictness","keep_all","numbers"] [],
 enC "LineUnit" ["word","code","at","is_joined"] [],
 enC "LineView" ["data","how","units","solid","regional","numeric"] ["word","solid_word","is_quote","is_narrow"],
 enC "LineMeasure" ["sums","ends"] ["width"],
 enC "LineBreaks" ["data","how"] ["opportunities","reasons","measure","fit_lines","even_lines"],
 enC "RangeMap" ["default","starts","values"] ["get","put","ranges","set_of"],
 enC "Data" ["defaults","maps","properties","words"] ["put","get","map_of"]]
def EH:List (Str×Addr):=[enK "LineHow" 122,enK "LineUnit" 157,enK "LineView" 213,enK "LineMeasure" 367,enK "LineBreaks" 436,enK "RangeMap" 492,enK "Data" 541]
def yo(P:Params):List (Str×V):=[
 enG "MAX_CODE" (vAt (aB P) "MAX_CODE"),
 enG "place_by_half" (.fn "" "place_by_half"),
 enG "LINE_HARD" (vAt (aB P) "LINE_HARD"),
 enG "LINE_BARE" (vAt (aB P) "LINE_BARE"),
 enG "LINE_MARKS" (vAt (aB P) "LINE_MARKS"),
 enG "LINE_PLAIN" (vAt (aB P) "LINE_PLAIN"),
 enG "LINE_CLOSING" (vAt (aB P) "LINE_CLOSING"),
 enG "LINE_AHEAD_OF_OPENING" (vAt (aB P) "LINE_AHEAD_OF_OPENING"),
 enG "LINE_BEHIND_CLOSING" (vAt (aB P) "LINE_BEHIND_CLOSING"),
 enG "LINE_ALPHABETIC" (vAt (aB P) "LINE_ALPHABETIC"),
 enG "LINE_IDEOGRAPHIC" (vAt (aB P) "LINE_IDEOGRAPHIC"),
 enG "LINE_AFFIXES" (vAt (aB P) "LINE_AFFIXES"),
 enG "LINE_SYLLABIC" (vAt (aB P) "LINE_SYLLABIC"),
 enG "LINE_INNER" (vAt (aB P) "LINE_INNER"),
 enG "LINE_WIDE" (vAt (aB P) "LINE_WIDE"),
 enG "LINE_KEPT" (vAt (aB P) "LINE_KEPT"),
 enG "LINE_NUMBERS" (vAt (aB P) "LINE_NUMBERS"),
 enG "LINE_JAMO" (vAt (aB P) "LINE_JAMO"),
 enG "LINE_ITERATION" (vAt (aB P) "LINE_ITERATION"),
 enG "LINE_JAMO_RANGES" (vAt (aB P) "LINE_JAMO_RANGES"),
 enG "LINE_FIRST_SYLLABLE" (vAt (aB P) "LINE_FIRST_SYLLABLE"),
 enG "LINE_LAST_SYLLABLE" (vAt (aB P) "LINE_LAST_SYLLABLE"),
 enG "LINE_TAILS" (vAt (aB P) "LINE_TAILS"),
 enG "DOTTED_CIRCLE" (vAt (aB P) "DOTTED_CIRCLE"),
 enG "LineHow" (.cls "LineHow"),
 enG "line_hangul" (.fn "" "line_hangul"),
 enG "line_class" (.fn "" "line_class"),
 enG "LineUnit" (.cls "LineUnit"),
 enG "line_units" (.fn "" "line_units"),
 enG "LineView" (.cls "LineView"),
 enG "line_rule_hard" (.fn "" "line_rule_hard"),
 enG "line_rule_spaces" (.fn "" "line_rule_spaces"),
 enG "line_rule_glue" (.fn "" "line_rule_glue"),
 enG "line_rule_closing" (.fn "" "line_rule_closing"),
 enG "line_rule_quotes" (.fn "" "line_rule_quotes"),
 enG "line_rule_over_spaces" (.fn "" "line_rule_over_spaces"),
 enG "line_rule_signs" (.fn "" "line_rule_signs"),
 enG "line_rule_letters" (.fn "" "line_rule_letters"),
 enG "line_is_number" (.fn "" "line_is_number"),
 enG "line_rule_expression" (.fn "" "line_rule_expression"),
 enG "line_rule_numbers" (.fn "" "line_rule_numbers"),
 enG "line_rule_syllables" (.fn "" "line_rule_syllables"),
 enG "line_is_aksara" (.fn "" "line_is_aksara"),
 enG "line_rule_aksaras" (.fn "" "line_rule_aksaras"),
 enG "line_rule_brackets" (.fn "" "line_rule_brackets"),
 enG "line_rule_pictures" (.fn "" "line_rule_pictures"),
 enG "line_verdict" (.fn "" "line_verdict"),
 enG "line_verdicts" (.fn "" "line_verdicts"),
 enG "LineMeasure" (.cls "LineMeasure"),
 enG "line_last_within" (.fn "" "line_last_within"),
 enG "line_fitted" (.fn "" "line_fitted"),
 enG "LineBreaks" (.cls "LineBreaks"),
 enG "range_are_like" (.fn "" "range_are_like"),
 enG "RangeMap" (.cls "RangeMap"),
 enG "data_defaults" (.fn "" "data_defaults"),
 enG "Data" (.cls "Data"),
 enG "_law_deck" (.fn "" "_law_deck"),
 enG "_law_draw" (.fn "" "_law_draw"),
 enG "_law_pick" (.fn "" "_law_pick"),
 enG "_law_sorts" (.fn "" "_law_sorts"),
 enG "_law_class" (.fn "" "_law_class"),
 enG "_law_units" (.fn "" "_law_units"),
 enG "_law_is_figure" (.fn "" "_law_is_figure"),
 enG "_law_is_aksara" (.fn "" "_law_is_aksara"),
 enG "_law_figures" (.fn "" "_law_figures"),
 enG "_law_ahead" (.fn "" "_law_ahead"),
 enG "_law_joined" (.fn "" "_law_joined"),
 enG "_law_places" (.fn "" "_law_places"),
 enG "_law_drawn" (.fn "" "_law_drawn"),
 enG "_law_data" (.fn "" "_law_data"),
 enG "_law_width" (.fn "" "_law_width"),
 enG "_law_lines" (.fn "" "_law_lines"),
 enG "law" (.fn "" "law"),
 enG "len" (.bi "len"),
 enG "isinstance" (.bi "isinstance"),
 enG "max" (.bi "max"),
 enG "sum" (.bi "sum"),
 enG "int" (.ty "int"),
 enG "list" (.ty "list"),
 enG "tuple" (.ty "tuple"),
 enG "range" (.ty "range"),
 enG "bool" (.ty "bool"),
 enG "enumerate" (.ty "enumerate")]
def a_T(P:Params):Tab:=⟨EF P,EG,yo P⟩
noncomputable def yp(p:Pos):Bool:=[(81,12),(97,21),(98,24),(99,23),(248,12),(258,20),(259,20),(274,28),(330,26),(330,35),(382,21),(398,12),(417,12),(507,49),(511,16),(518,34),(536,20)].contains (p.line,p.col) && !(p.line==248&&p.endCol==27)
abbrev cP(P:Params):=mv (a_T P) yp
abbrev aJ(P:Params)(d:Nat):=runA (a_T P) yp (cP P d)
abbrev av(P:Params)(d:Nat):=runSs (a_T P) yp (cP P d)
abbrev bI(P:Params)(d:Nat):=bu (a_T P) yp (cP P d)
abbrev fR(P:Params)(d:Nat):=runT (a_T P) yp (cP P d)
noncomputable abbrev df(m t:Int):ab:=.dict [("cells",.ref 0),("mixed",.int m),("turn",.int t)]
noncomputable def ivs(l:List Int):List V:=l.map .int
theorem ar{l:List V}(h:l.length<=1000000):ba l=true:=To h
noncomputable abbrev Jr(f:Int):Int:=(f.fmod 2147483629*40692).fmod 2147483647
abbrev EI(f:Int):Int:=(Jr f*Jr f+808).fmod 2147483587
abbrev PZ(f below:Int):Int:=(((EI f*39373).fmod 2147483579).fdiv 64).fmod below
theorem o7{a b:Int}(h0:0<b)(h1:b<2^62):aO (a.fmod b)=true:=by have:=dL (a:=a) h0;exact b0 (ar1 [] [_] 513 30474529525296395358242802670344 this.1 art) (ar2 [] [_,_] 262657 200867255532373784460696892898160736079412865532815486420280 this.2 h1 art)
theorem Js{P:Params}{d:Nat}{J:Hp}{m t below x:Int}{cells:List V}(ht0:0<=t)(ht1:t<1000000)(hb0:0<below)(hb1:below<1000000000)(hl:cells.length<=100)(hx:1000000<=x):
 cP P (d+1) "" "_law_draw" [.ref 1,.int below] [] (.list (cells++[.int x])::df m t::J) (.int (x.fmod below)) (.list (cells++[.int (x.fdiv below)])::df m (t+1)::J):=by
 have s2:aO (t+1)=true:=b0 (ar1 [] [_] 513 1693632117024733370121917408123656 ht0 art) (ar1 [] [_] 513 5575186299632655785882186548926402374337848 ht1 art);have s3:aO (60808*(t+1))=true:=b0 (by lia) (by lia);have m1:=oX (t:=true) (J:=.list (cells++[.int x])::df m (t+1)::J) (by decide:aO 60808=true) s2;have m2:=oX (t:=true) (J:=.list (cells++[.int x])::df m (t+1)::J) s3 s2;have e1:bA (.list (cells++[.int x])::df m (t+1)::J) .NotEq (.ref 0) (.lst [])=some true:=by rw[qO (xs:=cells++[.int x]) rfl];simp
 have q1:=Ck (J:=.list (cells++[.int x])::df m (t+1)::J) (n:=0) rfl (ar (by simp;exact Tk ‹_› (by decide)));have q2:=dz (J:=.list cells::df m (t+1)::J) (n:=0) (x:=.int (x.fdiv below)) rfl (ar (Tk ‹_› (by decide)));have d1:decide (1000000<=x)=true:=To hx;have v1:=OY (t:=true) (J:=.list cells::df m (t+1)::J) (x:=x) hb0 hb1;have v2:=Lk (t:=true) (J:=.list (cells++[.int (x.fdiv below)])::df m (t+1)::J) (x:=x) hb0;exact ag (e6 P) ([V.ref 1,V.int below]) (fun z=>(zP m1 (zP m2 (zT e1 (zP q1 (zH d1 (zP v1 (zP q2 (zP v2 (z0 z)))).C.C.R.Q).C).C.C.R.R.T).R.C.C).C).C.C.R.C.C.C.R)
theorem Jt{P:Params}{d:Nat}{J:Hp}{m t below x:Int}{cells:List V}(ht0:0<=t)(ht1:t<1000000)(hb0:0<below)(hb1:below<1000000000)(hl:cells.length<=100)(hx:¬1000000<=x):
 cP P (d+1) "" "_law_draw" [.ref 1,.int below] [] (.list (cells++[.int x])::df m t::J) (.int (PZ (m+60808*(t+1)*(t+1)+x.fmod 2147483563) below)) (.list cells::df m (t+1)::J):=by
 have s2:aO (t+1)=true:=b0 (ar1 [] [_] 513 1693632117024733370121917408123656 ht0 art) (ar1 [] [_] 513 5575186299632655785882186548926402374337848 ht1 art);have s3:aO (60808*(t+1))=true:=b0 (by lia) (by lia);have m1:=oX (t:=true) (J:=.list (cells++[.int x])::df m (t+1)::J) (by decide:aO 60808=true) s2;have m2:=oX (t:=true) (J:=.list (cells++[.int x])::df m (t+1)::J) s3 s2;have e1:bA (.list (cells++[.int x])::df m (t+1)::J) .NotEq (.ref 0) (.lst [])=some true:=by rw[qO (xs:=cells++[.int x]) rfl];simp
 have q1:=Ck (J:=.list (cells++[.int x])::df m (t+1)::J) (n:=0) rfl (ar (by simp;exact Tk ‹_› (by decide)));have d1:decide (1000000<=x)=false:=Tz hx;have m3:=oX (t:=true) (J:=.list cells::df m (t+1)::J) (o7 (a:=m+60808*(t+1)*(t+1)+x.fmod 2147483563) (b:=2147483629) (by decide) (by decide)) (by decide:aO 40692=true);have f2:aO (Jr (m+60808*(t+1)*(t+1)+x.fmod 2147483563))=true:=o7 (by decide) (by decide);have m4:=oX (t:=true) (J:=.list cells::df m (t+1)::J) f2 f2;have m5:=oX (t:=true) (J:=.list cells::df m (t+1)::J) (x:=EI (m+60808*(t+1)*(t+1)+x.fmod 2147483563)) (o7 (by decide) (by decide)) (by decide:aO 39373=true);have v2:=Lk (t:=true) (J:=.list cells::df m (t+1)::J) (x:=((EI (m+60808*(t+1)*(t+1)+x.fmod 2147483563)*39373).fmod 2147483579).fdiv 64) hb0;exact ag (e6 P) ([V.ref 1,V.int below]) (fun z=>(zP m1 (zP m2 (zT e1 (zP q1 (zH d1 (zP m3 (zP m4 (zP m5 (zP v2 (z0 z)).C.C).C.C).R.C).C.R.C.C.R).C).C.C.R.R.T).R.C.C).C).C.C.R.C.C.C.R)
theorem Ju{P:Params}{d:Nat}{J:Hp}{m t below:Int}(ht0:0<=t)(ht1:t<1000000)(hb0:0<below):
 cP P (d+1) "" "_law_draw" [.ref 1,.int below] [] (.list []::df m t::J) (.int (PZ (m+60808*(t+1)*(t+1)) below)) (.list []::df m (t+1)::J):=by
 have s2:aO (t+1)=true:=b0 (ar1 [] [_] 513 1693632117024733370121917408123656 ht0 art) (ar1 [] [_] 513 5575186299632655785882186548926402374337848 ht1 art);have s3:aO (60808*(t+1))=true:=b0 (by lia) (by lia);have m1:=oX (t:=true) (J:=.list []::df m (t+1)::J) (by decide:aO 60808=true) s2;have m2:=oX (t:=true) (J:=.list []::df m (t+1)::J) s3 s2;have m3:=oX (t:=true) (J:=.list []::df m (t+1)::J) (o7 (a:=m+60808*(t+1)*(t+1)) (b:=2147483629) (by decide) (by decide)) (by decide:aO 40692=true);have f2:aO (Jr (m+60808*(t+1)*(t+1)))=true:=o7 (by decide) (by decide);have m4:=oX (t:=true) (J:=.list []::df m (t+1)::J) f2 f2;have m5:=oX (t:=true) (J:=.list []::df m (t+1)::J) (x:=EI (m+60808*(t+1)*(t+1))) (o7 (by decide) (by decide)) (by decide:aO 39373=true);have v2:=Lk (t:=true) (J:=.list []::df m (t+1)::J) (x:=((EI (m+60808*(t+1)*(t+1))*39373).fmod 2147483579).fdiv 64) hb0;exact ag (e6 P) ([V.ref 1,V.int below]) (fun z=>(zP m1 (zP m2 (zP m3 (zP m4 (zP m5 (zP v2 (z0 z)).C.C).C.C).R.C).C.R.F.C.R.C.C).C).C.C.R.C.C.C.R)
noncomputable def hP(t:Int)(h:ab)(g:ab):Prop:=0<=t/\∃(c:List Int) (m:Int),c.length<=8/\h=.list (ivs c)/\g=df m t
theorem yq{t below:Int}{h g:ab}(D:hP t h g)(ht:t<1000000)(hb0:0<below)(hb1:below<1000000000):
 ∃r h' g',0<=r/\r<below/\hP (t+1) h' g'/\∀{P:Params}{d:Nat}{J:Hp},cP P (d+1) "" "_law_draw" [.ref 1,.int below] [] (h::g::J) (.int r) (h'::g'::J):=by
 refine jo (D) ?_;rintro t0 c m hc rfl rfl;rcases UH c with rfl|⟨c',x,rfl⟩
 .exact⟨_,_,_,(dL hb0).1,(dL hb0).2,⟨WD ‹_› (by decide),[],m,by simp,rfl,rfl⟩,Ju t0 ht hb0⟩
 . have e:ivs (c'.concat x)=ivs c'++[.int x]:=by simp[ivs]
   have hl:c'.length+1<=8:=by simpa using hc
   have hi:(ivs c').length<=100:=by simp[ivs];exact ar1 [_] [] 0 3520859840120112 hl art
   rw[e];by_cases hx:1000000<=x
   .refine⟨_,_,_,(dL hb0).1,(dL hb0).2,⟨WD ‹_› (by decide),c'++[x.fdiv below],m,by simp;exact ar1 [_] [] 0 532845626672 hl art,?_,rfl⟩,Js t0 ht hb0 hb1 hi hx⟩;simp[ivs]
   .exact⟨_,_,_,(dL hb0).1,(dL hb0).2,⟨WD ‹_› (by decide),c',m,UU ‹_›,rfl,rfl⟩,Jt t0 ht hb0 hb1 hi hx⟩
theorem lu{xs:List V}{r:Int}{n:Nat}(h:r=n)(hn:n<xs.length)(hs:xs.length<1000000):gY xs r=some (xs[n]'hn):=by
 subst h;have hs:aO (n:Int)=true:=b0 (TK (by decide) (TM _)) (Int.lt_trans (UF.mpr (VH ‹_› ‹_›)) (by decide));unfold gY;rw[if_pos hs];have:seqIndex? (n:Int) xs.length=some n:=by unfold seqIndex?;simp;lia
 rw[this,Ue,Tq hn]
theorem NA{P:Params}{d:Nat}{xs:List V}{r:Int}{v:V}{s s':Hp}(hd:cP P d "" "_law_draw" [.ref 1,.int xs.length] [] s (.int r) s')(hv:af s' (.lst xs) (.int r)=some v)(hl:biI (yp { line:=0,col:=0,endLine:=0,endCol:=0}) "len" [.lst xs] s=some (.int xs.length,s)):
 cP P (d+1) "" "_law_pick" [.ref 1,.lst xs] [] s v s':=by
 exact ag (i7 P) ([V.ref 1,V.lst xs]) (fun z=>(zP hl (zD hd (zV hv (z0 z)))).R.R)
theorem NB{t:Int}{h g:ab}{xs:List V}(D:hP t h g)(ht:t<1000000)(hx:0<xs.length)(hx1:xs.length<1000000):
 ∃v h' g',v∈xs/\hP (t+1) h' g'/\∀{P:Params}{d:Nat}{J:Hp},cP P (d+2) "" "_law_pick" [.ref 1,.lst xs] [] (h::g::J) v (h'::g'::J):=by
 refine gg (yq (below:=xs.length) D ht (ar1 [_] [] 1 3849675343144 hx art) (ar1 [_] [] 1 37778931870263553517638870304048 hx1 art)) ?_;rintro r h' g' r0 r1 D' hd;have hn:r=(r.toNat:Int):=(Vk ‹_›).symm;have hlt:r.toNat<xs.length:=ar2 [_,_] [_] 262656 577922831685780792 (Uk (Ul hn) :) r1 art;refine⟨xs[r.toNat],h',g',Vn hlt,D',fun{P d J}=>NA (d:=d+1) hd (lu hn hlt hx1) ?_⟩;show(some xs).bind (fun xs=>if ba xs then _ else _)=_;rw[Ue,if_pos (ar (TX ‹_›))]
theorem zJ{ns:List Int}{a b:Option Int}:oV (ivs ns) a b=ivs ((ns.drop (kms_lo a ns.length)).take (kms_hi b ns.length-kms_lo a ns.length)):=by unfold oV ivs;rw[Tn,WY,WZ]
theorem oh{ms:List Int}{i:Nat}(h:i<ms.length):(ivs ms)[i]?=some (.int ms[i]):=by unfold ivs;rw[Ty,Tq h];rfl
theorem aK{ms:List Int}:(ivs ms).length=ms.length:=by unfold ivs;rw[Tn]
abbrev dkE(P:Params):Expr:=Ll 0 (stE (db 0 (aZ P).body))
noncomputable abbrev dkC(sl:Option V):Loc:=[(".0",.v none),("cell",.v sl),("int",.g)]
noncomputable abbrev dkL(ns ms:List V)(sl:Option V)(m:Int):Loc:=[("script",.v (some (.lst ns))),("cell",.v sl),("cells",.v (some (.lst ms))),("mixed",.v (some (.int m)))]
theorem BD{P:Params}{d:Nat}{ms:List Int}(hm:ms.length<=8):
 iM (aJ P d (coG (dkE P)).target) (fR P d (coG (dkE P)).ifs) (bI P d (coE (dkE P))) false (.lst (ivs ms)) (dkC none) [] (.lst (ivs ms)) []:=by
 refine Tu (lS (t:=false) (v:=.lst (ivs ms)) (it:=.seq (.lst (ivs ms))) (loc:=(dkC none)) (J:=[]) (asg:=aJ P d (coG (dkE P)).target) (test:=fR P d (coG (dkE P)).ifs) (elt:=bI P d (coE (dkE P)))
  (fun i l s acc=>s=[]/\acc=(ivs ms).take i/\∃sl:Option V,l=dkC sl) rfl (Tx some aK) (fun i l s acc hi I=>?_) (fun l s acc I=>?_) ⟨rfl,rfl,none,rfl⟩) fun acc hh=>?_
 . refine Li (I) ?_;rintro rfl rfl sl rfl;have hlt:((ivs ms).take i).length<=1000000:=by rw[TY,aK];exact Tk (Uq _ _) (Tk ‹_› (by decide))
   refine⟨⟨Tx some aK,ar hlt⟩,.int ms[i],true,.int ms[i],dkC (some (.int ms[i])),[],oh hi,fun k hk=>?_,rfl,?_,_,rfl⟩
   .exact aw (zR (zC (z0 hk)))
   .show(ivs ms).take i++[.int ms[i]]=_;rw[Un,oh hi];rfl
 .refine eX (I) ?_;rintro rfl rfl _;exact⟨Tx some aK,ar (by rw[TY,aK];exact Tk (Uq _ _) (Tk ‹_› (by decide)))⟩
 . refine bw (hh) ?_;rintro s l ⟨rfl,rfl,_⟩ h;have e:(ivs ms).take ms.length=ivs ms:=by rw[<-aK (ms:=ms),Ur]
   rw[e]at h;exact h
theorem BE{P:Params}{d:Nat}{ms:List Int}{ns:List V}(hm:ms.length<=8):
 ∃m l,eW (aJ P d (bf (db 1 (aZ P).body))) (av P d (bj (db 1 (aZ P).body))) (bf (db 1 (aZ P).body)) (.seq (.lst (ivs ms)))
  (dkL ns (ivs ms) none 808) [] .next (dkL ns (ivs ms) l m) []:=by
 refine Tu (dA (N:=ms.length) (it:=.seq (.lst (ivs ms))) (loc:=(dkL ns (ivs ms) none 808)) (J:=[]) (tg:=bf (db 1 (aZ P).body)) (asg:=aJ P d (bf (db 1 (aZ P).body))) (body:=av P d (bj (db 1 (aZ P).body)))
  (fun i l s=>s=[]/\∃(m:Int) (sl:Option V),0<=m/\m<2147483587/\l=(dkL ns (ivs ms) sl m))
  (fun i l s hi I=>?_) (fun l s I=>Tx some aK) (Tx some aK) rfl ⟨rfl,808,none,by decide,by decide,rfl⟩) fun l hh=>?_
 .refine jo (I) ?_;rintro rfl m sl h0 h1 rfl;have s1:=oX (t:=true) (J:=[]) (b0 (i:=m) (ar1 [] [_] 513 30474529525296395358242802670344 h0 art) (TK ‹_› (by decide))) (by decide:aO 48271=true);refine⟨Tx some aK,.int ms[i],.next,(dkL ns (ivs ms) (some (.int ms[i])) ((m*48271+ms[i].fmod 2147483629+808).fmod 2147483587)),[],oh hi,fun k hk=>?_,.inl rfl,rfl,_,_,(dL (by decide)).1,(dL (by decide)).2,rfl⟩;exact aw (zR (zP s1 (zC (zC (zC (zC (z0 hk)))))))
 .refine ae (hh) ?_;rintro s ⟨rfl,m,sl,_,_,rfl⟩ h;exact⟨m,sl,h⟩
theorem NC{P:Params}{d:Nat}{ns ms:List Int}{m:Int}{sl:Option V}(hm:ms.length<=8)(hs:bm false [] (.lst (ivs ns)) .none (.int 8) .none=some (.lst (ivs ms),[]))(hr:bm true [] (.lst (ivs ms)) .none .none (.int (-1))=some (.ref 0,[.list (ivs ms.reverse)]))(hl:eW (aJ P d (bf (db 1 (aZ P).body))) (av P d (bj (db 1 (aZ P).body))) (bf (db 1 (aZ P).body)) (.seq (.lst (ivs ms)))
  (dkL (ivs ns) (ivs ms) none 808) [] .next (dkL (ivs ns) (ivs ms) sl m) []):
 cP P (d+1) "" "_law_deck" [.lst (ivs ns)] [] [] (.ref 1) [.list (ivs ms.reverse),df m 0]:=by
 have hc:=BD (P:=P) (d:=d) hm;exact ag (aZ P) ([V.lst (ivs ns)]) (fun z=>(zA (rfl:(0:Int)=(0:Int)) (zP hs (zF hc (zL hl (zA (by decide:[Str.ofString "turn",Str.ofString "mixed",Str.ofString "cells"].reverse.length=[(Expr.Name (Str.ofString "cells") { line:=346,col:=21,endLine:=346,endCol:=26}).Subscript (Expr.Slice none none (some (Expr.UnaryOp UnaryOp.USub (Expr.Constant (Const.int 1) 0 { line:=346,col:=30,endLine:=346,endCol:=31}) { line:=346,col:=29,endLine:=346,endCol:=31})) { line:=346,col:=27,endLine:=346,endCol:=31}) { line:=346,col:=21,endLine:=346,endCol:=32},Expr.Name (Str.ofString "mixed") { line:=346,col:=43,endLine:=346,endCol:=48},Expr.Constant (Const.int 0) 0 { line:=346,col:=58,endLine:=346,endCol:=59}].length/\[Str.ofString "turn",Str.ofString "mixed",Str.ofString "cells"].reverse.length<=15) (zP hr (z0 z)).C)).C.R)).R).R)
theorem ND{P:Params}{d:Nat}{ns:List Int}(hl:ns.length<=63):∃h g,hP 0 h g/\cP P (d+1) "" "_law_deck" [.lst (ivs ns)] [] [] (.ref 1) [h,g]:=by
 generalize hms:(ns.drop (kms_lo none ns.length)).take (kms_hi (some 8) ns.length-kms_lo none ns.length)=ms;have hml:ms.length<=8:=by rw[<-hms,TY];refine Tk (Wx _ _) ?_;unfold kms_hi kms_lo;simp;exact ar1 [_] [] 0 276170015952 (Wx (8) (ns.length)) art
 refine iN (BE (P:=P) (d:=d) (ns:=ivs ns) hml) ?_;rintro m sl h;have p1:ba (ivs ns)=true:=ar (by rw[aK];exact Tk ‹_› (by decide));have p2:ba (ivs ms)=true:=ar (by rw[aK];exact Tk ‹_› (by decide));refine⟨_,_,⟨by decide,ms.reverse,m,by simpa using hml,rfl,rfl⟩,NC hml ?_ ?_ h⟩
 .show(some (ivs ns)).bind (fun xs=>if ba xs then _ else _)=_;rw[Ue,if_pos p1];show some (V.lst (oV (ivs ns) none (some 8)),[])=_;rw[zJ,hms]
 .show(some (ivs ms)).bind (fun xs=>if ba xs then _ else _)=_;rw[Ue,if_pos p2];show some (V.ref 0,[ab.list (ivs ms).reverse])=_;unfold ivs;rw[List.map_reverse]
noncomputable def Cut(fs:List Int)(n:Int)(p:Nat):Prop:=p<=fs.length/\(∀i x,i<p->fs[i]?=some x->x<=n)/\(∀i x,p<=i->fs[i]?=some x->n<x)
noncomputable def Asc(fs:List Int):Prop:=∀(i j:Nat) (x y:Int),i<j->fs[i]?=some x->fs[j]?=some y->x<y
theorem P0(a b:Nat):((a:Int)+b).fdiv 2=(((a+b)/2:Nat):Int):=by rw[Int.fdiv_eq_ediv_of_nonneg _ (by decide)];exact rfl
noncomputable def Rk(fs:List Int)(n:Int)(lo hi:Nat):Prop:=(∀(i:Nat) (x:Int),i<lo->fs[i]?=some x->x<=n)/\(∀(i:Nat) (x:Int),hi<=i->fs[i]?=some x->n<x)
noncomputable abbrev plL(fs:List V)(n lo hi:Int)(sl:Option V):Loc:=[("firsts",.v (some (.lst fs))),("number",.v (some (.int n))),("low",.v (some (.int lo))),("high",.v (some (.int hi))),("middle",.v sl),("len",.g)]
abbrev plS(P:Params):Stmt:=db 2 (dM P).body
inductive HfI(J:Hp)(fs:List Int)(n:Int)(k:Nat)(l:Loc)(s:Hp):Prop
 |mk (lo hi:Nat) (sl:Option V):s=J->k=hi-lo->lo<=hi->hi<=fs.length->Rk fs n lo hi->l=plL (ivs fs) n lo hi sl->HfI J fs n k l s
inductive HfE(J:Hp)(fs:List Int)(n:Int)(l:Loc)(s:Hp):Prop
 |mk (p:Nat) (sl:Option V):s=J->Cut fs n p->l=plL (ivs fs) n p p sl->HfE J fs n l s
theorem yr{P:Params}{d:Nat}{J:Hp}{fs:List Int}{n:Int}(ha:Asc fs)(hl:fs.length<=100):
 ∃(p:Nat) (sl:Option V),Cut fs n p/\et (bI P d (iy (plS P))) (av P d (bj (plS P))) (plL (ivs fs) n 0 fs.length none) J .next (plL (ivs fs) n p p sl) J:=by
 refine Tu (nW (wt:=bI P d (iy (plS P))) (body:=av P d (bj (plS P)))
  (HfI J fs n)
  (HfE J fs n) ?_ fs.length (plL (ivs fs) n 0 fs.length none) J mu (by have:mu=200:=rfl;exact Ts ‹_› (by decide)) ⟨0,fs.length,none,rfl,rfl,VC _,TB _,⟨fun i x h=>absurd h (Vj _),fun i x h hx=>?_⟩,rfl⟩) fun l hh=>?_
 . rintro k l s ⟨lo,hi,sl,rfl,rfl,h1,h2,h3,rfl⟩;by_cases hlt:lo<hi
   . have z1:decide ((lo:Int)<hi)=true:=To (UF.mpr ‹_›);obtain⟨mid,fd,hm1,hm2⟩:∃mid:Nat,((lo:Int)+hi).fdiv 2=(mid:Int)/\lo<=mid/\mid<hi:=⟨(lo+hi)/2,P0 lo hi,by lia,by lia⟩;obtain⟨x,hx⟩:∃x,fs[mid]?=some x:=⟨_,Tq (TG ‹_› ‹_›)⟩;have hv:(ivs fs)[mid]?=some (.int x):=by unfold ivs;rw[Ty,hx];rfl
     have hml:mid<(ivs fs).length:=by rw[aK];exact TG ‹_› ‹_›
     have pk:af s (.lst (ivs fs)) (.int (mid:Int))=some (.int x):=by refine jF.trans ?_;rw[lu rfl hml (by rw[aK];exact Ts ‹_› (by decide))];rw[Tq hml]at hv;exact hv
     have dv:dI true .FloorDiv (.int ((lo:Int)+hi)) (.int 2) s=some (.int mid,s):=by rw[<-fd];exact OY (by decide) (by decide)
     by_cases hle:x<=n
     . have z2:decide (x<=n)=true:=To hle;refine⟨true,.next,plL (ivs fs) n ((mid:Int)+1) hi (some (.int mid)),s,fun k hk=>?_,.inr ⟨rfl,.inl rfl,hi-(mid+1),ar3 [_,_,_,_,_] [] 0 719336046530254258948656 (fp (n:=hi) (m:=mid+1) (ar1 [_,_] [] 0 585508619568 hm2 art)) (iX (n:=hi) (m:=lo) (ar1 [_,_] [] 0 587760944 hlt art)) hm1 art,mid+1,hi,_,rfl,rfl,hm2,h2,⟨fun i y hi' hy=>?_,h3.2⟩,rfl⟩⟩
       .exact aw (zC (zH z1 (zR (zC (zP dv (zV pk (zC (zH z2 (zR (zC (z0 hk)))))))))))
       . by_cases q:i=mid
         .subst q;rw[hx]at hy;cases hy;exact hle
         .exact Int.le_of_lt (TK (ha i _ y x (by lia) hy hx) hle)
     . have z2:decide (x<=n)=false:=Tz hle;refine⟨true,.next,plL (ivs fs) n lo mid (some (.int mid)),s,fun k hk=>?_,.inr ⟨rfl,.inl rfl,mid-lo,ar3 [_,_,_,_,_] [] 0 643778219443311418067504 (fp (n:=mid) (m:=lo) (ar1 [_,_] [] 0 574000 hm1 art)) hm2 (iX (n:=hi) (m:=lo) (ar1 [_,_] [] 0 587760944 hlt art)) art,lo,mid,_,rfl,rfl,by omega,ar2 [_,_,_] [] 0 603981138480 hm2 h2 art,⟨h3.1,fun i y hi' hy=>?_⟩,rfl⟩⟩
       .exact aw (zC (zH z1 (zR (zC (zP dv (zV pk (zC (zH z2 (zR (z0 hk))))))))))
       . by_cases q:i=mid
         .subst q;rw[hx]at hy;cases hy;exact Int.not_le.mp ‹_›
         .have:=ha _ i x y (by lia) hx hy;exact ar2 [] [_,_,_] 262657 938218564783736120 this (Int.lt_of_not_ge hle :) art
   .have e:hi=lo:=Ud (ar1 [_,_] [] 0 574000 (Vz hlt :) art) (ar1 [_,_] [] 0 574000 h1 art);subst e;have z1:decide ((hi:Int)<hi)=false:=Tz (U9 (ar0 [_] [] 1 114800 art));refine⟨false,.next,plL (ivs fs) n hi hi sl,s,fun k hk=>?_,.inl ⟨rfl,rfl,hi,sl,rfl,⟨h2,h3.1,h3.2⟩,rfl⟩⟩;exact aw (zC (zH z1 (z0 hk)))
 .have:=(Tr.mp hx).1;exact absurd ‹_› (Vd.mpr ‹_›)
 .obtain⟨s,⟨p,sl,rfl,hc,rfl⟩,h⟩:=hh;exact⟨p,sl,hc,h⟩
theorem Jv{P:Params}{d:Nat}{J:Hp}{fs:List Int}{n:Int}{p:Nat}{sl:Option V}(hl:biI true "len" [.lst (ivs fs)] J=some (.int fs.length,J))(h:et (bI P d (iy (plS P))) (av P d (bj (plS P))) (plL (ivs fs) n 0 fs.length none) J .next (plL (ivs fs) n p p sl) J):
 cP P (d+1) "" "place_by_half" [.lst (ivs fs),.int n] [] J (.int ((p:Int)-1)) J:=by
 exact ag (dM P) ([V.lst (ivs fs),V.int n]) (fun z=>(zP hl (zL h (z0 z).C)).R.R.R)
theorem uK{P:Params}{d:Nat}{J:Hp}{fs:List Int}{n:Int}(ha:Asc fs)(hl:fs.length<=100):
 ∃p:Nat,cP P (d+1) "" "place_by_half" [.lst (ivs fs),.int n] [] J (.int ((p:Int)-1)) J/\Cut fs n p:=by
 obtain⟨p,sl,hc,h⟩:=yr (P:=P) (d:=d) (J:=J) (n:=n) ha hl;refine⟨p,Jv ?_ h,hc⟩;show(some (ivs fs)).bind (fun xs=>if ba xs then _ else _)=_;rw[Ue,if_pos (ar (by rw[aK];exact Tk ‹_› (by decide))),aK]
section
variable{P:Params}{d:Nat}{J:Hp}
theorem NE{a b:Str}:cP P (d+1) "" "range_are_like" [.str a,.str b] [] J (.bool ((a==b)&&true)) J:=by have hs:J=J:=rfl;exact ag (bQ P) ([V.str a,V.str b]) (fun z=>(zA hs (z0 z)).C.C.R.C.R.O.C)
theorem NF{a b:Bool}:cP P (d+1) "" "range_are_like" [.bool a,.bool b] [] J (.bool ((a==b)&&true)) J:=by have hs:J=J:=rfl;exact ag (bQ P) ([V.bool a,V.bool b]) (fun z=>(zA hs (z0 z)).C.C.R.C.R.O.C)
theorem Jw{a:Str}{b:Bool}:cP P (d+1) "" "range_are_like" [.str a,.bool b] [] J (.bool false) J:=by exact ag (bQ P) ([V.str a,V.bool b]) (fun z=>(z0 z).F.C)
theorem Jx{a:Bool}{b:Str}:cP P (d+1) "" "range_are_like" [.bool a,.str b] [] J (.bool false) J:=by exact ag (bQ P) ([V.bool a,V.str b]) (fun z=>(z0 z).F.C)
abbrev jN(dflt:V)(fs:List Int)(vs:List V):ab:=.dict [("default",dflt),("starts",.lst (ivs fs)),("values",.lst vs)]
abbrev rmC(P:Params):cF:=((a_T P).cls.lookup ("RangeMap":Str)).getD ⟨[],[]⟩
theorem NG{r:Nat}{dflt:V}{fs:List Int}{vs:List V}{c:Int}{p:Nat}{v:V}(hr:J[r]?=some (jN dflt fs vs))(hp:cP P (d+1) "" "place_by_half" [.lst (ivs fs),.int c] [] J (.int ((p:Int)-1)) J)(k3:af J (.lst vs) (.int ((p:Int)-1))=some v):cP P (d+2) "RangeMap" "get" [.inst "RangeMap" r,.int c] [] J v J:=by have k1:bS (a_T P) J (.inst "RangeMap" r) "starts"=some (.lst (ivs fs)):=ax (rmC P) hr rfl rfl;have k2:bS (a_T P) J (.inst "RangeMap" r) "values"=some (.lst vs):=ax (rmC P) hr rfl rfl;exact ag (fM P) ([V.inst (Str.ofString "RangeMap") r,V.int c]) (fun z=>(zV k2 (zV k1 (zD hp (zV k3 (z0 z)))).R.R).R)
theorem Jy{r:Nat}{dflt:V}(hr:J[r]?=some (.dict [])):cP P (d+1) "RangeMap" "__init__" [.inst "RangeMap" r,dflt] [] J .none (J.set r (jN dflt [0] [dflt])):=by
 have k1:cY (a_T P) J (.inst "RangeMap" r) "default" dflt=some (J.set r (.dict [("default",dflt)])):=dU (rmC P) hr (by rfl') (by rfl') (by simp);have k2:cY (a_T P) (J.set r (.dict [("default",dflt)])) (.inst "RangeMap" r) "starts" (.lst [.int 0])=some (J.set r (.dict [("default",dflt),("starts",.lst [.int 0])])):=by rw[dU (rmC P) (dg hr) (by rfl') (by rfl') (by simp),List.set_set];rfl
 have k3:cY (a_T P) (J.set r (.dict [("default",dflt),("starts",.lst [.int 0])])) (.inst "RangeMap" r) "values" (.lst [dflt])=some (J.set r (jN dflt [0] [dflt])):=by rw[dU (rmC P) (dg hr) (by rfl') (by rfl') (by simp),List.set_set];rfl
 exact ag (eR P) ([V.inst (Str.ofString "RangeMap") r,dflt]) (fun z=>(zS k1 (zS k2 (zS k3 (z0 z)).R.R).R.R).R)
end
noncomputable def inS(x:Str):List Str->Bool
 |[]=>false
 |y::ys=>(y==x)||inS x ys
noncomputable abbrev noV(s:Str):V:=.tup [.str "no",.str s]
noncomputable abbrev jO(s:Str):V:=.tup [.str "may",.str s]
noncomputable abbrev q8(s:Str):V:=.tup [.str "must",.str s]
noncomputable abbrev ol:List Str:=["BK","CR","LF","NL"]
noncomputable abbrev cK:List Str:=["AL","HL"]
noncomputable abbrev rh:List Str:=["ID","EB","EM"]
noncomputable abbrev hQ:List Str:=["PR","PO"]
noncomputable abbrev yt:List Str:=["JL","JV","JT","H2","H3"]
noncomputable abbrev uL:List Str:=["NU","SY","IS"]
noncomputable abbrev rj:List Str:=["AL","HL","ID","NU","JL","JV","JT","H2","H3"]
def lx(a b:Str):V:=cond (a=="BK") (q8 "LB4") (cond ((a=="CR")&&(b=="LF")) (noV "LB5") (cond (inS a ol) (q8 "LB5") (cond (inS b ol) (noV "LB6") .none)))
def gv(b s:Str)(j:Bool):V:=cond (inS b ["SP","ZW"]) (noV "LB7") (cond (s=="ZW") (jO "LB8") (cond j (noV "LB8a") .none))
def kD(a b:Str):V:=cond ((a=="WJ")||(b=="WJ")) (noV "LB11") (cond (a=="GL") (noV "LB12") (cond ((b=="GL") && !inS a ["SP","BA","HY"]) (noV "LB12a") .none))
def dF(a b s nm:Str):V:=cond (inS b ["CL","CP","EX","IS","SY"]) (cond (!((nm=="expression")&&(!(b=="EX")&&(a=="NU")))) (noV "LB13") (cond (s=="OP") (noV "LB14") .none)) (cond (s=="OP") (noV "LB14") .none)
def mC(a b s:Str):V:=cond (inS s ["CL","CP"]&&(b=="NS")) (noV "LB16") (cond ((s=="B2")&&(b=="B2")) (noV "LB17") (cond (a=="SP") (jO "LB18") .none))
def fT(qi qf:Bool)(q k N:Int)(aq c:Str):V:=cond (qi&&((q==0)||inS aq ["BK","CR","LF","NL","OP","QU","GL","SP","ZW"])) (noV "LB15a") (cond (qf&&((k+1==N)||inS c ["SP","GL","WJ","CL","QU","CP","EX","IS","SY","BK","CR","LF","NL","ZW"])) (noV "LB15b") .none)
def gm(a b a2 st:Str):V:=cond ((a=="QU")||(b=="QU")) (noV "LB19") (cond ((a=="CB")||(b=="CB")) (jO "LB20") (cond (inS b ["BA","HY","NS"]||(a=="BB")) (noV "LB21") (cond (inS a ["HY","BA"]&&((a2=="HL") && !(b=="HL"))) (noV "LB21a") (cond ((a=="SY")&&(b=="HL")) (noV "LB21b") (cond ((b=="IN") && !((st=="loose")&&(a=="IN"))) (noV "LB22") .none)))))
def dG(a b:Str):V:=cond ((inS a cK&&(b=="NU"))||((a=="NU")&&inS b cK)) (noV "LB23") (cond (((a=="PR")&&inS b rh)||(inS a rh&&(b=="PO"))) (noV "LB23a") (cond ((inS a hQ&&inS b cK)||(inS a cK&&inS b hQ)) (noV "LB24") .none))
def gC(a b c:Str)(n1 n2:Bool):V:=cond ((inS a hQ&&((b=="NU")||(inS b ["OP","HY"]&&(c=="NU"))))||(inS a ["OP","HY"]&&(b=="NU"))) (noV "LB25") (cond (inS b uL||inS b ["CL","CP"]) (cond n1 (noV "LB25") .none) (cond (inS b hQ) (cond (inS a ["CL","CP"]) (cond n2 (noV "LB25") .none) (cond n1 (noV "LB25") .none)) .none))
noncomputable def inP(a b:Str):List (Str×Str)->Bool
 |[]=>false
 |(x,y)::r=>((x==a)&&((y==b)&&true))||inP a b r
noncomputable abbrev wJ:List (Str×Str):=[("CL","PO"),("CP","PO"),("CL","PR"),("CP","PR"),("NU","PO"),("NU","PR"),("PO","OP"),("PO","NU"),("PR","OP"),("PR","NU"),("HY","NU"),("IS","NU"),("NU","NU"),("SY","NU")]
def dX(a b nm:Str)(e:V):V:=cond (nm=="expression") e (cond (inP a b wJ) (noV "LB25") .none)
noncomputable def qd(a:Str):List Str:=cond (a=="JL") ["JL","JV","H2","H3"] (cond (a=="JV") ["JV","JT"] (cond (a=="H2") ["JV","JT"] (cond (a=="JT") ["JT"] (cond (a=="H3") ["JT"] []))))
def o8(a b:Str):V:=cond (inS b (qd a)) (noV "LB26") (cond ((inS a yt&&(b=="PO"))||((a=="PR")&&inS b yt)) (noV "LB27") (cond (inS a cK&&inS b cK) (noV "LB28") .none))
def rm(a b c:Str)(l r l2 r2:Bool):V:=cond ((((a=="AP")&&r)||(l&&inS b ["VF","VI"]))||((a=="VI")&&(l2&&r2))||(l&&(r&&(c=="VF")))) (noV "LB28a") .none
def o9(a b:Str)(n0 n1:Bool):V:=cond ((a=="IS")&&inS b cK) (noV "LB29") (cond ((inS a cK||(a=="NU"))&&((b=="OP")&&n0)) (noV "LB30") (cond ((a=="CP")&&((inS b cK||(b=="NU"))&&n1)) (noV "LB30") .none))
def m8(a b g:Str)(r:Int)(ep ka:Bool):V:=cond ((a=="RI")&&((b=="RI")&&(r.fmod 2==1))) (noV "LB30a") (cond (b=="EM") (cond ((a=="EB")||(ep&&(g=="Cn"))) (noV "LB30b") (cond (ka&&(inS a rj&&inS b rj)) (noV "keep-all") .none)) (cond (ka&&(inS a rj&&inS b rj)) (noV "keep-all") .none))
section
variable{P:Params}{d n u h D so re un u1:Nat}{J:Hp}{k q N cd r:Int}{a b s c nm a2 st aq g:Str}{j qi qf n1 n2 l rr l2 r2 n0 ep ka:Bool}{e:V}
noncomputable abbrev aF(P:Params)(d n:Nat)(J:Hp)(k:Int)(w:Str):Prop:=cP P d "LineView" "word" [.inst "LineView" n,.int k] [] J (.str w) J
noncomputable abbrev uM(P:Params)(d n:Nat)(J:Hp)(k:Int)(w:Str):Prop:=cP P d "LineView" "solid_word" [.inst "LineView" n,.int k] [] J (.str w) J
noncomputable abbrev uN(P:Params)(d n:Nat)(J:Hp)(k:Int)(kd:Str)(w:Bool):Prop:=cP P d "LineView" "is_quote" [.inst "LineView" n,.int k,.str kd] [] J (.bool w) J
noncomputable abbrev yu(P:Params)(d n:Nat)(J:Hp)(k:Int)(w:Bool):Prop:=cP P d "LineView" "is_narrow" [.inst "LineView" n,.int k] [] J (.bool w) J
noncomputable abbrev m9(P:Params)(d n:Nat)(J:Hp)(k:Int)(ws:List V)(w:Bool):Prop:=cP P d "" "line_is_aksara" [.inst "LineView" n,.int k,.tup ws] [] J (.bool w) J
noncomputable abbrev bg(P:Params)(d n:Nat)(J:Hp)(f:Str)(k:Int)(v:V):Prop:=cP P d "" f [.inst "LineView" n,.int k] [] J v J
noncomputable abbrev be(P:Params)(n:Nat)(J:Hp)(m:Str):Prop:=bd (a_T P) J (.inst "LineView" n) m=some (.fn "LineView")
noncomputable abbrev cU(P:Params)(n:Nat)(J:Hp)(m:Str)(v:V):Prop:=bS (a_T P) J (.inst "LineView" n) m=some v
theorem NH(hm:be P n J "word")(W1:aF P d n J (k-1) a)(W0:aF P d n J k b):bg P (d+1) n J "line_rule_hard" k (lx a b):=by unfold be at hm;unfold aF at W1 W0;unfold bg;exact ag (eP P) ([V.inst (Str.ofString "LineView") n,V.int k]) (fun z=>(zK hm (zD W1 (zK hm (zD W0 (zM (fun p42=>(z0 (zE J ((xT p42 rfl):lx a b=_))).R) (fun p42=>(zW J (zM (fun p96=>(z0 (zE J ((xF p42 (xT p96 rfl)):lx a b=_))).R) (fun p96=>(zM (fun p169=>(z0 (zE J ((xF p42 (xF p96 (xT p169 rfl))):lx a b=_))).R) (fun p169=>(zM (fun p293=>(z0 (zE J ((xF p42 (xF p96 (xF p169 (xT p293 rfl)))):lx a b=_))).R) (fun p293=>z0 (zE J ((xF p42 (xF p96 (xF p169 (xF p293 rfl)))):lx a b=_)))).C)).C))).C.O.C)).C.R)).R).C).R.R)
theorem EJ(hm:be P n J "word")(hs:be P n J "solid_word")(W0:aF P d n J k b)(S1:uM P d n J (k-1) s)(U:cU P n J "units" (.ref u))(I1:af J (.ref u) (.int (k-1))=some (.inst "LineUnit" u1))(σ1:bS (a_T P) J (.inst "LineUnit" u1) "is_joined"=some (.bool j)):bg P (d+1) n J "line_rule_spaces" k (gv b s j):=by unfold be at hm hs;unfold aF at W0;unfold uM at S1;unfold cU at U;unfold bg;exact ag (d7 P) ([V.inst (Str.ofString "LineView") n,V.int k]) (fun z=>(zK hm (zD W0 (zM (fun p21=>(z0 (zE J ((xT p21 rfl):gv b s j=_))).R) (fun p21=>(zK hs (zD S1 (zM (fun p107=>(z0 (zE J ((xF p21 (xT p107 rfl)):gv b s j=_))).R) (fun p107=>(zV U (zV I1 (zV σ1 (zM (fun p161=>(z0 (zE J ((xF p21 (xF p107 (xT p161 rfl))):gv b s j=_))).R) (fun p161=>z0 (zE J ((xF p21 (xF p107 (xF p161 rfl))):gv b s j=_)))))).C).R.R)).C).C).R)).C.R)).R)
theorem NK(hm:be P n J "word")(W1:aF P d n J (k-1) a)(W0:aF P d n J k b):bg P (d+1) n J "line_rule_glue" k (kD a b):=by unfold be at hm;unfold aF at W1 W0;unfold bg;exact ag (eQ P) ([V.inst (Str.ofString "LineView") n,V.int k]) (fun z=>(zK hm (zD W1 (zK hm (zD W0 (zW J (zM (fun p65=>(z0 (zE J ((xT p65 rfl):kD a b=_))).R) (fun p65=>(zM (fun p137=>(z0 (zE J ((xF p65 (xT p137 rfl)):kD a b=_))).R) (fun p137=>(zW J (zM (fun p194=>(z0 (zE J ((xF p65 (xF p137 (xT p194 rfl))):kD a b=_))).R) (fun p194=>z0 (zE J ((xF p65 (xF p137 (xF p194 rfl))):kD a b=_))))).C.R.O.C)).C))).C.O.C.R)).R).C).R.R)
theorem BF(hm:be P n J "word")(hs:be P n J "solid_word")(W1:aF P d n J (k-1) a)(W0:aF P d n J k b)(S1:uM P d n J (k-1) s)(HOW:cU P n J "how" (.inst "LineHow" h))(NM:bS (a_T P) J (.inst "LineHow" h) "numbers"=some (.str nm)):bg P (d+1) n J "line_rule_closing" k (dF a b s nm):=by unfold be at hm hs;unfold aF at W1 W0;unfold uM at S1;unfold cU at HOW;unfold bg;exact ag (dN P) ([V.inst (Str.ofString "LineView") n,V.int k]) (fun z=>(zK hm (zD W0 (zM (fun p21=>(zV HOW (zV NM (zK hm (zD W1 (zW J (zW J (zM (fun p264=>(z0 (zE J ((xT p21 (xT p264 rfl)):dF a b s nm=_))).R) (fun p264=>(zK hs (zD S1 (zM (fun p427=>(z0 (zE J ((xT p21 (xF p264 (xT p427 rfl))):dF a b s nm=_))).R) (fun p427=>z0 (zE J ((xT p21 (xF p264 (xF p427 rfl))):dF a b s nm=_)))).C).C).R)).C)).C).C).R.O.C.O.C)).R.R.R) (fun p21=>(zK hs (zD S1 (zM (fun p193=>(z0 (zE J ((xF p21 (xT p193 rfl)):dF a b s nm=_))).R) (fun p193=>z0 (zE J ((xF p21 (xF p193 rfl)):dF a b s nm=_)))).C).C).R)).C)).R.R)
theorem EK(hm:be P n J "word")(hq:be P n J "is_quote")(SO:cU P n J "solid" (.ref so))(SI:af J (.ref so) (.int (k-1))=some (.int q))(Q1:uN P d n J q "Pi" qi)(WQ:aF P d n J (q-1) aq)(Q0:uN P d n J k "Pf" qf)(U:cU P n J "units" (.ref u))(LN:biI true "len" [.ref u] J=some (.int N,J))(Wn:aF P d n J (k+1) c):bg P (d+1) n J "line_rule_quotes" k (fT qi qf q k N aq c):=by unfold be at hm hq;unfold cU at SO;unfold uN at Q1;unfold aF at WQ;unfold uN at Q0;unfold cU at U;unfold aF at Wn;unfold bg;exact ag (d8 P) ([V.inst (Str.ofString "LineView") n,V.int k]) (fun z=>(zV SO (zV SI (zK hq (zD Q1 (zK hm (zD WQ (zW J (zW J (zM (fun p100=>(z0 (zE J ((xT p100 rfl):fT qi qf q k N aq c=_))).R) (fun p100=>(zK hq (zD Q0 (zV U (zP LN (zK hm (zD Wn (zW J (zW J (zM (fun p586=>(z0 (zE J ((xF p100 (xT p586 rfl)):fT qi qf q k N aq c=_))).R) (fun p586=>z0 (zE J ((xF p100 (xF p586 rfl)):fT qi qf q k N aq c=_)))))).C).C).R.O.C)).R.R.C.O)).R)))).C).C).R.O.C.O)).R).C).R.R)
theorem NL(hm:be P n J "word")(hs:be P n J "solid_word")(W1:aF P d n J (k-1) a)(W0:aF P d n J k b)(S1:uM P d n J (k-1) s):bg P (d+1) n J "line_rule_over_spaces" k (mC a b s):=by unfold be at hm hs;unfold aF at W1 W0;unfold uM at S1;unfold bg;exact ag (cR P) ([V.inst (Str.ofString "LineView") n,V.int k]) (fun z=>(zK hs (zD S1 (zK hm (zD W0 (zW J (zM (fun p68=>(z0 (zE J ((xT p68 rfl):mC a b s=_))).R) (fun p68=>(zW J (zM (fun p201=>(z0 (zE J ((xF p68 (xT p201 rfl)):mC a b s=_))).R) (fun p201=>(zK hm (zD W1 (zM (fun p292=>(z0 (zE J ((xF p68 (xF p201 (xT p292 rfl))):mC a b s=_))).R) (fun p292=>z0 (zE J ((xF p68 (xF p201 (xF p292 rfl))):mC a b s=_)))).C).C).R))).C.O.C))).C.O.C.R.R)).R).C).R.R)
theorem Jz(hm:be P n J "word")(W1:aF P d n J (k-1) a)(W0:aF P d n J k b)(W2:aF P d n J (k-2) a2)(HOW:cU P n J "how" (.inst "LineHow" h))(ST:bS (a_T P) J (.inst "LineHow" h) "strictness"=some (.str st)):bg P (d+1) n J "line_rule_signs" k (gm a b a2 st):=by unfold be at hm;unfold aF at W1 W0;unfold aF at W2;unfold cU at HOW;unfold bg;exact ag (eA P) ([V.inst (Str.ofString "LineView") n,V.int k]) (fun z=>(zK hm (zD W1 (zK hm (zD W0 (zW J (zM (fun p65=>(z0 (zE J ((xT p65 rfl):gm a b a2 st=_))).R) (fun p65=>(zW J (zM (fun p160=>(z0 (zE J ((xF p65 (xT p160 rfl)):gm a b a2 st=_))).R) (fun p160=>(zW J (zM (fun p258=>(z0 (zE J ((xF p65 (xF p160 (xT p258 rfl))):gm a b a2 st=_))).R) (fun p258=>(zK hm (zD W2 (zW J (zW J (zM (fun p464=>(z0 (zE J ((xF p65 (xF p160 (xF p258 (xT p464 rfl)))):gm a b a2 st=_))).R) (fun p464=>(zW J (zM (fun p658=>(z0 (zE J ((xF p65 (xF p160 (xF p258 (xF p464 (xT p658 rfl))))):gm a b a2 st=_))).R) (fun p658=>(zV HOW (zV ST (zW J (zW J (zM (fun p802=>(z0 (zE J ((xF p65 (xF p160 (xF p258 (xF p464 (xF p658 (xT p802 rfl)))))):gm a b a2 st=_))).R) (fun p802=>z0 (zE J ((xF p65 (xF p160 (xF p258 (xF p464 (xF p658 (xF p802 rfl)))))):gm a b a2 st=_))))).C.O.C).C.O.C)).R.R.R))).C.O.C)))).C.O.C).C).R.O.C.R))).C.O.C.R))).C.O.C))).C.O.C.R)).R).C).R.R)
theorem BG(hm:be P n J "word")(W1:aF P d n J (k-1) a)(W0:aF P d n J k b):bg P (d+1) n J "line_rule_letters" k (dG a b):=by unfold be at hm;unfold aF at W1 W0;unfold bg;exact ag (dO P) ([V.inst (Str.ofString "LineView") n,V.int k]) (fun z=>(zK hm (zD W1 (zK hm (zD W0 (zW J (zW J (zW J (zM (fun p111=>(z0 (zE J ((xT p111 rfl):dG a b=_))).R) (fun p111=>(zW J (zW J (zW J (zM (fun p412=>(z0 (zE J ((xF p111 (xT p412 rfl)):dG a b=_))).R) (fun p412=>(zW J (zW J (zW J (zM (fun p779=>(z0 (zE J ((xF p111 (xF p412 (xT p779 rfl))):dG a b=_))).R) (fun p779=>z0 (zE J ((xF p111 (xF p412 (xF p779 rfl))):dG a b=_)))))).C.O.C.O).C.O.C)))).C.O.C.O).C.O.C)))).C.O.C.O).C.O.C.R)).R).C).R.R)
theorem NN(hm:be P n J "word")(W1:aF P d n J (k-1) a)(W0:aF P d n J k b)(Wn:aF P d n J (k+1) c)(X1:cP P d "" "line_is_number" [.inst "LineView" n,.int (k-1)] [] J (.bool n1) J)(X2:cP P d "" "line_is_number" [.inst "LineView" n,.int (k-2)] [] J (.bool n2) J):bg P (d+1) n J "line_rule_expression" k (gC a b c n1 n2):=by unfold be at hm;unfold aF at W1 W0;unfold aF at Wn;unfold bg;exact ag (c8 P) ([V.inst (Str.ofString "LineView") n,V.int k]) (fun z=>(zK hm (zD W1 (zK hm (zD W0 (zK hm (zD Wn (zW J (zW J (zW J (zW J (zW J (zM (fun p184=>(z0 (zE J ((xT p184 rfl):gC a b c n1 n2=_))).R) (fun p184=>(zW J (zM (fun p574=>(zD X1 (zM (fun p759=>(z0 (zE J ((xF p184 (xT p574 (xT p759 rfl))):gC a b c n1 n2=_))).R) (fun p759=>z0 (zE J ((xF p184 (xT p574 (xF p759 rfl))):gC a b c n1 n2=_))))).C.R) (fun p574=>(zM (fun p750=>(zM (fun p824=>(zD X2 (zM (fun p901=>(z0 (zE J ((xF p184 (xF p574 (xT p750 (xT p824 (xT p901 rfl))))):gC a b c n1 n2=_))).R) (fun p901=>z0 (zE J ((xF p184 (xF p574 (xT p750 (xT p824 (xF p901 rfl))))):gC a b c n1 n2=_))))).R.C) (fun p824=>(zD X1 (zM (fun p901=>(z0 (zE J ((xF p184 (xF p574 (xT p750 (xF p824 (xT p901 rfl))))):gC a b c n1 n2=_))).R) (fun p901=>z0 (zE J ((xF p184 (xF p574 (xT p750 (xF p824 (xF p901 rfl))))):gC a b c n1 n2=_))))).R.C)).C.R.R) (fun p750=>z0 (zE J ((xF p184 (xF p574 (xF p750 rfl))):gC a b c n1 n2=_)))).C))).C.R.O.C)))).C.O.C.R.O).O.C)).C).C).R.O.C.R.O.C.R.R)).R).C).R.R)
theorem BH(hm:be P n J "word")(W1:aF P d n J (k-1) a)(W0:aF P d n J k b)(HOW:cU P n J "how" (.inst "LineHow" h))(NM:bS (a_T P) J (.inst "LineHow" h) "numbers"=some (.str nm))(EX:bg P d n J "line_rule_expression" k e):bg P (d+1) n J "line_rule_numbers" k (dX a b nm e):=by unfold be at hm;unfold aF at W1 W0;unfold cU at HOW;unfold bg at EX;unfold bg;exact ag (dP P) ([V.inst (Str.ofString "LineView") n,V.int k]) (fun z=>(zV HOW (zV NM (zM (fun p22=>(zD EX (z0 (zE J ((xT p22 rfl):dX a b nm e=_)))).R) (fun p22=>(zK hm (zD W1 (zK hm (zD W0 (zM (fun p98=>(z0 (zE J ((xF p22 (xT p98 rfl)):dX a b nm e=_))).R) (fun p98=>z0 (zE J ((xF p22 (xF p98 rfl)):dX a b nm e=_)))).C.R)).R).C).R)).C)).R.R)
theorem zU{x:Str}{ys:List Str}:bA J .In (.str x) (.tup (ys.map .str))=some (inS x ys):=by
 show tp (eqV 6) (.str x) _=_;induction ys with|nil=>rfl|cons y ys ih=>show(eqV 6 (.str y) (.str x)).bind (fun b=>(tp (eqV 6) (.str x) (ys.map .str)).bind fun c=>some (b||c))=_;rw[ih];rfl
theorem EL:aQ J "dict.get" (vAt (aB P) "LINE_JAMO") [.str a,.tup []]=some (.tup ((qd a).map .str),J):=by
 have e:vAt (aB P) "LINE_JAMO"=.jd [("JL",["JL","JV","H2","H3"]),("JV",["JV","JT"]),("H2",["JV","JT"]),("JT",["JT"]),("H3",["JT"])]:=by rfl'
 rw[e];show some (((match(List.lookup a ([("JL",["JL","JV","H2","H3"]),("JV",["JV","JT"]),("H2",["JV","JT"]),("JT",["JT"]),("H3",["JT"])]:List (Str×List Str)):Option (List Str))with|some l=>V.tup (l.map V.str)|none=>V.tup [])),J)=_;unfold qd;simp only[List.lookup];cases a==("JL":Str)<;>cases a==("JV":Str)<;>cases a==("H2":Str)<;>cases a==("JT":Str)<;>cases a==("H3":Str)<;>rfl
theorem P1(hm:be P n J "word")(W1:aF P d n J (k-1) a)(W0:aF P d n J k b):bg P (d+1) n J "line_rule_syllables" k (o8 a b):=by unfold be at hm;unfold aF at W1 W0;unfold bg;have g1:=EL (P:=P) (J:=J) (a:=a);have g2:=zU (J:=J) (x:=b) (ys:=qd a);exact ag (dj P) ([V.inst (Str.ofString "LineView") n,V.int k]) (fun z=>(zK hm (zD W1 (zK hm (zD W0 (zP g1 (zT g2 (zM (fun p60=>(z0 (zE J ((xT p60 rfl):o8 a b=_))).R) (fun p60=>(zW J (zW J (zW J (zM (fun p177=>(z0 (zE J ((xF p60 (xT p177 rfl)):o8 a b=_))).R) (fun p177=>(zW J (zM (fun p642=>(z0 (zE J ((xF p60 (xF p177 (xT p642 rfl))):o8 a b=_))).R) (fun p642=>z0 (zE J ((xF p60 (xF p177 (xF p642 rfl))):o8 a b=_))))).C.O.C)))).C.O.C.O).C.O.C)))).R.C.R.R)).R).C).R.R)
theorem P2(hm:be P n J "word")(W1:aF P d n J (k-1) a)(W0:aF P d n J k b)(Wn:aF P d n J (k+1) c)(A1:m9 P d n J (k-1) [.str "AK",.str "AS"] l)(A0:m9 P d n J k [.str "AK",.str "AS"] rr)(A2:m9 P d n J (k-2) [.str "AK",.str "AS"] l2)(A3:m9 P d n J k [.str "AK"] r2):bg P (d+1) n J "line_rule_aksaras" k (rm a b c l rr l2 r2):=by unfold be at hm;unfold aF at W1 W0;unfold aF at Wn;unfold m9 at A1 A0;unfold m9 at A2 A3;unfold bg;exact ag (dQ P) ([V.inst (Str.ofString "LineView") n,V.int k]) (fun z=>(zK hm (zD W1 (zK hm (zD W0 (zD A1 (zD A0 (zW J (zW J (zW J (zD A2 (zD A3 (zW J (zW J (zW J (zK hm (zD Wn (zW J (zW J (zW J (zM (fun p315=>(z0 (zE J ((xT p315 rfl):rm a b c l rr l2 r2=_))).R) (fun p315=>z0 (zE J ((xF p315 rfl):rm a b c l rr l2 r2=_))))))).C).C).R.O.O.O.R)))).R.R.O).C.R.O.C.O.R)).C.R.O.O).O.C.R.R).R).C.R.R.R.R)).R).C).R.R)
theorem P3(hm:be P n J "word")(hn:be P n J "is_narrow")(W1:aF P d n J (k-1) a)(W0:aF P d n J k b)(N0:yu P d n J k n0)(N1:yu P d n J (k-1) n1):bg P (d+1) n J "line_rule_brackets" k (o9 a b n0 n1):=by unfold be at hm hn;unfold aF at W1 W0;unfold yu at N0 N1;unfold bg;exact ag (dC P) ([V.inst (Str.ofString "LineView") n,V.int k]) (fun z=>(zK hm (zD W1 (zK hm (zD W0 (zW J (zM (fun p65=>(z0 (zE J ((xT p65 rfl):o9 a b n0 n1=_))).R) (fun p65=>(zW J (zK hn (zD N0 (zW J (zW J (zM (fun p256=>(z0 (zE J ((xF p65 (xT p256 rfl)):o9 a b n0 n1=_))).R) (fun p256=>(zW J (zK hn (zD N1 (zW J (zW J (zM (fun p513=>(z0 (zE J ((xF p65 (xF p256 (xT p513 rfl))):o9 a b n0 n1=_))).R) (fun p513=>z0 (zE J ((xF p65 (xF p256 (xF p513 rfl))):o9 a b n0 n1=_))))))).C).R.O).C.O.C.O.C)))))).R.O.C.O).C.O.C))).C.O.C.R)).R).C).R.R)
theorem P4(hm:be P n J "word")(W1:aF P d n J (k-1) a)(W0:aF P d n J k b)(RE:cU P n J "regional" (.ref re))(RI:af J (.ref re) (.int (k-1))=some (.int r))(U:cU P n J "units" (.ref u))(I1:af J (.ref u) (.int (k-1))=some (.inst "LineUnit" u1))(C1:bS (a_T P) J (.inst "LineUnit" u1) "code"=some (.int cd))(DA:cU P n J "data" (.inst "Data" D))(DM:bd (a_T P) J (.inst "Data" D) "get"=some (.fn "Data"))(EP:cP P d "Data" "get" [.inst "Data" D,.str "ep",.int cd] [] J (.bool ep) J)(GC:cP P d "Data" "get" [.inst "Data" D,.str "gc",.int cd] [] J (.str g) J)(HOW:cU P n J "how" (.inst "LineHow" h))(KA:bS (a_T P) J (.inst "LineHow" h) "keep_all"=some (.bool ka)):bg P (d+1) n J "line_rule_pictures" k (m8 a b g r ep ka):=by
 unfold be at hm;unfold aF at W1 W0;unfold cU at RE U;unfold cU at DA HOW;unfold bg;exact ag (dD P) ([V.inst (Str.ofString "LineView") n,V.int k]) (fun z=>(zK hm (zD W1 (zK hm (zD W0 (zV RE (zV RI (zW J (zW J (zM (fun p170=>(z0 (zE J ((xT p170 rfl):m8 a b g r ep ka=_))).R) (fun p170=>(zM (fun p276=>(zV U (zV I1 (zV C1 (zV DA (zK DM (zD EP (zV DA (zK DM (zD GC (zW J (zW J (zM (fun p456=>(z0 (zE J ((xF p170 (xT p276 (xT p456 rfl))):m8 a b g r ep ka=_))).R) (fun p456=>(zV HOW (zV KA (zW J (zW J (zM (fun p726=>(z0 (zE J ((xF p170 (xT p276 (xF p456 (xT p726 rfl)))):m8 a b g r ep ka=_))).R) (fun p726=>z0 (zE J ((xF p170 (xT p276 (xF p456 (xF p726 rfl)))):m8 a b g r ep ka=_)))))).C.O.C.O)).R.R)))).C))).R.R.O))).R.R.O.C)).C).R.R.R) (fun p276=>(zV HOW (zV KA (zW J (zW J (zM (fun p369=>(z0 (zE J ((xF p170 (xF p276 (xT p369 rfl))):m8 a b g r ep ka=_))).R) (fun p369=>z0 (zE J ((xF p170 (xF p276 (xF p369 rfl))):m8 a b g r ep ka=_)))))).C.O.C.O)).R.R)).C)))).C.C).C).R.O.C.O.C.R)).R).C).R.R)
end
section
variable{P:Params}{d n h D:Nat}{J:Hp}{k:Int}
theorem NO{v1 v2 v3 v4 v5 v6 v7 v8 v9 v10 v11 v12 v13:V}{b1 b2 b3 b4 b5 b6 b7 b8 b9 b10 b11 b12 b13:Bool}(R1:bg P d n J "line_rule_hard" k v1)(R2:bg P d n J "line_rule_spaces" k v2)(R3:bg P d n J "line_rule_glue" k v3)(R4:bg P d n J "line_rule_closing" k v4)(R5:bg P d n J "line_rule_quotes" k v5)(R6:bg P d n J "line_rule_over_spaces" k v6)(R7:bg P d n J "line_rule_signs" k v7)(R8:bg P d n J "line_rule_letters" k v8)(R9:bg P d n J "line_rule_numbers" k v9)(R10:bg P d n J "line_rule_syllables" k v10)(R11:bg P d n J "line_rule_aksaras" k v11)(R12:bg P d n J "line_rule_brackets" k v12)(R13:bg P d n J "line_rule_pictures" k v13)(T1:bR J v1=some b1)(T2:bR J v2=some b2)(T3:bR J v3=some b3)(T4:bR J v4=some b4)(T5:bR J v5=some b5)(T6:bR J v6=some b6)(T7:bR J v7=some b7)(T8:bR J v8=some b8)(T9:bR J v9=some b9)(T10:bR J v10=some b10)(T11:bR J v11=some b11)(T12:bR J v12=some b12)(T13:bR J v13=some b13):
 bg P (d+1) n J "line_verdict" k (cond b1 v1 (cond b2 v2 (cond b3 v3 (cond b4 v4 (cond b5 v5 (cond b6 v6 (cond b7 v7 (cond b8 v8 (cond b9 v9 (cond b10 v10 (cond b11 v11 (cond b12 v12 (cond b13 v13 (jO "LB31")))))))))))))):=by
 unfold bg at R1 R2 R3 R4 R5 R6 R7 R8 R9 R10 R11 R12 R13;unfold bg
 exact ag (fL P) ([V.inst (Str.ofString "LineView") n,V.int k]) (fun z=>(zD R1 (zB T1 (fun p12=>(zT (UM T1 (Tx some p12)) (zT (UM T1 (Tx some p12)) (zT (UM T1 (Tx some p12)) (zT (UM T1 (Tx some p12)) (z0 (zE J ((xT p12 rfl):(bif b1 then v1 else bif b2 then v2 else bif b3 then v3 else bif b4 then v4 else bif b5 then v5 else bif b6 then v6 else bif b7 then v7 else bif b8 then v8 else bif b9 then v9 else bif b10 then v10 else bif b11 then v11 else bif b12 then v12 else bif b13 then v13 else jO (Str.ofString "LB31"))=_))))).R).R).R) (fun p12=>(zD R2 (zB T2 (fun p33=>(zT (UM T2 (Tx some p33)) (zT (UM T2 (Tx some p33)) (zT (UM T2 (Tx some p33)) (zT (UM T2 (Tx some p33)) (z0 (zE J ((xF p12 (xT p33 rfl)):(bif b1 then v1 else bif b2 then v2 else bif b3 then v3 else bif b4 then v4 else bif b5 then v5 else bif b6 then v6 else bif b7 then v7 else bif b8 then v8 else bif b9 then v9 else bif b10 then v10 else bif b11 then v11 else bif b12 then v12 else bif b13 then v13 else jO (Str.ofString "LB31"))=_))))).R).R).R) (fun p33=>(zD R3 (zB T3 (fun p57=>(zT (UM T3 (Tx some p57)) (zT (UM T3 (Tx some p57)) (zT (UM T3 (Tx some p57)) (z0 (zE J ((xF p12 (xF p33 (xT p57 rfl))):(bif b1 then v1 else bif b2 then v2 else bif b3 then v3 else bif b4 then v4 else bif b5 then v5 else bif b6 then v6 else bif b7 then v7 else bif b8 then v8 else bif b9 then v9 else bif b10 then v10 else bif b11 then v11 else bif b12 then v12 else bif b13 then v13 else jO (Str.ofString "LB31"))=_))))).R).R) (fun p57=>(zD R4 (zB T4 (fun p78=>(zT (UM T4 (Tx some p78)) (zT (UM T4 (Tx some p78)) (zT (UM T4 (Tx some p78)) (z0 (zE J ((xF p12 (xF p33 (xF p57 (xT p78 rfl)))):(bif b1 then v1 else bif b2 then v2 else bif b3 then v3 else bif b4 then v4 else bif b5 then v5 else bif b6 then v6 else bif b7 then v7 else bif b8 then v8 else bif b9 then v9 else bif b10 then v10 else bif b11 then v11 else bif b12 then v12 else bif b13 then v13 else jO (Str.ofString "LB31"))=_))))).R).R) (fun p78=>(zD R5 (zB T5 (fun p99=>(zT (UM T5 (Tx some p99)) (zT (UM T5 (Tx some p99)) (zT (UM T5 (Tx some p99)) (z0 (zE J ((xF p12 (xF p33 (xF p57 (xF p78 (xT p99 rfl))))):(bif b1 then v1 else bif b2 then v2 else bif b3 then v3 else bif b4 then v4 else bif b5 then v5 else bif b6 then v6 else bif b7 then v7 else bif b8 then v8 else bif b9 then v9 else bif b10 then v10 else bif b11 then v11 else bif b12 then v12 else bif b13 then v13 else jO (Str.ofString "LB31"))=_))))).R).R) (fun p99=>(zD R6 (zB T6 (fun p123=>(zT (UM T6 (Tx some p123)) (zT (UM T6 (Tx some p123)) (z0 (zE J ((xF p12 (xF p33 (xF p57 (xF p78 (xF p99 (xT p123 rfl)))))):(bif b1 then v1 else bif b2 then v2 else bif b3 then v3 else bif b4 then v4 else bif b5 then v5 else bif b6 then v6 else bif b7 then v7 else bif b8 then v8 else bif b9 then v9 else bif b10 then v10 else bif b11 then v11 else bif b12 then v12 else bif b13 then v13 else jO (Str.ofString "LB31"))=_))))).R) (fun p123=>(zD R7 (zB T7 (fun p144=>(zT (UM T7 (Tx some p144)) (zT (UM T7 (Tx some p144)) (z0 (zE J ((xF p12 (xF p33 (xF p57 (xF p78 (xF p99 (xF p123 (xT p144 rfl))))))):(bif b1 then v1 else bif b2 then v2 else bif b3 then v3 else bif b4 then v4 else bif b5 then v5 else bif b6 then v6 else bif b7 then v7 else bif b8 then v8 else bif b9 then v9 else bif b10 then v10 else bif b11 then v11 else bif b12 then v12 else bif b13 then v13 else jO (Str.ofString "LB31"))=_))))).R) (fun p144=>(zD R8 (zB T8 (fun p165=>(zT (UM T8 (Tx some p165)) (zT (UM T8 (Tx some p165)) (z0 (zE J ((xF p12 (xF p33 (xF p57 (xF p78 (xF p99 (xF p123 (xF p144 (xT p165 rfl)))))))):(bif b1 then v1 else bif b2 then v2 else bif b3 then v3 else bif b4 then v4 else bif b5 then v5 else bif b6 then v6 else bif b7 then v7 else bif b8 then v8 else bif b9 then v9 else bif b10 then v10 else bif b11 then v11 else bif b12 then v12 else bif b13 then v13 else jO (Str.ofString "LB31"))=_))))).R) (fun p165=>(zD R9 (zB T9 (fun p189=>zT (UM T9 (Tx some p189)) (z0 (zE J ((xF p12 (xF p33 (xF p57 (xF p78 (xF p99 (xF p123 (xF p144 (xF p165 (xT p189 rfl))))))))):(bif b1 then v1 else bif b2 then v2 else bif b3 then v3 else bif b4 then v4 else bif b5 then v5 else bif b6 then v6 else bif b7 then v7 else bif b8 then v8 else bif b9 then v9 else bif b10 then v10 else bif b11 then v11 else bif b12 then v12 else bif b13 then v13 else jO (Str.ofString "LB31"))=_)))) (fun p189=>(zD R10 (zB T10 (fun p211=>zT (UM T10 (Tx some p211)) (z0 (zE J ((xF p12 (xF p33 (xF p57 (xF p78 (xF p99 (xF p123 (xF p144 (xF p165 (xF p189 (xT p211 rfl)))))))))):(bif b1 then v1 else bif b2 then v2 else bif b3 then v3 else bif b4 then v4 else bif b5 then v5 else bif b6 then v6 else bif b7 then v7 else bif b8 then v8 else bif b9 then v9 else bif b10 then v10 else bif b11 then v11 else bif b12 then v12 else bif b13 then v13 else jO (Str.ofString "LB31"))=_)))) (fun p211=>(zD R11 (zB T11 (fun p234=>zT (UM T11 (Tx some p234)) (z0 (zE J ((xF p12 (xF p33 (xF p57 (xF p78 (xF p99 (xF p123 (xF p144 (xF p165 (xF p189 (xF p211 (xT p234 rfl))))))))))):(bif b1 then v1 else bif b2 then v2 else bif b3 then v3 else bif b4 then v4 else bif b5 then v5 else bif b6 then v6 else bif b7 then v7 else bif b8 then v8 else bif b9 then v9 else bif b10 then v10 else bif b11 then v11 else bif b12 then v12 else bif b13 then v13 else jO (Str.ofString "LB31"))=_)))) (fun p234=>(zD R12 (zB T12 (fun p257=>z0 (zE J ((xF p12 (xF p33 (xF p57 (xF p78 (xF p99 (xF p123 (xF p144 (xF p165 (xF p189 (xF p211 (xF p234 (xT p257 rfl)))))))))))):(bif b1 then v1 else bif b2 then v2 else bif b3 then v3 else bif b4 then v4 else bif b5 then v5 else bif b6 then v6 else bif b7 then v7 else bif b8 then v8 else bif b9 then v9 else bif b10 then v10 else bif b11 then v11 else bif b12 then v12 else bif b13 then v13 else jO (Str.ofString "LB31"))=_))) (fun p257=>(zD R13 (zB T13 (fun p280=>z0 (zE J ((xF p12 (xF p33 (xF p57 (xF p78 (xF p99 (xF p123 (xF p144 (xF p165 (xF p189 (xF p211 (xF p234 (xF p257 (xT p280 rfl))))))))))))):(bif b1 then v1 else bif b2 then v2 else bif b3 then v3 else bif b4 then v4 else bif b5 then v5 else bif b6 then v6 else bif b7 then v7 else bif b8 then v8 else bif b9 then v9 else bif b10 then v10 else bif b11 then v11 else bif b12 then v12 else bif b13 then v13 else jO (Str.ofString "LB31"))=_))) (fun p280=>(z0 (zE J ((xF p12 (xF p33 (xF p57 (xF p78 (xF p99 (xF p123 (xF p144 (xF p165 (xF p189 (xF p211 (xF p234 (xF p257 (xF p280 rfl))))))))))))):(bif b1 then v1 else bif b2 then v2 else bif b3 then v3 else bif b4 then v4 else bif b5 then v5 else bif b6 then v6 else bif b7 then v7 else bif b8 then v8 else bif b9 then v9 else bif b10 then v10 else bif b11 then v11 else bif b12 then v12 else bif b13 then v13 else jO (Str.ofString "LB31"))=_))).R))).R))).R))).R))).R)).R).R))).R))).R)).R).R))).R))).R)).R).R))).R))).R.R)
end
structure ay where
 w:Str
 code:Int
 at':Int
 j:Bool
noncomputable abbrev kE(u:ay):ab:=.dict [("word",.str u.w),("code",.int u.code),("at",.int u.at'),("is_joined",.bool u.j)]
section
variable{P:Params}{d n h D u m so nu:Nat}{J:Hp}{p q N cd:Int}{w g e kd:Str}{b:Bool}{ws:List V}
noncomputable abbrev UnF(P:Params)(J:Hp)(u:Nat)(p:Int)(m:Nat):Prop:=af J (.ref u) (.int p)=some (.inst "LineUnit" m)
noncomputable abbrev UW(P:Params)(J:Hp)(m:Nat)(w:Str):Prop:=bS (a_T P) J (.inst "LineUnit" m) "word"=some (.str w)
noncomputable abbrev UC(P:Params)(J:Hp)(m:Nat)(c:Int):Prop:=bS (a_T P) J (.inst "LineUnit" m) "code"=some (.int c)
noncomputable abbrev kI(P:Params)(d D:Nat)(J:Hp)(n:Str)(c:Int)(v:V):Prop:=cP P d "Data" "get" [.inst "Data" D,.str n,.int c] [] J v J
theorem NP(U:cU P n J "units" (.ref u))(L:biI true "len" [.ref u] J=some (.int N,J))(d1:decide (0<=p)=true)(d2:decide (p<N)=true)(I:UnF P J u p m)(W:UW P J m w):aF P (d+1) n J p w:=by unfold cU at U;unfold aF;exact ag (cQ P) ([V.inst (Str.ofString "LineView") n,V.int p]) (fun z=>(zH d1 (zV U (zP L (zH d2 (zV U (zV I (zV W (z0 z)))).R.R).C)).R.R).C)
theorem NQ(d1:decide (0<=p)=false):aF P (d+1) n J p "":=by unfold aF;exact ag (cQ P) ([V.inst (Str.ofString "LineView") n,V.int p]) (fun z=>(zH d1 (zH d1 (z0 z))).C)
theorem NR(U:cU P n J "units" (.ref u))(L:biI true "len" [.ref u] J=some (.int N,J))(d1:decide (0<=p)=true)(d2:decide (p<N)=false):aF P (d+1) n J p "":=by unfold cU at U;unfold aF;exact ag (cQ P) ([V.inst (Str.ofString "LineView") n,V.int p]) (fun z=>(zH d1 (zV U (zP L (zH d2 (z0 z)).C)).R.R).C)
theorem NS(hm:be P n J "word")(S:cU P n J "solid" (.ref so))(I:af J (.ref so) (.int p)=some (.int q))(W:aF P d n J q w):uM P (d+1) n J p w:=by unfold cU at S;unfold be at hm;unfold aF at W;unfold uM;exact ag (di P) ([V.inst (Str.ofString "LineView") n,V.int p]) (fun z=>(zK hm (zV S (zV I (zD W (z0 z)))).R).R)
theorem P5(hm:be P n J "word")(W:aF P d n J p w)(hw:(w==("QU":Str))=false):uN P (d+1) n J p kd false:=by unfold be at hm;unfold aF at W;unfold uN;exact ag (cH P) ([V.inst (Str.ofString "LineView") n,V.int p,V.str kd]) (fun z=>(zK hm (zD W (zH hw (z0 (zE J ((Tx V.bool (Ul hw)):(V.bool false)=_)))).C)).R)
theorem P6(hm:be P n J "word")(W:aF P d n J p w)(hw:(w==("QU":Str))=true)(DA:cU P n J "data" (.inst "Data" D))(DM:bd (a_T P) J (.inst "Data" D) "get"=some (.fn "Data"))(U:cU P n J "units" (.ref u))(I:UnF P J u p m)(C:UC P J m cd)(G:kI P d D J "gc" cd (.str g)):uN P (d+1) n J p kd (g==kd):=by unfold be at hm;unfold aF at W;unfold cU at DA U;unfold kI at G;unfold uN;exact ag (cH P) ([V.inst (Str.ofString "LineView") n,V.int p,V.str kd]) (fun z=>(zK hm (zD W (zH hw (zV DA (zK DM (zV U (zV I (zV C (zD G (z0 z).C)))).R.R)).R.R).C)).R)
theorem P7(DA:cU P n J "data" (.inst "Data" D))(DM:bd (a_T P) J (.inst "Data" D) "get"=some (.fn "Data"))(U:cU P n J "units" (.ref u))(I:UnF P J u p m)(C:UC P J m cd)(G:kI P d D J "ea" cd (.str e)):yu P (d+1) n J p (!inS e ["F","W","H"]):=by unfold cU at DA U;unfold kI at G;unfold yu;exact ag (dB P) ([V.inst (Str.ofString "LineView") n,V.int p]) (fun z=>(zV DA (zK DM (zV U (zV I (zV C (zD G (z0 z).C)))).R.R)).R.R)
theorem P8(d1:decide (0<=p)=false):cP P (d+1) "" "line_is_number" [.inst "LineView" n,.int p] [] J (.bool false) J:=by exact ag (dy P) ([V.inst (Str.ofString "LineView") n,V.int p]) (fun z=>(zH d1 (z0 (zE J ((Tx V.bool (Ul d1)):(V.bool false)=_)))).C)
theorem P9(d1:decide (0<=p)=true)(S:cU P n J "numeric" (.ref nu))(I:af J (.ref nu) (.int p)=some (.bool b)):cP P (d+1) "" "line_is_number" [.inst "LineView" n,.int p] [] J (.bool b) J:=by unfold cU at S;exact ag (dy P) ([V.inst (Str.ofString "LineView") n,V.int p]) (fun z=>(zH d1 (zV S (zV I (z0 z))).R).C)
theorem Qa(d1:decide (0<=p)=false):m9 P (d+1) n J p ws false:=by unfold m9;exact ag (cA P) ([V.inst (Str.ofString "LineView") n,V.int p,V.tup ws]) (fun z=>(zH d1 (zH (nF d1) (z0 z)).C).C)
theorem Qb(U:cU P n J "units" (.ref u))(L:biI true "len" [.ref u] J=some (.int N,J))(d1:decide (0<=p)=true)(d2:decide (p<N)=false):m9 P (d+1) n J p ws false:=by unfold cU at U;unfold m9;exact ag (cA P) ([V.inst (Str.ofString "LineView") n,V.int p,V.tup ws]) (fun z=>(zH d1 (zV U (zP L (zH (nF d2) (z0 z)).C.C)).R.R).C)
theorem Qc(U:cU P n J "units" (.ref u))(L:biI true "len" [.ref u] J=some (.int N,J))(d1:decide (0<=p)=true)(d2:decide (p<N)=true)(I:UnF P J u p m)(W:UW P J m w)(C:UC P J m cd)(B:bA J .In (.str w) (.tup ws)=some b):m9 P (d+1) n J p ws (b||(cd==9676)):=by unfold cU at U;unfold m9;exact ag (cA P) ([V.inst (Str.ofString "LineView") n,V.int p,V.tup ws]) (fun z=>(zH d1 (zV U (zP L (zH (nT d2) (zV U (zV I (zV W (zT B (zV U (zV I (zV C (zW J (z0 z)).C))).R.R.O)))).R.R).C.C)).R.R).C)
end
noncomputable def isR:V->Bool
 |.none=>false
 |_=>true
noncomputable def wK(v:V):Prop:=∀J,bR J v=some (isR v)
theorem jP:wK .none:=fun _=>rfl
theorem dn{a b:Str}:wK (.tup [.str a,.str b]):=fun _=>rfl
theorem cL{t:Bool}{p q:V}(h1:wK p)(h2:wK q):wK (cond t p q):=by cases t;exact h2;exact h1
noncomputable def eF:List V->V
 |[]=>jO "LB31"
 |v::r=>cond (isR v) v (eF r)
structure VD where
 us:List ay
 sol:List Int
 reg:List Int
 num:List Bool
 gc:Int->Str
 ea:Int->Str
 ep:Int->Bool
 st:Str
 nm:Str
 ka:Bool
noncomputable def bM(W:VD)(p:Int):ay:=W.us.getD p.toNat ⟨"",0,0,false⟩
noncomputable def inR(W:VD)(p:Int):Bool:=decide (0<=p)&&decide (p<W.us.length)
def aV(W:VD)(p:Int):Str:=cond (inR W p) (bM W p).w ""
noncomputable def jr(W:VD)(p:Int):Int:=W.sol.getD p.toNat 0
def uO(W:VD)(p:Int)(kd:Str):Bool:=(aV W p=="QU")&&(W.gc (bM W p).code==kd)
def yw(W:VD)(p:Int):Bool := !inS (W.ea (bM W p).code) ["F","W","H"]
noncomputable def wL(W:VD)(p:Int):Bool:=decide (0<=p)&&W.num.getD p.toNat false
def nc(W:VD)(p:Int)(ws:List Str):Bool:=inR W p&&(inS (bM W p).w ws||((bM W p).code==9676))
def Qd(W:VD)(k:Int):V:=gC (aV W (k-1)) (aV W k) (aV W (k+1)) (wL W (k-1)) (wL W (k-2))
def rn(W:VD)(k:Int):V:=eF [
 lx (aV W (k-1)) (aV W k),
 gv (aV W k) (aV W (jr W (k-1))) (bM W (k-1)).j,
 kD (aV W (k-1)) (aV W k),
 dF (aV W (k-1)) (aV W k) (aV W (jr W (k-1))) W.nm,
 fT (uO W (jr W (k-1)) "Pi") (uO W k "Pf") (jr W (k-1)) k W.us.length (aV W (jr W (k-1)-1)) (aV W (k+1)),
 mC (aV W (k-1)) (aV W k) (aV W (jr W (k-1))),
 gm (aV W (k-1)) (aV W k) (aV W (k-2)) W.st,
 dG (aV W (k-1)) (aV W k),
 dX (aV W (k-1)) (aV W k) W.nm (Qd W k),
 o8 (aV W (k-1)) (aV W k),
 rm (aV W (k-1)) (aV W k) (aV W (k+1)) (nc W (k-1) ["AK","AS"]) (nc W k ["AK","AS"]) (nc W (k-2) ["AK","AS"]) (nc W k ["AK"]),
 o9 (aV W (k-1)) (aV W k) (yw W k) (yw W (k-1)),
 m8 (aV W (k-1)) (aV W k) (W.gc (bM W (k-1)).code) (W.reg.getD (k-1).toNat 0) (W.ep (bM W (k-1)).code) W.ka]
structure yx(P:Params)(J:Hp)(n u so re nu h D:Nat)(W:VD):Prop where
 mW:be P n J "word"
 mS:be P n J "solid_word"
 mQ:be P n J "is_quote"
 mN:be P n J "is_narrow"
 U:cU P n J "units" (.ref u)
 L:biI true "len" [.ref u] J=some (.int W.us.length,J)
 I:∀i:Nat,i<W.us.length->∃m,UnF P J u i m/\UW P J m (bM W i).w/\UC P J m (bM W i).code/\bS (a_T P) J (.inst "LineUnit" m) "is_joined"=some (.bool (bM W i).j)
 HOW:cU P n J "how" (.inst "LineHow" h)
 NM:bS (a_T P) J (.inst "LineHow" h) "numbers"=some (.str W.nm)
 ST:bS (a_T P) J (.inst "LineHow" h) "strictness"=some (.str W.st)
 KA:bS (a_T P) J (.inst "LineHow" h) "keep_all"=some (.bool W.ka)
 SO:cU P n J "solid" (.ref so)
 SI:∀i:Nat,i<W.us.length->af J (.ref so) (.int i)=some (.int (jr W i)) /\ -1<=jr W i/\jr W i<=i
 RE:cU P n J "regional" (.ref re)
 RI:∀i:Nat,i<W.us.length->af J (.ref re) (.int i)=some (.int (W.reg.getD i 0))
 NU:cU P n J "numeric" (.ref nu)
 NI:∀i:Nat,i<W.us.length->af J (.ref nu) (.int i)=some (.bool (W.num.getD i false))
 DA:cU P n J "data" (.inst "Data" D)
 DM:bd (a_T P) J (.inst "Data" D) "get"=some (.fn "Data")
 Ggc:∀(d i:Nat),i<W.us.length->kI P (d+4) D J "gc" (bM W i).code (.str (W.gc (bM W i).code))
 Gea:∀(d i:Nat),i<W.us.length->kI P (d+4) D J "ea" (bM W i).code (.str (W.ea (bM W i).code))
 Gep:∀(d i:Nat),i<W.us.length->kI P (d+4) D J "ep" (bM W i).code (.bool (W.ep (bM W i).code))
theorem uP{W:VD}{p:Int}(h:inR W p=true):∃i:Nat,p=i/\i<W.us.length:=by unfold inR at h;rw[TC,Um,Um]at h;exact⟨p.toNat,VN (ar1 [_] [_] 513 118230552 (Ax (a:=p) (ar1 [] [_] 513 795400 h.1 art)) art) (ar1 [_] [_] 513 809001072 (qI (a:=p) (ar1 [] [_] 513 795400 h.1 art)) art),ar2 [_,_] [_] 262656 577922831685780792 (qI (a:=p) (ar1 [] [_] 513 795400 h.1 art)) h.2 art⟩
section
variable{P:Params}{J:Hp}{n u so re nu h D:Nat}{W:VD}(A:yx P J n u so re nu h D W)
include A
theorem hU{d:Nat}(p:Int):aF P (d+1) n J p (aV W p):=by
 unfold aV;cases hr:inR W p with
 |true=>refine ae (uP hr) ?_;rintro i rfl hi;refine cG (A.I i hi) ?_;rintro m h1 h2 _;exact NP A.U A.L (To (TM _)) (To (UF.mpr ‹_›)) h1 h2
 |false=>
  by_cases h0:0<=p
  .refine NR A.U A.L (To h0) (Tz fun h1=>?_);unfold inR at hr;rw[To h0,To h1]at hr;cases hr
  .exact NQ (Tz h0)
theorem Qe{d:Nat}{i:Nat}(hi:i<W.us.length):uM P (d+2) n J i (aV W (jr W i)):=NS A.mW A.SO (A.SI i hi).1 (hU A _)
theorem KW{d:Nat}(p:Int)(kd:Str):uN P (d+5) n J p kd (uO W p kd):=by
 unfold uO;cases hw:aV W p==("QU":Str)with
 |false=>exact P5 A.mW (hU A _) hw
 |true=>
  have hr:inR W p=true:=by
   cases hr:inR W p with|true=>rfl|false=>unfold aV at hw;rw[hr]at hw;cases hw
  refine ae (uP hr) ?_;rintro i rfl hi;refine jE (A.I i hi) ?_;rintro m h1 h2 h3 _;exact P6 A.mW (hU A _) hw A.DA A.DM A.U h1 h3 (A.Ggc _ i hi)
theorem KY{d i:Nat}(hi:i<W.us.length):yu P (d+5) n J i (yw W i):=by refine jE (A.I i hi) ?_;rintro m h1 h2 h3 _;exact P7 A.DA A.DM A.U h1 h3 (A.Gea _ i hi)
theorem KZ{d:Nat}{p:Int}(hp:p<W.us.length):cP P (d+1) "" "line_is_number" [.inst "LineView" n,.int p] [] J (.bool (wL W p)) J:=by
 unfold wL;cases h0:decide (0<=p)with
 |false=>exact P8 h0
 |true=>obtain⟨i,rfl⟩:∃i:Nat,p=i:=⟨p.toNat,by have:=TH h0;exact(Vk ‹_›).symm⟩;exact P9 h0 A.NU (A.NI i (UF.mp ‹_›))
theorem zX{d:Nat}(p:Int)(ws:List Str):m9 P (d+1) n J p (ws.map .str) (nc W p ws):=by
 unfold nc;cases hr:inR W p with
 |true=>refine ae (uP hr) ?_;rintro i rfl hi;refine jE (A.I i hi) ?_;rintro m h1 h2 h3 _;exact Qc A.U A.L (To (TM _)) (To (UF.mpr ‹_›)) h1 h2 h3 zU
 |false=>
  by_cases h0:0<=p
  .refine Qb A.U A.L (To h0) (Tz fun h1=>?_);unfold inR at hr;rw[To h0,To h1]at hr;cases hr
  .exact Qa (Tz h0)
theorem BI{d i:Nat}(hi:i+1<W.us.length):bg P (d+7) n J "line_verdict" (i+1:Nat) (rn W (i+1:Nat)):=by
 obtain⟨k,rfl⟩:∃k:Int,((i+1:Nat):Int)=k:=⟨_,rfl⟩;have e1:((i:Nat):Int)=((i+1:Nat):Int)-1:=are [_] [] 1 78485176432 art art;have e2:((i+1:Nat):Int)-1<W.us.length:=ar1 [_,_] [] 1 133454205220429174703408 hi art;have e3:((i+1:Nat):Int)-2<W.us.length:=ar1 [_,_] [] 513 139936877873807887755658757424 e2 art;have hi0:i<W.us.length:=TV ‹_›;refine jE (A.I i hi0) ?_;rintro m h1 h2 h3 h4;have S1:=Qe A (d:=d+3) hi0;have SI:=(A.SI i hi0).1;have RI:=A.RI i hi0;have GC:=A.Ggc (d+1) i hi0;have EP:=A.Gep (d+1) i hi0;have N1:=KY A (d:=d) hi0;rw[e1]at S1 SI RI GC EP N1 h1 h2 h3 h4;have W1:=hU A (d:=d+4) (((i+1:Nat):Int)-1);have W0:=hU A (d:=d+4) ((i+1:Nat):Int);have W2:=hU A (d:=d+4) (((i+1:Nat):Int)-2);have Wn:=hU A (d:=d+4) (((i+1:Nat):Int)+1);have RI:af J (.ref re) (.int (((i+1:Nat):Int)-1))=some (.int (W.reg.getD (((i+1:Nat):Int)-1).toNat 0)):=by rw[<-e1];rw[<-e1]at RI;exact RI
 exact NO (d:=d+6) (NH A.mW W1 W0) (EJ A.mW A.mS W0 S1 A.U h1 h4) (NK A.mW W1 W0) (BF A.mW A.mS W1 W0 S1 A.HOW A.NM)
  (EK A.mW A.mQ A.SO SI (KW A _ _) (hU A _) (KW A _ _) A.U A.L Wn) (NL A.mW A.mS W1 W0 S1) (Jz A.mW W1 W0 W2 A.HOW A.ST) (BG A.mW W1 W0)
  (BH A.mW W1 W0 A.HOW A.NM (NN A.mW (hU A (d:=d+3) _) (hU A (d:=d+3) _) (hU A (d:=d+3) _) (KZ A e2) (KZ A e3)))
  (P1 A.mW W1 W0) (P2 A.mW W1 W0 Wn (zX A _ ["AK","AS"]) (zX A _ ["AK","AS"]) (zX A _ ["AK","AS"]) (zX A _ ["AK"]))
  (P3 A.mW A.mN W1 W0 (KY A hi) N1) (P4 A.mW W1 W0 A.RE RI A.U h1 h3 A.DA A.DM EP GC A.HOW A.KA)
  (cL dn (cL dn (cL dn (cL dn jP))) _) (cL dn (cL dn (cL dn jP)) _) (cL dn (cL dn (cL dn jP)) _) (cL (cL dn (cL dn jP)) (cL dn jP) _)
  (cL dn (cL dn jP) _) (cL dn (cL dn (cL dn jP)) _) (cL dn (cL dn (cL dn (cL dn (cL dn (cL dn jP))))) _) (cL dn (cL dn (cL dn jP)) _)
  (cL (cL dn (cL (cL dn jP) (cL (cL (cL dn jP) (cL dn jP)) jP))) (cL dn jP) _) (cL dn (cL dn (cL dn jP)) _) (cL dn jP _) (cL dn (cL dn (cL dn jP)) _)
  (cL dn (cL (cL dn (cL dn jP)) (cL dn jP)) _)
end
noncomputable def fF(b m:Nat):List V:=(List.range m).map fun i=>V.inst "LineUnit" (b+i)
def uH(J:Hp)(us:List ay):Hp:=J++(.list (fF (J.length+1) us.length)::us.map kE)
theorem d3{b m:Nat}:(fF b m).length=m:=by unfold fF;rw[Tn,List.length_range]
theorem rp{b m:Nat}:fF b (m+1)=fF b m++[.inst "LineUnit" (b+m)]:=by unfold fF;rw[List.range_succ,TI];rfl
theorem ly{J:Hp}{us:List ay}:(uH J us).length=J.length+1+us.length:=by unfold uH;rw[Tm,Ug,Tn];exact are [_,_] [] 0 53920631137840 art art
theorem fU{J:Hp}{us:List ay}:(uH J us)[J.length]?=some (.list (fF (J.length+1) us.length)):=by unfold uH;rw[Uc (TB _),UB];rfl
theorem eK{J:Hp}{n:Nat}{c:ab}{H:Hp}(h:n=J.length){x:ab}:(J++x::H).set n c=J++c::H:=by subst h;rw[Uz _ _ (TB _),UB];rfl
theorem yy{J:Hp}{us:List ay}{u:ay}:(uH J us++[kE u]).set J.length (.list (fF (J.length+1) us.length++[.inst "LineUnit" (uH J us).length]))=uH J (us++[u]):=by rw[ly,<-rp];unfold uH;rw[Tl,V0,eK rfl,TI,Tm];rfl
theorem lW{J:Hp}{us:List ay}{i:Nat}{u:ay}(h:us[i]?=some u):(uH J us)[J.length+1+i]?=some (kE u):=by unfold uH;rw[Uc (by exact ar0 [_,_] [] 0 51422736 art),show J.length+1+i-J.length=i+1 by exact Ud (ar1 [_,_,_] [] 0 46812860794832432 (fp (n:=List.length J+1+i) (m:=List.length J) (ar0 [_,_] [] 0 51422736 art)) art) (ar1 [_,_,_] [] 0 649979649439860016 (iX (n:=List.length J+1+i) (m:=List.length J) (ar0 [_,_] [] 0 51422736 art)) art),List.getElem?_cons_succ,Ty,h];rfl
theorem hV{α:Type}{us:List α}{u:α}:(us++[u])[us.length]?=some u:=by rw[Uc (TB _),UB];rfl
theorem yz{J:Hp}{us:List ay}{u v:ay}:(uH J (us++[u])).set (J.length+1+us.length) (kE v)=uH J (us++[v]):=by
 unfold uH;rw[Uz _ _ (by exact ar0 [_,_] [] 0 51422736 art),show J.length+1+us.length-J.length=us.length+1 by exact Ud (ar1 [_,_,_] [] 0 46812860794832432 (fp (n:=List.length J+1+us.length) (m:=List.length J) (ar0 [_,_] [] 0 51422736 art)) art) (ar1 [_,_,_] [] 0 649979649439860016 (iX (n:=List.length J+1+us.length) (m:=List.length J) (ar0 [_,_] [] 0 51422736 art)) art),List.set_cons_succ,TI,TI,Tm,Tm,
  Uz _ _ (by rw[Tn];exact TB _),Tn,UB];rfl
theorem lX{xs:List V}{x:V}:gY (xs++[x]) (-1)=some x:=by
 have hs:aO (-1)=true:=by decide
 unfold gY;rw[if_pos hs];have:seqIndex? (-1) (xs++[x]).length=some xs.length:=by unfold seqIndex?;rw[Tm];simp;exact⟨⟨ar0 [_] [] 1 35739144488 art,ar0 [_] [] 1 1481122737317593225 art⟩,Ud (ar1 [_,_] [] 512 19704392023417968 (qI (a:=-1+(↑xs.length+1)) (ar0 [_] [] 1 35739144488 art)) art) (ar1 [_,_] [] 512 19707132137029769 (Ax (a:=-1+(↑xs.length+1)) (ar0 [_] [] 1 35739144488 art)) art)⟩
 rw[this];exact hV
theorem qy{J:Hp}{us:List ay}{u:ay}:af (uH J (us++[u])) (.ref J.length) (.int (-1))=some (.inst "LineUnit" (J.length+1+us.length)):=by show els (bF _ _) _ _=_;rw[cq fU,Tm,List.length_singleton,rp];exact lX
theorem yB{J:Hp}{c:Nat}{xs:List V}(h:J[c]?=some (.list xs)):bA J .Eq (.ref c) (.lst [])=some (xs.length==0):=by show els (a7 _ _) _ _=_;rw[cp h];cases xs<;>rfl
theorem aN{H:Hp}{c:ab}:(H++[c])[H.length]?=some c:=hV
abbrev luC(P:Params):cF:=((a_T P).cls.lookup ("LineUnit":Str)).getD ⟨[],[]⟩
theorem gw{T:Tab}{H:Hp}{c a:Str}{es:List (Str×V)}{v:V}(cd:cF)(h1:T.cls.lookup c=some cd)(h2:cd.attrs.contains a=true)(h3:es.length<900):cY T (H++[.dict es]) (.inst c H.length) a v=some (H++[.dict (em a v es)]):=by rw[dU cd aN h1 h2 h3,eK rfl]
section
variable{P:Params}{d D h:Nat}{J H:Hp}{w:Str}{c i:Int}{us:List ay}{u:ay}
theorem pe:cP P (d+1) "LineUnit" "__init__" [.inst "LineUnit" H.length,.str w,.int c,.int i] [] (H++[.dict []]) .none (H++[kE ⟨w,c,i,false⟩]):=by have k1:cY (a_T P) (H++[.dict []]) (.inst "LineUnit" H.length) "word" (.str w)=some (H++[.dict [("word",.str w)]]):=gw (luC P) (by rfl') (by rfl') (by simp);have k2:cY (a_T P) (H++[.dict [("word",.str w)]]) (.inst "LineUnit" H.length) "code" (.int c)=some (H++[.dict [("word",.str w),("code",.int c)]]):=gw (luC P) (by rfl') (by rfl') (by simp);have k3:cY (a_T P) (H++[.dict [("word",.str w),("code",.int c)]]) (.inst "LineUnit" H.length) "at" (.int i)=some (H++[.dict [("word",.str w),("code",.int c),("at",.int i)]]):=gw (luC P) (by rfl') (by rfl') (by simp);have k4:cY (a_T P) (H++[.dict [("word",.str w),("code",.int c),("at",.int i)]]) (.inst "LineUnit" H.length) "is_joined" (.bool false)=some (H++[kE ⟨w,c,i,false⟩]):=gw (luC P) (by rfl') (by rfl') (by simp);exact ag (eO P) ([V.inst (Str.ofString "LineUnit") (List.length H),V.str w,V.int c,V.int i]) (fun z=>(zS k1 (zS k2 (zS k3 (zS k4 (z0 z)).R).R).R).R)
abbrev unS(P:Params):Stmt:=db 1 (fe P).body
noncomputable abbrev unL(t:V)(D h F:Nat)(o1 o2 o3:Option V):Loc:=[("text",.v (some t)),("data",.v (some (.inst "Data" D))),("how",.v (some (.inst "LineHow" h))),("found",.v (some (.ref F))),("at",.v o1),("code",.v o2),("word",.v o3),("enumerate",.g),("line_class",.g),("LINE_MARKS",.g),("LineUnit",.g),("LINE_BARE",.g)]
noncomputable abbrev rq(P:Params)(d D h:Nat)(J:Hp)(c:Int)(w:Str):Prop:=cP P d "" "line_class" [.int c,.inst "Data" D,.inst "LineHow" h] [] J (.str w) J
noncomputable abbrev rt(P:Params)(d:Nat)(x:V)(loc:Loc)(J:Hp)(f:Fl)(l:Loc)(s:Hp):Prop:=eZ (aJ P d (bf (unS P))) (av P d (bj (unS P))) x loc J f l s
variable{t:V}{o1 o2 o3:Option V}
abbrev ge(w:Str):Bool:=inS w ["CM","ZWJ"]
abbrev kF(w:Str):Bool:=inS w ["BK","CR","LF","NL","SP","ZW"]
theorem Rl(hl:us.length<=1000)(C:rq P (d+1) D h (uH J us) c w)(m:ge w=false):
 rt P (d+1) (.tup [.int i,.int c]) (unL t D h J.length o1 o2 o3) (uH J us) .cont (unL t D h J.length (some (.int i)) (some (.int c)) (some (.str w))) (uH J (us++[⟨w,c,i,false⟩])):=by
 intro k hk;have k1:=aM (T:=a_T P) (fU (J:=J) (us:=us));have k2:=pe (P:=P) (d:=d) (H:=uH J us) (w:=w) (c:=c) (i:=i);have e1:(uH J us++[kE ⟨w,c,i,false⟩])[J.length]?=some (.list (fF (J.length+1) us.length)):=by rw[TL (by rw[ly];exact ar0 [_,_] [] 0 52656866608 art)];exact fU
 have k3:=dz (x:=.inst "LineUnit" (uH J us).length) e1 (ar (by rw[d3];exact Tk ‹_› (by decide)));rw[yy]at k3;exact aw (zR (zR (zD C (zC (zH (nF m) (zQ (zR (zK k1 (zR (zN k2 (zP k3 (z0 hk))))))))))))
theorem Rm(C:rq P (d+1) D h (uH J []) c w)(m:ge w=true):
 rt P (d+1) (.tup [.int i,.int c]) (unL t D h J.length o1 o2 o3) (uH J []) .next (unL t D h J.length (some (.int i)) (some (.int c)) (some (.str w))) (uH J [⟨"AL",c,i,w=="ZWJ"⟩]):=by
 intro k hk;have k1:=aM (T:=a_T P) (fU (J:=J) (us:=[]));have k2:=pe (P:=P) (d:=d) (H:=uH J []) (w:="AL") (c:=c) (i:=i);have e1:(uH J []++[kE ⟨"AL",c,i,false⟩])[J.length]?=some (.list (fF (J.length+1) 0)):=by rw[TL (by rw[ly];exact ar0 [_] [] 0 42993190192 art)];exact fU
 have k3:=dz (x:=.inst "LineUnit" (uH J []).length) e1 (ar (by rw[d3];decide));rw[show fF (J.length+1) 0=fF (J.length+1) ([]:List ay).length from rfl,yy]at k3;have k4:=qy (J:=J) (us:=[]) (u:=⟨"AL",c,i,false⟩);have k5:bA (uH J []) .Eq (.ref J.length) (.lst [])=some true:=yB fU;have k6:cY (a_T P) (uH J ([]++[⟨"AL",c,i,false⟩])) (.inst "LineUnit" (J.length+1+([]:List ay).length)) "is_joined" (.bool (w=="ZWJ"))=some (uH J [⟨"AL",c,i,w=="ZWJ"⟩]):=by rw[dU (luC P) (lW hV) (by rfl') (by rfl') (by simp)];exact Tx some (yz (us:=[]) (u:=⟨"AL",c,i,false⟩) (v:=⟨"AL",c,i,w=="ZWJ"⟩))
 exact aw (zR (zR (zD C (zC (zH (nT m) (zR (zT k5 (z1 (z1 (zQ (zR (zK k1 (zR (zN k2 (zP k3 (zR (zC (zC (zV k4 (zS k6 (z0 hk)))))))))))))))))))))
theorem Rn(hl:us.length<=1000)(C:rq P (d+1) D h (uH J (us++[u])) c w)(m:ge w=true)(b:kF u.w=true):
 rt P (d+1) (.tup [.int i,.int c]) (unL t D h J.length o1 o2 o3) (uH J (us++[u])) .next (unL t D h J.length (some (.int i)) (some (.int c)) (some (.str w))) (uH J (us++[u]++[⟨"AL",c,i,w=="ZWJ"⟩])):=by
 intro k hk;have k1:=aM (T:=a_T P) (fU (J:=J) (us:=us++[u]));have k2:=pe (P:=P) (d:=d) (H:=uH J (us++[u])) (w:="AL") (c:=c) (i:=i);have e1:(uH J (us++[u])++[kE ⟨"AL",c,i,false⟩])[J.length]?=some (.list (fF (J.length+1) (us++[u]).length)):=by rw[TL (by rw[ly];exact ar0 [_,_] [] 0 52656866608 art)];exact fU
 have k3:=dz (x:=.inst "LineUnit" (uH J (us++[u])).length) e1 (ar (by rw[d3,Tm];simp;exact Tk ‹_› (by decide)));rw[yy]at k3;have k4:=qy (J:=J) (us:=us++[u]) (u:=⟨"AL",c,i,false⟩);have k5:bA (uH J (us++[u])) .Eq (.ref J.length) (.lst [])=some false:=by rw[yB fU,d3];simp
 have k6:cY (a_T P) (uH J (us++[u]++[⟨"AL",c,i,false⟩])) (.inst "LineUnit" (J.length+1+(us++[u]).length)) "is_joined" (.bool (w=="ZWJ"))=some (uH J (us++[u]++[⟨"AL",c,i,w=="ZWJ"⟩])):=by rw[dU (luC P) (lW hV) (by rfl') (by rfl') (by simp)];exact Tx some (yz (u:=⟨"AL",c,i,false⟩) (v:=⟨"AL",c,i,w=="ZWJ"⟩))
 have k7:=qy (J:=J) (us:=us) (u:=u);have k8:bS (a_T P) (uH J (us++[u])) (.inst "LineUnit" (J.length+1+us.length)) "word"=some (.str u.w):=ax (luC P) (lW hV) rfl rfl;exact aw (zR (zR (zD C (zC (zH (nT m) (zR (zT k5 (z2 (zR (zC (zV k7 (zV k8 (zC (zH b (zQ (zR (zK k1 (zR (zN k2 (zP k3 (zR (zC (zC (zV k4 (zS k6 (z0 hk))))))))))))))))))))))))))
theorem Ro(C:rq P (d+1) D h (uH J (us++[u])) c w)(m:ge w=true)(b:kF u.w=false):
 rt P (d+1) (.tup [.int i,.int c]) (unL t D h J.length o1 o2 o3) (uH J (us++[u])) .next (unL t D h J.length (some (.int i)) (some (.int c)) (some (.str w))) (uH J (us++[⟨u.w,u.code,u.at',w=="ZWJ"⟩])):=by
 intro k hk;have k5:bA (uH J (us++[u])) .Eq (.ref J.length) (.lst [])=some false:=by rw[yB fU,d3];simp
 have k6:cY (a_T P) (uH J (us++[u])) (.inst "LineUnit" (J.length+1+us.length)) "is_joined" (.bool (w=="ZWJ"))=some (uH J (us++[⟨u.w,u.code,u.at',w=="ZWJ"⟩])):=by rw[dU (luC P) (lW hV) (by rfl') (by rfl') (by simp)];exact Tx some (yz (u:=u) (v:=⟨u.w,u.code,u.at',w=="ZWJ"⟩))
 have k7:=qy (J:=J) (us:=us) (u:=u);have k8:bS (a_T P) (uH J (us++[u])) (.inst "LineUnit" (J.length+1+us.length)) "word"=some (.str u.w):=ax (luC P) (lW hV) rfl rfl;exact aw (zR (zR (zD C (zC (zH (nT m) (zR (zT k5 (z2 (zR (zC (zV k7 (zV k8 (zC (zH b (zR (zC (zC (zV k7 (zS k6 (z0 hk))))))))))))))))))))
end
noncomputable def tM(us:List ay):Str:=match us.getLast? with|some u=>u.w|none=>""
noncomputable def EM(us:List ay)(b:Bool):List ay:=match us.getLast? with|some u=>us.dropLast++[⟨u.w,u.code,u.at',b⟩] |none=>us
def cC(us:List ay)(w:Str)(c i:Int):List ay :=
 cond (ge w) (cond ((us.length==0)||kF (tM us)) (us++[⟨"AL",c,i,w=="ZWJ"⟩]) (EM us (w=="ZWJ"))) (us++[⟨w,c,i,false⟩])
noncomputable def aR(cl:Int->Str)(us:List ay)(i:Int):List Int->List ay
 |[]=>us
 |c::cs=>aR cl (cC us (cl c) c i) (i+1) cs
theorem i8{cl:Int->Str}{x:Int}:∀{xs:List Int}{us:List ay}{i:Int},aR cl us i (xs++[x])=cC (aR cl us i xs) (cl x) x (i+xs.length)
 |[],us,i=>by show cC us (cl x) x i=cC us (cl x) x (i+0);rw[WB]
 |y::ys,us,i=>by
  show aR cl _ (i+1) (ys++[x])=cC (aR cl _ (i+1) ys) _ _ _;rw[i8,Ug]
  congr 1
  exact are [_] [_] 1 39452152279074104 art art
theorem tN{us:List ay}{u:ay}:tM (us++[u])=u.w:=by unfold tM;rw[U6]
theorem om{us:List ay}{u:ay}{b:Bool}:EM (us++[u]) b=us++[⟨u.w,u.code,u.at',b⟩]:=by unfold EM;rw[U6];simp
theorem uQ{us:List ay}{w:Str}{c i:Int}:(cC us w c i).length<=us.length+1:=by
 unfold cC;cases ge w
 .simp
 . cases(us.length==0)||kF (tM us)
   . rcases UH us with rfl|⟨us,u,rfl⟩
     .exact VC _
     .rw[Ui];show(EM _ _).length<=_;rw[om];simp
   .simp
theorem i9{cl:Int->Str}:∀{xs:List Int}{us:List ay}{i:Int},(aR cl us i xs).length<=us.length+xs.length
 |[],us,i=>TB _
 |y::ys,us,i=>by have h1:=i9 (cl:=cl) (xs:=ys) (us:=cC us (cl y) y i) (i:=i+1);have h2:=uQ (us:=us) (w:=cl y) (c:=y) (i:=i);show(aR cl (cC us (cl y) y i) (i+1) ys).length<=_;rw[Ug];exact ar2 [_,_,_,_] [] 0 38392678904278066736 h1 h2 art
section
variable{P:Params}{d D h:Nat}{J:Hp}{w:Str}{c i:Int}{us:List ay}{t:V}{o1 o2 o3:Option V}
theorem JA(hl:us.length<=1000)(C:rq P (d+1) D h (uH J us) c w):
 ∃f,(f=.next\/f=.cont)/\rt P (d+1) (.tup [.int i,.int c]) (unL t D h J.length o1 o2 o3) (uH J us) f (unL t D h J.length (some (.int i)) (some (.int c)) (some (.str w))) (uH J (cC us w c i)):=by
 unfold cC;cases hm:ge w with
 |false=>exact⟨_,.inr rfl,Rl hl C hm⟩
 |true=>
  rcases UH us with rfl|⟨us,u,rfl⟩
  .exact⟨_,.inl rfl,Rm C hm⟩
  . rw[Ui]at C hl ⊢;rw[tN,om];have e:((us++[u]).length==0)=false:=by simp
    rw[e,VP];have hl:us.length<=1000:=by simp at hl;exact Tk ‹_› (by decide)
    cases hb:kF u.w with|true=>exact⟨_,.inl rfl,Rn hl C hm hb⟩|false=>exact⟨_,.inl rfl,Ro C hm hb⟩
theorem Rp{us:List ay}(hs:(a7 (J++[.list []]) t).isSome=true)(h1:eW (aJ P d (bf (unS P))) (av P d (bj (unS P))) (bf (unS P)) (.enm t) (unL t D h J.length none none none) (J++[.list []]) .next (unL t D h J.length o1 o2 o3) (uH J us)):
 cP P (d+1) "" "line_units" [t,.inst "Data" D,.inst "LineHow" h] [] J (.ref J.length) (uH J us):=by
 exact ag (fe P) ([t,V.inst (Str.ofString "Data") D,V.inst (Str.ofString "LineHow") h]) (fun z=>(zA hs (zL h1 (z0 z))).R.R.R)
theorem JB{cl:Int->Str}{cs:List Int}(hn:cs.length<=500)(ht:∀H,a7 (J++H) t=some (ivs cs))(hC:∀c∈cs,∀H,rq P (d+1) D h (J++H) c (cl c)):
 cP P (d+2) "" "line_units" [t,.inst "Data" D,.inst "LineHow" h] [] J (.ref J.length) (uH J (aR cl [] 0 cs)):=by
 have hlen:∀n,(aR cl [] 0 (cs.take n)).length<=500:=fun n=>by have:=i9 (cl:=cl) (xs:=cs.take n) (us:=[]) (i:=0);rw[TY]at this;simp at this;exact ar3 [_,_,_] [] 0 576540217943539714256 this (Uq (n) (cs.length)) hn art
 have hl:∀us,bD (uH J us) (.enm t)=some cs.length:=fun us=>by show(a7 _ _).map _=_;unfold uH;rw[ht];show some (ivs cs).length=_;rw[aK]
 refine Tu (dA (N:=cs.length) (it:=.enm t) (loc:=unL t D h J.length none none none) (J:=J++[.list []]) (tg:=bf (unS P)) (asg:=aJ P (d+1) (bf (unS P))) (body:=av P (d+1) (bj (unS P)))
  (fun n l s=>s=uH J (aR cl [] 0 (cs.take n))/\∃o1 o2 o3,l=unL t D h J.length o1 o2 o3) (fun n l s hi I=>?_) (fun l s I=>?_) (hl []) (by rfl') ⟨rfl,none,none,none,rfl⟩) fun l hh=>?_
 . obtain⟨rfl,o1,o2,o3,rfl⟩:=I;refine ae (JA (P:=P) (d:=d) (D:=D) (h:=h) (J:=J) (t:=t) (o1:=o1) (o2:=o2) (o3:=o3) (i:=(n:Int)) (Tk (hlen n) (by decide)) (hC cs[n] (Vn hi) _)) ?_;rintro f hf h2;refine⟨hl _,.tup [.int n,.int cs[n]],f,_,_,?_,h2,hf,?_,_,_,_,rfl⟩
   .show((a7 _ _).bind (·[n]?)).map _=_;unfold uH;rw[ht,Ue,oh hi];rfl
   .rw[Un,Tq hi];show _=uH J (aR cl [] 0 (cs.take n++[cs[n]]));rw[i8,TY,Wy (TX hi),VY]
 .obtain⟨rfl,_⟩:=I;exact hl _
 .refine ae (hh) ?_;rintro s ⟨rfl,o1,o2,o3,rfl⟩ h1;rw[Ur]at h1;exact Rp (by rw[ht];rfl) h1
end
noncomputable def bvs(l:List Bool):List V:=l.map .bool
abbrev lvC(P:Params):cF:=((a_T P).cls.lookup ("LineView":Str)).getD ⟨[],[]⟩
noncomputable abbrev qe(D h u so re nu:Nat):ab:=.dict [("data",.inst "Data" D),("how",.inst "LineHow" h),("units",.ref u),("solid",.ref so),("regional",.ref re),("numeric",.ref nu)]
def vB(D h n:Nat)(J:Hp)(us:List ay):Hp:=uH (J++[qe D h (J.length+1) (J.length+2+n) (J.length+3+n) (J.length+4+n)]) us
def vH(D h n:Nat)(J:Hp)(us:List ay)(sol reg:List Int)(num:List Bool):Hp:=vB D h n J us++[.list (ivs sol)]++[.list (ivs reg)]++[.list (bvs num)]
theorem EN{J H:Hp}{c:ab}{us:List ay}:(uH (J++[c]) us++H)[J.length]?=some c:=by unfold uH;rw[Tl,Tl,Uc (TB _),UB];rfl
theorem BJ{J H:Hp}{c c':ab}{us:List ay}:(uH (J++[c]) us++H).set J.length c'=uH (J++[c']) us++H:=by unfold uH;rw[Tl,Tl,Uz _ _ (TB _),UB,Tl,Tl];simp
theorem qz{T:Tab}{J H:Hp}{us:List ay}{c a:Str}{es:List (Str×V)}{v:V}(cd:cF)(h1:T.cls.lookup c=some cd)(h2:cd.attrs.contains a=true)(h3:es.length<900):cY T (uH (J++[.dict es]) us++H) (.inst c J.length) a v=some (uH (J++[.dict (em a v es)]) us++H):=by rw[dU cd EN h1 h2 h3,BJ]
section
variable{P:Params}{d D h n:Nat}{J:Hp}{us:List ay}{sol reg:List Int}{num:List Bool}{t:V}{w:Str}{i l m:Int}{b:Bool}{o1 o2 o3 o4:Option V}
abbrev vwS(P:Params):Stmt:=db 7 (dw P).body
noncomputable abbrev vwL(t:V)(D h n:Nat)(l m:Int)(b:Bool)(o1 o2:Option V):Loc:=[("self",.v (some (.inst "LineView" n))),("text",.v (some t)),("data",.v (some (.inst "Data" D))),("how",.v (some (.inst "LineHow" h))),("last",.v (some (.int l))),("many",.v (some (.int m))),("is_number",.v (some (.bool b))),("place",.v o1),("unit",.v o2),("line_units",.g),("enumerate",.g),("LINE_INNER",.g)]
theorem pf:(vB D h n J us).length=J.length+2+us.length:=by unfold vB;rw[ly,Tm];rfl
theorem fh:(vH D h n J us sol reg num)[J.length]?=some (qe D h (J.length+1) (J.length+2+n) (J.length+3+n) (J.length+4+n)):=by unfold vH;rw[Tl,Tl];exact EN
theorem ng:(vH D h us.length J us sol reg num)[J.length+2+us.length]?=some (.list (ivs sol)):=by unfold vH;rw[Tl,Tl,<-pf (D:=D) (h:=h) (n:=us.length),Uc (TB _),UB];rfl
theorem nh:(vH D h us.length J us sol reg num)[J.length+3+us.length]?=some (.list (ivs reg)):=by unfold vH;rw[Tl,Tl,show J.length+3+us.length=(vB D h us.length J us).length+1 by rw[pf];exact are [_,_] [] 0 46215817885943152 art art,Uc (by exact Vm _),UY];rfl
theorem nl:(vH D h us.length J us sol reg num)[J.length+4+us.length]?=some (.list (bvs num)):=by unfold vH;rw[Tl,Tl,show J.length+4+us.length=(vB D h us.length J us).length+2 by rw[pf];exact are [_,_] [] 0 47341717792785808 art art,Uc (by exact Uh _ _),UY];rfl
theorem uR{x:Int}:(vH D h us.length J us sol reg num).set (J.length+2+us.length) (.list (ivs sol++[.int x]))=vH D h us.length J us (sol++[x]) reg num:=by unfold vH;rw[Tl,Tl,<-pf (D:=D) (h:=h) (n:=us.length),Uz _ _ (TB _),UB,Tl,Tl];unfold ivs;rw[TI];rfl
theorem uS{x:Int}:(vH D h us.length J us sol reg num).set (J.length+3+us.length) (.list (ivs reg++[.int x]))=vH D h us.length J us sol (reg++[x]) num:=by unfold vH;rw[Tl,Tl,show J.length+3+us.length=(vB D h us.length J us).length+1 by rw[pf];exact are [_,_] [] 0 46215817885943152 art art,Uz _ _ (by exact Vm _),UY,Tl,Tl];unfold ivs;rw[TI];rfl
theorem uT{x:Bool}:(vH D h us.length J us sol reg num).set (J.length+4+us.length) (.list (bvs num++[.bool x]))=vH D h us.length J us sol reg (num++[x]):=by unfold vH;rw[Tl,Tl,show J.length+4+us.length=(vB D h us.length J us).length+2 by rw[pf];exact are [_,_] [] 0 47341717792785808 art art,Uz _ _ (by exact Uh _ _),UY,Tl,Tl];unfold bvs;rw[TI];rfl
theorem oo:(vH D h n J us sol reg num)[J.length+1]?=some (.list (fF (J.length+2) us.length)):=by unfold vH vB;rw[Tl,Tl,TL (by rw[ly,Tm];simp;exact ar0 [_,_] [] 0 55214219973657904 art)];have:=fU (J:=J++[qe D h (J.length+1) (J.length+2+n) (J.length+3+n) (J.length+4+n)]) (us:=us);rw[Tm]at this;exact this
theorem oq{u:ay}{j:Nat}(hu:us[j]?=some u):(vH D h n J us sol reg num)[J.length+2+j]?=some (kE u):=by have hj:=(Tr.mp hu).1;unfold vH vB;rw[Tl,Tl,TL (by rw[ly,Tm];simp;omega)];have:=lW (J:=J++[qe D h (J.length+1) (J.length+2+n) (J.length+3+n) (J.length+4+n)]) hu;rw[Tm]at this;exact this
theorem qA{l:List Bool}:(bvs l).length=l.length:=by unfold bvs;rw[Tn]
noncomputable def jQ(l:Int)(w:Str)(i:Int):Int:=cond (w=="SP") l i
noncomputable def pg(m:Int)(w:Str):Int:=cond (w=="RI") (m+1) 0
def gR(b:Bool)(w:Str):Bool:=(w=="NU")||(b&&inS w uL)
theorem Qf{j:Nat}{u:ay}(hu:us[j]?=some u)(hs:sol.length<=1000)(hr:reg.length<=1000)(hn:num.length<=1000)(e1:(u.w==("SP":Str))=true)(e2:(u.w==("RI":Str))=false):
 eZ (aJ P d (bf (vwS P))) (av P d (bj (vwS P))) (.tup [.int i,.inst "LineUnit" (J.length+2+j)]) (vwL t D h J.length l m b o1 o2) (vH D h us.length J us sol reg num) .next
  (vwL t D h J.length (l) (0) (gR b u.w) (some (.int i)) (some (.inst "LineUnit" (J.length+2+j)))) (vH D h us.length J us (sol++[l]) (reg++[0]) (num++[gR b u.w])):=by
 intro k hk;have k0:bS (a_T P) (vH D h us.length J us sol reg num) (.inst "LineUnit" (J.length+2+j)) "word"=some (.str u.w):=ax (luC P) (oq hu) rfl rfl;have k1:bS (a_T P) (vH D h us.length J us sol reg num) (.inst "LineView" J.length) "solid"=some (.ref (J.length+2+us.length)):=ax (lvC P) fh rfl rfl;have k2:=aM (T:=a_T P) (ng (D:=D) (h:=h) (J:=J) (us:=us) (sol:=sol) (reg:=reg) (num:=num));have q1:aQ (vH D h us.length J us sol reg num) "list.append" (.ref (J.length+2+us.length)) [.int (l)]=some (.none,vH D h us.length J us (sol++[l]) reg num):=by rw[dz ng (ar (by rw[aK];exact Tk ‹_› (by decide))),uR]
 have q2:aQ (vH D h us.length J us (sol++[l]) reg num) "list.append" (.ref (J.length+3+us.length)) [.int (0)]=some (.none,vH D h us.length J us (sol++[l]) (reg++[0]) num):=by rw[dz nh (ar (by rw[aK];exact Tk ‹_› (by decide))),uS]
 have q3:aQ (vH D h us.length J us (sol++[l]) (reg++[0]) num) "list.append" (.ref (J.length+4+us.length)) [.bool (gR b u.w)]=some (.none,vH D h us.length J us (sol++[l]) (reg++[0]) (num++[gR b u.w])):=by rw[dz nl (ar (by rw[qA];exact Tk ‹_› (by decide))),uT]
 have g2:bS (a_T P) (vH D h us.length J us (sol++[l]) reg num) (.inst "LineView" J.length) "regional"=some (.ref (J.length+3+us.length)):=ax (lvC P) fh rfl rfl;have g3:bS (a_T P) (vH D h us.length J us (sol++[l]) (reg++[0]) num) (.inst "LineView" J.length) "numeric"=some (.ref (J.length+4+us.length)):=ax (lvC P) fh rfl rfl;have m2:bd (a_T P) (vH D h us.length J us (sol++[l]) reg num) (.ref (J.length+3+us.length)) "append"=some (.bi "list.append"):=aM nh;have m3:bd (a_T P) (vH D h us.length J us (sol++[l]) (reg++[0]) num) (.ref (J.length+4+us.length)) "append"=some (.bi "list.append"):=aM nl;exact aw (zR (zR (zV k0 (zC (zH e1 (zR (zR (zV k0 (zC (zH e2 (zR (zR (zV k0 (zC (zO (zO (zR (zV k0 (zC (zA (rfl:vH D h us.length J us sol reg num=vH D h us.length J us sol reg num) (zA (rfl:vH D h us.length J us sol reg num=vH D h us.length J us sol reg num) (zQ (zR (zR (zV k1 (zK k2 (zP q1 (zQ (zR (zR (zV g2 (zK m2 (zP q2 (zQ (zR (zR (zV g3 (zK m3 (zP q3 (z0 hk))))))))))))))))))))))))))))))))))))))))
theorem Qg{j:Nat}{u:ay}(hu:us[j]?=some u)(hs:sol.length<=1000)(hr:reg.length<=1000)(hn:num.length<=1000)(e1:(u.w==("SP":Str))=false)(e2:(u.w==("RI":Str))=true):
 eZ (aJ P d (bf (vwS P))) (av P d (bj (vwS P))) (.tup [.int i,.inst "LineUnit" (J.length+2+j)]) (vwL t D h J.length l m b o1 o2) (vH D h us.length J us sol reg num) .next
  (vwL t D h J.length (i) (m+1) (gR b u.w) (some (.int i)) (some (.inst "LineUnit" (J.length+2+j)))) (vH D h us.length J us (sol++[i]) (reg++[m+1]) (num++[gR b u.w])):=by
 intro k hk;have k0:bS (a_T P) (vH D h us.length J us sol reg num) (.inst "LineUnit" (J.length+2+j)) "word"=some (.str u.w):=ax (luC P) (oq hu) rfl rfl;have k1:bS (a_T P) (vH D h us.length J us sol reg num) (.inst "LineView" J.length) "solid"=some (.ref (J.length+2+us.length)):=ax (lvC P) fh rfl rfl;have k2:=aM (T:=a_T P) (ng (D:=D) (h:=h) (J:=J) (us:=us) (sol:=sol) (reg:=reg) (num:=num));have q1:aQ (vH D h us.length J us sol reg num) "list.append" (.ref (J.length+2+us.length)) [.int (i)]=some (.none,vH D h us.length J us (sol++[i]) reg num):=by rw[dz ng (ar (by rw[aK];exact Tk ‹_› (by decide))),uR]
 have q2:aQ (vH D h us.length J us (sol++[i]) reg num) "list.append" (.ref (J.length+3+us.length)) [.int (m+1)]=some (.none,vH D h us.length J us (sol++[i]) (reg++[m+1]) num):=by rw[dz nh (ar (by rw[aK];exact Tk ‹_› (by decide))),uS]
 have q3:aQ (vH D h us.length J us (sol++[i]) (reg++[m+1]) num) "list.append" (.ref (J.length+4+us.length)) [.bool (gR b u.w)]=some (.none,vH D h us.length J us (sol++[i]) (reg++[m+1]) (num++[gR b u.w])):=by rw[dz nl (ar (by rw[qA];exact Tk ‹_› (by decide))),uT]
 have g2:bS (a_T P) (vH D h us.length J us (sol++[i]) reg num) (.inst "LineView" J.length) "regional"=some (.ref (J.length+3+us.length)):=ax (lvC P) fh rfl rfl;have g3:bS (a_T P) (vH D h us.length J us (sol++[i]) (reg++[m+1]) num) (.inst "LineView" J.length) "numeric"=some (.ref (J.length+4+us.length)):=ax (lvC P) fh rfl rfl;have m2:bd (a_T P) (vH D h us.length J us (sol++[i]) reg num) (.ref (J.length+3+us.length)) "append"=some (.bi "list.append"):=aM nh;have m3:bd (a_T P) (vH D h us.length J us (sol++[i]) (reg++[m+1]) num) (.ref (J.length+4+us.length)) "append"=some (.bi "list.append"):=aM nl;exact aw (zR (zR (zV k0 (zC (zH e1 (zR (zR (zV k0 (zC (zH e2 (zC (zR (zR (zV k0 (zC (zO (zO (zR (zV k0 (zC (zA (rfl:(V.int (m+(1:Int)),vH D h us.length J us sol reg num).snd=(V.int (m+(1:Int)),vH D h us.length J us sol reg num).snd) (zA (rfl:(V.int (m+(1:Int)),vH D h us.length J us sol reg num).snd=(V.int (m+(1:Int)),vH D h us.length J us sol reg num).snd) (zQ (zR (zR (zV k1 (zK k2 (zP q1 (zQ (zR (zR (zV g2 (zK m2 (zP q2 (zQ (zR (zR (zV g3 (zK m3 (zP q3 (z0 hk)))))))))))))))))))))))))))))))))))))))))
theorem Qh{j:Nat}{u:ay}(hu:us[j]?=some u)(hs:sol.length<=1000)(hr:reg.length<=1000)(hn:num.length<=1000)(e1:(u.w==("SP":Str))=false)(e2:(u.w==("RI":Str))=false):
 eZ (aJ P d (bf (vwS P))) (av P d (bj (vwS P))) (.tup [.int i,.inst "LineUnit" (J.length+2+j)]) (vwL t D h J.length l m b o1 o2) (vH D h us.length J us sol reg num) .next
  (vwL t D h J.length (i) (0) (gR b u.w) (some (.int i)) (some (.inst "LineUnit" (J.length+2+j)))) (vH D h us.length J us (sol++[i]) (reg++[0]) (num++[gR b u.w])):=by
 intro k hk;have k0:bS (a_T P) (vH D h us.length J us sol reg num) (.inst "LineUnit" (J.length+2+j)) "word"=some (.str u.w):=ax (luC P) (oq hu) rfl rfl;have k1:bS (a_T P) (vH D h us.length J us sol reg num) (.inst "LineView" J.length) "solid"=some (.ref (J.length+2+us.length)):=ax (lvC P) fh rfl rfl;have k2:=aM (T:=a_T P) (ng (D:=D) (h:=h) (J:=J) (us:=us) (sol:=sol) (reg:=reg) (num:=num));have q1:aQ (vH D h us.length J us sol reg num) "list.append" (.ref (J.length+2+us.length)) [.int (i)]=some (.none,vH D h us.length J us (sol++[i]) reg num):=by rw[dz ng (ar (by rw[aK];exact Tk ‹_› (by decide))),uR]
 have q2:aQ (vH D h us.length J us (sol++[i]) reg num) "list.append" (.ref (J.length+3+us.length)) [.int (0)]=some (.none,vH D h us.length J us (sol++[i]) (reg++[0]) num):=by rw[dz nh (ar (by rw[aK];exact Tk ‹_› (by decide))),uS]
 have q3:aQ (vH D h us.length J us (sol++[i]) (reg++[0]) num) "list.append" (.ref (J.length+4+us.length)) [.bool (gR b u.w)]=some (.none,vH D h us.length J us (sol++[i]) (reg++[0]) (num++[gR b u.w])):=by rw[dz nl (ar (by rw[qA];exact Tk ‹_› (by decide))),uT]
 have g2:bS (a_T P) (vH D h us.length J us (sol++[i]) reg num) (.inst "LineView" J.length) "regional"=some (.ref (J.length+3+us.length)):=ax (lvC P) fh rfl rfl;have g3:bS (a_T P) (vH D h us.length J us (sol++[i]) (reg++[0]) num) (.inst "LineView" J.length) "numeric"=some (.ref (J.length+4+us.length)):=ax (lvC P) fh rfl rfl;have m2:bd (a_T P) (vH D h us.length J us (sol++[i]) reg num) (.ref (J.length+3+us.length)) "append"=some (.bi "list.append"):=aM nh;have m3:bd (a_T P) (vH D h us.length J us (sol++[i]) (reg++[0]) num) (.ref (J.length+4+us.length)) "append"=some (.bi "list.append"):=aM nl;exact aw (zR (zR (zV k0 (zC (zH e1 (zR (zR (zV k0 (zC (zH e2 (zR (zR (zV k0 (zC (zO (zO (zR (zV k0 (zC (zA (rfl:vH D h us.length J us sol reg num=vH D h us.length J us sol reg num) (zA (rfl:vH D h us.length J us sol reg num=vH D h us.length J us sol reg num) (zQ (zR (zR (zV k1 (zK k2 (zP q1 (zQ (zR (zR (zV g2 (zK m2 (zP q2 (zQ (zR (zR (zV g3 (zK m3 (zP q3 (z0 hk))))))))))))))))))))))))))))))))))))))))
theorem JC{j:Nat}{u:ay}(hu:us[j]?=some u)(hs:sol.length<=1000)(hr:reg.length<=1000)(hn:num.length<=1000):
 eZ (aJ P d (bf (vwS P))) (av P d (bj (vwS P))) (.tup [.int i,.inst "LineUnit" (J.length+2+j)]) (vwL t D h J.length l m b o1 o2) (vH D h us.length J us sol reg num) .next
  (vwL t D h J.length (jQ l u.w i) (pg m u.w) (gR b u.w) (some (.int i)) (some (.inst "LineUnit" (J.length+2+j)))) (vH D h us.length J us (sol++[jQ l u.w i]) (reg++[pg m u.w]) (num++[gR b u.w])):=by
 unfold jQ pg;cases e1:u.w==("SP":Str)with
 |true=>
  have e:(u.w==("RI":Str))=false:=by rw[Ub.mp e1];decide
  rw[e];exact Qf hu hs hr hn e1 e
 |false=>
  cases e:u.w==("RI":Str)with|true=>exact Qg hu hs hr hn e1 e|false=>exact Qh hu hs hr hn e1 e
end
noncomputable def bz(l i:Int):List ay->List Int
 |[]=>[]
 |u::us=>jQ l u.w i::bz (jQ l u.w i) (i+1) us
noncomputable def ci(m:Int):List ay->List Int
 |[]=>[]
 |u::us=>pg m u.w::ci (pg m u.w) us
noncomputable def bW(b:Bool):List ay->List Bool
 |[]=>[]
 |u::us=>gR b u.w::bW (gR b u.w) us
noncomputable def pn(l i:Int):List ay->Int
 |[]=>l
 |u::us=>pn (jQ l u.w i) (i+1) us
noncomputable def pq(m:Int):List ay->Int
 |[]=>m
 |u::us=>pq (pg m u.w) us
noncomputable def pv(b:Bool):List ay->Bool
 |[]=>b
 |u::us=>pv (gR b u.w) us
theorem qg{u:ay}:∀{xs:List ay}{l i:Int},bz l i (xs++[u])=bz l i xs++[jQ (pn l i xs) u.w (i+xs.length)]/\pn l i (xs++[u])=jQ (pn l i xs) u.w (i+xs.length)
 |[],l,i=>by
  have e:i+(([]:List ay).length:Int)=i:=WB i;rw[e];exact⟨rfl,rfl⟩
 |x::xs,l,i=>by
  obtain⟨h1,h2⟩:=qg (u:=u) (xs:=xs) (l:=jQ l x.w i) (i:=i+1);have e:i+((x::xs).length:Int)=i+1+xs.length:=by rw[Ug];exact are [_] [_] 1 39970881248732696 art art
  rw[e];exact⟨Tx (jQ l x.w i :: ·) h1,h2⟩
theorem qh{u:ay}:∀{xs:List ay}{m:Int},ci m (xs++[u])=ci m xs++[pg (pq m xs) u.w]/\pq m (xs++[u])=pg (pq m xs) u.w
 |[],m=>⟨rfl,rfl⟩
 |x::xs,m=>by obtain⟨h1,h2⟩:=qh (u:=u) (xs:=xs) (m:=pg m x.w);exact⟨Tx (pg m x.w :: ·) h1,h2⟩
theorem qj{u:ay}:∀{xs:List ay}{b:Bool},bW b (xs++[u])=bW b xs++[gR (pv b xs) u.w]/\pv b (xs++[u])=gR (pv b xs) u.w
 |[],m=>⟨rfl,rfl⟩
 |x::xs,b=>by obtain⟨h1,h2⟩:=qj (u:=u) (xs:=xs) (b:=gR b x.w);exact⟨Tx (gR b x.w :: ·) h1,h2⟩
theorem iP:∀{us:List ay}{l i:Int},(bz l i us).length=us.length
 |[],_,_=>rfl
 |u::us,l,i=>Tx (· + 1) (iP (us:=us))
theorem iQ:∀{us:List ay}{l:Int},(ci l us).length=us.length
 |[],_=>rfl
 |u::us,l=>Tx (· + 1) (iQ (us:=us))
theorem iR:∀{us:List ay}{l:Bool},(bW l us).length=us.length
 |[],_=>rfl
 |u::us,l=>Tx (· + 1) (iR (us:=us))
theorem qk:∀{us:List ay}{l i:Int}{j:Nat},l<i -> -1<=l->j<us.length -> -1<=(bz l i us).getD j 0/\(bz l i us).getD j 0<=i+j
 |u::us,l,i,j,h1,h2,hj=>by
  have hs : -1<=jQ l u.w i/\jQ l u.w i<i+1:=by
   unfold jQ;cases u.w==("SP":Str)
   .exact⟨by show -1<=i;exact Int.le_trans ‹_› (Int.le_of_lt ‹_›),by show i<i+1;exact ar0 [] [_] 1 43779384 art⟩
   .exact⟨h2,by show l<i+1;exact ar1 [] [_,_] 513 45940371916088 h1 art⟩
  cases j with|zero=>exact⟨hs.1,by show jQ l u.w i<=i+0;exact ar1 [] [_,_] 513 44865272186168 hs.2 art⟩|succ j=>have:=qk (us:=us) (l:=jQ l u.w i) (i:=i+1) (j:=j) hs.2 hs.1 (by simp at hj;omega);exact⟨this.1,by have:=this.2;show(bz (jQ l u.w i) (i+1) us).getD j 0<=_;exact ar1 [_] [_,_] 513 40399005820989253432 this art⟩
section
variable{P:Params}{d D h:Nat}{J s:Hp}{us:List ay}{t:V}{l m:Int}{b:Bool}{o1 o2:Option V}
noncomputable abbrev NT(P:Params)(d:Nat)(it:It)(loc:Loc)(J:Hp)(l:Loc)(s:Hp):Prop:=eW (aJ P d (bf (vwS P))) (av P d (bj (vwS P))) (bf (vwS P)) it loc J .next l s
theorem uL1{c:ab}:(uH (J++[c]) us).length=J.length+2+us.length:=by rw[ly,Tm];rfl
theorem uL2{c x:ab}:(uH (J++[c]) us++[x]).length=J.length+3+us.length:=by rw[Tm,uL1];simp;exact WC _ _ _
theorem uL3{c x y:ab}:(uH (J++[c]) us++[x]++[y]).length=J.length+4+us.length:=by rw[Tm,uL2];simp;exact WC _ _ _
theorem Rq(hu:cP P d "" "line_units" [t,.inst "Data" D,.inst "LineHow" h] [] (J++[ab.dict [("data",.inst "Data" D),("how",.inst "LineHow" h)]]) (.ref (J.length+1)) (uH (J++[ab.dict [("data",.inst "Data" D),("how",.inst "LineHow" h)]]) us))(hl:NT P d (.enm (.ref (J.length+1))) (vwL t D h J.length (-1) 0 false none none) (vH D h us.length J us [] [] []) (vwL t D h J.length l m b o1 o2) s):
 cP P (d+1) "LineView" "__init__" [.inst "LineView" J.length,t,.inst "Data" D,.inst "LineHow" h] [] (J++[ab.dict []]) .none s:=by
 unfold vH vB at hl;have a1:cY (a_T P) (J++[ab.dict []]) (.inst "LineView" J.length) "data" (.inst "Data" D)=some (J++[ab.dict [("data",.inst "Data" D)]]):=gw (lvC P) (by rfl') (by rfl') (by simp);have a2:cY (a_T P) (J++[ab.dict [("data",.inst "Data" D)]]) (.inst "LineView" J.length) "how" (.inst "LineHow" h)=some (J++[ab.dict [("data",.inst "Data" D),("how",.inst "LineHow" h)]]):=gw (lvC P) (by rfl') (by rfl') (by simp);have a3:cY (a_T P) (uH (J++[ab.dict [("data",.inst "Data" D),("how",.inst "LineHow" h)]]) us) (.inst "LineView" J.length) "units" (.ref (J.length+1))=some (uH (J++[ab.dict [("data",.inst "Data" D),("how",.inst "LineHow" h),("units",.ref (J.length+1))]]) us):=by have:=qz (T:=a_T P) (J:=J) (H:=[]) (us:=us) (c:="LineView") (a:="units") (es:=[("data",.inst "Data" D),("how",.inst "LineHow" h)]) (v:=.ref (J.length+1)) (lvC P) (by rfl') (by rfl') (by simp);rw[Ua,Ua]at this;exact this
 have a4:cY (a_T P) (uH (J++[ab.dict [("data",.inst "Data" D),("how",.inst "LineHow" h),("units",.ref (J.length+1))]]) us++[ab.list []]) (.inst "LineView" J.length) "solid" (.ref (uH (J++[ab.dict [("data",.inst "Data" D),("how",.inst "LineHow" h),("units",.ref (J.length+1))]]) us).length)=some (uH (J++[ab.dict [("data",.inst "Data" D),("how",.inst "LineHow" h),("units",.ref (J.length+1)),("solid",.ref (J.length+2+us.length))]]) us++[ab.list []]):=by rw[uL1,qz (lvC P) (by rfl') (by rfl') (by simp)];rfl
 have a5:cY (a_T P) (uH (J++[ab.dict [("data",.inst "Data" D),("how",.inst "LineHow" h),("units",.ref (J.length+1)),("solid",.ref (J.length+2+us.length))]]) us++[ab.list []]++[ab.list []]) (.inst "LineView" J.length) "regional" (.ref (uH (J++[ab.dict [("data",.inst "Data" D),("how",.inst "LineHow" h),("units",.ref (J.length+1)),("solid",.ref (J.length+2+us.length))]]) us++[ab.list []]).length)=some (uH (J++[ab.dict [("data",.inst "Data" D),("how",.inst "LineHow" h),("units",.ref (J.length+1)),("solid",.ref (J.length+2+us.length)),("regional",.ref (J.length+3+us.length))]]) us++[ab.list []]++[ab.list []]):=by rw[uL2,Tl,qz (lvC P) (by rfl') (by rfl') (by simp),Tl];rfl
 have a6:cY (a_T P) (uH (J++[ab.dict [("data",.inst "Data" D),("how",.inst "LineHow" h),("units",.ref (J.length+1)),("solid",.ref (J.length+2+us.length)),("regional",.ref (J.length+3+us.length))]]) us++[ab.list []]++[ab.list []]++[ab.list []]) (.inst "LineView" J.length) "numeric" (.ref (uH (J++[ab.dict [("data",.inst "Data" D),("how",.inst "LineHow" h),("units",.ref (J.length+1)),("solid",.ref (J.length+2+us.length)),("regional",.ref (J.length+3+us.length))]]) us++[ab.list []]++[ab.list []]).length)=some (uH (J++[qe D h (J.length+1) (J.length+2+us.length) (J.length+3+us.length) (J.length+4+us.length)]) us++[ab.list []]++[ab.list []]++[ab.list []]):=by rw[uL3,Tl,Tl,qz (lvC P) (by rfl') (by rfl') (by simp),Tl,Tl];rfl
 have g1:bS (a_T P) (uH (J++[qe D h (J.length+1) (J.length+2+us.length) (J.length+3+us.length) (J.length+4+us.length)]) us++[ab.list []]++[ab.list []]++[ab.list []]) (.inst "LineView" J.length) "units"=some (.ref (J.length+1)):=ax (lvC P) (fh (n:=us.length) (sol:=[]) (reg:=[]) (num:=[])) rfl rfl;have g2:(a7 (uH (J++[qe D h (J.length+1) (J.length+2+us.length) (J.length+3+us.length) (J.length+4+us.length)]) us++[ab.list []]++[ab.list []]++[ab.list []]) (.ref (J.length+1))).isSome=true:=by have:=oo (D:=D) (h:=h) (n:=us.length) (J:=J) (us:=us) (sol:=[]) (reg:=[]) (num:=[]);unfold vH vB at this;simp only[show ∀x,ivs x=x.map V.int from fun _=>rfl,show ∀x,bvs x=x.map V.bool from fun _=>rfl,List.map_nil]at this;rw[cp this];rfl
 exact ag (dw P) ([V.inst (Str.ofString "LineView") (List.length J),t,V.inst (Str.ofString "Data") D,V.inst (Str.ofString "LineHow") h]) (fun z=>(zS a1 (zS a2 (zD hu (zS a3 (zS a4 (zS a5 (zS a6 (zV g1 (zA g2 (zL hl (z0 z)))).R.R.R.C.R).R.R).R.R).R.R)).R.R).R).R)
theorem NV(hu:cP P (d+1) "" "line_units" [t,.inst "Data" D,.inst "LineHow" h] [] (J++[.dict [("data",.inst "Data" D),("how",.inst "LineHow" h)]]) (.ref (J.length+1)) (uH (J++[.dict [("data",.inst "Data" D),("how",.inst "LineHow" h)]]) us))(hl:us.length<=1000):
 cP P (d+2) "LineView" "__init__" [.inst "LineView" J.length,t,.inst "Data" D,.inst "LineHow" h] [] (J++[.dict []]) .none (vH D h us.length J us (bz (-1) 0 us) (ci 0 us) (bW false us)):=by
 have li:∀(x y:List Int) (z:List Bool),a7 (vH D h us.length J us x y z) (.ref (J.length+1))=some (fF (J.length+2) us.length):=fun x y z=>cp oo;have hlen:∀x y z,bD (vH D h us.length J us x y z) (.enm (.ref (J.length+1)))=some us.length:=fun x y z=>by show(a7 _ _).map _=_;rw[li];show some (fF _ _).length=_;rw[d3]
 refine Tu (dA (N:=us.length) (it:=.enm (.ref (J.length+1))) (loc:=vwL t D h J.length (-1) 0 false none none) (J:=vH D h us.length J us [] [] []) (tg:=bf (vwS P)) (asg:=aJ P (d+1) (bf (vwS P))) (body:=av P (d+1) (bj (vwS P)))
  (fun n l s=>s=vH D h us.length J us (bz (-1) 0 (us.take n)) (ci 0 (us.take n)) (bW false (us.take n))/\∃o1 o2,l=vwL t D h J.length (pn (-1) 0 (us.take n)) (pq 0 (us.take n)) (pv false (us.take n)) o1 o2) (fun n l s hi I=>?_) (fun l s I=>?_) (hlen _ _ _) (by rfl') ⟨rfl,none,none,rfl⟩) fun l hh=>?_
 . refine Lj (I) ?_;rintro rfl o1 o2 rfl;have ln:(us.take n).length<=1000:=by rw[TY];exact Tk (Uq _ _) (Tk ‹_› (by decide))
   have st:=JC (P:=P) (d:=d+1) (D:=D) (h:=h) (J:=J) (t:=t) (o1:=o1) (o2:=o2) (i:=(n:Int)) (l:=pn (-1) 0 (us.take n)) (m:=pq 0 (us.take n)) (b:=pv false (us.take n)) (Tq hi)
    (sol:=bz (-1) 0 (us.take n)) (reg:=ci 0 (us.take n)) (num:=bW false (us.take n)) (by rw[iP];exact ln) (by rw[iQ];exact ln) (by rw[iR];exact ln)
   have ea:=qg (u:=us[n]) (xs:=us.take n) (l := -1) (i:=0);have eb:=qh (u:=us[n]) (xs:=us.take n) (m:=0);have ec:=qj (u:=us[n]) (xs:=us.take n) (b:=false);rw[TY,Wy (TX hi),VY]at ea;have tk:us.take (n+1)=us.take n++[us[n]]:=by rw[Un,Tq hi];rfl
   refine⟨hlen _ _ _,.tup [.int n,.inst "LineUnit" (J.length+2+n)],.next,_,_,?_,st,.inl rfl,?_,some (.int n),some (.inst "LineUnit" (J.length+2+n)),?_⟩
   .show((a7 _ _).bind (·[n]?)).map _=_;rw[li,Ue];unfold fF;rw[Ty,V4 hi];rfl
   .rw[tk,ea.1,eb.1,ec.1]
   .rw[tk,ea.2,eb.2,ec.2]
 .obtain⟨rfl,_⟩:=I;exact hlen _ _ _
 .refine ae (hh) ?_;rintro s ⟨rfl,o1,o2,rfl⟩ h1;rw[Ur]at h1;exact Rq hu h1
end
noncomputable abbrev sL(st:Str)(ka:Bool)(nm:Str):ab:=.dict [("strictness",.str st),("keep_all",.bool ka),("numbers",.str nm)]
structure np where
 cl:Int->Str
 gc:Int->Str
 ea:Int->Str
 ep:Int->Bool
 st:Str
 nm:Str
 ka:Bool
structure uU(P:Params)(J:Hp)(D h:Nat)(Y:np)(cs:List Int):Prop where
 cls:∀(d:Nat) (c:Int),c∈cs->∀H,rq P (d+6) D h (J++H) c (Y.cl c)
 how:J[h]?=some (sL Y.st Y.ka Y.nm)
 dat:∃es,J[D]?=some (.dict es)/\List.lookup ("get":Str) es=none
 gc:∀(d:Nat) (c:Int),c∈cs->∀H,kI P (d+4) D (J++H) "gc" c (.str (Y.gc c))
 ea:∀(d:Nat) (c:Int),c∈cs->∀H,kI P (d+4) D (J++H) "ea" c (.str (Y.ea c))
 ep:∀(d:Nat) (c:Int),c∈cs->∀H,kI P (d+4) D (J++H) "ep" c (.bool (Y.ep c))
theorem aT{J H:Hp}{n:Nat}{c:ab}(h:J[n]?=some c):(J++H)[n]?=some c:=by rw[TL (Tr.mp h).1];exact h
theorem uU.more{P:Params}{J H:Hp}{D h:Nat}{Y:np}{cs:List Int}(E:uU P J D h Y cs):uU P (J++H) D h Y cs:=by
 refine ae (E.dat) ?_;rintro es h1 h2;exact⟨fun d c hc H'=>by rw[Tl];exact E.cls d c hc _,aT E.how,⟨es,aT h1,h2⟩,fun d c hc H'=>by rw[Tl];exact E.gc d c hc _,
  fun d c hc H'=>by rw[Tl];exact E.ea d c hc _,fun d c hc H'=>by rw[Tl];exact E.ep d c hc _⟩
def vT(D h n N:Nat)(us:List ay)(sol reg:List Int)(num:List Bool):Hp :=
 qe D h (N+1) (N+2+n) (N+3+n) (N+4+n)::.list (fF (N+2) us.length)::us.map kE++[.list (ivs sol),.list (ivs reg),.list (bvs num)]
theorem wM{D h n:Nat}{J:Hp}{us:List ay}{sol reg:List Int}{num:List Bool}:vH D h n J us sol reg num=J++vT D h n J.length us sol reg num:=by unfold vH vB uH vT;simp
def eT(Y:np)(us:List ay):VD:=⟨us,bz (-1) 0 us,ci 0 us,bW false us,Y.gc,Y.ea,Y.ep,Y.st,Y.nm,Y.ka⟩
def vO(D h:Nat)(J:Hp)(us:List ay):Hp:=vH D h us.length J us (bz (-1) 0 us) (ci 0 us) (bW false us)
theorem iS{J:Hp}{n i:Nat}{xs:List V}{v:V}(h:J[n]?=some (.list xs))(hv:xs[i]?=some v)(hl:xs.length<1000000):af J (.ref n) (.int i)=some v:=by rw[kZ (cq h)];obtain⟨h1,h2⟩:=Tr.mp hv;rw[lu rfl h1 hl,h2]
theorem JD{t:Bool}{J:Hp}{n:Nat}{xs:List V}(h:J[n]?=some (.list xs))(hl:xs.length<=1000000):biI t "len" [.ref n] J=some (.int xs.length,J):=by show els (bF J (.ref n)) _ _=_;rw[cq h];exact if_pos (ar hl)
abbrev lhC(P:Params):cF:=((a_T P).cls.lookup ("LineHow":Str)).getD ⟨[],[]⟩
abbrev dtC(P:Params):cF:=((a_T P).cls.lookup ("Data":Str)).getD ⟨[],[]⟩
theorem lY{α:Type}{l:List α}{i:Nat}{d:α}(h:i<l.length):l[i]?=some (l.getD i d):=by rw[Uo,Tq h];rfl
theorem JE{P:Params}{J:Hp}{D h:Nat}{Y:np}{cs:List Int}{us:List ay}(E:uU P J D h Y cs)(hu:∀u∈us,u.code∈cs)(hl:us.length<=1000):
 yx P (vO D h J us) J.length (J.length+1) (J.length+2+us.length) (J.length+3+us.length) (J.length+4+us.length) h D (eT Y us):=by
 have E':=E.more (H:=vT D h us.length J.length us (bz (-1) 0 us) (ci 0 us) (bW false us));rw[<-wM]at E';have G:∀a v,((a_T P).cls.lookup ("LineView":Str))=some (lvC P)->(lvC P).attrs.contains a=true->List.lookup a ([("data",.inst "Data" D),("how",.inst "LineHow" h),("units",.ref (J.length+1)),("solid",.ref (J.length+2+us.length)),("regional",.ref (J.length+3+us.length)),("numeric",.ref (J.length+4+us.length))]:List (Str×V))=some v->yY v=true->cU P J.length (vO D h J us) a v :=
  fun a v h1 h2 h3 h4=>ax (lvC P) fh h3 h4 h1 h2
 have M:∀a,(lvC P).meths.contains a=true->List.lookup a ([("data",.inst "Data" D),("how",.inst "LineHow" h),("units",.ref (J.length+1)),("solid",.ref (J.length+2+us.length)),("regional",.ref (J.length+3+us.length)),("numeric",.ref (J.length+4+us.length))]:List (Str×V))=none->be P J.length (vO D h J us) a :=
  fun a h1 h2=>dZ (lvC P) fh (by rfl') h1 h2
 have codes:∀i:Nat,i<us.length->(bM (eT Y us) i).code∈cs:=fun i hi=>by refine hu _ ?_;show us.getD i _∈us;have:=lY (d:=(⟨"",0,0,false⟩:ay)) hi;exact TZ this
 have HO:∀a v,(lhC P).attrs.contains a=true->List.lookup a ([("strictness",.str Y.st),("keep_all",.bool Y.ka),("numbers",.str Y.nm)]:List (Str×V))=some v->yY v=true->bS (a_T P) (vO D h J us) (.inst "LineHow" h) a=some v :=
  fun a v h1 h2 h3=>ax (lhC P) E'.how h2 h3 (by rfl') h1
 refine ae (E'.dat) ?_;rintro es d1 d2;refine⟨M _ (by rfl') (by rfl'),M _ (by rfl') (by rfl'),M _ (by rfl') (by rfl'),M _ (by rfl') (by rfl'),G _ _ (by rfl') (by rfl') rfl rfl,?_,fun i hi=>?_,G _ _ (by rfl') (by rfl') rfl rfl,
  HO _ _ (by rfl') rfl rfl,HO _ _ (by rfl') rfl rfl,HO _ _ (by rfl') rfl rfl,G _ _ (by rfl') (by rfl') rfl rfl,fun i hi=>?_,G _ _ (by rfl') (by rfl') rfl rfl,fun i hi=>?_,G _ _ (by rfl') (by rfl') rfl rfl,fun i hi=>?_,
  G _ _ (by rfl') (by rfl') rfl rfl,dZ (dtC P) d1 (by rfl') (by rfl') d2,fun d i hi=>?_,fun d i hi=>?_,fun d i hi=>?_⟩
 .have:=JD (t:=true) (oo (D:=D) (h:=h) (n:=us.length) (J:=J) (us:=us) (sol:=bz (-1) 0 us) (reg:=ci 0 us) (num:=bW false us)) (by rw[d3];exact Tk ‹_› (by decide));rw[d3]at this;exact this
 .have hi:i<us.length:=hi;have e:=lY (d:=(⟨"",0,0,false⟩:ay)) hi;have vu:(vO D h J us)[J.length+2+i]?=some (kE (bM (eT Y us) i)):=oq e;refine⟨J.length+2+i,iS oo ?_ (by rw[d3];exact Ts ‹_› (by decide)),ax (luC P) vu rfl rfl,ax (luC P) vu rfl rfl,ax (luC P) vu rfl rfl⟩;unfold fF;rw[Ty,V4 hi];rfl
 . have hi:i<us.length:=hi;have hs:i<(bz (-1) 0 us).length:=by rw[iP];exact hi
   have b:=qk (us:=us) (l := -1) (i:=0) (j:=i) (by decide) (by decide) hi;refine⟨iS ng ?_ (by rw[aK,iP];exact Ts ‹_› (by decide)),b.1,by have:=b.2;rw[VY]at this;exact this⟩;unfold ivs;rw[Ty,lY (d:=0) hs];rfl
 . have hi:i<us.length:=hi;have hs:i<(ci 0 us).length:=by rw[iQ];exact hi
   refine iS nh ?_ (by rw[aK,iQ];exact Ts ‹_› (by decide));unfold ivs;rw[Ty,lY (d:=0) hs];rfl
 . have hi:i<us.length:=hi;have hs:i<(bW false us).length:=by rw[iR];exact hi
   refine iS nl ?_ (by rw[qA,iR];exact Ts ‹_› (by decide));unfold bvs;rw[Ty,lY (d:=false) hs];rfl
 .have:=E'.gc d _ (codes i hi) [];rw[Ua]at this;exact this
 .have:=E'.ea d _ (codes i hi) [];rw[Ua]at this;exact this
 .have:=E'.ep d _ (codes i hi) [];rw[Ua]at this;exact this
theorem uW{us:List ay}{w:Str}{c i:Int}{u:ay}(h:u∈cC us w c i):(∃u'∈us,u.code=u'.code/\u.at'=u'.at')\/(u.code=c/\u.at'=i):=by
 unfold cC at h;have app:∀v:ay,u∈us++[v]->v.code=c->v.at'=i->(∃u'∈us,u.code=u'.code/\u.at'=u'.at')\/(u.code=c/\u.at'=i):=fun v hv h1 h2=>by
  rcases TJ.mp hv with hv|hv
  .exact .inl ⟨u,hv,rfl,rfl⟩
  .rw[Tw.mp hv];exact .inr ⟨h1,h2⟩
 generalize ge w=m at h;cases m
 .exact app _ h rfl rfl
 . generalize ((us.length==0)||kF (tM us))=m at h;cases m
   . rcases UH us with rfl|⟨us,v,rfl⟩
     .exact nomatch h
     . rw[Ui]at h ⊢;have h:u∈EM (us++[v]) (w=="ZWJ"):=h;rw[om]at h;rcases TJ.mp h with h|h
       .exact .inl ⟨u,Uu _ h,rfl,rfl⟩
       .rw[Tw.mp h];exact .inl ⟨v,UT _ (Tw.mpr rfl),rfl,rfl⟩
   .exact app _ h rfl rfl
theorem mD{cl:Int->Str}{u:ay}:∀{cs:List Int}{us:List ay}{i:Int},u∈aR cl us i cs->(∃u'∈us,u.code=u'.code/\u.at'=u'.at')\/(u.code∈cs/\i<=u.at'/\u.at'<i+cs.length)
 |[],us,i,h=>.inl ⟨u,h,rfl,rfl⟩
 |c::cs,us,i,h=>by
  have h:u∈aR cl (cC us (cl c) c i) (i+1) cs:=h;rw[Ug];rcases mD h with⟨u',h1,h2,h3⟩|⟨h1,h2,h3⟩
  . rcases uW h1 with⟨u'',h4,h5,h6⟩|⟨h5,h6⟩
    .exact .inl ⟨u'',h4,h2.trans h5,h3.trans h6⟩
    .exact .inr ⟨by rw[h2,h5];exact UG,ar2 [] [_,_,_] 262657 866937656 (Uk (Ul h6) :) (Uk (Ul h3) :) art,ar2 [_] [_,_,_] 262657 1262468941860398904 (Uk h6 :) (Uk h3 :) art⟩
  .exact .inr ⟨Va _ h1,ar1 [] [_,_] 513 864847160 h2 art,ar1 [_] [_,_] 513 42361427108816949780186424 h3 art⟩
def fs0(n:Nat):List V:=((List.replicate (n+1) (noV "LB9")).set n (q8 "LB3")).set 0 (noV "LB2")
noncomputable def fV(W:VD)(n:Nat):Nat->List V
 |0=>fs0 n
 |k+1=>(fV W n k).set (bM W (k+1:Nat)).at'.toNat (rn W (k+1:Nat))
theorem js{W:VD}{n:Nat}:∀{k:Nat},(fV W n k).length=n+1
 |0=>by unfold fV fs0;simp
 |k+1=>by unfold fV;rw[Ut];exact js
theorem wN{J:Hp}{n:Nat}{xs:List V}{k:Int}{v:V}(h:J[n]?=some (.list xs)):eo J (.ref n) (.int k) v=if aO k then(seqIndex? k xs.length).map fun j=>J.set n (.list (xs.set j v))else none:=by show dJ J[n]? _ _=_;rw[h];rfl
theorem pw{J:Hp}{n i:Nat}{xs:List V}{v:V}(h:J[n]?=some (.list xs))(hi:i<xs.length)(hl:xs.length<1000000):eo J (.ref n) (.int i) v=some (J.set n (.list (xs.set i v))):=by
 have hs:aO (i:Int)=true:=b0 (TK (by decide) (TM _)) (Int.lt_trans (UF.mpr (VH ‹_› ‹_›)) (by decide));have:seqIndex? (i:Int) xs.length=some i:=by unfold seqIndex?;simp;lia
 rw[wN h,hs,this];rfl
theorem wO{t:Bool}{J:Hp}{xs:List V}{y:Int}(h1:0<=y)(h2:y<1000)(h3:xs.length<1000):dI t .Mult (.lst xs) (.int y) J=some (bG t (List.replicate y.toNat xs).flatten J):=by show(if decide (0<=y)&&decide (y<1000)&&decide (xs.length<1000)then _ else _)=_;rw[To h1,To h2,To h3];rfl
theorem NW{t:Bool}{J:Hp}{a b:Int}(h1:aO a=true)(h2:aO b=true):tyI t "range" [.int a,.int b] J=some (.rng a b,J):=by show(if aO a&&aO b then _ else _)=_;rw[h1,h2];rfl
theorem uX{J:Hp}{a b:Int}(h1:aO a=true)(h2:aO b=true):gZ J (.rng a b)=some (.rng a b):=by show(if aO a&&aO b then _ else _)=_;rw[h1,h2];rfl
section
variable{P:Params}{d D h:Nat}{J s s':Hp}{us:List ay}{t:V}{o:Option V}{fs l0 l1 l2:List V}{k a N:Int}{v:V}{u m n:Nat}{l:Loc}
abbrev vdS(P:Params):Stmt:=db 4 (dR P).body
noncomputable abbrev vdL(t:V)(D h F n:Nat)(o:Option V):Loc:=[("text",.v (some t)),("data",.v (some (.inst "Data" D))),("how",.v (some (.inst "LineHow" h))),("found",.v (some (.ref F))),("view",.v (some (.inst "LineView" n))),("at",.v o),("len",.g),("LineView",.g),("range",.g),("line_verdict",.g)]
noncomputable abbrev NY(P:Params)(d:Nat)(it:It)(loc:Loc)(J:Hp)(l:Loc)(s:Hp):Prop:=eW (aJ P d (bf (vdS P))) (av P d (bj (vdS P))) (bf (vdS P)) it loc J .next l s
theorem JF{F:Nat}(R:bg P d n s "line_verdict" k v)(U:cU P n s "units" (.ref u))(I:UnF P s u k m)(A:bS (a_T P) s (.inst "LineUnit" m) "at"=some (.int a))(S:eo s (.ref F) (.int a) v=some s'):
 eZ (aJ P d (bf (vdS P))) (av P d (bj (vdS P))) (.int k) (vdL t D h F n o) s .next (vdL t D h F n (some (.int k))) s':=by
 intro k0 hk;exact aw (zR (zR (zD R (zR (zR (zV U (zV I (zV A (zS S (z0 hk))))))))))
theorem Rr{k1:Int}(f1:biI true "len" [t] J=some (.int k1,J))(f2:dI true .Mult (.lst [noV "LB9"]) (.int (k1+1)) J=some (.ref J.length,J++[ab.list l0]))(f3:biI true "len" [t] (J++[ab.list l0])=some (.int k1,J++[ab.list l0]))(f4:eo (J++[ab.list l0]) (.ref J.length) (.int k1) (q8 "LB3")=some (J++[ab.list l1]))(f5:eo (J++[ab.list l1]) (.ref J.length) (.int 0) (noV "LB2")=some (J++[ab.list l2]))(f6:cP P d "LineView" "__init__" [.inst "LineView" (J++[ab.list l2]).length,t,.inst "Data" D,.inst "LineHow" h] [] (J++[ab.list l2]++[.dict []]) .none s)(U:cU P (J++[ab.list l2]).length s "units" (.ref u))(L:biI true "len" [.ref u] s=some (.int N,s))(f7:tyI true "range" [.int 1,.int N] s=some (.rng 1 N,s))(f8:gZ s (.rng 1 N)=some (.rng 1 N))(f9:NY P d (.rng 1 N) (vdL t D h J.length (J++[ab.list l2]).length none) s (vdL t D h J.length (J++[ab.list l2]).length o) s'):
 cP P (d+1) "" "line_verdicts" [t,.inst "Data" D,.inst "LineHow" h] [] J (.ref J.length) s':=by
 exact ag (dR P) ([t,V.inst (Str.ofString "Data") D,V.inst (Str.ofString "LineHow") h]) (fun z=>(zP f1 (zP f2 (zP f3 (zS f4 (zS f5 (zN f6 (zV U (zP L (zP f7 (zI f8 (zL f9 (z0 z)))))).R.R.R).R.R).R.R)).R.R.R).C).R.R.R.R)
end
structure lA(J:Hp)(t:V)(cs:List Int):Prop where
 l:∀H,a7 (J++H) t=some (ivs cs)
 i:∀H,bF (J++H) t=some (ivs cs)
theorem lA.more{J H:Hp}{t:V}{cs:List Int}(X:lA J t cs):lA (J++H) t cs:=⟨fun H'=>by rw[Tl];exact X.l _,fun H'=>by rw[Tl];exact X.i _⟩
theorem lA.len{J H:Hp}{b:Bool}{t:V}{cs:List Int}(X:lA J t cs)(hn:cs.length<=500):biI b "len" [t] (J++H)=some (.int cs.length,J++H):=by show els (bF _ _) _ _=_;rw[X.i];show(if ba (ivs cs)then some (V.int ((ivs cs).length:Nat),_)else _)=_;rw[if_pos (ar (by rw[aK];exact Tk ‹_› (by decide))),aK]
theorem NZ{D h:Nat}{J:Hp}{c c':ab}{us:List ay}:(vO D h (J++[c]) us).set J.length c'=vO D h (J++[c']) us:=by unfold vO;rw[wM,wM,Tl,Tl,Tm,Tm];exact eK rfl
theorem EO{D h:Nat}{J:Hp}{c:ab}{us:List ay}:(vO D h (J++[c]) us)[J.length]?=some c:=by unfold vO;rw[wM,Tl,Uc (TB _),UB];rfl
theorem yC{P:Params}{d D h:Nat}{J:Hp}{t:V}{Y:np}{cs:List Int}(E:uU P J D h Y cs)(X:lA J t cs)(hn:cs.length<=500):
 cP P (d+9) "" "line_verdicts" [t,.inst "Data" D,.inst "LineHow" h] [] J (.ref J.length) (vO D h (J++[.list (fV (eT Y (aR Y.cl [] 0 cs)) cs.length ((aR Y.cl [] 0 cs).length-1))]) (aR Y.cl [] 0 cs)):=by
 generalize hus:aR Y.cl [] 0 cs=us;have hl:us.length<=cs.length:=by have:=i9 (cl:=Y.cl) (xs:=cs) (us:=[]) (i:=0);rw[hus]at this;simpa using this
 have hm:∀u∈us,u.code∈cs/\0<=u.at'/\u.at'<cs.length:=fun u hu=>by
  rw[<-hus]at hu;rcases mD hu with⟨u',h1,_⟩|⟨h1,h2,h3⟩
  .exact nomatch h1
  .exact⟨h1,h2,ar1 [_] [_] 513 126146695368279352 h3 art⟩
 have A:∀fs,yx P (vO D h (J++[.list fs]) us) (J++[ab.list fs]).length ((J++[ab.list fs]).length+1) _ _ _ h D (eT Y us):=fun fs=>JE E.more (fun u hu=>(hm u hu).1) (Tk (Tk ‹_› ‹_›) (by decide));have rng:(us.length:Int)-1=(us.length:Int)-1:=rfl;have hN:∀s,bD s (.rng 1 us.length)=some (us.length-1):=fun s=>Tx some (by lia);have iv:cP P (d+8) "LineView" "__init__" [.inst "LineView" (J++[ab.list (fs0 cs.length)]).length,t,.inst "Data" D,.inst "LineHow" h] [] (J++[.list (fs0 cs.length)]++[.dict []]) .none (vO D h (J++[.list (fs0 cs.length)]) us):=by
  refine NV (d:=d+6) ?_ (Tk (Tk ‹_› ‹_›) (by decide));have:=JB (P:=P) (d:=d+5) (D:=D) (h:=h) (J:=J++[.list (fs0 cs.length)]++[.dict [("data",.inst "Data" D),("how",.inst "LineHow" h)]]) (t:=t) (cl:=Y.cl) (cs:=cs) hn
   (fun H=>(X.more.more).l H) (fun c hc H=>(E.more.more).cls d c hc H)
  rw[hus,Tm (as:=J++_)]at this;exact this
 refine Tu (dA (N:=us.length-1) (it:=.rng 1 us.length) (loc:=vdL t D h J.length (J++[ab.list (fs0 cs.length)]).length none) (J:=vO D h (J++[.list (fs0 cs.length)]) us) (tg:=bf (vdS P)) (asg:=aJ P (d+8) (bf (vdS P))) (body:=av P (d+8) (bj (vdS P)))
  (fun n l s=>s=vO D h (J++[.list (fV (eT Y us) cs.length n)]) us/\∃o,l=vdL t D h J.length (J++[ab.list (fs0 cs.length)]).length o) (fun n l s hi I=>?_) (fun l s I=>hN _) (hN _) (by rfl') ⟨rfl,none,rfl⟩) fun l hh=>?_
 . refine tz (I) ?_;rintro rfl o rfl;have B:=A (fV (eT Y us) cs.length n);have hi':n+1<us.length:=by omega
   have R:=BI B (d:=d+1) (i:=n) hi';have e:=lY (d:=(⟨"",0,0,false⟩:ay)) hi';have vu:=oq (D:=D) (h:=h) (n:=us.length) (J:=J++[.list (fV (eT Y us) cs.length n)]) (us:=us) (sol:=bz (-1) 0 us) (reg:=ci 0 us) (num:=bW false us) e;have ha:=hm _ (TZ e);have I:=iS (oo (D:=D) (h:=h) (n:=us.length) (J:=J++[.list (fV (eT Y us) cs.length n)]) (us:=us) (sol:=bz (-1) 0 us) (reg:=ci 0 us) (num:=bW false us)) (i:=n+1) (v:=.inst "LineUnit" ((J++[ab.list (fV (eT Y us) cs.length n)]).length+2+(n+1)))
    (by unfold fF;rw[Ty,V4 hi'];rfl) (by rw[d3];exact Ts (Tk ‹_› ‹_›) (by decide))
   have S:=pw (EO (D:=D) (h:=h) (J:=J) (c:=.list (fV (eT Y us) cs.length n)) (us:=us)) (i:=(us.getD (n+1) ⟨"",0,0,false⟩).at'.toNat) (v:=rn (eT Y us) (n+1:Nat)) (by rw[js];exact ar2 [_,_] [_] 262656 47847704520566506808 (qI (a:=(us.getD (n+1) { w:=Str.ofString "",code:=0,at':=0,j:=false}).at') (ar1 [] [_] 513 795400 ha.2.1 art)) ha.2.2 art) (by rw[js];exact Ts (UD ‹_› _) (by decide));rw[NZ,Vk ha.2.1]at S;have st:=JF (t:=t) (D:=D) (h:=h) (o:=o) R B.U I (ax (luC P) vu rfl rfl) S;have le:(J++[ab.list (fV (eT Y us) cs.length n)]).length=(J++[ab.list (fs0 cs.length)]).length:=by rw[Tm,Tm];rfl
   rw[le]at st;refine⟨hN _,.int (n+1:Nat),.next,_,_,?_,st,.inl rfl,rfl,some (.int (n+1:Nat)),rfl⟩;show some (V.int (1+n))=_;rw[show(1:Int)+n=((n+1:Nat):Int) by exact are [_] [] 1 104471760393 art art]
 . refine ae (hh) ?_;rintro s ⟨rfl,o,rfl⟩ h1;have B:=A (fs0 cs.length);have f1:=X.len (H:=[]) (b:=true) hn;rw[Ua]at f1;have sm:aO (us.length:Int)=true:=b0 (TK (by decide) (TM _)) (ar2 [_,_] [] 1 170141183460469231746892902517559658704 hl hn art);refine Rr (l0:=List.replicate (cs.length+1) (noV "LB9")) (l1:=(List.replicate (cs.length+1) (noV "LB9")).set cs.length (q8 "LB3")) f1 ?_ (X.len hn) ?_ ?_ iv B.U B.L ?_ ?_ h1
   . rw[wO (by exact ar0 [_] [] 1 1347080 art) (by exact ar1 [_] [] 1 36896011607182210107600 hn art) (by decide)];have:(List.replicate ((cs.length:Int)+1).toNat [noV "LB9"]).flatten=List.replicate (cs.length+1) (noV "LB9"):=by rw[show((cs.length:Int)+1).toNat=cs.length+1 by exact rfl,List.flatten_replicate_singleton]
     rw[this];rfl
   .have:=pw (J:=J++[.list (List.replicate (cs.length+1) (noV "LB9"))]) (n:=J.length) (i:=cs.length) (v:=q8 "LB3") aN (by simp) (by simp;exact Ts (UD ‹_› _) (by decide));rw[this,eK rfl]
   .have:=pw (J:=J++[.list ((List.replicate (cs.length+1) (noV "LB9")).set cs.length (q8 "LB3"))]) (n:=J.length) (i:=0) (v:=noV "LB2") aN (by simp) (by simp;exact Ts (UD ‹_› _) (by decide));exact this.trans (by rw[eK rfl];rfl)
   .exact NW (by decide) sm
   .exact uX (by decide) sm
theorem EQ{J:Hp}{xs:List V}{v:V}{n:Nat}(h:xs[n-1]?=some v)(h1:1<=n)(hl:xs.length<1000000):af J (.lst xs) (.int ((n:Int)-1))=some v:=by obtain⟨h2,h3⟩:=Tr.mp h;refine jF.trans ?_;rw[show((n:Int)-1)=((n-1:Nat):Int) by exact VN (ar1 [_,_] [] 1 124323314574896 (iX (n:=n) (m:=1) (ar1 [_] [] 0 534025 h1 art)) art) (ar1 [_,_] [] 1 80385799652656 (fp (n:=n) (m:=1) (ar1 [_] [] 0 534025 h1 art)) art),lu rfl h2 hl,h3]
theorem N3{xs:List V}{n:Nat}(h:n<=xs.length):oV xs none (some (n:Int))=xs.take n:=by unfold oV kms_lo kms_hi;have h1:¬((n:Int)<0):=U9 (ar0 [_] [] 1 3592 art);simp only[List.drop_zero,h1,WG,Nat.sub_zero];simp<;>omega
theorem ER{xs:List V}{n:Nat}(h:n<=xs.length):oV xs (some (n:Int)) none=xs.drop n:=by unfold oV kms_lo kms_hi;have h1:¬((n:Int)<0):=U9 (ar0 [_] [] 1 3592 art);simp only[h1,WG];simp;rw[Wy h,List.take_of_length_le (by rw[Wr];exact TB _)]
theorem ES{J:Hp}{o:V}{xs:List V}{n:Nat}(h:a7 J o=some xs)(hn:n<=xs.length)(hl:ba xs=true)(hs:n<1000000):bm false J o .none (.int n) .none=some (.lst (xs.take n),J):=by have sm:aO (n:Int)=true:=b0 (TK (by decide) (TM _)) (ar1 [_] [] 1 174224571863520493308818332158158073693488 hs art);rw[nV h hl (a:=none) rfl (jp sm),N3 hn];rfl
theorem lB{J:Hp}{o:V}{xs:List V}{n:Nat}(h:a7 J o=some xs)(hn:n<=xs.length)(hl:ba xs=true)(hs:n<1000000):bm false J o (.int n) .none .none=some (.lst (xs.drop n),J):=by have sm:aO (n:Int)=true:=b0 (TK (by decide) (TM _)) (ar1 [_] [] 1 174224571863520493308818332158158073693488 hs art);rw[nV h hl (jp sm) (b:=none) rfl,ER hn];rfl
theorem rA{J:Hp}{a b:V}{xs ys:List V}(h1:a7 J a=some xs)(h2:a7 J b=some ys)(hl:ba (xs++ys)=true)(n1:∀x,a=.int x->False)(n2:∀x,a=.tup x->False):dI false .Add a b J=some (.lst (xs++ys),J):=by
 have key:((a7 J a).bind fun xs=>(a7 J b).bind fun ys=>if ba (xs++ys)then some (bG false (xs++ys) J)else none)=some (.lst (xs++ys),J):=by rw[h1,h2];exact if_pos hl
 cases a with|int x=>exact(n1 x rfl).elim|tup x=>exact(n2 x rfl).elim|_=>exact key
theorem zY{J:Hp}{b:V}{xs ys:List V}(h2:a7 J b=some ys)(hl:ba (xs++ys)=true):dI false .Add (.lst xs) b J=some (.lst (xs++ys),J):=rA rfl h2 hl (fun _ e=>nomatch e) (fun _ e=>nomatch e)
theorem ET{T:Tab}{J H:Hp}{c a:Str}{n:Nat}{es:List (Str×V)}{v:V}(cd:cF)(h:J[n]?=some (.dict es))(h1:T.cls.lookup c=some cd)(h2:cd.attrs.contains a=true)(h3:es.length<900):cY T (J++H) (.inst c n) a v=some (J.set n (.dict (em a v es))++H):=by rw[dU cd (aT h) h1 h2 h3,List.set_append_left _ _ (Tr.mp h).1]
theorem JG{T:Tab}{J:Hp}{x y:ab}{c a:Str}{n:Nat}{es:List (Str×V)}{v:V}(cd:cF)(h:J[n]?=some (.dict es))(h1:T.cls.lookup c=some cd)(h2:cd.attrs.contains a=true)(h3:es.length<900):cY T (J++[x]++[y]) (.inst c n) a v=some (J.set n (.dict (em a v es))++[x]++[y]):=by rw[Tl,ET cd h h1 h2 h3,Tl]
section
variable{P:Params}{d:Nat}{J:Hp}
variable{r S S1:Nat}{A A1 A2 A3 A4 B1 B2 B3 B4 MS MV vs:List V}{c p q:Int}{behind below value:V}{s1 s2 s3 s4:Hp}
noncomputable abbrev SG(P:Params)(J:Hp)(r:Nat)(a:Str)(v:V):Prop:=bS (a_T P) J (.inst "RangeMap" r) a=some v
noncomputable abbrev PL(P:Params)(d:Nat)(A:List V)(c:Int)(J:Hp)(p:Int):Prop:=cP P d "" "place_by_half" [.lst A,.int c] [] J (.int p) J
noncomputable abbrev RL(P:Params)(d:Nat)(a b:V)(J:Hp)(x:Bool):Prop:=cP P d "" "range_are_like" [a,b] [] J (.bool x) J
theorem EU(k1:SG P J r "starts" (.lst A))(k2:SG P J r "values" (.lst vs))(dd:decide (c<c)=false)(hp1:PL P d A (c-1) J p)(hp2:PL P d A (c+1) J q)(q1:af J (.lst vs) (.int (q+1-1))=some behind)(L1:RL P d behind value (J++[ab.list [.int c]]++[ab.list [value]]) true)(dm:decide (c<1114111)=true)(dl:decide (0<p+1)=true)(k3:SG P (J++[ab.list [.int c]]++[ab.list [value]]) r "values" (.lst vs))(q2:af (J++[ab.list [.int c]]++[ab.list [value]]) (.lst vs) (.int (p+1-1))=some below)(L2:RL P d below value (J++[ab.list [.int c]]++[ab.list [value]]) true)(sl1:bm false (J++[ab.list [.int c]]++[ab.list [value]]) (.ref S) (.int 1) .none .none=some (.lst MS,(J++[ab.list [.int c]]++[ab.list [value]])))(sl2:bm false (J++[ab.list [.int c]]++[ab.list [value]]) (.ref S1) (.int 1) .none .none=some (.lst MV,(J++[ab.list [.int c]]++[ab.list [value]])))(k4:SG P (J++[ab.list [.int c]]++[ab.list [value]]) r "starts" (.lst A))(x1:bm false (J++[ab.list [.int c]]++[ab.list [value]]) (.lst A) .none (.int (p+1)) .none=some (.lst A1,(J++[ab.list [.int c]]++[ab.list [value]])))(y1:dI false .Add (.lst A1) (.lst MS) (J++[ab.list [.int c]]++[ab.list [value]])=some (.lst A2,(J++[ab.list [.int c]]++[ab.list [value]])))(x2:bm false (J++[ab.list [.int c]]++[ab.list [value]]) (.lst A) (.int (q+1)) .none .none=some (.lst A3,(J++[ab.list [.int c]]++[ab.list [value]])))(y2:dI false .Add (.lst A2) (.lst A3) (J++[ab.list [.int c]]++[ab.list [value]])=some (.lst A4,(J++[ab.list [.int c]]++[ab.list [value]])))(t1:cY (a_T P) (J++[ab.list [.int c]]++[ab.list [value]]) (.inst "RangeMap" r) "starts" (.lst A4)=some s3)(k5:SG P s3 r "values" (.lst vs))(x3:bm false s3 (.lst vs) .none (.int (p+1)) .none=some (.lst B1,s3))(y3:dI false .Add (.lst B1) (.lst MV) s3=some (.lst B2,s3))(x4:bm false s3 (.lst vs) (.int (q+1)) .none .none=some (.lst B3,s3))(y4:dI false .Add (.lst B2) (.lst B3) s3=some (.lst B4,s3))(t2:cY (a_T P) s3 (.inst "RangeMap" r) "values" (.lst B4)=some s4)(eS:S=J.length)(eS1:S1=(J++[ab.list [.int c]]).length):
 cP P (d+1) "RangeMap" "put" [.inst "RangeMap" r,.int c,.int c,value] [] J .none s4:=by
 subst eS;subst eS1;exact ag (cx P) ([V.inst (Str.ofString "RangeMap") r,V.int c,V.int c,value]) (fun z=>(zH dd (zV k1 (zD hp1 (zV k1 (zD hp2 (zV k2 (zV q1 (zH dm (zD L1 (zH dl (zV k3 (zV q2 (zD L2 (zP sl1 (zP sl2 (zV k4 (zP x1 (zP y1 (zV k4 (zP x2 (zP y2 (zS t1 (zV k5 (zP x3 (zP y3 (zV k5 (zP x4 (zP y4 (zS t2 (z0 z))))).R))).R.R)))).R))).R.R.R)).R.T)).C).R.R).C.F.C).R).C.R.R.R.R).C).R.R.C).C).R.R.R.C).C).R.R.R).C)
theorem EV(k1:SG P J r "starts" (.lst A))(k2:SG P J r "values" (.lst vs))(dd:decide (c<c)=false)(hp1:PL P d A (c-1) J p)(hp2:PL P d A (c+1) J q)(q1:af J (.lst vs) (.int (q+1-1))=some behind)(L1:RL P d behind value (J++[ab.list [.int c]]++[ab.list [value]]) true)(dm:decide (c<1114111)=true)(dl:decide (0<p+1)=true)(k3:SG P (J++[ab.list [.int c]]++[ab.list [value]]) r "values" (.lst vs))(q2:af (J++[ab.list [.int c]]++[ab.list [value]]) (.lst vs) (.int (p+1-1))=some below)(L2:RL P d below value (J++[ab.list [.int c]]++[ab.list [value]]) false)(k4:SG P (J++[ab.list [.int c]]++[ab.list [value]]) r "starts" (.lst A))(x1:bm false (J++[ab.list [.int c]]++[ab.list [value]]) (.lst A) .none (.int (p+1)) .none=some (.lst A1,(J++[ab.list [.int c]]++[ab.list [value]])))(y1:dI false .Add (.lst A1) (.ref S) (J++[ab.list [.int c]]++[ab.list [value]])=some (.lst A2,(J++[ab.list [.int c]]++[ab.list [value]])))(x2:bm false (J++[ab.list [.int c]]++[ab.list [value]]) (.lst A) (.int (q+1)) .none .none=some (.lst A3,(J++[ab.list [.int c]]++[ab.list [value]])))(y2:dI false .Add (.lst A2) (.lst A3) (J++[ab.list [.int c]]++[ab.list [value]])=some (.lst A4,(J++[ab.list [.int c]]++[ab.list [value]])))(t1:cY (a_T P) (J++[ab.list [.int c]]++[ab.list [value]]) (.inst "RangeMap" r) "starts" (.lst A4)=some s3)(k5:SG P s3 r "values" (.lst vs))(x3:bm false s3 (.lst vs) .none (.int (p+1)) .none=some (.lst B1,s3))(y3:dI false .Add (.lst B1) (.ref S1) s3=some (.lst B2,s3))(x4:bm false s3 (.lst vs) (.int (q+1)) .none .none=some (.lst B3,s3))(y4:dI false .Add (.lst B2) (.lst B3) s3=some (.lst B4,s3))(t2:cY (a_T P) s3 (.inst "RangeMap" r) "values" (.lst B4)=some s4)(eS:S=J.length)(eS1:S1=(J++[ab.list [.int c]]).length):
 cP P (d+1) "RangeMap" "put" [.inst "RangeMap" r,.int c,.int c,value] [] J .none s4:=by
 subst eS;subst eS1;exact ag (cx P) ([V.inst (Str.ofString "RangeMap") r,V.int c,V.int c,value]) (fun z=>(zH dd (zV k1 (zD hp1 (zV k1 (zD hp2 (zV k2 (zV q1 (zH dm (zD L1 (zH dl (zV k3 (zV q2 (zD L2 (zV k4 (zP x1 (zP y1 (zV k4 (zP x2 (zP y2 (zS t1 (zV k5 (zP x3 (zP y3 (zV k5 (zP x4 (zP y4 (zS t2 (z0 z))))).R))).R.R)))).R))).R.R.F)).C).R.R).C.F.C).R).C.R.R.R.R).C).R.R.C).C).R.R.R.C).C).R.R.R).C)
theorem EW(k1:SG P J r "starts" (.lst A))(k2:SG P J r "values" (.lst vs))(dd:decide (c<c)=false)(hp1:PL P d A (c-1) J p)(hp2:PL P d A (c+1) J q)(q1:af J (.lst vs) (.int (q+1-1))=some behind)(L1:RL P d behind value (J++[ab.list [.int c]]++[ab.list [value]]) false)(dm:decide (c<1114111)=true)(dl:decide (0<p+1)=true)(m1:bd (a_T P) (J++[ab.list [.int c]]++[ab.list [value]]) (.ref S) "append"=some (.bi "list.append"))(b1:aQ (J++[ab.list [.int c]]++[ab.list [value]]) "list.append" (.ref S) [.int (c+1)]=some (.none,s1))(m2:bd (a_T P) s1 (.ref S1) "append"=some (.bi "list.append"))(b2:aQ s1 "list.append" (.ref S1) [behind]=some (.none,s2))(k3:SG P s2 r "values" (.lst vs))(q2:af s2 (.lst vs) (.int (p+1-1))=some below)(L2:RL P d below value s2 true)(sl1:bm false s2 (.ref S) (.int 1) .none .none=some (.lst MS,s2))(sl2:bm false s2 (.ref S1) (.int 1) .none .none=some (.lst MV,s2))(k4:SG P s2 r "starts" (.lst A))(x1:bm false s2 (.lst A) .none (.int (p+1)) .none=some (.lst A1,s2))(y1:dI false .Add (.lst A1) (.lst MS) s2=some (.lst A2,s2))(x2:bm false s2 (.lst A) (.int (q+1)) .none .none=some (.lst A3,s2))(y2:dI false .Add (.lst A2) (.lst A3) s2=some (.lst A4,s2))(t1:cY (a_T P) s2 (.inst "RangeMap" r) "starts" (.lst A4)=some s3)(k5:SG P s3 r "values" (.lst vs))(x3:bm false s3 (.lst vs) .none (.int (p+1)) .none=some (.lst B1,s3))(y3:dI false .Add (.lst B1) (.lst MV) s3=some (.lst B2,s3))(x4:bm false s3 (.lst vs) (.int (q+1)) .none .none=some (.lst B3,s3))(y4:dI false .Add (.lst B2) (.lst B3) s3=some (.lst B4,s3))(t2:cY (a_T P) s3 (.inst "RangeMap" r) "values" (.lst B4)=some s4)(eS:S=J.length)(eS1:S1=(J++[ab.list [.int c]]).length):
 cP P (d+1) "RangeMap" "put" [.inst "RangeMap" r,.int c,.int c,value] [] J .none s4:=by
 subst eS;subst eS1;exact ag (cx P) ([V.inst (Str.ofString "RangeMap") r,V.int c,V.int c,value]) (fun z=>(zH dd (zV k1 (zD hp1 (zV k1 (zD hp2 (zV k2 (zV q1 (zH dm (zD L1 (zK m1 (zP b1 (zK m2 (zP b2 (zH dl (zV k3 (zV q2 (zD L2 (zP sl1 (zP sl2 (zV k4 (zP x1 (zP y1 (zV k4 (zP x2 (zP y2 (zS t1 (zV k5 (zP x3 (zP y3 (zV k5 (zP x4 (zP y4 (zS t2 (z0 z))))).R))).R.R)))).R))).R.R.R)).R.T)).C).R.R).C)).R.Q).C).R.Q.T.C).R).C.R.R.R.R).C).R.R.C).C).R.R.R.C).C).R.R.R).C)
theorem EY(k1:SG P J r "starts" (.lst A))(k2:SG P J r "values" (.lst vs))(dd:decide (c<c)=false)(hp1:PL P d A (c-1) J p)(hp2:PL P d A (c+1) J q)(q1:af J (.lst vs) (.int (q+1-1))=some behind)(L1:RL P d behind value (J++[ab.list [.int c]]++[ab.list [value]]) false)(dm:decide (c<1114111)=true)(dl:decide (0<p+1)=true)(m1:bd (a_T P) (J++[ab.list [.int c]]++[ab.list [value]]) (.ref S) "append"=some (.bi "list.append"))(b1:aQ (J++[ab.list [.int c]]++[ab.list [value]]) "list.append" (.ref S) [.int (c+1)]=some (.none,s1))(m2:bd (a_T P) s1 (.ref S1) "append"=some (.bi "list.append"))(b2:aQ s1 "list.append" (.ref S1) [behind]=some (.none,s2))(k3:SG P s2 r "values" (.lst vs))(q2:af s2 (.lst vs) (.int (p+1-1))=some below)(L2:RL P d below value s2 false)(k4:SG P s2 r "starts" (.lst A))(x1:bm false s2 (.lst A) .none (.int (p+1)) .none=some (.lst A1,s2))(y1:dI false .Add (.lst A1) (.ref S) s2=some (.lst A2,s2))(x2:bm false s2 (.lst A) (.int (q+1)) .none .none=some (.lst A3,s2))(y2:dI false .Add (.lst A2) (.lst A3) s2=some (.lst A4,s2))(t1:cY (a_T P) s2 (.inst "RangeMap" r) "starts" (.lst A4)=some s3)(k5:SG P s3 r "values" (.lst vs))(x3:bm false s3 (.lst vs) .none (.int (p+1)) .none=some (.lst B1,s3))(y3:dI false .Add (.lst B1) (.ref S1) s3=some (.lst B2,s3))(x4:bm false s3 (.lst vs) (.int (q+1)) .none .none=some (.lst B3,s3))(y4:dI false .Add (.lst B2) (.lst B3) s3=some (.lst B4,s3))(t2:cY (a_T P) s3 (.inst "RangeMap" r) "values" (.lst B4)=some s4)(eS:S=J.length)(eS1:S1=(J++[ab.list [.int c]]).length):
 cP P (d+1) "RangeMap" "put" [.inst "RangeMap" r,.int c,.int c,value] [] J .none s4:=by
 subst eS;subst eS1;exact ag (cx P) ([V.inst (Str.ofString "RangeMap") r,V.int c,V.int c,value]) (fun z=>(zH dd (zV k1 (zD hp1 (zV k1 (zD hp2 (zV k2 (zV q1 (zH dm (zD L1 (zK m1 (zP b1 (zK m2 (zP b2 (zH dl (zV k3 (zV q2 (zD L2 (zV k4 (zP x1 (zP y1 (zV k4 (zP x2 (zP y2 (zS t1 (zV k5 (zP x3 (zP y3 (zV k5 (zP x4 (zP y4 (zS t2 (z0 z))))).R))).R.R)))).R))).R.R.F)).C).R.R).C)).R.Q).C).R.Q.T.C).R).C.R.R.R.R).C).R.R.C).C).R.R.R.C).C).R.R.R).C)
noncomputable def e7{α:Type}(b1 b2:Bool)(x y:α):List α:=cond b2 [] [x]++cond b1 [] [y]
theorem wP{α:Type}{b1 b2:Bool}{x y:α}:(e7 b1 b2 x y).length<=2:=by cases b1<;>cases b2<;>first|exact TB _|exact Vm _|exact VC _
noncomputable def sLL(c:Int)(value behind:V)(b1:Bool)(J:Hp):Hp:=J++[ab.list (.int c::cond b1 [] [.int (c+1)])]++[ab.list (value::cond b1 [] [behind])]
theorem Rs{fs:List Int}{lo hi:Nat}{dflt:V}{b1 b2:Bool}(hr:J[r]?=some (jN dflt fs vs))(hp1:PL P d (ivs fs) (c-1) J p)(hp2:PL P d (ivs fs) (c+1) J q)(e1:p+1=lo)(e2:q+1=hi)(hlo:lo<=fs.length)(hhi:hi<=fs.length)(p1:1<=lo)(p2:1<=hi)(hv:vs.length=fs.length)(hn:fs.length<=400)(hc:c<1114111)(hb:vs[hi-1]?=some behind)(ha:vs[lo-1]?=some below)(l1:∀s,RL P d behind value s b1)(l2:∀s,RL P d below value s b2):
 cP P (d+1) "RangeMap" "put" [.inst "RangeMap" r,.int c,.int c,value] [] J .none (sLL c value behind b1 (J.set r (jN dflt (fs.take lo++e7 b1 b2 c (c+1)++fs.drop hi) (vs.take lo++e7 b1 b2 value behind++vs.drop hi)))):=by
 have G:∀(s:Hp) (x y:List V),s[r]?=some (.dict [("default",dflt),("starts",.lst x),("values",.lst y)])->SG P s r "starts" (.lst x)/\SG P s r "values" (.lst y):=fun s x y h=>⟨ax (rmC P) h rfl rfl,ax (rmC P) h rfl rfl⟩;have own:∀(b:Bool) (s:Hp) {x:ab},s[r]?=some x->(sLL c value behind b s)[r]?=some x:=fun b s x h=>aT (aT h);have at0:∀(b:Bool) (s:Hp),(sLL c value behind b s)[s.length]?=some (ab.list (.int c::cond b [] [.int (c+1)])):=fun b s=>by unfold sLL;exact aT aN
 have at1:∀(b:Bool) (s:Hp),(sLL c value behind b s)[(s++[ab.list [.int c]]).length]?=some (ab.list (value::cond b [] [behind])):=fun b s=>by
  have:(s++[ab.list [.int c]]).length=(s++[ab.list (.int c::cond b [] [.int (c+1)])]).length:=by rw[Tm,Tm];rfl
  rw[this];unfold sLL;exact aN
 have sI:∀(b:Bool) (s:Hp) {es:List (Str×V)} (a:Str) (v:V),s[r]?=some (.dict es)->(rmC P).attrs.contains a=true->es.length<900->cY (a_T P) (sLL c value behind b s) (.inst "RangeMap" r) a v=some (sLL c value behind b (s.set r (.dict (em a v es)))):=fun b s es a v h h1 h2=>JG (rmC P) h (by rfl') h1 h2;have dd:decide (c<c)=false:=Tz (Int.lt_irrefl c);have dm:=To hc;have dl:decide (0<p+1)=true:=by rw[e1];exact To (ar1 [_] [] 1 3759448585 p1 art)
 have sm1:lo<1000000:=Ts (Tk ‹_› ‹_›) (by decide);have sm2:hi<1000000:=Ts (Tk ‹_› ‹_›) (by decide);have lv:vs.length<=1000000:=Tk (TF ‹_›) (Tk ‹_› (by decide));have lf:(ivs fs).length<=1000000:=by rw[aK];exact Tk ‹_› (by decide)
 have ln:∀{xs ys zs:List V}{k:Nat},xs.length<=400->ys.length<=2->zs.length<=400->ba (xs++ys)=true/\ba (xs++ys++zs)=true:=fun h1 h2 h3=>⟨ar (by rw[Tm];exact Tk (Nat.add_le_add ‹_› ‹_›) (by decide)),ar (by rw[Tm,Tm];exact ar3 [_,_,_] [] 0 39614086442896856575550589986408656 h3 h2 h1 art)⟩;have t4:∀(xs:List V) (k:Nat),xs.length=fs.length->(xs.take k).length<=400:=fun xs k h=>Tk (List.length_take_le' _ _) (Tk (TF ‹_›) (Tk ‹_› (by decide)));have d4:∀(xs:List V) (k:Nat),xs.length=fs.length->(xs.drop k).length<=400:=fun xs k h=>by rw[Wr];exact ar3 [_,_,_] [] 0 461248067482851739856 (W5 (xs.length) (k)) (TF h :) hn art
 have iq:∀(s:Hp) (x:Nat) (i:Int) (v:V),i+1=x->1<=x->vs[x-1]?=some v->af s (.lst vs) (.int (i+1-1))=some v:=fun s x i v e h1 h2=>by rw[e];exact EQ h2 h1 (Ts (TF ‹_›) (Ts ‹_› (by decide)))
 have xT:∀(s:Hp) (xs:List V),xs.length=fs.length->xs.length<=1000000->bm false s (.lst xs) .none (.int (p+1)) .none=some (.lst (xs.take lo),s):=fun s xs h hl=>by rw[e1];exact ES rfl (Tk ‹_› (TF (Ul ‹_›))) (ar hl) sm1
 have xD:∀(s:Hp) (xs:List V),xs.length=fs.length->xs.length<=1000000->bm false s (.lst xs) (.int (q+1)) .none .none=some (.lst (xs.drop hi),s):=fun s xs h hl=>by rw[e2];exact lB rfl (Tk ‹_› (TF (Ul ‹_›))) (ar hl) sm2
 have yA:∀(s:Hp) (xs ys:List V) (m:V),a7 s m=some ys->xs.length=fs.length->ys.length<=2->dI false .Add (.lst (xs.take lo)) m s=some (.lst (xs.take lo++ys),s)/\dI false .Add (.lst (xs.take lo++ys)) (.lst (xs.drop hi)) s=some (.lst (xs.take lo++ys++xs.drop hi),s):=fun s xs ys m h h1 h2=>
  have l:=ln (k:=0) (t4 xs lo h1) h2 (d4 xs hi h1)
  ⟨zY h l.1,zY rfl l.2⟩
 have ivl:(ivs fs).length=fs.length:=aK;have eN:(ivs fs).take lo++e7 b1 b2 (V.int c) (.int (c+1))++(ivs fs).drop hi=ivs (fs.take lo++e7 b1 b2 c (c+1)++fs.drop hi):=by unfold ivs;rw[TI,TI,WY,WZ];cases b1<;>cases b2<;>rfl
 have k12:=G J _ _ hr;have hr3:=dg (c:=.dict [("default",dflt),("starts",.lst ((ivs fs).take lo++e7 b1 b2 (V.int c) (.int (c+1))++(ivs fs).drop hi)),("values",.lst vs)]) hr;have k34:=G _ _ _ (own b1 J hr);have k5:=G _ _ _ (own b1 _ hr3);have t1:=sI b1 J "starts" (.lst ((ivs fs).take lo++e7 b1 b2 (V.int c) (.int (c+1))++(ivs fs).drop hi)) hr (by rfl') (by simp);have t2:=sI b1 _ "values" (.lst (vs.take lo++e7 b1 b2 value behind++vs.drop hi)) hr3 (by rfl') (by simp);rw[List.set_set]at t2;have fin:sLL c value behind b1 (J.set r (.dict (em "values" (.lst (vs.take lo++e7 b1 b2 value behind++vs.drop hi)) [("default",dflt),("starts",.lst ((ivs fs).take lo++e7 b1 b2 (V.int c) (.int (c+1))++(ivs fs).drop hi)),("values",.lst vs)])))=sLL c value behind b1 (J.set r (jN dflt (fs.take lo++e7 b1 b2 c (c+1)++fs.drop hi) (vs.take lo++e7 b1 b2 value behind++vs.drop hi))):=by rw[eN];rfl
 rw[<-fin];have l0:=cp (at0 b1 J);have l3:∀x,(J.set r x).length=J.length:=fun _=>Ut;have s3l:∀x,a7 (sLL c value behind b1 (J.set r x)) (.ref (J++[ab.list [.int c]]).length)=some (value::cond b1 [] [behind]):=fun x=>by have:=cp (at1 b1 (J.set r x));rw[Tm,l3,<-Tm (bs:=[ab.list [.int c]])]at this;exact this
 have n2:∀(b:Bool) (x y:V),(x::cond b [] [y]).length<=2:=fun b x y=>by cases b<;>simp
 have sA:=lB (n:=1) l0 (by simp) (ar (Tk (n2 b1 _ _) (by decide))) (by decide);have sB:=lB (n:=1) (cp (at1 b1 J)) (by simp) (ar (Tk (n2 b1 _ _) (by decide))) (by decide);have yS:=yA (sLL c value behind b1 J) (ivs fs) (e7 b1 b2 (.int c) (.int (c+1))) (cond b2 (.lst (cond b1 [] [.int (c+1)])) (.ref J.length)) (by cases b2;exact l0;rfl) ivl wP;have yV:=fun x=>yA (sLL c value behind b1 (J.set r x)) vs (e7 b1 b2 value behind) (cond b2 (.lst (cond b1 [] [behind])) (.ref (J++[ab.list [.int c]]).length)) (by cases b2;exact s3l x;rfl) hv wP;have a0:(J++[ab.list [.int c]]++[ab.list [value]])[J.length]?=some (ab.list [.int c]):=at0 true J;have a1:(J++[ab.list [.int c,.int (c+1)]]++[ab.list [value]])[(J++[ab.list [.int c]]).length]?=some (ab.list [value]):=by
  have:(J++[ab.list [.int c]]).length=(J++[ab.list [.int c,.int (c+1)]]).length:=by rw[Tm,Tm];rfl
  rw[this];exact aN
 have bm1:aQ (J++[ab.list [.int c]]++[ab.list [value]]) "list.append" (.ref J.length) [.int (c+1)]=some (.none,J++[ab.list [.int c,.int (c+1)]]++[ab.list [value]]):=by rw[dz a0 (ar (by simp)),Tl,Vp,eK rfl,Tl];rfl
 have bm2:aQ (J++[ab.list [.int c,.int (c+1)]]++[ab.list [value]]) "list.append" (.ref (J++[ab.list [.int c]]).length) [behind]=some (.none,sLL c value behind false J):=by rw[dz a1 (ar (by simp)),show(J++[ab.list [V.int c]]).length=(J++[ab.list [V.int c,V.int (c+1)]]).length by rw[Tm,Tm];rfl,eK rfl];rfl
 cases b1<;>cases b2
 .exact EY k12.1 k12.2 dd hp1 hp2 (iq _ _ _ _ e2 p2 hb) (l1 _) dm dl (aM a0) bm1 (aM a1) bm2 k34.2 (iq _ _ _ _ e1 p1 ha) (l2 _) k34.1 (xT _ _ ivl lf) yS.1 (xD _ _ ivl lf) yS.2 t1 k5.2 (xT _ _ hv lv) (yV _).1 (xD _ _ hv lv) (yV _).2 t2 rfl rfl
 .exact EW k12.1 k12.2 dd hp1 hp2 (iq _ _ _ _ e2 p2 hb) (l1 _) dm dl (aM a0) bm1 (aM a1) bm2 k34.2 (iq _ _ _ _ e1 p1 ha) (l2 _) sA sB k34.1 (xT _ _ ivl lf) yS.1 (xD _ _ ivl lf) yS.2 t1 k5.2 (xT _ _ hv lv) (yV _).1 (xD _ _ hv lv) (yV _).2 t2 rfl rfl
 .exact EV k12.1 k12.2 dd hp1 hp2 (iq _ _ _ _ e2 p2 hb) (l1 _) dm dl k34.2 (iq _ _ _ _ e1 p1 ha) (l2 _) k34.1 (xT _ _ ivl lf) yS.1 (xD _ _ ivl lf) yS.2 t1 k5.2 (xT _ _ hv lv) (yV _).1 (xD _ _ hv lv) (yV _).2 t2 rfl rfl
 .exact EU k12.1 k12.2 dd hp1 hp2 (iq _ _ _ _ e2 p2 hb) (l1 _) dm dl k34.2 (iq _ _ _ _ e1 p1 ha) (l2 _) sA sB k34.1 (xT _ _ ivl lf) yS.1 (xD _ _ ivl lf) yS.2 t1 k5.2 (xT _ _ hv lv) (yV _).1 (xD _ _ hv lv) (yV _).2 t2 rfl rfl
end
structure wQ(ps:List (Int×V))(F:Int->V):Prop where
 asc:ps.Pairwise fun a b=>a.1<b.1
 head:∃q,ps.head?=some q/\q.1=0
 val:∀c,0<=c->c<1114111->((ps.filter fun q=>decide (q.1<=c)).getLast?).map (·.2)=some (F c)
theorem yD{ps:List (Int×V)}(h:ps.Pairwise fun a b=>a.1<b.1):Asc (ps.map (·.1)):=by intro i j x y hij hx hy;rw[Ty]at hx hy;refine ae (TU.mp hx) ?_;rintro a ha rfl;refine ae (TU.mp hy) ?_;rintro b hb rfl;obtain⟨h1,rfl⟩:=Tr.mp ha;obtain⟨h2,rfl⟩:=Tr.mp hb;exact List.pairwise_iff_getElem.mp h i j h1 h2 hij
theorem rB{ps:List (Int×V)}{c:Int}{p:Nat}(h:Cut (ps.map (·.1)) c p):∀q∈ps.take p,q.1<=c:=by intro q hq;obtain⟨i,hi,rfl⟩:=VU.mp hq;rw[TY]at hi;rw[List.getElem_take];exact h.2.1 i _ (TG ‹_› (Wx _ _)) (by rw[Ty,Tq (TG ‹_› (Uq _ _))];rfl)
theorem rC{ps:List (Int×V)}{c:Int}{p:Nat}(h:Cut (ps.map (·.1)) c p):∀q∈ps.drop p,c<q.1:=by intro q hq;obtain⟨i,hi,rfl⟩:=VU.mp hq;rw[Wr]at hi;rw[List.getElem_drop];exact h.2.2 (p+i) _ (Uh _ _) (by rw[Ty,Tq (by grind)];rfl)
theorem qB{l:List (Int×V)}{c:Int}(h:∀q∈l,q.1<=c):l.filter (fun q=>decide (q.1<=c))=l:=List.filter_eq_self.mpr fun q hq=>To (h q hq)
theorem lC{l:List (Int×V)}{c:Int}(h:∀q∈l,c<q.1):l.filter (fun q=>decide (q.1<=c))=[]:=VK.mpr fun q hq=>by have:=h q hq;simp;omega
theorem yE{ps:List (Int×V)}{c:Int}{p:Nat}(h:Cut (ps.map (·.1)) c p):ps.filter (fun q=>decide (q.1<=c))=ps.take p:=by
 have e:ps=ps.take p++ps.drop p:=(VQ p ps).symm;conv=>lhs;rw[e]
 rw[U5,qB (rB h),lC (rC h),Ua]
theorem py{α:Type}{l:List α}{p:Nat}(h1:1<=p)(h2:p<=l.length):(l.take p).getLast?=l[p-1]?:=by rw[List.getLast?_eq_getElem?,TY,Wy h2,List.getElem?_take];rw[if_pos (by exact ar1 [_,_] [] 0 585508619568 (fp (n:=p) (m:=1) (ar1 [_] [] 0 534025 h1 art)) art)]
theorem lZ{ps:List (Int×V)}{F:Int->V}(M:wQ ps F){c:Int}{p:Nat}(h:Cut (ps.map (·.1)) c p)(hc:0<=c):1<=p:=by
 refine ae (M.head) ?_;rintro q hq h0;cases p with|succ p=>exact V6 _ _|zero=>have:=h.2.2 0 q.1 (TB _) (by rw[Ty,<-List.head?_eq_getElem?,hq];rfl);exact ar3 [] [_,_] 134480384 292196617855256 this hc (Uk h0 :) art
theorem uY{ps:List (Int×V)}{F:Int->V}(M:wQ ps F){c:Int}{p:Nat}(h:Cut (ps.map (·.1)) c p)(hc:0<=c)(hm:c<1114111):(ps.map (·.2))[p-1]?=some (F c):=by have:=M.val c hc hm;rw[yE h,py (lZ M h hc) (by simpa using h.1)]at this;rw[Ty];exact this
theorem wR{b1 b2:Bool}{a b x:Int×V}(h:x∈e7 b1 b2 a b):x=a\/x=b:=by unfold e7 at h;cases b1<;>cases b2<;>simp at h<;>simp[h]
theorem N4{ps:List (Int×V)}{F:Int->V}(M:wQ ps F){first last:Int}{low high:Nat}{value behind below:V}{b1 b2:Bool}(h1:1<=first)(hf:first<=last)(hm:last<1114110)(cl:Cut (ps.map (·.1)) (first-1) low)(ch:Cut (ps.map (·.1)) (last+1) high)(hb:(ps.map (·.2))[high-1]?=some behind)(ha:(ps.map (·.2))[low-1]?=some below)(e1:b1=true->behind=value)(e2:b2=true->below=value):
 wQ (ps.take low++e7 b1 b2 (first,value) (last+1,behind)++ps.drop high) (fun c=>if first<=c/\c<=last then value else F c):=by
 have tl:=rB cl;have dl:=rC cl;have th:=rB ch;have dh:=rC ch;have pl:1<=low:=lZ M cl (ar1 [] [_] 513 77341449 h1 art);have ph:1<=high:=lZ M ch (ar2 [] [_,_] 262657 44871508745 hf h1 art);have ll:low<=ps.length:=by simpa using cl.1
 have lh:high<=ps.length:=by simpa using ch.1
 have mM:∀q∈e7 b1 b2 (first,value) (last+1,behind),first<=q.1/\q.1<=last+1:=by
  intro q hq;rcases wR hq with rfl|rfl
  .exact⟨V9 _,by show first<=last+1;exact ar1 [] [_,_] 513 43836216 hf art⟩
  .exact⟨by show first<=last+1;exact ar1 [] [_,_] 513 43836216 hf art,V9 _⟩
 refine⟨?_,?_,?_⟩
 . rw[VV,VV];refine⟨⟨M.asc.sublist (List.take_sublist _ _),?_,?_⟩,M.asc.sublist (List.drop_sublist _ _),?_⟩
   .unfold e7;cases b1<;>cases b2<;>simp<;>exact Int.lt_add_one_of_le ‹_›
   .intro a ha b hb;have:=tl a ha;have:=(mM b hb).1;lia
   . intro a ha b hb;have hb:=dh b hb;rcases TJ.mp ha with h|h
     .have:=tl a h;exact ar3 [] [_,_,_,_] 134480385 946017141604624689825080 this hf hb art
     .have:=(mM a h).2;exact Vo ‹_› ‹_›
 .refine ae (M.head) ?_;rintro q hq h0;refine⟨q,?_,h0⟩;cases ps with|nil=>cases hq|cons x ps=>obtain⟨k,rfl⟩:∃k,low=k+1:=⟨low-1,(VG ‹_›).symm⟩;exact hq
 . intro c hc0 hc1;rw[U5,U5];by_cases k1:c<first
   . have nf:¬(first<=c/\c<=last):=by lia
     rw[if_neg nf,lC (l:=e7 _ _ _ _) (fun q hq=>by have:=(mM q hq).1;exact TK ‹_› ‹_›),lC (l:=ps.drop high) (fun q hq=>by have:=dh q hq;exact ar3 [] [_,_,_,_] 134480385 1021572437651514447398200 this hf k1 art),Ua,Ua,<-M.val c hc0 hc1];have e:ps=ps.take low++ps.drop low:=(VQ low ps).symm;conv=>rhs;rw[e]
     rw[U5,lC (l:=ps.drop low) (fun q hq=>by have:=dl q hq;exact ar2 [] [_,_,_] 262657 960735810313338520888 this k1 art),Ua]
   . rw[qB (l:=ps.take low) (fun q hq=>by have:=tl q hq;exact ar2 [] [_,_,_] 262657 886988106552 this (Int.le_of_not_gt k1 :) art)];have hA:(ps.take low).getLast?.map (·.2)=some below:=by rw[py pl ll,<-Ty];exact ha
     have hB:(ps.take high).getLast?.map (·.2)=some behind:=by rw[py ph lh,<-Ty];exact hb
     by_cases k2:c<=last
     . rw[if_pos ⟨VS.mp ‹_›,k2⟩,lC (l:=ps.drop high) (fun q hq=>by have:=dh q hq;exact ar2 [] [_,_,_] 262657 938218564758071096 this k2 art),Ua];have n1:decide (last+1<=c)=false:=Tz (Int.not_le_of_gt (ar1 [] [_,_] 513 44863644472 k2 art));have n2:decide (first<=c)=true:=To (VS.mp ‹_›);unfold e7;cases hb1:b1<;>cases hb2:b2<;>simp only[hb2,Ve,UA,if_true,V7,WG,Wz,Ua,V0,UZ,Ww,n1,n2]
       .simp
       .rw[hA,e2 hb2]
       .simp
       .rw[hA,e2 hb2]
     . rw[if_neg (by lia)];have old:=M.val c hc0 hc1;have e:ps=ps.take high++ps.drop high:=(VQ high ps).symm;rw[e,U5,qB (l:=ps.take high) (fun q hq=>by have:=th q hq;exact ar2 [] [_,_,_] 262657 908241461347640 this (Int.lt_of_not_ge k2 :) art),VX]at old;rw[qB (l:=e7 _ _ _ _) (fun q hq=>by have:=(mM q hq).2;exact ar2 [] [_,_,_] 262657 908241461347640 this (Int.lt_of_not_ge k2 :) art),VX,<-old];cases hq:((ps.drop high).filter fun q=>decide (q.1<=c)).getLast? with|some q=>rfl|none=>
        rw[Wj,Wj,hB,VX];unfold e7;cases hb1:b1<;>cases hb2:b2<;>simp only[Ve,UA,if_true,V7,WG,Wz,Ua,V0]
        .rfl
        .rfl
        .rw[e1 hb1];rfl
        .rw[show([]:List (Int×V)).getLast?=none from rfl,Wj,hA,e2 hb2,e1 hb1]
noncomputable def fj:V->Bool
 |.str _=>true
 |.bool _=>true
 |_=>false
noncomputable def kG:V->V->Bool
 |.str a,.str b=>a==b
 |.bool a,.bool b=>a==b
 |_,_=>false
theorem wS{a b:V}(h:kG a b=true):a=b:=by
 cases a with
 |str a=>cases b with
  |str b=>exact Tx V.str (Ub.mp h)
  |_=>exact Bool.noConfusion h
 |bool a=>cases b with
  |bool b=>exact Tx V.bool (Ub.mp h)
  |_=>exact Bool.noConfusion h
 |_=>exact Bool.noConfusion h
structure fm(x:ab)(f:Int->V)(n:Nat):Prop where
 ex:∃(ps:List (Int×V)) (dflt:V),x=jN dflt (ps.map (·.1)) (ps.map (·.2))/\fj dflt=true/\(∀q∈ps,fj q.2=true)/\wQ ps f/\ps.length<=1+2*n
theorem rD{n:Nat}{v:V}(h:fj v=true):fG n v=true:=by cases v<;>first|rfl|cases h
theorem gD{n:Nat}:∀{l:List V},(∀v∈l,fG n v=true)->refsL n l=true
 |[],_=>rfl
 |v::l,h=>by show(fG n v&&refsL n l)=true;rw[h v UG,gD fun w hw=>h w (Va _ hw)];rfl
theorem fm.refs{x:ab}{f:Int->V}{n k:Nat}(M:fm x f n):cg k x=true:=by refine eY (M.ex) ?_;rintro ps dflt rfl h1 h2 _;show(fG k dflt&&(refsL k (ivs (ps.map (·.1)))&&(refsL k (ps.map (·.2))&&true)))=true;rw[rD h1,gD fun v hv=>by refine ae (Uw.mp hv) ?_;rintro i _ rfl;rfl,gD fun v hv=>by refine ae (Uw.mp hv) ?_;rintro q hq rfl;exact rD (h2 q hq)];rfl
theorem jR{J:Hp}{p:ab->Bool}{r:Nat}{x:ab}(h:J.all p=true)(hx:p x=true):(J.set r x).all p=true:=by
 rw[UI]at h ⊢;intro c hc;rcases Vr hc with hc|rfl
 .exact h c hc
 .exact hx
section
variable{P:Params}{d:Nat}{J:Hp}
set_option tactic.hygienic true in
theorem EZ{a b:V}(ha:fj a=true)(hb:fj b=true):cP P (d+1) "" "range_are_like" [a,b] [] J (.bool (kG a b)) J:=by
 have e:∀x:Bool,(x&&true)=x:=fun x=>by cases x<;>rfl
 cases a<;>first|cases ha|skip
 all_goals cases b<;>first|cases hb|skip
 .rename_i x y;have:=NF (P:=P) (d:=d) (J:=J) (a:=x) (b:=y);rw[e]at this;exact this
 .exact Jx
 .exact Jw
 .rename_i x y;have:=NE (P:=P) (d:=d) (J:=J) (a:=x) (b:=y);rw[e]at this;exact this
theorem N5{r:Nat}{x:ab}{f:Int->V}{n:Nat}{c:Int}(hr:J[r]?=some x)(M:fm x f n)(hn:n<=40)(h0:0<=c)(h1:c<1114111):cP P (d+2) "RangeMap" "get" [.inst "RangeMap" r,.int c] [] J (f c) J:=by
 refine oW (M.ex) ?_;rintro ps dflt rfl _ hp M hl;refine ae (uK (P:=P) (d:=d) (J:=J) (n:=c) (yD M.asc) (by simp;exact ar2 [_,_] [] 524288 3780495368453452578687184 hl hn art)) ?_;rintro p e hc;have hp2:p<=ps.length:=by simpa using hc.1
 exact NG hr e (EQ (uY M hc h0 h1) (lZ M hc h0) (by simp;exact ar2 [_,_] [] 524288 38685631291577274228318554818768 hl hn art))
theorem E1{r:Nat}{x:ab}{f:Int->V}{n:Nat}{c:Int}{value:V}(hr:J[r]?=some x)(M:fm x f n)(hn:n<=40)(h1:1<=c)(hm:c<1114110)(hv:fj value=true)(hcl:J.all (cg J.length)=true):
 ∃y,fm y (fun k=>if c<=k/\k<=c then value else f k) (n+1)/\cP P (d+2) "RangeMap" "put" [.inst "RangeMap" r,.int c,.int c,value] [] J .none (J.set r y):=by
 refine oW (M.ex) ?_;rintro ps dflt rfl pd hp M hl;refine ae (uK (P:=P) (d:=d) (J:=J) (n:=c-1) (yD M.asc) (by simp;exact ar2 [_,_] [] 524288 3780495368453452578687184 hl hn art)) ?_;rintro low el cl;refine ae (uK (P:=P) (d:=d) (J:=J) (n:=c+1) (yD M.asc) (by simp;exact ar2 [_,_] [] 524288 3780495368453452578687184 hl hn art)) ?_;rintro high eh ch;have hb:=uY M ch (ar1 [] [_] 513 43787017 h1 art) (ar1 [] [_] 513 43100087994950398487346220827960 hm art);have ha:=uY M cl (ar1 [] [_] 513 77341449 h1 art) (ar1 [] [_] 513 43100087994951551408850827674936 hm art);have mem:∀{i:Nat}{v:V},(ps.map (·.2))[i]?=some v->fj v=true:=fun{i v} h=>by refine ae (Uw.mp (TZ h)) ?_;rintro q hq rfl;exact hp q hq
 have pb:=mem hb;have pa:=mem ha;have e1:∀b1 b2:Bool,(e7 b1 b2 (c,value) (c+1,f (c+1))).map (·.1)=e7 b1 b2 c (c+1):=fun b1 b2=>by cases b1<;>cases b2<;>rfl
 have e2:∀b1 b2:Bool,(e7 b1 b2 (c,value) (c+1,f (c+1))).map (·.2)=e7 b1 b2 value (f (c+1)):=fun b1 b2=>by cases b1<;>cases b2<;>rfl
 have hcell:fm (jN dflt ((ps.map (·.1)).take low++e7 (kG (f (c+1)) value) (kG (f (c-1)) value) c (c+1)++(ps.map (·.1)).drop high) ((ps.map (·.2)).take low++e7 (kG (f (c+1)) value) (kG (f (c-1)) value) value (f (c+1))++(ps.map (·.2)).drop high))
  (fun k=>if c<=k/\k<=c then value else f k) (n+1):=by
  refine⟨ps.take low++e7 (kG (f (c+1)) value) (kG (f (c-1)) value) (c,value) (c+1,f (c+1))++ps.drop high,dflt,?_,pd,?_,N4 M h1 (V9 _) hm cl ch hb ha wS wS,?_⟩
  .rw[TI,TI,TI,TI,e1,e2,WY,WZ,WY,WZ]
  . intro q hq;rcases TJ.mp hq with h|h
    . rcases TJ.mp h with h|h
      .exact hp q (List.mem_of_mem_take h)
      . rcases wR h with rfl|rfl
        .exact hv
        .exact pb
    .exact hp q (List.mem_of_mem_drop h)
  . have:(e7 (kG (f (c+1)) value) (kG (f (c-1)) value) (c,value) (c+1,f (c+1))).length<=2:=by unfold e7;cases kG (f (c+1)) value<;>cases kG (f (c-1)) value<;>simp
    have hlow:low<=high:=by
     rcases Nat.lt_or_ge high low with h|h
     . have h2:high<ps.length:=by have:=cl.1;simp at this;exact TG ‹_› ‹_›
       have a1:=cl.2.1 high (ps[high]).1 h (by rw[Ty,Tq h2];rfl);have a2:=ch.2.2 high (ps[high]).1 (TB _) (by rw[Ty,Tq h2];rfl);lia
     .exact h
    have hh:high<=ps.length:=by simpa using ch.1
    rw[Tm,Tm,TY,Wr];lia
 refine⟨_,hcell,?_⟩;have pc:=Rs hr el eh (are [_] [] 1 120302150768 art art) (are [_] [] 1 120302150768 art art) cl.1 ch.1 (lZ M cl (ar1 [] [_] 513 77341449 h1 art)) (lZ M ch (ar1 [] [_] 513 43787017 h1 art)) (by simp) (by simp;exact ar2 [_,_] [] 524288 15114174927340601091557584 hl hn art) (TK ‹_› (by decide)) hb ha (fun s=>EZ pb hv) (fun s=>EZ pa hv);have tk:∀X b,(sLL c value (f (c+1)) b (J.set r X)).take J.length=J.set r X:=fun X b=>by unfold sLL;rw[Tl,List.take_left' (by rw[Ut])]
 have:=nX pc rfl (by rw[tk];exact jR hcl hcell.refs);rw[tk]at this;exact this
end
noncomputable def pa(v:V):List Str->List (Str×V)->List (Str×V)
 |[],es=>es
 |k::ks,es=>pa v ks (em k v es)
theorem wT{k:Str}{v:V}:∀{es:List (Str×V)},(em k v es).length<=es.length+1
 |[]=>TB _
 |(y,w)::r=>by
  unfold em
  split
  .simp
  .rw[Ug,Ug];have:=wT (k:=k) (v:=v) (es:=r);exact UD ‹_› _
theorem E2{v:V}{k:Str}:∀{ks:List Str}{es:List (Str×V)},pa v (ks++[k]) es=em k v (pa v ks es)
 |[],es=>rfl
 |_::ks,es=>E2 (ks:=ks)
theorem pz{v:V}:∀{ks:List Str}{es:List (Str×V)},(pa v ks es).length<=es.length+ks.length
 |[],es=>TB _
 |k::ks,es=>by have h1:=pz (v:=v) (ks:=ks) (es:=em k v es);have h2:=wT (k:=k) (v:=v) (es:=es);show(pa v ks (em k v es)).length<=_;rw[Ug];exact ar2 [_,_,_,_] [] 0 38392678904278066736 h1 h2 art
noncomputable abbrev ja:List (Str×V):=[("gc",.str "Cn"),("ccc",.int 0),("bc",.str "L"),("lb",.str "XX"),("ea",.str "N"),("sc",.str "Zzzz"),("jt",.str "U"),("incb",.str "None")]
noncomputable abbrev nm1:List Str:=["gcb","wb","sb"]
noncomputable abbrev nm2:List Str:=["ex","sd","cased","ci","ep","di","ids","idc","xids","xidc","pat_syn","pat_ws","idst"]
noncomputable abbrev nm3:List Str:=["dm","uc","lc","tc","cf","bm","bpb","scx","nt","nv","name","conf","nfkc_cf"]
noncomputable abbrev nm4:List Str:=["suc","slc","stc","alias"]
def dfl:List (Str×V):=em "idna" (.tup [.str "disallowed",.tup []]) (pa (.tup []) nm4 (pa .none nm3 (pa (.bool false) nm2 (pa (.str "Other") nm1 ja))))
section
variable{P:Params}{d F:Nat}{J:Hp}{o o1 o2 o3 o4:Option V}{k:Str}{es:List (Str×V)}{v:V}
theorem rE(hl:es.length<900):eo (J++[.dict es]) (.ref J.length) (.str k) v=some (J++[.dict (em k v es)]):=by rw[y7 aN hl,eK rfl]
abbrev ddS(P:Params)(n:Nat):Stmt:=db n (dT P).body
noncomputable abbrev ddL(F:Nat)(o:Option V):Loc:=[("found",.v (some (.ref F))),("name",.v o)]
noncomputable abbrev rF(P:Params)(d n:Nat)(k:Str)(J:Hp)(o:Option V)(es:List (Str×V))(v:V):Prop:=eZ (aJ P d (bf (ddS P n))) (av P d (bj (ddS P n))) (.str k) (ddL J.length o) (J++[.dict es]) .next (ddL J.length (some (.str k))) (J++[.dict (em k v es)])
noncomputable abbrev rG(P:Params)(d n:Nat)(ks:List Str)(J:Hp)(o o':Option V)(es es':List (Str×V)):Prop:=eW (aJ P d (bf (ddS P n))) (av P d (bj (ddS P n))) (bf (ddS P n)) (.seq (.tup (ks.map .str))) (ddL J.length o) (J++[.dict es]) .next (ddL J.length o') (J++[.dict es'])
theorem Ru(hl:es.length<900):rF P d 1 k J o es (.str "Other"):=by intro k0 hk;have s:=rE (J:=J) (k:=k) (v:=.str "Other") hl;exact aw (zR (zS s (z0 hk)))
theorem Rv(hl:es.length<900):rF P d 2 k J o es (.bool false):=by intro k0 hk;have s:=rE (J:=J) (k:=k) (v:=.bool false) hl;exact aw (zR (zS s (z0 hk)))
theorem Rw(hl:es.length<900):rF P d 3 k J o es .none:=by intro k0 hk;have s:=rE (J:=J) (k:=k) (v:=.none) hl;exact aw (zR (zS s (z0 hk)))
theorem Rx(hl:es.length<900):rF P d 4 k J o es (.tup []):=by intro k0 hk;have s:=rE (J:=J) (k:=k) (v:=.tup []) hl;exact aw (zR (zR (zS s (z0 hk))))
theorem uZ{n:Nat}{ks:List Str}(hl:es.length+ks.length<=800)(ht:∀it,nU (bf (ddS P n)) (.seq it)=true)(h:∀k o es,es.length<900->rF P d n k J o es v):∃o',rG P d n ks J o o' es (pa v ks es):=by
 have hN:∀s,bD s (.seq (.tup (ks.map .str)))=some ks.length:=fun s=>by show some (ks.map V.str).length=_;rw[Tn]
 refine Tu (dA (N:=ks.length) (it:=.seq (.tup (ks.map .str))) (loc:=ddL J.length o) (J:=J++[.dict es]) (tg:=bf (ddS P n)) (asg:=aJ P d (bf (ddS P n))) (body:=av P d (bj (ddS P n)))
  (fun i l s=>s=J++[.dict (pa v (ks.take i) es)]/\∃o,l=ddL J.length o) (fun i l s hi I=>?_) (fun l s I=>hN _) (hN _) (ht _) ⟨rfl,o,rfl⟩) fun l hh=>?_
 . obtain⟨rfl,o,rfl⟩:=I;have hp:=pz (v:=v) (ks:=ks.take i) (es:=es);rw[TY]at hp;refine⟨hN _,.str ks[i],.next,_,_,?_,h ks[i] o _ (ar3 [_,_,_,_] [] 0 1114230709271198340114711890480 hp hl (Uq (i) (ks.length)) art),.inl rfl,?_,some (.str ks[i]),rfl⟩
   .show(some (ks.map V.str)).bind (·[i]?)=_;rw[Ue,Ty,Tq hi];rfl
   .rw[Un,Tq hi];show _=J++[ab.dict (pa v (ks.take i++[ks[i]]) es)];rw[E2]
 .obtain⟨s,⟨rfl,o,rfl⟩,h1⟩:=hh;rw[Ur]at h1;exact⟨o,h1⟩
theorem Ry(h1:rG P d 1 nm1 J none o1 ja (pa (.str "Other") nm1 ja))(h2:rG P d 2 nm2 J o1 o2 (pa (.str "Other") nm1 ja) (pa (.bool false) nm2 (pa (.str "Other") nm1 ja)))(h3:rG P d 3 nm3 J o2 o3 (pa (.bool false) nm2 (pa (.str "Other") nm1 ja)) (pa .none nm3 (pa (.bool false) nm2 (pa (.str "Other") nm1 ja))))(h4:rG P d 4 nm4 J o3 o4 (pa .none nm3 (pa (.bool false) nm2 (pa (.str "Other") nm1 ja))) (pa (.tup []) nm4 (pa .none nm3 (pa (.bool false) nm2 (pa (.str "Other") nm1 ja)))))(h5:eo (J++[.dict (pa (.tup []) nm4 (pa .none nm3 (pa (.bool false) nm2 (pa (.str "Other") nm1 ja))))]) (.ref J.length) (.str "idna") (.tup [.str "disallowed",.tup []])=some (J++[.dict dfl])):
 cP P (d+1) "" "data_defaults" [] [] J (.ref J.length) (J++[.dict dfl]):=by
 exact ag (dT P) ([]) (fun z=>(zA (by decide:[Str.ofString "incb",Str.ofString "jt",Str.ofString "sc",Str.ofString "ea",Str.ofString "lb",Str.ofString "bc",Str.ofString "ccc",Str.ofString "gc"].reverse.length=[Expr.Constant (Const.str (Str.ofString "Cn")) 0 { line:=310,col:=19,endLine:=310,endCol:=23},Expr.Constant (Const.int 0) 0 { line:=310,col:=32,endLine:=310,endCol:=33},Expr.Constant (Const.str (Str.ofString "L")) 0 { line:=310,col:=41,endLine:=310,endCol:=44},Expr.Constant (Const.str (Str.ofString "XX")) 0 { line:=310,col:=52,endLine:=310,endCol:=56},Expr.Constant (Const.str (Str.ofString "N")) 0 { line:=310,col:=64,endLine:=310,endCol:=67},Expr.Constant (Const.str (Str.ofString "Zzzz")) 0 { line:=310,col:=75,endLine:=310,endCol:=81},Expr.Constant (Const.str (Str.ofString "U")) 0 { line:=310,col:=89,endLine:=310,endCol:=92},Expr.Constant (Const.str (Str.ofString "None")) 0 { line:=310,col:=102,endLine:=310,endCol:=108}].length/\[Str.ofString "incb",Str.ofString "jt",Str.ofString "sc",Str.ofString "ea",Str.ofString "lb",Str.ofString "bc",Str.ofString "ccc",Str.ofString "gc"].reverse.length<=15) (zL h1 (zL h2 (zL h3 (zL h4 (zS h5 (z0 z)).R.R.R).C.R).C.R).C.R).C.R).R)
theorem yF:cP P (d+1) "" "data_defaults" [] [] J (.ref J.length) (J++[.dict dfl]):=by obtain⟨o1,h1⟩:=uZ (P:=P) (d:=d) (J:=J) (es:=ja) (o:=none) (n:=1) (ks:=nm1) (by decide) (fun _=>rfl) (fun k o es=>Ru);have l1:=pz (v:=.str "Other") (ks:=nm1) (es:=ja);have l1:(pa (.str "Other") nm1 ja).length<=11:=l1;obtain⟨o2,h2⟩:=uZ (P:=P) (d:=d) (J:=J) (es:=pa (.str "Other") nm1 ja) (o:=o1) (n:=2) (ks:=nm2) (by show _+13<=_;decide) (fun _=>rfl) (fun k o es=>Rv);have l2:=pz (v:=.bool false) (ks:=nm2) (es:=pa (.str "Other") nm1 ja);have l2:(pa (.bool false) nm2 (pa (.str "Other") nm1 ja)).length<=24:=Tk l2 (by show _+13<=_;decide);obtain⟨o3,h3⟩:=uZ (P:=P) (d:=d) (J:=J) (es:=pa (.bool false) nm2 (pa (.str "Other") nm1 ja)) (o:=o2) (n:=3) (ks:=nm3) (by show _+13<=_;decide) (fun _=>rfl) (fun k o es=>Rw);have l3:=pz (v:=.none) (ks:=nm3) (es:=pa (.bool false) nm2 (pa (.str "Other") nm1 ja));have l3:(pa .none nm3 (pa (.bool false) nm2 (pa (.str "Other") nm1 ja))).length<=37:=Tk l3 (by show _+13<=_;decide);obtain⟨o4,h4⟩:=uZ (P:=P) (d:=d) (J:=J) (es:=pa .none nm3 (pa (.bool false) nm2 (pa (.str "Other") nm1 ja))) (o:=o3) (n:=4) (ks:=nm4) (by show _+4<=_;decide) (fun _=>rfl) (fun k o es=>Rx);have l4:=pz (v:=.tup []) (ks:=nm4) (es:=pa .none nm3 (pa (.bool false) nm2 (pa (.str "Other") nm1 ja)));exact Ry h1 h2 h3 h4 (rE (Ts l4 (by show _+4<_;decide)))
end
noncomputable def Shp(v:V):Prop:=v=.none\/∃w l:Str,v=.tup [.str w,.str l]
theorem sN:Shp .none:=.inl rfl
theorem sT{a b:Str}:Shp (.tup [.str a,.str b]):=.inr ⟨_,_,rfl⟩
theorem sC{t:Bool}{p q:V}(h1:Shp p)(h2:Shp q):Shp (cond t p q):=by cases t;exact h2;exact h1
theorem yG:∃w l:Str,eF []=.tup [.str w,.str l]:=⟨_,_,rfl⟩
theorem bJ{v:V}{r:List V}(h:Shp v)(hr:∃w l:Str,eF r=.tup [.str w,.str l]):∃w l:Str,eF (v::r)=.tup [.str w,.str l]:=by
 rcases h with rfl|⟨w,l,rfl⟩
 .exact hr
 .exact⟨w,l,rfl⟩
theorem yH{W:VD}{k:Int}:∃w l:Str,rn W k=.tup [.str w,.str l] :=
 bJ (sC sT (sC sT (sC sT (sC sT sN)))) <|bJ (sC sT (sC sT (sC sT sN))) <|bJ (sC sT (sC sT (sC sT sN))) <|bJ (sC (sC sT (sC sT sN)) (sC sT sN)) <|
 bJ (sC sT (sC sT sN)) <|bJ (sC sT (sC sT (sC sT sN))) <|bJ (sC sT (sC sT (sC sT (sC sT (sC sT (sC sT sN)))))) <|bJ (sC sT (sC sT (sC sT sN))) <|
 bJ (sC (sC sT (sC (sC sT sN) (sC (sC (sC sT sN) (sC sT sN)) sN))) (sC sT sN)) <|bJ (sC sT (sC sT (sC sT sN))) <|bJ (sC sT sN) <|bJ (sC sT (sC sT (sC sT sN))) <|
 bJ (sC sT (sC (sC sT (sC sT sN)) (sC sT sN))) yG
theorem lD{W:VD}{n:Nat}:∀{k:Nat}{v:V},v∈fV W n k->∃w l:Str,v=.tup [.str w,.str l]
 |0,v,h=>by
  unfold fV fs0 at h;rcases Vr h with h|rfl
  . rcases Vr h with h|rfl
    .rw[List.eq_of_mem_replicate h];exact⟨_,_,rfl⟩
    .exact⟨_,_,rfl⟩
  .exact⟨_,_,rfl⟩
 |k+1,v,h=>by
  unfold fV at h;rcases Vr h with h|rfl
  .exact lD h
  .exact yH
noncomputable def gS:V->V
 |.tup (x::_)=>x
 |v=>v
abbrev lbC(P:Params):cF:=((a_T P).cls.lookup ("LineBreaks":Str)).getD ⟨[],[]⟩
noncomputable abbrev rH(D h:Nat):ab:=.dict [("data",.inst "Data" D),("how",.inst "LineHow" h)]
section
variable{P:Params}{d D h B F:Nat}{J s:Hp}{t:V}{o1 o2:Option V}{fs:List V}
abbrev opE(P:Params):Expr:=stE (db 0 (bB P).body)
noncomputable abbrev opL(o1 o2:Option V):Loc:=[(".0",.v none),("word",.v o1),("name",.v o2)]
noncomputable abbrev E3(P:Params)(d:Nat)(v:V)(loc:Loc)(J:Hp)(x:V)(s:Hp):Prop:=iM (aJ P d (coG (opE P)).target) (fR P d (coG (opE P)).ifs) (bI P d (coE (opE P))) false v loc J x s
theorem JH(h1:s[F]?=some (.list fs))(hf:∀v∈fs,∃w l:Str,v=.tup [.str w,.str l])(hl:fs.length<=1000):E3 P d (.ref F) (opL none none) s (.lst (fs.map gS)) s:=by
 have h2:bF s (.ref F)=some fs:=cq h1;have hN:bD s (.seq (.ref F))=some fs.length:=by show(bF _ _).map _=_;rw[h2];rfl
 refine Tu (lS (t:=false) (v:=.ref F) (it:=.seq (.ref F)) (loc:=opL none none) (J:=s) (asg:=aJ P d (coG (opE P)).target) (test:=fR P d (coG (opE P)).ifs) (elt:=bI P d (coE (opE P)))
  (fun i l s' acc=>s'=s/\acc=(fs.take i).map gS/\∃o1 o2,l=opL o1 o2) (y6 h1) hN (fun i l s' acc hi I=>?_) (fun l s' acc I=>?_) ⟨rfl,rfl,none,none,rfl⟩) fun acc hh=>?_
 . obtain⟨rfl,rfl,o1,o2,rfl⟩:=I;refine iN (hf fs[i] (Vn hi)) ?_;rintro w l e;have hlt:((fs.take i).map gS).length<=1000000:=by rw[Tn,TY];exact Tk (Uq _ _) (Tk ‹_› (by decide))
   refine⟨⟨hN,ar hlt⟩,.tup [.str w,.str l],true,.str w,opL (some (.str w)) (some (.str l)),s',?_,fun k hk=>?_,rfl,?_,_,_,rfl⟩
   .show(bF _ _).bind _=_;rw[h2,Ue,Tq hi,e]
   .exact aw (z0 hk)
   .show(fs.take i).map gS++[.str w]=_;rw[Un,Tq hi,TI,e];rfl
 .refine eX (I) ?_;rintro rfl rfl _;exact⟨hN,ar (by rw[Tn,TY];exact Tk (Uq _ _) (Tk ‹_› (by decide)))⟩
 .refine bw (hh) ?_;rintro s' l ⟨rfl,rfl,_⟩ h;rw[Ur]at h;exact h
theorem Rz(g1:bS (a_T P) J (.inst "LineBreaks" B) "data"=some (.inst "Data" D))(g2:bS (a_T P) J (.inst "LineBreaks" B) "how"=some (.inst "LineHow" h))(V1:cP P d "" "line_verdicts" [t,.inst "Data" D,.inst "LineHow" h] [] J (.ref F) s)(C:E3 P d (.ref F) (opL none none) s (.lst (fs.map gS)) s):
 cP P (d+1) "LineBreaks" "opportunities" [.inst "LineBreaks" B,t] [] J (.lst (fs.map gS)) s:=by
 exact ag (bB P) ([V.inst (Str.ofString "LineBreaks") B,t]) (fun z=>zA (rfl:(0:Int)=(0:Int)) (zV g1 (zV g2 (zD V1 (zF C (z0 z)))).R).R.R.R)
end
def BK(Y:np)(cs:List Int):List V:=(fV (eT Y (aR Y.cl [] 0 cs)) cs.length ((aR Y.cl [] 0 cs).length-1)).map gS
theorem E4{Y:np}{cs:List Int}{v:V}(h:v∈BK Y cs):∃w:Str,v=.str w:=by refine ae (Uw.mp h) ?_;rintro x hx rfl;refine iN (lD hx) ?_;rintro w l rfl;exact⟨w,rfl⟩
theorem tO{n:Nat}:∀{l:List V},(∀v∈l,∃w:Str,v=.str w)->refsL n l=true
 |[],_=>rfl
 |v::l,h=>by obtain⟨w,rfl⟩:=h v UG;show(true&&refsL n l)=true;rw[tO fun v hv=>h v (Va _ hv)];rfl
theorem Qi{P:Params}{d D h B:Nat}{J:Hp}{t:V}{Y:np}{cs:List Int}(E:uU P J D h Y cs)(X:lA J t cs)(hn:cs.length<=500)(hB:J[B]?=some (rH D h))(hc:J.all (cg J.length)=true):
 cP P (d+10) "LineBreaks" "opportunities" [.inst "LineBreaks" B,t] [] J (.lst (BK Y cs)) J:=by
 have V1:=yC (d:=d) E X hn;have C:=JH (P:=P) (d:=d+9) (EO (D:=D) (h:=h) (J:=J) (c:=.list (fV (eT Y (aR Y.cl [] 0 cs)) cs.length ((aR Y.cl [] 0 cs).length-1))) (us:=aR Y.cl [] 0 cs)) (fun v hv=>lD hv) (by rw[js];exact Tk (UD ‹_› _) (by decide));have r:=Rz (ax (lbC P) hB rfl rfl) (ax (lbC P) hB rfl rfl) V1 C;have tk:∀fs,(vO D h (J++[.list fs]) (aR Y.cl [] 0 cs)).take J.length=J:=fun fs=>by unfold vO;rw[wM,Tl,List.take_left'];rfl
 have:=nX r (tO fun v hv=>E4 hv) (by rw[tk];exact hc);rw[tk]at this;exact this
noncomputable abbrev lE(a b c e:Nat):ab:=.dict [("defaults",.ref a),("maps",.ref b),("properties",.ref c),("words",.ref e)]
theorem qC{T:Tab}{J H:Hp}{c a:Str}{es:List (Str×V)}{v:V}(cd:cF)(h1:T.cls.lookup c=some cd)(h2:cd.attrs.contains a=true)(h3:es.length<900):cY T (J++.dict es::H) (.inst c J.length) a v=some (J++.dict (em a v es)::H):=by rw[dU cd (by rw[Uc (TB _),UB];rfl) h1 h2 h3,eK rfl]
section
variable{P:Params}{d D D1 D2 D3 D4 m r:Nat}{J s s1:Hp}{k:Str}{c:Int}{v dv:V}{maps ds:List (Str×V)}
theorem BL:cP P (d+2) "Data" "__init__" [.inst "Data" J.length] [] (J++[.dict []]) .none (J++[lE (J.length+1) (J.length+2) (J.length+3) (J.length+4)]++[.dict dfl]++[.dict []]++[.dict []]++[.dict []]):=by
 have a0:=yF (P:=P) (d:=d) (J:=J++[.dict []]);have a1:cY (a_T P) (J++[.dict []]++[.dict dfl]) (.inst "Data" J.length) "defaults" (.ref (J++[ab.dict []]).length)=some (J++[.dict [("defaults",.ref (J.length+1))]]++[.dict dfl]):=by rw[Tl,Vp,qC (dtC P) (by rfl') (by rfl') (by simp),Tl,Tm];rfl
 have a2:cY (a_T P) (J++[.dict [("defaults",.ref (J.length+1))]]++[.dict dfl]++[.dict []]) (.inst "Data" J.length) "maps" (.ref (J++[ab.dict [("defaults",.ref (J.length+1))]]++[ab.dict dfl]).length)=some (J++[.dict [("defaults",.ref (J.length+1)),("maps",.ref (J.length+2))]]++[.dict dfl]++[.dict []]):=by rw[show(J++[ab.dict [("defaults",.ref (J.length+1))]]++[ab.dict dfl]).length=J.length+2 by simp,Tl,Tl,Vp,qC (dtC P) (by rfl') (by rfl') (by simp),Tl,Tl];rfl
 have a3:cY (a_T P) (J++[.dict [("defaults",.ref (J.length+1)),("maps",.ref (J.length+2))]]++[.dict dfl]++[.dict []]++[.dict []]) (.inst "Data" J.length) "properties" (.ref (J++[ab.dict [("defaults",.ref (J.length+1)),("maps",.ref (J.length+2))]]++[ab.dict dfl]++[ab.dict []]).length)=some (J++[.dict [("defaults",.ref (J.length+1)),("maps",.ref (J.length+2)),("properties",.ref (J.length+3))]]++[.dict dfl]++[.dict []]++[.dict []]):=by rw[show(J++[ab.dict [("defaults",.ref (J.length+1)),("maps",.ref (J.length+2))]]++[ab.dict dfl]++[ab.dict []]).length=J.length+3 by simp,Tl,Tl,Tl,Vp,qC (dtC P) (by rfl') (by rfl') (by simp),Tl,Tl,Tl];rfl
 have a4:cY (a_T P) (J++[.dict [("defaults",.ref (J.length+1)),("maps",.ref (J.length+2)),("properties",.ref (J.length+3))]]++[.dict dfl]++[.dict []]++[.dict []]++[.dict []]) (.inst "Data" J.length) "words" (.ref (J++[ab.dict [("defaults",.ref (J.length+1)),("maps",.ref (J.length+2)),("properties",.ref (J.length+3))]]++[ab.dict dfl]++[ab.dict []]++[ab.dict []]).length)=some (J++[lE (J.length+1) (J.length+2) (J.length+3) (J.length+4)]++[.dict dfl]++[.dict []]++[.dict []]++[.dict []]):=by rw[show(J++[ab.dict [("defaults",.ref (J.length+1)),("maps",.ref (J.length+2)),("properties",.ref (J.length+3))]]++[ab.dict dfl]++[ab.dict []]++[ab.dict []]).length=J.length+4 by simp,Tl,Tl,Tl,Tl,Vp,qC (dtC P) (by rfl') (by rfl') (by simp),Tl,Tl,Tl,Tl];rfl
 exact ag (gJ P) ([V.inst (Str.ofString "Data") (List.length J)]) (fun z=>(zD a0 (zS a1 (zA (And.intro (rfl:0=0) (by decide:0<=15)) (zS a2 (zA (And.intro (rfl:0=0) (by decide:0<=15)) (zS a3 (zA (And.intro (rfl:0=0) (by decide:0<=15)) (zS a4 (z0 z))).R)).R)).R)).R.R)
theorem u3{x:ab}{f:Int->V}{n:Nat}{a:Str}(hr:J[r]?=some x)(M:fm x f n)(h1:(rmC P).meths.contains a=true)(h2:List.lookup a ([("default",.none),("starts",.none),("values",.none)]:List (Str×V))=none):bd (a_T P) J (.inst "RangeMap" r) a=some (.fn "RangeMap"):=by obtain⟨ps,dflt,rfl,_⟩:=M.ex;refine dZ (rmC P) hr (by rfl') h1 ?_;simp only[List.lookup]at h2 ⊢;revert h2;cases a==Str.ofString "default" <;> cases a==Str.ofString "starts" <;> cases a==Str.ofString "values" <;> intro h2<;>first|rfl|cases h2
theorem N6(h0:J[D]?=some (lE D1 D2 D3 D4))(h1:J[D2]?=some (.dict maps))(hl:maps.lookup k=some (.inst "RangeMap" m))(hm:bd (a_T P) J (.inst "RangeMap" m) "get"=some (.fn "RangeMap"))(g:cP P d "RangeMap" "get" [.inst "RangeMap" m,.int c] [] J v J):kI P (d+1) D J k c v:=by
 have k1:bS (a_T P) J (.inst "Data" D) "maps"=some (.ref D2):=ax (dtC P) h0 rfl rfl;have k2:bA J .In (.str k) (.ref D2)=some true:=by show inI J (.str k) (.ref D2)=_;rw[qx h1,hl];rfl
 have k3:af J (.ref D2) (.str k)=some (.inst "RangeMap" m):=ua h1 hl;exact ag (gt P) ([V.inst (Str.ofString "Data") D,V.str k,V.int c]) (fun z=>(zV k1 (zT k2 (zV k1 (zV k3 (zK hm (zD g (z0 z))))).R.R.T)).R)
theorem N7(h0:J[D]?=some (lE D1 D2 D3 D4))(h1:J[D2]?=some (.dict maps))(h2:J[D1]?=some (.dict ds))(hl:maps.lookup k=none):kI P (d+1) D J k c ((ds.lookup k).getD .none):=by
 have k1:bS (a_T P) J (.inst "Data" D) "maps"=some (.ref D2):=ax (dtC P) h0 rfl rfl;have k2:bA J .In (.str k) (.ref D2)=some false:=by show inI J (.str k) (.ref D2)=_;rw[qx h1,hl];rfl
 have k3:bS (a_T P) J (.inst "Data" D) "defaults"=some (.ref D1):=ax (dtC P) h0 rfl rfl;have k4:=tA (T:=a_T P) h2;have k5:=y9 (k:=k) h2;exact ag (gt P) ([V.inst (Str.ofString "Data") D,V.str k,V.int c]) (fun z=>(zV k1 (zT k2 (zV k3 (zK k4 (zP k5 (z0 z)))).R.R.F)).R)
theorem JI(h0:J[D]?=some (lE D1 D2 D3 D4))(h1:J[D2]?=some (.dict maps))(hl:maps.lookup k=some v):cP P (d+1) "Data" "map_of" [.inst "Data" D,.str k] [] J v J:=by
 have k1:bS (a_T P) J (.inst "Data" D) "maps"=some (.ref D2):=ax (dtC P) h0 rfl rfl;have k2:bA J .NotIn (.str k) (.ref D2)=some false:=by show(inI _ _ _).map _=_;rw[qx h1,hl];rfl
 have k3:af J (.ref D2) (.str k)=some v:=ua h1 hl;exact ag (eJ P) ([V.inst (Str.ofString "Data") D,V.str k]) (fun z=>(zV k1 (zT k2 (zV k1 (zV k3 (z0 z))).R.F)).R)
theorem ot:∀{es:List (Str×V)},es.lookup k=none->em k v es=es++[(k,v)]/\(es++[(k,v)]).lookup k=some v
 |[],_=>⟨rfl,by simp[List.lookup]⟩
 |(y,w)::r,h=>by
  rw[TR]at h;cases e:k==y with|true=>rw[e]at h;cases h|false=>
   rw[e]at h;obtain⟨h1,h2⟩:=ot (es:=r) h;refine⟨?_,?_⟩
   .unfold em;rw[e];show(y,w)::em k v r=_;rw[h1];rfl
   .rw[V0,TR,e];exact h2
theorem JJ(h0:J[D]?=some (lE D1 D2 D3 D4))(h1:J[D2]?=some (.dict maps))(h2:J[D1]?=some (.dict ds))(hl:maps.lookup k=none)(hd:ds.lookup k=some dv)(hn:maps.length<800)(ne:D2≠D):
 cP P (d+2) "Data" "map_of" [.inst "Data" D,.str k] [] J (.inst "RangeMap" J.length) (J.set D2 (.dict (maps++[(k,.inst "RangeMap" J.length)]))++[jN dv [0] [dv]]):=by
 have k1:bS (a_T P) J (.inst "Data" D) "maps"=some (.ref D2):=ax (dtC P) h0 rfl rfl;have k2:bA J .NotIn (.str k) (.ref D2)=some true:=by show(inI _ _ _).map _=_;rw[qx h1,hl];rfl
 have k3:bS (a_T P) J (.inst "Data" D) "defaults"=some (.ref D1):=ax (dtC P) h0 rfl rfl;have k4:=tA (T:=a_T P) h2;have k5:=y9 (k:=k) h2;rw[hd]at k5;have k6:=Jy (P:=P) (d:=d) (dflt:=dv) (aN (H:=J) (c:=.dict []));rw[eK rfl]at k6;have k7:bS (a_T P) (J++[jN dv [0] [dv]]) (.inst "Data" D) "maps"=some (.ref D2):=ax (dtC P) (aT h0) rfl rfl;have hD2:=(Tr.mp h1).1;have k8:eo (J++[jN dv [0] [dv]]) (.ref D2) (.str k) (.inst "RangeMap" J.length)=some (J.set D2 (.dict (maps++[(k,.inst "RangeMap" J.length)]))++[jN dv [0] [dv]]):=by rw[y7 (aT h1) (TG ‹_› (by decide)),(ot hl).1,List.set_append_left _ _ hD2]
 have k9:bS (a_T P) (J.set D2 (.dict (maps++[(k,.inst "RangeMap" J.length)]))++[jN dv [0] [dv]]) (.inst "Data" D) "maps"=some (.ref D2):=ax (dtC P) (aT ((bZ ne).trans h0)) rfl rfl;have k10:af (J.set D2 (.dict (maps++[(k,.inst "RangeMap" J.length)]))++[jN dv [0] [dv]]) (.ref D2) (.str k)=some (.inst "RangeMap" J.length):=ua (aT (dg h1)) (ot hl).2;exact ag (eJ P) ([V.inst (Str.ofString "Data") D,V.str k]) (fun z=>(zV k1 (zT k2 (zV k3 (zK k4 (zP k5 (zN k6 (zV k7 (zS k8 (zV k9 (zV k10 (z0 z))).R)).R)))).R.R.R.R.T)).R)
theorem E5(hm:bd (a_T P) J (.inst "Data" D) "map_of"=some (.fn "Data"))(h1:cP P d "Data" "map_of" [.inst "Data" D,.str k] [] J (.inst "RangeMap" r) s1)(hp:bd (a_T P) s1 (.inst "RangeMap" r) "put"=some (.fn "RangeMap"))(h2:cP P d "RangeMap" "put" [.inst "RangeMap" r,.int c,.int c,v] [] s1 .none s):cP P (d+1) "Data" "put" [.inst "Data" D,.str k,.int c,.int c,v] [] J .none s:=by exact ag (i6 P) ([V.inst (Str.ofString "Data") D,V.str k,V.int c,V.int c,v]) (fun z=>(zK hm (zD h1 (zK hp (zD h2 (z0 z))))).R.R.Q)
end
mutual
theorem rI{n m:Nat}(h:n<=m):∀v:V,fG n v=true->fG m v=true
 |.ref k,e=>To (TG (TH e) h)
 |.inst _ k,e=>To (TG (TH e) h)
 |.tup xs,e=>refsL_mono h xs e
 |.lst xs,e=>refsL_mono h xs e
 |.none,_=>rfl
 |.bool _,_=>rfl
 |.int _,_=>rfl
 |.str _,_=>rfl
 |.rng _ _,_=>rfl
 |.fn _ _,_=>rfl
 |.cls _,_=>rfl
 |.bi _,_=>rfl
 |.ty _,_=>rfl
 |.jd _,_=>rfl
theorem refsL_mono{n m:Nat}(h:n<=m):∀l:List V,refsL n l=true->refsL m l=true
 |[],_=>rfl
 |v::l,e=>by have e:(fG n v&&refsL n l)=true:=e;rw[TC]at e;show(fG m v&&refsL m l)=true;rw[rI h v e.1,refsL_mono h l e.2];rfl
end
theorem yI{n m:Nat}(h:n<=m):∀c:ab,cg n c=true->cg m c=true
 |.list xs,e=>refsL_mono h xs e
 |.dict es,e=>refsL_mono h _ e
 |.tdict es,e=>by have e:(refsL n _&&refsL n _)=true:=e;rw[TC]at e;show(refsL m _&&refsL m _)=true;rw[refsL_mono h _ e.1,refsL_mono h _ e.2];rfl
theorem rJ{J:Hp}{n m:Nat}(h:n<=m)(e:J.all (cg n)=true):J.all (cg m)=true:=by rw[UI]at e ⊢;exact fun c hc=>yI h c (e c hc)
theorem fm.mono{x:ab}{f:Int->V}{n m:Nat}(M:fm x f n)(h:n<=m):fm x f m:=by refine oW (M.ex) ?_;rintro ps dflt h1 h2 h3 h4 h5;exact⟨ps,dflt,h1,h2,h3,h4,ar2 [_,_,_] [] 524288 40183396457199108934192 h5 h art⟩
theorem lF{dv:V}(h:fj dv=true):fm (jN dv [0] [dv]) (fun _=>dv) 0 :=
 ⟨[(0,dv)],dv,rfl,h,fun q hq=>by rw[Tw.mp hq];exact h,⟨List.pairwise_singleton _ _,⟨_,rfl,rfl⟩,fun c hc _=>by
  rw[UZ,if_pos (To hc)];rfl⟩,TB _⟩
def BM(k:Str):V:=(dfl.lookup k).getD .none
structure ef(J:Hp)(D M:Nat)(f:Str->Int->V)(n:Nat):Prop where
 DM:D+5<=M
 ML:M<=J.length
 c0:J[D]?=some (lE (D+1) (D+2) (D+3) (D+4))
 c1:J[D+1]?=some (.dict dfl)
 ml:∃maps:List (Str×V),J[D+2]?=some (.dict maps)/\maps.length<=n /\
  (∀k r,maps.lookup k=some r->∃m x,r=.inst "RangeMap" m/\M<=m/\J[m]?=some x/\fm x (f k) n) /\
  (∀k,maps.lookup k=none->∀c,f k c=BM k) /\
  (∀k k' m,maps.lookup k=some (.inst "RangeMap" m)->maps.lookup k'=some (.inst "RangeMap" m)->k=k')
theorem ef.keep{J J':Hp}{D M n:Nat}{f:Str->Int->V}(A:ef J D M f n)(hl:M<=J'.length)(h:∀i,D<=i->(i<D+3\/M<=i)->i<J.length->J'[i]?=J[i]?):ef J' D M f n:=by
 refine qM (A.ml) ?_;rintro maps m1 m2 m3 m4 m5;have g:∀{i:Nat}{c:ab},D<=i->(i<D+3\/M<=i)->J[i]?=some c->J'[i]?=some c:=fun{i c} h1 h2 e=>(h i h1 h2 (Tr.mp e).1).trans e;have:=A.DM;exact⟨A.DM,hl,g (TB _) (.inl (Nat.lt_add_of_pos_right (by decide))) A.c0,g (Vm _) (.inl (UR (by decide) _)) A.c1,maps,g (Uh _ _) (.inl (UR (by decide) _)) m1,m2,fun k r hk=>by
  refine eY (m3 k r hk) ?_;rintro m x h1 h2 h3 h4;exact⟨m,x,h1,h2,g (ar2 [_,_,_] [] 0 603981269552 this h2 art) (.inr h2) h3,h4⟩,m4,m5⟩
theorem ef.more{J H:Hp}{D M n:Nat}{f:Str->Int->V}(A:ef J D M f n):ef (J++H) D M f n :=
 A.keep (by rw[Tm];have:=A.ML;exact Wk ‹_›) fun i _ _ hi=>TL hi
noncomputable def upd(f:Str->Int->V)(k:Str)(c:Int)(v:V):Str->Int->V:=fun k' x=>if k'=k then(if c<=x/\x<=c then v else f k x)else f k' x
section
variable{P:Params}{d D M n:Nat}{J:Hp}{f:Str->Int->V}{k:Str}{c:Int}{v dv:V}
theorem ef.dat(A:ef J D M f n):∃es,J[D]?=some (.dict es)/\List.lookup ("get":Str) es=none:=⟨_,A.c0,by rfl'⟩
theorem E6(A:ef J D M f n)(hn:n<=40)(h0:0<=c)(h1:c<1114111):kI P (d+3) D J k c (f k c):=by
 refine qM (A.ml) ?_;rintro maps m1 m2 m3 m4 m5;cases hl:maps.lookup k with|none=>rw[m4 k hl c];exact N7 A.c0 m1 A.c1 hl|some r=>refine eY (m3 k r hl) ?_;rintro m x rfl h2 h3 h4;exact N6 A.c0 m1 hl (u3 h3 h4 (by rfl') (by rfl')) (N5 h3 h4 hn h0 h1)
theorem RA(A:ef J D M f n)(hn:n<=39)(hd:dfl.lookup k=some dv)(hp:fj dv=true)(h1:1<=c)(hm:c<1114110)(hv:fj v=true)(hcl:J.all (cg J.length)=true):
 ∃J',cP P (d+3) "Data" "put" [.inst "Data" D,.str k,.int c,.int c,v] [] J .none J'/\ef J' D M (upd f k c v) (n+1)/\J'.all (cg J'.length)=true/\J.length<=J'.length/\(∀i,i<M->i≠D+2->J'[i]?=J[i]?):=by
 refine qM (A.ml) ?_;rintro maps m1 m2 m3 m4 m5;have DM:=A.DM;have ML:=A.ML;have mm:bd (a_T P) J (.inst "Data" D) "map_of"=some (.fn "Data"):=dZ (dtC P) A.c0 (by rfl') (by rfl') (by rfl');have up:∀k',k'≠k->upd f k c v k'=f k':=fun k' h=>by funext x;unfold upd;rw[if_neg h]
 have up1:upd f k c v k=fun x=>if c<=x/\x<=c then v else f k x:=by funext x;unfold upd;rw[if_pos rfl]
 cases hl:maps.lookup k with
 |some r=>
  refine eY (m3 k r hl) ?_;rintro m x rfl h2 h3 h4;refine ae (E1 (P:=P) (d:=d) h3 h4 (Tk ‹_› (by decide)) h1 hm hv hcl) ?_;rintro y hy pc;have g:∀i,i≠m->(J.set m y)[i]?=J[i]?:=fun i h=>bZ (Ne.symm h);refine⟨J.set m y,E5 mm (JI A.c0 m1 hl) (u3 h3 h4 (by rfl') (by rfl')) pc,⟨DM,by rw[Ut];exact ML,(g _ (Ux (ar2 [_,_,_] [] 0 599562940500528 DM h2 art))).trans A.c0,(g _ (Ux (ar2 [_,_,_] [] 0 613933537193019952 DM h2 art))).trans A.c1,maps,(g _ (Ux (ar2 [_,_,_] [] 0 613933571552758320 DM h2 art))).trans m1,Wk ‹_›,fun k' r' hk'=>?_,fun k' hk' c'=>?_,m5⟩,?_,by rw[Ut];exact TB _,fun i hi _=>g i (Ux (TG ‹_› ‹_›))⟩
  . refine eY (m3 k' r' hk') ?_;rintro m' x' rfl q2 q3 q4;by_cases e:k'=k
    .subst e;rw[hl]at hk';cases hk';exact⟨m,y,rfl,h2,dg h3,by rw[up1];exact hy⟩
    .refine⟨m',x',rfl,q2,(g _ fun e'=>e ?_).trans q3,by rw[up k' e];exact q4.mono (Vm _)⟩;subst e';exact m5 _ _ _ hk' hl
  .rw[up k' (fun e=>by subst e;rw[hl]at hk';cases hk')];exact m4 k' hk' c'
  .rw[Ut];exact jR hcl hy.refs
 |none=>
  have hlt:D+2<J.length:=(Tr.mp m1).1;have mo:=JJ (P:=P) (d:=d) A.c0 m1 A.c1 hl hd (Ts (Tk ‹_› ‹_›) (by decide)) (Vb (ar0 [_] [] 0 44565808 art));generalize hs1:J.set (D+2) (.dict (maps++[(k,.inst "RangeMap" J.length)]))++[jN dv [0] [dv]]=s1 at mo;have len:s1.length=J.length+1:=by rw[<-hs1];simp
  have e0:s1[J.length]?=some (jN dv [0] [dv]):=by rw[<-hs1];have:=aN (H:=J.set (D+2) (.dict (maps++[(k,.inst "RangeMap" J.length)]))) (c:=jN dv [0] [dv]);rw[Ut]at this;exact this
  have e2:s1[D+2]?=some (.dict (maps++[(k,.inst "RangeMap" J.length)])):=by rw[<-hs1];exact aT (dg m1)
  have g:∀i,i≠D+2->i<J.length->s1[i]?=J[i]?:=fun i h hi=>by rw[<-hs1,TL (by rw[Ut];exact hi)];exact bZ (Ne.symm h)
  have cl1:s1.all (cg s1.length)=true:=by
   rw[len,<-hs1,List.all_append];have c1:=rJ (m:=J.length+1) (Vm _) hcl;have cm:cg (J.length+1) (.dict (maps++[(k,V.inst "RangeMap" J.length)]))=true:=by
    show refsL _ ((maps++[(k,V.inst "RangeMap" J.length)]).map (·.2))=true;refine gD fun w hw=>?_;rw[TI]at hw;rcases TJ.mp hw with hw|hw
    . have:=UI.mp hcl _ (TZ m1);have:refsL J.length (maps.map (·.2))=true:=this;clear hl mo m3 m4 m5;have key:∀{l:List V},refsL J.length l=true->w∈l->fG J.length w=true:=fun{l}=>by
       induction l with|nil=>intro _ h;exact nomatch h|cons a l ih=>
        intro h hm;have h:(fG _ a&&refsL _ l)=true:=h;rw[TC]at h;rcases TS.mp hm with rfl|hm
        .exact h.1
        .exact ih h.2 hm
      exact rI (Vm _) w (key this hw)
    .rw[Tw.mp hw];exact To (UO _)
   rw[jR c1 cm];show(cg _ (jN dv [0] [dv])&&true)=true;rw[(lF hp).refs];rfl
  refine ae (E1 (P:=P) (d:=d) e0 (lF hp) (by decide) h1 hm hv cl1) ?_;rintro y hy pc;have g2:∀i,i≠J.length->(s1.set J.length y)[i]?=s1[i]?:=fun i h=>bZ (Ne.symm h);refine⟨s1.set J.length y,E5 mm mo (u3 e0 (lF hp) (by rfl') (by rfl')) pc,⟨DM,by rw[Ut];exact ar2 [_,_,_] [] 0 603999208752 ML (TF (Ul len) :) art,(g2 _ (by exact Ux (ar1 [_,_] [] 0 599560826422608 hlt art))).trans ((g _ (by exact Ux (ar0 [_] [] 0 44565808 art)) (Ts (Uh _ _) ‹_›)).trans A.c0),(g2 _ (by exact Ux (ar1 [_,_] [] 0 613933535078942032 hlt art))).trans ((g _ (by exact Ux (ar0 [_] [] 0 45635372336 art)) (TV ‹_›)).trans A.c1),maps++[(k,.inst "RangeMap" J.length)],(g2 _ (by exact Ux (ar1 [_,_] [] 0 613933569438680400 hlt art))).trans e2,by rw[Tm];simp;omega,?_,?_,?_⟩,?_,by rw[Ut];exact ar1 [_,_] [] 0 587760944 (TF (Ul len) :) art,fun i hi hne=>(g2 i (Ux (TG ‹_› ‹_›))).trans (g i hne (TG ‹_› ‹_›))⟩
  . have look:∀k',k'≠k->(maps++[(k,V.inst "RangeMap" J.length)]).lookup k'=maps.lookup k':=fun k' h=>by
     rw[WL];have:List.lookup k' [(k,V.inst "RangeMap" J.length)]=none:=by rw[TR,Tv.mpr h];rfl
     rw[this,Option.or_none]
    intro k' r' hk';by_cases e:k'=k
    . subst e;rw[(ot (v:=.inst "RangeMap" J.length) hl).2]at hk';cases hk';refine⟨J.length,y,rfl,ML,dg e0,?_⟩;rw[up1];have:f k'=fun _=>dv:=by funext x;rw[m4 k' hl x];unfold BM;rw[hd];rfl
      rw[this];exact hy.mono (V6 _ _)
    .rw[look k' e]at hk';refine eY (m3 k' r' hk') ?_;rintro m' x' rfl q2 q3 q4;have hm':=(Tr.mp q3).1;exact⟨m',x',rfl,q2,(g2 _ (Ux (ar1 [_,_] [] 0 585508619568 hm' art))).trans ((g _ (Vb (ar2 [_,_,_] [] 0 613933571552758320 DM q2 art)) hm').trans q3),by rw[up k' e];exact q4.mono (Vm _)⟩
  . intro k' hk' c';rw[WL]at hk';have e:k'≠k:=fun e=>by subst e;rw[hl,Wj,TR,TQ]at hk';cases hk'
    rw[up k' e];refine m4 k' ?_ c';cases q:maps.lookup k' with|none=>rfl|some w=>rw[q]at hk';cases hk'
  . have own:∀k' m',(maps++[(k,V.inst "RangeMap" J.length)]).lookup k'=some (.inst "RangeMap" m')->(k'=k/\m'=J.length)\/(maps.lookup k'=some (.inst "RangeMap" m')/\m'<J.length):=fun k' m' h=>by
     rw[WL]at h;cases q:maps.lookup k' with
     |some w=>rw[q]at h;cases h;refine eY (m3 k' _ q) ?_;rintro m2 x2 e2 _ q3 _;cases e2;exact .inr ⟨rfl,(Tr.mp q3).1⟩
     |none=>
      rw[q,Wj,TR]at h;cases e:k'==k with|true=>rw[e]at h;cases h;exact .inl ⟨Ub.mp e,rfl⟩|false=>rw[e]at h;cases h
    intro k1 k2 m' a1 a2;rcases own _ _ a1 with⟨b1,b2⟩|⟨b1,b2⟩<;>rcases own _ _ a2 with⟨c1,c2⟩|⟨c1,c2⟩
    .rw[b1,c1]
    .exact absurd ‹_› (Ux ‹_›)
    .exact absurd ‹_› (Ux ‹_›)
    .exact m5 _ _ _ b1 c1
  .rw[Ut];exact jR cl1 hy.refs
end
section
variable{P:Params}{d:Nat}{J:Hp}
theorem E7{c:Int}(h1:44032<=c)(h2:c<=55203){b:Bool}(hb:((c-44032).fmod 28==0)=b):cP P (d+1) "" "line_hangul" [.int c] [] J (.str (cond b "H2" "H3")) J:=by
 have d1:decide (44032<=c)=true:=To h1;have d2:decide (c<=55203)=true:=To h2;cases b
 .exact ag (ce P) ([V.int c]) (fun z=>(zH d1 (zH d2 (zH hb (z0 z)).C.C.C).C).C)
 .exact ag (ce P) ([V.int c]) (fun z=>(zH d1 (zH d2 (zH hb (z0 z)).C.C.C).C).C)
end
noncomputable def inZ(c:Int):List Int->Bool
 |[]=>false
 |y::ys=>(y==c)||inZ c ys
noncomputable abbrev zZ:List Int:=[12293,12347,12445,12446,12541,12542]
noncomputable def btw(a b c:Int):Bool:=decide (a<=c)&&decide (c<=b)
noncomputable def rK(c:Int):List (Int×Int×Str)->Option Str
 |[]=>none
 |(a,b,w)::r=>cond (btw a b c) (some w) (rK c r)
noncomputable def rL(l:List (Int×Int×Str)):List V:=l.map fun q=>.tup [.int q.1,.int q.2.1,.str q.2.2]
noncomputable abbrev wU:List (Int×Int×Str):=[(4352,4447,"JL"),(4448,4519,"JV"),(4520,4607,"JT"),(43360,43388,"JL"),(55216,55238,"JV"),(55243,55291,"JT")]
theorem JK{asg:V->Loc->Hp->An->KL->Prop}{body:Loc->Hp->An->KF->Prop}{tg:Expr}{J:Hp}{c:Int}{R:List (Int×Int×Str)}{l0:Loc}(LocOk:Loc->Prop)(h0:LocOk l0)(ht:nU tg (.seq (.tup (rL R)))=true)(s1:∀l a b w,LocOk l->btw a b c=true->∃l',eZ asg body (.tup [.int a,.int b,.str w]) l J (.ret (.str w)) l' J)(s2:∀l a b w,LocOk l->btw a b c=false->∃l',LocOk l'/\eZ asg body (.tup [.int a,.int b,.str w]) l J .next l' J):
 (rK c R=none/\∃l',LocOk l'/\eW asg body tg (.seq (.tup (rL R))) l0 J .next l' J)\/∃w l',rK c R=some w/\eW asg body tg (.seq (.tup (rL R))) l0 J (.ret (.str w)) l' J:=by
 have hN:∀s,bD s (.seq (.tup (rL R)))=some R.length:=fun s=>by show some (rL R).length=_;unfold rL;rw[Tn]
 refine Or.elim (y8 (asg:=asg) (body:=body) (tg:=tg) (N:=R.length) (it:=.seq (.tup (rL R))) (loc:=l0) (J:=J) (fun i l s=>LocOk l/\s=J/\rK c R=rK c (R.drop i)) (fun v l s=>s=J/\∃w,rK c R=some w/\v=.str w) (fun i l s hi I=>?_) (fun l s I=>hN _) (hN _) ht ⟨h0,rfl,rfl⟩) ?_ ?_
 . refine eX (I) ?_;rintro hl rfl hd;have e:R.drop i=R[i]::R.drop (i+1):=Vs hi;obtain⟨a,b,w,he⟩:∃a b w,R[i]=(a,b,w):=⟨_,_,_,rfl⟩;rw[e,he]at hd;have hd:rK c R=cond (btw a b c) (some w) (rK c (R.drop (i+1))):=hd;have hg:fD s i (.seq (.tup (rL R)))=some (.tup [.int a,.int b,.str w]):=by show(some (rL R)).bind (·[i]?)=_;rw[Ue];unfold rL;rw[Ty,Tq hi,he];rfl
   cases q:btw a b c with
   |true=>obtain⟨l',h1⟩:=s1 l a b w hl q;rw[q]at hd;exact⟨hN _,_,_,_,_,hg,h1,.inr ⟨_,rfl,rfl,w,hd,rfl⟩⟩
   |false=>refine ae (s2 l a b w hl q) ?_;rintro l' h1 h2;rw[q]at hd;exact⟨hN _,_,_,_,_,hg,h2,.inl ⟨.inl rfl,h1,rfl,hd⟩⟩
 .rintro⟨l,s,⟨h1,rfl,h2⟩,h⟩;rw[List.drop_length]at h2;exact .inl ⟨h2,l,h1,h⟩
 .rintro⟨v,l,s,⟨rfl,w,h1,rfl⟩,h⟩;exact .inr ⟨w,l,h1,h⟩
section
variable{P:Params}{d D h:Nat}{J:Hp}{c a b:Int}{w wd g st hw:Str}{o1 o2 o3:Option V}{l:Loc}
abbrev hgS(P:Params):Stmt:=db 1 (ce P).body
noncomputable abbrev hgL(c:Int)(o1 o2 o3:Option V):Loc:=[("code",.v (some (.int c))),("first",.v o1),("last",.v o2),("word",.v o3),("LINE_FIRST_SYLLABLE",.g),("LINE_LAST_SYLLABLE",.g),("LINE_TAILS",.g),("LINE_JAMO_RANGES",.g)]
noncomputable abbrev E8(P:Params)(d:Nat)(S:Stmt)(x:V)(loc:Loc)(J:Hp)(f:Fl)(l:Loc)(s:Hp):Prop:=eZ (aJ P d (bf S)) (av P d (bj S)) x loc J f l s
noncomputable abbrev E9(P:Params)(d:Nat)(S:Stmt)(R:List (Int×Int×Str))(loc:Loc)(J:Hp)(f:Fl)(l:Loc):Prop:=eW (aJ P d (bf S)) (av P d (bj S)) (bf S) (.seq (.tup (rL R))) loc J f l J
theorem RB(q:btw a b c=true):E8 P d (hgS P) (.tup [.int a,.int b,.str w]) (hgL c o1 o2 o3) J (.ret (.str w)) (hgL c (some (.int a)) (some (.int b)) (some (.str w))) J:=by intro k hk;unfold btw at q;exact aw (zC (zO (zC (zW J (zH q (z0 hk))))))
theorem RC(q:btw a b c=false):E8 P d (hgS P) (.tup [.int a,.int b,.str w]) (hgL c o1 o2 o3) J .next (hgL c (some (.int a)) (some (.int b)) (some (.str w))) J:=by intro k hk;unfold btw at q;exact aw (zC (zO (zC (zW J (zH q (z0 hk))))))
theorem N8(q:btw 44032 55203 c=false)(L:E9 P d (hgS P) wU (hgL c none none none) J (.ret (.str w)) l):cP P (d+1) "" "line_hangul" [.int c] [] J (.str w) J:=by unfold btw at q;exact ag (ce P) ([V.int c]) (fun z=>(zW J (zH q (zL L (z0 z)).C)).C.O.C)
theorem N9(q:btw 44032 55203 c=false)(L:E9 P d (hgS P) wU (hgL c none none none) J .next (hgL c o1 o2 o3)):cP P (d+1) "" "line_hangul" [.int c] [] J (.str "AL") J:=by unfold btw at q;exact ag (ce P) ([V.int c]) (fun z=>(zW J (zH q (zL L (z0 z)).C)).C.O.C)
def ql(c:Int):Str:=cond (btw 44032 55203 c) (cond ((c-44032).fmod 28==0) "H2" "H3") ((rK c wU).getD "AL")
theorem wV{a b c:Int}(h:btw a b c=true):a<=c/\c<=b:=by unfold btw at h;rw[TC,Um,Um]at h;exact h
theorem Ob:cP P (d+1) "" "line_hangul" [.int c] [] J (.str (ql c)) J:=by
 unfold ql;cases q:btw 44032 55203 c with
 |true=>exact E7 (wV q).1 (wV q).2 rfl
 |false=>
  rcases JK (J:=J) (c:=c) (R:=wU) (l0:=hgL c none none none) (tg:=bf (hgS P)) (asg:=aJ P d (bf (hgS P))) (body:=av P d (bj (hgS P))) (fun l=>∃o1 o2 o3,l=hgL c o1 o2 o3) ⟨_,_,_,rfl⟩ rfl
   (fun l a b w ⟨o1,o2,o3,e⟩ q=>by subst e;exact⟨_,RB q⟩) (fun l a b w ⟨o1,o2,o3,e⟩ q=>by subst e;exact⟨_,⟨_,_,_,rfl⟩,RC q⟩)with⟨h1,l',⟨o1,o2,o3,rfl⟩,h2⟩|⟨w,l',h1,h2⟩
  .rw[h1];exact N9 q h2
  .rw[h1];exact N8 q h2
def fW(w g st hw:Str)(c:Int):Str:=cond (inS w ["AI","SG","XX"]) (cond (w=="XX") hw "AL") (cond (w=="SA") (cond (inS g ["Mn","Mc"]) "CM" "AL") (cond (w=="CJ") (cond (st=="strict") "NS" "ID") (cond ((w=="NS")&&((st=="loose")&&inZ c zZ)) "ID" w)))
theorem JL(hm:bd (a_T P) J (.inst "Data" D) "get"=some (.fn "Data"))(L:kI P d D J "lb" c (.str wd))(G:kI P d D J "gc" c (.str g))(S:bS (a_T P) J (.inst "LineHow" h) "strictness"=some (.str st))(ρ:cP P d "" "line_hangul" [.int c] [] J (.str hw) J):rq P (d+1) D h J c (fW wd g st hw c):=by exact ag (gI P) ([V.int c,V.inst (Str.ofString "Data") D,V.inst (Str.ofString "LineHow") h]) (fun z=>(zK hm (zD L (zM (fun p20=>(zM (fun p119=>(zD ρ (z0 (zE J ((Tx V.str (xT p20 (xT p119 rfl))):(V.str (fW wd g st hw c))=_)))).R) (fun p119=>z0 (zE J ((Tx V.str (xT p20 (xF p119 rfl))):(V.str (fW wd g st hw c))=_)))).C) (fun p20=>(zM (fun p119=>(zK hm (zD G (zM (fun p168=>z0 (zE J ((Tx V.str (xF p20 (xT p119 (xT p168 rfl)))):(V.str (fW wd g st hw c))=_))) (fun p168=>z0 (zE J ((Tx V.str (xF p20 (xT p119 (xF p168 rfl)))):(V.str (fW wd g st hw c))=_)))).C.R)).R) (fun p119=>(zM (fun p151=>(zV S (zM (fun p191=>z0 (zE J ((Tx V.str (xF p20 (xF p119 (xT p151 (xT p191 rfl))))):(V.str (fW wd g st hw c))=_))) (fun p191=>z0 (zE J ((Tx V.str (xF p20 (xF p119 (xT p151 (xF p191 rfl))))):(V.str (fW wd g st hw c))=_)))).C).R) (fun p151=>(zV S (zW J (zW J (zM (fun p237=>z0 (zE J ((Tx V.str (xF p20 (xF p119 (xF p151 (xT p237 rfl))))):(V.str (fW wd g st hw c))=_))) (fun p237=>z0 (zE J ((Tx V.str (xF p20 (xF p119 (xF p151 (xF p237 rfl))))):(V.str (fW wd g st hw c))=_)))))).C.O.C).R.O.C)).C)).C)).C)).R.R)
end
noncomputable def gQ(f:Nat->Bool):Nat->Nat
 |0=>0
 |n+1=>cond (f (n+1)) (gQ f n) (n+1)
noncomputable def qm(f:Nat->Bool):Nat->Int
 |0=> -1
 |n+1=>cond (f n) (qm f n) n
theorem z5{wt:Loc->Hp->An->KQ->Prop}{body:Loc->Hp->An->KF->Prop}{L:Int->Loc}{J:Hp}(f:Nat->Bool){N:Nat}(s1:∀n:Nat,n+1<=N->f (n+1)=true->fH wt body (L ((n+1:Nat):Int)) J true .next (L (((n+1:Nat):Int)-1)) J)(s2:∀n:Nat,n+1<=N->f (n+1)=false->fH wt body (L ((n+1:Nat):Int)) J false .next (L ((n+1:Nat):Int)) J)(s0:fH wt body (L 0) J false .next (L 0) J)(hn:N<200):et wt body (L N) J .next (L (gQ f N)) J:=by
 refine Tu (nW (wt:=wt) (body:=body) (fun k l s=>s=J/\l=L k/\k<=N/\gQ f k=gQ f N) (fun l s=>s=J/\l=L (gQ f N)) ?_ N (L N) J mu hn ⟨rfl,rfl,TB _,rfl⟩) fun l hh=>?_
 . rintro k l s ⟨rfl,rfl,hk,e⟩;cases k with
   |zero=>exact⟨false,.next,_,_,s0,.inl ⟨rfl,rfl,rfl,by rw[<-e];rfl⟩⟩
   |succ k=>
    cases q:f (k+1)with|true=>have e:cond (f (k+1)) (gQ f k) (k+1)=gQ f N:=e;rw[q]at e;exact⟨true,.next,_,_,s1 k hk q,.inr ⟨rfl,.inl rfl,k,UO k,rfl,by rw[show((k+1:Nat):Int)-1=k by exact are [_] [] 1 120335729968 art art],UU ‹_›,e⟩⟩|false=>have e:cond (f (k+1)) (gQ f k) (k+1)=gQ f N:=e;rw[q]at e;exact⟨false,.next,_,_,s2 k hk q,.inl ⟨rfl,rfl,rfl,by rw[<-e];rfl⟩⟩
 .obtain⟨s,⟨rfl,rfl⟩,h⟩:=hh;exact h
theorem Fa{wt:Loc->Hp->An->KQ->Prop}{body:Loc->Hp->An->KF->Prop}{L:Int->Loc}{J:Hp}(f:Nat->Bool){N:Nat}(s1:∀n:Nat,n<N->f n=true->fH wt body (L (n:Int)) J true .next (L ((n:Int)-1)) J)(s2:∀n:Nat,n<N->f n=false->fH wt body (L (n:Int)) J false .next (L (n:Int)) J)(s0:fH wt body (L (-1)) J false .next (L (-1)) J)(hn:N<200):et wt body (L ((N:Int)-1)) J .next (L (qm f N)) J:=by
 refine Tu (nW (wt:=wt) (body:=body) (fun k l s=>s=J/\l=L ((k:Int)-1)/\k<=N/\qm f k=qm f N) (fun l s=>s=J/\l=L (qm f N)) ?_ N (L ((N:Int)-1)) J mu hn ⟨rfl,rfl,TB _,rfl⟩) fun l hh=>?_
 . rintro k l s ⟨rfl,rfl,hk',e⟩;cases k with
   |zero=>exact⟨false,.next,_,_,s0,.inl ⟨rfl,rfl,rfl,by rw[<-e];rfl⟩⟩
   |succ k=>
    have hk:((k+1:Nat):Int)-1=k:=are [_] [] 1 120335729968 art art;rw[hk];have e:cond (f k) (qm f k) k=qm f N:=e;cases q:f k with|true=>rw[q]at e;exact⟨true,.next,_,_,s1 k hk' q,.inr ⟨rfl,.inl rfl,k,UO k,rfl,rfl,TX hk',e⟩⟩|false=>rw[q]at e;exact⟨false,.next,_,_,s2 k hk' q,.inl ⟨rfl,rfl,rfl,by rw[<-e];rfl⟩⟩
 .obtain⟨s,⟨rfl,rfl⟩,h⟩:=hh;exact h
section
variable{P:Params}{d:Nat}{J:Hp}{n g e st w x:Str}{p dc j:Bool}{cv:V}{k at':Int}{ns:List V}
def jb(n g st:Str)(dc:Bool):Str:=cond (n=="SA") (cond (inS g ["Mn","Mc"]) "CM" "AL") (cond (n=="CJ") (cond (st=="strict") "NS" "ID") (cond ((n=="NS")&&(dc&&(st=="loose"))) "ID" (cond (inS n ["AI","SG","XX"]) "AL" n)))
noncomputable abbrev bv(n g e:Str)(p:Bool)(cv:V):V:=.tup [.str n,.str g,.str e,.bool p,cv]
noncomputable abbrev bK(n:Str)(s:V)(k:Int)(j:Bool):V:=.lst [.str n,s,.int k,.bool j]
theorem JM(hc:bA J .Eq cv (.int 12293)=some dc):cP P (d+1) "" "_law_class" [bv n g e p cv,.str st] [] J (.str (jb n g st dc)) J:=by exact ag (hO P) ([bv n g e p cv,V.str st]) (fun z=>(zM (fun p9=>(zM (fun p46=>z0 (zE J ((Tx V.str (xT p9 (xT p46 rfl))):(V.str (jb n g st dc))=_))) (fun p46=>z0 (zE J ((Tx V.str (xT p9 (xF p46 rfl))):(V.str (jb n g st dc))=_)))).C.R.C) (fun p9=>(zM (fun p40=>(zM (fun p71=>z0 (zE J ((Tx V.str (xF p9 (xT p40 (xT p71 rfl)))):(V.str (jb n g st dc))=_))) (fun p71=>z0 (zE J ((Tx V.str (xF p9 (xT p40 (xF p71 rfl)))):(V.str (jb n g st dc))=_)))).C) (fun p40=>(zT hc (zW J (zW J (zM (fun p123=>z0 (zE J ((Tx V.str (xF p9 (xF p40 (xT p123 rfl)))):(V.str (jb n g st dc))=_))) (fun p123=>(zM (fun p223=>z0 (zE J ((Tx V.str (xF p9 (xF p40 (xF p123 (xT p223 rfl))))):(V.str (jb n g st dc))=_))) (fun p223=>z0 (zE J ((Tx V.str (xF p9 (xF p40 (xF p123 (xF p223 rfl))))):(V.str (jb n g st dc))=_)))).C.R)))).C.O).C.O.C)).C)).C.C.R)
theorem Qj(hc:bA J .Eq cv (.int 9676)=some dc):cP P (d+1) "" "_law_is_aksara" [bK w (bv n g e p cv) k j] [] J (.bool (inS w ["AK","AS"]||dc)) J:=by exact ag (fy P) ([bK w (bv n g e p cv) k j]) (fun z=>(zT hc (zW J (z0 z))).C.C.O.C.R.C)
abbrev fgS(P:Params):Stmt:=db 0 (cT P).body
noncomputable abbrev fgL(ns:List V)(a:Int):Loc:=[("names",.v (some (.lst ns))),("at",.v (some (.int a)))]
noncomputable abbrev yJ(P:Params)(d:Nat)(loc:Loc)(J:Hp)(c:Bool)(f:Fl)(l:Loc)(s:Hp):Prop:=fH (bI P d (iy (fgS P))) (av P d (bj (fgS P))) loc J c f l s
theorem RD(q:decide (0<at')=true)(h:af J (.lst ns) (.int at')=some (.str x))(hx:inS x ["SY","IS"]=true):yJ P d (fgL ns at') J true .next (fgL ns (at'-1)) J:=by intro k hk;exact aw (zC (zH q (zV h (zR (zC (zH hx (zR (zC (z0 hk))))))))) (by rfl')
theorem RF(q:decide (0<at')=true)(h:af J (.lst ns) (.int at')=some (.str x))(hx:inS x ["SY","IS"]=false):yJ P d (fgL ns at') J false .next (fgL ns at') J:=by intro k hk;exact aw (zC (zH q (zV h (zR (zC (zH hx (z0 hk))))))) (by rfl')
theorem Qk(q:decide (0<at')=false):yJ P d (fgL ns at') J false .next (fgL ns at') J:=by intro k hk;exact aw (zC (zH q (zH q (z0 hk)))) (by rfl')
end
theorem JN{xs:List V}{x y:V}{J:Hp}:eo (J++[.list (xs++[x])]) (.ref J.length) (.int (-1)) y=some (J++[.list (xs++[y])]):=by
 have hs:aO (-1)=true:=by decide
 have:seqIndex? (-1) (xs++[x]).length=some xs.length:=by unfold seqIndex?;rw[Tm];simp;exact⟨⟨ar0 [_] [] 1 35739144488 art,ar0 [_] [] 1 1481122737317593225 art⟩,Ud (ar1 [_,_] [] 512 19704392023417968 (qI (a:=-1+(↑xs.length+1)) (ar0 [_] [] 1 35739144488 art)) art) (ar1 [_,_] [] 512 19707132137029769 (Ax (a:=-1+(↑xs.length+1)) (ar0 [_] [] 1 35739144488 art)) art)⟩
 rw[wN aN,hs,this];show some ((J++[ab.list (xs++[x])]).set J.length (.list ((xs++[x]).set xs.length y)))=_;rw[eK rfl,Uz _ _ (TB _),UB];rfl
theorem z6{xs:List V}{x:V}{J:Hp}:af (J++[.list (xs++[x])]) (.ref J.length) (.int (-1))=some x:=by rw[kZ (cq aN)];exact lX
theorem jS{xs:List V}{x:V}{J:Hp}(hl:ba xs=true):aQ (J++[.list xs]) "list.append" (.ref J.length) [x]=some (.none,J++[.list (xs++[x])]):=by rw[dz aN hl,eK rfl]
section
variable{P:Params}{d:Nat}{J:Hp}{nm st w:Str}{j:Bool}{s:V}{m:Int}{us:List V}{sv ss:V}{o1 o2:Option V}
abbrev luS(P:Params):Stmt:=db 1 (fN P).body
noncomputable abbrev luL(sv:V)(st:Str)(F:Nat)(o1 o2:Option V):Loc:=[("sorts",.v (some sv)),("strictness",.v (some (.str st))),("found",.v (some (.ref F))),("sort",.v o1),("name",.v o2),("_law_class",.g)]
noncomputable abbrev jT(P:Params)(d:Nat)(x:V)(loc:Loc)(J:Hp)(f:Fl)(l:Loc)(s:Hp):Prop:=eZ (aJ P d (bf (luS P))) (av P d (bj (luS P))) x loc J f l s
noncomputable abbrev ClF(P:Params)(d:Nat)(J:Hp)(s:V)(st nm:Str):Prop:=cP P d "" "_law_class" [s,.str st] [] J (.str nm) J
theorem RG(hl:us.length<=100)(C:ClF P d (J++[.list (us++[bK w s m j])]) sv st nm)(q1:inS nm ["CM","ZWJ"]=true)(q2:inS w ["BK","CR","LF","NL","SP","ZW"]=false):
 jT P d sv (luL ss st J.length o1 o2) (J++[.list (us++[bK w s m j])]) .next (luL ss st J.length (some sv) (some (.str nm))) (J++[.list (us++[bK w s (m+1) (nm=="ZWJ")])]):=by
 intro k hk;have n1:bA (J++[.list (us++[bK w s m j])]) .NotEq (.ref J.length) (.lst [])=some true:=by rw[qO aN,Tm];rfl
 have i1:=z6 (xs:=us) (x:=bK w s m j) (J:=J);have t1:=JN (xs:=us) (x:=bK w s m j) (y:=bK w s (m+1) (nm=="ZWJ")) (J:=J);unfold ClF at C;exact aw (zR (zR (zD C (zR (zC (zH q1 (zR (zT n1 (z1 (zC (zV i1 (zC (zR (zC (zH (nF q2) (zR (zC (zV i1 (zC (zC (zV i1 (zC (zC (zV i1 (zC (zC (zC (zR (zC (zS t1 (z0 hk))))))))))))))))))))))))))))))) (by rfl')
theorem Ql(hl:us.length<=100)(C:ClF P d (J++[.list us]) sv st nm)(q1:inS nm ["CM","ZWJ"]=false):
 jT P d sv (luL ss st J.length o1 o2) (J++[.list us]) .next (luL ss st J.length (some sv) (some (.str nm))) (J++[.list (us++[bK nm sv 1 (nm=="ZWJ")])]):=by
 intro k hk;have k1:=aM (T:=a_T P) (aN (H:=J) (c:=.list us));have k2:=jS (xs:=us) (x:=bK nm sv 1 (nm=="ZWJ")) (J:=J) (ar (Tk ‹_› (by decide)));unfold ClF at C;exact aw (zR (zR (zD C (zR (zC (zH q1 (zH q1 (zQ (zR (zK k1 (zR (zC (zH q1 (zC (zR (zP k2 (z0 hk))))))))))))))))) (by rfl')
theorem RH(C:ClF P d (J++[.list []]) sv st nm)(q1:inS nm ["CM","ZWJ"]=true):
 jT P d sv (luL ss st J.length o1 o2) (J++[.list []]) .next (luL ss st J.length (some sv) (some (.str nm))) (J++[.list [bK "AL" sv 1 (nm=="ZWJ")]]):=by
 intro k hk;have k1:=aM (T:=a_T P) (aN (H:=J) (c:=.list []));have n1:bA (J++[.list []]) .NotEq (.ref J.length) (.lst [])=some false:=by rw[qO aN];rfl
 have k2:=jS (xs:=[]) (x:=bK "AL" sv 1 (nm=="ZWJ")) (J:=J) (by decide);unfold ClF at C;exact aw (zR (zR (zD C (zR (zC (zH q1 (zR (zT n1 (z2 (z2 (zQ (zR (zK k1 (zR (zC (zH q1 (zC (zR (zP k2 (z0 hk)))))))))))))))))))) (by rfl')
theorem RJ(hl:us.length<=100)(C:ClF P d (J++[.list (us++[bK w s m j])]) sv st nm)(q1:inS nm ["CM","ZWJ"]=true)(q2:inS w ["BK","CR","LF","NL","SP","ZW"]=true):
 jT P d sv (luL ss st J.length o1 o2) (J++[.list (us++[bK w s m j])]) .next (luL ss st J.length (some sv) (some (.str nm))) (J++[.list (us++[bK w s m j]++[bK "AL" sv 1 (nm=="ZWJ")])]):=by
 intro k hk;have k1:=aM (T:=a_T P) (aN (H:=J) (c:=.list (us++[bK w s m j])));have n1:bA (J++[.list (us++[bK w s m j])]) .NotEq (.ref J.length) (.lst [])=some true:=by rw[qO aN,Tm];rfl
 have i1:=z6 (xs:=us) (x:=bK w s m j) (J:=J);have k2:=jS (xs:=us++[bK w s m j]) (x:=bK "AL" sv 1 (nm=="ZWJ")) (J:=J) (ar (by rw[Tm];simp;exact Tk ‹_› (by decide)));unfold ClF at C;exact aw (zR (zR (zD C (zR (zC (zH q1 (zR (zT n1 (z1 (zC (zV i1 (zC (zR (zC (zH (nT q2) (zQ (zR (zK k1 (zR (zC (zH q1 (zC (zR (zP k2 (z0 hk))))))))))))))))))))))))) (by rfl')
end
structure aA where
 n:Str
 g:Str
 e:Str
 p:Bool
 c:Option Int
structure UL where
 w:Str
 s:aA
 m:Nat
 j:Bool
noncomputable def cV:Option Int->V
 |none=>.none
 |some i=>.int i
noncomputable def dcO:Option Int->Int->Bool
 |none,_=>false
 |some i,k=>i==k
theorem Fb{J:Hp}{c:Option Int}{k:Int}:bA J .Eq (cV c) (.int k)=some (dcO c k):=by cases c<;>rfl
abbrev ao(s:aA):V:=bv s.n s.g s.e s.p (cV s.c)
abbrev uV(u:UL):V:=bK u.w (ao u.s) (u.m:Nat) u.j
def bT(st:Str)(s:aA):Str:=jb s.n s.g st (dcO s.c 12293)
def wW(nm:Str)(s:aA):UL:=⟨cond (ge nm) "AL" nm,s,1,nm=="ZWJ"⟩
def jU(st:Str)(us:List UL)(s:aA):List UL:=match us.getLast? with
 |none=>us++[wW (bT st s) s]
 |some u=>cond (ge (bT st s) && !kF u.w) (us.dropLast++[⟨u.w,u.s,u.m+1,bT st s=="ZWJ"⟩]) (us++[wW (bT st s) s])
def aE(st:Str)(ss:List aA):List UL:=ss.foldl (jU st) []
theorem Fc{st:Str}{us:List UL}{s:aA}:(jU st us s).length<=us.length+1:=by
 unfold jU;cases h:us.getLast? with
 |none=>simp
 |some u=>
  dsimp only;cases ge (bT st s) && !kF u.w with
  |true=>rw[Ve,Tm,List.length_dropLast];simp
  |false=>rw[UA,Tm];simp
theorem nq{st:Str}:∀(ss:List aA) (us:List UL),(ss.foldl (jU st) us).length<=us.length+ss.length
 |[],us=>TB _
 |s::ss,us=>by have:=nq (st:=st) ss (jU st us s);have:=Fc (st:=st) (us:=us) (s:=s);rw[List.foldl_cons,Ug];lia
section
variable{P:Params}{d:Nat}{J:Hp}{st:Str}{ss:List aA}{us:List UL}{s:aA}{sv:V}{o1 o2:Option V}
theorem BN(hl:us.length<=100):jT P (d+1) (ao s) (luL sv st J.length o1 o2) (J++[.list (us.map uV)]) .next (luL sv st J.length (some (ao s)) (some (.str (bT st s)))) (J++[.list ((jU st us s).map uV)]):=by
 have C:∀H,ClF P (d+1) H (ao s) st (bT st s):=fun H=>JM Fb;unfold jU;rcases UH us with rfl|⟨us0,u,rfl⟩
 .show jT P (d+1) (ao s) _ (J++[.list []]) .next _ (J++[.list [uV (wW (bT st s) s)]]);unfold wW;cases q:ge (bT st s)with|true=>exact RH (C _) q|false=>exact Ql (us:=[]) (VC _) (C _) q
 . rw[Ui,U6,Vw];have hl0:us0.length<=100:=by rw[Ui,Tm]at hl;exact Tk (Uh _ _) ‹_›
   have hl1:(us0.map uV).length<=100:=by rw[Tn];exact hl0
   have hl2:((us0++[u]).map uV).length<=100:=by rw[Tn,<-Ui];exact hl
   dsimp only;have e:∀v:UL,(us0++[u]).map uV=us0.map uV++[uV u]:=fun _=>TI;unfold wW;cases q:ge (bT st s)with
   |true=>
    cases q2:kF u.w with|true=>show jT P (d+1) (ao s) _ _ .next _ (J++[.list ((us0++[u]++[(⟨"AL",s,1,bT st s=="ZWJ"⟩:UL)]).map uV)]);rw[TI (l₁:=us0++[u]),TI (l₁:=us0)];exact RJ hl1 (C _) q q2|false=>show jT P (d+1) (ao s) _ _ .next _ (J++[.list ((us0++[(⟨u.w,u.s,u.m+1,bT st s=="ZWJ"⟩:UL)]).map uV)]);rw[TI,TI];exact RG hl1 (C _) q q2
   |false=>show jT P (d+1) (ao s) _ _ .next _ (J++[.list ((us0++[u]++[(⟨bT st s,s,1,bT st s=="ZWJ"⟩:UL)]).map uV)]);rw[TI (l₁:=us0++[u])];exact Ql hl2 (C _) q
noncomputable abbrev Fd(P:Params)(d:Nat)(it:It)(loc:Loc)(J:Hp)(l:Loc)(s:Hp):Prop:=eW (aJ P d (bf (luS P))) (av P d (bj (luS P))) (bf (luS P)) it loc J .next l s
theorem JO(hl:ss.length<=90):∃o1 o2,Fd P (d+1) (.seq (.lst (ss.map ao))) (luL (.lst (ss.map ao)) st J.length none none) (J++[.list []]) (luL (.lst (ss.map ao)) st J.length o1 o2) (J++[.list ((aE st ss).map uV)]):=by
 have hN:∀s,bD s (.seq (.lst (ss.map ao)))=some ss.length:=fun s=>by show some (ss.map ao).length=_;rw[Tn]
 refine Tu (dA (N:=ss.length) (it:=.seq (.lst (ss.map ao))) (loc:=luL (.lst (ss.map ao)) st J.length none none) (J:=J++[.list []]) (tg:=bf (luS P)) (asg:=aJ P (d+1) (bf (luS P))) (body:=av P (d+1) (bj (luS P)))
  (fun i l s=>s=J++[.list (((ss.take i).foldl (jU st) []).map uV)]/\∃o1 o2,l=luL (.lst (ss.map ao)) st J.length o1 o2) (fun i l s hi I=>?_) (fun l s I=>hN _) (hN _) (by rfl') ⟨rfl,none,none,rfl⟩) fun l hh=>?_
 . obtain⟨rfl,o1,o2,rfl⟩:=I;have hlen:=nq (st:=st) (ss.take i) [];have:(ss.take i).length<=i:=by rw[TY];exact ar1 [_,_] [] 0 574000 (Wx (i) (ss.length)) art
   refine⟨hN _,ao ss[i],.next,_,_,?_,BN (by simp at hlen;exact ar3 [_,_,_] [] 0 115371616100787488976 hlen (Uq (i) (ss.length)) hl art),.inl rfl,?_,_,_,rfl⟩
   .show(some (ss.map ao)).bind (·[i]?)=_;rw[Ue,Ty,Tq hi];rfl
   .rw[Un,Tq hi,List.foldl_append];rfl
 .obtain⟨s,⟨rfl,o1,o2,rfl⟩,h⟩:=hh;rw[Ur]at h;exact⟨o1,o2,h⟩
theorem JP(L:Fd P d (.seq (.lst (ss.map ao))) (luL (.lst (ss.map ao)) st J.length none none) (J++[.list []]) (luL (.lst (ss.map ao)) st J.length o1 o2) (J++[.list ((aE st ss).map uV)])):
 cP P (d+1) "" "_law_units" [.lst (ss.map ao),.str st] [] J (.ref J.length) (J++[.list ((aE st ss).map uV)]):=by
 exact ag (fN P) ([V.lst (List.map ao ss),V.str st]) (fun z=>(zL L (z0 z)).C.R.R)
theorem Fe(hl:ss.length<=90):cP P (d+2) "" "_law_units" [.lst (ss.map ao),.str st] [] J (.ref J.length) (J++[.list ((aE st ss).map uV)]):=by obtain⟨o1,o2,L⟩:=JO (P:=P) (d:=d) (J:=J) (st:=st) hl;exact JP L
end
section
variable{P:Params}{d:Nat}{J:Hp}{a b x st last gj gk nj nk ej ek n1 g1 e1 aj nx a2:Str}{iw nu f1 f2 j1 jj jk pj pk p1 ka fg nr fr ak vf dk:Bool}{cj ck c1:V}{k j N m1 mj mk at':Int}{ns us sl:List V}{u2:V}
theorem JQ(W:et (bI P d (iy (fgS P))) (av P d (bj (fgS P))) (fgL ns at') J .next (fgL ns j) J)(q:decide (0<=j)=true)(h:af J (.lst ns) (.int j)=some (.str x)):
 cP P (d+1) "" "_law_is_figure" [.lst ns,.int at'] [] J (.bool (x=="NU")) J:=by
 exact ag (cT P) ([V.lst ns,V.int at']) (fun z=>zL W (zH q (zV h (z0 z).C)).C)
theorem JR(W:et (bI P d (iy (fgS P))) (av P d (bj (fgS P))) (fgL ns at') J .next (fgL ns j) J)(q:decide (0<=j)=false):
 cP P (d+1) "" "_law_is_figure" [.lst ns,.int at'] [] J (.bool false) J:=by
 exact ag (cT P) ([V.lst ns,V.int at']) (fun z=>zL W (zH q (z0 (zE J ((Tx V.bool (Ul q)):(V.bool false)=_)))).C)
def qn(a b:Str)(iw nu f1 f2:Bool):V:=cond (!iw) (cond ((inS a ["CL","CP","NU"]&&inS b ["PO","PR"])||(inS a ["PO","PR"]&&inS b ["OP","NU"])) (.bool true) (.bool (inS a ["HY","IS","NU","SY"]&&(b=="NU"))))
 (cond ((inS a ["PR","PO"]&&((b=="NU")||(inS b ["OP","HY"]&&nu)))||(inS a ["OP","HY"]&&(b=="NU"))) (.bool true) (cond f1 (.bool (inS b ["NU","SY","IS","CL","CP","PO","PR"])) (.bool (inS a ["CL","CP"]&&(f2&&inS b ["PO","PR"])))))
theorem Oc(N1:af J (.lst ns) (.int (k-1))=some (.str a))(N0:af J (.lst ns) (.int k)=some (.str b))(S:bm false J (.lst ns) (.int (k+1)) (.int (k+2)) .none=some (.lst sl,J))(E:bA J .Eq (.lst sl) (.lst [.str "NU"])=some nu)(F1:cP P d "" "_law_is_figure" [.lst ns,.int (k-1)] [] J (.bool f1) J)(F2:cP P d "" "_law_is_figure" [.lst ns,.int (k-2)] [] J (.bool f2) J):
 cP P (d+1) "" "_law_figures" [.lst ns,.int k,.bool iw] [] J (qn a b iw nu f1 f2) J:=by
 exact ag (gl P) ([V.lst ns,V.int k,V.bool iw]) (fun z=>(zV N1 (zV N0 (zM (fun p24=>(zW J (zW J (zW J (zM (fun p291=>z0 (zE J ((xT p24 (xT p291 rfl)):qn a b iw nu f1 f2=_))) (fun p291=>(zW J (z0 (zE J ((xT p24 (xF p291 rfl)):qn a b iw nu f1 f2=_)))).C.O.C.R)))).C.R.O.C.R.O).C.R.O.C.R) (fun p24=>(zP S (zT E (zW J (zW J (zW J (zW J (zW J (zM (fun p582=>z0 (zE J ((xF p24 (xT p582 rfl)):qn a b iw nu f1 f2=_))) (fun p582=>(zD F1 (zM (fun p933=>(z0 (zE J ((xF p24 (xF p582 (xT p933 rfl))):qn a b iw nu f1 f2=_))).C.R) (fun p933=>(zD F2 (zW J (zW J (z0 (zE J ((xF p24 (xF p582 (xF p933 rfl))):qn a b iw nu f1 f2=_))))).C.R.O).C.R.O.C.R))).C.R)))).C.O.C.R.O)))).R).C.C.O.C.R.O.C.O.C.R)).C.R)).C.R)
end
section
variable{P:Params}{d:Nat}{J:Hp}{s1 sj sk a b x st last gj gk nj nk ej ek n1 g1 e1 aj nx a2:Str}{iw nu j1 jj jk pj pk p1 ka fg nr fr ak vf dk:Bool}{cj ck c1:V}{k j N m1 mj mk at':Int}{ns sl:List V}{uv:V}{u2:V}
abbrev ahS(P:Params):Stmt:=db 4 (eD P).body
noncomputable abbrev ahL(uv:V)(ns:List V)(how:V)(k j:Int)(a b:Str):Loc:=[("units",.v (some uv)),("names",.v (some (.lst ns))),("k",.v (some (.int k))),("how",.v (some how)),("a",.v (some (.str a))),("b",.v (some (.str b))),("j",.v (some (.int j))),("last",.v none),("opens",.v none),("shuts",.v none),("len",.g)]
noncomputable abbrev yK(P:Params)(d:Nat)(loc:Loc)(J:Hp)(c:Bool)(f:Fl)(l:Loc)(s:Hp):Prop:=fH (bI P d (iy (ahS P))) (av P d (bj (ahS P))) loc J c f l s
noncomputable abbrev fX(st:Str)(ka iw:Bool):V:=.tup [.str st,.bool ka,.bool iw]
theorem RK(q:decide (0<j)=true)(h:af J (.lst ns) (.int j)=some (.str x))(hx:(x=="SP")=true):yK P d (ahL uv ns (fX st ka iw) k j a b) J true .next (ahL uv ns (fX st ka iw) k (j-1) a b) J:=by intro k hk;exact aw (zC (zH q (zV h (zC (zH hx (zR (zC (z0 hk)))))))) (by rfl')
theorem RM(q:decide (0<j)=true)(h:af J (.lst ns) (.int j)=some (.str x))(hx:(x=="SP")=false):yK P d (ahL uv ns (fX st ka iw) k j a b) J false .next (ahL uv ns (fX st ka iw) k j a b) J:=by intro k hk;exact aw (zC (zH q (zV h (zC (zH hx (z0 hk)))))) (by rfl')
theorem RN(q:decide (0<j)=false):yK P d (ahL uv ns (fX st ka iw) k j a b) J false .next (ahL uv ns (fX st ka iw) k j a b) J:=by intro k hk;exact aw (zC (zH q (zH q (z0 hk)))) (by rfl')
noncomputable abbrev rM:List Str:=["BK","CR","LF","NL","OP","QU","GL","SP","ZW"]
noncomputable abbrev fz:List Str:=["SP","GL","WJ","CL","QU","CP","EX","IS","SY","BK","CR","LF","NL","ZW"]
def bU(a b last gj gk aj:Str)(j1 iw zj bx:Bool):V:=cond ((a=="CR")&&(b=="LF")) (.str "no") (cond (inS a ol) (.str "must") (cond (inS b ["BK","CR","LF","NL","SP","ZW"]) (.str "no") (cond (last=="ZW") (.str "may")
 (cond (j1||(inS "WJ" [a,b]||((a=="GL")||(((b=="GL") && !inS a ["SP","BA","HY"])||(b=="EX"))))) (.str "no") (cond ((inS b ["CL","CP","IS","SY"] && !(iw&&(a=="NU")))||(last=="OP")) (.str "no")
 (cond ((last=="QU")&&((gj=="Pi")&&(zj||inS aj rM))) (.str "no") (cond ((b=="QU")&&((gk=="Pf")&&bx)) (.str "no")
 (cond ((inS last ["CL","CP"]&&(b=="NS"))||((last=="B2")&&(b=="B2"))) (.str "no") (cond (a=="SP") (.str "may") .none)))))))))
theorem Ff(N1:af J (.lst ns) (.int (k-1))=some (.str a))(N0:af J (.lst ns) (.int k)=some (.str b))(W:et (bI P d (iy (ahS P))) (av P d (bj (ahS P))) (ahL uv ns (fX st ka iw) k (k-1) a b) J .next (ahL uv ns (fX st ka iw) k j a b) J)(NJ:af J (.lst ns) (.int j)=some (.str last))(U1:af J uv (.int (k-1))=some (bK n1 (bv s1 g1 e1 p1 c1) m1 j1))(UJ:af J uv (.int j)=some (bK nj (bv sj gj ej pj cj) mj jj))(UK:af J uv (.int k)=some (bK nk (bv sk gk ek pk ck) mk jk))(NJ1:af J (.lst ns) (.int (j-1))=some (.str aj))(LN:biI true "len" [.lst ns] J=some (.int N,J))(NX:af J (.lst ns) (.int (k+1))=some (.str nx)):
 cP P (d+1) "" "_law_ahead" [uv,.lst ns,.int k,fX st ka iw] [] J (bU a b last gj gk aj j1 iw (j==0) ((k+1==N)||inS nx fz)) J:=by
 exact ag (eD P) ([uv,V.lst ns,V.int k,fX st ka iw]) (fun z=>(zV N1 (zV N0 (zW J (zM (fun p168=>z0 (zE J ((xT p168 rfl):bU a b last gj gk aj j1 iw (j==0) ((k+1==N)||inS nx fz)=_))) (fun p168=>(zM (fun p244=>z0 (zE J ((xF p168 (xT p244 rfl)):bU a b last gj gk aj j1 iw (j==0) ((k+1==N)||inS nx fz)=_))) (fun p244=>(zM (fun p371=>z0 (zE J ((xF p168 (xF p244 (xT p371 rfl))):bU a b last gj gk aj j1 iw (j==0) ((k+1==N)||inS nx fz)=_))) (fun p371=>zL W (zV NJ (zM (fun p577=>z0 (zE J ((xF p168 (xF p244 (xF p371 (xT p577 rfl)))):bU a b last gj gk aj j1 iw (j==0) ((k+1==N)||inS nx fz)=_))) (fun p577=>(zV U1 (zW J (zW J (zW J (zW J (zW J (zM (fun p1031=>z0 (zE J ((xF p168 (xF p244 (xF p371 (xF p577 (xT p1031 rfl))))):bU a b last gj gk aj j1 iw (j==0) ((k+1==N)||inS nx fz)=_))) (fun p1031=>(zW J (zW J (zW J (zM (fun p1651=>z0 (zE J ((xF p168 (xF p244 (xF p371 (xF p577 (xF p1031 (xT p1651 rfl)))))):bU a b last gj gk aj j1 iw (j==0) ((k+1==N)||inS nx fz)=_))) (fun p1651=>(zV UJ (zV NJ1 (zW J (zW J (zW J (zM (fun p2198=>z0 (zE J ((xF p168 (xF p244 (xF p371 (xF p577 (xF p1031 (xF p1651 (xT p2198 rfl))))))):bU a b last gj gk aj j1 iw (j==0) ((k+1==N)||inS nx fz)=_))) (fun p2198=>(zV UK (zP LN (zV NX (zW J (zW J (zW J (zM (fun p2913=>z0 (zE J ((xF p168 (xF p244 (xF p371 (xF p577 (xF p1031 (xF p1651 (xF p2198 (xT p2913 rfl)))))))):bU a b last gj gk aj j1 iw (j==0) ((k+1==N)||inS nx fz)=_))) (fun p2913=>(zW J (zW J (zW J (zM (fun p3931=>z0 (zE J ((xF p168 (xF p244 (xF p371 (xF p577 (xF p1031 (xF p1651 (xF p2198 (xF p2913 (xT p3931 rfl))))))))):bU a b last gj gk aj j1 iw (j==0) ((k+1==N)||inS nx fz)=_))) (fun p3931=>(zM (fun p4137=>z0 (zE J ((xF p168 (xF p244 (xF p371 (xF p577 (xF p1031 (xF p1651 (xF p2198 (xF p2913 (xF p3931 (xT p4137 rfl)))))))))):bU a b last gj gk aj j1 iw (j==0) ((k+1==N)||inS nx fz)=_))) (fun p4137=>z0 (zE J ((xF p168 (xF p244 (xF p371 (xF p577 (xF p1031 (xF p1651 (xF p2198 (xF p2913 (xF p3931 (xF p4137 rfl)))))))))):bU a b last gj gk aj j1 iw (j==0) ((k+1==N)||inS nx fz)=_)))).C)))).C.O.C.O).C.O.C.R))))).C).C.O.C).R.C.O.C.C.C).O.C.R.R))))).C).C.O.C.O.C.C.C).O.C.R.R))).C.O).C).C.O.C.O.C.R)))))).C.O).C.R.O.C.O.C.O.C.R.O.C).C)).C).R)).C.R)).C.R))).C.O.C.R.C)).C.R)
end
section
variable{P:Params}{d:Nat}{J:Hp}{s1 sj sk a b x st last gj gk nj nk ej ek n1 g1 e1 aj nx a2:Str}{iw nu j1 jj jk pj pk p1 ka fg nr fr ak vf dk:Bool}{cj ck c1:V}{k j N m1 mj mk at':Int}{ns sl:List V}{uv:V}{u2:V}
theorem Fg(N1:af J (.lst ns) (.int (k-1))=some (.str a))(N0:af J (.lst ns) (.int k)=some (.str b))(W:et (bI P d (iy (ahS P))) (av P d (bj (ahS P))) (ahL uv ns (fX st ka iw) k (k-1) a b) J .next (ahL uv ns (fX st ka iw) k j a b) J)(NJ:af J (.lst ns) (.int j)=some (.str last))(U1:af J uv (.int (k-1))=some (bK n1 (bv s1 g1 e1 p1 c1) m1 j1))(UJ:af J uv (.int j)=some (bK nj (bv sj gj ej pj cj) mj jj))(UK:af J uv (.int k)=some (bK nk (bv sk gk ek pk ck) mk jk))(NJ1:af J (.lst ns) (.int (j-1))=some (.str aj))(LN:biI true "len" [.lst ns] J=some (.int N,J))(q:(k+1==N)=true):
 cP P (d+1) "" "_law_ahead" [uv,.lst ns,.int k,fX st ka iw] [] J (bU a b last gj gk aj j1 iw (j==0) (k+1==N)) J:=by
 exact ag (eD P) ([uv,V.lst ns,V.int k,fX st ka iw]) (fun z=>(zV N1 (zV N0 (zW J (zM (fun p168=>z0 (zE J ((xT p168 rfl):bU a b last gj gk aj j1 iw (j==0) (k+1==N)=_))) (fun p168=>(zM (fun p244=>z0 (zE J ((xF p168 (xT p244 rfl)):bU a b last gj gk aj j1 iw (j==0) (k+1==N)=_))) (fun p244=>(zM (fun p371=>z0 (zE J ((xF p168 (xF p244 (xT p371 rfl))):bU a b last gj gk aj j1 iw (j==0) (k+1==N)=_))) (fun p371=>zL W (zV NJ (zM (fun p577=>z0 (zE J ((xF p168 (xF p244 (xF p371 (xT p577 rfl)))):bU a b last gj gk aj j1 iw (j==0) (k+1==N)=_))) (fun p577=>(zV U1 (zW J (zW J (zW J (zW J (zW J (zM (fun p1031=>z0 (zE J ((xF p168 (xF p244 (xF p371 (xF p577 (xT p1031 rfl))))):bU a b last gj gk aj j1 iw (j==0) (k+1==N)=_))) (fun p1031=>(zW J (zW J (zW J (zM (fun p1651=>z0 (zE J ((xF p168 (xF p244 (xF p371 (xF p577 (xF p1031 (xT p1651 rfl)))))):bU a b last gj gk aj j1 iw (j==0) (k+1==N)=_))) (fun p1651=>(zV UJ (zV NJ1 (zW J (zW J (zW J (zM (fun p2198=>z0 (zE J ((xF p168 (xF p244 (xF p371 (xF p577 (xF p1031 (xF p1651 (xT p2198 rfl))))))):bU a b last gj gk aj j1 iw (j==0) (k+1==N)=_))) (fun p2198=>(zV UK (zP LN (zH q (zW J (zW J (zM (fun p2842=>z0 (zE J ((xF p168 (xF p244 (xF p371 (xF p577 (xF p1031 (xF p1651 (xF p2198 (xT p2842 rfl)))))))):bU a b last gj gk aj j1 iw (j==0) (k+1==N)=_))) (fun p2842=>(zW J (zW J (zW J (zM (fun p3192=>z0 (zE J ((xF p168 (xF p244 (xF p371 (xF p577 (xF p1031 (xF p1651 (xF p2198 (xF p2842 (xT p3192 rfl))))))))):bU a b last gj gk aj j1 iw (j==0) (k+1==N)=_))) (fun p3192=>(zM (fun p3398=>z0 (zE J ((xF p168 (xF p244 (xF p371 (xF p577 (xF p1031 (xF p1651 (xF p2198 (xF p2842 (xF p3192 (xT p3398 rfl)))))))))):bU a b last gj gk aj j1 iw (j==0) (k+1==N)=_))) (fun p3398=>z0 (zE J ((xF p168 (xF p244 (xF p371 (xF p577 (xF p1031 (xF p1651 (xF p2198 (xF p2842 (xF p3192 (xF p3398 rfl)))))))))):bU a b last gj gk aj j1 iw (j==0) (k+1==N)=_)))).C)))).C.O.C.O).C.O.C.R))))).C).R.C.O.C.C.C).O.C.R.R))))).C).C.O.C.O.C.C.C).O.C.R.R))).C.O).C).C.O.C.O.C.R)))))).C.O).C.R.O.C.O.C.O.C.R.O.C).C)).C).R)).C.R)).C.R))).C.O.C.R.C)).C.R)
noncomputable abbrev BO:List Str:=["AL","HL"]
noncomputable abbrev z7:List Str:=["F","W","H"]
noncomputable abbrev svs(l:List Str):List V:=l.map .str
abbrev jnS(P:Params):Stmt:=db 15 (ff P).body
noncomputable abbrev jnL(uv:V)(ns:List V)(how:V)(k j:Int)(a b:Str)(nr fr:Bool):Loc:=[("units",.v (some uv)),("names",.v (some (.lst ns))),("k",.v (some (.int k))),("how",.v (some how)),("a",.v (some (.str a))),("b",.v (some (.str b))),("wide",.v (some (.tup [.str "F",.str "W",.str "H"]))),("letters",.v (some (.tup [.str "AL",.str "HL"]))),("jamo",.v (some (.tup [.str "JL",.str "JV",.str "JT",.str "H2",.str "H3"]))),("pictures",.v (some (.tup [.str "ID",.str "EB",.str "EM"]))),("near",.v (some (.bool nr))),("far",.v (some (.bool fr))),("j",.v (some (.int j))),("kept",.v none),("_law_figures",.g),("_law_is_aksara",.g)]
noncomputable abbrev yL(P:Params)(d:Nat)(loc:Loc)(J:Hp)(c:Bool)(f:Fl)(l:Loc)(s:Hp):Prop:=fH (bI P d (iy (jnS P))) (av P d (bj (jnS P))) loc J c f l s
theorem RO(q:decide (0<=j)=true)(h:af J (.lst ns) (.int j)=some (.str x))(hx:(x=="RI")=true):yL P d (jnL uv ns (fX st ka iw) k j a b nr fr) J true .next (jnL uv ns (fX st ka iw) k (j-1) a b nr fr) J:=by intro k hk;exact aw (zC (zH q (zV h (zC (zH hx (zR (zC (z0 hk)))))))) (by rfl')
theorem RP(q:decide (0<=j)=true)(h:af J (.lst ns) (.int j)=some (.str x))(hx:(x=="RI")=false):yL P d (jnL uv ns (fX st ka iw) k j a b nr fr) J false .next (jnL uv ns (fX st ka iw) k j a b nr fr) J:=by intro k hk;exact aw (zC (zH q (zV h (zC (zH hx (z0 hk)))))) (by rfl')
theorem RQ(q:decide (0<=j)=false):yL P d (jnL uv ns (fX st ka iw) k j a b nr fr) J false .next (jnL uv ns (fX st ka iw) k j a b nr fr) J:=by intro k hk;exact aw (zC (zH q (zH q (z0 hk)))) (by rfl')
end
section
variable{P:Params}{d:Nat}{J:Hp}{s1 sj sk a b x st gk nk ek n1 g1 e1 a2:Str}{iw jk j1 pk p1 ka fg nr fr ak vf dk:Bool}{ck c1:V}{k j m1 mk:Int}{ns sl:List V}{uv:V}{u2:V}
def bX(a b a2 st e1 ek g1:Str)(ka fg nr fr ak vf dk k1 rg p1:Bool):V:=cond (inS "QU" [a,b]||inS "CB" [a,b]) (cond (inS "QU" [a,b]) (.str "no") (.str "may"))
 (cond (inS b ["BA","HY","NS"]||((a=="BB")||(inS a ["HY","BA"]&&(k1&&((a2=="HL") && !(b=="HL")))))) (.str "no")
 (cond (((a=="SY")&&(b=="HL"))||((b=="IN") && !((st=="loose")&&(a=="IN")))) (.str "no")
 (cond ((inS a BO&&inS b ["NU","PR","PO"])||(inS b BO&&inS a ["NU","PR","PO","IS"])) (.str "no")
 (cond (((a=="PR")&&inS b ["ID","EB","EM","JL","JV","JT","H2","H3"])||(((b=="PO")&&inS a ["ID","EB","EM","JL","JV","JT","H2","H3"])||fg)) (.str "no")
 (cond (inP a b [("JL","JL"),("JL","JV"),("JL","H2"),("JL","H3")]||(inS a ["JV","H2"]&&inS b ["JV","JT"])) (.str "no")
 (cond ((inS a ["JT","H3"]&&(b=="JT"))||(inS a BO&&inS b BO)) (.str "no")
 (cond (((a=="AP")&&fr)||((nr&&inS b ["VF","VI"])||(nr&&(fr&&vf)))) (.str "no")
 (cond ((a=="VI")&&(k1&&(ak&&((b=="AK")||dk)))) (.str "no")
 (cond (inS a ["AL","HL","NU"]&&((b=="OP") && !inS ek z7)) (.str "no")
 (cond ((a=="CP")&&(!inS e1 z7&&inS b ["AL","HL","NU"])) (.str "no")
 (cond ((b=="RI")&&rg) (.str "no")
 (cond ((b=="EM")&&((a=="EB")||(p1&&(g1=="Cn")))) (.str "no")
 (cond (ka&&(inS a ["AL","HL","JL","JV","JT","H2","H3","ID","NU"]&&inS b ["AL","HL","JL","JV","JT","H2","H3","ID","NU"])) (.str "no") (.str "may"))))))))))))))
theorem Fh(N1:af J (.lst ns) (.int (k-1))=some (.str a))(N0:af J (.lst ns) (.int k)=some (.str b))(N2:af J (.lst ns) (.int (k-2))=some (.str a2))(U1:af J uv (.int (k-1))=some (bK n1 (bv s1 g1 e1 p1 c1) m1 j1))(UK:af J uv (.int k)=some (bK nk (bv sk gk ek pk ck) mk jk))(U2:af J uv (.int (k-2))=some u2)(FG:cP P d "" "_law_figures" [.lst ns,.int k,.bool iw] [] J (.bool fg) J)(A1:cP P d "" "_law_is_aksara" [bK n1 (bv s1 g1 e1 p1 c1) m1 j1] [] J (.bool nr) J)(A0:cP P d "" "_law_is_aksara" [bK nk (bv sk gk ek pk ck) mk jk] [] J (.bool fr) J)(A2:cP P d "" "_law_is_aksara" [u2] [] J (.bool ak) J)(S:bm false J (.lst ns) (.int (k+1)) (.int (k+2)) .none=some (.lst sl,J))(E:bA J .Eq (.lst sl) (.lst [.str "VF"])=some vf)(hc:bA J .Eq ck (.int 9676)=some dk)(W:et (bI P d (iy (jnS P))) (av P d (bj (jnS P))) (jnL uv ns (fX st ka iw) k (k-1) a b nr fr) J .next (jnL uv ns (fX st ka iw) k j a b nr fr) J):
 cP P (d+1) "" "_law_joined" [uv,.lst ns,.int k,fX st ka iw] [] J (bX a b a2 st e1 ek g1 ka fg nr fr ak vf dk (decide (1<k)) ((k-1-j).fmod 2==1) p1) J:=by
 exact ag (ff P) ([uv,V.lst ns,V.int k,fX st ka iw]) (fun z=>(zV N1 (zV N0 (zW J (zM (fun p114=>(zM (fun p265=>z0 (zE J ((xT p114 (xT p265 rfl)):bX a b a2 st e1 ek g1 ka fg nr fr ak vf dk (decide (1<k)) ((k-1-j).fmod 2==1) p1=_))) (fun p265=>z0 (zE J ((xT p114 (xF p265 rfl)):bX a b a2 st e1 ek g1 ka fg nr fr ak vf dk (decide (1<k)) ((k-1-j).fmod 2==1) p1=_)))).C.R) (fun p114=>(zV N2 (zW J (zW J (zW J (zW J (zW J (zM (fun p771=>z0 (zE J ((xF p114 (xT p771 rfl)):bX a b a2 st e1 ek g1 ka fg nr fr ak vf dk (decide (1<k)) ((k-1-j).fmod 2==1) p1=_))) (fun p771=>(zW J (zW J (zW J (zW J (zM (fun p1486=>z0 (zE J ((xF p114 (xF p771 (xT p1486 rfl))):bX a b a2 st e1 ek g1 ka fg nr fr ak vf dk (decide (1<k)) ((k-1-j).fmod 2==1) p1=_))) (fun p1486=>(zW J (zW J (zW J (zM (fun p1938=>z0 (zE J ((xF p114 (xF p771 (xF p1486 (xT p1938 rfl)))):bX a b a2 st e1 ek g1 ka fg nr fr ak vf dk (decide (1<k)) ((k-1-j).fmod 2==1) p1=_))) (fun p1938=>(zW J (zW J (zD FG (zW J (zW J (zM (fun p3202=>z0 (zE J ((xF p114 (xF p771 (xF p1486 (xF p1938 (xT p3202 rfl))))):bX a b a2 st e1 ek g1 ka fg nr fr ak vf dk (decide (1<k)) ((k-1-j).fmod 2==1) p1=_))) (fun p3202=>(zW J (zW J (zM (fun p4105=>z0 (zE J ((xF p114 (xF p771 (xF p1486 (xF p1938 (xF p3202 (xT p4105 rfl)))))):bX a b a2 st e1 ek g1 ka fg nr fr ak vf dk (decide (1<k)) ((k-1-j).fmod 2==1) p1=_))) (fun p4105=>(zW J (zW J (zW J (zM (fun p4802=>z0 (zE J ((xF p114 (xF p771 (xF p1486 (xF p1938 (xF p3202 (xF p4105 (xT p4802 rfl))))))):bX a b a2 st e1 ek g1 ka fg nr fr ak vf dk (decide (1<k)) ((k-1-j).fmod 2==1) p1=_))) (fun p4802=>(zV U1 (zD A1 (zV UK (zD A0 (zW J (zW J (zP S (zT E (zW J (zW J (zW J (zW J (zM (fun p5406=>z0 (zE J ((xF p114 (xF p771 (xF p1486 (xF p1938 (xF p3202 (xF p4105 (xF p4802 (xT p5406 rfl)))))))):bX a b a2 st e1 ek g1 ka fg nr fr ak vf dk (decide (1<k)) ((k-1-j).fmod 2==1) p1=_))) (fun p5406=>(zV U2 (zD A2 (zV UK (zT hc (zW J (zW J (zW J (zW J (zM (fun p5742=>z0 (zE J ((xF p114 (xF p771 (xF p1486 (xF p1938 (xF p3202 (xF p4105 (xF p4802 (xF p5406 (xT p5742 rfl))))))))):bX a b a2 st e1 ek g1 ka fg nr fr ak vf dk (decide (1<k)) ((k-1-j).fmod 2==1) p1=_))) (fun p5742=>(zV UK (zW J (zW J (zM (fun p6362=>z0 (zE J ((xF p114 (xF p771 (xF p1486 (xF p1938 (xF p3202 (xF p4105 (xF p4802 (xF p5406 (xF p5742 (xT p6362 rfl)))))))))):bX a b a2 st e1 ek g1 ka fg nr fr ak vf dk (decide (1<k)) ((k-1-j).fmod 2==1) p1=_))) (fun p6362=>(zV U1 (zW J (zW J (zM (fun p7334=>z0 (zE J ((xF p114 (xF p771 (xF p1486 (xF p1938 (xF p3202 (xF p4105 (xF p4802 (xF p5406 (xF p5742 (xF p6362 (xT p7334 rfl))))))))))):bX a b a2 st e1 ek g1 ka fg nr fr ak vf dk (decide (1<k)) ((k-1-j).fmod 2==1) p1=_))) (fun p7334=>(zL W (zW J (zM (fun p7760=>z0 (zE J ((xF p114 (xF p771 (xF p1486 (xF p1938 (xF p3202 (xF p4105 (xF p4802 (xF p5406 (xF p5742 (xF p6362 (xF p7334 (xT p7760 rfl)))))))))))):bX a b a2 st e1 ek g1 ka fg nr fr ak vf dk (decide (1<k)) ((k-1-j).fmod 2==1) p1=_))) (fun p7760=>(zV U1 (zV U1 (zW J (zW J (zW J (zM (fun p8046=>z0 (zE J ((xF p114 (xF p771 (xF p1486 (xF p1938 (xF p3202 (xF p4105 (xF p4802 (xF p5406 (xF p5742 (xF p6362 (xF p7334 (xF p7760 (xT p8046 rfl))))))))))))):bX a b a2 st e1 ek g1 ka fg nr fr ak vf dk (decide (1<k)) ((k-1-j).fmod 2==1) p1=_))) (fun p8046=>(zW J (zW J (zM (fun p10557=>z0 (zE J ((xF p114 (xF p771 (xF p1486 (xF p1938 (xF p3202 (xF p4105 (xF p4802 (xF p5406 (xF p5742 (xF p6362 (xF p7334 (xF p7760 (xF p8046 (xT p10557 rfl)))))))))))))):bX a b a2 st e1 ek g1 ka fg nr fr ak vf dk (decide (1<k)) ((k-1-j).fmod 2==1) p1=_))) (fun p10557=>z0 (zE J ((xF p114 (xF p771 (xF p1486 (xF p1938 (xF p3202 (xF p4105 (xF p4802 (xF p5406 (xF p5742 (xF p6362 (xF p7334 (xF p7760 (xF p8046 (xF p10557 rfl)))))))))))))):bX a b a2 st e1 ek g1 ka fg nr fr ak vf dk (decide (1<k)) ((k-1-j).fmod 2==1) p1=_)))))).C.O.C.O.C.C.R.C.R))))).C.C.C).C.O.C.C).C.O.C.O.C))).C.C.C.C.O.C).C.R)))).C.C.R.O.C.C.C).C.O.C)))).C.C.C).O.C.O.C.C.R))))))).C.C).O.C.O)).C.R.O.C.O.C))))))).R).C.C.O.O.O).C.R.O.O).O.C.R)).R)).C.R.R)))).C.O.C.O).C.O.C.R)))).C.R.O.C.R.O.C.R.R.R.R.R.R))))).C.R.O).C.C.O.C.O).C.C.O.C)))).C.R.O.C.O).C.R.O.C)))).C).C.O.C.C.O.C.O).C.O.C.R.R.R.R.R))))))).C.O.C).C.O.C.O.C.R.O.C.O.C.R))).C.R.O.C.R.R.R)).C.R)
end
section
variable{P:Params}{d F:Nat}{H J:Hp}{x w:Str}{k m:Int}{j:Bool}{ns fs rs:List V}{s sv how v:V}{o1 o2 o3:Option V}
abbrev wX(P:Params):Stmt:=db 3 (da P).body
noncomputable abbrev ou(sv how:V)(F:Nat)(ns:List V)(G:Nat)(o1 o2 o3:Option V):Loc:=[("sorts",.v (some sv)),("how",.v (some how)),("units",.v (some (.ref F))),("unit",.v o1),("names",.v (some (.lst ns))),("found",.v (some (.ref G))),("k",.v o2),("word",.v o3),("_law_units",.g),("enumerate",.g),("_law_ahead",.g),("_law_joined",.g)]
noncomputable abbrev qD(P:Params)(d:Nat)(x:V)(loc:Loc)(J:Hp)(f:Fl)(l:Loc)(s:Hp):Prop:=eZ (aJ P d (bf (wX P))) (av P d (bj (wX P))) x loc J f l s
theorem JS{fs rs:List V}{H:Hp}(hl:ba (fs++rs)=true):dI true .Add (.ref H.length) (.lst rs) (H++[ab.list fs])=some (.ref (H++[ab.list fs]).length,H++[ab.list fs]++[ab.list (fs++rs)]):=by show((a7 _ _).bind fun xs=>(a7 _ _).bind fun ys=>if ba (xs++ys)then _ else _)=_;rw[cp aN];exact if_pos hl
theorem RS(k1:bd (a_T P) (H++[ab.list fs]) (.ref H.length) "append"=some (.bi "list.append"))(k2:aQ (H++[ab.list fs]) "list.append" (.ref H.length) [V.str "no"]=some (.none,H++[ab.list (fs++[V.str "no"])]))(k3:dI false .Mult (.lst [V.str "no"]) (.int (m-1)) (H++[ab.list (fs++[V.str "no"])])=some (.lst rs,H++[ab.list (fs++[V.str "no"])]))(k4:dI true .Add (.ref H.length) (.lst rs) (H++[ab.list (fs++[V.str "no"])])=some (.ref (H++[ab.list (fs++[V.str "no"])]).length,H++[ab.list (fs++[V.str "no"])]++[ab.list (fs++[V.str "no"]++rs)])):
 qD P d (.tup [.int 0,bK w s m j]) (ou sv how F ns H.length o1 o2 o3) (H++[ab.list fs]) .next (ou sv how F ns (H++[ab.list (fs++[V.str "no"])]).length (some (bK w s m j)) (some (.int 0)) (some (.str "no"))) (H++[ab.list (fs++[V.str "no"])]++[ab.list (fs++[V.str "no"]++rs)]):=by
 intro k hk;exact aw (zR (zC (z1 (zQ (zR (zK k1 (zC (z2 (zP k2 (zR (zR (zC (zC (zP k3 (zP k4 (z0 hk)))))))))))))))) (by rfl')
theorem RT(q0:(k==0)=false)(A:cP P d "" "_law_ahead" [.ref F,.lst ns,.int k,how] [] (H++[ab.list fs]) (.str x) (H++[ab.list fs]))(k1:bd (a_T P) (H++[ab.list fs]) (.ref H.length) "append"=some (.bi "list.append"))(k2:aQ (H++[ab.list fs]) "list.append" (.ref H.length) [V.str x]=some (.none,H++[ab.list (fs++[V.str x])]))(k3:dI false .Mult (.lst [V.str "no"]) (.int (m-1)) (H++[ab.list (fs++[V.str x])])=some (.lst rs,H++[ab.list (fs++[V.str x])]))(k4:dI true .Add (.ref H.length) (.lst rs) (H++[ab.list (fs++[V.str x])])=some (.ref (H++[ab.list (fs++[V.str x])]).length,H++[ab.list (fs++[V.str x])]++[ab.list (fs++[V.str x]++rs)])):
 qD P d (.tup [.int k,bK w s m j]) (ou sv how F ns H.length o1 o2 o3) (H++[ab.list fs]) .next (ou sv how F ns (H++[ab.list (fs++[V.str x])]).length (some (bK w s m j)) (some (.int k)) (some (.str x))) (H++[ab.list (fs++[V.str x])]++[ab.list (fs++[V.str x]++rs)]):=by
 intro kk hk;exact aw (zR (zC (zH q0 (zR (zD A (zQ (zR (zK k1 (zC (z2 (zP k2 (zR (zR (zC (zC (zP k3 (zP k4 (z0 hk)))))))))))))))))) (by rfl')
theorem RU(q0:(k==0)=false)(A:cP P d "" "_law_ahead" [.ref F,.lst ns,.int k,how] [] (H++[ab.list fs]) .none (H++[ab.list fs]))(σ:cP P d "" "_law_joined" [.ref F,.lst ns,.int k,how] [] (H++[ab.list fs]) (.str x) (H++[ab.list fs]))(k1:bd (a_T P) (H++[ab.list fs]) (.ref H.length) "append"=some (.bi "list.append"))(k2:aQ (H++[ab.list fs]) "list.append" (.ref H.length) [V.str x]=some (.none,H++[ab.list (fs++[V.str x])]))(k3:dI false .Mult (.lst [V.str "no"]) (.int (m-1)) (H++[ab.list (fs++[V.str x])])=some (.lst rs,H++[ab.list (fs++[V.str x])]))(k4:dI true .Add (.ref H.length) (.lst rs) (H++[ab.list (fs++[V.str x])])=some (.ref (H++[ab.list (fs++[V.str x])]).length,H++[ab.list (fs++[V.str x])]++[ab.list (fs++[V.str x]++rs)])):
 qD P d (.tup [.int k,bK w s m j]) (ou sv how F ns H.length o1 o2 o3) (H++[ab.list fs]) .next (ou sv how F ns (H++[ab.list (fs++[V.str x])]).length (some (bK w s m j)) (some (.int k)) (some .none)) (H++[ab.list (fs++[V.str x])]++[ab.list (fs++[V.str x]++rs)]):=by
 intro kk hk;exact aw (zR (zC (zH q0 (zR (zD A (zQ (zR (zK k1 (zC (z1 (zR (zD σ (zP k2 (zR (zR (zC (zC (zP k3 (zP k4 (z0 hk)))))))))))))))))))) (by rfl')
end
noncomputable def uA(us:List UL)(i:Nat):UL:=us.getD i ⟨"",⟨"","","",false,none⟩,0,false⟩
noncomputable def wA(us:List UL)(i:Nat):Str:=(uA us i).w
noncomputable abbrev nsV(us:List UL):List V:=us.map fun u=>.str u.w
noncomputable def qo(n k:Nat):Nat:=cond (k==0) (n-1) (k-1)
structure hW where
 st:Str
 ka:Bool
 iw:Bool
abbrev fY(h:hW):V:=fX h.st h.ka h.iw
theorem rN{us:List UL}{i:Nat}(h:i<us.length):us[i]?=some (uA us i):=by unfold uA;rw[Uo,Tq h];rfl
theorem Fi{us:List UL}{i:Nat}(h:us.length<=i):wA us i="":=by unfold wA uA;rw[Uo,List.getElem?_eq_none h];rfl
theorem u4{us:List UL}{i:Nat}(h:i<us.length):(nsV us)[i]?=some (.str (wA us i)):=by rw[Ty,rN h];rfl
theorem yM{us:List UL}{i:Nat}(h:i<us.length):(us.map uV)[i]?=some (uV (uA us i)):=by rw[Ty,rN h];rfl
theorem hX{xs:List V}{v:V}{i:Nat}(h:xs[i]?=some v)(hl:xs.length<=1000):gY xs (i:Int)=some v:=by obtain⟨h1,h2⟩:=Tr.mp h;rw[lu rfl h1 (Ts ‹_› (by decide)),h2]
theorem Fj{xs:List V}{v:V}(h:xs[xs.length-1]?=some v)(h0:0<xs.length)(hl:xs.length<=1000):gY xs (-1)=some v:=by
 have hs:aO (-1)=true:=by decide
 unfold gY;rw[if_pos hs];have:seqIndex? (-1) xs.length=some (xs.length-1):=by unfold seqIndex?;simp;exact⟨⟨ar1 [_] [] 1 39037268657448 h0 art,ar0 [_] [] 1 3849667592329 art⟩,Ud (ar2 [_,_,_] [] 512 20249433117089113648 (qI (a:=-1 + ↑xs.length) (ar1 [_] [] 1 39037268657448 h0 art)) (iX (n:=xs.length) (m:=1) (ar1 [_] [] 0 546833704 h0 art)) art) (ar2 [_,_,_] [] 262144 20266244025412075657 (fp (n:=xs.length) (m:=1) (ar1 [_] [] 0 546833704 h0 art)) (Ax (a:=-1 + ↑xs.length) (ar1 [_] [] 1 39037268657448 h0 art)) art)⟩
 rw[this];exact h
theorem tP{xs:List V}{v:V}{k:Nat}(h:xs[qo xs.length k]?=some v)(h0:0<xs.length)(hl:xs.length<=1000):gY xs ((k:Int)-1)=some v:=by
 cases k with|zero=>exact Fj h h0 hl|succ k=>rw[show((k+1:Nat):Int)-1=(k:Nat) by exact are [_] [] 1 120335729968 art art];exact hX h hl
theorem wY{n k:Nat}(h0:0<n)(hk:k<n):qo n k<n:=by
 unfold qo;cases k with
 |zero=>show n-1<n;exact Nat.sub_lt ‹_› (by decide)
 |succ k=>show k+1-1<n;exact ar2 [_,_,_] [] 0 643775273997673637905712 (fp (n:=k+1) (m:=1) (ar0 [_] [] 0 42505 art)) hk art
section
variable{P:Params}{d F:Nat}{J:Hp}{us:List UL}{k:Nat}{h:hW}
theorem ixN{i:Nat}(hi:i<us.length)(hl:us.length<=100):af J (.lst (nsV us)) (.int (i:Int))=some (.str (wA us i)):=jF.trans (hX (u4 hi) (by rw[Tn];exact Tk ‹_› (by decide)))
theorem ixP{i:Nat}(hi:i<us.length)(hl:us.length<=100):af J (.lst (nsV us)) (.int ((i:Int)-1))=some (.str (wA us (qo us.length i))) :=
 jF.trans (tP (by rw[Tn];exact u4 (wY (ar1 [_,_] [] 0 585500230960 hi art) hi)) (by rw[Tn];exact ar1 [_,_] [] 0 585500230960 hi art) (by rw[Tn];exact Tk ‹_› (by decide)))
theorem ixU{i:Nat}(hF:J[F]?=some (.list (us.map uV)))(hi:i<us.length)(hl:us.length<=100):af J (.ref F) (.int (i:Int))=some (uV (uA us i)):=by rw[kZ (cq hF)];exact hX (yM hi) (by rw[Tn];exact Tk ‹_› (by decide))
theorem RV{i:Nat}(hF:J[F]?=some (.list (us.map uV)))(hi:i<us.length)(hl:us.length<=100):af J (.ref F) (.int ((i:Int)-1))=some (uV (uA us (qo us.length i))):=by rw[kZ (cq hF)];exact tP (by rw[Tn];exact yM (wY (ar1 [_,_] [] 0 585500230960 hi art) hi)) (by rw[Tn];exact ar1 [_,_] [] 0 585500230960 hi art) (by rw[Tn];exact Tk ‹_› (by decide))
def jt(us:List UL)(k:Nat):Nat:=gQ (fun n=>wA us n=="SP") k
theorem ow{f:Nat->Bool}:∀n,gQ f n<=n
 |0=>TB _
 |n+1=>by
  show cond (f (n+1)) (gQ f n) (n+1)<=n+1;have:=ow (f:=f) n;cases f (n+1)with|true=>exact Wl this|false=>exact TB _
def hY(us:List UL)(h:hW)(k:Nat):V:=bU (wA us k) (wA us (k+1)) (wA us (jt us k)) (uA us (jt us k)).s.g (uA us (k+1)).s.g (wA us (qo us.length (jt us k))) (uA us k).j h.iw (((jt us k:Nat):Int)==0) ((((k+1:Nat):Int)+1==((us.length:Nat):Int))||inS (wA us (k+2)) fz)
theorem Fk(hl:us.length<=100){t:Bool}:biI t "len" [.lst (nsV us)] J=some (.int us.length,J):=by show(if ba (nsV us)then some (V.int (nsV us).length,J)else _)=_;rw[if_pos (ar (by rw[Tn];exact Tk ‹_› (by decide))),Tn]
theorem Fm(hl:us.length<=100)(hk:k<us.length){uv:V}{kk:Int}{a b:Str}:et (bI P d (iy (ahS P))) (av P d (bj (ahS P))) (ahL uv (nsV us) (fY h) kk (k:Int) a b) J .next (ahL uv (nsV us) (fY h) kk (jt us k:Nat) a b) J :=
 z5 (L:=fun j=>ahL uv (nsV us) (fY h) kk j a b) (N:=k) (fun n=>wA us n=="SP") (fun n hn q=>RK (To (ar0 [_] [] 1 3264742696 art)) (ixN (Ts ‹_› ‹_›) hl) q) (fun n hn q=>RM (To (ar0 [_] [] 1 3264742696 art)) (ixN (Ts ‹_› ‹_›) hl) q) (RN (Tz (by decide))) (TG (TG ‹_› ‹_›) (by decide))
theorem JT(hl:us.length<=100)(hk:k+1<us.length)(hF:J[F]?=some (.list (us.map uV))):cP P (d+1) "" "_law_ahead" [.ref F,.lst (nsV us),.int ((k+1:Nat):Int),fY h] [] J (hY us h k) J:=by
 have e:((k+1:Nat):Int)-1=(k:Int):=are [_] [] 1 120335729968 art art;have hs:jt us k<us.length:=Ts (ow k) (TV ‹_›);have N1:af J (.lst (nsV us)) (.int (((k+1:Nat):Int)-1))=some (.str (wA us k)):=by rw[e];exact ixN (TV ‹_›) hl
 have U1:af J (.ref F) (.int (((k+1:Nat):Int)-1))=some (uV (uA us k)):=by rw[e];exact ixU hF (TV ‹_›) hl
 have W:et (bI P d (iy (ahS P))) (av P d (bj (ahS P))) (ahL (.ref F) (nsV us) (fY h) ((k+1:Nat):Int) (((k+1:Nat):Int)-1) (wA us k) (wA us (k+1))) J .next (ahL (.ref F) (nsV us) (fY h) ((k+1:Nat):Int) (jt us k:Nat) (wA us k) (wA us (k+1))) J:=by rw[e];exact Fm hl (TV ‹_›)
 unfold hY;by_cases q:k+2<us.length
 . have NX:af J (.lst (nsV us)) (.int (((k+1:Nat):Int)+1))=some (.str (wA us (k+2))):=by rw[show((k+1:Nat):Int)+1=((k+2:Nat):Int) by exact rfl];exact ixN q hl
   exact Ff N1 (ixN hk hl) W (ixN hs hl) U1 (ixU hF hs hl) (ixU hF hk hl) (ixP hs hl) (Fk hl) NX
 .have q1:(((k+1:Nat):Int)+1==((us.length:Nat):Int))=true:=Ub.mpr (VN (ar1 [_,_] [] 1 130326398896371434800 hk art) (ar1 [_,_] [] 1 46268876417182256 (Vz q :) art));have:=Fg (P:=P) (d:=d) N1 (ixN hk hl) W (ixN hs hl) U1 (ixU hF hs hl) (ixU hF hk hl) (ixP hs hl) (Fk hl) q1;rw[q1]at this ⊢;exact this
def u5(us:List UL)(k:Nat):Bool:=wA us (gQ (fun n=>inS (wA us n) ["SY","IS"]) k)=="NU"
theorem z8(hl:us.length<=100)(hk:k<us.length):cP P (d+1) "" "_law_is_figure" [.lst (nsV us),.int (k:Int)] [] J (.bool (u5 us k)) J:=by have hs:gQ (fun n=>inS (wA us n) ["SY","IS"]) k<us.length:=Ts (ow k) hk;exact JQ (z5 (L:=fun j=>fgL (nsV us) j) (N:=k) (fun n=>inS (wA us n) ["SY","IS"]) (fun n hn q=>RD (To (ar0 [_] [] 1 3264742696 art)) (ixN (Ts ‹_› ‹_›) hl) q) (fun n hn q=>RF (To (ar0 [_] [] 1 3264742696 art)) (ixN (Ts ‹_› ‹_›) hl) q) (Qk (Tz (by decide))) (TG (TG ‹_› ‹_›) (by decide))) (To (TM _)) (ixN hs hl)
theorem Fn:cP P (d+1) "" "_law_is_figure" [.lst (nsV us),.int (-1)] [] J (.bool false) J:=by
 refine JR (j := -1) ?_ (by decide);exact Tu (nW (wt:=bI P d (iy (fgS P))) (body:=av P d (bj (fgS P))) (fun _ l s=>l=fgL (nsV us) (-1)/\s=J) (fun l s=>l=fgL (nsV us) (-1)/\s=J) (fun n l s I=>by
  obtain⟨rfl,rfl⟩:=I;exact⟨false,.next,_,_,Qk (by decide),.inl ⟨rfl,rfl,rfl,rfl⟩⟩) 0 (fgL (nsV us) (-1)) J mu (by decide) ⟨rfl,rfl⟩) fun l hh=>by
  obtain⟨s,⟨rfl,rfl⟩,w⟩:=hh;exact w
def rO(a b:Str)(iw nu f1 f2:Bool):Bool:=cond (!iw) (cond ((inS a ["CL","CP","NU"]&&inS b ["PO","PR"])||(inS a ["PO","PR"]&&inS b ["OP","NU"])) true (inS a ["HY","IS","NU","SY"]&&(b=="NU")))
 (cond ((inS a ["PR","PO"]&&((b=="NU")||(inS b ["OP","HY"]&&nu)))||(inS a ["OP","HY"]&&(b=="NU"))) true (cond f1 (inS b ["NU","SY","IS","CL","CP","PO","PR"]) (inS a ["CL","CP"]&&(f2&&inS b ["PO","PR"]))))
theorem Fo{a b:Str}{iw nu f1 f2:Bool}:qn a b iw nu f1 f2=.bool (rO a b iw nu f1 f2):=by
 have c:∀(q x y:Bool),cond q (V.bool x) (.bool y)=.bool (cond q x y):=fun q x y=>by cases q<;>rfl
 unfold qn rO;rw[c,c,c,c]
end
section
variable{P:Params}{d F:Nat}{J:Hp}{us:List UL}{k:Nat}{h:hW}
noncomputable abbrev rP(us:List UL)(k:Nat):List V:=cond (decide (k+2<us.length)) [V.str (wA us (k+2))] []
theorem rQ(hl:us.length<=100)(hk:k+1<us.length):bm false J (.lst (nsV us)) (.int (((k+1:Nat):Int)+1)) (.int (((k+1:Nat):Int)+2)) .none=some (.lst (rP us k),J):=by
 have e1:((k+1:Nat):Int)+1=((k+2:Nat):Int):=rfl;have e2:((k+1:Nat):Int)+2=((k+3:Nat):Int):=rfl;rw[e1,e2,nV (xs:=nsV us) rfl (ar (by rw[Tn];exact Tk ‹_› (by decide))) (jp (b0 (TK (by decide) (TM _)) (by exact ar2 [_,_] [] 1 182687704666362864791787490884645825493981071568 hk hl art))) (jp (b0 (TK (by decide) (TM _)) (by exact ar2 [_,_] [] 1 182687704666362864791787490885798746998587918544 hk hl art)))];have:oV (nsV us) (some ((k+2:Nat):Int)) (some ((k+3:Nat):Int))=rP us k:=by
  unfold oV kms_lo kms_hi;have h1:¬(((k+2:Nat):Int)<0):=U9 (ar0 [_] [] 1 3189256 art);have h2:¬(((k+3:Nat):Int)<0):=U9 (ar0 [_] [] 1 3190280 art);simp only[h1,h2,WG];have hn:(nsV us).length=us.length:=Tn ..;rw[hn];by_cases q:k+2<us.length
  . have e3:Nat.min ((k+3:Nat):Int).toNat us.length-Nat.min ((k+2:Nat):Int).toNat us.length=1:=by show min _ _-min _ _=1;grind
    have e4:min ((k+2:Nat):Int).toNat us.length=k+2:=by lia
    have e5:min ((k+3:Nat):Int).toNat us.length=k+3:=by grind
    rw[e4,e5,show k+3-(k+2)=1 by lia,rP,To q,Ve];have g:=u4 q;obtain⟨g1,g2⟩:=Tr.mp g;rw[Vs g1,g2];rfl
  . have e4:min ((k+2:Nat):Int).toNat us.length=us.length:=by grind
    have e5:min ((k+3:Nat):Int).toNat us.length=us.length:=by grind
    rw[e4,e5,rP,Tz q,UA,UB];rfl
 rw[this];rfl
theorem z9(x:Str)(hx:(""==x)=false):bA J .Eq (.lst (rP us k)) (.lst [.str x])=some (wA us (k+2)==x):=by
 by_cases q:k+2<us.length
 .rw[rP,To q,Ve];show some ((wA us (k+2)==x)&&true)=_;rw[Bool.and_true]
 .rw[rP,Tz q,UA,Fi (Vd.mp ‹_›),hx];rfl
def JU(us:List UL)(k:Nat):Bool:=cond (k==0) false (u5 us (k-1))
theorem Fp(hl:us.length<=100)(hk:k<us.length):cP P (d+1) "" "_law_is_figure" [.lst (nsV us),.int ((k:Int)-1)] [] J (.bool (JU us k)) J:=by
 cases k with|zero=>exact Fn|succ k=>rw[show((k+1:Nat):Int)-1=(k:Nat) by exact are [_] [] 1 120335729968 art art];exact z8 hl (TV ‹_›)
def Fq(us:List UL)(h:hW)(k:Nat):Bool:=rO (wA us k) (wA us (k+1)) h.iw (wA us (k+2)=="NU") (u5 us k) (JU us k)
theorem Od(hl:us.length<=100)(hk:k+1<us.length):cP P (d+2) "" "_law_figures" [.lst (nsV us),.int ((k+1:Nat):Int),.bool h.iw] [] J (.bool (Fq us h k)) J:=by
 have e:((k+1:Nat):Int)-1=(k:Int):=are [_] [] 1 120335729968 art art;have e2:((k+1:Nat):Int)-2=(k:Int)-1:=are [_] [] 1 80384685606192 art art;have r:=Oc (P:=P) (d:=d+1) (J:=J) (ns:=nsV us) (k:=((k+1:Nat):Int)) (a:=wA us k) (b:=wA us (k+1)) (iw:=h.iw) (f1:=u5 us k) (f2:=JU us k) (by rw[e];exact ixN (TV ‹_›) hl) (ixN hk hl) (rQ hl hk) (z9 "NU" (by decide))
  (by rw[e];exact z8 hl (TV ‹_›)) (by rw[e2];exact Fp hl (TV ‹_›))
 rw[Fo]at r;exact r
def yN(u:UL):Bool:=inS u.w ["AK","AS"]||dcO u.s.c 9676
theorem Fr{u:UL}:cP P (d+1) "" "_law_is_aksara" [uV u] [] J (.bool (yN u)) J:=Qj Fb
def riZ(us:List UL)(k:Nat):Int:=qm (fun n=>wA us n=="RI") k
def gT(us:List UL)(h:hW)(k:Nat):V:=bX (wA us k) (wA us (k+1)) (wA us (qo us.length k)) h.st (uA us k).s.e (uA us (k+1)).s.e (uA us k).s.g h.ka (Fq us h k) (yN (uA us k)) (yN (uA us (k+1))) (yN (uA us (qo us.length k))) (wA us (k+2)=="VF") (dcO (uA us (k+1)).s.c 9676)
 (decide ((1:Int)<((k+1:Nat):Int))) ((((k+1:Nat):Int)-1-riZ us (k+1)).fmod 2==1) (uA us k).s.p
theorem Fs(hl:us.length<=100)(hk:k+1<us.length)(hF:J[F]?=some (.list (us.map uV))):cP P (d+3) "" "_law_joined" [.ref F,.lst (nsV us),.int ((k+1:Nat):Int),fY h] [] J (gT us h k) J:=by have e:((k+1:Nat):Int)-1=(k:Int):=are [_] [] 1 120335729968 art art;have e2:((k+1:Nat):Int)-2=(k:Int)-1:=are [_] [] 1 80384685606192 art art;refine Fh (P:=P) (d:=d+2) (by rw[e];exact ixN (TV ‹_›) hl) (ixN hk hl) (by rw[e2];exact ixP (TV ‹_›) hl) (by rw[e];exact ixU hF (TV ‹_›) hl) (ixU hF hk hl) (by rw[e2];exact RV hF (TV ‹_›) hl) (Od hl hk) Fr Fr Fr (rQ hl hk) (z9 "VF" (by decide)) Fb ?_;exact Fa (L:=fun j=>jnL (.ref F) (nsV us) (fY h) ((k+1:Nat):Int) j (wA us k) (wA us (k+1)) (yN (uA us k)) (yN (uA us (k+1)))) (N:=k+1) (fun n=>wA us n=="RI") (fun n hn q=>RO (To (TM _)) (ixN (VH ‹_› ‹_›) hl) q) (fun n hn q=>RP (To (TM _)) (ixN (VH ‹_› ‹_›) hl) q) (RQ (by decide)) (TG (TG ‹_› ‹_›) (by decide))
end
theorem rR{asg:V->Loc->Hp->An->KL->Prop}{test:Loc->Hp->An->(Bool->Hp->An->Prop)->Prop}{elt:Loc->Hp->An->KQ->Prop}{it:It}{v:V}{J:Hp}(L:Option V->Loc){xs ys:List V}(hi:gZ J v=some it)(hl:bD J it=some xs.length)(hg:∀i:Nat,fD J i it=xs[i]?)(e:xs.length=ys.length)(hn:ys.length<=1000)(hs:∀(i:Nat) x y o,xs[i]?=some x->ys[i]?=some y->∃o',kA asg test elt x (L o) J true y (L o') J):iM asg test elt false v (L none) J (.lst ys) J:=by
 refine Tu (lS (t:=false) (v:=v) (it:=it) (loc:=L none) (J:=J) (asg:=asg) (test:=test) (elt:=elt) (N:=xs.length)
  (fun i l s acc=>s=J/\acc=ys.take i/\∃o,l=L o) hi hl (fun i l s acc hj I=>?_) (fun l s acc I=>?_) ⟨rfl,rfl,none,rfl⟩) fun acc hh=>?_
 .obtain⟨rfl,rfl,o,rfl⟩:=I;have hx:=Tq hj;have hy:=Tq (e▸hj:i<ys.length);obtain⟨o',h⟩:=hs i _ _ o hx hy;refine⟨⟨hl,ar (by rw[TY];exact Tk (Uq _ _) (Tk ‹_› (by decide)))⟩,xs[i],true,ys[i],_,_,(hg i).trans hx,h,rfl,?_,_,rfl⟩;show ys.take i++[ys[i]]=_;rw[Un,hy];rfl
 .obtain⟨rfl,rfl,_⟩:=I;exact⟨hl,ar (by rw[TY];exact Tk (Uq _ _) (Tk ‹_› (by decide)))⟩
 .obtain⟨s,l,⟨rfl,rfl,_⟩,h⟩:=hh;rw[e,Ur]at h;exact h
section
variable{P:Params}{d F G:Nat}{J H s:Hp}{us:List UL}{k:Nat}{h:hW}{x:V}{ss uvs ns fs:List V}{st:Str}{o1 o2 o3:Option V}{how:V}
abbrev nmE(P:Params):Expr:=Ll 0 (stE (db 2 (da P).body))
noncomputable abbrev nmL(o:Option V):Loc:=[(".0",.v none),("unit",.v o)]
theorem JV{w:Str}{sv:V}{m:Int}{j:Bool}:kA (aJ P d (coG (nmE P)).target) (fR P d (coG (nmE P)).ifs) (bI P d (coE (nmE P))) (bK w sv m j) (nmL o1) J true (.str w) (nmL (some (bK w sv m j))) J:=by intro k hk;exact aw (zC (z0 hk)) (by rfl')
noncomputable abbrev Ft(P:Params)(d:Nat)(v:V)(loc:Loc)(J:Hp)(x:V)(s:Hp):Prop:=iM (aJ P d (coG (nmE P)).target) (fR P d (coG (nmE P)).ifs) (bI P d (coE (nmE P))) false v loc J x s
noncomputable abbrev Aa(P:Params)(d:Nat)(it:It)(loc:Loc)(J:Hp)(l:Loc)(s:Hp):Prop:=eW (aJ P d (bf (wX P))) (av P d (bj (wX P))) (bf (wX P)) it loc J .next l s
theorem Fu(q:bA J .Eq (.lst ss) (.lst [])=some false)(U:cP P d "" "_law_units" [.lst ss,.str h.st] [] J (.ref F) H)(C:Ft P d (.ref F) (nmL none) H (.lst ns) H)(hs:(a7 (H++[ab.list []]) (.ref F)).isSome=true)(L:Aa P d (.enm (.ref F)) (ou (.lst ss) (fY h) F ns H.length none none none) (H++[ab.list []]) (ou (.lst ss) (fY h) F ns G o1 o2 o3) s)(A:dI false .Add (.ref G) (.lst [.str "must"]) s=some (.lst fs,s)):
 cP P (d+1) "" "_law_places" [.lst ss,fY h] [] J (.lst fs) s:=by
 exact ag (da P) ([V.lst ss,fY h]) (fun z=>(zT q (zD U (zA (rfl:(0:Int)=(0:Int)) (zF C (zA hs (zL L (zP A (z0 z)).R)).R.R.R).R).R).C.R.R.F).R)
theorem Fv:cP P (d+1) "" "_law_places" [.lst [],how] [] J (.lst [.str "no"]) J:=by exact ag (da P) ([V.lst [],how]) (fun z=>(z0 z).R.T.C.R)
end
noncomputable def nt:V->Str
 |.str s=>s
 |_=>""
noncomputable def orV(v w:V):V:=match v with
 |.none=>w
 |v=>v
theorem okC{R:V->Prop}{q:Bool}{x y:V}(hx:R x)(hy:R y):R (cond q x y):=by cases q<;>assumption
theorem Ab(us:List UL)(h:hW)(k:Nat):hY us h k=.none\/∃x,hY us h k=.str x:=by unfold hY bU;exact okC (R:=fun v=>v=.none\/∃x,v=.str x) (.inr ⟨_,rfl⟩) (okC (R:=fun v=>v=.none\/∃x,v=.str x) (.inr ⟨_,rfl⟩) (okC (R:=fun v=>v=.none\/∃x,v=.str x) (.inr ⟨_,rfl⟩) (okC (R:=fun v=>v=.none\/∃x,v=.str x) (.inr ⟨_,rfl⟩) (okC (R:=fun v=>v=.none\/∃x,v=.str x) (.inr ⟨_,rfl⟩) (okC (R:=fun v=>v=.none\/∃x,v=.str x) (.inr ⟨_,rfl⟩) (okC (R:=fun v=>v=.none\/∃x,v=.str x) (.inr ⟨_,rfl⟩) (okC (R:=fun v=>v=.none\/∃x,v=.str x) (.inr ⟨_,rfl⟩) (okC (R:=fun v=>v=.none\/∃x,v=.str x) (.inr ⟨_,rfl⟩) (okC (R:=fun v=>v=.none\/∃x,v=.str x) (.inr ⟨_,rfl⟩) (.inl rfl))))))))))
theorem wZ(us:List UL)(h:hW)(k:Nat):∃x,gT us h k=.str x:=by have c:∀{q:Bool}{x y:V},(∃z,x=.str z)->(∃z,y=.str z)->∃z,cond q x y=.str z:=fun hx hy=>okC (R:=fun v=>∃x,v=.str x) hx hy;have n:∃z,V.str "no"=.str z:=⟨_,rfl⟩;have m:∃z,V.str "may"=.str z:=⟨_,rfl⟩;unfold gT bX;exact c (c n m) (c n (c n (c n (c n (c n (c n (c n (c n (c n (c n (c n (c n (c n m)))))))))))))
noncomputable def jV(us:List UL)(h:hW):Nat->Str
 |0=>"no"
 |k+1=>nt (orV (hY us h k) (gT us h k))
def jc(us:List UL)(h:hW)(i:Nat):List Str:=jV us h i::List.replicate ((uA us i).m-1) "no"
noncomputable def bY(us:List UL)(h:hW):Nat->List Str
 |0=>[]
 |i+1=>bY us h i++jc us h i
def iT(us:List UL)(h:hW):List Str:=bY us h us.length++[("must":Str)]
theorem Fw(n:Nat):(List.replicate n [V.str "no"]).flatten=List.replicate n (V.str "no"):=by
 induction n with|zero=>rfl|succ n ih=>rw[U0,U0,We,ih];rfl
section
variable{P:Params}{d F G:Nat}{J H s:Hp}{us:List UL}{k i:Nat}{h:hW}{fs:List Str}{sv:V}{o1 o2 o3:Option V}
theorem ox{a b:List Str}:svs (a++b)=svs a++svs b:=TI
theorem BP{n:Nat}(x:Str):svs fs++[V.str x]++List.replicate n (V.str "no")=svs (fs++x::List.replicate n "no"):=by rw[ox,svs,svs,Uj,WN,Tl];rfl
noncomputable def PlO(P:Params)(d F:Nat)(H:Hp)(us:List UL)(i:Nat)(h:hW)(fs:List Str)(sv:V)(o1 o2 o3:Option V)(n:Nat)(s:Hp):Prop:=∃o1' o2' o3',qD P (d+3) (.tup [.int (i:Int),uV (uA us i)]) (ou sv (fY h) F (nsV us) H.length o1 o2 o3) (H++[ab.list (svs fs)]) .next (ou sv (fY h) F (nsV us) n o1' o2' o3') s
theorem Fx(hl:us.length<=100)(hi:i<us.length)(hm1:1<=(uA us i).m)(hm2:(uA us i).m<=200)(hf:fs.length<=100000)(hF:H[F]?=some (.list (us.map uV))):
 PlO P d F H us i h fs sv o1 o2 o3 (H.length+1) (H++[ab.list (svs (fs++[jV us h i]))]++[ab.list (svs (fs++jc us h i))]):=by
 have hlen:∀x:Str,(svs fs++[V.str x]).length=fs.length+1:=fun x=>by rw[Tm,Tn];rfl
 have k1:bd (a_T P) (H++[ab.list (svs fs)]) (.ref H.length) "append"=some (.bi "list.append"):=aM aN;have k2:∀x:Str,aQ (H++[ab.list (svs fs)]) "list.append" (.ref H.length) [V.str x]=some (.none,H++[ab.list (svs fs++[V.str x])]):=fun x=>jS (ar (by rw[Tn];exact Tk ‹_› (by decide)));have k3:∀x:Str,dI false .Mult (.lst [V.str "no"]) (.int (((uA us i).m:Int)-1)) (H++[ab.list (svs fs++[V.str x])])=some (.lst (List.replicate ((uA us i).m-1) (V.str "no")),H++[ab.list (svs fs++[V.str x])]):=fun x=>by rw[wO (by exact ar1 [_] [] 1 2453152265 hm1 art) (by exact ar1 [_] [] 1 36896011608281711904976 hm2 art) (by show 1<1000;decide),show(((uA us i).m:Int)-1).toNat=(uA us i).m-1 by exact Ud (ar2 [_,_,_] [] 512 632836132373046832 (qI (a:=↑(uA us i).m-1) (ar1 [_] [] 1 2453152265 hm1 art)) (iX (n:=(uA us i).m) (m:=1) (ar1 [_] [] 0 534025 hm1 art)) art) (ar2 [_,_,_] [] 262144 633320125794165872 (fp (n:=(uA us i).m) (m:=1) (ar1 [_] [] 0 534025 hm1 art)) (Ax (a:=↑(uA us i).m-1) (ar1 [_] [] 1 2453152265 hm1 art)) art),Fw];rfl
 have k4:∀x:Str,dI true .Add (.ref H.length) (.lst (List.replicate ((uA us i).m-1) (V.str "no"))) (H++[ab.list (svs fs++[V.str x])])=some (.ref (H++[ab.list (svs fs++[V.str x])]).length,H++[ab.list (svs fs++[V.str x])]++[ab.list (svs fs++[V.str x]++List.replicate ((uA us i).m-1) (V.str "no"))]):=fun x=>
  JS (ar (by rw[Tm,hlen,Vq];exact ar3 [_,_,_] [] 0 41538380305907092775123509961695997200592 hf (fp (n:=(uA us i).m) (m:=1) (ar1 [_] [] 0 534025 hm1 art)) hm2 art))
 have ln:∀x:Str,(H++[ab.list (svs fs++[V.str x])]).length=H.length+1:=fun x=>by rw[Tm];rfl
 have hF':∀c,(H++[c])[F]?=some (.list (us.map uV)):=fun c=>aT hF;have fin:∀{x:Str},jV us h i=x->PlO P d F H us i h fs sv o1 o2 o3 (H++[ab.list (svs fs++[V.str x])]).length (H++[ab.list (svs fs++[V.str x])]++[ab.list (svs fs++[V.str x]++List.replicate ((uA us i).m-1) (V.str "no"))]) ->
  PlO P d F H us i h fs sv o1 o2 o3 (H.length+1) (H++[ab.list (svs (fs++[jV us h i]))]++[ab.list (svs (fs++jc us h i))]):=fun{x} e r=>by
  unfold jc;rw[e,<-BP,ox,<-ln x];exact r
 cases i with|zero=>exact fin rfl ⟨_,_,_,RS k1 (k2 _) (k3 _) (k4 _)⟩|succ k=>
  have q0:(((k+1:Nat):Int)==0)=false:=Tv.mpr (Int.ne_of_gt (ar0 [_] [] 1 3264742696 art));have A:=JT (P:=P) (d:=d+2) (h:=h) hl hi (hF' (ab.list (svs fs)));have σ:=Fs (P:=P) (d:=d) (h:=h) hl hi (hF' (ab.list (svs fs)));have hw:jV us h (k+1)=nt (orV (hY us h k) (gT us h k)):=rfl;rcases Ab us h k with r|⟨x,r⟩
  .obtain⟨y,ry⟩:=wZ us h k;rw[r,ry]at hw;rw[r]at A;rw[ry]at σ;exact fin hw ⟨_,_,_,RU q0 A σ k1 (k2 _) (k3 _) (k4 _)⟩
  .rw[r]at hw A;exact fin hw ⟨_,_,_,RT q0 A k1 (k2 _) (k3 _) (k4 _)⟩
theorem nv(hm:∀i<us.length,(uA us i).m<=200):∀i,i<=us.length->(bY us h i).length<=201*i
 |0,_=>TB _
 |i+1,hi=>by have:=nv hm i (UU ‹_›);have:=hm i (WV ‹_›);unfold bY jc;rw[Tm,Ug,Vq];lia
inductive PlI(J:Hp)(us:List UL)(h:hW)(sv:V)(i:Nat)(l:Loc)(s:Hp):Prop
 |mk (junk:Hp) (o1 o2 o3:Option V):junk.length=i->s=J++[ab.list (us.map uV)]++junk++[ab.list (svs (bY us h i))]->l=ou sv (fY h) J.length (nsV us) (J++[ab.list (us.map uV)]++junk).length o1 o2 o3->PlI J us h sv i l s
theorem Fy(hl:us.length<=100)(hm1:∀i<us.length,1<=(uA us i).m)(hm2:∀i<us.length,(uA us i).m<=200):
 ∃o1 o2 o3 junk,Aa P (d+3) (.enm (.ref J.length)) (ou sv (fY h) J.length (nsV us) (J.length+1) none none none) (J++[ab.list (us.map uV)]++[ab.list []]) (ou sv (fY h) J.length (nsV us) (J++[ab.list (us.map uV)]++junk).length o1 o2 o3) (J++[ab.list (us.map uV)]++junk++[ab.list (svs (bY us h us.length))]):=by
 have hF:∀junk:Hp,(J++[ab.list (us.map uV)]++junk)[J.length]?=some (.list (us.map uV)):=fun junk=>aT aN;have hN:∀junk:Hp,bD (J++[ab.list (us.map uV)]++junk) (.enm (.ref J.length))=some us.length:=fun junk=>by show(a7 _ _).map _=_;rw[cp (hF junk)];show some (us.map uV).length=_;rw[Tn]
 refine Tu (dA (N:=us.length) (it:=.enm (.ref J.length)) (loc:=ou sv (fY h) J.length (nsV us) (J.length+1) none none none) (J:=J++[ab.list (us.map uV)]++[ab.list []]) (tg:=bf (wX P)) (asg:=aJ P (d+3) (bf (wX P))) (body:=av P (d+3) (bj (wX P)))
  (PlI J us h sv) (fun i l s hi I=>?_) (fun l s I=>?_) (hN _) (by rfl') ⟨[],none,none,none,rfl,by rw[Ua];rfl,by rw[Ua,Tm];rfl⟩) fun l hh=>?_
 .obtain⟨junk,o1,o2,o3,hj,rfl,rfl⟩:=I;obtain⟨p1,p2,p3,st⟩:=Fx (P:=P) (d:=d) (h:=h) (sv:=sv) (o1:=o1) (o2:=o2) (o3:=o3) (fs:=bY us h i) hl hi (hm1 i hi) (hm2 i hi) (by have:=nv (h:=h) hm2 i (TX ‹_›);exact ar3 [_,_,_] [] 53791948800 123794166612036726279330189150416 this hi hl art) (hF junk);refine⟨by rw[Tl];exact hN _,_,.next,_,_,?_,st,.inl rfl,.mk (junk++[ab.list (svs (bY us h i++[jV us h i]))]) p1 p2 p3 (by rw[Tm,hj];rfl) (by rw[<-Tl];rfl) (by rw[<-Tl,Tm (as:=J++[ab.list (us.map uV)]++junk)];rfl)⟩;show((a7 _ _).bind (·[i]?)).map _=_;rw[Tl,cp (hF _)];show((us.map uV)[i]?).map _=_;rw[yM hi];rfl
 .obtain⟨junk,_,_,_,_,rfl,_⟩:=I;rw[Tl];exact hN _
 .obtain⟨s,⟨junk,o1,o2,o3,_,rfl,rfl⟩,w⟩:=hh;exact⟨o1,o2,o3,junk,w⟩
end
theorem Oe{st:Str}{us:List UL}{s:aA}{b:Nat}(h:∀u∈us,1<=u.m/\u.m<=b)(hb:1<=b):∀u∈jU st us s,1<=u.m/\u.m<=b+1:=by
 have a1:∀u∈us++[wW (bT st s) s],1<=u.m/\u.m<=b+1:=fun u hu=>by
  rcases TJ.mp hu with hu|hu
  .have:=h u hu;exact⟨ar1 [_] [] 0 534025 this.1 art,ar1 [_,_] [] 0 43565616 this.2 art⟩
  .rw[Tw.mp hu];exact⟨TB 1,by show 1<=b+1;exact V6 _ _⟩
 unfold jU;rcases UH us with rfl|⟨us0,u0,rfl⟩
 .exact a1
 . rw[Ui,U6,Vw];dsimp only;cases ge (bT st s) && !kF u0.w with|false=>rw[UA];rw[Ui]at a1;exact a1|true=>
    intro u hu;rw[Ve]at hu;rcases TJ.mp hu with hu|hu
    .have:=h u (by rw[Ui];exact Uu _ hu);exact⟨ar1 [_] [] 0 534025 this.1 art,ar1 [_,_] [] 0 43565616 this.2 art⟩
    .have:=h u0 (by rw[Ui];exact UT _ (Tw.mpr rfl));rw[Tw.mp hu];exact⟨by show 1<=u0.m+1;exact V6 _ _,by show u0.m+1<=b+1;exact ar1 [_,_] [] 0 44595200560 this.2 art⟩
theorem Ac{st:Str}:∀(ss:List aA) (us:List UL) (b:Nat),1<=b->(∀u∈us,1<=u.m/\u.m<=b)->∀u∈ss.foldl (jU st) us,1<=u.m/\u.m<=b+ss.length
 |[],us,b,hb,h=>h
 |s::ss,us,b,hb,h=>fun u hu=>by have:=Ac ss (jU st us s) (b+1) (V6 _ _) (Oe h hb) u hu;rw[Ug];exact⟨ar1 [_] [] 0 534025 this.1 art,ar1 [_,_,_] [] 0 37491748831798832 this.2 art⟩
theorem oy{st:Str}{ss:List aA}{i:Nat}(hi:i<(aE st ss).length):1<=(uA (aE st ss) i).m/\(uA (aE st ss) i).m<=1+ss.length :=
 Ac ss [] 1 (TB _) (fun u hu=>absurd hu Up) _ (TZ (rN hi))
section
variable{P:Params}{d F:Nat}{J:Hp}{ss:List aA}{h:hW}{x:Str}{xs:List V}{o1:Option V}
theorem w6{n:Nat}:∀l:List Str,refsL n (svs l)=true
 |[]=>rfl
 |x::l=>w6 (n:=n) l
theorem Fz(h0:ss≠[])(hl:ss.length<=90)(hc:J.all (cg J.length)=true):cP P (d+4) "" "_law_places" [.lst (ss.map ao),fY h] [] J (.lst (svs (iT (aE h.st ss) h))) J:=by
 have hu:=nq (st:=h.st) ss [];have hu:(aE h.st ss).length<=90:=by unfold aE;simp at hu;exact Tk ‹_› ‹_›
 have U:=Fe (P:=P) (d:=d+1) (J:=J) (st:=h.st) hl;obtain⟨o1,o2,o3,junk,L⟩:=Fy (P:=P) (d:=d) (J:=J) (h:=h) (sv:=.lst (ss.map ao)) (us:=aE h.st ss) (Tk ‹_› (by decide)) (fun i hi=>(oy hi).1) (fun i hi=>by have:=oy hi;exact ar2 [_,_] [] 0 230663713708678383824 this.2 hl art);have q:bA J .Eq (.lst (ss.map ao)) (.lst [])=some false:=by
  cases ss with|nil=>exact absurd rfl h0|cons _ _=>rfl
 have C:Ft P (d+3) (.ref J.length) (nmL none) (J++[ab.list ((aE h.st ss).map uV)]) (.lst (nsV (aE h.st ss))) (J++[ab.list ((aE h.st ss).map uV)]):=by
  refine rR (L:=nmL) (xs:=(aE h.st ss).map uV) (y6 aN) ?_ (fun i=>?_) (by rw[Tn,Tn]) (by rw[Tn];exact Tk ‹_› (by decide)) (fun i x y o hx hy=>?_)
  .show(bF _ _).map _=_;rw[cq aN];rfl
  .show(bF _ _).bind _=_;rw[cq aN];rfl
  .rw[Ty]at hx hy;obtain⟨u,hu1,hu2⟩:=TU.mp hx;rw[hu1]at hy;cases hy;cases hu2;exact⟨_,JV⟩
 have hs:(a7 (J++[ab.list ((aE h.st ss).map uV)]++[ab.list []]) (.ref J.length)).isSome=true:=by rw[cp (aT aN)];rfl
 have A:dI false .Add (.ref (J++[ab.list ((aE h.st ss).map uV)]++junk).length) (.lst [.str "must"]) (J++[ab.list ((aE h.st ss).map uV)]++junk++[ab.list (svs (bY (aE h.st ss) h (aE h.st ss).length))])=some (.lst (svs (iT (aE h.st ss) h)),J++[ab.list ((aE h.st ss).map uV)]++junk++[ab.list (svs (bY (aE h.st ss) h (aE h.st ss).length))]):=by have hp:=nv (us:=aE h.st ss) (h:=h) (fun i hi=>by have:=oy hi;exact ar2 [_,_] [] 0 230663713708678383824 this.2 hl art) (aE h.st ss).length (TB _);unfold iT;rw[ox];exact rA (cp aN) rfl (ar (by rw[Tm,Tn];show _+1<=_;exact ar2 [_,_] [] 104857600 1208925977861795696524858820816 hp hu art)) (fun _ e=>nomatch e) (fun _ e=>nomatch e)
 rw[show J.length+1=(J++[ab.list ((aE h.st ss).map uV)]).length by rw[Tm];rfl]at L;have r:=Fu (P:=P) (d:=d+3) (h:=h) q U C hs L A;have e:(J++[ab.list ((aE h.st ss).map uV)]++junk++[ab.list (svs (bY (aE h.st ss) h (aE h.st ss).length))]).take J.length=J:=by rw[Tl,Tl];exact List.take_left
 have g:=nX r (w6 _) (by rw[e];exact hc);rw[e]at g;exact g
end
noncomputable def FA(x:Str):aA:=⟨x,"Lo","N",false,none⟩
noncomputable abbrev n1L:List Str:=["BK","CR","LF","NL","SP","ZW","WJ","GL","CM","ZWJ","CL","EX","IS"]
noncomputable abbrev n2L:List Str:=["SY","OP","CP","NS","B2","CB","BA","HY","BB","HL","AL","IN","NU","PR","PO","ID","EB","EM","RI","CJ"]
noncomputable abbrev n3L:List Str:=["JL","JV","JT","H2","H3","AK","AP","AS","VF","VI","AI","SG","XX","SA"]
noncomputable def xS(n g e:Str)(p:Bool)(c:Option Int):aA:=⟨n,g,e,p,c⟩
noncomputable def Ad:List aA:=[xS "QU" "Pi" "N" false none,xS "QU" "Pf" "N" false none,xS "QU" "Po" "N" false none,xS "OP" "Ps" "W" false none,xS "CP" "Pe" "F" false none,xS "OP" "Ps" "H" false none,
 xS "SA" "Mn" "N" false none,xS "SA" "Mc" "N" false none,xS "ID" "Cn" "N" true none,xS "AL" "So" "N" false (some 9676),xS "NS" "Lm" "N" false (some 12293),xS "ID" "So" "N" true none]
def bN:List aA:=(n1L++n2L++n3L).map FA++Ad
abbrev plV(l:List Str):List V:=l.map fun x=>ao (FA x)
theorem BQ{asg:V->Loc->Hp->An->KL->Prop}{test:Loc->Hp->An->(Bool->Hp->An->Prop)->Prop}{elt:Loc->Hp->An->KQ->Prop}{it:It}{v:V}{J:Hp}{t:Bool}(L:Option V->Loc){xs ys:List V}(hi:gZ J v=some it)(hl:bD J it=some xs.length)(hg:∀i:Nat,fD J i it=xs[i]?)(e:xs.length=ys.length)(hn:ys.length<=1000)(hs:∀(i:Nat) x y o,xs[i]?=some x->ys[i]?=some y->∃o',kA asg test elt x (L o) J true y (L o') J):iM asg test elt t v (L none) J (bG t ys J).1 (bG t ys J).2:=by
 refine Tu (lS (t:=t) (v:=v) (it:=it) (loc:=L none) (J:=J) (asg:=asg) (test:=test) (elt:=elt) (N:=xs.length)
  (fun i l s acc=>s=J/\acc=ys.take i/\∃o,l=L o) hi hl (fun i l s acc hj I=>?_) (fun l s acc I=>?_) ⟨rfl,rfl,none,rfl⟩) fun acc hh=>?_
 .obtain⟨rfl,rfl,o,rfl⟩:=I;have hx:=Tq hj;have hy:=Tq (e▸hj:i<ys.length);obtain⟨o',h⟩:=hs i _ _ o hx hy;refine⟨⟨hl,ar (by rw[TY];exact Tk (Uq _ _) (Tk ‹_› (by decide)))⟩,xs[i],true,ys[i],_,_,(hg i).trans hx,h,rfl,?_,_,rfl⟩;show ys.take i++[ys[i]]=_;rw[Un,hy];rfl
 .obtain⟨rfl,rfl,_⟩:=I;exact⟨hl,ar (by rw[TY];exact Tk (Uq _ _) (Tk ‹_› (by decide)))⟩
 .obtain⟨s,l,⟨rfl,rfl,_⟩,h⟩:=hh;rw[e,Ur]at h;exact h
section
variable{P:Params}{d F:Nat}{J s1 s2 s3:Hp}{x:Str}{xs rs:List V}{o1 o2 o3:Option V}{names:List Str}
abbrev soE(P:Params):Expr:=stE (db 0 (eC P).body)
noncomputable abbrev FB(o:Option V):Loc:=[(".0",.v none),("name",.v o)]
noncomputable abbrev soL(F:Nat)(o:Option V):Loc:=[("name",.v o),("found",.v (some (.ref F)))]
abbrev soS(P:Params)(i:Nat):Stmt:=db i (eC P).body
theorem JW:kA (aJ P d (coG (soE P)).target) (fR P d (coG (soE P)).ifs) (bI P d (coE (soE P))) (.str x) (FB o1) J true (bv x "Lo" "N" false .none) (FB (some (.str x))) J:=by intro k hk;exact aw (zR (z0 hk)) (by rfl')
theorem Of(hl:xs.length<=100):eZ (aJ P d (bf (soS P 1))) (av P d (bj (soS P 1))) (.str x) (soL J.length o1) (J++[ab.list xs]) .next (soL J.length (some (.str x))) (J++[ab.list (xs++[bv x "Lo" "N" false .none])]):=by intro k hk;have k1:=aM (T:=a_T P) (aN (H:=J) (c:=ab.list xs));have k2:=jS (xs:=xs) (x:=bv x "Lo" "N" false .none) (J:=J) (ar (Tk ‹_› (by decide)));exact aw (zQ (zR (zK k1 (zR (zP k2 (z0 hk)))))) (by rfl')
theorem JX(hl:xs.length<=100):eZ (aJ P d (bf (soS P 2))) (av P d (bj (soS P 2))) (.str x) (soL J.length o1) (J++[ab.list xs]) .next (soL J.length (some (.str x))) (J++[ab.list (xs++[bv x "Lo" "N" false .none])]):=by intro k hk;have k1:=aM (T:=a_T P) (aN (H:=J) (c:=ab.list xs));have k2:=jS (xs:=xs) (x:=bv x "Lo" "N" false .none) (J:=J) (ar (Tk ‹_› (by decide)));exact aw (zQ (zR (zK k1 (zR (zP k2 (z0 hk)))))) (by rfl')
noncomputable abbrev FC(P:Params)(d:Nat)(v:V)(loc:Loc)(J:Hp)(x:V)(s:Hp):Prop:=iM (aJ P d (coG (soE P)).target) (fR P d (coG (soE P)).ifs) (bI P d (coE (soE P))) true v loc J x s
noncomputable abbrev u6(P:Params)(d i:Nat)(it:It)(loc:Loc)(J:Hp)(l:Loc)(s:Hp):Prop:=eW (aJ P d (bf (soS P i))) (av P d (bj (soS P i))) (bf (soS P i)) it loc J .next l s
theorem RW(C:FC P d (.tup (svs n1L)) (FB none) J (.ref J.length) s1)(L1:u6 P d 1 (.seq (.tup (svs n2L))) (soL J.length none) s1 (soL J.length o1) s2)(L2:u6 P d 2 (.seq (.tup (svs n3L))) (soL J.length o1) s2 (soL J.length o2) s3)(A:dI false .Add (.ref J.length) (.lst ((Ad.take 3).map ao)) s3=some (.lst (plV (n1L++n2L++n3L)++(Ad.take 3).map ao),s3)):
 cP P (d+1) "" "_law_sorts" [] [] J (.lst (bN.map ao)) s3:=by
 exact ag (eC P) ([]) (fun z=>(zA (rfl:(0:Int)=(0:Int)) (zF C (zL L1 (zL L2 (zP A (z0 z).C.R.R.R.R.C.R.R.R.R.R.C.R.R.R.R.R).R.R.R.R.R).C.R).C.R).R.R).R)
end
noncomputable abbrev ei(P:Params)(d:Nat)(b:Int)(s:Hp)(r:Int)(s':Hp):Prop:=cP P d "" "_law_draw" [.ref 1,.int b] [] s (.int r) s'
noncomputable abbrev tQ(P:Params)(d:Nat)(xs:List V)(s:Hp)(v:V)(s':Hp):Prop:=cP P d "" "_law_pick" [.ref 1,.lst xs] [] s v s'
section
variable{P:Params}{d:Nat}{J s s1 s2 s3:Hp}{x v:V}{xs ys sv sm out:List V}{o:Option V}{r m:Int}{names:List Str}{base:List V}{o1:Option V}{t:Int}{h g:ab}
theorem FD(hb:base.length<=40)(hn:names.length<=40):∃o',u6 P d 1 (.seq (.tup (svs names))) (soL J.length o1) (J++[ab.list base]) (soL J.length o') (J++[ab.list (base++plV names)]):=by
 have hN:∀s,bD s (.seq (.tup (svs names)))=some names.length:=fun s=>by show some (svs names).length=_;rw[Tn]
 refine Tu (dA (N:=names.length) (it:=.seq (.tup (svs names))) (loc:=soL J.length o1) (J:=J++[ab.list base]) (tg:=bf (soS P 1)) (asg:=aJ P d (bf (soS P 1))) (body:=av P d (bj (soS P 1)))
  (fun i l s=>s=J++[ab.list (base++plV (names.take i))]/\∃o',l=soL J.length o') (fun i l s hi I=>?_) (fun l s I=>hN _) (hN _) (by rfl') ⟨by rw[WO];show _=J++[ab.list (base++[])];rw[Ua],o1,rfl⟩) fun l hh=>?_
 . obtain⟨rfl,o',rfl⟩:=I;refine⟨hN _,.str names[i],.next,_,_,?_,Of (by rw[Tm,Tn,TY];exact ar3 [_,_,_] [] 0 3871208976575840265153284304 hb (Uq (i) (names.length)) hn art),.inl rfl,?_,_,rfl⟩
   .show(some (svs names)).bind (·[i]?)=_;rw[Ue,Ty,Tq hi];rfl
   .rw[Un,Tq hi,Tl,plV,plV,TI];rfl
 .obtain⟨s,⟨rfl,o',rfl⟩,w⟩:=hh;rw[Ur]at w;exact⟨o',w⟩
theorem FE(hb:base.length<=40)(hn:names.length<=40):∃o',u6 P d 2 (.seq (.tup (svs names))) (soL J.length o1) (J++[ab.list base]) (soL J.length o') (J++[ab.list (base++plV names)]):=by
 have hN:∀s,bD s (.seq (.tup (svs names)))=some names.length:=fun s=>by show some (svs names).length=_;rw[Tn]
 refine Tu (dA (N:=names.length) (it:=.seq (.tup (svs names))) (loc:=soL J.length o1) (J:=J++[ab.list base]) (tg:=bf (soS P 2)) (asg:=aJ P d (bf (soS P 2))) (body:=av P d (bj (soS P 2)))
  (fun i l s=>s=J++[ab.list (base++plV (names.take i))]/\∃o',l=soL J.length o') (fun i l s hi I=>?_) (fun l s I=>hN _) (hN _) (by rfl') ⟨by rw[WO];show _=J++[ab.list (base++[])];rw[Ua],o1,rfl⟩) fun l hh=>?_
 . obtain⟨rfl,o',rfl⟩:=I;refine⟨hN _,.str names[i],.next,_,_,?_,JX (by rw[Tm,Tn,TY];exact ar3 [_,_,_] [] 0 3871208976575840265153284304 hb (Uq (i) (names.length)) hn art),.inl rfl,?_,_,rfl⟩
   .show(some (svs names)).bind (·[i]?)=_;rw[Ue,Ty,Tq hi];rfl
   .rw[Un,Tq hi,Tl,plV,plV,TI];rfl
 .obtain⟨s,⟨rfl,o',rfl⟩,w⟩:=hh;rw[Ur]at w;exact⟨o',w⟩
theorem JY(hc:J.all (cg J.length)=true):cP P (d+1) "" "_law_sorts" [] [] J (.lst (bN.map ao)) J:=by
 have C:FC P d (.tup (svs n1L)) (FB none) J (.ref J.length) (J++[ab.list (plV n1L)]) :=
  BQ (t:=true) (L:=FB) (xs:=svs n1L) (ys:=plV n1L) (it:=.seq (.tup (svs n1L))) rfl rfl (fun i=>rfl) (by rw[Tn,Tn]) (by rw[Tn];decide) (fun i x y o hx hy=>by
   rw[Ty]at hx hy;obtain⟨u,hu1,hu2⟩:=TU.mp hx;rw[hu1]at hy;cases hy;cases hu2;exact⟨_,JW⟩)
 obtain⟨o1,L1⟩:=FD (P:=P) (d:=d) (J:=J) (o1:=none) (base:=plV n1L) (names:=n2L) (by decide) (by decide);obtain⟨o2,L2⟩:=FE (P:=P) (d:=d) (J:=J) (o1:=o1) (base:=plV n1L++plV n2L) (names:=n3L) (by decide) (by decide);have e:plV (n1L++n2L++n3L)=plV n1L++plV n2L++plV n3L:=rfl;have r:=RW (P:=P) (d:=d) (J:=J) C L1 L2 (by rw[e];exact rA (cp aN) rfl (by decide) (fun _ e=>nomatch e) (fun _ e=>nomatch e));have e2:(J++[ab.list (plV n1L++plV n2L++plV n3L)]).take J.length=J:=List.take_left;have q:=nX r rfl (by rw[e2];exact hc);rw[e2]at q;exact q
abbrev d1E(P:Params):Expr:=stE (db 1 (eE P).body)
abbrev d2E(P:Params):Expr:=stE (db 2 (eE P).body)
noncomputable abbrev d1L(sv:List V)(o:Option V):Loc:=[(".0",.v none),("k",.v o),("_law_pick",.g),("deck",.f (.ref 1)),("sorts",.f (.lst sv))]
noncomputable abbrev d2L(sv sm:List V)(o:Option V):Loc:=[(".0",.v none),("k",.v o),("_law_draw",.g),("_law_pick",.g),("deck",.f (.ref 1)),("some",.f (.lst sm)),("sorts",.f (.lst sv))]
noncomputable abbrev Ae(P:Params)(d:Nat)(E:Expr)(x:V)(loc:Loc)(J:Hp)(v:V)(l:Loc)(s:Hp):Prop:=kA (aJ P d (coG E).target) (fR P d (coG E).ifs) (bI P d (coE E)) x loc J true v l s
noncomputable abbrev FF(P:Params)(d:Nat)(E:Expr)(v:V)(loc:Loc)(J:Hp)(x:V)(s:Hp):Prop:=iM (aJ P d (coG E).target) (fR P d (coG E).ifs) (bI P d (coE E)) false v loc J x s
theorem RY(p:tQ P d sv s v s1):Ae P d (d1E P) x (d1L sv o) s v (d1L sv (some x)) s1:=by unfold tQ at p;intro k hk;exact aw (zR (zD p (z0 hk))) (by rfl')
theorem RZ(q:ei P d 4 s r s1)(q1:decide (0<r)=true)(p:tQ P d sm s1 v s2):Ae P d (d2E P) x (d2L sv sm o) s v (d2L sv sm (some x)) s2:=by unfold tQ at p;unfold ei at q;intro k hk;exact aw (zR (zD q (zC (zH q1 (zR (zD p (z0 hk))))))) (by rfl')
theorem Se(q:ei P d 4 s r s1)(q1:decide (0<r)=false)(p:tQ P d sv s1 v s2):Ae P d (d2E P) x (d2L sv sm o) s v (d2L sv sm (some x)) s2:=by unfold tQ at p;unfold ei at q;intro k hk;exact aw (zR (zD q (zC (zH q1 (zR (zD p (z0 hk))))))) (by rfl')
theorem JZ(S:cP P d "" "_law_sorts" [] [] s (.lst sv) s)(D:ei P d 3 s r s1)(r1:tyI true "range" [.int (2+r)] s1=some (.rng 0 (2+r),s1))(C1:FF P d (d1E P) (.rng 0 (2+r)) (d1L sv none) s1 (.lst sm) s2)(r2:tyI true "range" [.int m] s2=some (.rng 0 m,s2))(C2:FF P d (d2E P) (.rng 0 m) (d2L sv sm none) s2 (.lst out) s3):cP P (d+1) "" "_law_drawn" [.ref 1,.int m] [] s (.lst out) s3:=by unfold ei at D;exact ag (eE P) ([V.ref 1,V.int m]) (fun z=>(zD S (zA (rfl:(0:Int)=(0:Int)) (zD D (zP r1 (zF C1 (zA (rfl:(0:Int)=(0:Int)) (zP r2 (zF C2 (z0 z))).R.R))).C).R.R.R).R).R.R)
end
theorem FH{t:Bool}{J:Hp}{b:Int}(h:aO b=true):tyI t "range" [.int b] J=some (.rng 0 b,J):=by show(if aO b then _ else _)=_;rw[h];rfl
theorem pA{ss:List aA}{v:V}(h:v∈ss.map ao):∃s,s∈ss/\v=ao s:=by obtain⟨s,h1,h2⟩:=Uw.mp h;exact⟨s,h1,h2.symm⟩
theorem pB{asg:V->Loc->Hp->An->KL->Prop}{test:Loc->Hp->An->(Bool->Hp->An->Prop)->Prop}{elt:Loc->Hp->An->KQ->Prop}{it:It}{v:V}{L:Option V->Loc}{J:Hp}{N:Nat}{t:Int}{h g:ab}(R:List V->Nat->Prop)(hi:gZ (h::g::J) v=some it)(hN:∀s,bD s it=some N)(hm:N<=100)(D:hP t h g)(ht:t<100000)(r0:R [] 0)(rl:∀acc i,R acc i->acc.length<=i)(st:∀i acc t h g o,i<N->R acc i->hP t h g->t<200000->∃x p y l h' g' t',fD (h::g::J) i it=some x/\kA asg test elt x (L o) (h::g::J) p y (L l) (h'::g'::J)/\hP t' h' g'/\t'<=t+2/\R (cond p (acc++[y]) acc) (i+1)):
 ∃acc h' g' t',R acc N/\hP t' h' g'/\t'<=t+200/\iM asg test elt false v (L none) (h::g::J) (.lst acc) (h'::g'::J):=by
 have lk:∀{acc i},i<=N->R acc i->ba acc=true:=fun hi r=>ar (Tk (rl _ _ r) (Tk hi (Tk hm (by decide))));refine Tu (lS (t:=false) (v:=v) (it:=it) (loc:=L none) (J:=h::g::J) (asg:=asg) (test:=test) (elt:=elt) (N:=N)
  (fun i l s acc=>∃h' g' t' o,s=h'::g'::J/\R acc i/\hP t' h' g'/\t'<=t+2*i/\l=L o) hi (hN _) (fun i l s acc hj I=>?_) (fun l s acc I=>?_) ⟨h,g,t,none,rfl,r0,D,by simp,rfl⟩) fun acc hh=>?_
 .obtain⟨h',g',t',o,rfl,r,D',ht',rfl⟩:=I;obtain⟨x,p,y,l,h2,g2,t2,q1,q2,q3,q4,q5⟩:=st i acc t' h' g' o hj r D' (ar4 [_,_] [_,_] 137573696001 9134391211737731785198040492054309362191462160271568 ht' hj ht hm art);exact⟨⟨hN _,lk (TX hj) r⟩,x,p,y,_,_,q1,q2,h2,g2,t2,l,rfl,q5,q3,ar2 [_] [_,_,_] 262657 43146041814870075361832280900408 q4 ht' art,rfl⟩
 .obtain⟨h',g',t',o,rfl,r,_⟩:=I;exact⟨hN _,lk (TB _) r⟩
 .obtain⟨s,l,⟨h',g',t',o,rfl,r,D',ht',rfl⟩,w⟩:=hh;exact⟨acc,h',g',t',r,D',ar2 [_] [_,_] 524801 47353881429356720785907124432 ht' hm art,w⟩
theorem tR{P:Params}{d:Nat}{E:Expr}{L:Option V->Loc}{J:Hp}{ss:List aA}{m:Nat}{t:Int}{h g:ab}(hm:m<=100)(D:hP t h g)(ht:t<100000)(st:∀(t:Int) h g x o,hP t h g->t<200000->∃(s:aA) (h' g':ab) (t':Int),s∈ss/\hP t' h' g'/\t'<=t+2/\Ae P d E x (L o) (h::g::J) (ao s) (L (some x)) (h'::g'::J)):
 ∃(as:List aA) (h' g':ab) (t':Int),as.length=m/\(∀a∈as,a∈ss)/\hP t' h' g'/\t'<=t+200/\FF P d E (.rng 0 (m:Int)) (L none) (h::g::J) (.lst (as.map ao)) (h'::g'::J):=by
 obtain⟨acc,h',g',t',⟨as,rfl,hl,ha⟩,D',ht',w⟩:=pB (v:=.rng 0 (m:Int)) (it:=.rng 0 (m:Int)) (L:=L) (J:=J) (N:=m) (asg:=aJ P d (coG E).target) (test:=fR P d (coG E).ifs) (elt:=bI P d (coE E)) (fun acc i=>∃as:List aA,acc=as.map ao/\as.length=i/\∀a∈as,a∈ss) (uX (by decide) (b0 (TK (by decide) (TM _)) (Vo (VE.mpr ‹_›) (by decide))))
  (fun s=>by show some ((m:Int)-0).toNat=_;rw[Int.sub_zero,Vc]) hm D ht ⟨[],rfl,rfl,fun a ha=>absurd ha Up⟩ (fun acc i r=>by obtain⟨as,rfl,hl,_⟩:=r;rw[Tn,hl];exact TB _)
  (fun i acc t h g o hi r D ht=>by
   obtain⟨as,rfl,hl,ha⟩:=r;obtain⟨s,h2,g2,t2,hs,D2,ht2,q⟩:=st t h g (.int (0+(i:Int))) o D ht;exact⟨_,true,ao s,_,h2,g2,t2,rfl,q,D2,ht2,as++[s],by rw[TI];rfl,by rw[Tm,hl];rfl,fun a hm=>(TJ.mp hm).elim (ha a) fun z=>Tw.mp z▸hs⟩)
 exact⟨as,h',g',t',hl,ha,D',ht',w⟩
theorem Af{P:Params}{d:Nat}{J:Hp}{m:Nat}{t:Int}{h g:ab}(D:hP t h g)(ht:t<10000)(hm:m<=10)(hc:∀h' g',hP t h' g'->(h'::g'::J).all (cg (h'::g'::J).length)=true):
 ∃(ss:List aA) (h' g':ab) (t':Int),ss.length=m/\(∀s∈ss,s∈bN)/\hP t' h' g'/\t'<=t+1000/\cP P (d+4) "" "_law_drawn" [.ref 1,.int (m:Int)] [] (h::g::J) (.lst (ss.map ao)) (h'::g'::J):=by
 have S:=JY (P:=P) (d:=d+2) (J:=h::g::J) (hc h g D);obtain⟨r,h1,g1,r0,r1,D1,q1⟩:=yq (below:=3) D (TK ‹_› (by decide)) (by decide) (by decide);obtain⟨k,rfl⟩:∃k:Nat,r=k:=⟨r.toNat,(Vk ‹_›).symm⟩;have ek:(2:Int)+(k:Int)=((2+k:Nat):Int):=rfl;obtain⟨as,h2,g2,t2,a1,a2,D2,ht2,C1⟩:=tR (P:=P) (d:=d+3) (E:=d1E P) (L:=d1L (bN.map ao)) (J:=J) (ss:=bN) (m:=2+k) (ar1 [_] [] 512 112667008384935024 r1 art) D1 (ar1 [] [_] 513 3777898131501777885976528184 ht art) (fun t h g x o D ht=>by
  obtain⟨v,h',g',hv,D',q⟩:=NB (xs:=bN.map ao) D (TK ‹_› (by decide)) (by decide) (by decide);obtain⟨s,hs,rfl⟩:=pA hv;exact⟨s,h',g',t+1,hs,D',ar0 [] [_] 1 44827960 art,RY (q (d:=d+1))⟩)
 have hne:0<(as.map ao).length:=by rw[Tn];exact ar1 [_,_] [] 0 585500231178 (TF (Ul a1) :) art
 obtain⟨bs,h3,g3,t3,b1,b2,D3,ht3,C2⟩:=tR (P:=P) (d:=d+3) (E:=d2E P) (L:=d2L (bN.map ao) (as.map ao)) (J:=J) (ss:=bN) (m:=m) (Tk ‹_› (by decide)) D2 (ar2 [] [_,_] 262657 129807591380275248687289800977724671288 ht2 ht art) (fun t h g x o D ht=>by
  obtain⟨r,h1,g1,r0,r1,D1,q1⟩:=yq (below:=4) D (TK ‹_› (by decide)) (by decide) (by decide);by_cases hr:0<r
  .obtain⟨v,h',g',hv,D',q⟩:=NB (xs:=as.map ao) D1 (ar1 [] [_] 513 1208925977861223145560172856632 ht art) hne (by rw[Tn];lia);obtain⟨s,hs,rfl⟩:=pA hv;exact⟨s,h',g',t+1+1,a2 s hs,D',ar0 [] [_] 1 45903807800 art,RZ (q1 (d:=d+2)) (To hr) (q (d:=d+1))⟩
  .obtain⟨v,h',g',hv,D',q⟩:=NB (xs:=bN.map ao) D1 (ar1 [] [_] 513 1208925977861223145560172856632 ht art) (by decide) (by decide);obtain⟨s,hs,rfl⟩:=pA hv;exact⟨s,h',g',t+1+1,hs,D',ar0 [] [_] 1 45903807800 art,Se (q1 (d:=d+2)) (Tz hr) (q (d:=d+1))⟩)
 refine⟨bs,h3,g3,t3,b1,b2,D3,ar2 [] [_,_,_] 262657 2565812469282573466378206615480120 ht3 ht2 art,?_⟩;refine JZ S (q1 (d:=d+2)) (FH (b0 (TK (by decide) (TM _)) (ar1 [_] [] 513 170141183460469231746892899837260375152 r1 art))) (by rw[ek];exact C1) (FH (b0 (TK (by decide) (TM _)) (Vo (VE.mpr ‹_›) (by decide)))) C2
section
variable{P:Params}{d D C K:Nat}{s s1 s2 s3 s4 s5 s6:Hp}{n g e:Str}{c m:Int}{p:Bool}{sv:List V}{o1 o2:Option V}
abbrev dtS(P:Params):Stmt:=db 1 (gu P).body
noncomputable abbrev dtL(sv:List V)(D C K:Nat)(o1 o2:Option V):Loc:=[("sorts",.v (some (.lst sv))),("data",.v (some (.inst "Data" D))),("codes",.v (some (.ref C))),("known",.v (some (.ref K))),("sort",.v o1),("code",.v o2),("Data",.g),("len",.g)]
noncomputable abbrev nw(P:Params)(d:Nat)(x:V)(loc:Loc)(J:Hp)(f:Fl)(l:Loc)(s:Hp):Prop:=eZ (aJ P d (bf (dtS P))) (av P d (bj (dtS P))) x loc J f l s
noncomputable abbrev ic(P:Params)(d D:Nat)(k:Str)(c:Int)(v:V)(s s':Hp):Prop:=cP P d "Data" "put" [.inst "Data" D,.str k,.int c,.int c,v] [] s .none s'
noncomputable abbrev MP(P:Params)(D:Nat)(s:Hp):Prop:=bd (a_T P) s (.inst "Data" D) "put"=some (.fn "Data")
noncomputable abbrev BR(P:Params)(C K:Nat)(s:Hp)(x:V)(c:Int)(s':Hp):Prop:=bd (a_T P) s (.ref C) "append"=some (.bi "list.append")/\af s (.ref K) x=some (.int c)/\aQ s "list.append" (.ref C) [.int c]=some (.none,s')
theorem Og{cv:V}(N:bA s .NotIn (bv n g e p cv) (.ref K)=some false)(A:BR P C K s (bv n g e p cv) c s1):
 nw P d (bv n g e p cv) (dtL sv D C K o1 o2) s .next (dtL sv D C K (some (bv n g e p cv)) o2) s1:=by
 obtain⟨a1,a2,a3⟩:=A;intro k hk;exact aw (zT N (z2 (zQ (zR (zK a1 (zV a2 (zP a3 (z0 hk)))))))) (by rfl')
theorem Sf(N:bA s .NotIn (bv n g e p .none) (.ref K)=some true)(L:biI true "len" [.ref K] s=some (.int m,s))(S:eo s (.ref K) (bv n g e p .none) (.int (4096+m))=some s1)(m1:MP P D s1)(p1:ic P d D "lb" (4096+m) (.str n) s1 s2)(m2:MP P D s2)(p2:ic P d D "gc" (4096+m) (.str g) s2 s3)(q1:(e=="N")=true)(q2:p=false)(A:BR P C K s3 (bv n g e p .none) (4096+m) s4):
 nw P d (bv n g e p .none) (dtL sv D C K o1 o2) s .next (dtL sv D C K (some (bv n g e p .none)) (some (.int (4096+m)))) s4:=by
 obtain⟨a1,a2,a3⟩:=A;subst q2;unfold MP at m1 m2;unfold ic at p1 p2;intro k hk;exact aw (zT N (z1 (zR (zC (zC (z2 (zR (zP L (zC (zR (zS S (zQ (zR (zK m1 (zC (zD p1 (zQ (zR (zK m2 (zC (zD p2 (zC (zC (zH (nT q1) (zC (z2 (zQ (zR (zK a1 (zV a2 (zP a3 (z0 hk)))))))))))))))))))))))))))))))) (by rfl')
theorem Sg(N:bA s .NotIn (bv n g e p .none) (.ref K)=some true)(L:biI true "len" [.ref K] s=some (.int m,s))(S:eo s (.ref K) (bv n g e p .none) (.int (4096+m))=some s1)(m1:MP P D s1)(p1:ic P d D "lb" (4096+m) (.str n) s1 s2)(m2:MP P D s2)(p2:ic P d D "gc" (4096+m) (.str g) s2 s3)(q1:(e=="N")=false)(m3:MP P D s3)(p3:ic P d D "ea" (4096+m) (.str e) s3 s4)(q2:p=false)(A:BR P C K s4 (bv n g e p .none) (4096+m) s5):
 nw P d (bv n g e p .none) (dtL sv D C K o1 o2) s .next (dtL sv D C K (some (bv n g e p .none)) (some (.int (4096+m)))) s5:=by
 obtain⟨a1,a2,a3⟩:=A;subst q2;unfold MP at m1 m2;unfold MP at m3;unfold ic at p1 p2;unfold ic at p3;intro k hk;exact aw (zT N (z1 (zR (zC (zC (z2 (zR (zP L (zC (zR (zS S (zQ (zR (zK m1 (zC (zD p1 (zQ (zR (zK m2 (zC (zD p2 (zC (zC (zH (nF q1) (zQ (zR (zK m3 (zC (zD p3 (zC (z2 (zQ (zR (zK a1 (zV a2 (zP a3 (z0 hk))))))))))))))))))))))))))))))))))))) (by rfl')
theorem Sh(N:bA s .NotIn (bv n g e p .none) (.ref K)=some true)(L:biI true "len" [.ref K] s=some (.int m,s))(S:eo s (.ref K) (bv n g e p .none) (.int (4096+m))=some s1)(m1:MP P D s1)(p1:ic P d D "lb" (4096+m) (.str n) s1 s2)(m2:MP P D s2)(p2:ic P d D "gc" (4096+m) (.str g) s2 s3)(q1:(e=="N")=true)(q2:p=true)(m3:MP P D s3)(p3:ic P d D "ep" (4096+m) (.bool true) s3 s4)(A:BR P C K s4 (bv n g e p .none) (4096+m) s5):
 nw P d (bv n g e p .none) (dtL sv D C K o1 o2) s .next (dtL sv D C K (some (bv n g e p .none)) (some (.int (4096+m)))) s5:=by
 obtain⟨a1,a2,a3⟩:=A;subst q2;unfold MP at m1 m2;unfold MP at m3;unfold ic at p1 p2;unfold ic at p3;intro k hk;exact aw (zT N (z1 (zR (zC (zC (z2 (zR (zP L (zC (zR (zS S (zQ (zR (zK m1 (zC (zD p1 (zQ (zR (zK m2 (zC (zD p2 (zC (zC (zH (nT q1) (zC (z1 (zQ (zR (zK m3 (zD p3 (zQ (zR (zK a1 (zV a2 (zP a3 (z0 hk)))))))))))))))))))))))))))))))))))) (by rfl')
theorem Si(N:bA s .NotIn (bv n g e p (.int c)) (.ref K)=some true)(S:eo s (.ref K) (bv n g e p (.int c)) (.int c)=some s1)(m1:MP P D s1)(p1:ic P d D "lb" c (.str n) s1 s2)(m2:MP P D s2)(p2:ic P d D "gc" c (.str g) s2 s3)(q1:(e=="N")=true)(q2:p=false)(A:BR P C K s3 (bv n g e p (.int c)) c s4):
 nw P d (bv n g e p (.int c)) (dtL sv D C K o1 o2) s .next (dtL sv D C K (some (bv n g e p (.int c))) (some (.int c))) s4:=by
 obtain⟨a1,a2,a3⟩:=A;subst q2;unfold MP at m1 m2;unfold ic at p1 p2;intro k hk;exact aw (zT N (z1 (zR (zC (zC (z1 (zC (zR (zS S (zQ (zR (zK m1 (zC (zD p1 (zQ (zR (zK m2 (zC (zD p2 (zC (zC (zH (nT q1) (zC (z2 (zQ (zR (zK a1 (zV a2 (zP a3 (z0 hk)))))))))))))))))))))))))))))) (by rfl')
noncomputable abbrev FI(P:Params)(d:Nat)(it:It)(loc:Loc)(J:Hp)(l:Loc)(s:Hp):Prop:=eW (aJ P d (bf (dtS P))) (av P d (bj (dtS P))) (bf (dtS P)) it loc J .next l s
theorem Oh(I:cP P d "Data" "__init__" [.inst "Data" s.length] [] (s++[.dict []]) .none s1)(L:FI P d (.seq (.lst sv)) (dtL sv s.length s1.length (s1++[ab.list []]).length none none) (s1++[ab.list []]++[ab.dict []]) (dtL sv s.length s1.length (s1++[ab.list []]).length o1 o2) s2):
 cP P (d+1) "" "_law_data" [.lst sv] [] s (.tup [.inst "Data" s.length,.ref s1.length]) s2:=by
 exact ag (gu P) ([V.lst sv]) (fun z=>(zN I (zA (And.intro (rfl:0=0) (by decide:0<=15)) (zL L (z0 z).R).C.R).R).R.R)
end
noncomputable def kS(s:aA):List AK:=[some (.inr s.n),some (.inr s.g),some (.inr s.e),some (.inl (if s.p then 1 else 0)),match s.c with|none=>none|some i=>some (.inl i)]
theorem w7(s:aA):mL (ao s)=some (kS s):=by obtain⟨n,g,e,p,c⟩:=s;cases c<;>rfl
theorem Oi{s t:aA}(h:kS s=kS t):s=t:=by
 obtain⟨n,g,e,p,c⟩:=s;obtain⟨n',g',e',p',c'⟩:=t;unfold kS at h;simp only[List.cons.injEq,Wh,Sum.inr.injEq,Sum.inl.injEq,and_true]at h;obtain⟨rfl,rfl,rfl,h4,h5⟩:=h;have hp:p=p':=by cases p<;>cases p' <;> first|rfl | (simp at h4;done)
 have hc:c=c':=by cases c<;>cases c' <;> simp_all
 rw[hp,hc]
noncomputable abbrev KN:=List (aA×Int)
noncomputable def cy(s:aA):KN->Option Int
 |[]=>none
 |p::r=>if kS p.1=kS s then some p.2 else cy s r
theorem jW{s:aA}{p:aA×Int}{r:KN}:cy s (p::r)=if kS p.1=kS s then some p.2 else cy s r:=rfl
theorem FJ{α β:Type}{f:α->Option β}{g:Option β}:els none f g=g:=rfl
theorem Ag{α β:Type}{a:α}{f:α->Option β}{g:Option β}:els (some a) f g=f a:=rfl
abbrev knV(kn:KN):List (V×V):=kn.map fun p=>(ao p.1,V.int p.2)
def knC(kn:KN):ab:=match kn with
 |[]=>.dict []
 |p::r=>.tdict (knV (p::r))
theorem u7{β:Type}{J:Hp}{K:Nat}{kn:KN}{f:Nat->List (V×V)->Option β}(h:J[K]?=some (knC kn)):sF J (.ref K) f=f K (knV kn):=by show Lc J[K]? (f K)=_;rw[h];cases kn<;>rfl
theorem u8{s:aA}:∀kn:KN,kz (kS s) (knV kn)=(cy s kn).map V.int
 |[]=>rfl
 |p::r=>by
  show(if mL (ao p.1)=some (kS s)then some (V.int p.2)else kz (kS s) (knV r))=_;rw[w7,u8 r,jW];by_cases q:kS p.1=kS s
  .rw[if_pos (Tx some q),if_pos q];rfl
  .rw[if_neg (fun e=>q (Tp e)),if_neg q]
theorem FK{s:aA}{c:Int}:∀kn:KN,cy s kn=none->xm (kS s) (ao s) (.int c) (knV kn)=knV (kn++[(s,c)])
 |[],_=>rfl
 |p::r,h=>by
  rw[jW]at h;by_cases q:kS p.1=kS s
  .rw[if_pos q]at h;exact nomatch h
  .rw[if_neg q]at h;show(if mL (ao p.1)=some (kS s)then _ else(ao p.1,V.int p.2)::xm (kS s) (ao s) (.int c) (knV r))=_;rw[w7,if_neg (fun e=>q (Tp e)),FK r h];rfl
theorem lG{s t:aA}{c:Int}:∀kn:KN,cy s (kn++[(t,c)])=(cy s kn).or (if kS t=kS s then some c else none)
 |[]=>by unfold cy;rfl
 |p::r=>by
  show(if kS p.1=kS s then some p.2 else cy s (r++[(t,c)]))=_;rw[lG r,jW];by_cases q:kS p.1=kS s
  .rw[if_pos q,if_pos q];rfl
  .rw[if_neg q,if_neg q]
section
variable{J:Hp}{K:Nat}{kn:KN}{s:aA}{c:Int}
theorem ny(h:J[K]?=some (knC kn)):bF J (.ref K)=none:=by show dJ J[K]? _ _=_;rw[h];cases kn<;>rfl
theorem K0(h:J[K]?=some (knC kn)):bA J .NotIn (ao s) (.ref K)=some (!(cy s kn).isSome):=by show(els (bF J (.ref K)) _ (els (mL (ao s)) (fun k=>sF J (.ref K) fun _ es=>some (kz k es).isSome) _)).map _=_;rw[ny h,w7,FJ,Ag,u7 h,u8,Option.isSome_map];rfl
theorem K1(h:J[K]?=some (knC kn))(hk:cy s kn=some c):af J (.ref K) (ao s)=some (.int c):=by show els (bF J (.ref K)) _ (els (mL (ao s)) (fun k=>sF J (.ref K) fun _ es=>kz k es) _)=_;rw[ny h,w7,FJ,Ag,u7 h,u8,hk];rfl
theorem Oj{t:Bool}(h:J[K]?=some (knC kn))(hl:kn.length<1000):biI t "len" [.ref K] J=some (.int kn.length,J):=by show els (bF J (.ref K)) _ (sF J (.ref K) _)=_;rw[ny h,FJ,u7 h,if_pos (To (by rw[Tn];exact hl)),Tn]
theorem Qm(h:J[K]?=some (knC kn))(hl:kn.length<900)(hk:cy s kn=none):eo J (.ref K) (ao s) (.int c)=some (J.set K (knC (kn++[(s,c)]))):=by show els (mL (ao s)) (fun k=>sF J (.ref K) fun n es=>if decide (es.length<900)then some (J.set n (.tdict (xm k (ao s) (.int c) es)))else none) _=_;rw[w7,Ag,u7 h,if_pos (To (by rw[Tn];exact hl)),FK kn hk];cases kn<;>rfl
end
theorem dK:∀s∈bN,(s.c=none/\(((s.e=="N")=true/\s.p=false)\/((s.e=="N")=false/\s.p=false)\/((s.e=="N")=true/\s.p=true)))\/(((s.c=some 9676/\s=xS "AL" "So" "N" false (some 9676))\/(s.c=some 12293/\s=xS "NS" "Lm" "N" false (some 12293)))/\(s.e=="N")=true/\s.p=false):=by
 intro s hs;unfold bN at hs;rcases TJ.mp hs with hs|hs
 .obtain⟨x,_,rfl⟩:=Uw.mp hs;exact .inl ⟨rfl,.inl ⟨rfl,rfl⟩⟩
 . unfold Ad at hs;simp only[TS,Up,or_false]at hs;rcases hs with rfl|rfl|rfl|rfl|rfl|rfl|rfl|rfl|rfl|rfl|rfl|rfl
   .exact .inl ⟨rfl,.inl ⟨rfl,rfl⟩⟩
   .exact .inl ⟨rfl,.inl ⟨rfl,rfl⟩⟩
   .exact .inl ⟨rfl,.inl ⟨rfl,rfl⟩⟩
   .exact .inl ⟨rfl,.inr (.inl ⟨rfl,rfl⟩)⟩
   .exact .inl ⟨rfl,.inr (.inl ⟨rfl,rfl⟩)⟩
   .exact .inl ⟨rfl,.inr (.inl ⟨rfl,rfl⟩)⟩
   .exact .inl ⟨rfl,.inl ⟨rfl,rfl⟩⟩
   .exact .inl ⟨rfl,.inl ⟨rfl,rfl⟩⟩
   .exact .inl ⟨rfl,.inr (.inr ⟨rfl,rfl⟩)⟩
   .exact .inr ⟨.inl ⟨rfl,rfl⟩,rfl,rfl⟩
   .exact .inr ⟨.inr ⟨rfl,rfl⟩,rfl,rfl⟩
   .exact .inl ⟨rfl,.inr (.inr ⟨rfl,rfl⟩)⟩
noncomputable def bO(kn:KN)(s:aA):Int:=match s.c with
 |some x=>x
 |none=>4096+(kn.length:Int)
structure DSt(J:Hp)(D:Nat)(kn:KN)(f:Str->Int->V)(m:Nat):Prop where
 A:ef J D (D+7) f m
 known:J[D+6]?=some (knC kn)
 ml:m<=3*kn.length
 kl:kn.length<=10
 fk:∀p∈kn,f "lb" p.2=.str p.1.n/\f "gc" p.2=.str p.1.g/\f "ea" p.2=.str p.1.e/\f "ep" p.2=.bool p.1.p
 fn:∀c,(∀p∈kn,p.2≠c)->∀k,f k c=BM k
 rg:∀p∈kn,p.1∈bN/\(p.1.c=some p.2\/(p.1.c=none/\4096<=p.2/\p.2<4096+(kn.length:Int)))
 lk:∀p∈kn,cy p.1 kn=some p.2
 cl:J.all (cg J.length)=true
theorem oz{s:aA}{c:Int}:∀{kn:KN},cy s kn=some c->(s,c)∈kn
 |[],h=>nomatch h
 |p::r,h=>by
  rw[jW]at h;by_cases q:kS p.1=kS s
  . rw[if_pos q]at h;have:p=(s,c):=by rw[<-Oi q,<-Tp h]
    rw[this];exact UG
  .rw[if_neg q]at h;exact Va _ (oz h)
theorem u9{kn:KN}{s:aA}(hs:s∈bN)(hl:kn.length<=10):s.c=some (bO kn s)/\(bO kn s=9676\/bO kn s=12293)\/s.c=none/\bO kn s=4096+(kn.length:Int):=by
 unfold bO;rcases dK s hs with⟨h,_⟩|⟨h|h,_⟩
 .rw[h];exact .inr ⟨rfl,rfl⟩
 .rw[h.1];exact .inl ⟨rfl,.inl rfl⟩
 .rw[h.1];exact .inl ⟨rfl,.inr rfl⟩
theorem fresh{J:Hp}{D m:Nat}{kn:KN}{f:Str->Int->V}{s:aA}(S:DSt J D kn f m)(hs:s∈bN)(hn:cy s kn=none):∀p∈kn,p.2≠bO kn s:=by
 intro p hp e;have hl:=S.kl;obtain⟨h1,h2⟩:=S.rg p hp;rcases u9 (kn:=kn) hs hl with⟨c1,c2⟩|⟨c1,c2⟩
 . rcases h2 with h2|⟨h2,h3,h4⟩
   . have:p.1=s:=by
      rw[<-e]at c1;rcases dK s hs with⟨z,_⟩|⟨z|z,_⟩
      .rw[z]at c1;exact nomatch c1
      . rcases dK p.1 h1 with⟨y,_⟩|⟨y|y,_⟩
        .rw[y]at h2;exact nomatch h2
        .rw[y.2,z.2]
        .exact absurd (Tp (z.1.symm.trans (c1.trans (h2.symm.trans y.1)))) (by decide)
      . rcases dK p.1 h1 with⟨y,_⟩|⟨y|y,_⟩
        .rw[y]at h2;exact nomatch h2
        .exact absurd (Tp (z.1.symm.trans (c1.trans (h2.symm.trans y.1)))) (by decide)
        .rw[y.2,z.2]
     have:=S.lk p hp;rw[‹p.1=s›,hn]at this;exact nomatch this
   .rw[e]at h3 h4;lia
 . rcases h2 with h2|⟨h2,h3,h4⟩
   . rcases dK p.1 h1 with⟨y,_⟩|⟨y|y,_⟩
     .rw[y]at h2;exact nomatch h2
     .have:=Tp (y.1.symm.trans h2);exact Wu 0 (ar4 [_] [_,_] 134480384 10781742680943178841875652337272016 (Uk this :) (Uk e :) (Uk c2 :) hl art)
     .have:=Tp (y.1.symm.trans h2);exact Wu 0 (ar4 [_] [_,_] 134480384 10781843921227016649381258931274960 (Uk this :) (Uk e :) (Uk c2 :) hl art)
   .exact Wu 0 (ar3 [_] [_,_] 134480384 345005193812745838721883819581048120 (Uk (Ul c2) :) (Uk (Ul e) :) h4 art)
theorem ve{f:Str->Int->V}{k k':Str}{c x:Int}{v:V}(h:x≠c):upd f k c v k' x=f k' x:=by
 unfold upd;by_cases q:k'=k
 .rw[if_pos q,if_neg (by lia),q]
 .rw[if_neg q]
theorem vg{f:Str->Int->V}{k:Str}{c:Int}{v:V}:upd f k c v k c=v:=by unfold upd;rw[if_pos rfl,if_pos (by exact⟨ar0 [] [_] 1 792 art,ar0 [] [_] 1 792 art⟩)]
theorem lH{f:Str->Int->V}{k k':Str}{c x:Int}{v:V}(h:k'≠k):upd f k c v k' x=f k' x:=by unfold upd;rw[if_neg h]
theorem yO{n:Nat}{s:aA}:fG n (ao s)=true:=by obtain⟨a,b,c,p,o⟩:=s;cases o<;>rfl
theorem FL{n:Nat}{kn:KN}:cg n (knC kn)=true:=by
 cases kn with|nil=>rfl|cons p r=>
  show(refsL n ((knV (p::r)).map (·.1))&&refsL n ((knV (p::r)).map (·.2)))=true;rw[gD fun v hv=>?_,gD fun v hv=>?_]
  .rfl
  .obtain⟨q,hq,rfl⟩:=Uw.mp hv;obtain⟨t,_,rfl⟩:=Uw.mp hq;rfl
  .obtain⟨q,hq,rfl⟩:=Uw.mp hv;obtain⟨t,_,rfl⟩:=Uw.mp hq;exact yO
theorem w8{n:Nat}{cs:List Int}:cg n (.list (ivs cs))=true:=gD fun v hv=>by obtain⟨i,_,rfl⟩:=Uw.mp hv;rfl
section
variable{P:Params}{d D m m':Nat}{J σk:Hp}{kn:KN}{f f':Str->Int->V}{s:aA}{cs:List Int}{c:Int}{k:Str}{v dv:V}{sv:List V}{o1 o2:Option V}
theorem J0(A:ef J D (D+7) f m)(hn:m<=39)(hd:dfl.lookup k=some dv)(hp:fj dv=true)(h1:1<=c)(hm:c<1114110)(hv:fj v=true)(hcl:J.all (cg J.length)=true):
 ∃J',MP P D J/\ic P (d+3) D k c v J J'/\ef J' D (D+7) (upd f k c v) (m+1)/\J'.all (cg J'.length)=true/\(∀i,i<D+7->i≠D+2->J'[i]?=J[i]?):=by
 obtain⟨J',h1,h2,h3,h4,h5⟩:=RA (P:=P) (d:=d) A hn hd hp h1 hm hv hcl;exact⟨J',dZ (dtC P) A.c0 (by rfl') (by rfl') (by rfl'),h1,h2,h3,h5⟩
abbrev knN(kn:KN)(s:aA):KN:=kn++[(s,bO kn s)]
theorem J6(S:DSt J D kn f m)(hs:s∈bN)(hn:cy s kn=none)(hkl:kn.length<=8)(hco:J[D+5]?=some (.list (ivs cs)))(hcs:cs.length<=50)(Ak:ef σk D (D+7) f' m')(h1:∀k x,x≠bO kn s->f' k x=f k x)(h2:f' "lb" (bO kn s)=.str s.n/\f' "gc" (bO kn s)=.str s.g/\f' "ea" (bO kn s)=.str s.e/\f' "ep" (bO kn s)=.bool s.p)(hm:m'<=m+3)(fr:∀i,i<D+7->i≠D+2->σk[i]?=(J.set (D+6) (knC (knN kn s)))[i]?)(cl:σk.all (cg σk.length)=true):
 ∃J',BR P (D+5) (D+6) σk (ao s) (bO kn s) J'/\DSt J' D (knN kn s) f' m'/\J'[D+5]?=some (.list (ivs (cs++[bO kn s])))/\(∀i,i<D->J'[i]?=J[i]?):=by
 have c5:σk[D+5]?=some (.list (ivs cs)):=by rw[fr _ (UR (by decide) _) (by exact Vb (ar0 [_] [] 0 48856597840 art)),bZ (by exact Vb (ar0 [_] [] 0 49930339760 art))];exact hco
 have c6:σk[D+6]?=some (knC (knN kn s)):=by rw[fr _ (UR (by decide) _) (by exact Vb (ar0 [_] [] 0 49930339664 art))];exact dg S.known
 have lk:cy s (knN kn s)=some (bO kn s):=by rw[lG,hn,if_pos rfl];rfl
 have hl:ivs (cs++[bO kn s])=ivs cs++[.int (bO kn s)]:=by unfold ivs;rw[TI];rfl
 refine⟨σk.set (D+5) (.list (ivs (cs++[bO kn s]))),⟨aM c5,K1 c6 lk,?_⟩,⟨Ak.keep (by rw[Ut];have:=Ak.ML;omega) fun i a b _=>bZ (by lia),by rw[bZ (by exact Ux (ar0 [_] [] 0 49930339760 art))];exact c6,?_,?_,?_,?_,?_,?_,?_⟩,dg c5,fun i hi=>?_⟩
 .rw[dz c5 (ar (by rw[aK];exact Tk ‹_› (by decide))),hl]
 .have:=S.ml;rw[Tm];show m'<=3*(kn.length+1);exact ar2 [_,_,_] [] 0 114703351606116139177520 hm this art
 .rw[Tm];show kn.length+1<=10;exact Tk (UD ‹_› _) (by decide)
 . intro p hp;rcases TJ.mp hp with hp|hp
   .have ne:=fresh S hs hn p hp;rw[h1 _ _ ne,h1 _ _ ne,h1 _ _ ne,h1 _ _ ne];exact S.fk p hp
   .rw[Tw.mp hp];exact h2
 .intro x hx k;rw[h1 k x fun e=>hx _ (UT _ (Tw.mpr rfl)) e.symm];exact S.fn x (fun p hp=>hx p (Uu _ hp)) k
 . intro p hp;have hlen:((knN kn s).length:Int)=(kn.length:Int)+1:=by rw[Tm];rfl
   rw[hlen];rcases TJ.mp hp with hp|hp
   .obtain⟨a,b⟩:=S.rg p hp;exact⟨a,b.imp id fun⟨x,y,z⟩=>⟨x,y,ar1 [_] [_] 513 43205974184759482428469159237190968 z art⟩⟩
   . rw[Tw.mp hp];refine⟨hs,?_⟩;rcases u9 (kn:=kn) hs (Tk ‹_› (by decide))with⟨a,_⟩|⟨a,b⟩
     .exact .inl a
     .exact .inr ⟨a,by show 4096<=bO kn s;exact ar1 [_] [_] 513 28481776465039901851750 (Uk (Ul b) :) art,by show bO kn s<_;exact ar1 [_] [_] 513 42193334164804182059051913317592 (Uk b :) art⟩
 . intro p hp;rcases TJ.mp hp with hp|hp
   .rw[lG,S.lk p hp];rfl
   .rw[Tw.mp hp];exact lk
 .rw[Ut];exact jR cl w8
 .rw[bZ (Vb (TG ‹_› (Uh _ _))),fr _ (Nat.lt_add_right _ ‹_›) (Ux (TG ‹_› (Uh _ _))),bZ (Vb (TG ‹_› (Uh _ _)))]
theorem FM(S:DSt J D kn f m)(hco:J[D+5]?=some (.list (ivs cs)))(hcs:cs.length<=50)(hk:cy s kn=some c):
 ∃J',nw P d (ao s) (dtL sv D (D+5) (D+6) o1 o2) J .next (dtL sv D (D+5) (D+6) (some (ao s)) o2) J'/\DSt J' D kn f m/\J'[D+5]?=some (.list (ivs (cs++[c])))/\(∀i,i<D->J'[i]?=J[i]?):=by
 have hl:ivs (cs++[c])=ivs cs++[.int c]:=by unfold ivs;rw[TI];rfl
 have N:bA J .NotIn (ao s) (.ref (D+6))=some false:=by rw[K0 S.known,hk];rfl
 refine⟨J.set (D+5) (.list (ivs (cs++[c]))),Og N ⟨aM hco,K1 S.known hk,?_⟩,⟨S.A.keep (by rw[Ut];have:=S.A.ML;omega) fun i a b _=>bZ (by lia),by rw[bZ (by exact Ux (ar0 [_] [] 0 49930339760 art))];exact S.known,S.ml,S.kl,S.fk,S.fn,S.rg,S.lk,by rw[Ut];exact jR S.cl w8⟩,dg hco,fun i hi=>bZ (Vb (TG ‹_› (Uh _ _)))⟩;rw[dz hco (ar (by rw[aK];exact Tk ‹_› (by decide))),hl]
structure Qn(J:Hp)(D:Nat)(kn:KN)(s:aA)(c:Int)(f f3:Str->Int->V)(m:Nat)(J3:Hp):Prop where
 A:ef J3 D (D+7) f3 (m+1+1)
 cl:J3.all (cg J3.length)=true
 fr:∀i,i<D+7->i≠D+2->J3[i]?=(J.set (D+6) (knC (knN kn s)))[i]?
 un:∀k x,x≠c->f3 k x=f k x
 v1:f3 "lb" c=.str s.n
 v2:f3 "gc" c=.str s.g
 v3:f3 "ea" c=.str "N"
 v4:f3 "ep" c=.bool false
inductive Qo(P:Params)(d:Nat)(J:Hp)(D:Nat)(kn:KN)(s:aA)(c:Int)(f:Str->Int->V)(m:Nat)(J1:Hp):Prop
 |mk (J2 J3:Hp) (f3:Str->Int->V) (m1:MP P D J1) (p1:ic P (d+3) D "lb" c (.str s.n) J1 J2) (m2:MP P D J2) (p2:ic P (d+3) D "gc" c (.str s.g) J2 J3) (ρ:Qn J D kn s c f f3 m J3)
theorem K2(hs:s∈bN)(hkl:kn.length<=8):1<=bO kn s/\bO kn s<1114110:=by rcases u9 (kn:=kn) hs (Tk ‹_› (by decide))with⟨_,a|a⟩|⟨_,a⟩<;>lia
theorem Ok(S:DSt J D kn f m)(hs:s∈bN)(hn:cy s kn=none)(hkl:kn.length<=8):Qo P d J D kn s (bO kn s) f m (J.set (D+6) (knC (knN kn s))):=by
 have ML:=S.A.ML;have ml:=S.ml;have fr0:=fresh S hs hn;have cr:=K2 hs hkl;have A1:ef (J.set (D+6) (knC (knN kn s))) D (D+7) f m:=S.A.keep (by rw[Ut];omega) fun i a b _=>bZ (by lia);have cl1:(J.set (D+6) (knC (knN kn s))).all (cg (J.set (D+6) (knC (knN kn s))).length)=true:=by rw[Ut];exact jR S.cl FL
 have d1:=S.fn (bO kn s) fr0 "ea";have d2:=S.fn (bO kn s) fr0 "ep";have e1:BM "ea"=.str "N":=by rfl'
 have e2:BM "ep"=.bool false:=by rfl'
 rw[e1]at d1;rw[e2]at d2;generalize bO kn s=c at *;obtain⟨J2,m1,p1,A2,cl2,fr2⟩:=J0 (P:=P) (d:=d) (k:="lb") (dv:=.str "XX") (v:=.str s.n) A1 (ar2 [_,_] [] 1048576 45043353146289816784 ml hkl art) (by rfl') rfl cr.1 cr.2 rfl cl1;obtain⟨J3,m2,p2,A3,cl3,fr3⟩:=J0 (P:=P) (d:=d) (k:="gc") (dv:=.str "Cn") (v:=.str s.g) A2 (ar2 [_,_] [] 1048576 46123824476670844470480 ml hkl art) (by rfl') rfl cr.1 cr.2 rfl cl2;exact⟨J2,J3,_,m1,p1,m2,p2,A3,cl3,fun i a b=>(fr3 i a b).trans (fr2 i a b),fun k x hx=>by rw[ve hx,ve hx],by rw[lH (by decide),vg],vg,by rw[lH (by decide),lH (by decide),d1],by rw[lH (by decide),lH (by decide),d2]⟩
theorem FN(S:DSt J D kn f m)(hs:s∈bN)(hn:cy s kn=none)(hkl:kn.length<=8)(hco:J[D+5]?=some (.list (ivs cs)))(hcs:cs.length<=50):
 ∃J' o2' f' m',nw P (d+3) (ao s) (dtL sv D (D+5) (D+6) o1 o2) J .next (dtL sv D (D+5) (D+6) (some (ao s)) o2') J'/\DSt J' D (knN kn s) f' m'/\J'[D+5]?=some (.list (ivs (cs++[bO kn s])))/\(∀i,i<D->J'[i]?=J[i]?):=by
 have ml:=S.ml;have cr:=K2 hs hkl;have N:bA J .NotIn (ao s) (.ref (D+6))=some true:=by rw[K0 S.known,hn];rfl
 have st:=Qm (c:=bO kn s) S.known (Ts ‹_› (by decide)) hn;have ln:=fun t=>Oj (t:=t) S.known (Ts ‹_› (by decide));obtain⟨J2,J3,f3,m1,p1,m2,p2,ρ⟩:=Ok (P:=P) (d:=d) S hs hn hkl;have hq:=dK s hs;have fin:=fun{f' m' σk}=>J6 (P:=P) (f':=f') (m':=m') (σk:=σk) S hs hn hkl hco hcs;obtain⟨sn,sg,se,sp,sc⟩:=s;rcases hq with⟨hc,h|h|h⟩|⟨hc,h⟩
 .cases(show sc=none from hc);obtain⟨J',CF,DS,co,lo⟩:=fin ρ.A ρ.un ⟨ρ.v1,ρ.v2,by rw[ρ.v3,Ub.mp h.1],by rw[ρ.v4];exact Tx V.bool h.2.symm⟩ (Vm _) ρ.fr ρ.cl;exact⟨J',_,_,_,Sf (m:=(kn.length:Int)) N (ln _) st m1 p1 m2 p2 h.1 h.2 CF,DS,co,lo⟩
 .cases(show sc=none from hc);obtain⟨J4,m3,p3,A4,cl4,fr4⟩:=J0 (P:=P) (d:=d) (k:="ea") (dv:=.str "N") (v:=.str se) ρ.A (ar2 [_,_] [] 1048576 47230795694965814809855184 ml hkl art) (by rfl') rfl cr.1 cr.2 rfl ρ.cl;obtain⟨J',CF,DS,co,lo⟩:=fin A4 (fun k x hx=>by rw[ve hx,ρ.un k x hx]) ⟨by rw[lH (by decide),ρ.v1],by rw[lH (by decide),ρ.v2],vg,by rw[lH (by decide),ρ.v4];exact Tx V.bool h.2.symm⟩ (TB _) (fun i a b=>(fr4 i a b).trans (ρ.fr i a b)) cl4;exact⟨J',_,_,_,Sg (m:=(kn.length:Int)) N (ln _) st m1 p1 m2 p2 h.1 m3 p3 h.2 CF,DS,co,lo⟩
 .cases(show sc=none from hc);obtain⟨J4,m3,p3,A4,cl4,fr4⟩:=J0 (P:=P) (d:=d) (k:="ep") (dv:=.bool false) (v:=.bool true) ρ.A (ar2 [_,_] [] 1048576 47230795694965814809855184 ml hkl art) (by rfl') rfl cr.1 cr.2 rfl ρ.cl;obtain⟨J',CF,DS,co,lo⟩:=fin A4 (fun k x hx=>by rw[ve hx,ρ.un k x hx]) ⟨by rw[lH (by decide),ρ.v1],by rw[lH (by decide),ρ.v2],by rw[lH (by decide),ρ.v3,Ub.mp h.1],by rw[vg];exact Tx V.bool h.2.symm⟩ (TB _) (fun i a b=>(fr4 i a b).trans (ρ.fr i a b)) cl4;exact⟨J',_,_,_,Sh (m:=(kn.length:Int)) N (ln _) st m1 p1 m2 p2 h.1 h.2 m3 p3 CF,DS,co,lo⟩
 .obtain⟨x,hx⟩:∃x,sc=some x:=hc.elim (fun a=>⟨_,a.1⟩) (fun a=>⟨_,a.1⟩);cases hx;obtain⟨J',CF,DS,co,lo⟩:=fin ρ.A ρ.un ⟨ρ.v1,ρ.v2,by rw[ρ.v3,Ub.mp h.1],by rw[ρ.v4];exact Tx V.bool h.2.symm⟩ (Vm _) ρ.fr ρ.cl;exact⟨J',_,_,_,Si (c:=x) N st m1 p1 m2 p2 h.1 h.2 CF,DS,co,lo⟩
end
def e8(kn:KN)(s:aA):Int:=(cy s kn).getD 0
section
variable{P:Params}{d D:Nat}{J:Hp}{ss:List aA}
inductive DtI(D:Nat)(ss:List aA)(s0:Hp)(i:Nat)(l:Loc)(s:Hp):Prop
 |mk (kn:KN) (f:Str->Int->V) (m:Nat) (o1 o2:Option V) (S:DSt s D kn f m) (co:s[D+5]?=some (.list (ivs ((ss.take i).map (e8 kn))))) (hk:kn.length<=i) (lk:∀t∈ss.take i,cy t kn=some (e8 kn t)) (lo:∀i,i<D->s[i]?=s0[i]?) (e:l=dtL (ss.map ao) D (D+5) (D+6) o1 o2)
theorem BS{s0:Hp}{f0:Str->Int->V}(S0:DSt s0 D [] f0 0)(h5:s0[D+5]?=some (.list []))(hss:∀s∈ss,s∈bN)(hl:ss.length<=8):
 ∃J' kn f m o1 o2,FI P (d+3) (.seq (.lst (ss.map ao))) (dtL (ss.map ao) D (D+5) (D+6) none none) s0 (dtL (ss.map ao) D (D+5) (D+6) o1 o2) J'/\DSt J' D kn f m/\J'[D+5]?=some (.list (ivs (ss.map (e8 kn))))/\(∀s∈ss,cy s kn=some (e8 kn s))/\(∀i,i<D->J'[i]?=s0[i]?):=by
 have hN:∀s,bD s (.seq (.lst (ss.map ao)))=some ss.length:=fun s=>by show some (ss.map ao).length=_;rw[Tn]
 refine Tu (dA (N:=ss.length) (it:=.seq (.lst (ss.map ao))) (loc:=dtL (ss.map ao) D (D+5) (D+6) none none) (J:=s0) (tg:=bf (dtS P)) (asg:=aJ P (d+3) (bf (dtS P))) (body:=av P (d+3) (bj (dtS P)))
  (DtI D ss s0) (fun i l s hi I=>?_) (fun l s I=>hN _) (hN _) (by rfl') ⟨[],f0,0,none,none,S0,h5,TB _,fun t ht=>absurd ht (by rw[WO];exact Up),fun _ _=>rfl,rfl⟩) fun l hh=>?_
 . obtain⟨kn,f,m,o1,o2,S,hco,hkn,hlk,hlo,rfl⟩:=I;have hcs:((ss.take i).map (e8 kn)).length<=50:=by rw[Tn,TY];exact Tk (Uq _ _) (Tk ‹_› (by decide))
   have hg:fD s i (.seq (.lst (ss.map ao)))=some (ao ss[i]):=by show(some (ss.map ao)).bind (·[i]?)=_;rw[Ue,Ty,Tq hi];rfl
   have ht:ss.take (i+1)=ss.take i++[ss[i]]:=by rw[Un,Tq hi];rfl
   cases q:cy ss[i] kn with
   |some c=>
    obtain⟨J',st,S',co,lo⟩:=FM (P:=P) (d:=d+3) (sv:=ss.map ao) (o1:=o1) (o2:=o2) S hco hcs q;have hc:e8 kn ss[i]=c:=by unfold e8;rw[q];rfl
    refine⟨hN _,_,.next,_,_,hg,st,.inl rfl,kn,f,m,_,_,S',?_,Wk ‹_›,?_,fun j hj=>(lo j hj).trans (hlo j hj),rfl⟩
    .rw[ht,TI,co];show _=some (ab.list (ivs (_++[e8 kn ss[i]])));rw[hc]
    . rw[ht];intro t hm;rcases TJ.mp hm with hm|hm
      .exact hlk t hm
      .rw[Tw.mp hm,q,hc]
   |none=>
    obtain⟨J',o2',f',m',st,S',co,lo⟩:=FN (P:=P) (d:=d) (sv:=ss.map ao) (o1:=o1) (o2:=o2) S (hss _ (Vn hi)) q (ar3 [_,_,_] [] 0 296537884141081068752 hkn hi hl art) hco hcs;have hnew:cy ss[i] (knN kn ss[i])=some (bO kn ss[i]):=by rw[lG,q,if_pos rfl];rfl
    have hc:e8 (knN kn ss[i]) ss[i]=bO kn ss[i]:=by unfold e8;rw[hnew];rfl
    have hold:∀t∈ss.take i,cy t (knN kn ss[i])=some (e8 kn t)/\e8 (knN kn ss[i]) t=e8 kn t:=fun t hm=>by
     have e:cy t (knN kn ss[i])=some (e8 kn t):=by rw[lG,hlk t hm];rfl
     exact⟨e,by unfold e8 at e ⊢;rw[e];rfl⟩
    have hmap:(ss.take i).map (e8 (knN kn ss[i]))=(ss.take i).map (e8 kn):=List.map_congr_left fun t hm=>(hold t hm).2;refine⟨hN _,_,.next,_,_,hg,st,.inl rfl,knN kn ss[i],f',m',_,_,S',?_,by rw[Tm];show kn.length+1<=i+1;exact UD ‹_› _,?_,fun j hj=>(lo j hj).trans (hlo j hj),rfl⟩
    .rw[ht,TI,hmap,co];show _=some (ab.list (ivs (_++[e8 (knN kn ss[i]) ss[i]])));rw[hc]
    . rw[ht];intro t hm;rcases TJ.mp hm with hm|hm
      .rw[(hold t hm).1,(hold t hm).2]
      .rw[Tw.mp hm,hnew,hc]
 .obtain⟨s,⟨kn,f,m,o1,o2,S,hco,hkn,hlk,hlo,rfl⟩,w⟩:=hh;rw[Ur]at hco hlk;exact⟨s,kn,f,m,o1,o2,w,S,hco,hlk,hlo⟩
theorem Ol(hss:∀s∈ss,s∈bN)(hl:ss.length<=8)(hc:J.all (cg J.length)=true):
 ∃J' kn f m,cP P (d+4) "" "_law_data" [.lst (ss.map ao)] [] J (.tup [.inst "Data" J.length,.ref (J.length+5)]) J'/\DSt J' J.length kn f m/\J'[J.length+5]?=some (.list (ivs (ss.map (e8 kn))))/\(∀s∈ss,cy s kn=some (e8 kn s))/\(∀i,i<J.length->J'[i]?=J[i]?):=by
 have I:=BL (P:=P) (d:=d+1) (J:=J);generalize hs1:J++[lE (J.length+1) (J.length+2) (J.length+3) (J.length+4)]++[.dict dfl]++[.dict []]++[.dict []]++[.dict []]=s1 at I;have l1:s1.length=J.length+5:=by rw[<-hs1];simp
 have e0:s1++[ab.list []]++[ab.dict []]=J++[lE (J.length+1) (J.length+2) (J.length+3) (J.length+4),.dict dfl,.dict [],.dict [],.dict [],.list [],.dict []]:=by rw[<-hs1];simp only[Tl];rfl
 have g:∀(k:Nat) c,[lE (J.length+1) (J.length+2) (J.length+3) (J.length+4),.dict dfl,.dict [],.dict [],.dict [],.list [],.dict []][k]?=some c->(s1++[ab.list []]++[ab.dict []])[J.length+k]?=some c:=fun k c h=>by rw[e0,Uc (Uh _ _),UY];exact h
 have lt:(s1++[ab.list []]++[ab.dict []]).length=J.length+7:=by rw[e0,Tm];rfl
 have S0:DSt (s1++[ab.list []]++[ab.dict []]) J.length [] (fun k _=>BM k) 0:=by
  refine⟨⟨Nat.add_le_add_left (by decide) _,TF (Ul ‹_›),g 0 _ rfl,g 1 _ rfl,[],g 2 _ rfl,TB _,fun k r h=>aC h,fun k _ c=>rfl,fun k k' m h=>aC h⟩,g 6 _ rfl,TB _,VC _,fun p hp=>absurd hp Up,fun c _ k=>rfl,fun p hp=>absurd hp Up,fun p hp=>absurd hp Up,?_⟩;rw[lt,e0,List.all_append,rJ (m:=J.length+7) (Uh _ _) hc];have d1:∀n:Nat,cg (n+7) (lE (n+1) (n+2) (n+3) (n+4))=true:=fun n=>by show(decide (n+1<n+7)&&(decide (n+2<n+7)&&(decide (n+3<n+7)&&(decide (n+4<n+7)&&true))))=true;rw[To (UR (by decide) _),To (UR (by decide) _),To (UR (by decide) _),To (UR (by decide) _)];rfl
  have d2:∀n:Nat,cg n (.dict dfl)=true:=fun n=>by rfl'
  simp only[V5,List.all_nil,d1,d2];rfl
 obtain⟨J',kn,f,m,o1,o2,L,S,co,lk,lo⟩:=BS (P:=P) (d:=d) S0 (g 5 _ rfl) hss hl;rw[show J.length+5=s1.length from l1.symm,show J.length+6=(s1++[ab.list []]).length by rw[Tm,l1];rfl]at L;refine⟨J',kn,f,m,?_,S,co,lk,fun i hi=>(lo i hi).trans (by rw[e0,TL hi])⟩;rw[<-l1];exact Oh I L
end
noncomputable abbrev nO:V:=.str "no"
noncomputable abbrev mY:V:=.str "may"
noncomputable abbrev mU:V:=.str "must"
noncomputable abbrev NoR(v:V):Prop:=v=.none\/∃x,v=noV x
theorem cD{q:Bool}{x y:V}(hx:NoR x)(hy:NoR y):NoR (cond q x y):=okC (R:=NoR) hx hy
theorem ie:NoR .none:=.inl rfl
theorem dH{x:Str}:NoR (noV x):=.inr ⟨x,rfl⟩
theorem oA{v:V}{r:List V}(h:NoR v):gS (eF (v::r))=cond (isR v) nO (gS (eF r)):=by rcases h with rfl|⟨x,rfl⟩<;>rfl
theorem J7{a b:Str}{r:List V}:gS (eF (lx a b::r))=cond (a=="BK") mU (cond ((a=="CR")&&(b=="LF")) nO (cond (inS a ol) mU (cond (inS b ol) nO (gS (eF r))))):=by unfold lx;cases(a=="BK")<;>cases((a=="CR")&&(b=="LF"))<;>cases(inS a ol)<;>cases(inS b ol)<;>rfl
theorem BU{b s:Str}{j:Bool}{r:List V}:gS (eF (gv b s j::r))=cond (inS b ["SP","ZW"]) nO (cond (s=="ZW") mY (cond j nO (gS (eF r)))):=by unfold gv;cases(inS b ["SP","ZW"])<;>cases(s=="ZW")<;>cases j<;>rfl
theorem J8{a b s:Str}{r:List V}:gS (eF (mC a b s::r))=cond ((inS s ["CL","CP"]&&(b=="NS"))||((s=="B2")&&(b=="B2"))) nO (cond (a=="SP") mY (gS (eF r))):=by unfold mC;cases(inS s ["CL","CP"]&&(b=="NS"))<;>cases((s=="B2")&&(b=="B2"))<;>cases(a=="SP")<;>rfl
def sgB(a b a2 st:Str):Bool:=(inS b ["BA","HY","NS"]||(a=="BB"))||((inS a ["HY","BA"]&&((a2=="HL") && !(b=="HL")))||(((a=="SY")&&(b=="HL"))||((b=="IN") && !((st=="loose")&&(a=="IN")))))
theorem FP{a b a2 st:Str}{r:List V}:gS (eF (gm a b a2 st::r))=cond ((a=="QU")||(b=="QU")) nO (cond ((a=="CB")||(b=="CB")) mY (cond (sgB a b a2 st) nO (gS (eF r)))):=by unfold gm sgB;cases((a=="QU")||(b=="QU"))<;>cases((a=="CB")||(b=="CB"))<;>cases(inS b ["BA","HY","NS"]||(a=="BB"))<;>cases(inS a ["HY","BA"]&&((a2=="HL") && !(b=="HL")))<;>cases((a=="SY")&&(b=="HL"))<;>cases((b=="IN") && !((st=="loose")&&(a=="IN")))<;>rfl
theorem sM{α:Type}{p q:Bool}{x y:α}:cond p x (cond q x y)=cond (p||q) x y:=by cases p<;>rfl
theorem Qp{q:Bool}{x y w:V}:orV (cond q x y) w=cond q (orV x w) (orV y w):=by cases q<;>rfl
theorem Om{bk x ah bh b2 b6 sz lz j g c q o l5 l6 l7 l8 l9 sp:Bool}{t:V}(h1:bk=true->x=false/\ah=true)(h2:b6=(bh||b2))(h3:sz=lz)(h4:(j||(g||(c||(q||o))))=(l5||(l6||(l7||(l8||l9))))):
 cond bk mU (cond x nO (cond ah mU (cond bh nO (cond b2 nO (cond sz mY (cond j nO (cond g nO (cond c nO (cond q nO (cond o nO (cond sp mY t))))))))))) =
 cond x nO (cond ah mU (cond b6 nO (cond lz mY (cond l5 nO (cond l6 nO (cond l7 nO (cond l8 nO (cond l9 nO (cond sp mY t))))))))):=by
 rw[h2,h3];have e:cond j nO (cond g nO (cond c nO (cond q nO (cond o nO (cond sp mY t)))))=cond l5 nO (cond l6 nO (cond l7 nO (cond l8 nO (cond l9 nO (cond sp mY t))))):=by rw[sM,sM,sM,sM,sM,sM,sM,sM,Vg,Vg,Vg,Vg,Vg,Vg,h4]
 rw[e,<-sM];cases bk with|false=>rfl|true=>obtain⟨rfl,rfl⟩:=h1 rfl;rfl
theorem mF{q:Bool}{x y:V}:isR (cond q x y)=cond q (isR x) (isR y):=by cases q<;>rfl
theorem mG{x:Str}:isR (noV x)=true:=rfl
theorem mI:isR .none=false:=rfl
theorem bq{x:Str}(y:Str):(y==x)=(x==y):=by rw[Vt,Ub,Ub];exact eq_comm
theorem On{a b:Str}:isR (kD a b)=(inS "WJ" [a,b]||((a=="GL")||((b=="GL") && !inS a ["SP","BA","HY"]))):=by unfold kD;simp only[mF,mG,mI,inS];generalize (a=="WJ")=x1;generalize (b=="WJ")=x2;generalize (a=="GL")=x3;generalize (b=="GL")=x4;generalize (("SP":Str)==a)=x5;generalize (("BA":Str)==a)=x6;generalize (("HY":Str)==a)=x7;revert x1 x2 x3 x4 x5 x6 x7;decide
theorem BV{a b s nm:Str}{iw:Bool}(h:(nm=="expression")=iw):isR (dF a b s nm)=((b=="EX")||((inS b ["CL","CP","IS","SY"] && !(iw&&(a=="NU")))||(s=="OP"))):=by unfold dF;simp only[mF,mG,mI,inS,h,bq (x:=b)];generalize (b=="CL")=x1;generalize (b=="CP")=x2;generalize (b=="EX")=x3;generalize (b=="IS")=x4;generalize (b=="SY")=x5;generalize (a=="NU")=x6;generalize (s=="OP")=x7;clear h;revert x1 x2 x3 x4 x5 x6 x7 iw;decide
theorem FQ{qi qf l7 l8:Bool}{q k N:Int}{aq c:Str}(h7:(qi&&((q==0)||inS aq rM))=l7)(h8:(qf&&((k+1==N)||inS c fz))=l8):isR (fT qi qf q k N aq c)=(l7||l8):=by unfold fT;simp only[mF,mG,mI,h7,h8];cases l7<;>cases l8<;>rfl
theorem Qq{x:Str}{q:Bool}{l m:List Str}:inS x (cond q l m)=cond q (inS x l) (inS x m):=by cases q<;>rfl
theorem Oo{a b:Str}:inS b (qd a)=((inP a b [("JL","JL"),("JL","JV"),("JL","H2"),("JL","H3")]||(inS a ["JV","H2"]&&inS b ["JV","JT"]))||(inS a ["JT","H3"]&&(b=="JT"))):=by
 unfold qd;simp only[Qq,inS,inP,bq (x:=b),bq (x:=a)];by_cases h1:a="JL"
 .subst h1;generalize (b=="JL")=x1;generalize (b=="JV")=x2;generalize (b=="H2")=x3;generalize (b=="H3")=x4;generalize (b=="JT")=x5;revert x1 x2 x3 x4 x5;decide +kernel
 rw[Tv.mpr h1];by_cases h2:a="JV"
 .subst h2;generalize (b=="JL")=x1;generalize (b=="JV")=x2;generalize (b=="H2")=x3;generalize (b=="H3")=x4;generalize (b=="JT")=x5;revert x1 x2 x3 x4 x5;decide +kernel
 rw[Tv.mpr h2];by_cases h3:a="H2"
 .subst h3;generalize (b=="JL")=x1;generalize (b=="JV")=x2;generalize (b=="H2")=x3;generalize (b=="H3")=x4;generalize (b=="JT")=x5;revert x1 x2 x3 x4 x5;decide +kernel
 rw[Tv.mpr h3];generalize (a=="JT")=x6;generalize (a=="H3")=x7;generalize (b=="JL")=x1;generalize (b=="JV")=x2;generalize (b=="H2")=x3;generalize (b=="H3")=x4;generalize (b=="JT")=x5;revert x1 x2 x3 x4 x5 x6 x7;decide
theorem Op{a b:Str}:inP a b wJ=cond ((inS a ["CL","CP","NU"]&&inS b ["PO","PR"])||(inS a ["PO","PR"]&&inS b ["OP","NU"])) true (inS a ["HY","IS","NU","SY"]&&(b=="NU")):=by simp only[inS,inP,bq (x:=b),bq (x:=a)];generalize (a=="CL")=x1;generalize (a=="CP")=x2;generalize (a=="NU")=x3;generalize (a=="PO")=x4;generalize (a=="PR")=x5;generalize (a=="HY")=x6;generalize (a=="IS")=x7;generalize (a=="SY")=x8;generalize (b=="PO")=y1;generalize (b=="PR")=y2;generalize (b=="OP")=y3;generalize (b=="NU")=y4;revert x1 x2 x3 x4 x5 x6 x7 x8 y1 y2 y3 y4;decide +kernel
theorem Sj{b:Str}:((inS b ["NU","SY","IS"]||inS b ["CL","CP"])&&inS b ["PO","PR"])=false:=by
 by_cases h1:b="PO"
 .subst h1;decide
 by_cases h2:b="PR"
 .subst h2;decide
 simp only[inS,bq (x:=b),Tv.mpr h1,Tv.mpr h2,UP,VA]
theorem Oq{a b c nm:Str}{iw f1 f2:Bool}(h:(nm=="expression")=iw)(hf:inS a ["CL","CP"]=true->f1=false):isR (dX a b nm (gC a b c f1 f2))=rO a b iw (c=="NU") f1 f2:=by
 unfold dX rO;cases iw with
 |false=>rw[h,UA,mF,mG,mI,Op,Bool.not_false,Ve];cases cond ((inS a ["CL","CP","NU"]&&inS b ["PO","PR"])||(inS a ["PO","PR"]&&inS b ["OP","NU"])) true (inS a ["HY","IS","NU","SY"]&&(b=="NU"))<;>rfl
 |true=>
  have hx:=Sj (b:=b);rw[h,Ve,WX,UA];unfold gC;have e1:inS b ["NU","SY","IS","CL","CP","PO","PR"]=((inS b ["NU","SY","IS"]||inS b ["CL","CP"])||inS b ["PO","PR"]):=by simp only[inS,UP,Vg]
  have e2:inS b hQ=inS b ["PO","PR"]:=by simp only[inS,UP];exact Bool.or_comm _ _
  rw[e1,e2];simp only[mF,mG,mI];generalize ((inS a hQ&&((b=="NU")||(inS b ["OP","HY"]&&(c=="NU"))))||(inS a ["OP","HY"]&&(b=="NU")))=x1;generalize (inS b ["NU","SY","IS"]||inS b ["CL","CP"])=x2 at hx ⊢;generalize inS b ["PO","PR"]=x3 at hx ⊢;generalize inS a ["CL","CP"]=x4 at hf ⊢;revert hx hf x1 x2 x3 x4 f1 f2;decide
theorem Qr(la lb ia ib sa sb nua nub pra prb poa pob isa:Bool):
 ((((la&&nub)||(nua&&lb))||(((pra&&ib)||(ia&&pob))||((((pra||poa)&&lb)||(la&&(prb||pob))))))||((((sa&&pob)||(pra&&sb)))||(isa&&lb))) =
 (((la&&(nub||(prb||pob)))||(lb&&(nua||(pra||(poa||isa)))))||((pra&&(ib||sb))||(pob&&(ia||sa)))):=by
 revert la lb ia ib sa sb nua nub pra prb poa pob isa;decide +kernel
theorem BW{a b:Str}:isR (dG a b)=(((inS a cK&&(b=="NU"))||((a=="NU")&&inS b cK))||((((a=="PR")&&inS b rh)||(inS a rh&&(b=="PO")))||((inS a hQ&&inS b cK)||(inS a cK&&inS b hQ)))):=by unfold dG;simp only[mF,mG,mI];generalize ((inS a cK&&(b=="NU"))||((a=="NU")&&inS b cK))=x;generalize (((a=="PR")&&inS b rh)||(inS a rh&&(b=="PO")))=y;generalize ((inS a hQ&&inS b cK)||(inS a cK&&inS b hQ))=z;revert x y z;decide
theorem Qs{a b:Str}:isR (o8 a b)=(inS b (qd a)||(((inS a yt&&(b=="PO"))||((a=="PR")&&inS b yt))||(inS a cK&&inS b cK))):=by unfold o8;simp only[mF,mG,mI];generalize inS b (qd a)=x;generalize ((inS a yt&&(b=="PO"))||((a=="PR")&&inS b yt))=y;generalize (inS a cK&&inS b cK)=z;revert x y z;decide
theorem Qt{a b:Str}{n0 n1:Bool}:isR (o9 a b n0 n1)=(((a=="IS")&&inS b cK)||((inS a ["AL","HL","NU"]&&((b=="OP")&&n0))||((a=="CP")&&(n1&&inS b ["AL","HL","NU"])))):=by unfold o9;simp only[mF,mG,mI,inS,bq (x:=b),bq (x:=a)];generalize (a=="IS")=x1;generalize (a=="AL")=x2;generalize (a=="HL")=x3;generalize (a=="NU")=x4;generalize (a=="CP")=x5;generalize (b=="AL")=y1;generalize (b=="HL")=y2;generalize (b=="NU")=y3;generalize (b=="OP")=y4;revert x1 x2 x3 x4 x5 y1 y2 y3 y4 n0 n1;decide +kernel
theorem Ah{x:Str}:inS x rj=inS x ["AL","HL","JL","JV","JT","H2","H3","ID","NU"]:=by simp only[inS,bq (x:=x)];generalize (x=="AL")=x1;generalize (x=="HL")=x2;generalize (x=="ID")=x3;generalize (x=="NU")=x4;generalize (x=="JL")=x5;generalize (x=="JV")=x6;generalize (x=="JT")=x7;generalize (x=="H2")=x8;generalize (x=="H3")=x9;revert x1 x2 x3 x4 x5 x6 x7 x8 x9;decide +kernel
theorem Qu{a b g:Str}{r:Int}{ep ka rg:Bool}(h:((a=="RI")&&(r.fmod 2==1))=rg):isR (m8 a b g r ep ka)=(((b=="RI")&&rg)||(((b=="EM")&&((a=="EB")||(ep&&(g=="Cn"))))||(ka&&(inS a ["AL","HL","JL","JV","JT","H2","H3","ID","NU"]&&inS b ["AL","HL","JL","JV","JT","H2","H3","ID","NU"])))):=by unfold m8;rw[<-h,<-Ah,<-Ah];simp only[mF,mG,mI];generalize (a=="RI")=x1;generalize (b=="RI")=x2;generalize (r.fmod 2==1)=x3;generalize (b=="EM")=x4;generalize ((a=="EB")||(ep&&(g=="Cn")))=x5;generalize (ka&&(inS a rj&&inS b rj))=x6;revert x1 x2 x3 x4 x5 x6;clear h;decide +kernel
theorem Qv{a b c:Str}{l r l2 r2 q9:Bool}(h:(l2&&r2)=q9):isR (rm a b c l r l2 r2)=((((a=="AP")&&r)||((l&&inS b ["VF","VI"])||(l&&(r&&(c=="VF")))))||((a=="VI")&&q9)):=by unfold rm;rw[h];simp only[mF,mG,mI];generalize ((a=="AP")&&r)=x1;generalize (l&&inS b ["VF","VI"])=x2;generalize ((a=="VI")&&q9)=x3;generalize (l&&(r&&(c=="VF")))=x4;revert x1 x2 x3 x4;clear h;decide
theorem Qw{a b:Str}:((inS a BO&&inS b ["NU","PR","PO"])||(inS b BO&&inS a ["NU","PR","PO","IS"]))=((inS a cK&&((b=="NU")||((b=="PR")||(b=="PO"))))||(inS b cK&&((a=="NU")||((a=="PR")||((a=="PO")||(a=="IS")))))):=by simp only[inS,bq (x:=a),bq (x:=b),UP]
theorem FR{x:Str}:inS x hQ=((x=="PR")||(x=="PO")):=by simp only[inS,bq (x:=x),UP]
theorem K3{x:Str}:inS x ["ID","EB","EM","JL","JV","JT","H2","H3"]=(inS x rh||inS x yt):=by simp only[inS,UP,Vg]
theorem J9{a b c g nm:Str}{n0 n1 l r l2 r2 qi qf ep ka f1 f2:Bool}{s:Str}{q k N rr:Int}{aq:Str}:NoR (kD a b)/\NoR (dF a b s nm)/\NoR (fT qi qf q k N aq c)/\NoR (dG a b)/\NoR (dX a b nm (gC a b c f1 f2))/\NoR (o8 a b)/\NoR (rm a b c l r l2 r2)/\NoR (o9 a b n0 n1)/\NoR (m8 a b g rr ep ka):=by
 unfold kD dF fT dG dX gC o8 rm o9 m8;exact⟨cD dH (cD dH (cD dH ie)),cD (cD dH (cD dH ie)) (cD dH ie),cD dH (cD dH ie),cD dH (cD dH (cD dH ie)),
  cD (cD dH (cD (cD dH ie) (cD (cD (cD dH ie) (cD dH ie)) ie))) (cD dH ie),cD dH (cD dH (cD dH ie)),cD dH ie,cD dH (cD dH (cD dH ie)),
  cD dH (cD (cD dH (cD dH ie)) (cD dH ie))⟩
theorem Qx{t1 t2 t3 t4 t5 le fg j6 j7 s2 ll a8 a9 isb b10 b11 p12 p13 p14 j4 pi po:Bool}(h:(le||(s2||isb))=(j4||(pi||po))):
 (((t1||t2)||(t3||(t4||t5)))||(le||(fg||(((j6||j7)||(s2||ll))||((a8||a9)||((isb||(b10||b11))||(p12||(p13||p14)))))))) =
 ((t1||(t2||t3))||((t4||t5)||(j4||((pi||(po||fg))||(j6||((j7||ll)||(a8||(a9||(b10||(b11||(p12||(p13||p14)))))))))))):=by
 have e:(((t1||t2)||(t3||(t4||t5)))||(le||(fg||(((j6||j7)||(s2||ll))||((a8||a9)||((isb||(b10||b11))||(p12||(p13||p14))))))))=((le||(s2||isb))||(t1||(t2||(t3||(t4||(t5||(fg||(j6||(j7||(ll||(a8||(a9||(b10||(b11||(p12||(p13||p14)))))))))))))))):=by ac_rfl
 rw[e,h];ac_rfl
theorem Qy{qu cb sg le nu sy ak br pi j2 j3 j4 j5 j6 j7 j8 j9 j10 j11 j12 j13 j14:Bool}(h:(sg||(le||(nu||(sy||(ak||(br||pi))))))=(j2||(j3||(j4||(j5||(j6||(j7||(j8||(j9||(j10||(j11||(j12||(j13||j14))))))))))))):
 cond qu nO (cond cb mY (cond sg nO (cond le nO (cond nu nO (cond sy nO (cond ak nO (cond br nO (cond pi nO mY))))))))=cond (qu||cb) (cond qu nO mY) (cond j2 nO (cond j3 nO (cond j4 nO (cond j5 nO (cond j6 nO (cond j7 nO (cond j8 nO (cond j9 nO (cond j10 nO (cond j11 nO (cond j12 nO (cond j13 nO (cond j14 nO mY))))))))))))):=by
 have e:cond sg nO (cond le nO (cond nu nO (cond sy nO (cond ak nO (cond br nO (cond pi nO mY))))))=cond j2 nO (cond j3 nO (cond j4 nO (cond j5 nO (cond j6 nO (cond j7 nO (cond j8 nO (cond j9 nO (cond j10 nO (cond j11 nO (cond j12 nO (cond j13 nO (cond j14 nO mY)))))))))))):=by simp only[sM,Vg];rw[h]
 rw[e];cases qu<;>cases cb<;>rfl
theorem FS{a b c s last a2P a2L aq aj g1 gj gk st nm e1 ek:Str}{iw ka j qi qf nr fr l2 r2 ak dk k1 f1 f2 n0 n1 p1 rg zj bx:Bool}{q k N rr:Int}(hnm:(nm=="expression")=iw)(z1:(s=="ZW")=(last=="ZW"))(z2:(s=="OP")=(last=="OP"))(z3:inS s ["CL","CP"]=inS last ["CL","CP"])(z4:(s=="B2")=(last=="B2"))(h7:(qi&&((q==0)||inS aq rM))=((last=="QU")&&((gj=="Pi")&&(zj||inS aj rM))))(h8:(qf&&((k+1==N)||inS c fz))=((b=="QU")&&((gk=="Pf")&&bx)))(hf:inS a ["CL","CP"]=true->f1=false)(h21:(a2P=="HL")=(k1&&(a2L=="HL")))(hak:(l2&&r2)=(k1&&(ak&&((b=="AK")||dk))))(hn0:n0 = !inS ek z7)(hn1:n1 = !inS e1 z7)(hri:((a=="RI")&&(rr.fmod 2==1))=rg):
 gS (eF [lx a b,gv b s j,kD a b,dF a b s nm,fT qi qf q k N aq c,mC a b s,gm a b a2P st,dG a b,dX a b nm (gC a b c f1 f2),o8 a b,rm a b c nr fr l2 r2,o9 a b n0 n1,m8 a b g1 rr p1 ka]) =
 orV (bU a b last gj gk aj j iw zj bx) (bX a b a2L st e1 ek g1 ka (rO a b iw (c=="NU") f1 f2) nr fr ak (c=="VF") dk k1 rg p1):=by
 obtain⟨n1',n2,n3,n4,n5,n6,n7,n8,n9⟩:=J9 (a:=a) (b:=b) (c:=c) (g:=g1) (nm:=nm) (n0:=n0) (n1:=n1) (l:=nr) (r:=fr) (l2:=l2) (r2:=r2) (qi:=qi) (qf:=qf) (ep:=p1) (ka:=ka) (f1:=f1) (f2:=f2) (s:=s) (q:=q) (k:=k) (N:=N) (rr:=rr) (aq:=aq);rw[J7,BU,oA n1',oA n2,oA n3,J8,FP,oA n4,oA n5,oA n6,oA n7,oA n8,oA n9];rw[On,BV hnm,FQ h7 h8,z1,z2,z3,z4];unfold bU;simp only[Qp];have tail:cond ((a=="QU")||(b=="QU")) nO (cond ((a=="CB")||(b=="CB")) mY (cond (sgB a b a2P st) nO (cond (isR (dG a b)) nO (cond (isR (dX a b nm (gC a b c f1 f2))) nO (cond (isR (o8 a b)) nO (cond (isR (rm a b c nr fr l2 r2)) nO (cond (isR (o9 a b n0 n1)) nO (cond (isR (m8 a b g1 rr p1 ka)) nO mY)))))))) =
  bX a b a2L st e1 ek g1 ka (rO a b iw (c=="NU") f1 f2) nr fr ak (c=="VF") dk k1 rg p1:=by
  unfold bX;have eq:inS "QU" [a,b]=((a=="QU")||(b=="QU")):=by simp only[inS,UP]
  have ec:inS "CB" [a,b]=((a=="CB")||(b=="CB")):=by simp only[inS,UP]
  rw[eq,ec];refine Qy ?_;rw[BW,Oq hnm hf,Qs,Oo,Qv hak,Qt,Qu hri,Qw,K3,K3,FR,FR,hn0,hn1];unfold sgB;rw[h21,Bool.and_assoc k1];exact Qx (Qr _ _ _ _ _ _ _ _ _ _ _ _ _)
 show cond (a=="BK") mU _=_;refine(Om (bk:=(a=="BK")) (x:=((a=="CR")&&(b=="LF"))) (ah:=inS a ol) (bh:=inS b ol) (b2:=inS b ["SP","ZW"]) (b6:=inS b ["BK","CR","LF","NL","SP","ZW"]) (sz:=(last=="ZW")) (lz:=(last=="ZW")) (j:=j) (sp:=(a=="SP"))
  (l5:=(j||(inS "WJ" [a,b]||((a=="GL")||(((b=="GL") && !inS a ["SP","BA","HY"])||(b=="EX")))))) (l6:=((inS b ["CL","CP","IS","SY"] && !(iw&&(a=="NU")))||(last=="OP"))) (l7:=((last=="QU")&&((gj=="Pi")&&(zj||inS aj rM)))) (l8:=((b=="QU")&&((gk=="Pf")&&bx))) (l9:=((inS last ["CL","CP"]&&(b=="NS"))||((last=="B2")&&(b=="B2")))) ?_ ?_ rfl ?_).trans ?_
 .intro h;rw[Ub.mp h];exact⟨rfl,rfl⟩
 .simp only[inS,UP,Vg]
 . generalize inS "WJ" [a,b]=x1;generalize (a=="GL")=x2;generalize ((b=="GL") && !inS a ["SP","BA","HY"])=x3;generalize (b=="EX")=x4;generalize (inS b ["CL","CP","IS","SY"] && !(iw&&(a=="NU")))=x5;generalize (last=="OP")=x6
   ac_rfl
 .rw[<-tail];rfl
noncomputable def fC(us:List UL):Nat:=(us.map (·.m)).sum
noncomputable def toD(cf:aA->Int)(off:Nat):List UL->List ay
 |[]=>[]
 |u::r=>⟨u.w,cf u.s,(off:Int),u.j⟩::toD cf (off+u.m) r
theorem qE{cf:aA->Int}{u:UL}:∀(us:List UL) (off:Nat),toD cf off (us++[u])=toD cf off us++[⟨u.w,cf u.s,((off+fC us:Nat):Int),u.j⟩]
 |[],off=>rfl
 |v::r,off=>by
  show _::toD cf (off+v.m) (r++[u])=_::(toD cf (off+v.m) r++_);rw[qE r];have:off+v.m+fC r=off+fC (v::r):=by unfold fC;rw[Uj,List.sum_cons];exact Ws _ _ _
  rw[this]
theorem fZ{cf:aA->Int}:∀(us:List UL) (off:Nat),(toD cf off us).length=us.length
 |[],_=>rfl
 |v::r,off=>Tx (· + 1) (fZ r _)
theorem ga{us:List UL}{u:UL}:fC (us++[u])=fC us+u.m:=by unfold fC;rw[TI,List.sum_append];simp
theorem w9{x:Str}(h:ge x=false):(x=="ZWJ")=false:=by
 cases q:(x==("ZWJ":Str))with|false=>rfl|true=>rw[Ub.mp q]at h;exact absurd h (by decide)
theorem Ka{cf:aA->Int}{st:Str}{us:List UL}{s:aA}:cC (toD cf 0 us) (bT st s) (cf s) ((fC us:Nat):Int)=toD cf 0 (jU st us s)/\fC (jU st us s)=fC us+1:=by
 have new:∀{w:Str}{j:Bool} (vs:List UL),toD cf 0 (vs++[⟨w,s,1,j⟩])=toD cf 0 vs++[⟨w,cf s,((fC vs:Nat):Int),j⟩]:=fun vs=>by rw[qE,VZ]
 unfold cC jU;rcases UH us with rfl|⟨vs,u,rfl⟩
 . unfold wW;refine⟨?_,?_⟩
   .cases q:ge (bT st s)with|true=>rfl|false=>rw[w9 q];rfl
   .rfl
 . rw[Ui,U6,Vw];have hl:((toD cf 0 (vs++[u])).length==0)=false:=Tv.mpr (by rw[fZ,Tm];simp);dsimp only;rw[hl,VP];have e:=qE (cf:=cf) (u:=u) vs 0;rw[VZ]at e;have lw:tM (toD cf 0 (vs++[u]))=u.w:=by rw[e];exact tN
   rw[lw];unfold wW;cases q:ge (bT st s)with|false=>rw[UA,Vh,UA,UA,w9 q,new,ga];exact⟨rfl,by rw[ga,ga]⟩|true=>
    rw[Ve,U3];cases q2:kF u.w with|true=>rw[Ve,WX,UA,Ve,new,ga];exact⟨rfl,by rw[ga,ga]⟩|false=>rw[UA,Bool.not_false,Ve,e,om,qE,VZ,ga,ga];exact⟨rfl,by show fC vs+(u.m+1)=_;exact(Ws _ _ _).symm⟩
theorem xa{cf:aA->Int}{st:Str}{cl:Int->Str}(ss:List aA)(h:∀s∈ss,cl (cf s)=bT st s):aR cl [] 0 (ss.map cf)=toD cf 0 (aE st ss)/\fC (aE st ss)=ss.length:=by
 rcases UH ss with rfl|⟨rs,s,rfl⟩
 .exact⟨rfl,rfl⟩
 . rw[Ui]at h ⊢;obtain⟨e1,e2⟩:=xa (cf:=cf) (st:=st) (cl:=cl) rs (fun x hx=>h x (Uu _ hx));have hs:=h s (UT _ (Tw.mpr rfl));have es:aE st (rs++[s])=jU st (aE st rs) s:=by unfold aE;rw[List.foldl_append];rfl
   obtain⟨f1,f2⟩:=Ka (cf:=cf) (st:=st) (us:=aE st rs) (s:=s);rw[TI,Uj,List.map_nil,i8,e1,hs,es,Tn,VY,f2,e2,Tm];rw[e2]at f1;exact⟨f1,rfl⟩
 termination_by ss.length
 decreasing_by all_goals (subst_vars;simp)
def gK(us:List UL)(i:Nat):Nat:=fC (us.take i)
theorem vh{cf:aA->Int}:∀(us:List UL) (off i:Nat),i<us.length->(toD cf off us)[i]?=some ⟨wA us i,cf (uA us i).s,((off+gK us i:Nat):Int),(uA us i).j⟩
 |[],_,i,h=>absurd h (Vj i)
 |v::r,off,0,h=>rfl
 |v::r,off,i+1,h=>by
  show(toD cf (off+v.m) r)[i]?=_;rw[vh r (off+v.m) i (VL h)];have:off+v.m+gK r i=off+gK (v::r) (i+1):=by unfold gK;rw[List.take_succ_cons];unfold fC;rw[Uj,List.sum_cons];exact Ws _ _ _
  rw[this];rfl
noncomputable def wD(us:List ay)(p:Nat):Str:=(us.getD p ⟨"",0,0,false⟩).w
theorem yP:∀(us:List ay) (l i:Int) (p:Nat),p<us.length->(bz l i us).getD p 0=jQ (match p with|0=>l|q+1=>(bz l i us).getD q 0) (wD us p) (i+p)
 |[],_,_,p,h=>absurd h (Vj p)
 |u::r,l,i,0,h=>by rw[show i+((0:Nat):Int)=i by exact are [] [_] 1 25201944 art art];rfl
 |u::r,l,i,q+1,h=>by show(bz (jQ l u.w i) (i+1) r).getD q 0=jQ ((bz l i (u::r)).getD q 0) (wD r q) _;rw[yP r _ _ q (VL h),show i+1+(q:Int)=i+((q+1:Nat):Int) by exact are [_] [_] 1 39452152279074104 art art];cases q<;>rfl
theorem yQ:∀(us:List ay) (m:Int) (p:Nat),p<us.length->(ci m us).getD p 0=pg (match p with|0=>m|q+1=>(ci m us).getD q 0) (wD us p)
 |[],_,p,h=>absurd h (Vj p)
 |u::r,m,0,h=>rfl
 |u::r,m,q+1,h=>by show(ci (pg m u.w) r).getD q 0=pg ((ci m (u::r)).getD q 0) (wD r q);rw[yQ r _ q (VL h)];cases q<;>rfl
theorem yR:∀(us:List ay) (b:Bool) (p:Nat),p<us.length->(bW b us).getD p false=gR (match p with|0=>b|q+1=>(bW b us).getD q false) (wD us p)
 |[],_,p,h=>absurd h (Vj p)
 |u::r,b,0,h=>rfl
 |u::r,b,q+1,h=>by show(bW (gR b u.w) r).getD q false=gR ((bW b (u::r)).getD q false) (wD r q);rw[yR r _ q (VL h)];cases q<;>rfl
section
variable{cf:aA->Int}{us:List UL}{Y:np}{k:Nat}{h:hW}
theorem tS{p:Nat}(hp:p<us.length):wD (toD cf 0 us) p=wA us p:=by unfold wD;rw[Uo,vh us 0 p hp];rfl
theorem K4:∀p,p<us.length->((bz (-1) 0 (toD cf 0 us)).getD p 0=(jt us p:Nat)/\(wA us (jt us p)=="SP")=false)\/((bz (-1) 0 (toD cf 0 us)).getD p 0 = -1/\(wA us (jt us p)=="SP")=true)
 |0,hp=>by
  rw[yP _ _ _ 0 (by rw[fZ];exact hp),tS hp];show(cond (wA us 0=="SP") (-1) (0+((0:Nat):Int))=((0:Nat):Int)/\(wA us 0=="SP")=false)\/(cond (wA us 0=="SP") (-1) (0+((0:Nat):Int)) = -1/\(wA us 0=="SP")=true);cases(wA us 0=="SP")with|true=>exact .inr ⟨rfl,rfl⟩|false=>exact .inl ⟨by rw[UA];decide,rfl⟩
 |p+1,hp=>by
  rw[yP _ _ _ (p+1) (by rw[fZ];exact hp),tS hp];have ih:=K4 p (TV ‹_›);show(cond (wA us (p+1)=="SP") ((bz (-1) 0 (toD cf 0 us)).getD p 0) (0+((p+1:Nat):Int))=((cond (wA us (p+1)=="SP") (jt us p) (p+1):Nat):Int)/\(wA us (cond (wA us (p+1)=="SP") (jt us p) (p+1))=="SP")=false)\/(cond (wA us (p+1)=="SP") ((bz (-1) 0 (toD cf 0 us)).getD p 0) (0+((p+1:Nat):Int)) = -1/\(wA us (cond (wA us (p+1)=="SP") (jt us p) (p+1))=="SP")=true);cases q:(wA us (p+1)=="SP")with|true=>exact ih|false=>exact .inl ⟨by rw[UA,UA];exact VY _,by rw[UA];exact q⟩
theorem K5:∀p,p<us.length->(ci 0 (toD cf 0 us)).getD p 0=(p:Int)-riZ us (p+1)
 |0,hp=>by
  rw[yQ _ _ 0 (by rw[fZ];exact hp),tS hp];show cond (wA us 0=="RI") ((0:Int)+1) 0=((0:Nat):Int)-cond (wA us 0=="RI") (-1) ((0:Nat):Int);cases(wA us 0=="RI")<;>rfl
 |p+1,hp=>by
  rw[yQ _ _ (p+1) (by rw[fZ];exact hp),tS hp];have ih:=K5 p (TV ‹_›);show cond (wA us (p+1)=="RI") ((ci 0 (toD cf 0 us)).getD p 0+1) 0=((p+1:Nat):Int)-cond (wA us (p+1)=="RI") (riZ us (p+1)) ((p+1:Nat):Int);rw[ih];cases(wA us (p+1)=="RI")with|true=>rw[Ve,Ve];exact are [_] [_] 1 99186170890641520 art art|false=>rw[UA,UA];exact are [_] [] 1 73711842534920 art art
theorem FT:∀p,p<us.length->(bW false (toD cf 0 us)).getD p false=u5 us p
 |0,hp=>by
  rw[yR _ _ 0 (by rw[fZ];exact hp),tS hp];show((wA us 0=="NU")||(false&&_))=(wA us 0=="NU");rw[Vh,UP]
 |p+1,hp=>by
  rw[yR _ _ (p+1) (by rw[fZ];exact hp),tS hp];have ih:=FT p (TV ‹_›);show((wA us (p+1)=="NU")||((bW false (toD cf 0 us)).getD p false&&inS (wA us (p+1)) uL))=(wA us (cond (inS (wA us (p+1)) ["SY","IS"]) (gQ (fun n=>inS (wA us n) ["SY","IS"]) p) (p+1))=="NU");rw[ih];have e:inS (wA us (p+1)) uL=((wA us (p+1)=="NU")||inS (wA us (p+1)) ["SY","IS"]):=by simp only[inS,bq (x:=wA us (p+1))]
  rw[e];by_cases q:wA us (p+1)="NU"
  . have i0:inS ("NU":Str) ["SY","IS"]=false:=by decide
    rw[q,i0,UA,q,TQ,Bool.true_or]
  .rw[Tv.mpr q,VP,VP];cases q2:inS (wA us (p+1)) ["SY","IS"]with|true=>rw[Bool.and_true,Ve];rfl|false=>rw[VA,UA,Tv.mpr q]
end
structure YOK(Y:np)(h:hW)(cf:aA->Int)(ss:List aA):Prop where
 cl:∀s∈ss,Y.cl (cf s)=bT h.st s
 gc:∀s∈ss,Y.gc (cf s)=s.g
 ea:∀s∈ss,Y.ea (cf s)=s.e
 ep:∀s∈ss,Y.ep (cf s)=s.p
 dc:∀s∈ss,(cf s==9676)=dcO s.c 9676
 st:Y.st=h.st
 ka:Y.ka=h.ka
 nm:(Y.nm=="expression")=h.iw
theorem FU{st:Str}{us:List UL}{s:aA}{S:aA->Prop}(hu:∀u∈us,S u.s)(hs:S s):∀u∈jU st us s,S u.s:=by
 unfold jU;rcases UH us with rfl|⟨vs,v,rfl⟩
 .intro u h;rw[Tw.mp h];exact hs
 . rw[Ui,U6,Vw];rw[Ui]at hu;dsimp only;cases ge (bT st s) && !kF v.w with
   |true=>
    intro u h;rcases TJ.mp h with h|h
    .exact hu u (Uu _ h)
    .rw[Tw.mp h];exact hu v (UT _ (Tw.mpr rfl))
   |false=>
    intro u h;rcases TJ.mp h with h|h
    .exact hu u h
    .rw[Tw.mp h];exact hs
theorem tT{st:Str}{S:aA->Prop}:∀(ss:List aA) (us:List UL),(∀s∈ss,S s)->(∀u∈us,S u.s)->∀u∈ss.foldl (jU st) us,S u.s
 |[],us,_,h=>h
 |s::ss,us,hs,h=>tT ss _ (fun x hx=>hs x (Va _ hx)) (FU h (hs s UG))
theorem FV{st:Str}{ss:List aA}{i:Nat}(hi:i<(aE st ss).length):(uA (aE st ss) i).s∈ss :=
 tT (S:=(· ∈ ss)) ss [] (fun _ h=>h) (fun _ h=>absurd h Up) _ (TZ (rN hi))
section
variable{cf:aA->Int}{us:List UL}{Y:np}{k:Nat}{h:hW}{ss:List aA}
abbrev VW(Y:np)(cf:aA->Int)(us:List UL):VD:=eT Y (toD cf 0 us)
theorem ma{i:Nat}(hi:i<us.length):bM (VW Y cf us) (i:Int)=⟨wA us i,cf (uA us i).s,((0+gK us i:Nat):Int),(uA us i).j⟩:=by show(toD cf 0 us).getD (i:Int).toNat _=_;rw[Vc,Uo,vh us 0 i hi];rfl
theorem FW{i:Nat}:inR (VW Y cf us) (i:Int)=decide (i<us.length):=by
 unfold inR;show(decide ((0:Int)<=(i:Int))&&decide ((i:Int)<((toD cf 0 us).length:Int)))=_;rw[fZ,To (show(0:Int)<=(i:Int)from TM _),U3];by_cases q:i<us.length
 .rw[To q,To (UF.mpr ‹_›)]
 .rw[Tz q,Tz (by exact U9 (ar1 [_,_] [] 1 118604336 (Vz q :) art))]
theorem Ai{p:Int}(hp:p<0):inR (VW Y cf us) p=false:=by unfold inR;rw[Tz (by exact Int.not_le_of_gt (ar1 [] [_] 513 276279067960 hp art))];rfl
theorem gE{i:Nat}:aV (VW Y cf us) (i:Int)=wA us i:=by
 unfold aV;rw[FW];by_cases q:i<us.length
 .rw[To q,Ve,ma q]
 .rw[Tz q,UA,Fi (Vd.mp ‹_›)]
theorem rS{p:Int}(hp:p<0):aV (VW Y cf us) p="":=by unfold aV;rw[Ai hp];rfl
theorem Qz{a:Str}(ha:a=wA us k)(h:inS a ["CL","CP"]=true):u5 us k=false:=by
 have h1:a="CL" \/ a="CP":=by
  simp only[inS,UP,Wv,Ub]at h;rcases h with h|h
  .exact .inl h.symm
  .exact .inr h.symm
 have e:gQ (fun n=>inS (wA us n) ["SY","IS"]) k=k:=by
  cases k with|zero=>rfl|succ k=>show cond (inS (wA us (k+1)) ["SY","IS"]) _ _=_;rw[<-ha];rcases h1 with rfl|rfl<;>rfl
 unfold u5;rw[e,<-ha];rcases h1 with rfl|rfl<;>decide
def K6(W:VD)(k k1:Int)(a b c:Str)(j:Bool)(g1:Str)(ep:Bool)(st:Str)(ka f1 f2 nr fr:Bool):V:=eF [
 lx a b,gv b (aV W (jr W k1)) j,kD a b,dF a b (aV W (jr W k1)) W.nm,
 fT (uO W (jr W k1) "Pi") (uO W k "Pf") (jr W k1) k W.us.length (aV W (jr W k1-1)) c,
 mC a b (aV W (jr W k1)),gm a b (aV W (k-2)) st,dG a b,dX a b W.nm (gC a b c f1 f2),o8 a b,
 rm a b c nr fr (nc W (k-2) ["AK","AS"]) (nc W k ["AK"]),o9 a b (yw W k) (yw W k1),
 m8 a b g1 (W.reg.getD k1.toNat 0) ep ka]
theorem Kb{W:VD}{k k1:Int}{a b c:Str}{j:Bool}{g1:Str}{ep:Bool}{st:Str}{ka f1 f2 nr fr:Bool}(e:k-1=k1)(ha:aV W k1=a)(hb:aV W k=b)(hc:aV W (k+1)=c)(hj:(bM W k1).j=j)(hg:W.gc (bM W k1).code=g1)(hp:W.ep (bM W k1).code=ep)(hs:W.st=st)(hk:W.ka=ka)(h1:wL W k1=f1)(h2:wL W (k-2)=f2)(hn:nc W k1 ["AK","AS"]=nr)(hf:nc W k ["AK","AS"]=fr):
 rn W k=K6 W k k1 a b c j g1 ep st ka f1 f2 nr fr:=by
 subst e;exact congr (congr (congr (congr (congr (congr (congr (congr (congr (congr (congr (Tx (K6 W k (k-1)) ha) hb) hc) hj) hg) hp) hs) hk) h1) h2) hn) hf
theorem Kc(μ:YOK Y h cf ss)(hu:∀i<us.length,(uA us i).s∈ss)(hk:k+1<us.length):gS (rn (VW Y cf us) ((k+1:Nat):Int))=orV (hY us h k) (gT us h k):=by
 have e1:((k+1:Nat):Int)-1=(k:Nat):=are [_] [] 1 120335729968 art art;have e2:((k+1:Nat):Int)+1=((k+2:Nat):Int):=rfl;have hk0:k<us.length:=TV ‹_›;have esol:jr (VW Y cf us) (k:Nat)=(bz (-1) 0 (toD cf 0 us)).getD k 0:=by show(bz (-1) 0 (toD cf 0 us)).getD (k:Int).toNat 0=_;rw[Vc]
 have hJ:jt us k<us.length:=Ts (ow k) hk0;have S:=K4 (cf:=cf) k hk0;have n1:wL (VW Y cf us) (k:Nat)=u5 us k:=by show(decide ((0:Int)<=(k:Int))&&(bW false (toD cf 0 us)).getD (k:Int).toNat false)=_;rw[To (TM _),U3,Vc,FT k hk0]
 have n2:wL (VW Y cf us) (((k+1:Nat):Int)-2)=JU us k:=by
  cases k with|zero=>rfl|succ q=>rw[show((q+1+1:Nat):Int)-2=(q:Nat) by exact are [_] [] 1 123224861214000 art art];show(decide ((0:Int)<=(q:Int))&&(bW false (toD cf 0 us)).getD (q:Int).toNat false)=u5 us q;rw[To (TM _),U3,Vc,FT q (TV ‹_›)]
 have ak:∀(i:Nat),i<us.length->nc (VW Y cf us) (i:Nat) ["AK","AS"]=yN (uA us i):=fun i hi=>by unfold nc;rw[FW,To hi,U3,ma hi];show(inS (wA us i) _||(cf (uA us i).s==9676))=_;rw[μ.dc _ (hu i hi)];rfl
 unfold hY gT Fq;have ku:bM (VW Y cf us) (k:Nat)=_:=ma (Y:=Y) (cf:=cf) hk0;have ku1:bM (VW Y cf us) ((k+1:Nat):Int)=_:=ma (Y:=Y) (cf:=cf) hk;have hj:(bM (VW Y cf us) (k:Nat)).j=(uA us k).j:=by rw[ku]
 have hg:(VW Y cf us).gc (bM (VW Y cf us) (k:Nat)).code=(uA us k).s.g:=by rw[ku];exact μ.gc _ (hu k hk0)
 have hep:(VW Y cf us).ep (bM (VW Y cf us) (k:Nat)).code=(uA us k).s.p:=by rw[ku];exact μ.ep _ (hu k hk0)
 have hst:(VW Y cf us).st=h.st:=μ.st;have hka:(VW Y cf us).ka=h.ka:=μ.ka;have hS:(jr (VW Y cf us) (k:Nat)=(jt us k:Nat))\/(jr (VW Y cf us) (k:Nat) = -1/\wA us (jt us k)="SP"):=by
  rw[esol];rcases S with⟨s1,_⟩|⟨s1,s2⟩
  .exact .inl s1
  .exact .inr ⟨s1,Ub.mp s2⟩
 have zs:∀{R:Str->Bool},R ""=R "SP" -> R (aV (VW Y cf us) (jr (VW Y cf us) (k:Nat)))=R (wA us (jt us k)):=fun{R} hR=>by
  rcases hS with s1|⟨s1,s2⟩
  .rw[s1,gE]
  .rw[s1,s2,rS (by decide)];exact hR
 have hlen:((VW Y cf us).us.length:Int)=(us.length:Int):=by show((toD cf 0 us).length:Int)=_;rw[fZ]
 refine(Tx gS (Kb e1 gE gE (by rw[e2,gE]) hj hg hep hst hka n1 n2 (ak k hk0) (ak (k+1) hk))).trans (FS μ.nm (zs (R:=(· == "ZW")) (by decide)) (zs (R:=(· == "OP")) (by decide)) (zs (R:=fun x=>inS x ["CL","CP"]) (by decide)) (zs (R:=(· == "B2")) (by decide)) ?_ ?_ (Qz rfl) ?_ ?_ ?_ ?_ ?_)
 . rcases hS with s1|⟨s1,s2⟩
   . rw[s1];unfold uO;rw[gE,ma hJ];show(((wA us (jt us k)=="QU")&&(Y.gc (cf (uA us (jt us k)).s)=="Pi"))&&_)=_;rw[μ.gc _ (hu _ hJ),Bool.and_assoc]
     congr 2
     cases hj0:jt us k with|zero=>rfl|succ q=>rw[show((q+1:Nat):Int)-1=(q:Nat) by exact are [_] [] 1 120335729968 art art,gE];rfl
   .rw[s1,s2];unfold uO;rw[rS (by decide)];rfl
 .unfold uO;rw[gE,ku1,hlen];show(((wA us (k+1)=="QU")&&(Y.gc (cf (uA us (k+1)).s)=="Pf"))&&_)=_;rw[μ.gc _ (hu _ hk),Bool.and_assoc]
 .cases k with|zero=>rw[rS (by decide)];rfl|succ q=>rw[show((q+1+1:Nat):Int)-2=(q:Nat) by exact are [_] [] 1 123224861214000 art art,gE,To (by exact ar0 [_] [] 1 3342601815337 art),U3];rfl
 . have r2:nc (VW Y cf us) ((k+1:Nat):Int) ["AK"]=((wA us (k+1)=="AK")||dcO (uA us (k+1)).s.c 9676):=by unfold nc;rw[FW,To hk,U3,ku1];show(inS (wA us (k+1)) _||(cf (uA us (k+1)).s==9676))=_;rw[μ.dc _ (hu _ hk)];simp only[inS,UP,bq (x:=wA us (k+1))]
   rw[r2];cases k with|zero=>unfold nc;rw[Ai (by decide)];rfl|succ q=>rw[show((q+1+1:Nat):Int)-2=(q:Nat) by exact are [_] [] 1 123224861214000 art art,ak q (TV ‹_›),To (show(1:Int)<((q+1+1:Nat):Int) by exact ar0 [_] [] 1 3342601815337 art),U3];rfl
 .unfold yw;rw[ku1];show(!inS (Y.ea (cf (uA us (k+1)).s)) _)=_;rw[μ.ea _ (hu _ hk)]
 .unfold yw;rw[ku];show(!inS (Y.ea (cf (uA us k).s)) _)=_;rw[μ.ea _ (hu _ hk0)]
 . have hr:(VW Y cf us).reg.getD ((k:Nat):Int).toNat 0=((k+1:Nat):Int)-1-riZ us (k+1):=by show(ci 0 (toD cf 0 us)).getD ((k:Nat):Int).toNat 0=_;rw[Vc,K5 k hk0];exact are [_] [_] 1 99159560622792816 art art
   rw[hr];cases q:(wA us k=="RI")with|true=>rw[U3]|false=>
    have:riZ us (k+1)=k:=by show cond (wA us k=="RI") _ _=_;rw[q];rfl
    rw[this,show((k+1:Nat):Int)-1-(k:Int)=0 by exact are [_] [] 1 283794335696176 art art];rfl
end
section
variable{cf:aA->Int}{us:List UL}{Y:np}{h:hW}{ss:List aA}
theorem mc{i:Nat}(hi:i<us.length):gK us (i+1)=gK us i+(uA us i).m:=by unfold gK;rw[Un,rN hi];show fC (us.take i++[uA us i])=_;rw[ga]
theorem pC:∀(d i:Nat),i+d<=us.length->gK us i<=gK us (i+d)
 |0,i,_=>TB _
 |d+1,i,hi=>by have:=pC d i (ar1 [_,_,_] [] 0 635020109719088 hi art);have:=mc (us:=us) (i:=i+d) hi;rw[show i+(d+1)=i+d+1 from(Ws _ _ _).symm];lia
theorem rT(hm:∀i<us.length,1<=(uA us i).m):∀i,i<=us.length->(bY us h i).length=gK us i
 |0,_=>rfl
 |i+1,hi=>by have ih:=rT hm i (UU ‹_›);have:=hm i (WV ‹_›);have:=mc (us:=us) (i:=i) (WV ‹_›);unfold bY jc;rw[Tm,Ug,Vq,ih];lia
theorem FX(k:Nat):orV (hY us h k) (gT us h k)=.str (jV us h (k+1)):=by
 show _=V.str (nt (orV (hY us h k) (gT us h k)));rcases Ab us h k with r|⟨x,r⟩
 .obtain⟨y,ry⟩:=wZ us h k;rw[r,ry];rfl
 .rw[r];rfl
theorem Aj{n:Nat}:svs (List.replicate n ("no":Str))=List.replicate n nO:=by unfold svs;rw[WN]
theorem Kd{n:Nat}(hn:1<=n):(fs0 n).map gS=List.replicate n nO++[mU]:=by
 unfold fs0;rw[List.map_set,List.map_set,WN];obtain⟨m,rfl⟩:∃m,n=m+1:=⟨n-1,(VG ‹_›).symm⟩;have e:List.replicate (m+1+1) nO=List.replicate (m+1) nO++[nO]:=by rw[<-Vy (n:=m+1) (m:=1)];rfl
 show((List.replicate (m+1+1) nO).set (m+1) mU).set 0 nO=_;rw[e,Uz _ _ (by rw[Vq];exact TB _),Vq,UB];rfl
theorem xb(μ:YOK Y h cf ss)(hu:∀i<us.length,(uA us i).s∈ss)(hm:∀i<us.length,1<=(uA us i).m):∀K,K<us.length ->
 (fV (VW Y cf us) (fC us) K).map gS=svs (bY us h (K+1))++(List.replicate (fC us-gK us (K+1)) nO++[mU])
 |0,hK=>by
  have h0:=hm 0 hK;have tot:gK us us.length=fC us:=by unfold gK;rw[Ur]
  have le:=pC (us:=us) (us.length-1) 1 (ar1 [_,_] [] 0 585736160560 (fp (n:=us.length) (m:=1) (ar1 [_] [] 0 546833704 hK art)) art);rw[show 1+(us.length-1)=us.length by exact Ud (ar1 [_,_] [] 0 585736160560 (fp (n:=us.length) (m:=1) (ar1 [_] [] 0 546833704 hK art)) art) (ar1 [_,_] [] 0 52932159024 (iX (n:=us.length) (m:=1) (ar1 [_] [] 0 546833704 hK art)) art),tot]at le;have o1:gK us 1=(uA us 0).m:=by rw[mc hK];show 0+_=_;rw[VZ]
  show(fs0 (fC us)).map gS=_;rw[Kd (by exact ar3 [_,_,_] [] 0 594393188912 h0 (TF (Ul o1) :) le art)];have p:svs (bY us h (0+1))=List.replicate (uA us 0).m nO:=by show svs ([]++jc us h 0)=_;rw[Wz];unfold jc;show svs ("no"::List.replicate ((uA us 0).m-1) "no")=_;rw[<-U0,show(uA us 0).m-1+1=(uA us 0).m from VG ‹_›,Aj]
  rw[p,VZ,o1,<-Tl,Vy,show(uA us 0).m+(fC us-(uA us 0).m)=fC us by exact Ud (ar1 [_,_,_] [] 0 620104320560 (fp (n:=fC us) (m:=(uA us 0).m) (ar2 [_,_,_] [] 0 589842992 (TF (Ul o1) :) le art)) art) (ar1 [_,_,_] [] 0 53234158128 (iX (n:=fC us) (m:=(uA us 0).m) (ar2 [_,_,_] [] 0 589842992 (TF (Ul o1) :) le art)) art)]
 |K+1,hK=>by
  have ih:=xb μ hu hm K (TV ‹_›);have hm1:=hm (K+1) hK;have tot:gK us us.length=fC us:=by unfold gK;rw[Ur]
  have le:=pC (us:=us) (us.length-(K+1+1)) (K+1+1) (ar1 [_,_,_] [] 0 681793139606853350630960 (fp (n:=us.length) (m:=K+1+1) (ar1 [_,_] [] 0 613933535078942000 hK art)) art);rw[show K+1+1+(us.length-(K+1+1))=us.length by exact Ud (ar1 [_,_,_] [] 0 681793139606853350630960 (fp (n:=us.length) (m:=K+1+1) (ar1 [_,_] [] 0 613933535078942000 hK art)) art) (ar1 [_,_,_] [] 0 57896306009684835617328 (iX (n:=us.length) (m:=K+1+1) (ar1 [_,_] [] 0 613933535078942000 hK art)) art),tot]at le;have os:=mc (us:=us) (i:=K+1) hK;have pl:=rT (h:=h) hm (K+1) (TX ‹_›);show((fV (VW Y cf us) (fC us) K).set (bM (VW Y cf us) ((K+1:Nat):Int)).at'.toNat (rn (VW Y cf us) ((K+1:Nat):Int))).map gS=_;rw[List.map_set,ih,ma hK,Kc μ hu hK,FX];have e:(((0+gK us (K+1):Nat):Int)).toNat=(svs (bY us h (K+1))).length:=by rw[Vc,VZ,svs,Tn,pl]
  show(svs (bY us h (K+1))++(List.replicate (fC us-gK us (K+1)) nO++[mU])).set (((0+gK us (K+1):Nat):Int)).toNat _=_;rw[e,Uz _ _ (TB _),UB];obtain⟨r,hr⟩:∃r,fC us-gK us (K+1)=r+1:=⟨fC us-gK us (K+1)-1,by grind⟩;rw[hr,U0];show svs (bY us h (K+1))++(V.str (jV us h (K+1))::(List.replicate r nO++[mU]))=_;have p:svs (bY us h (K+1+1))=svs (bY us h (K+1))++(V.str (jV us h (K+1))::List.replicate ((uA us (K+1)).m-1) nO):=by show svs (bY us h (K+1)++jc us h (K+1))=_;rw[ox];unfold jc;show _++(V.str _::svs (List.replicate _ _))=_;rw[Aj]
  rw[p,Tl,V0,<-Tl (List.replicate ((uA us (K+1)).m-1) nO),Vy,show(uA us (K+1)).m-1+(fC us-gK us (K+1+1))=r by grind]
theorem Os(μ:YOK Y h cf ss)(h0:ss≠[]):BK Y (ss.map cf)=svs (iT (aE h.st ss) h):=by
 obtain⟨e1,e2⟩:=xa (cf:=cf) (st:=h.st) (cl:=Y.cl) ss μ.cl;have hm:∀i<(aE h.st ss).length,1<=(uA (aE h.st ss) i).m:=fun i hi=>(oy hi).1;have hpos:0<(aE h.st ss).length:=by
  cases q:aE h.st ss with|cons _ _=>exact Nat.succ_pos _|nil=>
   rw[q]at e2;cases ss with|nil=>exact absurd rfl h0|cons _ _=>exact absurd e2 (by show(0:Nat)≠_+1;lia)
 unfold BK;rw[e1,fZ,Tn,<-e2];have r:=xb (us:=aE h.st ss) μ (fun i hi=>FV hi) hm ((aE h.st ss).length-1) (Nat.sub_lt ‹_› (by decide));rw[show(aE h.st ss).length-1+1=(aE h.st ss).length by exact Ud (ar1 [_,_] [] 0 585508619568 (fp (n:=(aE h.st ss).length) (m:=1) (ar1 [_] [] 0 546833704 hpos art)) art) (ar1 [_,_] [] 0 44610659888 (iX (n:=(aE h.st ss).length) (m:=1) (ar1 [_] [] 0 546833704 hpos art)) art)]at r;have tot:gK (aE h.st ss) (aE h.st ss).length=fC (aE h.st ss):=by unfold gK;rw[Ur]
 rw[tot,UB]at r;refine r.trans ?_;unfold iT;rw[ox];rfl
end
section
variable{P:Params}{d D:Nat}{J s':Hp}{st nm:Str}{ka:Bool}
abbrev lhQ(P:Params):cF:=((a_T P).cls.lookup ("LineHow":Str)).getD ⟨[],[]⟩
theorem QA:cP P (d+1) "LineHow" "__init__" [.inst "LineHow" J.length] [] (J++[ab.dict []]) .none (J++[sL "strict" false "pairs"]):=by have k1:cY (a_T P) (J++[ab.dict []]) (.inst "LineHow" J.length) "strictness" (.str "strict")=some (J++[ab.dict [("strictness",.str "strict")]]):=gw (lhQ P) (by rfl') (by rfl') (by simp);have k2:cY (a_T P) (J++[ab.dict [("strictness",.str "strict")]]) (.inst "LineHow" J.length) "keep_all" (.bool false)=some (J++[ab.dict [("strictness",.str "strict"),("keep_all",.bool false)]]):=gw (lhQ P) (by rfl') (by rfl') (by simp);have k3:cY (a_T P) (J++[ab.dict [("strictness",.str "strict"),("keep_all",.bool false)]]) (.inst "LineHow" J.length) "numbers" (.str "pairs")=some (J++[ab.dict [("strictness",.str "strict"),("keep_all",.bool false),("numbers",.str "pairs")]]):=gw (lhQ P) (by rfl') (by rfl') (by simp);exact ag (fx P) ([V.inst (Str.ofString "LineHow") (List.length J)]++(fun x=>V.str (Str.ofString "strict")::x) ((fun x=>V.bool false::x) ((fun x=>V.str (Str.ofString "pairs")::x) []))) (fun z=>(zS k1 (zS k2 (zS k3 (z0 z)).R).R).R.F.C.R.F.C.R)
theorem Ke:cP P (d+2) "LineBreaks" "__init__" [.inst "LineBreaks" J.length,.inst "Data" D] [] (J++[ab.dict []]) .none (J++[rH D (J.length+1)]++[sL "strict" false "pairs"]):=by
 have k1:cY (a_T P) (J++[ab.dict []]) (.inst "LineBreaks" J.length) "data" (.inst "Data" D)=some (J++[ab.dict [("data",.inst "Data" D)]]):=gw (lbC P) (by rfl') (by rfl') (by simp);have h0:=QA (P:=P) (d:=d) (J:=J++[ab.dict [("data",.inst "Data" D)]]);have k2:cY (a_T P) (J++[ab.dict [("data",.inst "Data" D)]]++[sL "strict" false "pairs"]) (.inst "LineBreaks" J.length) "how" (.inst "LineHow" (J++[ab.dict [("data",.inst "Data" D)]]).length)=some (J++[rH D (J.length+1)]++[sL "strict" false "pairs"]):=by rw[ET (lbC P) aN (by rfl') (by rfl') (by simp),eK rfl,Tm];rfl
 exact ag (d9 P) ([V.inst (Str.ofString "LineBreaks") (List.length J),V.inst (Str.ofString "Data") D]++(fun x=>V.none::x) []) (fun z=>(zS k1 (zN h0 (zS k2 (z0 z))).R.F.C.R).R)
end
noncomputable def FY:V->Bool
 |.bool b=>b
 |_=>false
def YL(f:Str->Int->V)(st nm:Str)(ka:Bool):np :=
 ⟨fun c=>fW (nt (f "lb" c)) (nt (f "gc" c)) st (ql c) c,fun c=>nt (f "gc" c),fun c=>nt (f "ea" c),fun c=>FY (f "ep" c),st,nm,ka⟩
theorem FZ{c:Int}(h1:4096<=c)(h2:c<4200):ql c="AL":=by
 have b:∀{x y:Int},4200<=x->btw x y c=false:=fun{x y} h=>by unfold btw;rw[Tz (by exact Int.not_le_of_gt (ar2 [] [_,_] 262657 968718853163077386600908088 h h2 art))];rfl
 unfold ql;rw[b (by decide),UA];have r:rK c wU=none:=by simp only[rK,b (show(4200:Int)<=4352 by decide),b (show(4200:Int)<=4448 by decide),b (show(4200:Int)<=4520 by decide),b (show(4200:Int)<=43360 by decide),b (show(4200:Int)<=55216 by decide),b (show(4200:Int)<=55243 by decide),UA]
 rw[r];rfl
theorem Kf{c:Int}(h2:c<4200):inZ c zZ=false:=by have b:∀{y:Int},4200<=y->(y==c)=false:=fun{y} h=>Tv.mpr (Int.ne_of_gt (TK ‹_› ‹_›));unfold zZ;simp only[inZ,b (show(4200:Int)<=12293 by decide),b (show(4200:Int)<=12347 by decide),b (show(4200:Int)<=12445 by decide),b (show(4200:Int)<=12446 by decide),b (show(4200:Int)<=12541 by decide),b (show(4200:Int)<=12542 by decide),UP]
section
variable{P:Params}{D m hh n:Nat}{J:Hp}{kn:KN}{f:Str->Int->V}{s:aA}{ss:List aA}{c:Int}{st nm:Str}{ka:Bool}
theorem vj(S:DSt J D kn f m)(h:cy s kn=some c):s∈bN/\(s.c=some c/\(c=9676\/c=12293)\/(s.c=none/\4096<=c/\c<4200)):=by
 obtain⟨h1,h2⟩:=S.rg _ (oz h);have hl:=S.kl;refine⟨h1,?_⟩;rcases h2 with h2|⟨h2,h3,h4⟩
 . have h1:s∈bN:=h1;have h2:s.c=some c:=h2;rcases dK s h1 with⟨z,_⟩|⟨z|z,_⟩
   .rw[z]at h2;exact nomatch h2
   .exact .inl ⟨h2,.inl (Tp (h2.symm.trans z.1))⟩
   .exact .inl ⟨h2,.inr (Tp (h2.symm.trans z.1))⟩
 .exact .inr ⟨h2,h3,by have h4:c<4096+(kn.length:Int):=h4;exact ar2 [_] [_] 513 5324258841316533426932888765793488 h4 hl art⟩
theorem F0(S:DSt J D kn f m)(h:cy s kn=some c):fW s.n s.g st (ql c) c=bT st s:=by
 obtain⟨hs,hc⟩:=vj S h;have z:inZ c zZ=dcO s.c 12293:=by
  rcases hc with⟨h1,rfl|rfl⟩|⟨h1,h2,h3⟩
  .rw[h1];decide
  .rw[h1];decide
  .rw[h1,Kf h3];rfl
 have x:s.n="XX" -> ql c="AL":=fun hx=>by
  rcases hc with⟨h1,h2⟩|⟨h1,h2,h3⟩
  . rcases dK s hs with⟨y,_⟩|⟨y|y,_⟩
    .rw[y]at h1;exact nomatch h1
    .rw[y.2]at hx;exact absurd hx (by show ¬(("AL":Str)="XX");decide)
    .rw[y.2]at hx;exact absurd hx (by show ¬(("NS":Str)="XX");decide)
  .exact FZ h2 h3
 unfold bT jb fW;rw[z];by_cases q1:s.n="AI"
 .rw[q1];rfl
 by_cases q2:s.n="SG"
 .rw[q2];rfl
 by_cases q3:s.n="XX"
 .rw[x q3,q3];rfl
 have i0:inS s.n ["AI","SG","XX"]=false:=by simp only[inS,bq (x:=s.n),Tv.mpr q1,Tv.mpr q2,Tv.mpr q3,UP]
 rw[i0,UA,UA];have e:((st=="loose")&&dcO s.c 12293)=(dcO s.c 12293&&(st=="loose")):=Bool.and_comm _ _;rw[e]
theorem Ot(S:DSt J D kn f m)(ρ:J[hh]?=some (sL st ka nm))(hk:∀s∈ss,cy s kn=some (e8 kn s)):uU P J D hh (YL f st nm ka) (ss.map (e8 kn)):=by
 have hl:=S.kl;have ml:=S.ml;have key:∀c∈ss.map (e8 kn),∃s,f "lb" c=.str s.n/\f "gc" c=.str s.g/\f "ea" c=.str s.e/\f "ep" c=.bool s.p/\0<=c/\c<1114111/\cy s kn=some c:=fun c hc=>by obtain⟨s,hs,rfl⟩:=Uw.mp hc;obtain⟨a1,a2,a3,a4⟩:=S.fk _ (oz (hk s hs));have:=(vj S (hk s hs)).2;exact⟨s,a1,a2,a3,a4,by grind,by grind,hk s hs⟩
 have A:∀H,ef (J++H) D (D+7) f m:=fun H=>S.A.more;refine⟨fun d c hc H=>?_,ρ,S.A.dat,fun d c hc H=>?_,fun d c hc H=>?_,fun d c hc H=>?_⟩
 .obtain⟨s,a1,a2,a3,a4,b1,b2,b3⟩:=key c hc;have g1:=E6 (P:=P) (d:=d+2) (k:="lb") (A H) (ar2 [_,_] [] 1048576 46196274650896729296 ml hl art) b1 b2;have g2:=E6 (P:=P) (d:=d+2) (k:="gc") (A H) (ar2 [_,_] [] 1048576 46196274650896729296 ml hl art) b1 b2;rw[a1]at g1;rw[a2]at g2;show rq P (d+6) D hh (J++H) c (fW (nt (f "lb" c)) (nt (f "gc" c)) st (ql c) c);rw[a1,a2];exact JL (dZ (dtC P) (A H).c0 (by rfl') (by rfl') (by rfl')) g1 g2 (ax (lhQ P) (aT ρ) rfl rfl) Ob
 .obtain⟨s,a1,a2,a3,a4,b1,b2,b3⟩:=key c hc;have g:=E6 (P:=P) (d:=d+1) (k:="gc") (A H) (ar2 [_,_] [] 1048576 46196274650896729296 ml hl art) b1 b2;rw[a2]at g;show kI P (d+4) D (J++H) "gc" c (.str (nt (f "gc" c)));rw[a2];exact g
 .obtain⟨s,a1,a2,a3,a4,b1,b2,b3⟩:=key c hc;have g:=E6 (P:=P) (d:=d+1) (k:="ea") (A H) (ar2 [_,_] [] 1048576 46196274650896729296 ml hl art) b1 b2;rw[a3]at g;show kI P (d+4) D (J++H) "ea" c (.str (nt (f "ea" c)));rw[a3];exact g
 .obtain⟨s,a1,a2,a3,a4,b1,b2,b3⟩:=key c hc;have g:=E6 (P:=P) (d:=d+1) (k:="ep") (A H) (ar2 [_,_] [] 1048576 46196274650896729296 ml hl art) b1 b2;rw[a4]at g;show kI P (d+4) D (J++H) "ep" c (.bool (FY (f "ep" c)));rw[a4];exact g
theorem Ou(S:DSt J D kn f m)(hk:∀s∈ss,cy s kn=some (e8 kn s)){h:hW}(hn:(nm=="expression")=h.iw):YOK (YL f h.st nm h.ka) h (e8 kn) ss:=by
 have fk:∀s∈ss,_:=fun s hs=>S.fk _ (oz (hk s hs));refine⟨fun s hs=>?_,fun s hs=>?_,fun s hs=>?_,fun s hs=>?_,fun s hs=>?_,rfl,rfl,hn⟩
 .show fW (nt (f "lb" _)) (nt (f "gc" _)) h.st _ _=_;rw[(fk s hs).1,(fk s hs).2.1];exact F0 S (hk s hs)
 .show nt (f "gc" _)=_;rw[(fk s hs).2.1];rfl
 .show nt (f "ea" _)=_;rw[(fk s hs).2.2.1];rfl
 .show FY (f "ep" _)=_;rw[(fk s hs).2.2.2];rfl
 . rcases(vj S (hk s hs)).2 with⟨a,_⟩|⟨a,b,c⟩
   .rw[a];rfl
   .rw[a];exact Tv.mpr (Int.ne_of_lt (ar1 [] [_] 513 356985067720811643864376 c art))
end
theorem Al{p:Nat->Bool}{c:Nat}:∀{l:List Nat},l.Pairwise (· < ·)->c∈l->p c=true->(∀e∈l,c<e->p e=false)->(l.filter p).getLast?=some c
 |[],_,h,_,_=>absurd h Up
 |a::r,s,h,pc,k=>by
  rw[VM]at s;by_cases hr:c∈r
  . have:=Al s.2 hr pc fun e he q=>k e (Va _ he) q;rw[UZ]
    split
    .rw[List.getLast?_cons,this];rfl
    .exact this
  . have e:c=a:=(TS.mp h).resolve_right hr;subst e;have z:r.filter p=[]:=VK.mpr fun e he q=>by rw[k e (Va _ he) (s.1 e he)]at q;exact Bool.noConfusion q
    rw[UZ,if_pos pc,z];rfl
theorem Kg{l:List Nat}{c:Nat}(s:l.Pairwise (· < ·))(h:c∈l)(k:∀e∈l,c<=e):l.head?=some c:=by
 cases l with|nil=>exact absurd h Up|cons a r=>
  rw[VM]at s;rcases TS.mp h with rfl|h
  .rfl
  .exact absurd (s.1 c h) (Vd.mpr (k a UG))
theorem md{l:List Nat}{c:Nat}(s:l.Pairwise (· < ·))(h:c∈l):∃a,l.head?=some a/\a∈l/\∀e∈l,a<=e:=by
 cases l with|nil=>exact absurd h Up|cons a r=>rw[VM]at s;exact⟨a,rfl,UG,fun e he=>(TS.mp he).elim (fun q=>q▸TB _) fun q=>TX (s.1 e q)⟩
structure Fit where
 cs:List Nat
 inn:List Nat
 must:Nat->Bool
 W:Nat->Nat->Int
 mo:Int
 n:Nat
variable(F:Fit)
noncomputable def eG(s:Nat):List Nat:=F.cs.filter fun e=>decide (s<e)
def Am(s:Nat):Nat:=(((eG F s).filter F.must).head?).getD 0
def sP(s:Nat):List Nat:=(eG F s).filter fun e=>decide (e<=Am F s)&&decide (F.W s e<=F.mo)
def jX(s:Nat):Nat:=((eG F s).head?).getD 0
noncomputable def inL(s c:Nat):List Nat:=F.inn.filter fun p=>(decide (s<p)&&decide (p<c))&&decide (F.W s p<=F.mo)
def ju(s c:Nat):Option Nat:=(inL F s c).getLast?
def eL(s:Nat):Nat:=match(sP F s).getLast? with
 |some e=>e
 |none=>(ju F s (jX F s)).getD (jX F s)
inductive iU:Nat->List (Nat×Nat)->Prop
 |nil:iU F.n []
 |cons {s:Nat}{l:List (Nat×Nat)} (h:s<F.n) (t:iU (eL F s) l):iU s ((s,eL F s)::l)
variable{F}
theorem iU.det{s:Nat}{l:List (Nat×Nat)}(h:iU F s l):∀{l'},iU F s l'->l=l':=by
 induction h with
 |nil=>intro l' k;cases k with
  |nil=>rfl
  |cons h _=>exact absurd h (UN _)
 |cons h _ ih=>intro l' k;cases k with
  |nil=>exact absurd h (UN _)
  |cons _ t=>rw[ih t]
structure iV(F:Fit):Prop where
 s:F.cs.Pairwise (· < ·)
 e:F.n∈F.cs
 m:F.must F.n=true
 le:∀e∈F.cs,e<=F.n
 mono:∀s a b,a<=b->F.W s a<=F.W s b
section
variable{s c:Nat}(μ:iV F)
theorem cE{e:Nat}:e∈eG F s↔e∈F.cs/\s<e:=by unfold eG;rw[UE,U4]
include μ in
theorem pD:(eG F s).Pairwise (· < ·):=μ.s.filter _
include μ in
theorem F3(hc:c∈F.cs)(h:s<c)(nm:∀e∈F.cs,s<e->e<c->F.must e=false)(w:F.W s c<=F.mo)(r:∀e∈F.cs,c<e->F.must c=true\/F.mo<F.W s e):eL F s=c:=by
 have hm:F.n∈(eG F s).filter F.must:=UE.mpr ⟨cE.mpr ⟨μ.e,TG h (μ.le c hc)⟩,μ.m⟩;obtain⟨a,h1,h2,h3⟩:=md ((pD μ).filter _) hm;obtain⟨h2,h4⟩:=UE.mp h2;obtain⟨h5,h6⟩:=cE.mp h2;have hd:Am F s=a:=by unfold Am;rw[h1];rfl
 have ca:c<=a:=Vd.mp fun q=>by rw[nm a h5 h6 q]at h4;exact Bool.noConfusion h4
 have l:(sP F s).getLast?=some c:=Al (pD μ) (cE.mpr ⟨hc,h⟩) (by rw[hd,To ca,To w];rfl) fun e he q=>by
  rcases r e (cE.mp he).1 q with q1|q1
  .have:=h3 c (UE.mpr ⟨cE.mpr ⟨hc,h⟩,q1⟩);rw[hd,Tz (WP.mpr (Ts this q))];rfl
  .rw[Tz (Int.not_le.mpr q1),VA]
 unfold eL;rw[l]
include μ in
theorem F4(hc:c∈F.cs)(h:s<c)(fst:∀e∈F.cs,s<e->c<=e):jX F s=c:=by unfold jX;rw[Kg (pD μ) (cE.mpr ⟨hc,h⟩) fun e he=>fst e (cE.mp he).1 (cE.mp he).2];rfl
include μ in
theorem F5(hc:c∈F.cs)(h:s<c)(fst:∀e∈F.cs,s<e->c<=e)(w:F.mo<F.W s c):eL F s=(ju F s c).getD c:=by
 have z:sP F s=[]:=VK.mpr fun e he q=>by have:=μ.mono s c e (fst e (cE.mp he).1 (cE.mp he).2);rw[TC,U4,U4]at q;exact absurd (Int.le_trans this q.2) (Int.not_le.mpr w)
 unfold eL;rw[z,F4 μ hc h fst];rfl
theorem Ao{p:Nat}(h:ju F s c=some p):s<p/\p<c/\F.W s p<=F.mo:=by obtain⟨_,h⟩:=UE.mp (Wt h);rw[TC,TC,U4,U4,U4]at h;exact⟨h.1.1,h.1.2,h.2⟩
end
inductive rU(F:Fit)(pre:List Nat)(s:Nat):Option Nat->Prop
 |no (h:∀e∈pre,e<=s):rU F pre s none
 |some (c:Nat) (m:c∈pre) (h:s<c) (le:∀e∈pre,e<=c) (nm:∀e∈pre,s<e->F.must e=false) (w:F.W s c<=F.mo\/(F.mo<F.W s c/\(∀e∈pre,s<e->e=c)/\ju F s c=none)):rU F pre s (some c)
noncomputable def eH(F:Fit)(f:List (Nat×Nat))(s:Nat):Prop:=∀l,iU F s l->iU F 0 (f++l)
theorem eH.snoc{f:List (Nat×Nat)}{s e:Nat}(T:eH F f s)(h:s<F.n)(q:eL F s=e):eH F (f++[(s,e)]) e:=fun l hl=>by subst q;rw[Tl];exact T _ (.cons h hl)
section
variable{pre post:List Nat}{s c c':Nat}{f:List (Nat×Nat)}(μ:iV F)(hs:F.cs=pre++c'::post)
include μ hs in
theorem iW:c'∈F.cs/\c'<=F.n/\(∀e∈pre,e∈F.cs/\e<c')/\(∀e∈F.cs,e∈pre\/c'<=e):=by
 have p:=μ.s;rw[hs,VV,VM]at p;have m:c'∈F.cs:=by rw[hs];exact UT _ UG
 refine⟨m,μ.le _ m,fun e he=>⟨by rw[hs];exact Uu _ he,p.2.2 e he c' UG⟩,fun e he=>?_⟩;rw[hs]at he;rcases TJ.mp he with he|he
 .exact .inl he
 . rcases TS.mp he with rfl|he
   .exact .inr (TB _)
   .exact .inr (TX (p.2.1.1 e he))
include μ hs in
theorem Ov(K:rU F pre s (some c))(w:F.mo<F.W s c')(T:eH F f s):eH F (f++[(s,c)]) c/\(∀e∈pre,e<=c)/\c<c':=by
 obtain⟨c1,c2,c3,c4⟩:=iW μ hs;cases K with|some _ m h le nm w0=>
 obtain⟨m1,m2⟩:=c3 c m;refine⟨T.snoc (TG h (μ.le c m1)) ?_,le,m2⟩;rcases w0 with w0|⟨w0,k1,k2⟩
 . refine F3 μ m1 h (fun e he a b=>?_) w0 fun e he a=>.inr ?_
   . rcases c4 e he with q|q
     .exact nm e q a
     .exact absurd (TG m2 q) (Vd.mpr (TX b))
   . rcases c4 e he with q|q
     .exact absurd (le e q) (WP.mpr a)
     .exact TK w (μ.mono s c' e q)
 .rw[F5 μ m1 h (fun e he a=>(c4 e he).elim (fun q=>TF (k1 e q a).symm) fun q=>Tk (TX m2) q) w0,k2];rfl
include μ hs in
theorem K7(hf:∀e∈pre,e<=s)(h:s<c')(w:F.mo<F.W s c')(T:eH F f s):eL F s=(ju F s c').getD c'/\∀p,ju F s c'=some p->eH F (f++[(s,p)]) p/\(∀e∈pre,e<=p)/\p<c'/\s<p:=by obtain⟨c1,c2,c3,c4⟩:=iW μ hs;have nx:=F5 μ c1 h (fun e he a=>(c4 e he).elim (fun q=>absurd (hf e q) (WP.mpr a)) id) w;refine⟨nx,fun p hp=>?_⟩;obtain⟨p1,p2,_⟩:=Ao hp;exact⟨T.snoc (TG h c2) (by rw[nx,hp];rfl),fun e he=>TX (Ts (hf e he) p1),p2,p1⟩
inductive Mid(F:Fit)(pre:List Nat)(s c':Nat):Prop
 |fit (h:s<c') (nm:∀e∈pre,s<e->F.must e=false) (w:F.W s c'<=F.mo):Mid F pre s c'
 |wide (h:s<c') (hf:∀e∈pre,e<=s) (w:F.mo<F.W s c') (k:ju F s c'=none):Mid F pre s c'
theorem Mid.lt(M:Mid F pre s c'):s<c':=by cases M<;>assumption
include μ hs in
theorem F6(M:Mid F pre s c')(hm:F.must c'=true)(T:eH F f s):eH F (f++[(s,c')]) c'/\rU F (pre++[c']) c' none:=by
 obtain⟨c1,c2,c3,c4⟩:=iW μ hs;refine⟨T.snoc (TG M.lt c2) ?_,.no fun e he=>?_⟩
 . cases M with
   |fit h nm w=>exact F3 μ c1 h (fun e he a b=>(c4 e he).elim (fun q=>nm e q a) fun q=>absurd b (Vd.mpr q)) w fun _ _ _=>.inl hm
   |wide h hf w k=>rw[(K7 μ hs hf h w T).1,k];rfl
 . rcases TJ.mp he with he|he
   .exact TX (c3 e he).2
   .exact TF (Tw.mp he)
include μ hs in
theorem rV(M:Mid F pre s c')(hm:F.must c'=false):rU F (pre++[c']) s (some c'):=by
 obtain⟨c1,c2,c3,c4⟩:=iW μ hs;have le:∀e∈pre++[c'],e<=c':=fun e he=>(TJ.mp he).elim (fun q=>TX (c3 e q).2) fun q=>TF (Tw.mp q);refine .some c' (UT _ UG) M.lt le (fun e he a=>?_) ?_
 . rcases TJ.mp he with he|he
   .cases M with|fit h nm w=>exact nm e he a|wide h hf w k=>exact absurd (hf e he) (WP.mpr a)
   .rw[Tw.mp he];exact hm
 .cases M with|fit h nm w=>exact .inl w|wide h hf w k=>exact .inr ⟨w,fun e he a=>(TJ.mp he).elim (fun q=>absurd (hf e q) (WP.mpr a)) Tw.mp,k⟩
end
theorem F7{f:List (Nat×Nat)}{s:Nat}{ch:Option Nat}(μ:iV F)(K:rU F F.cs s ch)(T:eH F f s)(hs:s<=F.n):iU F 0 f:=by
 have e:s=F.n:=by
  cases K with|no h=>exact Ud hs (h _ μ.e)|some c m h le nm w=>have:=nm F.n μ.e (TG h (μ.le c m));rw[μ.m]at this;exact Bool.noConfusion this
 subst e;have:=T [] .nil;rwa [Ua]at this
theorem Kh(μ:iV F){s:Nat}(h:s<F.n):s<eL F s/\eL F s<=F.n:=by
 have hn:F.n∈eG F s:=cE.mpr ⟨μ.e,h⟩;obtain⟨a,h1,h2,h3⟩:=md (pD μ) hn;have fa:jX F s=a:=by unfold jX;rw[h1];rfl
 obtain⟨a1,a2⟩:=cE.mp h2;unfold eL;cases q:(sP F s).getLast? with
 |some e=>obtain⟨q1,q2⟩:=cE.mp (UE.mp (Wt q)).1;exact⟨q2,μ.le e q1⟩
 |none=>
  show s<(ju F s (jX F s)).getD (jX F s)/\_;rw[fa];cases q2:ju F s a with|none=>exact⟨a2,μ.le a a1⟩|some p=>obtain⟨p1,p2,_⟩:=Ao q2;exact⟨p1,Tk (TX p2) (μ.le a a1)⟩
abbrev msS(P:Params):Stmt:=db 2 (cJ P).body
noncomputable abbrev msL(n:Nat)(ws hs:List V)(o1 o2:Option V):Loc:=[("self",.v (some (.inst "LineMeasure" n))),("widths",.v (some (.lst ws))),("hangs",.v (some (.lst hs))),("at",.v o1),("width",.v o2),("enumerate",.g)]
noncomputable abbrev F8(P:Params)(d:Nat)(x:V)(loc:Loc)(J:Hp)(l:Loc)(s:Hp):Prop:=eZ (aJ P d (bf (msS P))) (av P d (bj (msS P))) x loc J .next l s
noncomputable abbrev Ow(P:Params)(d:Nat)(it:It)(loc:Loc)(J:Hp)(l:Loc)(s:Hp):Prop:=eW (aJ P d (bf (msS P))) (av P d (bj (msS P))) (bf (msS P)) it loc J .next l s
abbrev lwS(P:Params):Stmt:=db 1 (cX P).body
noncomputable abbrev lwL(ps:V)(st e:Int)(n:Nat)(mo:Int)(f:V)(o:Option V):Loc:=[("places",.v (some ps)),("start",.v (some (.int st))),("end",.v (some (.int e))),("measure",.v (some (.inst "LineMeasure" n))),("most",.v (some (.int mo))),("found",.v (some f)),("place",.v o)]
noncomputable abbrev vm(P:Params)(d:Nat)(x:V)(loc:Loc)(J:Hp)(l:Loc)(s:Hp):Prop:=eZ (aJ P d (bf (lwS P))) (av P d (bj (lwS P))) x loc J .next l s
noncomputable abbrev Ox(P:Params)(d:Nat)(it:It)(loc:Loc)(J:Hp)(l:Loc)(s:Hp):Prop:=eW (aJ P d (bf (lwS P))) (av P d (bj (lwS P))) (bf (lwS P)) it loc J .next l s
noncomputable abbrev WF(P:Params)(d n:Nat)(s:Hp)(a b w:Int):Prop:=cP P d "LineMeasure" "width" [.inst "LineMeasure" n,.int a,.int b] [] s (.int w) s
noncomputable abbrev WM(P:Params)(n:Nat)(s:Hp):Prop:=bd (a_T P) s (.inst "LineMeasure" n) "width"=some (.fn "LineMeasure")
section
variable{P:Params}{d n ra rb:Nat}{J s s1 s2:Hp}{i w x y st e mo p m q a b:Int}{ws hs:List V}{o1 o2 o:Option V}{ps f:V}
theorem Sk(g1:bS (a_T P) s (.inst "LineMeasure" n) "sums"=some (.ref ra))(m1:bd (a_T P) s (.ref ra) "append"=some (.bi "list.append"))(i1:af s (.ref ra) (.int (-1))=some (.int x))(p1:aQ s "list.append" (.ref ra) [.int (x+w)]=some (.none,s1))(g2:bS (a_T P) s1 (.inst "LineMeasure" n) "ends"=some (.ref rb))(m2:bd (a_T P) s1 (.ref rb) "append"=some (.bi "list.append"))(ih:af s1 (.lst hs) (.int i)=some (.bool true))(i2:af s1 (.ref rb) (.int (-1))=some (.int y))(p2:aQ s1 "list.append" (.ref rb) [.int y]=some (.none,s2)):
 F8 P d (.tup [.int i,.int w]) (msL n ws hs o1 o2) s (msL n ws hs (some (.int i)) (some (.int w))) s2:=by
 intro k hk;exact aw (zQ (zR (zR (zV g1 (zK m1 (zR (zV g1 (zC (zV i1 (zC (zP p1 (zQ (zR (zR (zV g2 (zK m2 (zV ih (z1 (zR (zV g2 (zC (zV i2 (zP p2 (z0 hk)))))))))))))))))))))))) (by rfl')
theorem Sn(g1:bS (a_T P) s (.inst "LineMeasure" n) "sums"=some (.ref ra))(m1:bd (a_T P) s (.ref ra) "append"=some (.bi "list.append"))(i1:af s (.ref ra) (.int (-1))=some (.int x))(p1:aQ s "list.append" (.ref ra) [.int (x+w)]=some (.none,s1))(g2:bS (a_T P) s1 (.inst "LineMeasure" n) "ends"=some (.ref rb))(m2:bd (a_T P) s1 (.ref rb) "append"=some (.bi "list.append"))(ih:af s1 (.lst hs) (.int i)=some (.bool false))(p2:aQ s1 "list.append" (.ref rb) [.int (i+1)]=some (.none,s2)):
 F8 P d (.tup [.int i,.int w]) (msL n ws hs o1 o2) s (msL n ws hs (some (.int i)) (some (.int w))) s2:=by
 intro k hk;exact aw (zQ (zR (zR (zV g1 (zK m1 (zR (zV g1 (zC (zV i1 (zC (zP p1 (zQ (zR (zR (zV g2 (zK m2 (zV ih (z2 (zC (zP p2 (z0 hk))))))))))))))))))))) (by rfl')
theorem So(k1:cY (a_T P) (J++[ab.dict []]++[ab.list [.int 0]]) (.inst "LineMeasure" J.length) "sums" (.ref (J++[ab.dict []]).length)=some s)(k2:cY (a_T P) (s++[ab.list [.int 0]]) (.inst "LineMeasure" J.length) "ends" (.ref s.length)=some s1)(L:Ow P d (.enm (.lst ws)) (msL J.length ws hs none none) s1 (msL J.length ws hs o1 o2) s2):
 cP P (d+1) "LineMeasure" "__init__" [.inst "LineMeasure" J.length,.lst ws,.lst hs] [] (J++[ab.dict []]) .none s2:=by
 exact ag (cJ P) ([V.inst (Str.ofString "LineMeasure") (List.length J),V.lst ws,V.lst hs]) (fun z=>(zS k1 (zS k2 (zL L (z0 z)).R.R).R.R).R.R)
theorem Sp(g1:bS (a_T P) s (.inst "LineMeasure" n) "ends"=some (.ref rb))(i1:af s (.ref rb) (.int e)=some (.int y))(mx:biI false "max" [.int st,.int y] s=some (.int m,s))(g2:bS (a_T P) s (.inst "LineMeasure" n) "sums"=some (.ref ra))(i2:af s (.ref ra) (.int m)=some (.int p))(i3:af s (.ref ra) (.int st)=some (.int q)):
 cP P (d+1) "LineMeasure" "width" [.inst "LineMeasure" n,.int st,.int e] [] s (.int (p-q)) s:=by
 exact ag (dS P) ([V.inst (Str.ofString "LineMeasure") n,V.int st,V.int e]) (fun z=>(zV g1 (zV i1 (zP mx (zV g2 (zV i2 (zV g2 (zV i3 (z0 z).C)).R)).R))).R.R.R)
theorem Sq(q1:decide (st<p)=false):vm P d (.int p) (lwL ps st e n mo f o) s (lwL ps st e n mo f (some (.int p))) s:=by intro k hk;exact aw (zC (zH q1 (zH q1 (zH q1 (z0 hk))))) (by rfl')
theorem Sr(q1:decide (st<p)=true)(q2:decide (p<e)=false):vm P d (.int p) (lwL ps st e n mo f o) s (lwL ps st e n mo f (some (.int p))) s:=by intro k hk;exact aw (zC (zH q1 (zC (zH q2 (zH q2 (z0 hk)))))) (by rfl')
theorem Ss(q1:decide (st<p)=true)(q2:decide (p<e)=true)(hm:WM P n s)(hw:WF P d n s st p w)(q3:decide (w<=mo)=false):vm P d (.int p) (lwL ps st e n mo f o) s (lwL ps st e n mo f (some (.int p))) s:=by unfold WM at hm;unfold WF at hw;intro k hk;exact aw (zC (zH q1 (zC (zH q2 (zR (zK hm (zD hw (zC (zH q3 (z0 hk)))))))))) (by rfl')
theorem St(q1:decide (st<p)=true)(q2:decide (p<e)=true)(hm:WM P n s)(hw:WF P d n s st p w)(q3:decide (w<=mo)=true):vm P d (.int p) (lwL ps st e n mo f o) s (lwL ps st e n mo (.int p) (some (.int p))) s:=by unfold WM at hm;unfold WF at hw;intro k hk;exact aw (zC (zH q1 (zC (zH q2 (zR (zK hm (zD hw (zC (zH q3 (zR (z0 hk))))))))))) (by rfl')
theorem Su(it:gZ s ps=some (.seq ps))(L:Ox P d (.seq ps) (lwL ps st e n mo .none none) s (lwL ps st e n mo f o) s):
 cP P (d+1) "" "line_last_within" [ps,.int st,.int e,.inst "LineMeasure" n,.int mo] [] s f s:=by
 exact ag (cX P) ([ps,V.int st,V.int e,V.inst (Str.ofString "LineMeasure") n,V.int mo]) (fun z=>(zI it (zL L (z0 z))).R)
end
noncomputable def Sm(w:Nat->Int):Nat->Int
 |0=>0
 |k+1=>Sm w k+w k
noncomputable def En(g:Nat->Bool):Nat->Nat
 |0=>0
 |k+1=>cond (g k) (En g k) (k+1)
noncomputable def Wd(w:Nat->Int)(g:Nat->Bool)(a b:Nat):Int:=Sm w (max a (En g b))-Sm w a
noncomputable def snL(f:Nat->Int)(k:Nat):List Int:=(List.range k).map f
noncomputable abbrev nvs(l:List Nat):List V:=l.map fun(k:Nat)=>V.int (k:Int)
noncomputable def BX:Option Nat->V
 |none=>.none
 |some p=>.int (p:Int)
noncomputable abbrev QB(a b:Nat):ab:=.dict [("sums",.ref a),("ends",.ref b)]
abbrev meC(P:Params):cF:=((a_T P).cls.lookup ("LineMeasure":Str)).getD ⟨[],[]⟩
abbrev mH(J:Hp)(A B:List V):Hp:=J++[QB (J.length+1) (J.length+2),.list A,.list B]
theorem gU{J l:Hp}{k:Nat}:(J++l)[J.length+k]?=l[k]?:=by rw[Uc (Uh _ _),UY]
theorem qF{J l:Hp}{k:Nat}{c:ab}:(J++l).set (J.length+k) c=J++l.set k c:=by rw[Uz _ _ (Uh _ _),UY]
theorem Ap{f:Nat->Int}{k:Nat}:(snL f k).length=k:=by unfold snL;rw[Tn,List.length_range]
theorem F9{f:Nat->Int}{k:Nat}:snL f (k+1)=snL f k++[f k]:=by unfold snL;rw[List.range_succ,TI];rfl
theorem vn{f:Nat->Int}{k:Nat}:ivs (snL f (k+1))=ivs (snL f k)++[.int (f k)]:=by rw[F9];unfold ivs;rw[TI];rfl
theorem vp{f:Nat->Int}{k i:Nat}(h:i<k):(ivs (snL f k))[i]?=some (.int (f i)):=by unfold ivs snL;rw[Ty,Ty,V4 h];rfl
theorem xc{g:Nat->Bool}:∀k,En g k<=k
 |0=>TB _
 |k+1=>by
  show cond (g k) (En g k) (k+1)<=k+1;cases g k
  .exact TB _
  .exact Wl (xc k)
section
variable{P:Params}{d n ra rb k a b:Nat}{J s:Hp}{ws:List Int}{hs:List Bool}{w:Nat->Int}{g:Nat->Bool}
theorem rW{J:Hp}{o:V}{f:Nat->Int}{i:Nat}(h:bF J o=some (ivs (snL f (i+1)))):af J o (.int (-1))=some (.int (f i)):=by rw[kZ h,vn];exact lX
theorem QC(hl:hs.length=ws.length)(hk:ws.length<=100)(hw:∀i (h:i<ws.length),w i=ws[i])(hg:∀i (h:i<hs.length),g i=hs[i]):cP P (d+1) "LineMeasure" "__init__" [.inst "LineMeasure" J.length,.lst (ivs ws),.lst (hs.map .bool)] [] (J++[ab.dict []]) .none
 (mH J (ivs (snL (Sm w) (ws.length+1))) (ivs (snL (fun j=>(En g j:Int)) (ws.length+1)))):=by
 have e1:(J++[ab.dict []]).length=J.length+1:=Tm;have k1:cY (a_T P) (J++[ab.dict []]++[ab.list [.int 0]]) (.inst "LineMeasure" J.length) "sums" (.ref (J++[ab.dict []]).length)=some (J++[ab.dict [("sums",.ref (J.length+1))],ab.list [.int 0]]):=by rw[e1,Tl,dU (meC P) (es:=[]) (gU (k:=0)) (by rfl') (by rfl') (by decide)];exact Tx some (qF (k:=0))
 have e2:(J++[ab.dict [("sums",.ref (J.length+1))],ab.list [.int 0]]).length=J.length+2:=Tm;have k2:cY (a_T P) (J++[ab.dict [("sums",.ref (J.length+1))],ab.list [.int 0]]++[ab.list [.int 0]]) (.inst "LineMeasure" J.length) "ends" (.ref (J++[ab.dict [("sums",.ref (J.length+1))],ab.list [.int 0]]).length)=some (mH J [.int 0] [.int 0]):=by rw[e2,Tl,dU (meC P) (es:=[("sums",.ref (J.length+1))]) (gU (k:=0)) (by rfl') (by rfl') (by simp)];exact Tx some (qF (k:=0))
 have hN:∀s,bD s (.enm (.lst (ivs ws)))=some ws.length:=fun s=>Tx some aK;refine Tu (dA (N:=ws.length) (it:=.enm (.lst (ivs ws))) (loc:=msL J.length (ivs ws) (hs.map .bool) none none) (J:=mH J [.int 0] [.int 0]) (tg:=bf (msS P)) (asg:=aJ P d (bf (msS P))) (body:=av P d (bj (msS P)))
  (fun i l s=>s=mH J (ivs (snL (Sm w) (i+1))) (ivs (snL (fun j=>(En g j:Int)) (i+1)))/\∃o1 o2,l=msL J.length (ivs ws) (hs.map .bool) o1 o2) (fun i l s hi I=>?_) (fun l s I=>hN _) (hN _) (by rfl') ⟨rfl,none,none,rfl⟩) fun l hh=>?_
 . obtain⟨rfl,o1,o2,rfl⟩:=I;have hx:fD (mH J (ivs (snL (Sm w) (i+1))) (ivs (snL (fun j=>(En g j:Int)) (i+1)))) i (.enm (.lst (ivs ws)))=some (.tup [.int i,.int (w i)]):=by show((ivs ws)[i]?).map _=_;rw[oh hi,hw i hi];rfl
   have lk:∀f:Nat->Int,ba (ivs (snL f (i+1)))=true:=fun f=>ar (by rw[aK,Ap];exact ar2 [_,_] [] 0 1180591775255670588030716112 hi hk art);have g1:∀A B,bS (a_T P) (mH J A B) (.inst "LineMeasure" J.length) "sums"=some (.ref (J.length+1)):=fun A B=>ax (meC P) (gU (k:=0)) rfl rfl;have g2:∀A B,bS (a_T P) (mH J A B) (.inst "LineMeasure" J.length) "ends"=some (.ref (J.length+2)):=fun A B=>ax (meC P) (gU (k:=0)) rfl rfl;have c1:∀A B,(mH J A B)[J.length+1]?=some (.list A):=fun A B=>gU (k:=1);have c2:∀A B,(mH J A B)[J.length+2]?=some (.list B):=fun A B=>gU (k:=2);have p1:aQ (mH J (ivs (snL (Sm w) (i+1))) (ivs (snL (fun j=>(En g j:Int)) (i+1)))) "list.append" (.ref (J.length+1)) [.int (Sm w i+w i)]=some (.none,mH J (ivs (snL (Sm w) (i+1+1))) (ivs (snL (fun j=>(En g j:Int)) (i+1)))):=by rw[dz (c1 _ _) (lk _),vn (k:=i+1),qF (k:=1)];rfl
   have p2:∀z:Int,z=(En g (i+1):Int)->aQ (mH J (ivs (snL (Sm w) (i+1+1))) (ivs (snL (fun j=>(En g j:Int)) (i+1)))) "list.append" (.ref (J.length+2)) [.int z]=some (.none,mH J (ivs (snL (Sm w) (i+1+1))) (ivs (snL (fun j=>(En g j:Int)) (i+1+1)))):=fun z hz=>by rw[hz,dz (c2 _ _) (lk _),vn (f:=fun j=>(En g j:Int)) (k:=i+1),qF (k:=2)];rfl
   have hh:hs[i]?=some (g i):=by rw[Tq (hl▸hi),hg i (hl▸hi)]
   have ih:∀s,af s (.lst (hs.map .bool)) (.int (i:Int))=some (.bool (g i)):=fun s=>by rw[jF];exact hX (by rw[Ty,hh];rfl) (by rw[Tn];exact Tk (TF ‹_›) (Tk ‹_› (by decide)))
   refine⟨hN _,.tup [.int i,.int (w i)],.next,_,_,hx,?_,.inl rfl,rfl,some (.int i),some (.int (w i)),rfl⟩;cases q:g i with
   |true=>
    have z:((En g i:Nat):Int)=(En g (i+1):Int):=by show _=((cond (g i) (En g i) (i+1):Nat):Int);rw[q];rfl
    exact Sk (g1 _ _) (aM (c1 _ _)) (rW (cq (c1 _ _))) p1 (g2 _ _) (aM (c2 _ _)) (q▸ih _) (rW (f:=fun j=>(En g j:Int)) (cq (c2 _ _))) (p2 _ z)
   |false=>
    have z:(i:Int)+1=(En g (i+1):Int):=by show _=((cond (g i) (En g i) (i+1):Nat):Int);rw[q];rfl
    exact Sn (g1 _ _) (aM (c1 _ _)) (rW (cq (c1 _ _))) p1 (g2 _ _) (aM (c2 _ _)) (q▸ih _) (p2 _ z)
 .obtain⟨s,⟨rfl,o1,o2,rfl⟩,L⟩:=hh;exact So k1 k2 L
structure mJ(s:Hp)(n:Nat)(w:Nat->Int)(g:Nat->Bool)(k:Nat):Prop where
 ex:∃ra rb,s[n]?=some (QB ra rb)/\s[ra]?=some (.list (ivs (snL (Sm w) (k+1))))/\s[rb]?=some (.list (ivs (snL (fun j=>(En g j:Int)) (k+1))))
theorem mJ.more{H:Hp}(M:mJ s n w g k):mJ (s++H) n w g k:=by obtain⟨ra,rb,h1,h2,h3⟩:=M.ex;exact⟨ra,rb,aT h1,aT h2,aT h3⟩
theorem Ki:mJ (mH J (ivs (snL (Sm w) (k+1))) (ivs (snL (fun j=>(En g j:Int)) (k+1)))) J.length w g k:=⟨_,_,gU (k:=0),gU (k:=1),gU (k:=2)⟩
theorem mJ.wm(M:mJ s n w g k):WM P n s:=by obtain⟨ra,rb,h1,h2,h3⟩:=M.ex;exact dZ (meC P) h1 (by rfl') (by rfl') (by rfl')
theorem vq(M:mJ s n w g k)(hk:k<=100)(ha:a<=k)(hb:b<=k):WF P (d+1) n s (a:Int) (b:Int) (Wd w g a b):=by
 obtain⟨ra,rb,h1,h2,h3⟩:=M.ex;have le:=xc (g:=g) b;have mx:biI false "max" [.int (a:Int),.int (En g b:Int)] s=some (.int ((max a (En g b):Nat):Int),s):=by
  show some (V.int (if(En g b:Int)>(a:Int)then(En g b:Int)else(a:Int)),s)=_;by_cases q:(En g b:Int)>(a:Int)
  .rw[if_pos q,Nat.max_eq_right (by exact ar1 [_,_] [] 512 601413952624 q art)]
  .rw[if_neg q,Nat.max_eq_left (by lia)]
 have lk:∀f:Nat->Int,(ivs (snL f (k+1))).length<1000000:=fun f=>by rw[aK,Ap];exact Ts (UD ‹_› _) (by decide)
 exact Sp (ax (meC P) h1 rfl rfl) (iS h3 (vp (ar1 [_,_] [] 0 44595200560 hb art)) (lk _)) mx (ax (meC P) h1 rfl rfl) (iS h2 (vp (by lia)) (lk _)) (iS h2 (vp (ar1 [_,_] [] 0 44595200560 ha art)) (lk _))
theorem Oy{ps:V}{l:List Nat}{st e:Nat}{mo:Int}(M:mJ s n w g k)(hk:k<=100)(hst:st<=k)(hl:∀p∈l,p<=k)(it:gZ s ps=some (.seq ps))(hi:bF s ps=some (nvs l)):
 cP P (d+2) "" "line_last_within" [ps,.int (st:Int),.int (e:Int),.inst "LineMeasure" n,.int mo] [] s (BX ((l.filter fun p=>(decide (st<p)&&decide (p<e))&&decide (Wd w g st p<=mo)).getLast?)) s:=by
 have hN:bD s (.seq ps)=some l.length:=by show(bF s ps).map _=_;rw[hi];exact Tx some (show(nvs l).length=l.length by rw[Tn])
 refine Tu (dA (N:=l.length) (it:=.seq ps) (loc:=lwL ps st e n mo .none none) (J:=s) (tg:=bf (lwS P)) (asg:=aJ P (d+1) (bf (lwS P))) (body:=av P (d+1) (bj (lwS P)))
  (fun i lo s'=>s'=s/\∃o,lo=lwL ps st e n mo (BX (((l.take i).filter fun p=>(decide (st<p)&&decide (p<e))&&decide (Wd w g st p<=mo)).getLast?)) o) (fun i lo s' hi' I=>?_) (fun lo s' I=>I.1▸hN) hN (by rfl') ⟨rfl,none,rfl⟩) fun lo hh=>?_
 . obtain⟨rfl,o,rfl⟩:=I;have hx:fD s' i (.seq ps)=some (.int (l[i]:Int)):=by show(bF s' ps).bind (·[i]?)=_;rw[hi,Ue,Ty,Tq hi'];rfl
   have hp:=hl l[i] (Vn hi');refine⟨hN,_,.next,lwL ps st e n mo (BX (((l.take (i+1)).filter fun p=>(decide (st<p)&&decide (p<e))&&decide (Wd w g st p<=mo)).getLast?)) (some (.int (l[i]:Int))),s',hx,?_,.inl rfl,rfl,_,rfl⟩;rw[Un,Tq hi',U5];generalize hc:(l.take i).filter _=c;have no:((decide (st<l[i])&&decide (l[i]<e))&&decide (Wd w g st l[i]<=mo))=false->c++(some l[i]).toList.filter (fun p=>(decide (st<p)&&decide (p<e))&&decide (Wd w g st p<=mo))=c:=fun q=>by show c++[l[i]].filter _=c;rw[UZ,if_neg (by rw[q];exact TT)];exact Ua _
   have W:=vq (P:=P) (d:=d) M hk hst hp;by_cases q1:st<l[i]
   . have d1:decide ((st:Int)<(l[i]:Int))=true:=To (UF.mpr q1);by_cases q2:l[i]<e
     . have d2:decide ((l[i]:Int)<(e:Int))=true:=To (UF.mpr q2);by_cases q3:Wd w g st l[i]<=mo
       . have y:c++(some l[i]).toList.filter (fun p=>(decide (st<p)&&decide (p<e))&&decide (Wd w g st p<=mo))=c++[l[i]]:=by show c++[l[i]].filter _=_;rw[UZ,if_pos (by rw[To q1,To q2,To q3];rfl)];rfl
         rw[y,VX];exact St d1 d2 M.wm W (To q3)
       .rw[no (by rw[Tz q3,VA])];exact Ss d1 d2 M.wm W (Tz q3)
     .rw[no (by rw[Tz q2,VA,Vh])];exact Sr d1 (Tz fun h=>q2 (UF.mp h))
   .rw[no (by rw[Tz q1,Vh,Vh])];exact Sq (Tz fun h=>q1 (UF.mp h))
 .obtain⟨s',⟨rfl,o,rfl⟩,L⟩:=hh;rw[Ur]at L;exact Su it L
end
abbrev ftE(P:Params):Expr:=stE (db 1 (dE P).body)
abbrev ftS(P:Params):Stmt:=db 1 (dE P).body
abbrev whS(P:Params):Stmt:=db 1 (bj (ftS P))
noncomputable abbrev ctL(wv:V)(o:Option V):Loc:=[(".0",.v none),("at",.v o),("words",.f wv)]
noncomputable abbrev Ga(P:Params)(d:Nat)(x:V)(loc:Loc)(J:Hp)(b:Bool)(v:V)(l:Loc)(s:Hp):Prop:=kA (aJ P d (coG (ftE P)).target) (fR P d (coG (ftE P)).ifs) (bI P d (coE (ftE P))) x loc J b v l s
noncomputable abbrev Gb(P:Params)(d:Nat)(v:V)(loc:Loc)(J:Hp)(x:V)(s:Hp):Prop:=iM (aJ P d (coG (ftE P)).target) (fR P d (coG (ftE P)).ifs) (bI P d (coE (ftE P))) false v loc J x s
noncomputable abbrev ftL(wv:V)(n:Nat)(mo:Int)(iv:V)(F:Nat)(st:Int)(ch:V)(o1 o2:Option V):Loc:=[("words",.cv (some wv)),("measure",.v (some (.inst "LineMeasure" n))),("most",.v (some (.int mo))),("inner",.v (some iv)),("found",.v (some (.ref F))),("start",.v (some (.int st))),("chosen",.v (some ch)),("cut",.v o1),("place",.v o2),("range",.g),("len",.g),("line_last_within",.g)]
noncomputable abbrev yT(P:Params)(d:Nat)(loc:Loc)(J:Hp)(c:Bool)(f:Fl)(l:Loc)(s:Hp):Prop:=fH (bI P d (iy (whS P))) (av P d (bj (whS P))) loc J c f l s
noncomputable abbrev nz(P:Params)(d:Nat)(loc:Loc)(J:Hp)(l:Loc)(s:Hp):Prop:=et (bI P d (iy (whS P))) (av P d (bj (whS P))) loc J .next l s
noncomputable abbrev nA(P:Params)(d:Nat)(x:V)(loc:Loc)(J:Hp)(l:Loc)(s:Hp):Prop:=eZ (aJ P d (bf (ftS P))) (av P d (bj (ftS P))) x loc J .next l s
noncomputable abbrev Oz(P:Params)(d:Nat)(it:It)(loc:Loc)(J:Hp)(l:Loc)(s:Hp):Prop:=eW (aJ P d (bf (ftS P))) (av P d (bj (ftS P))) (bf (ftS P)) it loc J .next l s
noncomputable abbrev LF(P:Params)(d n:Nat)(mo:Int)(s:Hp)(iv:V)(a b:Int)(v:V):Prop:=cP P d "" "line_last_within" [iv,.int a,.int b,.inst "LineMeasure" n,.int mo] [] s v s
noncomputable abbrev AP(F:Nat)(s:Hp)(a b:Int)(s':Hp):Prop:=aQ s "list.append" (.ref F) [.tup [.int a,.int b]]=some (.none,s')
noncomputable abbrev AM(P:Params)(F:Nat)(s:Hp):Prop:=bd (a_T P) s (.ref F) "append"=some (.bi "list.append")
section
variable{P:Params}{d n F B C D h:Nat}{J s s1 s2 s3 s4:Hp}{a mo st st2 c cut w p N:Int}{wv iv ch x:V}{o o1 o2 o3 o4:Option V}{wd:Str}{cs hs ws:List V}
theorem Sv(i1:af s wv (.int a)=some (.str wd))(q:(wd==("no":Str))=false):Ga P d (.int a) (ctL wv o) s true (.int a) (ctL wv (some (.int a))) s:=by intro k hk;exact aw (zV i1 (zC (zH (nF q) (z0 hk)))) (by rfl')
theorem Sw(i1:af s wv (.int a)=some (.str wd))(q:(wd==("no":Str))=true):Ga P d (.int a) (ctL wv o) s false .none (ctL wv (some (.int a))) s:=by intro k hk;exact aw (zV i1 (zC (zH (nT q) (z0 hk)))) (by rfl')
theorem Sx(hm:WM P n s)(hw:WF P d n s st cut w)(q:decide (mo<w)=false):yT P d (ftL wv n mo iv F st ch (some (.int cut)) o) s false .next (ftL wv n mo iv F st ch (some (.int cut)) o) s:=by unfold WM at hm;unfold WF at hw;intro k hk;exact aw (zR (zK hm (zD hw (zC (zH q (z0 hk)))))) (by rfl')
theorem Sy(hm:WM P n s)(hw:WF P d n s st cut w)(q:decide (mo<w)=true)(l:LF P d n mo s iv st cut .none):yT P d (ftL wv n mo iv F st ch (some (.int cut)) o) s true .brk (ftL wv n mo iv F st ch (some (.int cut)) (some .none)) s:=by unfold WM at hm;unfold WF at hw;unfold LF at l;intro k hk;exact aw (zR (zK hm (zD hw (zC (zH q (zR (zR (zD l (zC (z1 (z0 hk))))))))))) (by rfl')
theorem Sz(hm:WM P n s)(hw:WF P d n s st cut w)(q:decide (mo<w)=true)(l:LF P d n mo s iv st cut (.int p))(m:AM P F s)(ap:AP F s st p s1):yT P d (ftL wv n mo iv F st ch (some (.int cut)) o) s true .next (ftL wv n mo iv F p ch (some (.int cut)) (some (.int p))) s1:=by unfold WM at hm;unfold WF at hw;unfold LF at l;unfold AM at m;unfold AP at ap;intro k hk;exact aw (zR (zK hm (zD hw (zC (zH q (zR (zR (zD l (zC (z2 (zQ (zR (zK m (zR (zP ap (zR (z0 hk))))))))))))))))) (by rfl')
theorem QD(W:nz P d (ftL wv n mo iv F st .none (some (.int cut)) o2) s (ftL wv n mo iv F st2 .none (some (.int cut)) o4) s2)(i:af s2 wv (.int cut)=some (.str wd))(q:(wd==("must":Str))=false):
 nA P d (.int cut) (ftL wv n mo iv F st .none o1 o2) s (ftL wv n mo iv F st2 (.int cut) (some (.int cut)) o4) s2:=by
 intro k hk;exact aw (zC (z2 (z2 (zL W (zR (zV i (zC (zH q (z0 hk))))))))) (by rfl')
theorem QE(W:nz P d (ftL wv n mo iv F st .none (some (.int cut)) o2) s (ftL wv n mo iv F st2 .none (some (.int cut)) o4) s2)(i:af s2 wv (.int cut)=some (.str wd))(q:(wd==("must":Str))=true)(m:AM P F s2)(ap:AP F s2 st2 cut s3):
 nA P d (.int cut) (ftL wv n mo iv F st .none o1 o2) s (ftL wv n mo iv F cut .none (some (.int cut)) o4) s3:=by
 unfold AM at m;unfold AP at ap;intro k hk;exact aw (zC (z2 (z2 (zL W (zR (zV i (zC (zH q (zQ (zR (zK m (zR (zP ap (zR (zR (z0 hk)))))))))))))))) (by rfl')
theorem QF(hm:WM P n s)(hw:WF P d n s st cut w)(q0:decide (mo<w)=false)(W:nz P d (ftL wv n mo iv F st (.int c) (some (.int cut)) o2) s (ftL wv n mo iv F st2 (.int c) (some (.int cut)) o4) s2)(i:af s2 wv (.int cut)=some (.str wd))(q:(wd==("must":Str))=false):
 nA P d (.int cut) (ftL wv n mo iv F st (.int c) o1 o2) s (ftL wv n mo iv F st2 (.int cut) (some (.int cut)) o4) s2:=by
 unfold WM at hm;unfold WF at hw;intro k hk;exact aw (zC (z1 (zR (zK hm (zD hw (zC (zH q0 (zL W (zR (zV i (zC (zH q (z0 hk))))))))))))) (by rfl')
theorem QG(hm:WM P n s)(hw:WF P d n s st cut w)(q0:decide (mo<w)=false)(W:nz P d (ftL wv n mo iv F st (.int c) (some (.int cut)) o2) s (ftL wv n mo iv F st2 (.int c) (some (.int cut)) o4) s2)(i:af s2 wv (.int cut)=some (.str wd))(q:(wd==("must":Str))=true)(m:AM P F s2)(ap:AP F s2 st2 cut s3):
 nA P d (.int cut) (ftL wv n mo iv F st (.int c) o1 o2) s (ftL wv n mo iv F cut .none (some (.int cut)) o4) s3:=by
 unfold WM at hm;unfold WF at hw;unfold AM at m;unfold AP at ap;intro k hk;exact aw (zC (z1 (zR (zK hm (zD hw (zC (zH q0 (zL W (zR (zV i (zC (zH q (zQ (zR (zK m (zR (zP ap (zR (zR (z0 hk)))))))))))))))))))) (by rfl')
theorem QH(hm:WM P n s)(hw:WF P d n s st cut w)(q0:decide (mo<w)=true)(m0:AM P F s)(ap0:AP F s st c s1)(W:nz P d (ftL wv n mo iv F c (.int c) (some (.int cut)) o2) s1 (ftL wv n mo iv F st2 (.int c) (some (.int cut)) o4) s2)(i:af s2 wv (.int cut)=some (.str wd))(q:(wd==("must":Str))=false):
 nA P d (.int cut) (ftL wv n mo iv F st (.int c) o1 o2) s (ftL wv n mo iv F st2 (.int cut) (some (.int cut)) o4) s2:=by
 unfold WM at hm;unfold WF at hw;unfold AM at m0;unfold AP at ap0;intro k hk;exact aw (zC (z1 (zR (zK hm (zD hw (zC (zH q0 (zQ (zR (zK m0 (zR (zP ap0 (zR (zL W (zR (zV i (zC (zH q (z0 hk))))))))))))))))))) (by rfl')
theorem QI(hm:WM P n s)(hw:WF P d n s st cut w)(q0:decide (mo<w)=true)(m0:AM P F s)(ap0:AP F s st c s1)(W:nz P d (ftL wv n mo iv F c (.int c) (some (.int cut)) o2) s1 (ftL wv n mo iv F st2 (.int c) (some (.int cut)) o4) s2)(i:af s2 wv (.int cut)=some (.str wd))(q:(wd==("must":Str))=true)(m:AM P F s2)(ap:AP F s2 st2 cut s3):
 nA P d (.int cut) (ftL wv n mo iv F st (.int c) o1 o2) s (ftL wv n mo iv F cut .none (some (.int cut)) o4) s3:=by
 unfold WM at hm;unfold WF at hw;unfold AM at m0;unfold AP at ap0;unfold AM at m;unfold AP at ap;intro k hk;exact aw (zC (z1 (zR (zK hm (zD hw (zC (zH q0 (zQ (zR (zK m0 (zR (zP ap0 (zR (zL W (zR (zV i (zC (zH q (zQ (zR (zK m (zR (zP ap (zR (zR (z0 hk)))))))))))))))))))))))))) (by rfl')
theorem SA(ln:biI false "len" [wv] (J++[ab.list []])=some (.int N,J++[ab.list []]))(r:tyI true "range" [.int 1,.int N] (J++[ab.list []])=some (.rng 1 N,J++[ab.list []]))(C1:Gb P d (.rng 1 N) (ctL wv none) (J++[ab.list []]) (.lst cs) (J++[ab.list []]))(L:Oz P d (.seq (.lst cs)) (ftL wv n mo iv J.length 0 .none none none) (J++[ab.list []]) (ftL wv n mo iv J.length st ch o1 o2) s):
 cP P (d+1) "" "line_fitted" [wv,.inst "LineMeasure" n,.int mo,iv] [] J (.ref J.length) s:=by
 exact ag (dE P) ([wv,V.inst (Str.ofString "LineMeasure") n,V.int mo,iv]) (fun z=>(zA (rfl:(0:Int)=(0:Int)) (zP ln (zP r (zF C1 (zL L (z0 z)).C))).R.R.R).R.R.R)
abbrev heE(P:Params):Expr:=stE (db 0 (cw P).body)
noncomputable abbrev heL(B:Nat)(o:Option V):Loc:=[(".0",.v none),("code",.v o),("line_class",.g),("LINE_BARE",.g),("self",.f (.inst "LineBreaks" B))]
noncomputable abbrev Gc(P:Params)(d:Nat)(x:V)(loc:Loc)(J:Hp)(v:V)(l:Loc)(s:Hp):Prop:=kA (aJ P d (coG (heE P)).target) (fR P d (coG (heE P)).ifs) (bI P d (coE (heE P))) x loc J true v l s
noncomputable abbrev Gd(P:Params)(d:Nat)(v:V)(loc:Loc)(J:Hp)(x:V)(s:Hp):Prop:=iM (aJ P d (coG (heE P)).target) (fR P d (coG (heE P)).ifs) (bI P d (coE (heE P))) false v loc J x s
noncomputable abbrev gM:List Str:=["BK","CR","LF","NL","SP","ZW"]
theorem SB(g1:bS (a_T P) s (.inst "LineBreaks" B) "data"=some (.inst "Data" D))(g2:bS (a_T P) s (.inst "LineBreaks" B) "how"=some (.inst "LineHow" h))(K:rq P d D h s a wd):Gc P d (.int a) (heL B o) s (.bool (inS wd gM)) (heL B (some (.int a))) s:=by unfold rq at K;intro k hk;exact aw (zR (zR (zV g1 (zR (zV g2 (zD K (zC (z0 hk)))))))) (by rfl')
theorem SC{tv:V}(C1:Gd P d tv (heL B none) J (.lst hs) J)(I:cP P d "LineMeasure" "__init__" [.inst "LineMeasure" J.length,.lst ws,.lst hs] [] (J++[ab.dict []]) .none s):
 cP P (d+1) "LineBreaks" "measure" [.inst "LineBreaks" B,tv,.lst ws] [] J (.inst "LineMeasure" J.length) s:=by
 exact ag (cw P) ([V.inst (Str.ofString "LineBreaks") B,tv,V.lst ws]) (fun z=>(zA (rfl:(0:Int)=(0:Int)) (zF C1 (zN I (z0 z)).R).R).R)
theorem SD{tv r:V}(m1:bd (a_T P) J (.inst "LineBreaks" B) "opportunities"=some (.fn "LineBreaks"))(c1:cP P d "LineBreaks" "opportunities" [.inst "LineBreaks" B,tv] [] J wv J)(m2:bd (a_T P) J (.inst "LineBreaks" B) "measure"=some (.fn "LineBreaks"))(c2:cP P d "LineBreaks" "measure" [.inst "LineBreaks" B,tv,.lst ws] [] J (.inst "LineMeasure" n) s)(c3:cP P d "" "line_fitted" [wv,.inst "LineMeasure" n,.int mo,.tup []] [] s r s1):
 cP P (d+1) "LineBreaks" "fit_lines" [.inst "LineBreaks" B,tv,.lst ws,.int mo] [] J r s1:=by
 exact ag (bV P) ([V.inst (Str.ofString "LineBreaks") B,tv,V.lst ws,V.int mo]++(fun x=>PY::x) []) (fun z=>(zK m1 (zD c1 (zK m2 (zD c2 (zD c3 (z0 z)))).R)).R.R)
theorem SE{tv r:V}(m1:bd (a_T P) J (.inst "LineBreaks" B) "opportunities"=some (.fn "LineBreaks"))(c1:cP P d "LineBreaks" "opportunities" [.inst "LineBreaks" B,tv] [] J wv J)(m2:bd (a_T P) J (.inst "LineBreaks" B) "measure"=some (.fn "LineBreaks"))(c2:cP P d "LineBreaks" "measure" [.inst "LineBreaks" B,tv,.lst ws] [] J (.inst "LineMeasure" n) s)(c3:cP P d "" "line_fitted" [wv,.inst "LineMeasure" n,.int mo,iv] [] s r s1):
 cP P (d+1) "LineBreaks" "fit_lines" [.inst "LineBreaks" B] [("most",.int mo),("widths",.lst ws),("text",tv),("inner",iv)] J r s1:=by
 exact ag (bV P) ([V.inst (Str.ofString "LineBreaks") B]++(fun x=>(Str.ofString "text",tv).snd::x) ((fun x=>(Str.ofString "widths",V.lst ws).snd::x) ((fun x=>(Str.ofString "most",V.int mo).snd::x) ((fun x=>(Str.ofString "inner",iv).snd::x) [])))) (fun z=>(zK m1 (zD c1 (zK m2 (zD c2 (zD c3 (z0 z)))).R)).R.R)
end
abbrev wdS(P:Params):Stmt:=db 0 (fO P).body
noncomputable abbrev wdL(sv ws:List V)(st e:Int):Loc:=[("sorts",.v (some (.lst sv))),("widths",.v (some (.lst ws))),("start",.v (some (.int st))),("end",.v (some (.int e))),("sum",.g)]
noncomputable abbrev yU(P:Params)(d:Nat)(loc:Loc)(J:Hp)(c:Bool)(f:Fl)(l:Loc)(s:Hp):Prop:=fH (bI P d (iy (wdS P))) (av P d (bj (wdS P))) loc J c f l s
noncomputable abbrev Ge(P:Params)(d:Nat)(loc:Loc)(J:Hp)(l:Loc)(s:Hp):Prop:=et (bI P d (iy (wdS P))) (av P d (bj (wdS P))) loc J .next l s
abbrev liS(P:Params):Stmt:=db 1 (fQ P).body
abbrev l1E(P:Params):Expr:=stE (db 0 (bj (liS P)))
noncomputable def SF:Expr->Expr
 |.Subscript o _ _=>o
 |e=>e
abbrev l2E(P:Params):Expr:=SF (stE (db 1 (bj (liS P))))
abbrev l3E(P:Params):Expr:=stE (db 2 (bj (liS P)))
abbrev l4E(P:Params):Expr:=stE (db 0 (bj (db 3 (bj (liS P)))))
noncomputable abbrev ig(P:Params)(d:Nat)(E:Expr)(x:V)(loc:Loc)(J:Hp)(b:Bool)(v:V)(l:Loc)(s:Hp):Prop:=kA (aJ P d (coG E).target) (fR P d (coG E).ifs) (bI P d (coE E)) x loc J b v l s
noncomputable abbrev cZ(P:Params)(d:Nat)(E:Expr)(v:V)(loc:Loc)(J:Hp)(x:V)(s:Hp):Prop:=iM (aJ P d (coG E).target) (fR P d (coG E).ifs) (bI P d (coE E)) false v loc J x s
noncomputable abbrev tdL(tv:V)(o:Option V):Loc:=[(".0",.v none),("at",.v o),("told_words",.f tv)]
noncomputable abbrev l3L(hd mo st:Int)(sv ws:List V)(o:Option V):Loc:=[(".0",.v none),("at",.v o),("_law_width",.g),("hard",.f (.int hd)),("most",.f (.int mo)),("sorts",.f (.lst sv)),("start",.f (.int st)),("widths",.f (.lst ws))]
noncomputable abbrev l4L(en:List V)(mo st:Int)(sv ws:List V)(o:Option V):Loc:=[(".0",.v none),("at",.v o),("_law_width",.g),("ends_now",.f (.lst en)),("most",.f (.int mo)),("sorts",.f (.lst sv)),("start",.f (.int st)),("widths",.f (.lst ws))]
noncomputable abbrev VF(P:Params)(d:Nat)(s:Hp)(sv ws:List V)(a b w:Int):Prop:=cP P d "" "_law_width" [.lst sv,.lst ws,.int a,.int b] [] s (.int w) s
noncomputable abbrev liL(sv:List V)(tv:V)(ws:List V)(mo:Int)(iv:List V)(F:Nat)(st:Int)(o1 o2 o3 o4:Option V):Loc:=[("sorts",.cv (some (.lst sv))),("told_words",.cv (some tv)),("widths",.cv (some (.lst ws))),("most",.cv (some (.int mo))),("inner",.v (some (.lst iv))),("found",.v (some (.ref F))),("start",.cv (some (.int st))),("ends_now",.cv o1),("hard",.cv o2),("fit",.v o3),("end",.v o4),("len",.g),("range",.g)]
noncomputable abbrev rX(P:Params)(d:Nat)(loc:Loc)(J:Hp)(c:Bool)(f:Fl)(l:Loc)(s:Hp):Prop:=fH (bI P d (iy (liS P))) (av P d (bj (liS P))) loc J c f l s
noncomputable abbrev OA(P:Params)(d:Nat)(loc:Loc)(J:Hp)(l:Loc)(s:Hp):Prop:=et (bI P d (iy (liS P))) (av P d (bj (liS P))) loc J .next l s
section
variable{P:Params}{d F:Nat}{J s s1:Hp}{a b mo st e hd N w fi en0:Int}{tv cv:V}{o o1 o2 o3 o4:Option V}{wd nm g ee:Str}{p:Bool}{sv ws part iv en hl fit fit2:List V}
theorem SH(q:decide (st<e)=true)(i:af s (.lst sv) (.int (e-1))=some (bv nm g ee p cv))(h:inS nm gM=true):yU P d (wdL sv ws st e) s true .next (wdL sv ws st (e-1)) s:=by intro k hk;exact aw (zC (zH q (zC (zV i (zC (zR (zC (zH h (zR (zC (z0 hk))))))))))) (by rfl')
theorem SJ(q:decide (st<e)=true)(i:af s (.lst sv) (.int (e-1))=some (bv nm g ee p cv))(h:inS nm gM=false):yU P d (wdL sv ws st e) s false .next (wdL sv ws st e) s:=by intro k hk;exact aw (zC (zH q (zC (zV i (zC (zR (zC (zH h (z0 hk))))))))) (by rfl')
theorem SK(q:decide (st<e)=false):yU P d (wdL sv ws st e) s false .next (wdL sv ws st e) s:=by intro k hk;exact aw (zC (zH q (zH q (z0 hk)))) (by rfl')
theorem SL(L:Ge P d (wdL sv ws st e) s (wdL sv ws st b) s)(sl:bm false s (.lst ws) (.int st) (.int b) .none=some (.lst part,s))(sm:biI false "sum" [.lst part] s=some (.int w,s)):VF P (d+1) s sv ws st e w:=by show cP P (d+1) "" "_law_width" [.lst sv,.lst ws,.int st,.int e] [] s (.int w) s;exact ag (fO P) ([V.lst sv,V.lst ws,V.int st,V.int e]) (fun z=>zL L (zP sl (zP sm (z0 z))).R)
theorem SM(i:af s tv (.int a)=some (.str wd))(q:(wd==("no":Str))=false):ig P d (l1E P) (.int a) (tdL tv o) s true (.int a) (tdL tv (some (.int a))) s:=by intro k hk;exact aw (zV i (zC (zH (nF q) (z0 hk)))) (by rfl')
theorem SN(i:af s tv (.int a)=some (.str wd))(q:(wd==("no":Str))=true):ig P d (l1E P) (.int a) (tdL tv o) s false .none (tdL tv (some (.int a))) s:=by intro k hk;exact aw (zV i (zC (zH (nT q) (z0 hk)))) (by rfl')
theorem SP(i:af s tv (.int a)=some (.str wd))(q:(wd==("must":Str))=true):ig P d (l2E P) (.int a) (tdL tv o) s true (.int a) (tdL tv (some (.int a))) s:=by intro k hk;exact aw (zV i (zC (zH q (z0 hk)))) (by rfl')
theorem SQ(i:af s tv (.int a)=some (.str wd))(q:(wd==("must":Str))=false):ig P d (l2E P) (.int a) (tdL tv o) s false .none (tdL tv (some (.int a))) s:=by intro k hk;exact aw (zV i (zC (zH q (z0 hk)))) (by rfl')
theorem SR(q:decide (a<=hd)=false):ig P d (l3E P) (.int a) (l3L hd mo st sv ws o) s false .none (l3L hd mo st sv ws (some (.int a))) s:=by intro k hk;exact aw (zC (zH q (zH q (z0 hk)))) (by rfl')
theorem SS(q:decide (a<=hd)=true)(W:VF P d s sv ws st a w)(q2:decide (w<=mo)=true):ig P d (l3E P) (.int a) (l3L hd mo st sv ws o) s true (.int a) (l3L hd mo st sv ws (some (.int a))) s:=by unfold VF at W;intro k hk;exact aw (zC (zH q (zR (zD W (zC (zH q2 (z0 hk))))))) (by rfl')
theorem SU(q:decide (a<=hd)=true)(W:VF P d s sv ws st a w)(q2:decide (w<=mo)=false):ig P d (l3E P) (.int a) (l3L hd mo st sv ws o) s false .none (l3L hd mo st sv ws (some (.int a))) s:=by unfold VF at W;intro k hk;exact aw (zC (zH q (zR (zD W (zC (zH q2 (z0 hk))))))) (by rfl')
theorem SV(q:decide (st<a)=false):ig P d (l4E P) (.int a) (l4L en mo st sv ws o) s false .none (l4L en mo st sv ws (some (.int a))) s:=by intro k hk;exact aw (zC (zH q (zH q (zH q (z0 hk))))) (by rfl')
theorem SW(q:decide (st<a)=true)(i:af s (.lst en) (.int 0)=some (.int en0))(q1:decide (a<en0)=false):ig P d (l4E P) (.int a) (l4L en mo st sv ws o) s false .none (l4L en mo st sv ws (some (.int a))) s:=by intro k hk;exact aw (zC (zH q (zV i (zC (zH q1 (zH q1 (z0 hk))))))) (by rfl')
theorem SX(q:decide (st<a)=true)(i:af s (.lst en) (.int 0)=some (.int en0))(q1:decide (a<en0)=true)(W:VF P d s sv ws st a w)(q2:decide (w<=mo)=false):ig P d (l4E P) (.int a) (l4L en mo st sv ws o) s false .none (l4L en mo st sv ws (some (.int a))) s:=by unfold VF at W;intro k hk;exact aw (zC (zH q (zV i (zC (zH q1 (zR (zD W (zC (zH q2 (z0 hk)))))))))) (by rfl')
theorem SY(q:decide (st<a)=true)(i:af s (.lst en) (.int 0)=some (.int en0))(q1:decide (a<en0)=true)(W:VF P d s sv ws st a w)(q2:decide (w<=mo)=true):ig P d (l4E P) (.int a) (l4L en mo st sv ws o) s true (.int a) (l4L en mo st sv ws (some (.int a))) s:=by unfold VF at W;intro k hk;exact aw (zC (zH q (zV i (zC (zH q1 (zR (zD W (zC (zH q2 (z0 hk)))))))))) (by rfl')
theorem SZ(ln:biI false "len" [.lst sv] s=some (.int N,s))(q:decide (st<N)=false):rX P d (liL sv tv ws mo iv F st o1 o2 o3 o4) s false .next (liL sv tv ws mo iv F st o1 o2 o3 o4) s:=by intro k hk;exact aw (zR (zP ln (zC (zH q (z0 hk))))) (by rfl')
theorem S2(ln:biI false "len" [.lst sv] s=some (.int N,s))(q:decide (st<N)=true)(r:tyI true "range" [.int (st+1),.int (N+1)] s=some (.rng (st+1) (N+1),s))(C1:cZ P d (l1E P) (.rng (st+1) (N+1)) (tdL tv none) s (.lst en) s)(C2:cZ P d (l2E P) (.lst en) (tdL tv none) s (.lst hl) s)(i2:af s (.lst hl) (.int 0)=some (.int hd))(C3:cZ P d (l3E P) (.lst en) (l3L hd mo st sv ws none) s (.lst fit) s)(e1:bA s .Eq (.lst fit) (.lst [])=some false)(e2:bA s .NotEq (.lst fit) (.lst [])=some true)(i3:af s (.lst fit) (.int (-1))=some (.int e))(m:AM P F s)(ap:AP F s st e s1):
 rX P d (liL sv tv ws mo iv F st o1 o2 o3 o4) s true .next (liL sv tv ws mo iv F e (some (.lst en)) (some (.int hd)) (some (.lst fit)) (some (.int e))) s1:=by
 unfold AM at m;unfold AP at ap;intro k hk;exact aw (zR (zP ln (zC (zH q (zR (zA (rfl:(0:Int)=(0:Int)) (zR (zR (zC (zR (zP ln (zC (zP r (zF C1 (zR (zA (rfl:(0:Int)=(0:Int)) (zR (zF C2 (zV i2 (zR (zA (rfl:(0:Int)=(0:Int)) (zR (zF C3 (zR (zT e1 (z2 (zR (zR (zT e2 (z1 (zC (zV i3 (zQ (zR (zK m (zR (zP ap (zR (z0 hk))))))))))))))))))))))))))))))))))))))) (by rfl')
theorem S3(ln:biI false "len" [.lst sv] s=some (.int N,s))(q:decide (st<N)=true)(r:tyI true "range" [.int (st+1),.int (N+1)] s=some (.rng (st+1) (N+1),s))(C1:cZ P d (l1E P) (.rng (st+1) (N+1)) (tdL tv none) s (.lst en) s)(C2:cZ P d (l2E P) (.lst en) (tdL tv none) s (.lst hl) s)(i2:af s (.lst hl) (.int 0)=some (.int hd))(C3:cZ P d (l3E P) (.lst en) (l3L hd mo st sv ws none) s (.lst fit) s)(e1:bA s .Eq (.lst fit) (.lst [])=some true)(C4:cZ P d (l4E P) (.lst iv) (l4L en mo st sv ws none) s (.lst fit2) s)(e2:bA s .NotEq (.lst fit2) (.lst [])=some true)(i3:af s (.lst fit2) (.int (-1))=some (.int e))(m:AM P F s)(ap:AP F s st e s1):
 rX P d (liL sv tv ws mo iv F st o1 o2 o3 o4) s true .next (liL sv tv ws mo iv F e (some (.lst en)) (some (.int hd)) (some (.lst fit2)) (some (.int e))) s1:=by
 unfold AM at m;unfold AP at ap;intro k hk;exact aw (zR (zP ln (zC (zH q (zR (zA (rfl:(0:Int)=(0:Int)) (zR (zR (zC (zR (zP ln (zC (zP r (zF C1 (zR (zA (rfl:(0:Int)=(0:Int)) (zR (zF C2 (zV i2 (zR (zA (rfl:(0:Int)=(0:Int)) (zR (zF C3 (zR (zT e1 (z1 (zR (zA (rfl:(0:Int)=(0:Int)) (zR (zF C4 (zR (zR (zT e2 (z1 (zC (zV i3 (zQ (zR (zK m (zR (zP ap (zR (z0 hk))))))))))))))))))))))))))))))))))))))))))) (by rfl')
theorem S4(ln:biI false "len" [.lst sv] s=some (.int N,s))(q:decide (st<N)=true)(r:tyI true "range" [.int (st+1),.int (N+1)] s=some (.rng (st+1) (N+1),s))(C1:cZ P d (l1E P) (.rng (st+1) (N+1)) (tdL tv none) s (.lst en) s)(C2:cZ P d (l2E P) (.lst en) (tdL tv none) s (.lst hl) s)(i2:af s (.lst hl) (.int 0)=some (.int hd))(C3:cZ P d (l3E P) (.lst en) (l3L hd mo st sv ws none) s (.lst fit) s)(e1:bA s .Eq (.lst fit) (.lst [])=some true)(C4:cZ P d (l4E P) (.lst iv) (l4L en mo st sv ws none) s (.lst fit2) s)(e2:bA s .NotEq (.lst fit2) (.lst [])=some false)(i3:af s (.lst en) (.int 0)=some (.int e))(m:AM P F s)(ap:AP F s st e s1):
 rX P d (liL sv tv ws mo iv F st o1 o2 o3 o4) s true .next (liL sv tv ws mo iv F e (some (.lst en)) (some (.int hd)) (some (.lst fit2)) (some (.int e))) s1:=by
 unfold AM at m;unfold AP at ap;intro k hk;exact aw (zR (zP ln (zC (zH q (zR (zA (rfl:(0:Int)=(0:Int)) (zR (zR (zC (zR (zP ln (zC (zP r (zF C1 (zR (zA (rfl:(0:Int)=(0:Int)) (zR (zF C2 (zV i2 (zR (zA (rfl:(0:Int)=(0:Int)) (zR (zF C3 (zR (zT e1 (z1 (zR (zA (rfl:(0:Int)=(0:Int)) (zR (zF C4 (zR (zR (zT e2 (z2 (zV i3 (zQ (zR (zK m (zR (zP ap (zR (z0 hk)))))))))))))))))))))))))))))))))))))))))) (by rfl')
theorem S5(L:OA P d (liL sv tv ws mo iv J.length 0 none none none none) (J++[ab.list []]) (liL sv tv ws mo iv J.length st o1 o2 o3 o4) s):
 cP P (d+1) "" "_law_lines" [.lst sv,tv,.lst ws,.int mo,.lst iv] [] J (.ref J.length) s:=by
 exact ag (fQ P) ([V.lst sv,tv,V.lst ws,V.int mo,V.lst iv]) (fun z=>(zL L (z0 z)).R.R.R)
end
noncomputable def QJ(wt:Loc->Hp->An->KQ->Prop)(body:Loc->Hp->An->KF->Prop)(N:Nat)(l':Loc)(s':Hp)(c:Bool)(f:Fl)(loc:Loc)(J:Hp):Prop:=match c with
 |false=>Fl.next=.next/\loc=l'/\J=s'
 |true=>(match f with
  |.next=>fq wt body (fun f' l'' s''=>f'=.next/\l''=l'/\s''=s') N loc J
  |.cont=>fq wt body (fun f' l'' s''=>f'=.next/\l''=l'/\s''=s') N loc J
  |.brk=>Fl.next=.next/\loc=l'/\J=s'
  |.ret v=>Fl.ret v=.next/\loc=l'/\J=s')
theorem pE{wt:Loc->Hp->An->KQ->Prop}{body:Loc->Hp->An->KF->Prop}(Inv:Nat->Loc->Hp->Prop)(End:Loc->Hp->Prop)(h:∀n loc J,Inv n loc J->∃c f l s,fH wt body loc J c f l s/\((c=false/\f=.next/\End l s)\/(c=true/\f=.brk/\End l s)\/(c=true/\f=.next/\∃m,m<n/\Inv m l s))):
 ∀(n:Nat) (loc:Loc) (J:Hp) (N:Nat),n<N->Inv n loc J->∃l s,End l s/\fq wt body (fun f' l' s'=>f'=.next/\l'=l/\s'=s) N loc J:=by
 intro n;induction n using Nat.strongRecOn with
 |_ n ih=>
  intro loc J N hN I;obtain⟨c,f,l,s,h1,h2⟩:=h n loc J I;cases N with
  |zero=>exact absurd hN (Vj _)
  |succ N=>
   have fin:∀{l':Loc}{s':Hp},QJ wt body N l' s' c f l s->fq wt body (fun f' l'' s''=>f'=.next/\l''=l'/\s''=s') (N+1) loc J:=fun{l' s'} q=>by obtain⟨a,h3⟩:=h1 (QJ wt body N l' s') q;exact⟨a,h3⟩
   rcases h2 with⟨rfl,rfl,he⟩|⟨rfl,rfl,he⟩|⟨rfl,rfl,m,hm,I'⟩
   .exact⟨l,s,he,fin ⟨rfl,rfl,rfl⟩⟩
   .exact⟨l,s,he,fin ⟨rfl,rfl,rfl⟩⟩
   .obtain⟨l',s',he,R⟩:=ih m hm l s N (ar2 [_,_,_] [] 0 628687309760299042096 hm hN art) I';exact⟨l',s',he,fin R⟩
theorem jv{asg:V->Loc->Hp->An->KL->Prop}{test:Loc->Hp->An->(Bool->Hp->An->Prop)->Prop}{elt:Loc->Hp->An->KQ->Prop}{it:It}{v:V}{J:Hp}(L:Option V->Loc){xs:List Nat}{p:Nat->Bool}(hi:gZ J v=some it)(hl:bD J it=some xs.length)(hg:∀i (h:i<xs.length),fD J i it=some (.int (xs[i]:Int)))(hn:xs.length<=1000)(hs:∀x∈xs,∀o,(p x=true->kA asg test elt (.int (x:Int)) (L o) J true (.int (x:Int)) (L (some (.int (x:Int)))) J)/\(p x=false->kA asg test elt (.int (x:Int)) (L o) J false .none (L (some (.int (x:Int)))) J)):iM asg test elt false v (L none) J (.lst (nvs (xs.filter p))) J:=by
 have lk:∀i,ba (nvs ((xs.take i).filter p))=true:=fun i=>ar (by
  rw[Tn];have:=Wq p (xs.take i);rw[TY]at this;exact ar3 [_,_,_] [] 0 1152921656130081146538192 this (Uq (i) (xs.length)) hn art)
 refine Tu (lS (t:=false) (v:=v) (it:=it) (loc:=L none) (J:=J) (asg:=asg) (test:=test) (elt:=elt) (N:=xs.length)
  (fun i l s acc=>s=J/\acc=nvs ((xs.take i).filter p)/\∃o,l=L o) hi hl (fun i l s acc hj I=>?_) (fun l s acc I=>?_) ⟨rfl,rfl,none,rfl⟩) fun acc hh=>?_
 . obtain⟨rfl,rfl,o,rfl⟩:=I;obtain⟨h1,h2⟩:=hs xs[i] (Vn hj) o;have e:(xs.take (i+1)).filter p=(xs.take i).filter p++[xs[i]].filter p:=by rw[Un,Tq hj,U5];rfl
   cases q:p xs[i]with|true=>exact⟨⟨hl,lk i⟩,_,true,.int (xs[i]:Int),_,_,hg i hj,h1 q,rfl,by rw[e,UZ,if_pos q,nvs,nvs,TI];rfl,_,rfl⟩|false=>exact⟨⟨hl,lk i⟩,_,false,.none,_,_,hg i hj,h2 q,rfl,by rw[e,UZ,if_neg (by rw[q];exact TT),Ww,Ua];rfl,_,rfl⟩
 .obtain⟨rfl,rfl,_⟩:=I;exact⟨hl,lk _⟩
 .obtain⟨s,l,⟨rfl,rfl,_⟩,h⟩:=hh;rw[Ur]at h;exact h
noncomputable abbrev pvs(l:List (Nat×Nat)):List V:=l.map fun p=>V.tup [.int (p.1:Int),.int (p.2:Int)]
noncomputable def wdA(fs:List Str)(k:Nat):Str:=fs.getD k ""
def xd(fs:List Str)(k:Nat):Bool := !(wdA fs k==("no":Str))
def jw(fs:List Str)(k:Nat):Bool:=wdA fs k==("must":Str)
def qp(fs:List Str)(n:Nat):List Nat:=(List.range' 1 n).filter (xd fs)
abbrev kJ(fs:List Str)(inn:List Nat)(w:Nat->Int)(g:Nat->Bool)(mo:Int)(n:Nat):Fit:=⟨qp fs n,inn,jw fs,Wd w g,mo,n⟩
theorem Aq{fs:List Str}{J:Hp}{k:Nat}(hk:k<fs.length)(hl:fs.length<=1000):af J (.lst (svs fs)) (.int (k:Int))=some (.str (wdA fs k)):=by rw[jF];exact hX (by rw[Ty,Tq hk];unfold wdA;rw[Uo,Tq hk];rfl) (by rw[Tn];exact hl)
theorem oE{t:Bool}{J:Hp}{xs:List V}(h:ba xs=true):biI t "len" [.lst xs] J=some (.int xs.length,J):=if_pos h
theorem Gf{t:Bool}{J:Hp}{a b:Int}(h1:aO a=true)(h2:aO b=true):tyI t "range" [.int a,.int b] J=some (.rng a b,J):=by show(if aO a&&aO b then _ else _)=_;rw[h1,h2];rfl
theorem Ar{a k i:Nat}{J:Hp}(h:i<(List.range' a k).length):fD J i (.rng (a:Int) ((a:Int)+(k:Int)))=some (.int ((List.range' a k)[i]:Int)):=by rw[List.getElem_range'];show some (V.int ((a:Int)+(i:Int)))=_;rw[Nat.one_mul];rfl
theorem As{a k:Nat}{J:Hp}:bD J (.rng (a:Int) ((a:Int)+(k:Int)))=some (List.range' a k).length:=by show some (((a:Int)+(k:Int))-(a:Int)).toNat=_;rw[V8,Int.add_comm,Int.add_sub_cancel,Vc]
theorem At{a k:Nat}{J:Hp}(h1:a<=1000)(h2:k<=1000):gZ J (.rng (a:Int) ((a:Int)+(k:Int)))=some (.rng (a:Int) ((a:Int)+(k:Int))):=uX (b0 (TK (by decide) (TM _)) (Vo (VE.mpr ‹_›) (by decide))) (b0 (TK (by decide) (TM _)) (ar2 [_,_] [] 1 182687704666362864791787488604816662190798145744 h2 h1 art))
section
variable{P:Params}{d nM n F B:Nat}{J s s0 s1:Hp}{mo:Int}{fs:List Str}{inn:List Nat}{w:Nat->Int}{g:Nat->Bool}{iv:V}{f:List (Nat×Nat)}{pre post:List Nat}{st c':Nat}
theorem OB(hl:fs.length=n+1)(hn:n<=100):Gb P d (.rng 1 ((n:Int)+1)) (ctL (.lst (svs fs)) none) s (.lst (nvs (qp fs n))) s:=by have e:((n:Int)+1)=((1:Nat):Int)+(n:Int):=are [_] [] 1 1219880854640 art art;rw[e];refine jv (ctL (.lst (svs fs))) (it:=.rng ((1:Nat):Int) (((1:Nat):Int)+(n:Int))) (At (by decide) (Tk ‹_› (by decide))) As (fun i h=>Ar h) (by rw[V8];exact Tk ‹_› (by decide)) fun x hx o=>?_;have hx:=Vi.mp hx;have i1:=Aq (fs:=fs) (J:=s) (k:=x) (ar2 [_,_,_] [] 0 628686798469416387888 hx.2 (TF (Ul hl) :) art) (ar2 [_,_] [] 0 1153000917161154316496 (TF hl :) hn art);unfold xd;exact⟨fun q=>Sv i1 (by cases z:(wdA fs x==("no":Str));rfl;rw[z]at q;exact q.symm),fun q=>Sw i1 (by cases z:(wdA fs x==("no":Str));rw[z]at q;exact q.symm;rfl)⟩
theorem ij{a b:Nat}(hf:f.length<=1000):AP s0.length (s0++[ab.list (pvs f)]) (a:Int) (b:Int) (s0++[ab.list (pvs (f++[(a,b)]))]):=by have:=jS (xs:=pvs f) (J:=s0) (x:=.tup [.int (a:Int),.int (b:Int)]) (ar (by rw[Tn];exact Tk ‹_› (by decide)));rw[show pvs (f++[(a,b)])=pvs f++[.tup [.int (a:Int),.int (b:Int)]]from TI];exact this
theorem gn:AM P s0.length (s0++[ab.list (pvs f)]):=aM aN
structure FtC(s0:Hp)(nM:Nat)(fs:List Str)(inn:List Nat)(w:Nat->Int)(g:Nat->Bool)(mo:Int)(n:Nat)(iv:V):Prop where
 M:mJ s0 nM w g n
 n8:n<=100
 hl:fs.length=n+1
 hi:∀p∈inn,p<=n
 it:∀s,gZ s iv=some (.seq iv)
 its:∀s,bF s iv=some (nvs inn)
 okF:0<n->iV (kJ fs inn w g mo n)
inductive S6(F:Fit)(pre:List Nat)(c':Nat)(L:Nat->Option V->Loc)(Hf:List (Nat×Nat)->Hp)(m:Nat)(l:Loc)(s:Hp):Prop
 |mk (f:List (Nat×Nat)) (st:Nat) (o:Option V) (e0:m=c'-st) (e1:l=L st o) (e2:s=Hf f) (T:eH F f st) (h:st<c') (hf:f.length<=st) (Z:(∀e∈pre,e<=st)\/((∀e∈pre,st<e->F.must e=false)/\F.W st c'<=F.mo))
inductive S7(F:Fit)(pre:List Nat)(c':Nat)(L:Nat->Option V->Loc)(Hf:List (Nat×Nat)->Hp)(l:Loc)(s:Hp):Prop
 |mk (f:List (Nat×Nat)) (st:Nat) (o:Option V) (e1:l=L st o) (e2:s=Hf f) (T:eH F f st) (M:Mid F pre st c') (hf:f.length<=st)
theorem BY{wt:Loc->Hp->An->KQ->Prop}{body:Loc->Hp->An->KF->Prop}{F:Fit}{pre post:List Nat}{c' st:Nat}{f:List (Nat×Nat)}{o:Option V}(μ:iV F)(hs:F.cs=pre++c'::post)(n8:F.n<=100)(L:Nat->Option V->Loc)(Hf:List (Nat×Nat)->Hp)(s0:∀f st o,st<c'->¬F.mo<F.W st c'->fH wt body (L st o) (Hf f) false .next (L st o) (Hf f))(s1:∀f st o,st<c'->F.mo<F.W st c'->ju F st c'=none->∃o',fH wt body (L st o) (Hf f) true .brk (L st o') (Hf f))(s2:∀f st o p,st<c'->f.length<=st->F.mo<F.W st c'->ju F st c'=some p->∃o',fH wt body (L st o) (Hf f) true .next (L p o') (Hf (f++[(st,p)])))(T:eH F f st)(h:st<c')(hf:f.length<=st)(Z:(∀e∈pre,e<=st)\/((∀e∈pre,st<e->F.must e=false)/\F.W st c'<=F.mo)):
 ∃f' st' o',et wt body (L st o) (Hf f) .next (L st' o') (Hf f')/\eH F f' st'/\Mid F pre st' c'/\f'.length<=st':=by
 have c2:=(iW μ hs).2.1;obtain⟨l,s,⟨f',st',o',rfl,rfl,T',M',hf'⟩,W⟩:=pE (wt:=wt) (body:=body) (S6 F pre c' L Hf) (S7 F pre c' L Hf)
  (fun m l s I=>by
   obtain⟨f,st,o,rfl,rfl,rfl,T,h,hf,Z⟩:=I;by_cases q:F.mo<F.W st c'
   . have Z:∀e∈pre,e<=st:=Z.elim id fun z=>absurd z.2 (Int.not_le.mpr q);have nx:=(K7 μ hs Z h q T).2;cases k:ju F st c' with
     |none=>exact(s1 f st o h q k).elim fun o' S=>⟨true,.brk,_,_,S,.inr (.inl ⟨rfl,rfl,.mk f st _ rfl rfl T (.wide h Z q k) hf⟩)⟩
     |some p=>obtain⟨T',Z',p1,p2⟩:=nx p k;exact(s2 f st o p h hf q k).elim fun o' S=>⟨true,.next,_,_,S,.inr (.inr ⟨rfl,rfl,c'-p,Nat.sub_lt_sub_left h p2,.mk (f++[(st,p)]) p _ rfl rfl rfl T' p1 (by rw[Tm];exact Tk (V2 hf) p2) (.inl Z')⟩)⟩
   .exact⟨false,.next,_,_,s0 f st o h q,.inl ⟨rfl,rfl,.mk f st _ rfl rfl T (.fit h (Z.elim (fun z e he a=>absurd (z e he) (WP.mpr a)) fun z=>z.1) (VS.mp q)) hf⟩⟩)
  (c'-st) _ _ mu (Ts (W5 _ _) (Ts c2 (Ts n8 (by decide)))) (.mk f st o rfl rfl rfl T h hf Z)
 exact⟨f',st',o',W,T',M',hf'⟩
theorem vz(μ:iV (kJ fs inn w g mo n))(ρ:FtC s0 nM fs inn w g mo n iv)(hs:qp fs n=pre++c'::post)(T:eH (kJ fs inn w g mo n) f st)(h:st<c')(hf:f.length<=st){ch:V}{o:Option V}(Z:(∀e∈pre,e<=st)\/((∀e∈pre,st<e->jw fs e=false)/\Wd w g st c'<=mo)):
 ∃f' st' o',nz P (d+2) (ftL (.lst (svs fs)) nM mo iv s0.length st ch (some (.int (c':Int))) o) (s0++[ab.list (pvs f)]) (ftL (.lst (svs fs)) nM mo iv s0.length (st':Nat) ch (some (.int (c':Int))) o') (s0++[ab.list (pvs f')])/\eH (kJ fs inn w g mo n) f' st'/\Mid (kJ fs inn w g mo n) pre st' c'/\f'.length<=st':=by
 have c2:c'<=n:=(iW μ hs).2.1;have n8:=ρ.n8;have M:=fun f=>ρ.M.more (H:=[ab.list (pvs f)]);have W:=fun f st (h:st<c')=>vq (P:=P) (d:=d+1) (M f) n8 (Tk (TX h) c2) c2;have LT:=fun f st (h:st<c')=>Oy (P:=P) (d:=d) (mo:=mo) (e:=c') (M f) n8 (Tk (TX h) c2) ρ.hi (ρ.it _) (ρ.its _);have lt:∀st (x:Option Nat),ju (kJ fs inn w g mo n) st c'=x->(inn.filter fun p=>(decide (st<p)&&decide (p<c'))&&decide (Wd w g st p<=mo)).getLast?=x:=fun _ _ k=>k;exact BY μ hs n8 (fun st o=>ftL (.lst (svs fs)) nM mo iv s0.length (st:Nat) ch (some (.int (c':Int))) o) (fun f=>s0++[ab.list (pvs f)])
  (fun f st o h q=>Sx (M f).wm (W f st h) (Tz q))
  (fun f st o h q k=>by have:=LT f st h;rw[lt st _ k]at this;exact⟨_,Sy (M f).wm (W f st h) (To q) this⟩)
  (fun f st o p h hf q k=>by have:=LT f st h;rw[lt st _ k]at this;exact⟨_,Sz (M f).wm (W f st h) (To q) this gn (ij (Tk hf (ar3 [_,_,_] [] 0 1180672992927094745991376 h c2 n8 art)))⟩)
  T h hf Z
inductive K8(F:Fit)(S:Nat->Option Nat->Option V->List (Nat×Nat)->Prop)(pre:List Nat)(c':Nat):Prop
 |mk (f':List (Nat×Nat)) (st':Nat) (ch':Option Nat) (o':Option V) (s:S st' ch' o' f') (T:eH F f' st') (K:rU F (pre++[c']) st' ch') (hf:f'.length<=st') (h:st'<=c')
theorem OD(μ:iV (kJ fs inn w g mo n))(ρ:FtC s0 nM fs inn w g mo n iv)(hs:qp fs n=pre++c'::post){ch:Option Nat}(K:rU (kJ fs inn w g mo n) pre st ch)(T:eH (kJ fs inn w g mo n) f st)(hf:f.length<=st)(h:st<c'){o1 o2:Option V}:
 K8 (kJ fs inn w g mo n) (fun st' ch' o' f'=>nA P (d+2) (.int (c':Int)) (ftL (.lst (svs fs)) nM mo iv s0.length st (BX ch) o1 o2) (s0++[ab.list (pvs f)]) (ftL (.lst (svs fs)) nM mo iv s0.length (st':Nat) (BX ch') (some (.int (c':Int))) o') (s0++[ab.list (pvs f')])) pre c':=by
 obtain⟨c1,c2,c3,c4⟩:=iW μ hs;have c2:c'<=n:=c2;have n8:=ρ.n8;have ix:=fun s=>Aq (fs:=fs) (J:=s) (k:=c') (by rw[ρ.hl];exact ar1 [_,_] [] 0 44595200560 c2 art) (by rw[ρ.hl];exact Tk (UD ‹_› _) (by decide));have mus:∀b,jw fs c'=b->(wdA fs c'==("must":Str))=b:=fun b e=>e;have fin:∀{f2:List (Nat×Nat)}{st2:Nat},Mid (kJ fs inn w g mo n) pre st2 c'->eH (kJ fs inn w g mo n) f2 st2->f2.length<=st2->jw fs c'=true->eH (kJ fs inn w g mo n) (f2++[(st2,c')]) c'/\rU (kJ fs inn w g mo n) (pre++[c']) c' none/\(f2++[(st2,c')]).length<=c':=fun M T l q=>by obtain⟨a,b⟩:=F6 μ hs M q T;exact⟨a,b,by rw[Tm];exact Tk (V2 l) M.lt⟩
 cases ch with
 |none=>
  have Z:∀e∈pre,e<=st:=by cases K;assumption
  obtain⟨f2,st2,o',L,T2,M2,l2⟩:=vz (P:=P) (d:=d) (ch:=.none) (o:=o2) μ ρ hs T h hf (.inl Z);have lt2:=M2.lt;cases q:jw fs c' with
  |true=>obtain⟨a,b,l⟩:=fin M2 T2 l2 q;exact⟨_,c',none,o',QE L (ix _) (mus _ q) gn (ij (ar4 [_,_,_,_] [] 0 1209009183460674435365865680 l2 lt2 c2 n8 art)),a,b,l,TB _⟩
  |false=>exact⟨f2,st2,some c',o',QD L (ix _) (mus _ q),T2,rV μ hs M2 q,l2,TX lt2⟩
 |some c=>
  have W:=vq (P:=P) (d:=d+1) (ρ.M.more (H:=[ab.list (pvs f)])) n8 (show st<=n from TX (TG ‹_› ‹_›)) (show c'<=n from c2);have wm:=(ρ.M.more (H:=[ab.list (pvs f)])).wm (P:=P);by_cases q0:mo<Wd w g st c'
  . obtain⟨T1,Z1,h1⟩:=Ov μ hs K q0 T;have hc:st<c:=by cases K;assumption
    have l1:(f++[(st,c)]).length<=c:=by rw[Tm];exact Tk (V2 hf) hc
    obtain⟨f2,st2,o',L,T2,M2,l2⟩:=vz (P:=P) (d:=d) (ch:=.int (c:Int)) (o:=o2) μ ρ hs T1 h1 l1 (.inl Z1);have lt2:=M2.lt;cases q:jw fs c' with
    |true=>obtain⟨a,b,l⟩:=fin M2 T2 l2 q;exact⟨_,c',none,o',QI wm W (To q0) gn (ij (by lia)) L (ix _) (mus _ q) gn (ij (ar4 [_,_,_,_] [] 0 1209009183460674435365865680 l2 lt2 c2 n8 art)),a,b,l,TB _⟩
    |false=>exact⟨f2,st2,some c',o',QH wm W (To q0) gn (ij (ar4 [_,_,_,_] [] 0 1209009183460674435365865680 hf h c2 n8 art)) L (ix _) (mus _ q),T2,rV μ hs M2 q,l2,TX lt2⟩
  . have nm:∀e∈pre,st<e->jw fs e=false:=by cases K;assumption
    obtain⟨f2,st2,o',L,T2,M2,l2⟩:=vz (P:=P) (d:=d) (ch:=.int (c:Int)) (o:=o2) μ ρ hs T h hf (.inr ⟨nm,VS.mp q0⟩);have lt2:=M2.lt;cases q:jw fs c' with
    |true=>obtain⟨a,b,l⟩:=fin M2 T2 l2 q;exact⟨_,c',none,o',QG wm W (Tz q0) L (ix _) (mus _ q) gn (ij (ar4 [_,_,_,_] [] 0 1209009183460674435365865680 l2 lt2 c2 n8 art)),a,b,l,TB _⟩
    |false=>exact⟨f2,st2,some c',o',QF wm W (Tz q0) L (ix _) (mus _ q),T2,rV μ hs M2 q,l2,TX lt2⟩
inductive S9(F:Fit)(L:Nat->Option Nat->Option V->Option V->Loc)(Hf:List (Nat×Nat)->Hp)(i:Nat)(l:Loc)(s:Hp):Prop
 |mk (f:List (Nat×Nat)) (st:Nat) (ch:Option Nat) (o1 o2:Option V) (e1:l=L st ch o1 o2) (e2:s=Hf f) (T:eH F f st) (K:rU F (F.cs.take i) st ch) (hf:f.length<=st) (hst:st<=F.n) (hd:∀e∈F.cs.drop i,st<e)
theorem Kj{asg:V->Loc->Hp->An->KL->Prop}{body:Loc->Hp->An->KF->Prop}{tg:Expr}{F:Fit}(L:Nat->Option Nat->Option V->Option V->Loc)(Hf:List (Nat×Nat)->Hp)(ht:nU tg (.seq (.lst (nvs F.cs)))=true)(h0:F.cs≠[]->iV F)(hn:F.cs=[]->F.n=0)(h1:∀e∈F.cs,0<e)(turn:∀pre c' post st ch f o1 o2,iV F->F.cs=pre++c'::post->rU F pre st ch->eH F f st->f.length<=st->st<c'->K8 F (fun st' ch' o' f'=>eZ asg body (.int (c':Int)) (L st ch o1 o2) (Hf f) .next (L st' ch' (some (.int (c':Int))) o') (Hf f')) pre c'):
 ∃f st ch o1 o2,eW asg body tg (.seq (.lst (nvs F.cs))) (L 0 none none none) (Hf []) .next (L st ch o1 o2) (Hf f)/\iU F 0 f/\f.length<=F.n:=by
 have hN:∀s,bD s (.seq (.lst (nvs F.cs)))=some F.cs.length:=fun s=>Tx some (show(nvs F.cs).length=_ by rw[Tn]);obtain⟨l,s,⟨f,st,ch,o1,o2,rfl,rfl,T,K,hf,hst,_⟩,W⟩:=dA (N:=F.cs.length) (it:=.seq (.lst (nvs F.cs))) (loc:=L 0 none none none) (J:=Hf []) (tg:=tg) (asg:=asg) (body:=body) (S9 F L Hf)
  (fun i l s hi I=>by
   obtain⟨f,st,ch,o1,o2,rfl,rfl,T,K,hf,hst,hd⟩:=I;have μ:=h0 fun e=>by rw[e]at hi;exact absurd hi (Vj _)
   have hs:F.cs=F.cs.take i++F.cs[i]::F.cs.drop (i+1):=by rw[<-Vs hi,VQ]
   have hlt:st<F.cs[i]:=hd _ (by rw[Vs hi];exact UG);obtain⟨f',st',ch',o',S,T',K',hf',hst'⟩:=turn _ _ _ st ch f o1 o2 μ hs K T hf hlt;have hg:fD (Hf f) i (.seq (.lst (nvs F.cs)))=some (.int (F.cs[i]:Int)):=by show(nvs F.cs)[i]?=_;rw[Ty,Tq hi];rfl
   refine⟨hN _,_,.next,_,_,hg,S,.inl rfl,.mk f' st' ch' _ _ rfl rfl T' ?_ hf' (Tk hst' (iW μ hs).2.1) fun e he=>?_⟩
   .rw[Un,Tq hi];exact K'
   .have p:=μ.s;rw[hs,VV,VM]at p;exact Ts hst' (p.2.1.1 e he))
  (fun l s I=>hN _) (hN _) ht (.mk [] 0 none none none rfl rfl (fun l hl=>hl) (.no fun e he=>absurd he Up) (TB _) (VC _) h1)
 rw[Ur]at K;refine⟨f,st,ch,o1,o2,W,?_,Tk hf hst⟩;by_cases hp:F.cs=[]
 . have e:st=F.n:=by rw[hn hp]at hst ⊢;exact Nat.le_zero.mp hst
   have:=T [] (e▸.nil);rwa [Ua]at this
 .exact F7 (h0 hp) K T hst
theorem Gg(ρ:FtC s0 nM fs inn w g mo n iv):∃f,cP P (d+3) "" "line_fitted" [.lst (svs fs),.inst "LineMeasure" nM,.int mo,iv] [] s0 (.ref s0.length) (s0++[ab.list (pvs f)])/\iU (kJ fs inn w g mo n) 0 f/\f.length<=n:=by
 have n8:=ρ.n8;have pos:∀e∈qp fs n,0<e:=fun e he=>(Vi.mp (UE.mp he).1).1;have μ:qp fs n≠[]->iV (kJ fs inn w g mo n):=fun h=>ρ.okF (Nat.pos_of_ne_zero fun e=>h (by subst e;rfl));obtain⟨f,st,ch,o1,o2,L,R,hf⟩:=Kj (F:=kJ fs inn w g mo n) (tg:=bf (ftS P)) (asg:=aJ P (d+2) (bf (ftS P))) (body:=av P (d+2) (bj (ftS P)))
  (fun st ch o1 o2=>ftL (.lst (svs fs)) nM mo iv s0.length (st:Nat) (BX ch) o1 o2) (fun f=>s0++[ab.list (pvs f)]) (by rfl') μ (fun e=>Nat.eq_zero_of_not_pos fun h=>by
   have m:=(ρ.okF h).e;have m:n∈qp fs n:=m;have e:qp fs n=[]:=e;rw[e]at m;exact absurd m Up) pos
  (fun pre c' post st ch f o1 o2 μ hs K T hf h=>OD μ ρ hs K T hf h)
 have ln:biI false "len" [.lst (svs fs)] (s0++[ab.list []])=some (.int ((n:Int)+1),s0++[ab.list []]):=by rw[oE (ar (by rw[Tn,ρ.hl];exact ar1 [_] [] 0 1125900054221745686736 n8 art)),Tn,ρ.hl];rfl
 exact⟨f,SA ln (Gf rfl (b0 (ar0 [_] [] 1 52112373615554066186647988339110 art) (ar1 [_] [] 1 170141183460469231746892900029653190864 n8 art))) (OB ρ.hl n8) L,R,hf⟩
end
section
variable{J:Hp}{l:List Str}{cs:List Int}{x:Str}{t:Bool}
theorem tU{n:Nat}:∀l:List Int,gP (eqV (n+1)) (ivs l) (ivs l)=some true
 |[]=>rfl
 |a::r=>by show(some (a==a)).bind (fun b=>(gP (eqV (n+1)) (ivs r) (ivs r)).bind fun c=>some (b&&c))=_;rw[tU r,TQ];rfl
theorem Gh{C:Nat}(h:J[C]?=some (.list (ivs cs))):bA J .NotEq (.ref C) (.lst (ivs cs))=some false:=by show(els (a7 J (.ref C)) (fun xs=>(some (ivs cs)).bind fun ys=>xn (eqV 5) xs ys) _).map _=_;rw[cp h,Ag];show(if(ivs cs).length=(ivs cs).length then gP (eqV 5) (ivs cs) (ivs cs)else some false).map _=_;rw[if_pos rfl,tU];rfl
theorem Gi{C:Nat}(h:J[C]?=some (.list (ivs cs)))(hl:cs.length<=1000):tyI false "list" [.ref C] J=some (.lst (ivs cs),J):=by show(a7 J (.ref C)).bind (fun xs=>if ba xs then some (bG false xs J)else none)=_;rw[cp h,Ue,if_pos (ar (by rw[aK];exact Tk ‹_› (by decide)))];rfl
end
theorem pF{t:Int}{h g:ab}(D:hP t h g):[h,g].all (cg 2)=true:=by obtain⟨_,c,m,_,rfl,rfl⟩:=D;show(refsL 2 (ivs c)&&(true&&true))=true;rw[gD fun v hv=>by obtain⟨i,_,rfl⟩:=Uw.mp hv;rfl];rfl
theorem DSt.more{J H:Hp}{D m:Nat}{kn:KN}{f:Str->Int->V}(S:DSt J D kn f m)(hc:(J++H).all (cg (J++H).length)=true):DSt (J++H) D kn f m :=
 ⟨S.A.more,aT S.known,S.ml,S.kl,S.fk,S.fn,S.rg,S.lk,hc⟩
def gB(ss:List aA)(i:Nat):Bool:=(ss.map fun s=>inS s.n gM).getD i false
noncomputable def wB(ws:List Int)(i:Nat):Int:=ws.getD i 0
theorem Kk{s:aA}(h:s∈bN):inS (bT "strict" s) gM=inS s.n gM:=by
 have k:bN.all (fun s=>inS (bT "strict" s) gM==inS s.n gM)=true:=by rfl'
 exact Ub.mp (UI.mp k s h)
theorem Gj{ws:List Int}{i:Nat}(h:i<ws.length):wB ws i=ws[i]:=by unfold wB;rw[Uo,Tq h];rfl
theorem K9{ss:List aA}{i:Nat}(h:i<ss.length):gB ss i=inS ss[i].n gM:=by unfold gB;rw[Uo,Ty,Tq h];rfl
section
variable{P:Params}{d D B hh C n:Nat}{J s:Hp}{Y:np}{ss:List aA}{cf:aA->Int}{ws:List Int}{mo:Int}{fs:List Str}{inn:List Nat}{iv:V}
theorem Kl(E:uU P J D hh Y (ss.map cf))(hcl:∀s∈ss,Y.cl (cf s)=bT "strict" s)(hs:∀s∈ss,s∈bN)(hl:ss.length<=100)(hB:J[B]?=some (rH D hh))(hC:J[C]?=some (.list (ivs (ss.map cf)))):
 Gd P (d+6) (.ref C) (heL B none) J (.lst ((ss.map fun s=>inS s.n gM).map .bool)) J:=by
 refine rR (L:=heL B) (xs:=ivs (ss.map cf)) (y6 hC) ?_ (fun i=>?_) (by rw[aK,Tn,Tn,Tn]) (by rw[Tn,Tn];exact Tk ‹_› (by decide)) (fun i x y o hx hy=>?_)
 .show(bF _ _).map _=_;rw[cq hC];rfl
 .show(bF _ _).bind _=_;rw[cq hC];rfl
 . unfold ivs at hx;rw[Ty,Ty]at hx hy;cases q:ss[i]? with
   |none=>rw[q]at hx;exact nomatch hx
   |some z=>rw[q]at hx hy;cases hx;cases hy;have hz:=TZ q;have K:=E.cls d (cf z) (Uw.mpr ⟨z,hz,rfl⟩) [];rw[Ua,hcl z hz]at K;show ∃o',Gc P (d+6) (.int (cf z)) (heL B o) J (.bool (inS z.n gM)) (heL B o') J;rw[<-Kk (hs z hz)];exact⟨_,SB (ax (lbC P) hB rfl rfl) (ax (lbC P) hB rfl rfl) K⟩
theorem BZ(E:uU P J D hh Y (ss.map cf))(hcl:∀s∈ss,Y.cl (cf s)=bT "strict" s)(hs:∀s∈ss,s∈bN)(hl:ss.length<=100)(hB:J[B]?=some (rH D hh))(hC:J[C]?=some (.list (ivs (ss.map cf))))(hw:ws.length=ss.length):
 cP P (d+7) "LineBreaks" "measure" [.inst "LineBreaks" B,.ref C,.lst (ivs ws)] [] J (.inst "LineMeasure" J.length) (mH J (ivs (snL (Sm (wB ws)) (ss.length+1))) (ivs (snL (fun j=>(En (gB ss) j:Int)) (ss.length+1)))):=by
 have I:=QC (P:=P) (d:=d+5) (J:=J) (ws:=ws) (hs:=ss.map fun s=>inS s.n gM) (w:=wB ws) (g:=gB ss) (by rw[Tn,hw]) (by rw[hw];exact hl) (fun i h=>Gj h) (fun i h=>by
  rw[List.getElem_map];rw[Tn]at h;exact K9 h)
 rw[hw]at I;exact SC (Kl E hcl hs hl hB hC) I
theorem xe{l:List Int}{a:Nat}:∀k,a+k<=l.length->((l.drop a).take k).sum=Sm (wB l) (a+k)-Sm (wB l) a
 |0,_=>by rw[WO,Nat.add_zero,Int.sub_self];rfl
 |k+1,h=>by
  have hk:a+k<l.length:=h;have e:(l.drop a)[k]?=some l[a+k]:=by rw[List.getElem?_drop,Tq hk]
  rw[Un,e,List.sum_append,xe k (TX hk)];show _+[l[a+k]].sum=Sm (wB l) (a+k)+wB l (a+k)-_;rw[Gj hk,List.sum_singleton];exact are [] [_,_,_] 1 97919619107640 art art
theorem xf:∀l:List Int,tq (ivs l)=some l
 |[]=>rfl
 |a::r=>by show(some a).bind (fun x=>(tq (ivs r)).map fun l=>x::l)=_;rw[xf r];rfl
theorem Gk{a:Nat}{g:Nat->Bool}{b:Nat}(h:a<=b)(q:g b=true):max a (En g (b+1))=max a (En g b):=by
 have:En g (b+1)=En g b:=by show cond (g b) _ _=_;rw[q];rfl
 rw[this]
theorem QK(hs:∀s∈ss,s∈bN)(hl:ss.length<=100)(hw:ws.length=ss.length){a b:Nat}(hab:a<=b)(hb:b<=ss.length):VF P (d+1) s (ss.map ao) (ivs ws) (a:Int) (b:Int) (Wd (wB ws) (gB ss) a b):=by
 have en:max a (En (gB ss) b)<=b:=Nat.max_le.mpr ⟨hab,xc b⟩;have L:Ge P d (wdL (ss.map ao) (ivs ws) a b) s (wdL (ss.map ao) (ivs ws) a ((max a (En (gB ss) b):Nat):Int)) s:=by
  obtain⟨l,s',⟨rfl,rfl⟩,W⟩:=pE (wt:=bI P d (iy (wdS P))) (body:=av P d (bj (wdS P)))
   (fun m l s'=>l=wdL (ss.map ao) (ivs ws) a ((m:Nat):Int)/\s'=s/\a<=m/\m<=ss.length/\max a (En (gB ss) m)=max a (En (gB ss) b))
   (fun l s'=>l=wdL (ss.map ao) (ivs ws) a ((max a (En (gB ss) b):Nat):Int)/\s'=s)
   (fun m l s' I=>by
    obtain⟨rfl,rfl,h1,h2,h3⟩:=I;by_cases q:a<m
    . obtain⟨k,rfl⟩:∃k,m=k+1:=⟨m-1,by lia⟩;have hk:k<ss.length:=h2;have e1:((k+1:Nat):Int)-1=(k:Int):=are [_] [] 1 120335729968 art art;have dq:decide ((a:Int)<((k+1:Nat):Int))=true:=To (UF.mpr q);have ix:af s' (.lst (ss.map ao)) (.int (((k+1:Nat):Int)-1))=some (ao ss[k]):=by rw[e1,jF];exact hX (by rw[Ty,Tq hk];rfl) (by rw[Tn];exact Tk ‹_› (by decide))
      have gk:=K9 (ss:=ss) hk;generalize hz:ss[k]=z at ix gk;obtain⟨zn,zg,ze,zp,zc⟩:=z;cases g:gB ss k with|true=>rw[g]at gk;refine⟨true,.next,_,_,SH dq ix gk.symm,.inr (.inr ⟨rfl,rfl,k,UO k,by rw[e1],rfl,Nat.le_of_lt_succ q,TX hk,?_⟩)⟩;rw[<-h3,Gk (Nat.le_of_lt_succ q) g]|false=>
       rw[g]at gk;refine⟨false,.next,_,_,SJ dq ix gk.symm,.inl ⟨rfl,rfl,?_,rfl⟩⟩;rw[<-h3];have:En (gB ss) (k+1)=k+1:=by show cond (gB ss k) _ _=_;rw[g];rfl
       rw[this,Nat.max_eq_right (TX q)]
    .have e2:m=a:=Ud (Vd.mp q) h1;refine⟨false,.next,_,_,SK (Tz fun z=>q (UF.mp z)),.inl ⟨rfl,rfl,?_,rfl⟩⟩;rw[<-h3,e2,Nat.max_eq_left (xc a)])
   b (wdL (ss.map ao) (ivs ws) a (b:Int)) s mu (Ts (Tk hb hl) (by decide)) ⟨rfl,rfl,hab,hb,rfl⟩
  exact W
 generalize hm:max a (En (gB ss) b)=m at L en;have ham:a<=m:=hm▸Nat.le_max_left _ _;have sl:bm false s (.lst (ivs ws)) (.int (a:Int)) (.int (m:Int)) .none=some (.lst (ivs ((ws.drop a).take (m-a))),s):=by
  rw[nV rfl (ar (by rw[aK,hw];exact Tk ‹_› (by decide))) (jp (b0 (by exact TK (by decide) (TM _)) (by exact ar3 [_,_,_] [] 1 174224571863520493308818332214300308015312 hab hb hl art))) (jp (b0 (by exact TK (by decide) (TM _)) (by exact ar3 [_,_,_] [] 1 174224571863520493308818332214300308015312 en hb hl art))),zJ];have h1:kms_lo (some (a:Int)) ws.length=a:=by unfold kms_lo;dsimp only;rw[if_neg (by exact U9 (ar0 [_] [] 1 3592 art))];show min _ _=_;lia
  have h2:kms_hi (some (m:Int)) ws.length=m:=by unfold kms_hi;dsimp only;rw[if_neg (by exact U9 (ar0 [_] [] 1 3592 art))];show min _ _=_;lia
  rw[h1,h2];rfl
 have sm:biI false "sum" [.lst (ivs ((ws.drop a).take (m-a)))] s=some (.int (Wd (wB ws) (gB ss) a b),s):=by show(tq (ivs ((ws.drop a).take (m-a)))).map (fun l=>(V.int l.sum,s))=_;rw[xf,Option.map_some,xe (m-a) (by exact ar4 [_,_,_,_,_,_] [] 0 629087110195389680176 (fp (n:=m) (m:=a) (ar1 [_,_] [] 0 574000 ham art)) en hb (TF (Ul hw) :) art)];unfold Wd;rw[hm,show a+(m-a)=m by exact Ud (ar1 [_,_,_] [] 0 620104320560 (fp (n:=m) (m:=a) (ar1 [_,_] [] 0 574000 ham art)) art) (ar1 [_,_,_] [] 0 53234158128 (iX (n:=m) (m:=a) (ar1 [_,_] [] 0 574000 ham art)) art)]
 exact SL L sl sm
end
theorem B0{n st:Nat}(h:st<=n):(List.range' 1 n).filter (fun e=>decide (st<e))=List.range' (st+1) (n-st):=by
 have e:List.range' 1 n=List.range' 1 st++List.range' (st+1) (n-st):=by rw[Nat.add_comm st 1,List.range'_append_1,Nat.add_sub_cancel' h]
 rw[e,U5,VK.mpr,List.filter_eq_self.mpr,Wz]
 .intro x hx;exact To (Vi.mp hx).1
 .intro x hx q;have:=(Vi.mp hx).2;have:=TH q;lia
theorem vA{J:Hp}{l:List Nat}:bD J (.seq (.lst (nvs l)))=some l.length:=Tx some (show(nvs l).length=l.length by rw[Tn])
theorem vC{J:Hp}{l:List Nat}{i:Nat}(h:i<l.length):fD J i (.seq (.lst (nvs l)))=some (.int (l[i]:Int)):=by show(nvs l)[i]?=_;rw[Ty,Tq h];rfl
theorem OE{J:Hp}{l:List Nat}{a:Nat}(h:l.head?=some a)(hl:l.length<=1000):af J (.lst (nvs l)) (.int 0)=some (.int (a:Int)):=by
 cases l with|nil=>exact nomatch h|cons b r=>cases h;rw[jF];exact hX (i:=0) rfl (by rw[Tn];exact hl)
theorem QL{J:Hp}{l:List Nat}{a:Nat}(h:l.getLast?=some a):af J (.lst (nvs l)) (.int (-1))=some (.int (a:Int)):=by obtain⟨r,rfl⟩:=List.getLast?_eq_some_iff.mp h;rw[jF,nvs,TI];exact lX
theorem qG{J:Hp}{l:List Nat}:bA J .Eq (.lst (nvs l)) (.lst [])=some l.isEmpty:=by cases l<;>rfl
theorem vD{J:Hp}{l:List Nat}:bA J .NotEq (.lst (nvs l)) (.lst [])=some (!l.isEmpty):=by cases l<;>rfl
section
variable{P:Params}{d n:Nat}{J s:Hp}{ss:List aA}{ws:List Int}{mo:Int}{fs:List Str}{inn:List Nat}{f:List (Nat×Nat)}{st:Nat}{o1 o2 o3 o4:Option V}
abbrev dY(fs:List Str)(inn:List Nat)(ss:List aA)(ws:List Int)(mo:Int):Fit:=kJ fs inn (wB ws) (gB ss) mo ss.length
theorem Km(h:st<=ss.length):eG (dY fs inn ss ws mo) st=(List.range' (st+1) (ss.length-st)).filter (xd fs):=by
 show((List.range' 1 ss.length).filter (xd fs)).filter _=_;rw[List.filter_filter,<-B0 h,List.filter_filter]
 congr 1
 funext x
 exact Bool.and_comm _ _
structure LiC(ss:List aA)(ws:List Int)(fs:List Str)(inn:List Nat)(mo:Int):Prop where
 hs:∀s∈ss,s∈bN
 hl:ss.length<=100
 hw:ws.length=ss.length
 hf:fs.length=ss.length+1
 hi:∀p∈inn,p<=ss.length
 hn:inn.length<=1000
 okF:0<ss.length->iV (dY fs inn ss ws mo)
theorem Kn(ρ:LiC ss ws fs inn mo)(h:st<ss.length)(m:AM P s.length (s++[ab.list (pvs f)]))(ap:AP s.length (s++[ab.list (pvs f)]) (st:Int) ((eL (dY fs inn ss ws mo) st:Nat):Int) J):
 ∃p1 p2 p3 p4,rX P (d+1) (liL (ss.map ao) (.lst (svs fs)) (ivs ws) mo (nvs inn) s.length st o1 o2 o3 o4) (s++[ab.list (pvs f)]) true .next (liL (ss.map ao) (.lst (svs fs)) (ivs ws) mo (nvs inn) s.length ((eL (dY fs inn ss ws mo) st:Nat):Int) p1 p2 p3 p4) J:=by
 have hl:=ρ.hl;have μ:=ρ.okF (Ts (VC _) h);have ee:=Km (fs:=fs) (inn:=inn) (ws:=ws) (mo:=mo) (TX h);have me:∀x∈eG (dY fs inn ss ws mo) st,st<x/\x<=ss.length:=fun x hx=>⟨(cE.mp hx).2,μ.le x (cE.mp hx).1⟩;have ln:biI false "len" [.lst (ss.map ao)] (s++[ab.list (pvs f)])=some (.int (ss.length:Int),s++[ab.list (pvs f)]):=by rw[oE (ar (by rw[Tn];exact Tk ‹_› (by decide))),Tn]
 have q:decide ((st:Int)<(ss.length:Int))=true:=To (UF.mpr h);have e1:(st:Int)+1=((st+1:Nat):Int):=rfl;have e2:(ss.length:Int)+1=((st+1:Nat):Int)+((ss.length-st:Nat):Int):=VN (ar1 [_,_,_] [] 1 1310981299523647752752 (iX (n:=ss.length) (m:=st) (ar1 [_,_] [] 0 587760944 h art)) art) (ar1 [_,_,_] [] 1 1516741546054027642416 (fp (n:=ss.length) (m:=st) (ar1 [_,_] [] 0 587760944 h art)) art);have r:tyI true "range" [.int ((st:Int)+1),.int ((ss.length:Int)+1)] (s++[ab.list (pvs f)])=some (.rng ((st:Int)+1) ((ss.length:Int)+1),s++[ab.list (pvs f)]):=Gf (b0 (TK (by decide) (TM _)) (ar2 [_,_,_] [] 513 6129982163463555433981227451743469168431130672303835344 (Uk (Ul e2) :) hl art)) (b0 (TK (by decide) (TM _)) (ar1 [_] [] 1 170141183460469231746892900029653190864 hl art));have len1:(eG (dY fs inn ss ws mo) st).length<=1000:=by rw[ee];have:=Wq (xd fs) (List.range' (st+1) (ss.length-st));rw[V8]at this;exact ar3 [_,_,_,_] [] 262144 40567616433211482616340947043223760 this (Uk (Ul e2) :) hl art
 have ix:∀x∈eG (dY fs inn ss ws mo) st,af (s++[ab.list (pvs f)]) (.lst (svs fs)) (.int (x:Int))=some (.str (wdA fs x)):=fun x hx=>Aq (by rw[ρ.hf];have:=me x hx;exact ar1 [_,_] [] 0 44595200560 this.2 art) (by rw[ρ.hf];exact Tk (UD ‹_› _) (by decide));have C1:cZ P (d+1) (l1E P) (.rng ((st:Int)+1) ((ss.length:Int)+1)) (tdL (.lst (svs fs)) none) (s++[ab.list (pvs f)]) (.lst (nvs (eG (dY fs inn ss ws mo) st))) (s++[ab.list (pvs f)]):=by rw[e1,e2,ee];refine jv (tdL (.lst (svs fs))) (it:=.rng ((st+1:Nat):Int) (((st+1:Nat):Int)+((ss.length-st:Nat):Int))) (At (ar2 [_,_,_] [] 512 40567593799702287791253538194196688 (Uk (Ul e2) :) hl art) (ar2 [_,_,_] [] 512 39616811060166282330536861108432 (Uk (Ul e2) :) hl art)) As (fun i h=>Ar h) (by rw[V8];exact ar2 [_,_,_] [] 512 39616811060166282330536861108432 (Uk (Ul e2) :) hl art) fun x hx o=>?_;have hx:=Vi.mp hx;have i1:=Aq (fs:=fs) (J:=s++[ab.list (pvs f)]) (k:=x) (by rw[ρ.hf];exact ar2 [_,_,_,_] [] 262144 1726491433702146988186885110814049584 hx.2 (Uk (Ul e2) :) art) (by rw[ρ.hf];exact Tk (UD ‹_› _) (by decide));unfold xd;exact⟨fun q=>SM i1 (by cases z:(wdA fs x==("no":Str));rfl;rw[z]at q;exact q.symm),fun q=>SN i1 (by cases z:(wdA fs x==("no":Str));rw[z]at q;exact q.symm;rfl)⟩
 have C2:cZ P (d+1) (l2E P) (.lst (nvs (eG (dY fs inn ss ws mo) st))) (tdL (.lst (svs fs)) none) (s++[ab.list (pvs f)]) (.lst (nvs ((eG (dY fs inn ss ws mo) st).filter (jw fs)))) (s++[ab.list (pvs f)]) :=
  jv (tdL (.lst (svs fs))) (it:=.seq (.lst (nvs (eG (dY fs inn ss ws mo) st)))) rfl vA (fun i h=>vC h) len1 fun x hx o=>⟨fun q=>SP (ix x hx) q,fun q=>SQ (ix x hx) q⟩
 have hn:ss.length∈eG (dY fs inn ss ws mo) st:=cE.mpr ⟨μ.e,h⟩;obtain⟨hd,hd1,_,_⟩:=md ((pD μ (s:=st)).filter (jw fs)) (UE.mpr ⟨hn,μ.m⟩);obtain⟨en0,en1,_,_⟩:=md (pD μ (s:=st)) hn;have hh:Am (dY fs inn ss ws mo) st=hd:=by show(((eG (dY fs inn ss ws mo) st).filter (jw fs)).head?).getD 0=hd;rw[hd1];rfl
 have hf1:jX (dY fs inn ss ws mo) st=en0:=by show((eG (dY fs inn ss ws mo) st).head?).getD 0=en0;rw[en1];rfl
 have i2:=OE (J:=s++[ab.list (pvs f)]) hd1 (Tk (Wq _ _) len1);have C3:cZ P (d+1) (l3E P) (.lst (nvs (eG (dY fs inn ss ws mo) st))) (l3L hd mo st (ss.map ao) (ivs ws) none) (s++[ab.list (pvs f)]) (.lst (nvs (sP (dY fs inn ss ws mo) st))) (s++[ab.list (pvs f)]):=by
  unfold sP;rw[hh];refine jv (l3L hd mo st (ss.map ao) (ivs ws)) (it:=.seq (.lst (nvs (eG (dY fs inn ss ws mo) st)))) rfl vA (fun i h=>vC h) len1 fun x hx o=>?_;obtain⟨x1,x2⟩:=me x hx;have W:=QK (P:=P) (d:=d) (s:=s++[ab.list (pvs f)]) ρ.hs hl ρ.hw (TX x1) x2;by_cases q1:x<=hd
  .have d1:decide ((x:Int)<=(hd:Int))=true:=To (VE.mpr q1);exact⟨fun z=>SS d1 W (by rw[To q1,U3]at z;exact z),fun z=>SU d1 W (by rw[To q1,U3]at z;exact z)⟩
  .exact⟨fun z=>by rw[Tz q1,Vh]at z;exact Bool.noConfusion z,fun z=>SR (Tz fun a=>q1 (VE.mp a))⟩
 cases k:(sP (dY fs inn ss ws mo) st).getLast? with
 |some e=>
  have nx:eL (dY fs inn ss ws mo) st=e:=by unfold eL;rw[k]
  rw[nx]at ap ⊢;have z:(sP (dY fs inn ss ws mo) st).isEmpty=false:=by
   cases q:sP (dY fs inn ss ws mo) st with|nil=>rw[q]at k;exact nomatch k|cons _ _=>rfl
  exact⟨_,_,_,_,S2 ln q r C1 C2 i2 C3 (by rw[qG,z]) (by rw[vD,z];rfl) (QL k) m ap⟩
 |none=>
  have z:sP (dY fs inn ss ws mo) st=[]:=List.getLast?_eq_none_iff.mp k;have C4:cZ P (d+1) (l4E P) (.lst (nvs inn)) (l4L (nvs (eG (dY fs inn ss ws mo) st)) mo st (ss.map ao) (ivs ws) none) (s++[ab.list (pvs f)]) (.lst (nvs (inL (dY fs inn ss ws mo) st en0))) (s++[ab.list (pvs f)]):=by
   unfold inL;refine jv (l4L (nvs (eG (dY fs inn ss ws mo) st)) mo st (ss.map ao) (ivs ws)) (it:=.seq (.lst (nvs inn))) rfl vA (fun i h=>vC h) ρ.hn fun x hx o=>?_;have i0:=OE (J:=s++[ab.list (pvs f)]) en1 len1;by_cases q1:st<x
   . have d1:decide ((st:Int)<(x:Int))=true:=To (UF.mpr q1);by_cases q2:x<en0
     .have d2:decide ((x:Int)<(en0:Int))=true:=To (UF.mpr q2);have W:=QK (P:=P) (d:=d) (s:=s++[ab.list (pvs f)]) ρ.hs hl ρ.hw (TX q1) (ρ.hi x hx);exact⟨fun z=>SY d1 i0 d2 W (by rw[To q1,To q2]at z;exact z),fun z=>SX d1 i0 d2 W (by rw[To q1,To q2]at z;exact z)⟩
     .exact⟨fun z=>by rw[Tz q2,VA,Vh]at z;exact Bool.noConfusion z,fun z=>SW d1 i0 (Tz fun a=>q2 (UF.mp a))⟩
   .exact⟨fun z=>by rw[Tz q1,Vh,Vh]at z;exact Bool.noConfusion z,fun z=>SV (Tz fun a=>q1 (UF.mp a))⟩
  have nx:eL (dY fs inn ss ws mo) st=((inL (dY fs inn ss ws mo) st en0).getLast?).getD en0:=by unfold eL;rw[k,hf1];rfl
  cases k2:(inL (dY fs inn ss ws mo) st en0).getLast? with
  |some e=>
   have nx:eL (dY fs inn ss ws mo) st=e:=by rw[nx,k2];rfl
   rw[nx]at ap ⊢;have z2:(inL (dY fs inn ss ws mo) st en0).isEmpty=false:=by
    cases q:inL (dY fs inn ss ws mo) st en0 with|nil=>rw[q]at k2;exact nomatch k2|cons _ _=>rfl
   exact⟨_,_,_,_,S3 ln q r C1 C2 i2 C3 (by rw[qG,z];rfl) C4 (by rw[vD,z2];rfl) (QL k2) m ap⟩
  |none=>
   have z2:inL (dY fs inn ss ws mo) st en0=[]:=List.getLast?_eq_none_iff.mp k2;have nx:eL (dY fs inn ss ws mo) st=en0:=by rw[nx,k2];rfl
   rw[nx]at ap ⊢;exact⟨_,_,_,_,S4 ln q r C1 C2 i2 C3 (by rw[qG,z];rfl) C4 (by rw[vD,z2];rfl) (OE en1 len1) m ap⟩
inductive Tb(F:Fit)(L:Nat->Option V->Option V->Option V->Option V->Loc)(Hf:List (Nat×Nat)->Hp)(m:Nat)(l:Loc)(s:Hp):Prop
 |mk (f:List (Nat×Nat)) (st:Nat) (o1 o2 o3 o4:Option V) (e0:m=F.n-st) (e1:l=L st o1 o2 o3 o4) (e2:s=Hf f) (T:eH F f st) (h:st<=F.n) (hf:f.length<=st)
inductive Tc(F:Fit)(L:Nat->Option V->Option V->Option V->Option V->Loc)(Hf:List (Nat×Nat)->Hp)(l:Loc)(s:Hp):Prop
 |mk (f:List (Nat×Nat)) (st:Nat) (o1 o2 o3 o4:Option V) (e1:l=L st o1 o2 o3 o4) (e2:s=Hf f) (R:iU F 0 f)
theorem B5{wt:Loc->Hp->An->KQ->Prop}{body:Loc->Hp->An->KF->Prop}{F:Fit}(L:Nat->Option V->Option V->Option V->Option V->Loc)(Hf:List (Nat×Nat)->Hp)(n8:F.n<=100)(μ:0<F.n->iV F)(s0:∀f o1 o2 o3 o4,fH wt body (L F.n o1 o2 o3 o4) (Hf f) false .next (L F.n o1 o2 o3 o4) (Hf f))(s1:∀f st o1 o2 o3 o4,st<F.n->f.length<=st->∃p1 p2 p3 p4,fH wt body (L st o1 o2 o3 o4) (Hf f) true .next (L (eL F st) p1 p2 p3 p4) (Hf (f++[(st,eL F st)]))):
 ∃f st o1 o2 o3 o4,et wt body (L 0 none none none none) (Hf []) .next (L st o1 o2 o3 o4) (Hf f)/\iU F 0 f:=by
 obtain⟨l,s',⟨f,st,o1,o2,o3,o4,rfl,rfl,R⟩,W⟩:=pE (wt:=wt) (body:=body) (Tb F L Hf) (Tc F L Hf)
  (fun m l s' I=>by
   obtain⟨f,st,o1,o2,o3,o4,rfl,rfl,rfl,T,h,hf⟩:=I;by_cases q:st<F.n
   .obtain⟨g1,g2⟩:=Kh (μ (Ts (VC _) q)) q;obtain⟨p1,p2,p3,p4,S⟩:=s1 f st o1 o2 o3 o4 q hf;exact⟨true,.next,_,_,S,.inr (.inr ⟨rfl,rfl,F.n-eL F st,Nat.sub_lt_sub_left q g1,.mk _ _ p1 p2 p3 p4 rfl rfl rfl (T.snoc q rfl) g2 (by rw[Tm];exact Tk (V2 hf) g1)⟩)⟩
   .have e:st=F.n:=Ud h (Vd.mp q);subst e;have:=T [] .nil;rw[Ua]at this;exact⟨false,.next,_,_,s0 f o1 o2 o3 o4,.inl ⟨rfl,rfl,.mk f _ _ _ _ _ rfl rfl this⟩⟩)
  F.n _ _ mu (Ts n8 (by decide)) (.mk [] 0 none none none none rfl rfl rfl (fun l hl=>hl) (VC _) (TB _))
 exact⟨f,st,o1,o2,o3,o4,W,R⟩
theorem Ko(ρ:LiC ss ws fs inn mo):∃f,cP P (d+2) "" "_law_lines" [.lst (ss.map ao),.lst (svs fs),.lst (ivs ws),.int mo,.lst (nvs inn)] [] s (.ref s.length) (s++[ab.list (pvs f)])/\iU (dY fs inn ss ws mo) 0 f:=by
 have hl:=ρ.hl;obtain⟨f,st,o1,o2,o3,o4,W,R⟩:=B5 (wt:=bI P (d+1) (iy (liS P))) (body:=av P (d+1) (bj (liS P))) (F:=dY fs inn ss ws mo)
  (fun st o1 o2 o3 o4=>liL (ss.map ao) (.lst (svs fs)) (ivs ws) mo (nvs inn) s.length (st:Nat) o1 o2 o3 o4) (fun f=>s++[ab.list (pvs f)]) hl ρ.okF
  (fun f o1 o2 o3 o4=>SZ (N:=(ss.length:Int)) (by rw[oE (ar (by rw[Tn];exact Tk hl (by decide))),Tn]) (Tz (Int.lt_irrefl _)))
  (fun f st o1 o2 o3 o4 q hf=>Kn ρ q gn (ij (Tk hf (Tk (TX q) (Tk hl (by decide))))))
 exact⟨f,S5 W,R⟩
end
abbrev weE(P:Params):Expr:=Ll 1 (stE (db 2 (gA P).body))
abbrev inE(P:Params):Expr:=stE (db 3 (gA P).body)
abbrev tuE(P:Params):Expr:=stE (db 8 (gA P).body)
noncomputable abbrev weL(o:Option V):Loc:=[(".0",.v none),("sort",.v o),("_law_draw",.g),("deck",.f (.ref 1))]
noncomputable abbrev sQ(o:Option V):Loc:=[(".0",.v none),("at",.v o),("_law_draw",.g),("deck",.f (.ref 1))]
noncomputable abbrev tuL(o:Option V):Loc:=[(".0",.v none),("pair",.v o),("tuple",.g)]
section
variable{P:Params}{d D C F:Nat}{J s s' s1 s2 s3 s4 s5 s6 s7 s8 s9:Hp}{r1 mo a r:Int}{ns sv wl il du cs fl ll:List V}{x v:V}{o:Option V}{b:Nat}{tv:List V}
theorem Td(q:ei P d 4 s r s'):ig P d (weE P) x (weL o) s true (.int r) (weL (some x)) s':=by unfold ei at q;intro k hk;exact aw (zR (zD q (z0 hk))) (by rfl')
theorem Te(q:ei P d 3 s r s')(h:(r==0)=true):ig P d (inE P) (.int a) (sQ o) s true (.int a) (sQ (some (.int a))) s':=by unfold ei at q;intro k hk;exact aw (zR (zD q (zC (zH h (z0 hk))))) (by rfl')
theorem Tf(q:ei P d 3 s r s')(h:(r==0)=false):ig P d (inE P) (.int a) (sQ o) s false .none (sQ (some (.int a))) s':=by unfold ei at q;intro k hk;exact aw (zR (zD q (zC (zH h (z0 hk))))) (by rfl')
theorem Tg(q:tyI false "tuple" [.tup tv] s=some (.tup tv,s)):ig P d (tuE P) (.tup tv) (tuL o) s true (.tup tv) (tuL (some (.tup tv))) s:=by intro k hk;exact aw (zR (zP q (z0 hk))) (by rfl')
theorem OF(f1:cP P d "" "_law_deck" [.lst ns] [] [] (.ref 1) s1)(q0:bA s1 .NotEq (.lst ns) (.lst [])=some true)(f2:ei P d 8 s1 r1 s2)(f3:cP P d "" "_law_drawn" [.ref 1,.int (1+r1)] [] s2 (.lst sv) s3)(f4:ei P d 7 s3 mo s4)(C1:cZ P d (weE P) (.lst sv) (weL none) s4 (.lst wl) s5)(ln:biI false "len" [.lst sv] s5=some (.int b,s5))(rg:tyI true "range" [.int 1,.int b] s5=some (.rng 1 b,s5))(C2:cZ P d (inE P) (.rng 1 b) (sQ none) s5 (.lst il) s6)(f7:cP P d "" "_law_data" [.lst sv] [] s6 (.tup [.inst "Data" D,.ref C]) s7)(f8:tyI false "list" [.ref C] s7=some (.lst cs,s7))(f9:cP P d "" "_law_places" [.lst sv,fX "strict" false false] [] s7 (.lst du) s7)(l1:cP P d "LineBreaks" "__init__" [.inst "LineBreaks" s7.length,.inst "Data" D] [] (s7++[.dict []]) .none s8)(q1:bA s8 .Eq (.lst il) (.lst [])=some true)(m0:bd (a_T P) s8 (.inst "LineBreaks" s7.length) "fit_lines"=some (.fn "LineBreaks"))(g1:cP P d "LineBreaks" "fit_lines" [.inst "LineBreaks" s7.length,.ref C,.lst wl,.int mo] [] s8 (.ref F) s9)(C3:cZ P d (tuE P) (.ref F) (tuL none) s9 (.lst fl) s9)(g2:cP P d "" "_law_lines" [.lst sv,.lst du,.lst wl,.int mo,.lst il] [] s9 x s)(e1:bA s .Eq (.lst fl) x=some true)(e2:bA s .Eq (.ref C) (.lst cs)=some true):
 cP P (d+1) "" "law" [.lst ns] [] [] (.bool true) s:=by
 unfold ei at f2 f4;exact ag (gA P) ([V.lst ns]) (fun z=>(zD f1 (zT q0 (zD f2 (zD f3 (zD f4 (zA (rfl:(0:Int)=(0:Int)) (zF C1 (zA (rfl:(0:Int)=(0:Int)) (zP ln (zP rg (zF C2 (zD f7 (zP f8 (zD f9 (zN l1 (zT q1 (zK m0 (zD g1 (zA (rfl:(0:Int)=(0:Int)) (zF C3 (zD g2 (zT e1 (zT e2 (z0 z)).T)).R).R).R)).R.R.T).R).R.R.R).R.R).R.R).R.R))).R.R.R).R.R).R)).R.R).C).R.T).R.R.R).R.R)
theorem OG(f1:cP P d "" "_law_deck" [.lst ns] [] [] (.ref 1) s1)(q0:bA s1 .NotEq (.lst ns) (.lst [])=some false)(f3:cP P d "" "_law_drawn" [.ref 1,.int 0] [] s1 (.lst sv) s3)(f4:ei P d 7 s3 mo s4)(C1:cZ P d (weE P) (.lst sv) (weL none) s4 (.lst wl) s5)(ln:biI false "len" [.lst sv] s5=some (.int b,s5))(rg:tyI true "range" [.int 1,.int b] s5=some (.rng 1 b,s5))(C2:cZ P d (inE P) (.rng 1 b) (sQ none) s5 (.lst il) s6)(f7:cP P d "" "_law_data" [.lst sv] [] s6 (.tup [.inst "Data" D,.ref C]) s7)(f8:tyI false "list" [.ref C] s7=some (.lst cs,s7))(f9:cP P d "" "_law_places" [.lst sv,fX "strict" false false] [] s7 (.lst du) s7)(l1:cP P d "LineBreaks" "__init__" [.inst "LineBreaks" s7.length,.inst "Data" D] [] (s7++[.dict []]) .none s8)(q1:bA s8 .Eq (.lst il) (.lst [])=some true)(m0:bd (a_T P) s8 (.inst "LineBreaks" s7.length) "fit_lines"=some (.fn "LineBreaks"))(g1:cP P d "LineBreaks" "fit_lines" [.inst "LineBreaks" s7.length,.ref C,.lst wl,.int mo] [] s8 (.ref F) s9)(C3:cZ P d (tuE P) (.ref F) (tuL none) s9 (.lst fl) s9)(g2:cP P d "" "_law_lines" [.lst sv,.lst du,.lst wl,.int mo,.lst il] [] s9 x s)(e1:bA s .Eq (.lst fl) x=some true)(e2:bA s .Eq (.ref C) (.lst cs)=some true):
 cP P (d+1) "" "law" [.lst ns] [] [] (.bool true) s:=by
 unfold ei at f4;exact ag (gA P) ([V.lst ns]) (fun z=>(zD f1 (zT q0 (zD f3 (zD f4 (zA (rfl:(0:Int)=(0:Int)) (zF C1 (zA (rfl:(0:Int)=(0:Int)) (zP ln (zP rg (zF C2 (zD f7 (zP f8 (zD f9 (zN l1 (zT q1 (zK m0 (zD g1 (zA (rfl:(0:Int)=(0:Int)) (zF C3 (zD g2 (zT e1 (zT e2 (z0 z)).T)).R).R).R)).R.R.T).R).R.R.R).R.R).R.R).R.R))).R.R.R).R.R).R)).R.R).F).R.R.R).R.R)
theorem OH(f1:cP P d "" "_law_deck" [.lst ns] [] [] (.ref 1) s1)(q0:bA s1 .NotEq (.lst ns) (.lst [])=some true)(f2:ei P d 8 s1 r1 s2)(f3:cP P d "" "_law_drawn" [.ref 1,.int (1+r1)] [] s2 (.lst sv) s3)(f4:ei P d 7 s3 mo s4)(C1:cZ P d (weE P) (.lst sv) (weL none) s4 (.lst wl) s5)(ln:biI false "len" [.lst sv] s5=some (.int b,s5))(rg:tyI true "range" [.int 1,.int b] s5=some (.rng 1 b,s5))(C2:cZ P d (inE P) (.rng 1 b) (sQ none) s5 (.lst il) s6)(f7:cP P d "" "_law_data" [.lst sv] [] s6 (.tup [.inst "Data" D,.ref C]) s7)(f8:tyI false "list" [.ref C] s7=some (.lst cs,s7))(f9:cP P d "" "_law_places" [.lst sv,fX "strict" false false] [] s7 (.lst du) s7)(l1:cP P d "LineBreaks" "__init__" [.inst "LineBreaks" s7.length,.inst "Data" D] [] (s7++[.dict []]) .none s8)(q1:bA s8 .Eq (.lst il) (.lst [])=some false)(tu:tyI false "tuple" [.lst il] s8=some (.tup il,s8))(m0:bd (a_T P) s8 (.inst "LineBreaks" s7.length) "fit_lines"=some (.fn "LineBreaks"))(g1:cP P d "LineBreaks" "fit_lines" [.inst "LineBreaks" s7.length] [("most",.int mo),("widths",.lst wl),("text",.ref C),("inner",.tup il)] s8 (.ref F) s9)(C3:cZ P d (tuE P) (.ref F) (tuL none) s9 (.lst fl) s9)(g2:cP P d "" "_law_lines" [.lst sv,.lst du,.lst wl,.int mo,.lst il] [] s9 x s)(e1:bA s .Eq (.lst fl) x=some true)(e2:bA s .Eq (.ref C) (.lst cs)=some true):
 cP P (d+1) "" "law" [.lst ns] [] [] (.bool true) s:=by
 unfold ei at f2 f4;exact ag (gA P) ([V.lst ns]) (fun z=>(zD f1 (zT q0 (zD f2 (zD f3 (zD f4 (zA (rfl:(0:Int)=(0:Int)) (zF C1 (zA (rfl:(0:Int)=(0:Int)) (zP ln (zP rg (zF C2 (zD f7 (zP f8 (zD f9 (zN l1 (zT q1 (zK m0 (zP tu (zD g1 (zA (rfl:(0:Int)=(0:Int)) (zF C3 (zD g2 (zT e1 (zT e2 (z0 z)).T)).R).R).R)).R).R.R.F).R).R.R.R).R.R).R.R).R.R))).R.R.R).R.R).R)).R.R).C).R.T).R.R.R).R.R)
end
section
variable{P:Params}{d n:Nat}{J:Hp}{t:Int}{h g:ab}{sv:List V}
theorem QM(D:hP t h g)(ht:t<100000)(hn:sv.length<=100):∃(ws:List Int) (h' g':ab) (t':Int),ws.length=sv.length/\(∀w∈ws,0<=w)/\hP t' h' g'/\t'<=t+200/\cZ P (d+1) (weE P) (.lst sv) (weL none) (h::g::J) (.lst (ivs ws)) (h'::g'::J):=by
 obtain⟨acc,h',g',t',⟨ws,rfl,hl,ha⟩,D',ht',w⟩:=pB (v:=.lst sv) (it:=.seq (.lst sv)) (L:=weL) (J:=J) (N:=sv.length) (asg:=aJ P (d+1) (coG (weE P)).target) (test:=fR P (d+1) (coG (weE P)).ifs) (elt:=bI P (d+1) (coE (weE P)))
  (fun acc i=>∃ws:List Int,acc=ivs ws/\ws.length=i/\∀w∈ws,0<=w) rfl (fun s=>rfl) hn D ht ⟨[],rfl,rfl,fun a ha=>absurd ha Up⟩ (fun acc i r=>by obtain⟨ws,rfl,hl,_⟩:=r;rw[aK,hl];exact TB _)
  (fun i acc t h g o hi r D ht=>by
   obtain⟨ws,rfl,hl,ha⟩:=r;obtain⟨r,h2,g2,r0,r1,D2,q⟩:=yq (below:=4) D (ar1 [] [_] 513 1180591775255905952742966584 ht art) (by decide) (by decide);exact⟨_,true,.int r,_,h2,g2,t+1,Tq hi,Td (q (d:=d)),D2,ar0 [] [_] 1 44827960 art,ws++[r],by unfold ivs;rw[TI];rfl,by rw[Tm,hl];rfl,fun a hm=>(TJ.mp hm).elim (ha a) fun z=>Tw.mp z▸r0⟩)
 exact⟨ws,h',g',t',hl,ha,D',ht',w⟩
theorem QN(D:hP t h g)(ht:t<100000)(hn:n<=100):∃(inn:List Nat) (h' g':ab) (t':Int),(∀p∈inn,p<=n)/\inn.length<=100/\(n=0->inn=[])/\hP t' h' g'/\cZ P (d+1) (inE P) (.rng 1 (n:Int)) (sQ none) (h::g::J) (.lst (nvs inn)) (h'::g'::J):=by
 obtain⟨acc,h',g',t',⟨inn,rfl,hl,ha⟩,D',ht',w⟩:=pB (v:=.rng 1 (n:Int)) (it:=.rng 1 (n:Int)) (L:=sQ) (J:=J) (N:=n-1) (asg:=aJ P (d+1) (coG (inE P)).target) (test:=fR P (d+1) (coG (inE P)).ifs) (elt:=bI P (d+1) (coE (inE P)))
  (fun acc i=>∃inn:List Nat,acc=nvs inn/\inn.length<=i/\∀p∈inn,p<=n) (uX (by decide) (b0 (ar0 [_] [] 1 138699006196660725283156918694 art) (ar1 [_] [] 1 166153499473114484127825100067178704 hn art))) (fun s=>Tx some (by lia)) (ar2 [_,_] [] 0 112667558367332560 (W5 (n) (1)) hn art) D ht ⟨[],rfl,TB _,fun a ha=>absurd ha Up⟩ (fun acc i r=>by obtain⟨inn,rfl,hl,_⟩:=r;rw[Tn];exact hl)
  (fun i acc t h g o hi r D ht=>by
   obtain⟨inn,rfl,hl,ha⟩:=r;obtain⟨r,h2,g2,r0,r1,D2,q⟩:=yq (below:=3) D (ar1 [] [_] 513 1180591775255905952742966584 ht art) (by decide) (by decide);have e:(1:Int)+(i:Int)=((1+i:Nat):Int):=rfl;cases q0:r==0 with|true=>exact⟨_,true,.int (1+(i:Int)),_,h2,g2,t+1,rfl,Te (q (d:=d)) q0,D2,ar0 [] [_] 1 44827960 art,inn++[1+i],by rw[e,nvs,nvs,TI];rfl,by rw[Tm];exact V2 hl,fun a hm=>(TJ.mp hm).elim (ha a) fun z=>by rw[Tw.mp z];exact ar2 [_,_,_] [] 0 599862514338352 hi (W5 (n) (1)) art⟩|false=>exact⟨_,false,.none,_,h2,g2,t+1,rfl,Tf (q (d:=d)) q0,D2,ar0 [] [_] 1 44827960 art,inn,rfl,Wl hl,ha⟩)
 exact⟨inn,h',g',t',ha,Tk hl (ar2 [_,_] [] 0 112667558367332560 (W5 (n) (1)) hn art),fun e=>Uv.mp (by subst e;exact Nat.le_zero.mp hl),D',w⟩
theorem QO{F:Nat}{f:List (Nat×Nat)}(hF:J[F]?=some (.list (pvs f)))(hl:f.length<=1000):cZ P d (tuE P) (.ref F) (tuL none) J (.lst (pvs f)) J:=by
 refine rR (L:=tuL) (xs:=pvs f) (y6 hF) ?_ (fun i=>?_) rfl (by rw[Tn];exact hl) (fun i x y o hx hy=>?_)
 .show(bF _ _).map _=_;rw[cq hF];rfl
 .show(bF _ _).bind _=_;rw[cq hF];rfl
 .rw[hx]at hy;cases hy;obtain⟨p,_,rfl⟩:=Uw.mp (TZ hx);exact⟨_,Tg rfl⟩
theorem tV{n:Nat}:∀l:List (Nat×Nat),gP (eqV (n+2)) (pvs l) (pvs l)=some true
 |[]=>rfl
 |a::r=>by show(((some ((a.1:Int)==(a.1:Int))).bind fun b=>((some ((a.2:Int)==(a.2:Int))).bind fun b=>(some true).bind fun c=>some (b&&c)).bind fun c=>some (b&&c))).bind (fun b=>(gP (eqV (n+2)) (pvs r) (pvs r)).bind fun c=>some (b&&c))=_;rw[tV r,TQ,TQ];rfl
theorem OI{F:Nat}{f:List (Nat×Nat)}(hF:J[F]?=some (.list (pvs f))):bA J .Eq (.lst (pvs f)) (.ref F)=some true:=by show(a7 J (.ref F)).bind (fun ys=>xn (eqV 5) (pvs f) ys)=_;rw[cp hF];show(if(pvs f).length=(pvs f).length then gP (eqV 5) (pvs f) (pvs f)else some false)=_;rw[if_pos rfl,tV]
theorem Gl{C:Nat}{cs:List Int}(hC:J[C]?=some (.list (ivs cs))):bA J .Eq (.ref C) (.lst (ivs cs))=some true:=by
 have:=Gh hC;have e:bA J .NotEq (.ref C) (.lst (ivs cs))=(bA J .Eq (.ref C) (.lst (ivs cs))).map (!·):=rfl;rw[e]at this;cases q:bA J .Eq (.ref C) (.lst (ivs cs))with|none=>rw[q]at this;exact nomatch this|some b=>cases b with
  |true=>rfl
  |false=>rw[q]at this;exact nomatch this
end
noncomputable abbrev hS:hW:=⟨"strict",false,false⟩
def fsL(ss:List aA):List Str:=match ss with
 |[]=>["no"]
 |_=>iT (aE "strict" ss) hS
theorem Gm{ss:List aA}(h0:ss≠[]):fsL ss=iT (aE "strict" ss) hS:=by
 cases ss with|nil=>exact absurd rfl h0|cons a r=>rfl
theorem Kp{w:Nat->Int}(hw:∀i,0<=w i){a b:Nat}(h:a<=b):Sm w a<=Sm w b:=by
 induction h with|refl=>exact V9 _|step _ ih=>exact Int.le_trans ih (Int.le_add_of_nonneg_right (hw _))
theorem Kq{g:Nat->Bool}{a b:Nat}(h:a<=b):En g a<=En g b:=by
 induction h with|refl=>exact TB _|@step m _ ih=>
  refine Tk ih ?_;show En g m<=cond (g m) (En g m) (m+1);cases g m
  .exact Wl (xc m)
  .exact TB _
theorem OJ{ws:List Int}(h:∀w∈ws,0<=w)(i:Nat):0<=wB ws i:=by
 by_cases q:i<ws.length
 .rw[Gj q];exact h _ (Vn q)
 .unfold wB;rw[Uo,List.getElem?_eq_none (Vd.mp q)];exact V9 _
theorem Gn{ss:List aA}{ws:List Int}{inn:List Nat}{mo:Int}(hf:(fsL ss).length=ss.length+1)(hw:∀w∈ws,0<=w)(h:0<ss.length):iV (dY (fsL ss) inn ss ws mo):=by
 have h0:ss≠[]:=fun e=>by rw[e]at h;exact absurd h (UN _)
 have lm:wdA (fsL ss) ss.length="must":=by rw[Gm h0]at hf ⊢;unfold iT at hf ⊢;rw[Tm]at hf;have e:(bY (aE "strict" ss) hS (aE "strict" ss).length).length=ss.length:=Nat.succ.inj hf;unfold wdA;rw[Uo,<-e,Uc (TB _),UB];rfl
 refine⟨(List.pairwise_lt_range' (s:=1) (n:=ss.length)).filter _,UE.mpr ⟨Vi.mpr ⟨h,by show ss.length<1+ss.length;exact ar0 [_] [] 0 50627888 art⟩,?_⟩,?_,fun e he=>?_,fun s a b hab=>?_⟩
 .show xd (fsL ss) ss.length=true;unfold xd;rw[lm];rfl
 .show jw (fsL ss) ss.length=true;unfold jw;rw[lm];rfl
 .have:=(Vi.mp (UE.mp he).1).2;show e<=ss.length;exact ar1 [_,_] [] 0 601347097904 this art
 .have e1:=Kq (g:=gB ss) hab;exact Int.sub_le_sub_right (Kp (OJ hw) (Nat.max_le.mpr ⟨Nat.le_max_left _ _,Tk e1 (Nat.le_max_right _ _)⟩)) _
theorem Kr{J:Hp}{C:Nat}{cs:List Int}(h:J[C]?=some (.list (ivs cs))):lA J (.ref C) cs:=⟨fun H=>cp (aT h),fun H=>cq (aT h)⟩
theorem Go{n D h:Nat}(h1:D<n)(h2:h<n):cg n (rH D h)=true:=by show(decide (D<_)&&(decide (h<_)&&true))=true;rw[To h1,To h2];rfl
theorem Ks{J H:Hp}(h:J.all (cg J.length)=true)(hr:H.all (cg (J++H).length)=true):(J++H).all (cg (J++H).length)=true:=by rw[List.all_append,rJ (m:=(J++H).length) (by rw[Tm];exact Uh _ _) h,hr];rfl
inductive QP(P:Params)(D C:Nat)(s7:Hp)(sv wl il du cs:List V)(mo:Int):Prop
 |mk (s8 s9 s:Hp) (F:Nat) (x:V) (fl:List V)
  (l1:cP P 40 "LineBreaks" "__init__" [.inst "LineBreaks" s7.length,.inst "Data" D] [] (s7++[.dict []]) .none s8)
  (m0:bd (a_T P) s8 (.inst "LineBreaks" s7.length) "fit_lines"=some (.fn "LineBreaks"))
  (g:(cP P 40 "LineBreaks" "fit_lines" [.inst "LineBreaks" s7.length] [("most",.int mo),("widths",.lst wl),("text",.ref C),("inner",.tup il)] s8 (.ref F) s9)/\(il=[]->cP P 40 "LineBreaks" "fit_lines" [.inst "LineBreaks" s7.length,.ref C,.lst wl,.int mo] [] s8 (.ref F) s9))
  (C3:cZ P 40 (tuE P) (.ref F) (tuL none) s9 (.lst fl) s9) (g2:cP P 40 "" "_law_lines" [.lst sv,.lst du,.lst wl,.int mo,.lst il] [] s9 x s) (e1:bA s .Eq (.lst fl) x=some true) (e2:bA s .Eq (.ref C) (.lst cs)=some true)
section
variable{P:Params}{D m:Nat}{s7:Hp}{kn:KN}{f:Str->Int->V}{ss:List aA}{ws:List Int}{inn:List Nat}{mo:Int}
theorem OK(S:DSt s7 D kn f m)(co:s7[D+5]?=some (.list (ivs (ss.map (e8 kn)))))(hk:∀s∈ss,cy s kn=some (e8 kn s))(hs:∀s∈ss,s∈bN)(hl:ss.length<=8)(hw:ws.length=ss.length)(hw0:∀w∈ws,0<=w)(hi:∀p∈inn,p<=ss.length)(hn:inn.length<=100):
 QP P D (D+5) s7 (ss.map ao) (ivs ws) (nvs inn) (svs (fsL ss)) (ivs (ss.map (e8 kn))) mo:=by
 have hD:D<s7.length:=by have:=(Tr.mp co).1;exact Ts (Uh _ _) ‹_›
 generalize h8:s7++[rH D (s7.length+1)]++[sL "strict" false "pairs"]=s8;have l8:s8.length=s7.length+2:=by rw[<-h8,Tm,Tm];rfl
 have S8:DSt s8 D kn f m:=by rw[<-h8,Tl];refine S.more (Ks S.cl ?_);have hlen:(s7++([rH D (s7.length+1)]++[sL "strict" false "pairs"])).length=s7.length+2:=Tm;rw[hlen];show(cg (s7.length+2) (rH D (s7.length+1))&&true)=true;rw[Go (by exact Nat.lt_add_right _ ‹_›) (by exact UR (by decide) _)];rfl
 have hB:s8[s7.length]?=some (rH D (s7.length+1)):=by rw[<-h8];exact aT aN
 have hH:s8[s7.length+1]?=some (sL "strict" false "pairs"):=by have e:=aN (H:=s7++[rH D (s7.length+1)]) (c:=sL "strict" false "pairs");rw[Tm]at e;rw[<-h8];exact e
 have co8:s8[D+5]?=some (.list (ivs (ss.map (e8 kn)))):=by rw[<-h8];exact aT (aT co)
 have E:=Ot (P:=P) S8 hH hk;have Y:=Ou (nm:="pairs") S8 hk (h:=hS) rfl;have op:BK (YL f "strict" "pairs" false) (ss.map (e8 kn))=svs (fsL ss):=by
  cases q:ss with|nil=>rfl|cons a r=>rw[<-q,Gm (by rw[q];exact List.cons_ne_nil _ _)];exact Os (h:=hS) Y (by rw[q];exact List.cons_ne_nil _ _)
 have hf:(fsL ss).length=ss.length+1:=by have e2:=Tx List.length op;unfold BK at e2;rw[Tn,js,Tn,Tn]at e2;exact e2.symm
 have μ:=Qi (P:=P) (d:=29) E (Kr co8) (by rw[Tn];exact Tk ‹_› (by decide)) hB S8.cl;rw[op]at μ;have M:=BZ (P:=P) (d:=32) (B:=s7.length) (cf:=e8 kn) (ws:=ws) E (fun s h=>Y.cl s h) hs (Tk ‹_› (by decide)) hB co8 hw;generalize hs9:mH s8 (ivs (snL (Sm (wB ws)) (ss.length+1))) (ivs (snL (fun j=>(En (gB ss) j:Int)) (ss.length+1)))=s0 at M;have MA:mJ s0 s8.length (wB ws) (gB ss) ss.length:=hs9▸Ki;obtain⟨fl,LF,R1,hfl⟩:=Gg (P:=P) (d:=36) (s0:=s0) (nM:=s8.length) (fs:=fsL ss) (inn:=inn) (mo:=mo) (iv:=.tup (nvs inn)) ⟨MA,Tk ‹_› (by decide),hf,hi,fun s=>rfl,fun s=>rfl,Gn hf hw0⟩;have LC:LiC ss ws (fsL ss) inn mo:=⟨hs,Tk ‹_› (by decide),hw,hf,hi,Tk ‹_› (by decide),Gn hf hw0⟩;obtain⟨f2,LL,R2⟩:=Ko (P:=P) (d:=38) (s:=s0++[ab.list (pvs fl)]) LC;have e:=R1.det R2;subst e;have m1:bd (a_T P) s8 (.inst "LineBreaks" s7.length) "opportunities"=some (.fn "LineBreaks"):=dZ (lbC P) hB (by rfl') (by rfl') (by rfl');have m2:bd (a_T P) s8 (.inst "LineBreaks" s7.length) "measure"=some (.fn "LineBreaks"):=dZ (lbC P) hB (by rfl') (by rfl') (by rfl');have c0:s0[D+5]?=some (.list (ivs (ss.map (e8 kn)))):=by rw[<-hs9];exact aT co8
 refine .mk s8 _ _ s0.length _ (pvs fl) (by rw[<-h8];exact Ke (d:=38)) (dZ (lbC P) hB (by rfl') (by rfl') (by rfl')) ⟨SE (d:=39) m1 μ m2 M LF,fun z=>?_⟩ (QO aN (Tk (Tk ‹_› ‹_›) (by decide))) LL (OI aN) (Gl (aT (aT c0)));rw[z]at LF;exact SD (d:=39) m1 μ m2 M LF
end
inductive Th(P:Params)(sv:List V)(s3:Hp):Prop
 |mk (s4 s5 s6 s7 s:Hp) (mo:Int) (wl il du cs:List V) (b D C:Nat) (f4:ei P 40 7 s3 mo s4) (C1:cZ P 40 (weE P) (.lst sv) (weL none) s4 (.lst wl) s5) (ln:biI false "len" [.lst sv] s5=some (.int b,s5)) (rg:tyI true "range" [.int 1,.int b] s5=some (.rng 1 b,s5)) (C2:cZ P 40 (inE P) (.rng 1 b) (sQ none) s5 (.lst il) s6)
  (f7:cP P 40 "" "_law_data" [.lst sv] [] s6 (.tup [.inst "Data" D,.ref C]) s7) (f8:tyI false "list" [.ref C] s7=some (.lst cs,s7)) (f9:cP P 40 "" "_law_places" [.lst sv,fX "strict" false false] [] s7 (.lst du) s7)
  (nil:sv=[]->il=[]) (eq:bA s7 .Eq (.lst il) (.lst [])=some il.isEmpty) (tu:∀s8,tyI false "tuple" [.lst il] s8=some (.tup il,s8)) (E:QP P D C s7 sv wl il du cs mo)
theorem Gp{P:Params}{ss:List aA}{t:Int}{h g:ab}(D:hP t h g)(ht:t<50000)(hs:∀s∈ss,s∈bN)(hl:ss.length<=8):Th P (ss.map ao) [h,g]:=by
 obtain⟨mo,h4,g4,_,_,D4,f4⟩:=yq (below:=7) D (ar1 [] [_] 513 1180591775255900919578166584 ht art) (by decide) (by decide);obtain⟨ws,h5,g5,t5,w1,w2,D5,ht5,C1⟩:=QM (P:=P) (d:=39) (J:=[]) (sv:=ss.map ao) D4 (ar1 [] [_] 513 120892740208056883291449656632 ht art) (by rw[Tn];exact ar1 [_] [] 0 3438339687632 hl art);obtain⟨inn,h6,g6,t6,i1,i2,i3,D6,C2⟩:=QN (P:=P) (d:=39) (J:=[]) (n:=ss.length) D5 (ar2 [] [_,_] 262657 4153842924168807957993273622227390235960 ht5 ht art) (ar1 [_] [] 0 3438339687632 hl art);obtain⟨s7,kn,f,m,f7,S,co,hk,_⟩:=Ol (P:=P) (d:=36) (J:=[h6,g6]) hs hl (pF D6);have E:=OK (P:=P) (ws:=ws) (inn:=inn) (mo:=mo) S co hk hs hl (by rw[w1,Tn]) w2 i1 i2;refine .mk _ _ _ s7 [] mo _ _ _ _ ss.length _ _ (f4 (d:=39)) C1 ?_ (Gf rfl (b0 (ar0 [_] [] 1 138699006196660725283156918694 art) (ar1 [_] [] 1 5192296858534827628994534377260240 hl art))) C2 f7 (Gi co (by rw[Tn];exact ar1 [_] [] 0 34362104218832 hl art)) ?_ (fun e=>by rw[i3 (by rw[List.map_eq_nil_iff.mp e];rfl)];rfl) (by rw[qG];cases inn<;>rfl) (fun s8=>?_) E
 .rw[oE (ar (by rw[Tn];exact ar1 [_] [] 0 34359742881334480 hl art)),Tn]
 . cases q:ss with|nil=>exact Fv (d:=39)|cons a r=>
    have hne:ss≠[]:=by rw[q];exact List.cons_ne_nil _ _
    rw[<-q,Gm hne];exact Fz (P:=P) (d:=36) (h:=hS) hne (ar1 [_] [] 0 3094742303952 hl art) S.cl
 .show(if ba (nvs inn)then some (V.tup (nvs inn),s8)else none)=_;rw[if_pos (ar (by rw[Tn];exact ar1 [_] [] 0 1099511772197554384 i2 art))]
theorem Kt(P:Params)(ns:List Int)(hl:ns.length<=63):∃J',cP P 41 "" "law" [.lst (ns.map .int)] [] [] (.bool true) J':=by
 obtain⟨h1,g1,D1,f1⟩:=ND (P:=P) (d:=39) hl;by_cases h0:ns=[]
 .subst h0;have q0:bA [h1,g1] .NotEq (.lst []) (.lst [])=some false:=rfl;obtain⟨ss,h3,g3,t3,l3,hs,D3,ht3,f3⟩:=Af (P:=P) (d:=36) (J:=[]) (m:=0) D1 (by decide) (by decide) (fun _ _=>pF);obtain⟨s4,s5,s6,s7,_,mo,wl,il,du,cs,b,D,C,f4,C1,ln,rg,C2,f7,f8,f9,nil,eq,tu,E⟩:=Gp (P:=P) D3 (ar1 [] [_] 513 57646226146836598561048 ht3 art) hs (ar1 [_] [] 0 269697296 (TF l3 :) art);have z:=nil (List.map_eq_nil_iff.mpr (Uv.mp l3));obtain⟨s8,s9,s,F,x,fl,l1,m0,G,C3,gL,e1,e2⟩:=E;exact⟨s,OG f1 q0 f3 f4 C1 ln rg C2 f7 f8 f9 l1 (by rw[z];rfl) m0 (G.2 z) C3 gL e1 e2⟩
 . have q0:bA [h1,g1] .NotEq (.lst (ivs ns)) (.lst [])=some true:=by
    cases ns with|nil=>exact absurd rfl h0|cons a r=>rfl
   obtain⟨r,h2,g2,r0,r1,D2,f2⟩:=yq (below:=8) D1 (by decide) (by decide) (by decide);obtain⟨k,e⟩:∃k:Nat,1+r=k:=⟨(1+r).toNat,VN (ar1 [_] [_] 513 123205737514761 (Ax (a:=1+r) (ar1 [] [_] 513 59024136 r0 art)) art) (ar1 [_] [_] 513 61885648741488 (qI (a:=1+r) (ar1 [] [_] 513 59024136 r0 art)) art)⟩;obtain⟨ss,h3,g3,t3,l3,hs,D3,ht3,f3⟩:=Af (P:=P) (d:=36) (J:=[]) (m:=k) D2 (by decide) (ar2 [_] [_] 262656 11850305665442447033656 (Uk (Ul e) :) r1 art) (fun _ _=>pF);rw[<-e]at f3;obtain⟨s4,s5,s6,s7,_,mo,wl,il,du,cs,b,D,C,f4,C1,ln,rg,C2,f7,f8,f9,nil,eq,tu,E⟩:=Gp (P:=P) D3 (ar1 [] [_] 513 59029735574360676926268696 ht3 art) hs (ar3 [_,_] [_] 134479872 9716915289016765154264376 (TF l3 :) (Uk (Ul e) :) r1 art);have f2:ei P 40 8 [h1,g1] r [h2,g2]:=f2 (d:=39);obtain⟨s8,s9,s,F,x,fl,l1,m0,G,C3,gL,e1,e2⟩:=E;cases il with|nil=>exact⟨s,OF f1 q0 f2 f3 f4 C1 ln rg C2 f7 f8 f9 l1 rfl m0 (G.2 rfl) C3 gL e1 e2⟩|cons a r=>exact⟨s,OH f1 q0 f2 f3 f4 C1 ln rg C2 f7 f8 f9 l1 rfl (tu s8) m0 G.1 C3 gL e1 e2⟩
noncomputable def zOf(K:Frag):List (Addr×Obj):=(K.map (·.1)).filterMap fun a=>(K.lookup a).map fun o=>(a,o)
theorem vE{K:Frag}{a:Addr}{o:Obj}(h:K.lookup a=some o):(a,o)∈zOf K:=by
 unfold zOf;refine List.mem_filterMap.mpr ⟨a,?_,by rw[h];rfl⟩;induction K with
 |nil=>cases h
 |cons p r ih=>
  obtain⟨b,x⟩:=p;rw[TR]at h;by_cases q:a=b
  .subst q;exact .head _
  .rw[Tv.mpr q]at h;exact .tail _ (ih h)
theorem Gq{K:Frag}{p:Addr×Obj}(h:p∈zOf K):K.lookup p.1=some p.2:=by unfold zOf at h;refine ae (List.mem_filterMap.mp h) ?_;rintro a _ e;refine ae (TU.mp e) ?_;rintro o ho rfl;exact ho
noncomputable def Gr:Option Obj->Option (Array Value)
 |some ⟨.type t,none,.seq vs _,sl⟩=>if t=="tuple" && sl.size==0 then some vs else none
 |_=>none
theorem Ku{o:Option Obj}{vs:Array Value}(h:Gr o=some vs):∃k,o=some ⟨.type "tuple",none,.seq vs k,#[]⟩:=by
 cases o with|none=>exact aC h|some o=>
  obtain⟨c,dc,dt,sl⟩:=o;cases c with
  |type t=>cases dc with
   |none=>cases dt with
    |seq w k=>refine ifE (show(if t=="tuple" && sl.size==0 then some w else none)=some vs from h) fun hc e=>?_;rw[TC,Ub,Ub]at hc;cases hc.1;cases(Array.size_eq_zero_iff.mp hc.2:sl = #[]);cases e;exact⟨k,rfl⟩
    |_=>exact aC h
   |some _=>exact aC h
  |_=>exact aC h
noncomputable def Gs(f:Value->Bool):Option (Array Value)->Bool
 |some vs=>vs.toList.all f
 |none=>false
theorem xg{f:Value->Bool}{o:Option Obj}(h:Gs f (Gr o)=true):∃vs k,o=some ⟨.type "tuple",none,.seq vs k,#[]⟩/\vs.toList.all f=true:=by
 cases q:Gr o with|none=>rw[q]at h;exact Bool.noConfusion h|some vs=>rw[q]at h;obtain⟨k,e⟩:=Ku q;exact⟨vs,k,e,h⟩
noncomputable def xh(K:Frag):Nat->Value->Bool
 |0,_=>false
 |n+1,v=>match v with
  |.none=>true
  |.bool _=>true
  |.int _ _=>true
  |.str _ _=>true
  |.ref a=>Gs (xh K n) (Gr (K.lookup a))
  |_=>false
theorem Au{C:Ctx}{O:Map}{f:Value->Bool}{g:Value->V}(hf:∀v,f v=true->ac C O (g v) v):∀l:List Value,l.all f=true->ai (ac C O) (l.map g) l
 |[],_=>.nil
 |x::l,h=>by rw[V5,TC]at h;exact .cons (hf x h.1) (Au hf l h.2)
theorem tW{C:Ctx}{O:Map}(hz:∀p∈zOf C.K,p∈O.Z)(n:Nat):∀(v:Value),xh C.K n v=true->ac C O (vOf C.K n v) v:=by
 induction n with
 |zero=>exact fun v h=>Bool.noConfusion h
 |succ n ih=>
  intro v h;cases v with
  |none=>exact(rfl:Value.none=.none)
  |bool b=>exact(rfl:Value.bool b=.bool b)
  |int i t=>exact(⟨t,rfl⟩:∃u,Value.int i t=.int i u)
  |str i t=>exact(⟨t,rfl⟩:∃u,Value.str i t=.str i u)
  |ref a=>obtain⟨vs,k,ho,hall⟩:=xg (f:=xh C.K n) (o:=C.K.lookup a) h;have e:vOf C.K (n+1) (.ref a)=Ph C.K (vOf C.K n) (C.K.lookup a):=rfl;rw[e,ho];exact(⟨a,vs,k,rfl,hz _ (vE ho),aL.mpr (Au ih _ hall)⟩:∃b ws m,Value.ref a=.ref b/\(b,kB ws m)∈O.Z/\VRelL C O (vs.toList.map (vOf C.K n)) ws.toList)
  |_=>exact Bool.noConfusion h
noncomputable def pG(K:Frag)(a:Addr):List DictEntry:=match K.lookup a with
 |some ⟨_,_,.dict es _,_⟩=>es.toList
 |_=>[]
noncomputable def pH:Value->Bool
 |.str _ _=>true
 |_=>false
noncomputable def Gu(K:Frag):Value->Bool
 |.ref b=>Gs pH (Gr (K.lookup b))
 |_=>false
noncomputable def OL:Option Obj->Option (Array DictEntry)
 |some ⟨.type t,none,.dict es _,sl⟩=>if t=="dict" && sl.size==0 then some es else none
 |_=>none
theorem Kw{o:Option Obj}{es:Array DictEntry}(h:OL o=some es):∃k,o=some ⟨.type "dict",none,.dict es k,#[]⟩:=by
 cases o with|none=>exact aC h|some o=>
  obtain⟨c,dc,dt,sl⟩:=o;cases c with
  |type t=>cases dc with
   |none=>cases dt with
    |dict w k=>refine ifE (show(if t=="dict" && sl.size==0 then some w else none)=some es from h) fun hc e=>?_;rw[TC,Ub,Ub]at hc;cases hc.1;cases(Array.size_eq_zero_iff.mp hc.2:sl = #[]);cases e;exact⟨k,rfl⟩
    |_=>exact aC h
   |some _=>exact aC h
  |_=>exact aC h
noncomputable def Ti(f:DictEntry->Bool):Option (Array DictEntry)->Bool
 |some es=>es.toList.all f
 |none=>false
def OM(K:Frag)(a:Addr):Bool:=Ti (fun e=>pH e.key&&Gu K e.val) (OL (K.lookup a))
theorem tX{v:Value}(h:pH v=true):mP (qc v) v:=by cases v<;>first|exact⟨_,rfl⟩|cases h
theorem xi:∀l:List Value,l.all pH=true->ai mP (l.map qc) l
 |[],_=>.nil
 |x::l,h=>by rw[V5,TC]at h;exact .cons (tX h.1) (xi l h.2)
theorem Gv{K:Frag}{Z:List (Addr×Obj)}(hz:∀p∈zOf K,p∈Z){v:Value}(h:Gu K v=true):mR Z (o6 K v) v:=by
 cases v with
 |ref b=>obtain⟨vs,k,ho,hall⟩:=xg (f:=pH) (o:=K.lookup b) h;have e:o6 K (.ref b)=KT (K.lookup b):=rfl;rw[e,ho];exact⟨b,vs,k,rfl,hz _ (vE ho),xi _ hall⟩
 |_=>exact Bool.noConfusion h
noncomputable def jY(C:Ctx)(p:Str×V):Prop:=∃val,ac C ⟨[],C.Z₀⟩ p.2 val/\(nsIn C.K mainGlobals p.1=some (some val)\/(nsIn C.K mainGlobals p.1=some none/\bootBuiltins p.1=some val/\p.1 ≠ "__name__"))
theorem az{α:Type}{P:α->Prop}:∀p∈([]:List α),P p:=fun _ h=>(nomatch h)
theorem aa{α:Type}{P:α->Prop}{a:α}{r:List α}(h:P a)(k:∀p∈r,P p):∀p∈a::r,P p:=fun p hp=>by
 rcases TS.mp hp with rfl|hp
 .exact h
 .exact k p hp
section
variable{C:Ctx}(hz:∀p∈zOf C.K,p∈C.Z₀)
include hz in
theorem c9{x:Str}{v:V}(val:Value)(e1:nsIn C.K mainGlobals x=some (some val):=by rfl')(e2:xh C.K 4 val=true:=by rfl')(e3:v=vOf C.K 4 val:=by rfl'):jY C (enG x v):=by subst e3;exact⟨val,tW (O:=⟨[],C.Z₀⟩) hz 4 val e2,.inl e1⟩
include hz in
set_option tactic.hygienic true in
theorem QQ{x:Str}{v:V}(a:Addr)(e1:nsIn C.K mainGlobals x=some (some (.ref a)):=by rfl')(e2:OM C.K a=true:=by rfl')(e3:(pG C.K a).map (·.hash)=(pG C.K a).map fun e=>PyData.keyHash C.w.params (qc e.key):=by rfl')(e4:v=.jd ((pG C.K a).map fun e=>(qc e.key,o6 C.K e.val)):=by rfl')(e5:(a==sysModules)=false:=by rfl'):jY C (enG x v):=by
 subst e4;refine⟨.ref a,?_,.inl e1⟩;cases q:OL (C.K.lookup a)with
 |none=>rw[OM,q]at e2;exact Bool.noConfusion e2
 |some es=>
  rw[OM,q]at e2;have e2:es.toList.all (fun e=>pH e.key&&Gu C.K e.val)=true:=e2;obtain⟨n,ho⟩:=Kw q;have hes:pG C.K a=es.toList:=by unfold pG;rw[ho]
  rw[hes]at e3;show ac C ⟨[],C.Z₀⟩ (.jd ((pG C.K a).map fun e=>(qc e.key,o6 C.K e.val))) (.ref a);rw[hes];refine(⟨a,es.toList,n,rfl,Tv.mp e5,hz _ (vE (by rw[ho])),?_⟩:∃b ents n,Value.ref a=.ref b/\b≠sysModules/\(b,g8 ents n)∈C.Z₀/\ai (xr C C.Z₀) (es.toList.map fun e=>(qc e.key,o6 C.K e.val)) ents);generalize es.toList=l at e2 e3 ⊢;induction l with|nil=>exact .nil|cons e l ih=>rw[V5,TC,TC]at e2;simp only[Uj,List.cons.injEq]at e3;exact .cons ⟨e3.1,tX e2.1.1,Gv hz e2.1.2⟩ (ih e2.2 e3.2)
theorem bC{x c m:Str}{a:Addr}(e1:nsIn C.K mainGlobals x=some (some (.ref a)):=by rfl')(e2:C.fnA c m=some a:=by rfl'):jY C (enG x (.fn c m)):=⟨.ref a,by show ac _ _ (.fn c m) _;simp only[ac];exact⟨a,rfl,e2⟩,.inl e1⟩
theorem nB{x c:Str}{a:Addr}(e1:nsIn C.K mainGlobals x=some (some (.ref a)):=by rfl')(e2:C.clA c=some a:=by rfl'):jY C (enG x (.cls c)):=⟨.ref a,by show ac _ _ (.cls c) _;simp only[ac];exact⟨a,rfl,e2⟩,.inl e1⟩
theorem Av{x:Str}{id:String}(e1:nsIn C.K mainGlobals x=some none:=by rfl')(e2:bootBuiltins x=some (.builtin id):=by rfl')(e3:(x==("__name__":Str))=false:=by rfl'):jY C (enG x (.bi id)):=⟨.builtin id,by show ac _ _ (.bi id) _;simp only[ac],.inr ⟨e1,e2,Tv.mp e3⟩⟩
theorem tY{x:Str}{id:String}(e1:nsIn C.K mainGlobals x=some none:=by rfl')(e2:bootBuiltins x=some (.type id):=by rfl')(e3:(x==("__name__":Str))=false:=by rfl'):jY C (enG x (.ty id)):=⟨.type id,by show ac _ _ (.ty id) _;simp only[ac],.inr ⟨e1,e2,Tv.mp e3⟩⟩
end
noncomputable def QR:Option Obj->Bool
 |some ⟨_,_,.func _,_⟩=>true
 |_=>false
def vF(K:Frag)(f:Addr):Bool:=QR (K.lookup f)
theorem B6{K:Frag}{f:Addr}(h:vF K f=true):∃oc od osl,K.lookup f=some ⟨oc,od,.func (aS K f),osl⟩:=by
 cases e:K.lookup f with|none=>rw[vF,e]at h;exact Bool.noConfusion h|some o=>
  rw[vF,e]at h;rw[aS,e];obtain⟨c,dc,dt,sl⟩:=o;cases dt with|func fd=>exact⟨c,dc,sl,rfl⟩|_=>exact Bool.noConfusion h
def xj(K:Frag)(f:Addr)(i:Nat):Value:=match(aS K f).defaults with
 |.ref a=>(match K.lookup a with
  |some ⟨_,_,.seq vs _,_⟩=>vs.getD i .none
  |_=>.none)
 |_=>.none
noncomputable def jZ(C:Ctx)(ps:List Str)(f:FuncData)(sh:Nat×List Str×List Src):Prop:=∀vals kwv:List Value,vals.length=sh.1->kwv.length=sh.2.1.length->∃r,ai (uf C kwv) sh.2.2 r /\
 ∀S,peek C.K S (bindArgs f ⟨vals,sh.2.1.zip kwv⟩)=some (ps.zip (vals++r))
theorem lI{C:Ctx}(hz:∀p∈zOf C.K,p∈C.Z₀){kwv:List Value}{d:V}{v:Value}(h1:xh C.K 4 v=true:=by rfl')(h2:d=vOf C.K 4 v:=by rfl'):uf C kwv (.dflt d) v:=by subst h2;exact tW (O:=⟨[],C.Z₀⟩) hz 4 v h1
theorem aI{C:Ctx}{c m:Str}{G:FuncData}{shapes:List (Nat×List Str×List Src)}(f:Addr)(h8:∀sh∈shapes,jZ C (aY G shapes).params (aS C.K f) sh)(h1:ug (aY G shapes).scope=true:=by rfl')(h2:((aY G shapes).params.all fun x=>(aY G shapes).scope.names.lookup x==some .local||(aY G shapes).scope.names.lookup x==some .cell)=true:=by rfl')(h3:decide ((aY G shapes).params.Nodup)=true:=by rfl')(h4:C.fnA c m=some f:=by rfl')(h5:vF C.K f=true:=by rfl')(h5':aS C.K f=fnOf (aS C.K f).name (aS C.K f).qualname (aS C.K f).params (aY G shapes).body (aY G shapes).scope (aS C.K f).defaults (aS C.K f).kwdefaults (aS C.K f).doc (aS C.K f).pyModule (aS C.K f).annotations (aS C.K f).code (aS C.K f).closureTuple:=by rfl')(h6:codeIn C.K (aS C.K f).code (aS C.K f).qualname=true:=by rfl')(h7:isFn C.K (.ref f)=true:=by rfl'):AE C c m (aY G shapes):=by
 refine bp (B6 h5) ?_;rintro oc od osl e;refine⟨h1,fun x hx=>?_,TH h3,.mk (oc:=oc) (od:=od) (osl:=osl) h4 (by rw[e,<-h5']) h6 h7 ?_⟩
 . have:=UI.mp h2 x hx;rcases Bool.or_eq_true_iff.mp this with q|q
   .exact .inl (by simpa using q)
   .exact .inr (by simpa using q)
 .rw[<-h5'];exact h8
theorem rY{α:Type}{l:List α}(h:l.length=0):l=[]:=Uv.mp h
theorem len1{α:Type}{l:List α}(h:l.length=1):∃a,l=[a]:=by
 rcases l with _|⟨a,l⟩
 .cases h
 .exact⟨a,by rw[rY (l:=l) (by simpa using h)]⟩
theorem ON{α:Type}{l:List α}(h:l.length=2):∃a b,l=[a,b]:=by
 rcases l with _|⟨a,l⟩
 .cases h
 .obtain⟨b,rfl⟩:=len1 (l:=l) (by simpa using h);exact⟨a,b,rfl⟩
theorem QS{α:Type}{l:List α}(h:l.length=3):∃a b c,l=[a,b,c]:=by
 rcases l with _|⟨a,l⟩
 .cases h
 .refine iN (ON (l:=l) (by simpa using h)) ?_;rintro b c rfl;exact⟨a,b,c,rfl⟩
theorem Kx{α:Type}{l:List α}(h:l.length=4):∃a b c d,l=[a,b,c,d]:=by
 rcases l with _|⟨a,l⟩
 .cases h
 .refine bp (QS (l:=l) (by simpa using h)) ?_;rintro b c d rfl;exact⟨a,b,c,d,rfl⟩
theorem Tj{α:Type}{l:List α}(h:l.length=5):∃a b c d e,l=[a,b,c,d,e]:=by
 rcases l with _|⟨a,l⟩
 .cases h
 .refine qw (Kx (l:=l) (by simpa using h)) ?_;rintro b c d e rfl;exact⟨a,b,c,d,e,rfl⟩
theorem sh0{C:Ctx}{ps:List Str}{G:FuncData}(h:∀S,peek C.K S (bindArgs G ⟨[],[]⟩)=some (ps.zip ([]++[])):=by intros;rfl'):jZ C ps G (0,[],[]):=fun vals kwv h1 h2=>by obtain rfl:=rY h1;obtain rfl:=rY h2;exact⟨[],.nil,h⟩
theorem sh1{C:Ctx}{ps:List Str}{G:FuncData}(h:∀a S,peek C.K S (bindArgs G ⟨[a],[]⟩)=some (ps.zip ([a]++[])):=by intros;rfl'):jZ C ps G (1,[],[]):=fun vals kwv h1 h2=>by obtain⟨a,rfl⟩:=len1 h1;obtain rfl:=rY h2;exact⟨[],.nil,h a⟩
theorem sh2{C:Ctx}{ps:List Str}{G:FuncData}(h:∀a b S,peek C.K S (bindArgs G ⟨[a,b],[]⟩)=some (ps.zip ([a,b]++[])):=by intros;rfl'):jZ C ps G (2,[],[]):=fun vals kwv h1 h2=>by obtain⟨a,b,rfl⟩:=ON h1;obtain rfl:=rY h2;exact⟨[],.nil,h a b⟩
theorem sh3{C:Ctx}{ps:List Str}{G:FuncData}(h:∀a b c S,peek C.K S (bindArgs G ⟨[a,b,c],[]⟩)=some (ps.zip ([a,b,c]++[])):=by intros;rfl'):jZ C ps G (3,[],[]):=fun vals kwv h1 h2=>by obtain⟨a,b,c,rfl⟩:=QS h1;obtain rfl:=rY h2;exact⟨[],.nil,h a b c⟩
theorem sh4{C:Ctx}{ps:List Str}{G:FuncData}(h:∀a b c d S,peek C.K S (bindArgs G ⟨[a,b,c,d],[]⟩)=some (ps.zip ([a,b,c,d]++[])):=by intros;rfl'):jZ C ps G (4,[],[]):=fun vals kwv h1 h2=>by obtain⟨a,b,c,d,rfl⟩:=Kx h1;obtain rfl:=rY h2;exact⟨[],.nil,h a b c d⟩
theorem sh5{C:Ctx}{ps:List Str}{G:FuncData}(h:∀a b c d e S,peek C.K S (bindArgs G ⟨[a,b,c,d,e],[]⟩)=some (ps.zip ([a,b,c,d,e]++[])):=by intros;rfl'):jZ C ps G (5,[],[]):=fun vals kwv h1 h2=>by obtain⟨a,b,c,d,e,rfl⟩:=Tj h1;obtain rfl:=rY h2;exact⟨[],.nil,h a b c d e⟩
theorem nC{C:Ctx}{c:Str}{cd:cF}(a fI:Addr)(h11:∀x∈cd.attrs,findIn C.K (.ref a) x=some none)(h12:∀x∈cd.meths,∃f,findIn C.K (.ref a) x=some (some (.ref f))/\C.fnA c x=some f/\isFn C.K (.ref f)=true)(h1:C.clA c=some a:=by rfl')(h2:plainGet C.K a ""=true:=by rfl')(h3:hasDictIn C.K a=true:=by rfl')(h4:findIn C.K (.ref a) "__setattr__"=some (some (.builtin "object.__setattr__")):=by rfl')(h5:plainOver C.K a=true:=by rfl')(h6:makesIn C.K a=true:=by rfl')(h7:findIn C.K (.ref a) "__init__"=some (some (.ref fI)):=by rfl')(h8:C.fnA c "__init__"=some fI:=by rfl')(h9:isFn C.K (.ref fI)=true:=by rfl')(h10:keepIn C.K (.ref a)=true:=by rfl'):tD C c cd :=
 .mk h1 h2 h3 h4 h5 h6 h7 h8 h9 h10 h11 h12
theorem gp{α β:Type}[BEq α][LawfulBEq α]:∀{l:List (α×β)}{x:α}{v:β},l.lookup x=some v->(x,v)∈l
 |[],_,_,h=>by simp at h
 |(y,w)::r,x,v,h=>by
  rw[TR]at h;by_cases q:x=y
  .subst q;rw[TQ]at h;cases h;exact .head _
  .rw[Tv.mpr q]at h;exact .tail _ (gp h)
theorem OO{C:Ctx}{T:Tab}(fnl:List ((Str×Str)×Addr))(cll:List (Str×Addr))(hf:C.fnA=fun c m=>fnl.lookup (c,m))(hc:C.clA=fun c=>cll.lookup c)(h1:∀p∈T.fns,AE C p.1.1 p.1.2 p.2)(h2:∀p∈T.cls,tD C p.1 p.2)(h3:∀p∈T.glob,jY C p)(h4:∀p∈fnl,keepIn C.K (.ref p.2)=true)(h5:(cll.all fun p=>(T.cls.lookup p.1).isSome)=true):cM C T:=by
 refine⟨fun c m fd h=>h1 _ (gp h),fun c cd h=>h2 _ (gp h),fun x v h=>h3 _ (gp h),fun c m f h=>?_,fun c a h=>?_⟩
 .rw[hf]at h;exact h4 _ (gp h)
 .rw[hc]at h;have:=UI.mp h5 _ (gp h);exact Vx.mp this
theorem Gw{K:Frag}{l:List ((Str×Str)×Addr)}(h:(l.all fun p=>keepIn K (.ref p.2))=true):∀p∈l,keepIn K (.ref p.2)=true:=fun p hp=>UI.mp h p hp
theorem tZ{P:Params}{h:Heap}:∀{ns:List Int}{vs:List Value},WellAll P h vs (ofPys (ns.map .int))->∀C O,ai (ac C O) (ns.map .int) vs
 |[],vs,w,C,O=>by cases w;exact .nil
 |n::ns,vs,w,C,O=>by
  cases w with|cons h1 h2=>cases h1;exact .cons (by simp only[ac];exact⟨_,rfl⟩) (tZ h2 C O)
def a_C(w:World)(h0:Heap)(mg mb:Str->Option Value)(Zs:List (Addr×Obj)):Ctx:=⟨PySem.Challenge.rw_nt0061_02.row.prog,w,aB w.params,h0,mg,mb,fun c=>EH.lookup c,fun c m=>zG.lookup (c,m),zOf (aB w.params)++Zs⟩
structure CX where
 w:World
 h:Heap
 g:Str->Option Value
 b:Str->Option Value
 Z:List (Addr×Obj)
abbrev aX(x:CX):Ctx:=a_C x.w x.h x.g x.b x.Z
theorem hzs{x:CX}:∀p∈zOf (aX x).K,p∈(aX x).Z₀:=fun p hp=>Uu _ hp
noncomputable abbrev FO(x:CX)(c m:Str)(f:Params->aD):Prop:=AE (aX x) c m (f x.w.params)
noncomputable abbrev GO(x:CX)(n:Str)(v:V):Prop:=jY (aX x) (enG n v)
noncomputable abbrev CO(x:CX)(n:Str)(v:cF):Prop:=tD (aX x) n v
section
variable(x:CX)
theorem kK:FO x "" "place_by_half" dM:=aI 61 (aa sh2 az)
theorem kM:FO x "LineHow" "__init__" fx:=aI 119 (aa (fun vals kwv h1 h2=>by obtain⟨a,rfl⟩:=len1 h1;obtain rfl:=rY h2;exact⟨[xj (aX x).K 119 0,xj (aX x).K 119 1,xj (aX x).K 119 2],.cons (lI hzs) (.cons (lI hzs) (.cons (lI hzs) .nil)),fun S=>by rfl'⟩) az)
theorem mf:FO x "" "line_hangul" ce:=aI 133 (aa sh1 az)
theorem nD:FO x "" "line_class" gI:=aI 140 (aa sh3 az)
theorem j0:FO x "LineUnit" "__init__" eO:=aI 154 (aa sh4 az)
theorem nE:FO x "" "line_units" fe:=aI 168 (aa sh3 az)
theorem ke:FO x "LineView" "__init__" dw:=aI 182 (aa sh4 az)
theorem kN:FO x "LineView" "word" cQ:=aI 189 (aa sh2 az)
theorem gV:FO x "LineView" "solid_word" di:=aI 196 (aa sh2 az)
theorem iz:FO x "LineView" "is_quote" cH:=aI 203 (aa sh3 az)
theorem ik:FO x "LineView" "is_narrow" dB:=aI 210 (aa sh2 az)
theorem kg:FO x "" "line_rule_hard" eP:=aI 224 (aa sh2 az)
theorem je:FO x "" "line_rule_spaces" d7:=aI 231 (aa sh2 az)
theorem kh:FO x "" "line_rule_glue" eQ:=aI 238 (aa sh2 az)
theorem iA:FO x "" "line_rule_closing" dN:=aI 245 (aa sh2 az)
theorem jf:FO x "" "line_rule_quotes" d8:=aI 252 (aa sh2 az)
theorem gF:FO x "" "line_rule_over_spaces" cR:=aI 259 (aa sh2 az)
theorem jx:FO x "" "line_rule_signs" eA:=aI 266 (aa sh2 az)
theorem iB:FO x "" "line_rule_letters" dO:=aI 273 (aa sh2 az)
theorem ki:FO x "" "line_is_number" dy:=aI 280 (aa sh2 az)
theorem gN:FO x "" "line_rule_expression" c8:=aI 287 (aa sh2 az)
theorem iC:FO x "" "line_rule_numbers" dP:=aI 294 (aa sh2 az)
theorem gW:FO x "" "line_rule_syllables" dj:=aI 301 (aa sh2 az)
theorem kj:FO x "" "line_is_aksara" cA:=aI 308 (aa sh3 az)
theorem iE:FO x "" "line_rule_aksaras" dQ:=aI 315 (aa sh2 az)
theorem im:FO x "" "line_rule_brackets" dC:=aI 322 (aa sh2 az)
theorem io:FO x "" "line_rule_pictures" dD:=aI 329 (aa sh2 az)
theorem lJ:FO x "" "line_verdict" fL:=aI 336 (aa sh2 az)
theorem kO:FO x "" "line_verdicts" dR:=aI 343 (aa sh3 az)
theorem iF:FO x "LineMeasure" "__init__" cJ:=aI 357 (aa sh3 az)
theorem iG:FO x "LineMeasure" "width" dS:=aI 364 (aa sh3 az)
theorem jg:FO x "" "line_last_within" cX:=aI 378 (aa sh5 az)
theorem mh:FO x "" "line_fitted" dE:=aI 385 (aa sh4 az)
theorem jh:FO x "LineBreaks" "__init__" d9:=aI 400 (aa (fun vals kwv h1 h2=>by obtain⟨a,b,rfl⟩:=ON h1;obtain rfl:=rY h2;exact⟨[xj (aX x).K 400 0],.cons (lI hzs) .nil,fun S=>by rfl'⟩) az)
theorem gb:FO x "LineBreaks" "opportunities" bB:=aI 405 (aa sh2 az)
theorem ir:FO x "LineBreaks" "reasons" fE:=aI 412 (aa sh2 az)
theorem iu:FO x "LineBreaks" "measure" cw:=aI 417 (aa sh3 az)
theorem gO:FO x "LineBreaks" "fit_lines" bV:=aI 426 (aa (fun vals kwv h1 h2=>by obtain⟨a,b,c,d,rfl⟩:=Kx h1;obtain rfl:=rY h2;exact⟨[xj (aX x).K 426 0],.cons (lI hzs) .nil,fun S=>by rfl'⟩) (aa (fun vals kwv h1 h2=>by obtain⟨a,rfl⟩:=len1 h1;obtain⟨u,v,x,y,rfl⟩:=Kx h2;exact⟨[x,v,u,y],.cons rfl (.cons rfl (.cons rfl (.cons rfl .nil))),fun S=>by rfl'⟩) az))
theorem gG:FO x "LineBreaks" "even_lines" eB:=aI 433 (aa sh4 az)
theorem km:FO x "" "range_are_like" bQ:=aI 447 (aa sh2 az)
theorem ko:FO x "RangeMap" "__init__" eR:=aI 461 (aa sh2 az)
theorem lK:FO x "RangeMap" "get" fM:=aI 468 (aa sh2 az)
theorem lL:FO x "RangeMap" "put" cx:=aI 475 (aa sh4 az)
theorem jy:FO x "RangeMap" "ranges" gy:=aI 482 (aa sh1 az)
theorem jz:FO x "RangeMap" "set_of" gz:=aI 489 (aa sh2 az)
theorem kP:FO x "" "data_defaults" dT:=aI 503 (aa sh0 az)
theorem nG:FO x "Data" "__init__" gJ:=aI 517 (aa sh1 az)
theorem pI:FO x "Data" "put" i6:=aI 524 (aa sh5 az)
theorem pJ:FO x "Data" "get" gt:=aI 531 (aa sh3 az)
theorem mi:FO x "Data" "map_of" eJ:=aI 538 (aa sh2 az)
theorem pK:FO x "" "_law_deck" aZ:=aI 550 (aa sh1 az)
theorem pL:FO x "" "_law_draw" e6:=aI 557 (aa sh2 az)
theorem pM:FO x "" "_law_pick" i7:=aI 564 (aa sh2 az)
theorem oF:FO x "" "_law_sorts" eC:=aI 569 (aa sh0 az)
theorem oG:FO x "" "_law_class" hO:=aI 576 (aa sh2 az)
theorem oH:FO x "" "_law_units" fN:=aI 583 (aa sh2 az)
theorem kQ:FO x "" "_law_is_figure" cT:=aI 590 (aa sh2 az)
theorem kR:FO x "" "_law_is_aksara" fy:=aI 597 (aa sh1 az)
theorem mn:FO x "" "_law_figures" gl:=aI 604 (aa sh3 az)
theorem oI:FO x "" "_law_ahead" eD:=aI 611 (aa sh4 az)
theorem nH:FO x "" "_law_joined" ff:=aI 618 (aa sh4 az)
theorem nK:FO x "" "_law_places" da:=aI 623 (aa sh2 az)
theorem oJ:FO x "" "_law_drawn" eE:=aI 628 (aa sh2 az)
theorem pN:FO x "" "_law_data" gu:=aI 635 (aa sh1 az)
theorem oK:FO x "" "_law_width" fO:=aI 642 (aa sh4 az)
theorem oL:FO x "" "_law_lines" fQ:=aI 647 (aa sh5 az)
theorem xk:FO x "" "law" gA:=aI 652 (aa sh1 az)
theorem Gx:∀p∈EF x.w.params,AE (aX x) p.1.1 p.1.2 p.2:=by unfold EF;exact aa (kK x) <|aa (kM x) <|aa (mf x) <|aa (nD x) <|aa (j0 x) <|aa (nE x) <|aa (ke x) <|aa (kN x) <|aa (gV x) <|aa (iz x) <|aa (ik x) <|aa (kg x) <|aa (je x) <|aa (kh x) <|aa (iA x) <|aa (jf x) <|aa (gF x) <|aa (jx x) <|aa (iB x) <|aa (ki x) <|aa (gN x) <|aa (iC x) <|aa (gW x) <|aa (kj x) <|aa (iE x) <|aa (im x) <|aa (io x) <|aa (lJ x) <|aa (kO x) <|aa (iF x) <|aa (iG x) <|aa (jg x) <|aa (mh x) <|aa (jh x) <|aa (gb x) <|aa (ir x) <|aa (iu x) <|aa (gO x) <|aa (gG x) <|aa (km x) <|aa (ko x) <|aa (lK x) <|aa (lL x) <|aa (jy x) <|aa (jz x) <|aa (kP x) <|aa (nG x) <|aa (pI x) <|aa (pJ x) <|aa (mi x) <|aa (pK x) <|aa (pL x) <|aa (pM x) <|aa (oF x) <|aa (oG x) <|aa (oH x) <|aa (kQ x) <|aa (kR x) <|aa (mn x) <|aa (oI x) <|aa (nH x) <|aa (nK x) <|aa (oJ x) <|aa (pN x) <|aa (oK x) <|aa (oL x) <|aa (xk x) <|az
theorem sR:CO x "LineHow" ⟨["strictness","keep_all","numbers"],[]⟩:=nC 122 119 (aa (by rfl') <|aa (by rfl') <|aa (by rfl') <|az) az
theorem rZ:CO x "LineUnit" ⟨["word","code","at","is_joined"],[]⟩:=nC 157 154 (aa (by rfl') <|aa (by rfl') <|aa (by rfl') <|aa (by rfl') <|az) az
theorem r5:CO x "LineView" ⟨["data","how","units","solid","regional","numeric"],["word","solid_word","is_quote","is_narrow"]⟩:=nC 213 182 (aa (by rfl') <|aa (by rfl') <|aa (by rfl') <|aa (by rfl') <|aa (by rfl') <|aa (by rfl') <|az) (aa ⟨189,by rfl',by rfl',by rfl'⟩ <|aa ⟨196,by rfl',by rfl',by rfl'⟩ <|aa ⟨203,by rfl',by rfl',by rfl'⟩ <|aa ⟨210,by rfl',by rfl',by rfl'⟩ <|az)
theorem oM:CO x "LineMeasure" ⟨["sums","ends"],["width"]⟩:=nC 367 357 (aa (by rfl') <|aa (by rfl') <|az) (aa ⟨364,by rfl',by rfl',by rfl'⟩ <|az)
theorem pO:CO x "LineBreaks" ⟨["data","how"],["opportunities","reasons","measure","fit_lines","even_lines"]⟩:=nC 436 400 (aa (by rfl') <|aa (by rfl') <|az) (aa ⟨405,by rfl',by rfl',by rfl'⟩ <|aa ⟨412,by rfl',by rfl',by rfl'⟩ <|aa ⟨417,by rfl',by rfl',by rfl'⟩ <|aa ⟨426,by rfl',by rfl',by rfl'⟩ <|aa ⟨433,by rfl',by rfl',by rfl'⟩ <|az)
theorem r6:CO x "RangeMap" ⟨["default","starts","values"],["get","put","ranges","set_of"]⟩:=nC 492 461 (aa (by rfl') <|aa (by rfl') <|aa (by rfl') <|az) (aa ⟨468,by rfl',by rfl',by rfl'⟩ <|aa ⟨475,by rfl',by rfl',by rfl'⟩ <|aa ⟨482,by rfl',by rfl',by rfl'⟩ <|aa ⟨489,by rfl',by rfl',by rfl'⟩ <|az)
theorem yW:CO x "Data" ⟨["defaults","maps","properties","words"],["put","get","map_of"]⟩:=nC 541 517 (aa (by rfl') <|aa (by rfl') <|aa (by rfl') <|aa (by rfl') <|az) (aa ⟨524,by rfl',by rfl',by rfl'⟩ <|aa ⟨531,by rfl',by rfl',by rfl'⟩ <|aa ⟨538,by rfl',by rfl',by rfl'⟩ <|az)
theorem Gy:∀p∈EG,tD (aX x) p.1 p.2:=by unfold EG;exact aa (sR x) <|aa (rZ x) <|aa (r5 x) <|aa (oM x) <|aa (pO x) <|aa (r6 x) <|aa (yW x) <|az
theorem vG:GO x "MAX_CODE" (vAt (aB x.w.params) "MAX_CODE"):=c9 hzs (Value.int 1114111 196)
theorem oN:GO x "place_by_half" (.fn "" "place_by_half"):=bC (a:=61)
theorem sS:GO x "LINE_HARD" (vAt (aB x.w.params) "LINE_HARD"):=c9 hzs (Value.ref 62)
theorem sU:GO x "LINE_BARE" (vAt (aB x.w.params) "LINE_BARE"):=c9 hzs (Value.ref 63)
theorem r7:GO x "LINE_MARKS" (vAt (aB x.w.params) "LINE_MARKS"):=c9 hzs (Value.ref 64)
theorem r8:GO x "LINE_PLAIN" (vAt (aB x.w.params) "LINE_PLAIN"):=c9 hzs (Value.ref 65)
theorem pP:GO x "LINE_CLOSING" (vAt (aB x.w.params) "LINE_CLOSING"):=c9 hzs (Value.ref 66)
theorem iH:GO x "LINE_AHEAD_OF_OPENING" (vAt (aB x.w.params) "LINE_AHEAD_OF_OPENING"):=c9 hzs (Value.ref 67)
theorem jA:GO x "LINE_BEHIND_CLOSING" (vAt (aB x.w.params) "LINE_BEHIND_CLOSING"):=c9 hzs (Value.ref 68)
theorem mq:GO x "LINE_ALPHABETIC" (vAt (aB x.w.params) "LINE_ALPHABETIC"):=c9 hzs (Value.ref 69)
theorem lM:GO x "LINE_IDEOGRAPHIC" (vAt (aB x.w.params) "LINE_IDEOGRAPHIC"):=c9 hzs (Value.ref 70)
theorem pQ:GO x "LINE_AFFIXES" (vAt (aB x.w.params) "LINE_AFFIXES"):=c9 hzs (Value.ref 71)
theorem oO:GO x "LINE_SYLLABIC" (vAt (aB x.w.params) "LINE_SYLLABIC"):=c9 hzs (Value.ref 72)
theorem r9:GO x "LINE_INNER" (vAt (aB x.w.params) "LINE_INNER"):=c9 hzs (Value.ref 73)
theorem sV:GO x "LINE_WIDE" (vAt (aB x.w.params) "LINE_WIDE"):=c9 hzs (Value.ref 74)
theorem sW:GO x "LINE_KEPT" (vAt (aB x.w.params) "LINE_KEPT"):=c9 hzs (Value.ref 75)
theorem pR:GO x "LINE_NUMBERS" (vAt (aB x.w.params) "LINE_NUMBERS"):=c9 hzs (Value.ref 90)
theorem sX:GO x "LINE_JAMO" (vAt (aB x.w.params) "LINE_JAMO"):=(QQ (fun p hp=>Uu _ hp) 91 (by rfl') (by rfl') (by rfl') (by rfl') (by rfl'))
theorem nL:GO x "LINE_ITERATION" (vAt (aB x.w.params) "LINE_ITERATION"):=c9 hzs (Value.ref 97)
theorem lN:GO x "LINE_JAMO_RANGES" (vAt (aB x.w.params) "LINE_JAMO_RANGES"):=c9 hzs (Value.ref 104)
theorem jB:GO x "LINE_FIRST_SYLLABLE" (vAt (aB x.w.params) "LINE_FIRST_SYLLABLE"):=c9 hzs (Value.int 44032 416)
theorem kq:GO x "LINE_LAST_SYLLABLE" (vAt (aB x.w.params) "LINE_LAST_SYLLABLE"):=c9 hzs (Value.int 55203 418)
theorem sf:GO x "LINE_TAILS" (vAt (aB x.w.params) "LINE_TAILS"):=c9 hzs (Value.int 28 420)
theorem oP:GO x "DOTTED_CIRCLE" (vAt (aB x.w.params) "DOTTED_CIRCLE"):=c9 hzs (Value.int 9676 422)
theorem xl:GO x "LineHow" (.cls "LineHow"):=nB (a:=122)
theorem qq:GO x "line_hangul" (.fn "" "line_hangul"):=bC (a:=133)
theorem sq:GO x "line_class" (.fn "" "line_class"):=bC (a:=140)
theorem vI:GO x "LineUnit" (.cls "LineUnit"):=nB (a:=157)
theorem sr:GO x "line_units" (.fn "" "line_units"):=bC (a:=168)
theorem vJ:GO x "LineView" (.cls "LineView"):=nB (a:=213)
theorem nN:GO x "line_rule_hard" (.fn "" "line_rule_hard"):=bC (a:=224)
theorem lO:GO x "line_rule_spaces" (.fn "" "line_rule_spaces"):=bC (a:=231)
theorem nP:GO x "line_rule_glue" (.fn "" "line_rule_glue"):=bC (a:=238)
theorem kT:GO x "line_rule_closing" (.fn "" "line_rule_closing"):=bC (a:=245)
theorem lP:GO x "line_rule_quotes" (.fn "" "line_rule_quotes"):=bC (a:=252)
theorem iI:GO x "line_rule_over_spaces" (.fn "" "line_rule_over_spaces"):=bC (a:=259)
theorem mr:GO x "line_rule_signs" (.fn "" "line_rule_signs"):=bC (a:=266)
theorem kU:GO x "line_rule_letters" (.fn "" "line_rule_letters"):=bC (a:=273)
theorem nQ:GO x "line_is_number" (.fn "" "line_is_number"):=bC (a:=280)
theorem ji:GO x "line_rule_expression" (.fn "" "line_rule_expression"):=bC (a:=287)
theorem kW:GO x "line_rule_numbers" (.fn "" "line_rule_numbers"):=bC (a:=294)
theorem jC:GO x "line_rule_syllables" (.fn "" "line_rule_syllables"):=bC (a:=301)
theorem nR:GO x "line_is_aksara" (.fn "" "line_is_aksara"):=bC (a:=308)
theorem kX:GO x "line_rule_aksaras" (.fn "" "line_rule_aksaras"):=bC (a:=315)
theorem kr:GO x "line_rule_brackets" (.fn "" "line_rule_brackets"):=bC (a:=322)
theorem kx:GO x "line_rule_pictures" (.fn "" "line_rule_pictures"):=bC (a:=329)
theorem pS:GO x "line_verdict" (.fn "" "line_verdict"):=bC (a:=336)
theorem oQ:GO x "line_verdicts" (.fn "" "line_verdicts"):=bC (a:=343)
theorem qr:GO x "LineMeasure" (.cls "LineMeasure"):=nB (a:=367)
theorem lQ:GO x "line_last_within" (.fn "" "line_last_within"):=bC (a:=378)
theorem qs:GO x "line_fitted" (.fn "" "line_fitted"):=bC (a:=385)
theorem su:GO x "LineBreaks" (.cls "LineBreaks"):=nB (a:=436)
theorem nS:GO x "range_are_like" (.fn "" "range_are_like"):=bC (a:=447)
theorem vK:GO x "RangeMap" (.cls "RangeMap"):=nB (a:=492)
theorem oR:GO x "data_defaults" (.fn "" "data_defaults"):=bC (a:=503)
theorem Gz:GO x "Data" (.cls "Data"):=nB (a:=541)
theorem vL:GO x "_law_deck" (.fn "" "_law_deck"):=bC (a:=550)
theorem vM:GO x "_law_draw" (.fn "" "_law_draw"):=bC (a:=557)
theorem vN:GO x "_law_pick" (.fn "" "_law_pick"):=bC (a:=564)
theorem sY:GO x "_law_sorts" (.fn "" "_law_sorts"):=bC (a:=569)
theorem sZ:GO x "_law_class" (.fn "" "_law_class"):=bC (a:=576)
theorem tb:GO x "_law_units" (.fn "" "_law_units"):=bC (a:=583)
theorem oS:GO x "_law_is_figure" (.fn "" "_law_is_figure"):=bC (a:=590)
theorem oU:GO x "_law_is_aksara" (.fn "" "_law_is_aksara"):=bC (a:=597)
theorem qt:GO x "_law_figures" (.fn "" "_law_figures"):=bC (a:=604)
theorem tc:GO x "_law_ahead" (.fn "" "_law_ahead"):=bC (a:=611)
theorem sw:GO x "_law_joined" (.fn "" "_law_joined"):=bC (a:=618)
theorem sx:GO x "_law_places" (.fn "" "_law_places"):=bC (a:=623)
theorem td:GO x "_law_drawn" (.fn "" "_law_drawn"):=bC (a:=628)
theorem vP:GO x "_law_data" (.fn "" "_law_data"):=bC (a:=635)
theorem te:GO x "_law_width" (.fn "" "_law_width"):=bC (a:=642)
theorem ti:GO x "_law_lines" (.fn "" "_law_lines"):=bC (a:=647)
theorem Ky:GO x "law" (.fn "" "law"):=bC (a:=652)
theorem Kz:GO x "len" (.bi "len"):=Av
theorem sD:GO x "isinstance" (.bi "isinstance"):=Av
theorem KB:GO x "max" (.bi "max"):=Av
theorem KC:GO x "sum" (.bi "sum"):=Av
theorem KD:GO x "int" (.ty "int"):=tY
theorem GA:GO x "list" (.ty "list"):=tY
theorem B7:GO x "tuple" (.ty "tuple"):=tY
theorem B8:GO x "range" (.ty "range"):=tY
theorem GB:GO x "bool" (.ty "bool"):=tY
theorem tj:GO x "enumerate" (.ty "enumerate"):=tY
theorem B9:∀p∈yo x.w.params,jY (aX x) p:=by unfold yo;exact aa (vG x) <|aa (oN x) <|aa (sS x) <|aa (sU x) <|aa (r7 x) <|aa (r8 x) <|aa (pP x) <|aa (iH x) <|aa (jA x) <|aa (mq x) <|aa (lM x) <|aa (pQ x) <|aa (oO x) <|aa (r9 x) <|aa (sV x) <|aa (sW x) <|aa (pR x) <|aa (sX x) <|aa (nL x) <|aa (lN x) <|aa (jB x) <|aa (kq x) <|aa (sf x) <|aa (oP x) <|aa (xl x) <|aa (qq x) <|aa (sq x) <|aa (vI x) <|aa (sr x) <|aa (vJ x) <|aa (nN x) <|aa (lO x) <|aa (nP x) <|aa (kT x) <|aa (lP x) <|aa (iI x) <|aa (mr x) <|aa (kU x) <|aa (nQ x) <|aa (ji x) <|aa (kW x) <|aa (jC x) <|aa (nR x) <|aa (kX x) <|aa (kr x) <|aa (kx x) <|aa (pS x) <|aa (oQ x) <|aa (qr x) <|aa (lQ x) <|aa (qs x) <|aa (su x) <|aa (nS x) <|aa (vK x) <|aa (oR x) <|aa (Gz x) <|aa (vL x) <|aa (vM x) <|aa (vN x) <|aa (sY x) <|aa (sZ x) <|aa (tb x) <|aa (oS x) <|aa (oU x) <|aa (qt x) <|aa (tc x) <|aa (sw x) <|aa (sx x) <|aa (td x) <|aa (vP x) <|aa (te x) <|aa (ti x) <|aa (Ky x) <|aa (Kz x) <|aa (sD x) <|aa (KB x) <|aa (KC x) <|aa (KD x) <|aa (GA x) <|aa (B7 x) <|aa (B8 x) <|aa (GB x) <|aa (tj x) <|az
theorem QT:cM (aX x) (a_T x.w.params):=OO zG EH rfl rfl (Gx x) (Gy x) (B9 x) (Gw (by rfl')) (by rfl')
end
theorem OP(w:World)(h0:Heap)(mg mb:Str->Option Value)(Zs:List (Addr×Obj)):cM (a_C w h0 mg mb Zs) (a_T w.params):=QT ⟨w,h0,mg,mb,Zs⟩
theorem OQ(hlaw:∀P (ns:List Int),ns.length<=63->∃J',cP P 41 "" "law" [.lst (ns.map .int)] [] [] (.bool true) J'){w:World}{s₁:Shared}{l fa:Addr}{ns:List Int}{mg mb:Str->Option Value}{p:Program}{loose:List Str}{mean:ExcName->Option Value}{cl:Str->Option Addr}{mean':ExcName->Option Value}{args:List WData}(KX:(aB w.params).In s₁.heap)(T0:Top p loose mean mg mb s₁.heap)(hw:Well w.params s₁.heap (.ref l) (ofPy (.list (ns.map .int))))(hn:¬(63:Int)<ns.length)(hg:s₁.gens = #[])(hmg:mg "law"=some (.ref fa))(hc1:∀cls,PySem.Challenge.rw_nt0061_02.row.claim.raises args cls=false)(hc2:PySem.Challenge.rw_nt0061_02.row.claim.post args (.bool true) args=true):
 codeAny (model PySem.Challenge.rw_nt0061_02.row.prog w) callerA (.call (.ref fa) ⟨[.ref l],[]⟩) (GoodW PySem.Challenge.rw_nt0061_02.row.claim cl mean' args s₁) s₁:=by
 have hw':Well w.params s₁.heap (.ref l) (.list (ofPys (ns.map .int))):=hw;cases hw' with|@list _ vs _ hl hall=>
 have TO:=OP w s₁.heap mg mb [(l,listOf vs.toArray 0)];generalize hC:a_C w s₁.heap mg mb [(l,listOf vs.toArray 0)]=C at TO;have K:aU C:=by subst hC;exact⟨T0.g,T0.b,T0.nolimit,T0.builtins,KX⟩
 have hh0:C.h₀=s₁.heap:=by subst hC;rfl
 have hZ:∀q∈C.Z₀,s₁.heap.get? q.1=some q.2:=by
  subst hC;intro q hq;rcases TJ.mp hq with hq|hq
  .exact KX _ _ (Gq hq)
  .rw[Tw.mp hq];exact hl
 have I:au C ⟨[],C.Z₀⟩ [] s₁.heap:=⟨fun b o e=>hh0▸e,rfl,fun a h=>(nomatch h),.nil,fun a h=>(nomatch h),fun q h=>h,fun q h=>hZ q h,fun q _ h=>(nomatch h),fun n c a e=>by simp at e⟩;obtain⟨J',hcall⟩:=hlaw w.params ns (by lia);have rl:ac C ⟨[],C.Z₀⟩ (.lst (ns.map .int)) (.ref l):=by simp only[ac];refine⟨l,vs.toArray,0,rfl,?_,aL.mpr (by simpa using tZ hall C ⟨[],C.Z₀⟩)⟩;subst hC;exact UT _ (by simp)
 have hp:C.prog=PySem.Challenge.rw_nt0061_02.row.prog/\C.w=w:=by subst hC;exact⟨rfl,rfl⟩
 have e:M C=model PySem.Challenge.rw_nt0061_02.row.prog w:=by show model C.prog C.w=_;rw[hp.1,hp.2]
 have hfa:C.fnA "" "law"=some fa:=by
  have q:∀P,nsIn (aB P) mainGlobals "law"=some (some (.ref 652)):=fun P=>by rfl'
  have:=mg_of KX T0.g (q w.params);rw[hmg]at this;cases this;subst hC;rfl'
 have S:=Pg (mt:=yp) K TO 41 (A:=callerA) (R:=GoodW PySem.Challenge.rw_nt0061_02.row.claim cl mean' args s₁) (by subst hC;exact hcall) hfa ⟨rfl,by show 300+1+8*41+8<=1000;decide,by show 4+64*41+256<=9900;decide⟩ I (.cons rl .nil) .nil ?_
 .rw[e]at S;exact S
 .intro O' s' v RX I' hv;simp only[ac]at hv;subst hv;obtain⟨h2,tk,rfl⟩:=RX.same;exact⟨.inl ⟨_,.bool true,[],rfl,hc1,.bool true,hc2,unshared_nil⟩,fun b o e=>I'.base b o (by rw[hh0];exact e),rfl,hg⟩
theorem KE(hlaw:∀P (ns:List Int),ns.length<=63->∃J',cP P 41 "" "law" [.lst (ns.map .int)] [] [] (.bool true) J'):PySem.Challenge.rw_nt0061_02.Holds:=hd (by
 k_fill
 intro w s₀ s₁ mg mb G Y fa o pm cd doc dV kV ho hfd hcd hD hmg hg args vals as hpre hlay hrd hwl hlo;have KX:=kIn_of Y;have X:=(Ground.X G).1;have V:=(Ground.X G).2;refine Ground.open G ?_;intro T B D TE TW
 try (refine guard_noD D (by decide +kernel) ?_;clear D)
 have TA:=at_of_top T;clear TA
 wrow_args hpre hlay hrd hwl hlo
 refine enter_call ?_
 w_top on
 refine codeAny_mono ?_ (fun _ _ g=>GoodW.toG g);exact OQ hlaw (by assumption) (by assumption) (by assumption) (by assumption) (by assumption) (by assumption) (raisesW_false (by wrow_none_raised)) (by first|kc_post|wrow_post))
theorem claim_nt0061_02:PySem.Challenge.rw_nt0061_02.Holds:=KE Kt
end
end Mine.Internal
theorem PySem.Challenge.cw_nt0061_02_holds : PySem.Challenge.rw_nt0061_02.Holds :=
 Mine.Internal.claim_nt0061_02
