import PyProof.Rows.All
import Wide.FinOn
import KE.KEqDict
import KE.KDictList
import KE.KDictOf
import PySem.Challenge.RW_uf010014_11
set_option Elab.async false
set_option linter.all false
set_option bootstrap.genMatcherCode false
set_option genSizeOf false
set_option genInjectivity false
set_option genCtorIdx false
set_option tactic.hygienic false
namespace Mine.Internal
noncomputable section
open Nat renaming le_trans→iv,add_le_add_right→PJ,succ_le_succ→PN,zero_le→PR,le_add_right→PU,le_of_ble_eq_true→P5,lt_of_le_of_lt→P6,le_add_left→P7,le_refl→P9,add_le_add→Qb,le_of_lt→Qd,add_le_add_left→Qe,le_of_eq→Qk,min_eq_left→Qm,add_assoc→Qo,lt_of_lt_of_le→Qr,le_succ_of_le→Qt,add_comm→Qu,max_le→QC,le_of_not_lt→QD,ne_of_lt→QE,le_of_add_right_le→QM,add_right_comm→QP,add_sub_cancel'→QX,le_of_succ_le→QZ,mul_le_mul_left→Q4,zero_add→Ri,le_max_right→Ro,mul_le_mul_right→Rq,lt_irrefl→Rr,add_sub_cancel_left→Rt,succ_pos→Ru,le_antisymm→Rz,le_max_left→RA,le_of_succ_le_succ→RD,min_le_right→RM,lt_succ_self→RN,lt_of_succ_lt_succ→RV,le_of_lt_succ→R6,le_succ→Sj,ne_of_gt→Sk,lt_succ_of_le→SF,pow_le_pow_right→SK,not_lt→SN,le_of_add_le_add_right→SW,lt_or_ge→SZ,lt_of_le_of_ne→S1,succ_mul→S4,sub_self→S5,lt_one_iff→S8,sub_le→Tf,exists_eq_add_of_lt→Tj,succ_ne_zero→Tl,min_eq_right→Tn,le_of_sub_eq_zero→Tv,lt_trans→Tx,sub_eq_zero_of_le→TF,mul_le_mul→TN,mul_one→TP,le_total→TX,min_self→TY
open PySem renaming wpAny_bind→OJ,wpAny_pure→PH,wpAny_mono→PO,wpAny_loadPart_at→P0,wpAny_newObj_type→Qn,wpAny_standAt→Qy,wpAny_isSubtype_exc→QK,wpAny_holding→QR
open List renaming length_map→Pa,getElem?_eq_some_iff→Pz,length_append→PA,getElem?_eq_getElem→PB,mem_of_getElem?→PC,mem_cons_of_mem→PD,mem_cons_self→PF,mem_singleton→PL,mem_cons→PM,map_append→PP,mem_append→PQ,append_assoc→PT,getElem?_append_right→PW,length_cons→PX,getElem?_append_left→P1,lookup_cons→P2,append_nil→P4,mem_of_mem_take→P8,getElem?_map→Qc,mem_map→Qi,length_take→Ql,map_cons→Qq,map_map→Qv,length_drop→Qw,mem_map_of_mem→Qz,mem_of_mem_drop→QF,not_mem_nil→QG,mem_append_right→QH,contains_cons→QI,take_append_drop→QJ,all_eq_true→QN,mem_filter→QO,length_singleton→QQ,drop_eq_getElem_cons→QT,nodup_cons→QW,isEmpty_map→QY,getElem?_of_mem→Q0,mem_append_left→Q1,getElem?_take_of_lt→Q5,length_nil→Q6,map_take→Q7,length_range→Ra,mem_range→Rc,map_drop→Re,getElem?_eq_none→Rf,length_filter_le→Rh,getElem?_take→Rj,idxOf_lt_length_iff→Rk,eq_nil_of_length_eq_zero→Rm,getElem_mem→Rn,mem_flatMap→Rp,filterMap_cons→Rx,map_congr_left→Ry,take_of_length_le→RB,filter_eq_nil_iff→RC,map_nil→RE,nodup_append→RF,flatMap_cons→RH,any_cons→RJ,isEmpty_iff→RO,take_append_of_le_length→RP,filterMap_eq_map'→RS,pairwise_cons→RW,map_singleton→RX,getElem?_drop→RY,sum_append→R4,take_sublist→R5,range_eq_range'→R9,any_eq_true→Sg,drop_length→Si,length_set→Sp,mem_replicate→Sq,filter_cons_of_pos→Ss,ext_getElem?→SE,nodup_nil→SG,length_replicate→SI,replicate_succ→SQ,nil_append→SV,length_range'→S6,getElem_idxOf→S7,isEmpty_eq_false_iff→Ta,getElem?_inj→Tb,drop_sublist→Tc,size_toArray→Td,range'_eq_map_range→Tg,pairwise_singleton→Th,filter_cons_of_neg→Ti,getElem?_cons_succ→Tk,range'_succ→To,filter_cons→Tp,range_succ_eq_map→Tq,drop_eq_nil_of_le→Tr,foldl_cons→Ts,any_map→Tt,getElem?_toArray→Tu,of_mem_zip→Tz,take_eq_take_iff→TB,take_left'→TD,set_append_right→TG,singleton_append→TH,getElem?_mapIdx→TJ,contains_eq_mem→TK,length_take_le'→TL,idxOf_cons_self→TM
open PySem.Heap renaming get?_push_of_some→PG,get?_push_size→PV,lt_size→Qx,get?_update_self→QU,get?_update_other→Q2,size_push→RQ,get?_none_of_le→SJ
open Bool renaming and_eq_true_iff→PI,false_ne_true→PY,and_eq_true→P3,or_eq_true_iff→Qa,not_eq_true'→QB,noConfusion→Q3,or_false→Rs,true_and→RK,false_and→RR,or_eq_false_iff→R8,or_true→Sm,not_true→Su,false_or→SM,false_eq_true→SY,and_false→S9
open Option renaming bind_eq_some_iff→PK,isSome_iff_exists→Qh,map_eq_some_iff→Qj,isNone_iff_eq_none→QA,map_some→Sv,some_ne_none→SO,noConfusion→TQ
open Array renaming length_toList→PZ,getElem?_eq_some_iff→Q8,getElem?_eq_none→RU,getElem?_eq_getElem→Se,toList_push→Te,size_eq_one_iff→Tw,mem_toList_iff→TI,toList_append→TO
open Int renaming natCast_nonneg→Qg,ofNat_lt→Qp,toNat_natCast→Qs,le_trans→QL,eq_ofNat_of_zero_le→QS,ofNat_le→QV,toNat_of_nonneg→Rb,toNat_le→Rg,add_nonneg→Rv,not_lt→RG,natCast_add→RI,emod_nonneg→RZ,le_of_lt→R3,le_add_of_nonneg_right→R7,max_eq_right→Sh,toNat_lt→Sl,lt_of_lt_of_le→Sr,add_sub_cancel→Sy,ofNat_inj→Sz,ne_of_gt→SH,min_eq_left→SR,add_le_add_left→SU,emod_lt_of_pos→SX,add_comm→S3,not_le→TS,sub_zero→TU,zero_add→TV
open PyProof.Rows renaming callWith_type→Q9,slot_tuple_getitem→SD,slicePart_none→SS
open PySem
noncomputable def KA:Nat->Addr
 |0=>24
 |1=>37
 |2=>49
 |3=>61
 |4=>73
 |5=>85
 |_=>104
noncomputable def j5:Str:=⟨#[111,110,101]⟩noncomputable def dG:Str:=⟨#[111,116,104,101,114]⟩
inductive V where
 |un
 |d (x:PyData)
 |loc (n:Nat)
 |exc (k:Nat) (ds:List PyData)noncomputable def V.ctorIdx(t:V):Nat:=by cases (t);exact 0;exact 1;exact 2;exact 3
inductive Cell where
 |lst (l:List PyData)
 |dct (l:List (Str×PyData))
 |gone
 |busy
noncomputable def Cell.ctorIdx(t:Cell):Nat:=by cases (t);exact 0;exact 1;exact 2;exact 3
abbrev ac:=List (Cell)abbrev Fm:=List (V)noncomputable abbrev ak(i:Int):V:=.d (.int i)noncomputable abbrev aA(x:Str):V:=.d (.str x)noncomputable abbrev ah(l:List PyData):V:=.d (.tuple l)noncomputable abbrev al(l:List PyData):V:=.d (.list l)
inductive Res(B:Type) where
 |ok (a:B) (U:ac)
 |bad
noncomputable def Res.ctorIdx{B:Type}(t:Res B):Nat:=by cases (t);exact 0;exact 1
abbrev VP:=Value->Shared->Prop
abbrev CF:=Nat->List V->ac->Res (V)abbrev KS:=List (Str×NameKind)abbrev SC:=List (Str×Nat)abbrev GD:=Nat->Option (PyData)noncomputable def Res.bind{B Y:Type}:Res B->(B->ac->Res Y)->Res Y
 |.ok a U,f=>f a U
 |.bad,_=>.bad
noncomputable def bv{B:Type}(o:Option B)(U:ac):Res B:=match o with
 |some a=>.ok a U
 |none=>.bad
inductive BOp where|add|sub|mul|fdiv|mod|pow(u:Unit)noncomputable def BOp.ctorIdx(t:BOp):Nat:=by cases (t);exact 0;exact 1;exact 2;exact 3;exact 4;exact 5
inductive COp where|eq|ne|lt|le|gt|ge(u:Unit) | isN|isNotN|isIn|notIn
noncomputable def COp.ctorIdx(t:COp):Nat:=by cases (t);exact 0;exact 1;exact 2;exact 3;exact 4;exact 5;exact 6;exact 7;exact 8;exact 9
inductive Ty where|list|int|bool|str|tuple(u:Unit)noncomputable def Ty.ctorIdx(t:Ty):Nat:=by cases (t);exact 0;exact 1;exact 2;exact 3;exact 4
inductive Bi where|len|list|int|max|tuple|sortedSet|any|all|isinst(t:Ty)noncomputable def Bi.ctorIdx(t:Bi):Nat:=by cases (t);exact 0;exact 1;exact 2;exact 3;exact 4;exact 5;exact 6;exact 7;exact 8
inductive Me where|append|extend|update|pop|count|index|nop(u:Unit)noncomputable def Me.ctorIdx(t:Me):Nat:=by cases (t);exact 0;exact 1;exact 2;exact 3;exact 4;exact 5;exact 6
inductive Tgt where
 |var (i:Nat)
 |tup (l:List Nat)noncomputable def Tgt.ctorIdx(t:Tgt):Nat:=by cases (t);exact 0;exact 1
mutual
inductive E where
 |none
 |bool (b:Bool)
 |int (i:Int)
 |str (s:Str)
 |var (i:Nat)
 |glob (g:Nat)
 |bin (op:BOp) (m:Bool) (a b:E)
 |neg (a:E)
 |not (a:E)
 |bop (isAnd:Bool) (es:EL)
 |cmp (op:COp) (a b:E)
 |cmp2 (bD fW:COp) (a b c:E)
 |ite (c a b:E)
 |tup (es:EL)
 |list (m:Bool) (es:EL)
 |dict0
 |idx (a i:E)
 |slc (m:Bool) (a:E) (lo hi:EL)
 |comp (m:Bool) (t:Tgt) (it:It) (c:EL) (e:E)
 |call (f:Nat) (es:EL)
 |bi (b:Bi) (m:Bool) (es:EL)
 |meth (b:Me) (o:E) (es:EL)
 |freeze (e:E)
 |isx (k:Nat) (e:E)
inductive EL where
 |nil
 |cons (e:E) (es:EL)
inductive It where
 |seq (e:E)
 |range (e:E)
 |range2 (a b:E)
 |enum (e:E)
end
noncomputable def E.ctorIdx(t:E):Nat:=by cases (t);exact 0;exact 1;exact 2;exact 3;exact 4;exact 5;exact 6;exact 7;exact 8;exact 9;exact 10;exact 11;exact 12;exact 13;exact 14;exact 15;exact 16;exact 17;exact 18;exact 19;exact 20;exact 21;exact 22;exact 23
noncomputable def EL.ctorIdx(t:EL):Nat:=by cases (t);exact 0;exact 1
noncomputable def It.ctorIdx(t:It):Nat:=by cases (t);exact 0;exact 1;exact 2;exact 3
inductive RT where
 |drop
 |var (i:Nat)
 |ret
 |retL
noncomputable def RT.ctorIdx(t:RT):Nat:=by cases (t);exact 0;exact 1;exact 2;exact 3
inductive Hk where
 |none
 |tup (i f:Nat) (a:Bool)noncomputable def Hk.ctorIdx(t:Hk):Nat:=by cases (t);exact 0;exact 1
structure Hd where
 k:Nat
 h:Hk
mutual
inductive S where
 |expr (e:E)
 |asg (t:Tgt) (e:E)
 |asgT (l:List Nat) (e:E)
 |put (o i e:E)
 |ite (c:E) (a b:SL)
 |forr (t:Tgt) (it:It) (b:SL)
 |ret (e:E)
 |pass
 |stop
 |calls (t:RT) (f:Nat) (es:EL)
 |raise (k:Nat) (es:EL)
 |tryS (b:SL) (hs:List Hd)
 |iteC (f:Nat) (es:EL) (i x:E) (b:SL)
inductive SL where
 |nil
 |cons (s:S) (r:SL)
end
noncomputable def S.ctorIdx(t:S):Nat:=by cases (t);exact 0;exact 1;exact 2;exact 3;exact 4;exact 5;exact 6;exact 7;exact 8;exact 9;exact 10;exact 11;exact 12
noncomputable def SL.ctorIdx(t:SL):Nat:=by cases (t);exact 0;exact 1
noncomputable def jq(n:Nat)(i:Int):Nat:=(max 0 (min (if i < 0 then i+n else i) n)).toNat
def aC{B:Type}(l:List B)(lo hi:Option Int):List B:=
 (l.drop ((lo.map (jq l.length)).getD 0)).take ((hi.map (jq l.length)).getD l.length - (lo.map (jq l.length)).getD 0)noncomputable def index(n:Nat)(i:Int):Option Nat:=if 0<=i then (if i < n then some i.toNat else none) else (if 0<=i+n then some (i+n).toNat else none)noncomputable def aG(x:Str):List Nat:=(x.cps.toList)noncomputable def aD(l:List Nat):Str:=⟨l.toArray⟩noncomputable def LIM:Nat:=1000000
noncomputable def oc{B γ:Type}(o:Option B)(f:B->γ)(z:γ):γ:=match o with
 |some a=>f a
 |none=>(z)def b2{B Y γ:Type}(o:Option B)(p:Option Y)(f:B->Y->γ)(z:γ):γ:=oc o (λa=>oc p (λb=>f a b) z) (z)variable {B γ:Type}
theorem jj(o:Option B)(f:B->γ)(z:γ):(∃a,o=some a/\oc o f z=f a)\/oc o f z=z:=by
 cases o with
 |none=>exact .inr rfl
 |some a=>exact .inl ⟨a,rfl,rfl⟩
theorem nX{Y:Type}(o:Option B)(p:Option Y)(f:B->Y->γ)(z:γ):(∃a b,o=some a/\p=some b/\b2 o p f z=f a b)\/b2 o p f z=z:=by
 cases o with
 |none=>exact .inr rfl
 |some a=>cases p with
   |none=>exact .inr rfl
   |some b=>exact .inl ⟨a,b,rfl,rfl,rfl⟩noncomputable def bN:V->Option PyData
 |.d x=>some x
 |_=>(none)noncomputable def B1:PyData->Option Int
 |.int i=>some i
 |_=>(none)noncomputable def Dh:PyData->Option Str
 |.str i=>some i
 |_=>(none)noncomputable def Jf:PyData->Option Bool
 |.bool i=>some i
 |_=>(none)noncomputable def C5:PyData->Option (List PyData)
 |.tuple i=>some i
 |_=>(none)def cH(v:V):Option Int:=(bN v).bind (B1)def j3(v:V):Option Str:=(bN v).bind (Dh)def xP(v:V):Option Bool:=(bN v).bind (Jf)def jy(v:V):Option (List PyData):=(bN v).bind (C5)theorem b9{v:V}{x:PyData}(h:bN v=some x):v=.d x:=by cases v<;>first | ((injection h with e;subst e);rfl) | injection h
variable {v:PyData}theorem u8{x:Int}(h:B1 v=some x):v=.int x:=by cases v<;>first | ((injection h with e;subst e);rfl) | injection h
theorem pW{x:Str}(h:Dh v=some x):v=.str x:=by cases v<;>first | ((injection h with e;subst e);rfl) | injection h
theorem Fy{x:Bool}(h:Jf v=some x):v=.bool x:=by cases v<;>first | ((injection h with e;subst e);rfl) | injection h
variable {x:List PyData}theorem um(h:C5 v=some x):v=.tuple x:=by cases v<;>first | ((injection h with e;subst e);rfl) | injection h
theorem c6{v:V}{x:Int}(h:cH v=some x):v=.d (.int x):=by obtain⟨y,h1,h2⟩:=PK.mp h;rw[b9 h1,u8 h2]theorem eA{v:V}{x:Str}(h:j3 v=some x):v=.d (.str x):=by obtain⟨y,h1,h2⟩:=PK.mp h;rw[b9 h1,pW h2]theorem nP{v:V}{x:Bool}(h:xP v=some x):v=.d (.bool x):=by obtain⟨y,h1,h2⟩:=PK.mp h;rw[b9 h1,Fy h2]theorem eu{v:V}(h:jy v=some x):v=.d (.tuple x):=by obtain⟨y,h1,h2⟩:=PK.mp h;rw[b9 h1,um h2]noncomputable def one{B:Type}:List B->Option B
 |[a]=>some a
 |_=>(none)noncomputable def two{B:Type}:List B->Option (B×B)
 |[a,b]=>some (a,b)
 |_=>(none)variable {a:B}
theorem dC{l:List B}(h:one l=some a):l=[a]:=by
 cases l with
 |nil=>injection h
 |cons x l=>cases l with
   |nil=>injection h with e;subst e;rfl
   |cons _ _=>injection h
theorem jx{l:List B}{b:B}(h:two l=some (a,b)):l=[a,b]:=by
 cases l with
 |nil=>injection h
 |cons x l=>cases l with
   |nil=>injection h
   |cons y l=>cases l with
     |nil=>injection h with e;injection e with e f;subst e;subst f;rfl
     |cons _ _=>injection h
def Ku:Cell->Option (List PyData)
 |.lst l=>some l
 |_=>(none)noncomputable def Ol:Cell->Option (List (Str×PyData))
 |.dct l=>some l
 |_=>(none)def jl(U:ac)(n:Nat):Option (List PyData):=U[n]?.bind (Ku)def hY(U:ac)(n:Nat):Option (List (Str×PyData)):=U[n]?.bind (Ol)variable {n:Nat}{U:ac}theorem ku{l:List PyData}(h:jl U n=some l):U[n]?=some (.lst l):=by obtain⟨c,h1,h2⟩:=PK.mp h;rw[h1];cases c<;>first | ((injection h2 with e;subst e);rfl) | injection h2
variable {l:List (Str×PyData)}theorem jp(h:hY U n=some l):U[n]?=some (.dct l):=by obtain⟨c,h1,h2⟩:=PK.mp h;rw[h1];cases c<;>first | ((injection h2 with e;subst e);rfl) | injection h2
theorem jk{l:List PyData}(h:U[n]?=some (.lst l)):jl U n=some l:=by unfold jl;rw[h];(rfl)theorem kM(h:U[n]?=some (.dct l)):hY U n=some l:=by unfold hY;rw[h];(rfl)noncomputable def uT:V->Option Nat
 |.loc n=>some n
 |_=>(none)theorem jK{v:V}(h:uT v=some n):v=.loc n:=by cases v<;>first | ((injection h with e;subst e);rfl) | injection h
noncomputable def tH:V->Option Unit
 |.d .none=>some ()
 |_=>(none)variable {u:Unit}
set_option tactic.hygienic true in
theorem qU{v:V}(h:tH v=some u):v=.d .none:=by
 cases v
 case d x=>cases x<;>first|rfl|injection h
 all_goals injection h
noncomputable def Kt:PyData->Option (List PyData)
 |.list i=>some i
 |_=>(none)theorem Hf(h:Kt v=some x):v=.list x:=by cases v<;>first | ((injection h with e;subst e);rfl) | injection h
def aQ(U:ac):V->Option (List PyData)
 |.d x=>Kt x
 |.loc n=>jl U n
 |_=>(none)def iF(U:ac):V->Option (List (Str×PyData))
 |.loc n=>hY U n
 |_=>none
def bh(m:Bool)(l:List PyData)(U:ac):Res V:=
 if m then .ok (.loc U.length) (U++[.lst l]) else .ok (.d (.list l)) U
def truthy(U:ac)(x:V):Option Bool:=oc (xP x) some (oc (aQ U x) (λl=>some (!l.isEmpty)) none)noncomputable def tJ(a b:Int):Bool:=decide (a.natAbs < 9223372036854775808)||decide (b.natAbs < 9223372036854775808)
def dj(op:BOp)(m:Bool)(a b:V)(U:ac):Res V:=match op with
 |.add=>b2 (cH a) (cH b) (λx y=>.ok (.d (.int (x+y))) U)
   (b2 (j3 a) (j3 b) (λx y=>if x.cps.size+y.cps.size<=LIM then .ok (.d (.str (aD (aG x++aG y)))) U else .bad)
   (b2 (jy a) (jy b) (λx y=>if x.length+y.length<=LIM then .ok (.d (.tuple (x++y))) U else .bad)
   (b2 (aQ U a) (aQ U b) (λx y=>if x.length+y.length<=LIM then bh m (x++y) U else .bad) .bad)))
 |.sub=>b2 (cH a) (cH b) (λx y=>.ok (.d (.int (x - y))) U) .bad
 |.mul=>b2 (cH a) (cH b) (λx y=>if tJ x y then .ok (.d (.int (x * y))) U else .bad)
   (b2 (j3 a) (cH b) (λx n=>if 0<=n/\n<=1000/\x.cps.size<=1000 then .ok (.d (.str (aD (List.replicate n.toNat (aG x)).flatten))) U else .bad) .bad)
 |.fdiv=>b2 (cH a) (cH b) (λx y=>if 0 < y/\y < 9223372036854775808 then .ok (.d (.int (x / y))) U else .bad) .bad
 |.mod=>b2 (cH a) (cH b) (λx y=>if 0 < y then .ok (.d (.int (x % y))) U else .bad) .bad
 |.pow _=>b2 (cH a) (cH b) (λx y=>if x=10/\y=20 then .ok (.d (.int 100000000000000000000)) U else .bad) .bad
noncomputable def No(a b:PyData):Option Bool:=if min a.depth b.depth<=64 then some (a.eqv b) else none
def LU(a b:V):Option Bool:=b2 (bN a) (bN b) No (none)def He:List PyData->List PyData->Option Bool
 |[],[]=>some false
 |[],_::_=>some true
 |_::_,[]=>some false
 |x::xs,y::ys=>b2 (B1 x) (B1 y) (λx y=>if x=y then He xs ys else some (decide (x < y))) (none)noncomputable def uY:PyData->Bool
 |.none=>true
 |_=>(false)noncomputable def w0(x:PyData)(l:List PyData):Option Bool:=if min (PyData.depthAll l) x.depth<=64 then some (l.any λy=>y.eqv x) else none
def bC.inV(a b:V)(U:ac):Option Bool:=oc (bN a) (λx=>
 b2 (Dh x) (j3 b) (λx y=>if x.cps.size=1 then some ((aG y).any λc=>aG x==[c]) else none)
 (oc (jy b) (λl=>w0 x l)
 (oc (aQ U b) (λl=>w0 x l)
 (b2 (Dh x) (iF U b) (λk kvs=>some (kvs.lookup k).isSome) none)))) none
def bC(op:COp)(a b:V)(U:ac):Option Bool:=match op with
 |.eq=>LU a b
 |.ne=>(LU a b).map (!·)
 |.lt=>b2 (cH a) (cH b) (λx y=>some (decide (x < y))) none
 |.le=>b2 (cH a) (cH b) (λx y=>some (decide (x<=y))) none
 |.gt=>b2 (cH a) (cH b) (λx y=>some (decide (x > y))) (b2 (jy a) (jy b) (λx y=>He y x) none)
 |.ge _=>b2 (cH a) (cH b) (λx y=>some (decide (x≥y))) none
 |.isN=>oc (tH b) (λ_=>oc (bN a) (λx=>some (uY x)) none) none
 |.isNotN=>oc (tH b) (λ_=>oc (bN a) (λx=>some (!uY x)) none) none
 |.isIn=>bC.inV a b U
 |.notIn=>(bC.inV a b U).map (!·)
def cK(a i:V)(U:ac):Option V:=oc (cH i) (λi=>
 oc (jy a) (λl=>(index l.length i).bind λk=>(l[k]?).map V.d)
 (oc (j3 a) (λx=>(index (aG x).length i).bind λk=>((aG x)[k]?).map λc=>V.d (.str (aD [c])))
 (oc (aQ U a) (λl=>if 0<=i then (l[i.toNat]?).map V.d else none) none)))
 (b2 (j3 i) (iF U a) (λk kvs=>(kvs.lookup k).map V.d) none)noncomputable def cO:Option V->Option (Option Int)
 |none=>some none
 |some (.d (.int i))=>some (some i)
 |some _=>none
def gq(m:Bool)(a:V)(lo hi:Option V)(U:ac):Res V:=b2 (cO lo) (cO hi) (λl h=>oc (jy a) (λx=>.ok (.d (.tuple (aC x l h))) U)
 (oc (j3 a) (λx=>.ok (.d (.str (aD (aC (aG x) l h)))) U) (oc (aQ U a) (λx=>bh m (aC x l h) U) .bad))) .bad
noncomputable def eZ(k:Str)(v:PyData)(kvs:List (Str×PyData)):List (Str×PyData):=
 if kvs.any (λx=>decide (x.1=k)) then kvs.map λx=>if x.1=k then (x.1,v) else x else kvs++[(k,v)]def eH(kvs more:List (Str×PyData)):List (Str×PyData):=more.foldl (λacc x=>eZ x.1 x.2 acc) kvs
def lV(x y:Str):Bool:=decide (aG x < aG y)def iV(x:Str):List Str->List Str
 |[]=>[x]
 |y::r=>if lV y x then y::iV x r else x::y::r
def cu:List Str->List Str
 |[]=>[]
 |x::r=>iV x (cu r)noncomputable def cM:List Str->List Str
 |[]=>[]
 |x::r=>if x∈r then cM r else x::cM (r)noncomputable def iP:List PyData->Option (List Str)
 |[]=>some []
 |.str x::r=>(iP r).map (x::·)
 |_=>(none)noncomputable def c7:List PyData->Option (List Bool)
 |[]=>some []
 |.bool x::r=>(c7 r).map (x::·)
 |_=>(none)noncomputable def qs:Ty->Ty->Bool
 |.list,.list=>true
 |.int,.int=>true
 |.bool,.bool=>true
 |.str,.str=>true
 |.tuple _,.tuple _=>true
 |_,_=>(false)def Pb(t:Ty):PyData->Option Bool
 |.int _=>if qs t .list then none else some (qs t .int)
 |.str _=>if qs t .str||qs t (.tuple ()) then some (qs t .str) else none
 |.list _=>if qs t .list then some true else none
 |.tuple _=>if qs t (.tuple ())||qs t .str then some (qs t (.tuple ())) else none
 |.none=>if qs t (.tuple ())||qs t .str then some false else none
 |_=>(none)def OO(t:Ty):V->Option Bool
 |.d x=>Pb t x
 |_=>(none)def xT(b:Bi)(m:Bool)(vs:List V)(U:ac):Res V:=match b with
 |.len=>oc (one vs) (λa=>oc (jy a) (λl=>.ok (.d (.int l.length)) U) (oc (j3 a) (λx=>.ok (.d (.int (aG x).length)) U) (oc (aQ U a) (λl=>.ok (.d (.int l.length)) U) .bad))) .bad
 |.list=>oc (one vs) (λa=>oc (jy a) (λl=>bh m l U) (oc (iF U a) (λkvs=>bh m (kvs.map λx=>.str x.1) U) .bad)) .bad
 |.int=>oc (one vs) (λa=>oc (xP a) (λb=>.ok (.d (.int (if b then 1 else 0))) U) .bad) .bad
 |.max=>oc (two vs) (λa=>b2 (cH a.1) (cH a.2) (λx y=>.ok (.d (.int (if y > x then y else x))) U) .bad) .bad
 |.tuple=>oc (one vs) (λa=>oc (aQ U a) (λl=>.ok (.d (.tuple l)) U) .bad) .bad
 |.any=>oc (one vs) (λa=>oc ((aQ U a).bind c7) (λl=>.ok (.d (.bool (l.any id))) U) .bad) .bad
 |.all=>oc (one vs) (λa=>oc ((aQ U a).bind c7) (λl=>.ok (.d (.bool (l.all id))) U) .bad) .bad
 |.sortedSet=>oc (one vs) (λa=>oc ((aQ U a).bind iP) (λl=>if l.length < 2000/\(cM l).length < 64 then bh m ((cu (cM l)).map .str) U else .bad) .bad) .bad
 |.isinst t=>oc (one vs) (λa=>oc (OO t a) (λb=>.ok (.d (.bool b)) U) .bad) .bad
def Gb(b:Me)(o:V)(vs:List V)(U:ac):Res V:=match b with
 |.append=>oc (one vs) (λa=>b2 (uT o) (bN a) (λn x=>oc (jl U n) (λl=>if l.length < LIM then .ok (.d .none) (U.set n (.lst (l++[x]))) else .bad) .bad) .bad) .bad
 |.extend=>oc (one vs) (λb=>oc (uT o) (λn=>b2 (jl U n) (aQ U b) (λl y=>if l.length+y.length<=LIM then .ok (.d .none) (U.set n (.lst (l++y))) else .bad) .bad) .bad) .bad
 |.pop=>oc (two vs) (λp=>b2 (uT o) (tH p.2) (λn _=>oc (hY U n) (λkvs=>oc (j3 p.1) (λk=>.ok (.d ((kvs.lookup k).getD .none)) (U.set n (.dct (kvs.filter λx=>!decide (x.1=k))))) (oc (tH p.1) (λ_=>.ok (.d .none) U) .bad)) .bad) .bad) .bad
 |.count=>oc (one vs) (λa=>b2 (xP a) ((aQ U o).bind c7) (λx l=>.ok (.d (.int (l.count x:Nat))) U) .bad) .bad
 |.index=>oc (one vs) (λa=>b2 (xP a) ((aQ U o).bind c7) (λx l=>if l.idxOf x < l.length then .ok (.d (.int (l.idxOf x:Nat))) U else .bad) (b2 (j3 a) ((aQ U o).bind iP) (λx l=>if l.idxOf x < l.length then .ok (.d (.int (l.idxOf x:Nat))) U else .bad) .bad)) .bad
 |.update=>oc (one vs) (λb=>b2 (uT o) (uT b) (λn k=>if n≠k then b2 (hY U n) (hY U k) (λx y=>if x.length+y.length<=LIM then .ok (.d .none) (U.set n (.dct (eH x y))) else .bad) .bad else .bad) .bad) .bad
 |_=>.bad
def sI(b:Me)(U:ac)(o:V):Bool:=match b with
 |.update | .pop=>(iF U o).isSome
 |_=>(aQ U o).isSome
def K7(v:V)(U:ac):Res V:=oc (uT v) (λn=>oc (jl U n) (λl=>.ok (.d (.list l)) (U.set n .gone)) .bad) .bad
def AR(m:Bool)(vs:List V)(U:ac):Res V:=
 match vs.mapM bN with
 |some l=>bh m l U
 |none=>.bad
def xv(vs:List V)(U:ac):Res V:=match vs.mapM bN with
 |some l=>.ok (.d (.tuple l)) U
 |none=>.bad
noncomputable def b7:List Nat->List PyData->Fm->Fm
 |i::l,x::ds,K=>b7 l ds (K.set i (.d x))
 |_,_,K=>(K)def fe(t:Tgt)(x:PyData)(K:Fm):Option Fm:=match t with
 |.var i=>some (K.set i (.d x))
 |.tup is=>oc (C5 x) (λl=>if is.length=l.length then some (b7 is l K) else none) (none)def Jg(t:Tgt)(v:V)(K:Fm):Option Fm:=match t,v with
 |.var i,v=>some (K.set i v)
 |.tup is,.d x=>fe (.tup is) x K
 |_,_=>(none)noncomputable def b8(a b:Int):List PyData:=(List.range (b - a).toNat).map λ(k:Nat)=>.int (a+(k:Int))noncomputable def kK(l:List PyData):List PyData:=l.zipIdx.map λp=>.tuple [.int p.2,p.1]def qQ(v:V)(U:ac):Option (List PyData×Option Nat):=match v with
 |.d x=>oc (C5 x) (λl=>some (l,none)) (oc (Kt x) (λl=>some (l,none)) (oc (Dh x) (λx=>some ((aG x).map λc=>.str (aD [c]),none)) none))
 |.loc n=>(jl U n).map λl=>(l,some n)
 |_=>(none)noncomputable def c5(lk:Option Nat)(U:ac):ac:=match lk with
 |some n=>U.set n .busy
 |none=>(U)def bx(lk:Option Nat)(l:List PyData)(U:ac):ac:=match lk with
 |some n=>U.set n (.lst l)
 |none=>(U)def iH(f:PyData->ac->Res (Option PyData)):List PyData->ac->Res (List PyData)
 |[],U=>.ok [] U
 |x::xs,U=>(f x U).bind λo aa=>(iH f xs aa).bind λr ae=>.ok (o.toList++r) ae
inductive Out where
 |next (K:Fm)
 |ret (v:V)
 |exc (k:Nat) (ds:List PyData)noncomputable def Out.ctorIdx(t:Out):Nat:=by cases (t);exact 0;exact 1;exact 2
def ba(f:PyData->Fm->ac->Res Out):List PyData->Fm->ac->Res Out
 |[],K,U=>.ok (.next K) U
 |x::xs,K,U=>(f x K U).bind λo aa=>match o with
   |.next bV=>ba f xs bV aa
   |.ret v=>.ok (.ret v) aa
   |.exc k ds=>.ok (.exc k ds) (aa)def nE(n:Nat)(v:V)(U:ac):Res V:=match v with
 |.d x=>.ok (.d x) (U.take n)
 |.loc k=>if k < n then .bad else match U[k]? with
   |some (.lst l)=>.ok (.loc n) (U.take n++[.lst l])
   |some (.dct l)=>.ok (.loc n) (U.take n++[.dct l])
   |_=>.bad
 |_=>.bad
def nG(n:Nat)(o:Out)(U:ac):Res V:=match o with
 |.ret v=>nE n v U
 |.next _=>nE n (.d .none) U
 |.exc k ds=>.ok (.exc k ds) (U.take n)noncomputable def nH:V->Option (Nat×List PyData)
 |.exc k ds=>some (k,ds)
 |_=>(none)def mv(v:V)(U:ac):Res V:=match nH v with
 |some _=>.bad
 |none=>.ok v (U)def KI(k:Nat)(v:V)(U:ac):Res V:=oc (nH v) (λx=>.ok (.d (.bool (k==x.1||k==0||k==7))) U) .bad
def OR(t:RT)(v:V)(K:Fm)(U:ac):Res Out:=match t with
 |.drop=>.ok (.next K) U
 |.var i=>.ok (.next (K.set i v)) U
 |.ret=>.ok (.ret v) U
 |.retL=>oc (bN v) (λx=>.ok (.ret (.d (.list [x]))) U) .bad
def jV(t:RT)(v:V)(K:Fm)(U:ac):Res Out:=match nH v with
 |some x=>.ok (.exc x.1 x.2) U
 |none=>OR t v K U
def NP(k:Nat)(vs:List V)(U:ac):Res Out:=if 1<=k/\k<=5 then .ok (.exc k []) U else
 if k=6 then oc (two vs) (λp=>b2 (bN p.1) (bN p.2) (λx y=>.ok (.exc 6 [x,y]) U) .bad) .bad else .bad
def ls(cf:CF)(h:Hk)(k:Nat)(ds:List PyData)(U:ac):Res Out:=match h with
   |.none=>.ok (.ret (.d .none)) U
   |.tup _ f a=>(cf f [.exc k ds] U).bind λv aa=>oc (bN v) (λx=>if a=true->k=6 then .ok (.ret (.d (.tuple (x::if a then ds else [])))) aa else .bad) .bad
def kI(cf:CF):List Hd->Nat->List PyData->ac->Res Out
 |[],_,_,_=>.bad
 |h::hs,k,ds,U=>if h.k=k\/h.k=0 then ls cf h.h k ds U else kI cf hs k ds U
structure Items where
 shown:List PyData
 base:List PyData
 lk:Option Nat
section
variable (G:GD)(cf:CF)
mutual
def af:E->Fm->ac->Res V
 |.none=>λ_ U=>.ok (.d .none) U
 |.bool b=>λ_ U=>.ok (.d (.bool b)) U
 |.int i=>λ_ U=>.ok (.d (.int i)) U
 |.str x=>λ_ U=>.ok (.d (.str x)) U
 |.var i=>λK U=>match K[i]? with
   |some .un=>.bad
   |some v=>.ok v U
   |none=>.bad
 |.glob g=>λ_ U=>bv ((G g).map V.d) U
 |.bin op m a b=>λK U=>(af a K U).bind λx aa=>(af b K aa).bind λy ae=>dj op m x y ae
 |.neg a=>λK U=>(af a K U).bind λx aa=>oc (cH x) (λi=>.ok (.d (.int (-i))) aa) .bad
 |.not a=>λK U=>(af a K U).bind λx aa=>bv ((truthy aa x).map λb=>V.d (.bool (!b))) aa
 |.bop k es=>λK U=>iE k es K U
 |.cmp op a b=>λK U=>(af a K U).bind λx aa=>(af b K aa).bind λy ae=>bv ((bC op x y ae).map λb=>V.d (.bool b)) ae
 |.cmp2 bD fW a b c=>λK U=>(af a K U).bind λx aa=>(af b K aa).bind λy ae=>(bv (bC bD x y ae) ae).bind λt ae=>if t then (af c K ae).bind λz aF=>bv ((bC fW y z aF).map λb=>V.d (.bool b)) aF else .ok (.d (.bool false)) ae
 |.ite c a b=>λK U=>(af c K U).bind λx aa=>(bv (truthy aa x) aa).bind λt aa=>if t then af a K aa else af b K aa
 |.tup es=>λK U=>(aU es K U).bind λvs aa=>xv vs aa
 |.list m es=>λK U=>(aU es K U).bind λvs aa=>AR m vs aa
 |.dict0=>λ_ U=>.ok (.loc U.length) (U++[.dct []])
 |.idx a i=>λK U=>(af a K U).bind λx aa=>(af i K aa).bind λy ae=>bv (cK x y ae) ae
 |.slc m a lo hi=>λK U=>(af a K U).bind λx aa=>(dD lo K aa).bind λl ae=>(dD hi K ae).bind λh aF=>gq m x l h aF
 |.comp m t it c e=>λK U=>(cA it K U).bind λI aa=>
     (iH (λx σ'=>match fe t x K with
       |none=>.bad
       |some ρ'=>(dD c ρ' σ').bind λcv ae=>match cv with
         |none=>(af e ρ' ae).bind λy aF=>bv ((bN y).map some) aF
         |some cv=>(bv (truthy ae cv) ae).bind λb ae=>if b then (af e ρ' ae).bind λy aF=>bv ((bN y).map some) aF else .ok none ae) I.shown (c5 I.lk aa++[.busy])).bind λr ae=>
     bh m r ((bx I.lk I.base ae).take aa.length)
 |.call f es=>λK U=>(aU es K U).bind λvs aa=>(cf f vs aa).bind mv
 |.bi b m es=>λK U=>(aU es K U).bind λvs aa=>xT b m vs aa
 |.meth b o es=>λK U=>(af o K U).bind λx aa=>if sI b aa x then (aU es K aa).bind λvs ae=>Gb b x vs ae else .bad
 |.freeze e=>λK U=>(af e K U).bind λx aa=>K7 x aa
 |.isx k e=>λK U=>(af e K U).bind λx aa=>KI k x (aa)def aU:EL->Fm->ac->Res (List V)
 |.nil=>λ_ U=>.ok [] U
 |.cons e es=>λK U=>(af e K U).bind λx aa=>(aU es K aa).bind λxs ae=>.ok (x::xs) (ae)def iE(k:Bool):EL->Fm->ac->Res V
 |.nil=>λ_ _=>.bad
 |.cons e es=>λK U=>match es with
   |.nil=>af e K U
   |es=>(af e K U).bind λx aa=>(bv (truthy aa x) aa).bind λt aa=>if t=k then iE k es K aa else .ok x (aa)def dD:EL->Fm->ac->Res (Option V)
 |.nil=>λ_ U=>.ok none U
 |.cons e _=>λK U=>(af e K U).bind λx aa=>.ok (some x) (aa)def cA:It->Fm->ac->Res Items
 |.seq e=>λK U=>(af e K U).bind λx aa=>bv ((qQ x aa).map λp=>⟨p.1,p.1,p.2⟩) aa
 |.enum e=>λK U=>(af e K U).bind λx aa=>oc (jy x) (λl=>.ok ⟨kK l,[],none⟩ aa) .bad
 |.range e=>λK U=>(af e K U).bind λx aa=>oc (cH x) (λb=>if -100000<=b/\b<=100000 then .ok ⟨b8 0 b,[],none⟩ aa else .bad) .bad
 |.range2 a b=>λK U=>(af a K U).bind λx aa=>(af b K aa).bind λy ae=>b2 (cH x) (cH y) (λa b=>if (-100000<=a/\a<=100000)/\(-100000<=b/\b<=100000) then .ok ⟨b8 a b,[],none⟩ ae else .bad) .bad
end
mutual
def exec:S->Fm->ac->Res Out
 |.expr e=>λK U=>(af G cf e K U).bind λ_ aa=>.ok (.next K) aa
 |.asg t e=>λK U=>(af G cf e K U).bind λx aa=>bv ((Jg t x K).map Out.next) aa
 |.asgT l e=>λK U=>(af G cf e K U).bind λx aa=>oc (jy x) (λds=>if l.length=ds.length then .ok (.next (b7 l ds K)) aa else .bad) .bad
 |.put o i e=>λK U=>(af G cf e K U).bind λx aa=>(af G cf o K aa).bind λa ae=>(af G cf i K ae).bind λk aF=>oc (bN x) (λx=>b2 (uT a) (j3 k) (λn k=>oc (hY aF n) (λl=>if l.length < LIM then .ok (.next K) (aF.set n (.dct (eZ k x l))) else .bad) .bad) .bad) .bad
 |.ite c a b=>λK U=>(af G cf c K U).bind λx aa=>(bv (truthy aa x) aa).bind λt aa=>if t then execs a K aa else execs b K aa
 |.forr t it b=>λK U=>(cA G cf it K U).bind λI aa=>
     (ba (λx ρ' σ'=>match fe t x ρ' with
       |none=>.bad
       |some ρ''=>execs b ρ'' σ') I.shown K (c5 I.lk aa)).bind λo ae=>.ok o (bx I.lk I.base ae)
 |.ret e=>λK U=>(af G cf e K U).bind λx aa=>.ok (.ret x) aa
 |.pass=>λK U=>.ok (.next K) U
 |.stop=>λ_ _=>.bad
 |.calls t f es=>λK U=>(aU G cf es K U).bind λvs aa=>(cf f vs aa).bind λv ae=>jV t v K ae
 |.raise k es=>λK U=>(aU G cf es K U).bind λvs aa=>NP k vs aa
 |.tryS b hs=>λK U=>(execs b K U).bind λo aa=>match o with
   |.exc k ds=>kI cf hs k ds aa
   |o=>.ok o aa
 |.iteC f es i x b=>λK U=>(aU G cf es K U).bind λvs aa=>(cf f vs aa).bind λv ae=>oc (nH v) (λp=>.ok (.exc p.1 p.2) ae) ((af G cf (.cmp .ne (.idx (.call f es) i) x) K U).bind λy aa=>(bv (truthy aa y) aa).bind λt aa=>if t then execs b K aa else .ok (.next K) aa)def execs:SL->Fm->ac->Res Out
 |.nil=>λK U=>.ok (.next K) U
 |.cons s r=>λK U=>(exec s K U).bind λo aa=>match o with
   |.next bV=>execs r bV aa
   |.ret v=>.ok (.ret v) aa
   |.exc k ds=>.ok (.exc k ds) aa
end
end
structure Fn where
 name:Str
 np:Nat
 slots:SC
 ns:Nat
 body:SL
structure Prog where
 G:GD
 P:Nat->Option Fn
def aj(p:Prog):Nat->CF
 |0,_,_,_=>.bad
 |d+1,f,args,U=>match p.P f with
   |none=>.bad
   |some fn=>if args.length=fn.np then
       (execs p.G (aj p d) fn.body (args++List.replicate (fn.ns - fn.np) .un) U).bind λo aa=>nG U.length o aa
     else .bad
inductive X2{ta tb:Type}(P:ta->tb->Prop):Prop where
 |mk (a:ta) (b:tb) (h:P a b):X2 P
inductive X3{ta tb tc:Type}(P:ta->tb->tc->Prop):Prop where
 |mk (a:ta) (b:tb) (c:tc) (h:P a b c):X3 P
inductive X4{ta tb tc td:Type}(P:ta->tb->tc->td->Prop):Prop where
 |mk (a:ta) (b:tb) (c:tc) (d:td) (h:P a b c d):X4 P
inductive X5{ta tb tc td te:Type}(P:ta->tb->tc->td->te->Prop):Prop where
 |mk (a:ta) (b:tb) (c:tc) (d:td) (e:te) (h:P a b c d e):X5 P
inductive X6{ta tb tc td te tf:Type}(P:ta->tb->tc->td->te->tf->Prop):Prop where
 |mk (a:ta) (b:tb) (c:tc) (d:td) (e:te) (f:tf) (h:P a b c d e f):X6 P
inductive A3(pa pb pc:Prop):Prop where
 |mk (a:pa) (b:pb) (c:pc):A3 pa pb pc
inductive A4(pa pb pc pd:Prop):Prop where
 |mk (a:pa) (b:pb) (c:pc) (d:pd):A4 pa pb pc pd
inductive A5(pa pb pc pd pe:Prop):Prop where
 |mk (a:pa) (b:pb) (c:pc) (d:pd) (e:pe):A5 pa pb pc pd pe
inductive A6(pa pb pc pd pe pf:Prop):Prop where
 |mk (a:pa) (b:pb) (c:pc) (d:pd) (e:pe) (f:pf):A6 pa pb pc pd pe pf
theorem gj{Y:Type}{v:Y}{f:B->Y}{P:Y->Prop}(h:∃p,v=f p)(k:∀p,P (f p)):P v:=by obtain⟨p,e⟩:=h;exact e▸k (p)theorem y9{Y:Type}{v:Y}{f:B->γ->Y}{P:Y->Prop}(h:X2 λp q=>v=f p q)(k:∀p q,P (f p q)):P v:=by obtain⟨p,q,e⟩:=h;exact e▸k p (q)theorem xo{Y:Type}{v:Y}{f:B->Y}{Q:B->Prop}{P:Y->Prop}(h:∃p,v=f p/\Q p)(k:∀p,Q p->P (f p)):P v:=by obtain⟨p,e,q⟩:=h;exact e▸k p (q)theorem LT{Y:Type}{v:Y}{f:B->Y}{Q:B->Prop}{P:Y->Prop}(h:∃p,Q p/\v=f p)(k:∀p,Q p->P (f p)):P v:=by obtain⟨p,q,e⟩:=h;exact e▸k p (q)theorem iY{Y:Type}{v w:Y}{P:Y->Prop}(h:v=w)(k:P w):P v:=h▸k
variable {G:Prop}theorem kk(h:∀Uc:Prop,(G->Uc)->Uc):G:=h G (id)variable {r:Res B}theorem au{Y:Type}{k:B->ac->Res Y}{q:Res Y}(h:r=.ok a U)(h2:k a U=q):r.bind k=q:=by rw[h];exact h2
open PySem.Calls
noncomputable def ob{B:Type}(o:Option B)(f:B->Bool):Bool:=match o with
 |some a=>f a
 |none=>(false)noncomputable def cT{B:Type}(n m:Nat)(k:n=m->B):Option B:=if h:n=m then some (k h) else none
def fc(ex:Expr):Option (Str):=cT ex.ctorIdx 23 λe=>Expr.Name.elim (motive_1:=λ_=>Str) ex e λa0 _=>(a0)def AN(ex:Expr):Option (Expr×Str×Pos):=cT ex.ctorIdx 20 λe=>Expr.Attribute.elim (motive_1:=λ_=>Expr×Str×Pos) ex e λa0 a1 a2=>(a0,a1,a2)noncomputable def co (x:Str):Bool:=!(x==("__debug__":Str))&&!(x==("__classdict__":Str))noncomputable def j6:Nat->Str
 |0=>"TurnError"
 |1=>"NoPlace"
 |2=>"NoName"
 |3=>"Taken"
 |4=>"NoCall"
 |5=>"Unlike"
 |6=>"Clash"
 |_=>"ValueError"
noncomputable abbrev fR:List Value:=[.type "ValueError",.type "Exception",.type "BaseException",.type "object"]def d7(k:Nat):List Value:=if k=0 then fR else .ref (KA 0)::fR
def fh:List Str:=["__getattribute__","__getattr__","__class__","__setattr__",j5,dG]def yt(ex:Stmt):Option (List Expr×Expr):=cT ex.ctorIdx 5 λe=>Stmt.Assign.elim (motive_2:=λ_=>List Expr×Expr) ex e λa0 a1 _=>(a0,a1)noncomputable def ki(a:Arguments):Bool:=a.posonlyargs.isEmpty&&a.vararg.isNone&&a.kwonlyargs.isEmpty&&a.kw_defaults.isEmpty&&a.kwarg.isNone&&a.defaults.isEmpty
def IZ(n x:Str)(v:Expr):Bool:=ob (AN v) λq=>ob (fc q.1) λn'=>decide (n'=n)&&decide (q.2.1=x)def Ed(p f n:Str)(st:Stmt):Bool:=ob (yt st) λq=>ob (one q.1) λt=>IZ p f t&&ob (fc q.2) λm=>decide (m=n)noncomputable def EM:FuncBody->Option (List Stmt)
 |.stmts b=>some b
 |_=>(none)noncomputable def C9:List Str->Option (Str×Str×Str)
 |[a,b,c]=>some (a,b,c)
 |_=>(none)def OY(fd:FuncData)(p0 p1 p2:Str)(b:List Stmt):Bool:=ob (two b) λq=>Ed p0 j5 p1 q.1&&Ed p0 dG p2 (q.2)def Pq(fd:FuncData)(p0 p1 p2:Str):Bool:=([p0,p1,p2].all λp=>decide (fd.scope.names.lookup p=some .local)&&co p)&&decide (p1≠p0/\p2≠p0/\p2≠p1)noncomputable def Pp(h:Heap)(fd:FuncData):Bool:=decide (fd.globals=mainGlobals)&&(fd.closure.isEmpty&&(decide (fd.defaults=.none)&&(decide (fd.kwdefaults=.none)&&(fd.annotations.isNone&&(decide (fd.closureTuple=.none)&&(decide (fd.builtins=builtinsNs)&&(h.codeRecOk fd.code fd.qualname&&(decide (fd.scope.kind=.function)&&(!fd.scope.isCoroutine&&!fd.scope.isGenerator)))))))))def OX(h:Heap)(fd:FuncData):Bool:=ki fd.params&&(Pp h fd&&(ob (EM fd.body) λb=>ob (C9 (fd.params.args.map (·.arg))) λp=>OY fd p.1 p.2.1 p.2.2 b&&Pq fd p.1 p.2.1 p.2.2))def KR (h:Heap) (ns:Addr):Bool:=match h.fnAt ns "__init__" with
 |some (_,o,fd)=>decide (o.cls=.type "function")&&OX h fd
 |none=>(false)def IE(h:Heap)(k:Nat):Bool:=match h.clsAt mainGlobals (j6 k) with
 |some (a,o,cd)=>decide (a=KA k)&&o.cls==.type "type"&&cd.mro==.ref (KA k)::d7 k&&!cd.hasDel&&o.slots.size==6&&o.slots[4]?==some (some (.builtin "ValueError.__new__"))&&h.isNs cd.ns&&fh.all (λn=>(h.nsMap cd.ns n).isNone)&&(decide (k=6)||(h.nsMap cd.ns "__init__").isNone)&&(!decide (k=6)||(cd.hasDict&&KR h cd.ns))
 |none=>(false)def L7(h:Heap):Bool:=(List.range 7).all (IE h)
set_option maxRecDepth 99999
open PySem.W PyProof.Rows
def JZ(p:Program)(w:World)(N:Nat)(dn:Shared):Option Shared:=
 cond (dn.heap.isNs mainGlobals&&dn.gens.size==0) ((Fast.tw14082659384304107361 Fast.tw14364793385576792824 p w dn.heap.objs.size (dn.heap.nsMap mainGlobals "__annotations__") N dn (topStub p)).bind λai=>cond (staticsOk (importedModules p.main.body) dn.heap ai.heap&&namesBound p ai.heap&&gensDone ai&&laidKept dn.heap ai.heap) (some ai) none) none
def Ai(p:Program)(w:World)(N:Nat):Option Shared:=
 ((Fast.tw10274390034422433532 Fast.tw14364793385576792824 (opening p) w N (Fast.tw1435165496053646825 (opening p)).1 (Fast.tw1435165496053646825 (opening p)).2).bind (Fast.tw14289696077712309145 p)).bind (JZ p w N)
theorem GS(p:Program)(w:World)(N:Nat):topFrom treeTable p w N=JZ p w N:=by
 funext s;unfold topFrom JZ;rw[Fast.te14082659384304107361,Fast.te14364793385576792824];cases (s.heap.isNs mainGlobals&&s.gens.size==0) with
 |false=>rfl
 |true=>refine congrArg (Option.bind _) (funext λai=>?_);cases (staticsOk (importedModules p.main.body) s.heap ai.heap&&namesBound p ai.heap&&gensDone ai&&laidKept s.heap ai.heap)<;>rfl
theorem DJ(p:Program)(w:World)(N:Nat):openEnds treeTable p w N=Ai p w N:=by unfold openEnds Ai fencedOpening;rw[GS,Fast.te14289696077712309145,Fast.te10274390034422433532,Fast.te1435165496053646825,Fast.te14364793385576792824]noncomputable def q11:Program:=PySem.W.view PySem.Challenge.pw_uf010014_11 [1,2,3,4,5,6,7,9,10,11,12,13,15,16,17,18,19,20,21,22,24,25,26,27,28,30,31,32,33,34,35,36,37,38,39,40,41,42,44,45,46,47,48,49,50,51,52,53,54,55,56,57,58,59,60,61,62,63,64,65,66,67,68,69,70,71,72,73,74,75,76,77,78,79,80,81]
theorem said11:OpenLaw.wellSaid PySem.Challenge.rw_uf010014_11=true:=by
 rw[Fast.te9446332074065402090]
 kernel_rfl
theorem Oa{S A Ud C D F Ub:Type}{o:Option S}{f:S->A×Ud×C×D×F}{g:S->Ub}{a:A}{b:Ud}{c:C}{d:D}{e:F}{y:Ub}(h1:o.map (λs=>((f s).1,(f s).2.1,(f s).2.2.1,(f s).2.2.2.1))=some (a,b,c,d))(h2:o.map (λs=>((f s).2.2.2.2,g s))=some (e,y)):o.map (λs=>(f s,g s))=some ((a,b,c,d,e),y):=by
 cases o with
 |none=>injection h1
 |some s=>have h:=Option.some.inj h1;have k:=Option.some.inj h2;exact congrArg some (Prod.ext (Prod.ext (congrArg (·.1) h) (Prod.ext (congrArg (·.2.1) h) (Prod.ext (congrArg (·.2.2.1) h) (Prod.ext (congrArg (·.2.2.2) h) (congrArg (·.1) k))))) (congrArg (·.2) k))def xt11(s:Shared):Bool:=(xlAt q11 [] s&&recOk (RowW.records (OpenRow.toRowW (OpenLaw.row PySem.Challenge.rw_uf010014_11))) s)&&L7 (s.heap)noncomputable abbrev Dj(s:Shared):=Fast.tw4187177175401517315 q11 [] (importedModules PySem.Challenge.pw_uf010014_11.main.body) xt11 true (s)theorem M1(w:World):(Ai PySem.Challenge.pw_uf010014_11 w 6000).map (λs=>((Dj s).1,(Dj s).2.1,(Dj s).2.2.1,(Dj s).2.2.2.1))=some (expectedOf q11,bltViewBooted,true,true):=by kernel_rfl
theorem M0(w:World):(Ai PySem.Challenge.pw_uf010014_11 w 6000).map (λs=>((Dj s).2.2.2.2,Hook.obs Hook.none s))=some ((pinGoodD (drecsOf q11),plainGoodE q11 (looseW q11 []),plainGoodD q11 [],wideGood q11,clsGoodW q11 []),Hook.val Hook.none w):=by kernel_rfl
theorem left11:LeftO PySem.Challenge.pw_uf010014_11 q11 [] xt11 (Hook.obs Hook.none) (Hook.val Hook.none) 6000:=λw=>by rw[DJ,Fast.te4187177175401517315];exact Oa (M1 w) (M0 w)variable {I:Items}{x:PyData}{σ':ac}{o:Option B}{r:Res γ}{c:γ}
section
variable (G:GD)(cf:CF)(K:Fm)(U:ac)theorem oi{B:Sort _}{a b:B}(h:a=b):a=b:=(h)theorem tA{Y:Type}(a:B)(U:ac)(f:B->ac->Res Y):(Res.ok a U).bind f=f a U:=oi (rfl)noncomputable def MZ(o:Option V)(U:ac):Res V:=match o with
 |some .un=>.bad
 |some v=>.ok v U
 |none=>.bad
theorem Hg{o:Option V}{U:ac}{c:V}(h:MZ o U=.ok c σ'):o=some c/\c≠.un/\σ'=U:=by
 cases o with
 |none=>injection h
 |some v=>cases v<;>first | ((injection h with e f;subst e;subst f);exact⟨rfl,(λq=>nomatch q),rfl⟩) | injection h
theorem Fh(i:Nat):af G cf (.var i) K U=MZ K[i]? U:=oi (rfl)theorem H5(g:Nat):af G cf (.glob g) K U=bv ((G g).map V.d) U:=oi (rfl)theorem Ln(op:BOp)(m:Bool)(a b:E):af G cf (.bin op m a b) K U=(af G cf a K U).bind λx aa=>(af G cf b K aa).bind λy ae=>dj op m x y ae:=oi (rfl)def N9(x:V)(U:ac):Res V:=oc (cH x) (λi=>.ok (.d (.int (-i))) U) .bad
theorem Ll(a:E):af G cf (.neg a) K U=(af G cf a K U).bind λx aa=>N9 x aa:=oi (rfl)theorem Fi(a:E):af G cf (.not a) K U=(af G cf a K U).bind λx aa=>bv ((truthy aa x).map λb=>V.d (.bool (!b))) aa:=oi (rfl)noncomputable def GX(k:Bool)(t:Bool)(a b:Res V):Res V:=if t=k then a else b
theorem vj(bD fW:COp)(a b c:E):af G cf (.cmp2 bD fW a b c) K U=(af G cf a K U).bind λx aa=>(af G cf b K aa).bind λy ae=>(bv (bC bD x y ae) ae).bind λt ae=>GX true t ((af G cf c K ae).bind λz aF=>bv ((bC fW y z aF).map λb=>V.d (.bool b)) aF) (.ok (.d (.bool false)) ae):=oi (rfl)theorem Ff:aU G cf .nil K U=.ok [] U:=oi (rfl)theorem H2(e:E)(es:EL):aU G cf (.cons e es) K U=(af G cf e K U).bind λx aa=>(aU G cf es K aa).bind λxs ae=>.ok (x::xs) ae:=oi (rfl)theorem Lk(e:E):cA G cf (.seq e) K U=(af G cf e K U).bind λx aa=>bv ((qQ x aa).map λp=>⟨p.1,p.1,p.2⟩) aa:=oi (rfl)theorem H4(e:E):cA G cf (.enum e) K U=(af G cf e K U).bind λx aa=>oc (jy x) (λl=>.ok ⟨kK l,[],none⟩ aa) .bad:=oi (rfl)def yu(x:V)(U:ac):Res Items:=oc (cH x) (λb=>if -100000<=b/\b<=100000 then .ok ⟨b8 0 b,[],none⟩ U else .bad) .bad
theorem BG{x:V}{U:ac}(h:yu x U=.ok I σ'):∃b:Int,x=.d (.int b)/\(-100000<=b/\b<=100000)/\I=⟨b8 0 b,[],none⟩/\σ'=U:=by
 unfold yu at h;rcases jj (cH x) (λb=>if -100000<=b/\b<=100000 then Res.ok (⟨b8 0 b,[],none⟩:Items) U else .bad) .bad with⟨b,hb,e⟩|e
 . rw[e]at h;by_cases hc:-100000<=b/\b<=100000
   . rw[if_pos hc]at h;injection h with e f;subst e;subst f;exact⟨b,c6 hb,hc,rfl,rfl⟩
   . rw[if_neg hc]at h;injection h
 . rw[e]at h;injection h
def uF(x y:V)(U:ac):Res Items:=b2 (cH x) (cH y) (λa b=>if (-100000<=a/\a<=100000)/\(-100000<=b/\b<=100000) then .ok ⟨b8 a b,[],none⟩ U else .bad) .bad
theorem yv{x y:V}{U:ac}(h:uF x y U=.ok I σ'):∃a b:Int,x=.d (.int a)/\y=.d (.int b)/\((-100000<=a/\a<=100000)/\(-100000<=b/\b<=100000))/\I=⟨b8 a b,[],none⟩/\σ'=U:=by
 unfold uF at h;rcases nX (cH x) (cH y) (λa b=>if (-100000<=a/\a<=100000)/\(-100000<=b/\b<=100000) then Res.ok (⟨b8 a b,[],none⟩:Items) U else .bad) .bad with⟨a,b,ha,hb,e⟩|e
 . rw[e]at h;by_cases hc:(-100000<=a/\a<=100000)/\(-100000<=b/\b<=100000)
   . rw[if_pos hc]at h;injection h with e f;subst e;subst f;exact⟨a,b,c6 ha,c6 hb,hc,rfl,rfl⟩
   . rw[if_neg hc]at h;injection h
 . rw[e]at h;injection h
theorem Cd(y7 lQ:E):cA G cf (.range2 y7 lQ) K U=(af G cf y7 K U).bind λx aa=>(af G cf lQ K aa).bind λy ae=>uF x y ae:=oi (rfl)theorem Fg(e:E):cA G cf (.range e) K U=(af G cf e K U).bind λx aa=>yu x aa:=oi rfl
theorem iz{f:B->Res γ}(h:oc o f .bad=.ok c σ'):∃a,o=some a/\f a=.ok c σ':=by
 cases o with
 |none=>injection h
 |some a=>exact⟨a,rfl,h⟩theorem Jj{Y:Type}{p:Option Y}{f:B->Y->Res γ}(h:b2 o p f .bad=.ok c σ'):∃a b,o=some a/\p=some b/\f a b=.ok c σ':=by obtain⟨a,ha,h⟩:=iz h;obtain⟨b,hb,h⟩:=iz h;exact⟨a,b,ha,hb,h⟩
theorem AF{c:Prop}[Decidable c]{x:γ}(h:(if c then r else .bad)=.ok x σ'):c/\r=.ok x σ':=by
 by_cases hc:c
 . rw[if_pos hc]at h;exact⟨hc,h⟩
 . rw[if_neg hc]at h;injection h
theorem Jv(e:E):exec G cf (.expr e) K U=(af G cf e K U).bind λv aa=>.ok (.next K) aa:=oi (rfl)theorem Jw(l:List Nat)(e:E):exec G cf (.asgT l e) K U=(af G cf e K U).bind λx aa=>oc (jy x) (λds=>if l.length=ds.length then .ok (.next (b7 l ds K)) aa else .bad) .bad:=oi (rfl)theorem L5(e:E):exec G cf (.ret e) K U=(af G cf e K U).bind λx aa=>.ok (.ret x) aa:=oi (rfl)def Mu(x a k:V)(K:Fm)(aF:ac):Res Out:=oc (bN x) (λx=>b2 (uT a) (j3 k) (λn k=>oc (hY aF n) (λl=>if l.length < LIM then .ok (.next K) (aF.set n (.dct (eZ k x l))) else .bad) .bad) .bad) .bad
theorem GU{k:Str}{l:List (Str×PyData)}(hc:U[n]?=some (.dct l))(hl:l.length < LIM):Mu (.d x) (.loc n) (.d (.str k)) K U=.ok (.next K) (U.set n (.dct (eZ k x l))):=by show oc (hY U n) (λl=>if l.length < LIM then Res.ok (Out.next K) (U.set n (.dct (eZ k x l))) else .bad) .bad=_;rw[kM hc];exact if_pos (hl)theorem L6(o i e:E):exec G cf (.put o i e) K U=(af G cf e K U).bind λx aa=>(af G cf o K aa).bind λa ae=>(af G cf i K ae).bind λk aF=>Mu x a k K aF:=oi (rfl)def Di(G:GD)(cf:CF)(r:SL)(o:Out)(U:ac):Res Out:=match o with
 |.next bV=>execs G cf r bV U
 |.ret v=>.ok (.ret v) U
 |.exc k ds=>.ok (.exc k ds) (U)theorem Ge(s:S)(r:SL):execs G cf (.cons s r) K U=(exec G cf s K U).bind λo aa=>Di G cf r o aa:=oi (rfl)def MR(f:PyData->Fm->ac->Res Out)(xs:List PyData)(o:Out)(U:ac):Res Out:=match o with
 |.next bV=>ba f xs bV U
 |.ret v=>.ok (.ret v) U
 |.exc k ds=>.ok (.exc k ds) (U)theorem Kv(f:PyData->Fm->ac->Res Out):ba f [] K U=.ok (.next K) U:=oi (rfl)theorem Hh(f:PyData->Fm->ac->Res Out)(x:PyData)(xs:List PyData):ba f (x::xs) K U=(f x K U).bind λo aa=>MR f xs o aa:=oi rfl
end
theorem Ij(f:PyData->ac->Res (Option PyData))(x:PyData)(xs:List PyData)(U:ac):iH f (x::xs) U=(f x U).bind λo aa=>(iH f xs aa).bind λr ae=>.ok (o.toList++r) ae:=oi (rfl)variable {y:Int}
section
variable (U:ac)(m:Bool)theorem Ji{x:Int}(h:tJ x y=true):dj .mul m (.d (.int x)) (.d (.int y)) U=.ok (.d (.int (x * y))) U:=if_pos (h)theorem ee{x:Int}(h:0 < y):dj .mod m (.d (.int x)) (.d (.int y)) U=.ok (.d (.int (x % y))) U:=if_pos (h)theorem nK{a b:PyData}(h:min a.depth b.depth<=64):No a b=some (a.eqv b):=if_pos (h)theorem xN(x y:Str):bC .eq (.d (.str x)) (.d (.str y)) U=some (decide (x=y)):=by refine(nK (a:=.str x) (b:=.str y) (P5 rfl)).trans ?_;exact oi (rfl)theorem Nt(x y:Str):bC .ne (.d (.str x)) (.d (.str y)) U=some (!decide (x=y)):=by have h:LU (.d (.str x)) (.d (.str y))=some (decide (x=y)):=xN U x y;have e:bC .ne (.d (.str x)) (.d (.str y)) U=(LU (.d (.str x)) (.d (.str y))).map (!·):=rfl;rw[e,h];rfl
end
variable {i:Int}{l:List PyData}{k:Nat}{lo hi:Option V}
section
variable (U:ac)(m:Bool)theorem AG(l:List PyData)(i:Int):cK (.d (.tuple l)) (.d (.int i)) U=(index l.length i).bind λk=>(l[k]?).map V.d:=oi rfl
theorem df(l:List PyData)(k:Nat):cK (.d (.tuple l)) (.d (.int (k:Int))) U=(l[k]?).map V.d:=by
 rw[AG];unfold index;rw[if_pos (Qg k)];by_cases h:k < l.length
 . rw[if_pos (Qp.mpr h)];rfl
 . rw[if_neg (λq=>h (Qp.mp q)),Rf (QD h)];(rfl)theorem Hs(x:Str)(i:Int):cK (.d (.str x)) (.d (.int i)) U=(index (aG x).length i).bind λk=>((aG x)[k]?).map λc=>V.d (.str (aD [c])):=oi rfl
theorem jn(h0:0<=i):cK (.d (.list l)) (.d (.int i)) U=(l[i.toNat]?).map V.d:=if_pos (h0)variable {U}{n:Nat}theorem gV(h:U[n]?=some (.lst l)):aQ U (.loc n)=some l:=jk (h)theorem gJ{l:List (Str×PyData)}(h:U[n]?=some (.dct l)):iF U (.loc n)=some l:=kM (h)theorem DT(h:U[n]?=some (.lst l)):qQ (.loc n) U=some (l,some n):=by show (jl U n).map (λl=>(l,some n))=_;rw[jk h];(rfl)theorem HV(x y:Str):(PyData.str x).eqv (.str y)=decide (x=y):=oi rfl
theorem Ox(a b:V):bC .isIn a b U=bC.inV a b U:=oi (rfl)theorem AY(a b:V):bC .notIn a b U=(bC.inV a b U).map (!·):=oi (rfl)theorem rF(x:Str)(l:List PyData):w0 (.str x) l=some (l.any λy=>y.eqv (.str x)):=if_pos (iv (RM _ _) (PR _))theorem KO(x:Str)(h:U[n]?=some (.lst l)):bC.inV (.d (.str x)) (.loc n) U=some (l.any λy=>y.eqv (.str x)):=by show oc (aQ U (.loc n)) (λl=>w0 (.str x) l) _=_;rw[gV h];exact rF x (l)theorem Hr(x:Str):bC.inV (.d (.str x)) (.d (.list l)) U=some (l.any λy=>y.eqv (.str x)):=rF x (l)theorem KM(x:Str):bC.inV (.d (.str x)) (.d (.tuple l)) U=some (l.any λy=>y.eqv (.str x)):=rF x (l)theorem LE(h:U[n]?=some (.lst l))(hl:l.length < LIM)(x:PyData):Gb .append (.loc n) [.d x] U=.ok (.d .none) (U.set n (.lst (l++[x]))):=by show oc (jl U n) (λl=>if l.length < LIM then Res.ok (V.d .none) (U.set n (.lst (l++[x]))) else .bad) .bad=_;rw[jk h];exact if_pos (hl)theorem Ca{y:List PyData}{b:V}(h:U[n]?=some (.lst l))(hb:aQ U b=some y)(hl:l.length+y.length<=LIM):Gb .extend (.loc n) [b] U=.ok (.d .none) (U.set n (.lst (l++y))):=by show b2 (jl U n) (aQ U b) (λl y=>if l.length+y.length<=LIM then Res.ok (V.d .none) (U.set n (.lst (l++y))) else .bad) .bad=_;rw[jk h,hb];exact if_pos (hl)theorem Bo{x y:List (Str×PyData)}(h:U[n]?=some (.dct x))(hk:U[k]?=some (.dct y))(hn:n≠k)(hl:x.length+y.length<=LIM):Gb .update (.loc n) [.loc k] U=.ok (.d .none) (U.set n (.dct (eH x y))):=by show (if n≠k then b2 (hY U n) (hY U k) (λx y=>if x.length+y.length<=LIM then Res.ok (V.d .none) (U.set n (.dct (eH x y))) else .bad) .bad else .bad)=_;rw[if_pos hn,kM h,kM hk];exact if_pos (hl)theorem wR(h:U[n]?=some (.lst l)):sI .append U (.loc n)=true:=by show (aQ U (.loc n)).isSome=true;rw[gV h];(rfl)theorem LA{a b:List PyData}(h:a.length+b.length<=LIM)(m:Bool)(U:ac):dj .add m (.d (.list a)) (.d (.list b)) U=bh m (a++b) U:=if_pos h
theorem Lz{a b:List PyData}(h:a.length+b.length<=LIM)(m:Bool)(U:ac):dj .add m (.d (.tuple a)) (.d (.tuple b)) U=.ok (.d (.tuple (a++b))) U:=if_pos (h)theorem Nz{x y:Str}(h:x.cps.size+y.cps.size<=LIM)(m:Bool)(U:ac):dj .add m (.d (.str x)) (.d (.str y)) U=.ok (.d (.str (aD (aG x++aG y)))) U:=if_pos (h)theorem Ly{y:Str}{n:Int}(h:0<=n/\n<=1000/\y.cps.size<=1000)(m:Bool)(U:ac):dj .mul m (.d (.str y)) (.d (.int n)) U=.ok (.d (.str (aD (List.replicate n.toNat (aG y)).flatten))) U:=if_pos (h)theorem zY(m:Bool)(x:Str){l h:Option Int}(hl:cO lo=some l)(hh:cO hi=some h)(U:ac):gq m (.d (.str x)) lo hi U=.ok (.d (.str (aD (aC (aG x) l h)))) U:=by show b2 (cO lo) (cO hi) (λl h=>Res.ok (V.d (.str (aD (aC (aG x) l h)))) U) .bad=_;rw[hl,hh];(rfl)theorem K6(h:U[n]?=some (.lst l)):K7 (.loc n) U=.ok (.d (.list l)) (U.set n .gone):=by show oc (jl U n) (λl=>Res.ok (V.d (.list l)) (U.set n .gone)) .bad=_;rw[jk h];rfl
end
variable {op:BOp}{cf:CF}{a c e e':E}{es:EL}{K ρ':Fm}{G:GD}{it:It}{h:List Hd}{xs ds base:List PyData}{vs:List V}{i:Nat}{o:Out}{f:PyData->Fm->ac->Res Out}{s:S}{b r:SL}{ae aa:ac}{t:Tgt}{v:V}{ps:List B}
section
variable {aF:ac}theorem LP(h:nH v=none):mv v U=.ok v U:=by unfold mv;rw[h]theorem aM{f:Nat}{v:PyData}(h0:aU G cf es K U=.ok vs aa)(h:cf f vs aa=.ok (.d v) ae):af G cf (.call f es) K U=.ok (.d v) ae:=au h0 (au h rfl)theorem jX{m:Bool}{b:E}{x y:V}{q:Res V}(h1:af G cf a K U=.ok x aa)(h2:af G cf b K aa=.ok y ae)(h3:dj op m x y ae=q):af G cf (.bin op m a b) K U=q:=au h1 (au h2 h3)theorem cq{op:COp}{b:E}{x y:V}{t:Bool}(h1:af G cf a K U=.ok x aa)(h2:af G cf b K aa=.ok y ae)(h3:bC op x y ae=some t):af G cf (.cmp op a b) K U=.ok (.d (.bool t)) ae:=au h1 (au h2 (by rw[h3];rfl))theorem JA{t:Bool}(h1:af G cf a K U=.ok (.d (.bool t)) aa):af G cf (.not a) K U=.ok (.d (.bool (!t))) aa:=au h1 rfl
theorem Mb{b:E}{q:Res V}(hc:af G cf c K U=.ok (.d (.bool true)) aa)(h:af G cf a K aa=q):af G cf (.ite c a b) K U=q:=au hc (h)theorem Mc{b:E}{q:Res V}(hc:af G cf c K U=.ok (.d (.bool false)) aa)(h:af G cf b K aa=q):af G cf (.ite c a b) K U=q:=au hc (h)theorem sX{q:Res V}(h0:aU G cf es K U=.ok vs aa)(h:xv vs aa=q):af G cf (.tup es) K U=q:=au h0 (h)theorem bZ{i:E}{x y:V}(h1:af G cf a K U=.ok x aa)(h2:af G cf i K aa=.ok y ae)(h3:cK x y ae=some v):af G cf (.idx a i) K U=.ok v ae:=au h1 (au h2 (by rw[h3];rfl))theorem qp{m:Bool}{lo hi:EL}{x:V}{l h:Option V}{q:Res V}(h1:af G cf a K U=.ok x aa)(h2:dD G cf lo K aa=.ok l ae)(h3:dD G cf hi K ae=.ok h aF)(h4:gq m x l h aF=q):af G cf (.slc m a lo hi) K U=q:=au h1 (au h2 (au h3 h4))theorem JC{b:Bi}{m:Bool}{q:Res V}(h0:aU G cf es K U=.ok vs aa)(h:xT b m vs aa=q):af G cf (.bi b m es) K U=q:=au h0 h
theorem Md{x:V}{q:Res V}(h1:af G cf e K U=.ok x aa)(h:K7 x aa=q):af G cf (.freeze e) K U=q:=au h1 (h)theorem d0{x:V}{xs:List V}(h1:af G cf e K U=.ok x aa)(h2:aU G cf es K aa=.ok xs ae):aU G cf (.cons e es) K U=.ok (x::xs) ae:=au h1 (au h2 rfl)theorem iB{x:V}(h1:af G cf e K U=.ok x aa):aU G cf (.cons e .nil) K U=.ok [x] aa:=d0 h1 (rfl)theorem Ap{x:V}(h1:af G cf e K U=.ok x aa):dD G cf (.cons e .nil) K U=.ok (some x) aa:=au h1 (rfl)theorem qq{q:Res V}(h1:af G cf e K U=.ok (.d (.bool true)) aa)(h2:af G cf (.bop true (.cons e' es)) K aa=q):af G cf (.bop true (.cons e (.cons e' es))) K U=q:=au h1 (h2)theorem jw(h1:af G cf e K U=.ok (.d (.bool false)) aa):af G cf (.bop true (.cons e (.cons e' es))) K U=.ok (.d (.bool false)) aa:=au h1 (rfl)theorem C0{q:Res V}(h1:af G cf e K U=.ok (.d (.bool false)) aa)(h2:af G cf (.bop false (.cons e' es)) K aa=q):af G cf (.bop false (.cons e (.cons e' es))) K U=q:=au h1 (h2)theorem Ma(h1:af G cf e K U=.ok (.d (.bool true)) aa):af G cf (.bop false (.cons e (.cons e' es))) K U=.ok (.d (.bool true)) aa:=au h1 (rfl)theorem cN{k:Bool}{q:Res V}(h:af G cf e K U=q):af G cf (.bop k (.cons e .nil)) K U=q:=h
theorem C1{a b:Bool}(h1:af G cf e K U=.ok (.d (.bool a)) U)(h2:a=false->af G cf (.bop false (.cons e' es)) K U=.ok (.d (.bool b)) U):af G cf (.bop false (.cons e (.cons e' es))) K U=.ok (.d (.bool (a||b))) U:=by
 cases a with
 |true=>exact Ma h1
 |false=>exact C0 h1 (h2 rfl)
theorem lU{a b:Bool}(h1:af G cf e K U=.ok (.d (.bool a)) U)(h2:a=true->af G cf (.bop true (.cons e' es)) K U=.ok (.d (.bool b)) U):af G cf (.bop true (.cons e (.cons e' es))) K U=.ok (.d (.bool (a&&b))) U:=by
 cases a with
 |true=>exact qq h1 (h2 rfl)
 |false=>exact jw (h1)theorem Gk{t t':Bool}(h:af G cf e K U=.ok (.d (.bool t)) aa)(q:t=t'):af G cf e K U=.ok (.d (.bool t')) aa:=q▸h
theorem kh(h:af G cf e K U=.ok v σ'):exec G cf (.asg (.var i) e) K U=.ok (.next (K.set i v)) σ':=au h (rfl)theorem uC{t:RT}{f:Nat}{q:Res Out}(h0:aU G cf es K U=.ok vs aa)(h:cf f vs aa=.ok v ae)(h2:jV t v K ae=q):exec G cf (.calls t f es) K U=q:=au h0 (au h h2)theorem Ds(h1:execs G cf b K U=.ok (.ret v) aa):exec G cf (.tryS b h) K U=.ok (.ret v) aa:=au h1 (rfl)theorem yo{q:Res Out}(h1:execs G cf b K U=.ok (.exc k ds) aa)(h2:kI cf h k ds aa=q):exec G cf (.tryS b h) K U=q:=au h1 (h2)theorem GF{f:Nat}{i x:E}(h0:aU G cf es K U=.ok vs aa)(h:cf f vs aa=.ok (.exc k ds) ae):exec G cf (.iteC f es i x b) K U=.ok (.exc k ds) ae:=au h0 (au h rfl)theorem Du{f:Nat}{i x:E}{d:PyData}{t:Bool}{q:Res Out}(h0:aU G cf es K U=.ok vs aa)(h:cf f vs aa=.ok (.d d) ae)(h1:af G cf (.cmp .ne (.idx (.call f es) i) x) K U=.ok (.d (.bool t)) aa)(h2:(if t then execs G cf b K aa else .ok (.next K) aa)=q):exec G cf (.iteC f es i x b) K U=q:=au h0 (au h (au h1 h2))theorem Dt(h:af G cf e K U=.ok v σ'):exec G cf (.ret e) K U=.ok (.ret v) σ':=au h (rfl)theorem IO{o i:E}{k:Str}{l:List (Str×PyData)}(h1:af G cf e K U=.ok (.d x) aa)(h2:af G cf o K aa=.ok (.loc n) ae)(h3:af G cf i K ae=.ok (.d (.str k)) aF)(hc:aF[n]?=some (.dct l))(hl:l.length < LIM):exec G cf (.put o i e) K U=.ok (.next K) (aF.set n (.dct (eZ k x l))):=au h1 (au h2 (au h3 (GU K aF hc hl)))theorem IP{a:SL}{q:Res Out}(h:af G cf c K U=.ok (.d (.bool true)) aa)(h2:execs G cf a K aa=q):exec G cf (.ite c a b) K U=q:=au h (h2)theorem Mo{a:SL}{q:Res Out}(h:af G cf c K U=.ok (.d (.bool false)) aa)(h2:execs G cf b K aa=q):exec G cf (.ite c a b) K U=q:=au h (h2)theorem aT{q:Res Out}(h:exec G cf s K U=.ok (.next ρ') aa)(h2:execs G cf r ρ' aa=q):execs G cf (.cons s r) K U=q:=au h (h2)theorem IS(h:exec G cf s K U=.ok (.exc k ds) aa):execs G cf (.cons s r) K U=.ok (.exc k ds) aa:=au h (rfl)theorem lZ(h:exec G cf s K U=.ok (.ret v) aa):execs G cf (.cons s r) K U=.ok (.ret v) aa:=au h (rfl)theorem uG{a:SL}{q:Res Out}(h:af G cf c K U=.ok (.d (.bool false)) aa)(h2:execs G cf r K aa=q):execs G cf (.cons (.ite c a .nil) r) K U=q:=aT (Mo h rfl) (h2)theorem aZ{x:V}(h:af G cf e K U=.ok x aa)(ho:qQ x aa=some (xs,none)):cA G cf (.seq e) K U=.ok ⟨xs,xs,none⟩ aa:=au h (by rw[ho];rfl)theorem iC{b:Int}(h:af G cf e K U=.ok (.d (.int b)) aa)(hb:-100000<=b/\b<=100000):cA G cf (.range e) K U=.ok ⟨b8 0 b,[],none⟩ aa:=au h (if_pos hb)theorem rG{a b:Int}(h:af G cf e K U=.ok (.d (.int a)) aa)(h':af G cf e' K aa=.ok (.d (.int b)) ae)(hb:(-100000<=a/\a<=100000)/\(-100000<=b/\b<=100000)):cA G cf (.range2 e e') K U=.ok ⟨b8 a b,[],none⟩ ae:=au h (au h' (if_pos hb))theorem oH(h:af G cf e K U=.ok (.d (.tuple l)) aa):cA G cf (.enum e) K U=.ok ⟨kK l,[],none⟩ aa:=au h rfl
def aL(G:GD)(cf:CF)(t:Tgt)(b:SL):PyData->Fm->ac->Res Out:=λx ρ' σ'=>match fe t x ρ' with
 |none=>.bad
 |some ρ''=>execs G cf b ρ'' (σ')theorem a7(hI:cA G cf it K U=.ok ⟨xs,base,none⟩ aa)(hl:ba (aL G cf t b) xs K aa=.ok o ae):exec G cf (.forr t it b) K U=.ok o ae:=au hI (au (a:=o) (U:=ae) hl rfl)theorem aP{q:Res Out}(h:execs G cf b (K.set i (.d x)) U=q):aL G cf (.var i) b x K U=q:=(h)theorem d8{l:List Nat}{q:Res Out}(hl:l.length=ds.length)(h:execs G cf b (b7 l ds K) U=q):aL G cf (.tup l) b (.tuple ds) K U=q:=by have e:fe (.tup l) (.tuple ds) K=some (b7 l ds K):=if_pos hl;unfold aL;exact e▸h
theorem a6{q:Res Out}(h:f x K U=.ok (.next ρ') aa)(h2:ba f xs ρ' aa=q):ba f (x::xs) K U=q:=au h (h2)theorem Eg(h:f x K U=.ok (.exc k ds) aa):ba f (x::xs) K U=.ok (.exc k ds) aa:=au h (rfl)theorem jJ(h:f x K U=.ok (.ret v) aa):ba f (x::xs) K U=.ok (.ret v) aa:=au h (rfl)theorem Eh(φ:B->PyData)(P:List B->Fm->ac->Prop)(h:∀x xs K U,P (x::xs) K U->X2 λρ' σ'=>f (φ x) K U=.ok (.next ρ') σ'/\P xs ρ' σ'):∀xs K U,P xs K U->X2 λρ' σ'=>ba f (xs.map φ) K U=.ok (.next ρ') σ'/\P [] ρ' σ'
 |[]=>@λK U hp=>⟨K,U,rfl,hp⟩
 |x::xs=>@λK U hp=>by obtain⟨bV,aa,e,hp⟩:=h x xs K U hp;obtain⟨qi,ae,e2,hp⟩:=Eh φ P h xs bV aa hp;exact⟨qi,ae,a6 e e2,hp⟩def jS(G:GD)(cf:CF)(t:Tgt)(c:EL)(e:E)(K:Fm):PyData->ac->Res (Option PyData):=λx σ'=>match fe t x K with
 |none=>.bad
 |some ρ'=>(dD G cf c ρ' σ').bind λcv ae=>match cv with
   |none=>(af G cf e ρ' ae).bind λy aF=>bv ((bN y).map some) aF
   |some cv=>(bv (truthy ae cv) ae).bind λb ae=>if b then (af G cf e ρ' ae).bind λy aF=>bv ((bN y).map some) aF else .ok none (ae)theorem cG(U:ac)(c:Cell):(U++[c]).take U.length=U:=by simp
theorem Fj(m:Bool)(t:Tgt)(it:It)(c:EL)(e:E):af G cf (.comp m t it c e) K U=(cA G cf it K U).bind λI aa=>(iH (jS G cf t c e K) I.shown (c5 I.lk aa++[Cell.busy])).bind λr ae=>bh m r ((bx I.lk I.base ae).take aa.length):=oi (rfl)theorem mo{m:Bool}{c:EL}{r:List PyData}(hI:cA G cf it K U=.ok ⟨xs,base,none⟩ aa)(hl:iH (jS G cf t c e K) xs (aa++[Cell.busy])=.ok r (aa++[Cell.busy])):af G cf (.comp m t it c e) K U=bh m r aa:=by rw[Fj,hI,tA];show (iH (jS G cf t c e K) xs (aa++[Cell.busy])).bind _=_;rw[hl,tA];show bh m r ((aa++[Cell.busy]).take aa.length)=_;rw[cG]theorem Nu{y:PyData}(h:af G cf e (K.set i (.d x)) U=.ok (.d y) U):jS G cf (.var i) .nil e K x U=.ok (some y) U:=by show (af G cf e (K.set i (.d x)) U).bind _=_;rw[h];rfl
theorem Lw{b:Bool}{y:PyData}(hc:af G cf c (K.set i (.d x)) U=.ok (.d (.bool b)) U)(h:b=true->af G cf e (K.set i (.d x)) U=.ok (.d y) U):jS G cf (.var i) (.cons c .nil) e K x U=.ok (if b then some y else none) U:=by
 show (dD G cf (.cons c .nil) (K.set i (.d x)) U).bind _=_;rw[Ap hc,tA];cases b with
 |true=>show (af G cf e (K.set i (.d x)) U).bind _=_;rw[h rfl];rfl
 |false=>(rfl)theorem iG{f:PyData->ac->Res (Option PyData)}(φ:B->PyData)(g:B->Option PyData):∀l:List B,(∀x∈l,f (φ x) U=.ok (g x) U)->iH f (l.map φ) U=.ok (l.filterMap g) U
 |[]=>@λ_=>rfl
 |x::l=>@λh=>by rw[Qq,Ij,h x (PF ..),tA,iG φ g l λy hy=>h y (PD _ hy),tA,Rx];cases g x<;>rfl
theorem E4(b:B->Bool)(g:B->PyData)(l:List B):(l.filterMap λx=>if b x then some (g x) else none)=(l.filter b).map g:=by
 induction l with
 |nil=>rfl
 |cons x l ih=>cases h:b x<;>simp[h,ih]theorem lT(φ g:B->PyData)(hI:cA G cf it K U=.ok ⟨ps.map φ,base,none⟩ aa)(h:∀p∈ps,af G cf e (K.set i (.d (φ p))) (aa++[Cell.busy])=.ok (.d (g p)) (aa++[Cell.busy])):af G cf (.comp false (.var i) it .nil e) K U=.ok (.d (.list (ps.map g))) aa:=by refine(mo hI (r:=ps.map g) ?_).trans rfl;rw[iG φ (λp=>some (g p)) ps λp hp=>Nu (h p hp),RS]theorem fi(φ g:B->PyData)(b:B->Bool)(hI:cA G cf it K U=.ok ⟨ps.map φ,base,none⟩ aa)(hc:∀p∈ps,af G cf c (K.set i (.d (φ p))) (aa++[Cell.busy])=.ok (.d (.bool (b p))) (aa++[Cell.busy]))(h:∀p∈ps,b p=true->af G cf e (K.set i (.d (φ p))) (aa++[Cell.busy])=.ok (.d (g p)) (aa++[Cell.busy])):af G cf (.comp false (.var i) it (.cons c .nil) e) K U=.ok (.d (.list ((ps.filter b).map g))) aa:=by refine(mo hI (r:=(ps.filter b).map g) ?_).trans rfl;rw[iG φ (λp=>if b p then some (g p) else none) ps λp hp=>Lw (hc p hp) (h p hp),E4]
end
theorem fk(n:Nat):b8 0 (n:Int)=(List.range n).map λ(k:Nat)=>PyData.int (k:Int):=by unfold b8;rw[TU,Qs];refine Ry λk _=>?_;rw[TV]
theorem vW{G:GD}{cf:CF}{eb:E}{b:Int}(g:Nat->PyData)(hb:af G cf eb K U=.ok (.d (.int b)) U)(h1:0<=b/\b<=1000)(h:∀k:Nat,k < b.toNat->af G cf e (K.set i (.d (.int (k:Int)))) (U++[Cell.busy])=.ok (.d (g k)) (U++[Cell.busy])):af G cf (.comp false (.var i) (.range eb) .nil e) K U=.ok (.d (.list ((List.range b.toNat).map g))) U:=by
 obtain⟨n,rfl⟩:∃n:Nat,b=(n:Int):=⟨b.toNat,by lia⟩
 have hI:=iC (G:=G) (cf:=cf) hb (by lia);rw[fk]at hI;exact lT (λ(k:Nat)=>PyData.int (k:Int)) g hI λk hk=>h k (Rc.mp hk)theorem LR{x:Int}(m:Bool)(U:ac)(h:y.natAbs < 9223372036854775808):dj .mul m (.d (.int x)) (.d (.int y)) U=.ok (.d (.int (x * y))) U:=Ji _ _ (by simp[tJ,h])theorem Pi{x:Int}(m:Bool)(U:ac)(h:x.natAbs < 9223372036854775808):dj .mul m (.d (.int x)) (.d (.int y)) U=.ok (.d (.int (x * y))) U:=Ji _ _ (by simp[tJ,h])theorem cQ(x:Int){m:Int}(h:0 < m):0<=x % m/\x % m < m:=⟨RZ _ (SH h),SX _ h⟩theorem Ob{c m:Int}(b:Bool)(U:ac)(h0:0 < m)(h:m<=9223372036854775808):dj .mul b (.d (.int (c % m))) (.d (.int y)) U=.ok (.d (.int (c % m * y))) U:=Pi _ _ (by have:=cQ c h0;lia)variable {fn:Fn}{args:List V}{d:Nat}{p:Prog}
theorem kR{f:Nat}{q:Res V}(h:p.P f=some fn)(ha:args.length=fn.np)(hb:execs p.G (aj p d) fn.body (args++List.replicate (fn.ns - fn.np) .un) U=.ok o σ')(hq:nG U.length o σ'=q):aj p (d+1) f args U=q:=by
 show (match p.P f with
   |none=>Res.bad
   |some fn=>if args.length=fn.np then
       (execs p.G (aj p d) fn.body (args++List.replicate (fn.ns - fn.np) .un) U).bind λo aa=>nG U.length o aa
     else .bad)=q
 rw[h];exact(if_pos ha).trans (by rw[hb];exact hq)theorem nA(x:PyData)(h:σ'.take n=U):nE n (.d x) σ'=.ok (.d x) U:=congrArg (Res.ok (V.d x)) (h)theorem Lv{f:Nat}(h:p.P f=some fn)(ha:args.length=fn.np)(hb:execs p.G (aj p d) fn.body (args++List.replicate (fn.ns - fn.np) .un) U=.ok (.exc k ds) σ')(ht:σ'.take U.length=U):aj p (d+1) f args U=.ok (.exc k ds) U:=kR h ha hb (by show Res.ok (V.exc k ds) (σ'.take U.length)=_;exact congrArg _ ht)theorem oO{f:Nat}(h:p.P f=some fn)(ha:args.length=fn.np)(hb:execs p.G (aj p d) fn.body (args++List.replicate (fn.ns - fn.np) .un) U=.ok (.ret (.d x)) σ')(ht:σ'.take U.length=U):aj p (d+1) f args U=.ok (.d x) U:=kR h ha hb (nA x ht)theorem cI{f:Nat}(h:p.P f=some fn)(ha:args.length=fn.np)(hb:execs p.G (aj p d) fn.body (args++List.replicate (fn.ns - fn.np) .un) U=.ok (.ret (.d x)) U):aj p (d+1) f args U=.ok (.d x) U:=oO h ha hb List.take_length
theorem Fx{f:Nat}{c:Cell}{g g':List Cell}(h:p.P f=some fn)(ha:args.length=fn.np)(hb:execs p.G (aj p d) fn.body (args++List.replicate (fn.ns - fn.np) .un) U=.ok (.ret (.loc k)) (U++(g++c::g')))(hk:k=U.length+g.length)(hc:(∃l,c=.lst l)\/∃l,c=.dct l):aj p (d+1) f args U=.ok (.loc U.length) (U++[c]):=by
 refine kR h ha hb ?_;subst hk;have e:(U++(g++c::g'))[U.length+g.length]?=some c:=by simp
 have t:(U++(g++c::g')).take U.length=U:=by simp
 refine(?_:nE U.length (.loc (U.length+g.length)) (U++(g++c::g'))=_);rcases hc with⟨l,rfl⟩|⟨l,rfl⟩
 . exact(if_neg (SN.mpr (PU _ _))).trans (by rw[e,t])
 . exact(if_neg (SN.mpr (PU _ _))).trans (by rw[e,t])noncomputable abbrev F5(a b c d e:V):Fm:=[a,b,c,d,e]noncomputable abbrev F6(a b c d e f:V):Fm:=[a,b,c,d,e,f]noncomputable abbrev F7(a b c d e f g:V):Fm:=[a,b,c,d,e,f,g]noncomputable abbrev F8(a b c d e f g h:V):Fm:=[a,b,c,d,e,f,g,h]noncomputable abbrev F9(a b c d e f g h i:V):Fm:=[a,b,c,d,e,f,g,h,i]noncomputable abbrev IA(a b c d e f g h i j:V):Fm:=[a,b,c,d,e,f,g,h,i,j]noncomputable abbrev LL(a b c d e f g h i j k l m n:V):Fm:=[a,b,c,d,e,f,g,h,i,j,k,l,m,n]noncomputable abbrev Py(a b c d e f g h i j k l m n o p q r:V):Fm:=[a,b,c,d,e,f,g,h,i,j,k,l,m,n,o,p,q,r]def FI(t:Nat)(a b:Prop):Prop:=match t % 2 with
 |0=>a
 |_=>(b)def Of{B:Type}(r:Option B)(k:B->Prop):Prop:=match r with
 |some v=>k v
 |none=>(True)def B5{B:Type}(r:Res B)(k:B->ac->Prop):Prop:=match r with
 |.ok v U=>k v U
 |.bad=>(True)def Il{B:Type}(t:Nat)(r:Res B)(k:B->ac->Nat->Prop):Prop:=FI t (B5 r λv U=>k v U (t / 2)) (∀{v U},r=.ok v U->k v U (t / 2))def CB{B:Type}(t:Nat)(r:Option B)(k:B->Nat->Prop):Prop:=FI t (Of r λv=>k v (t / 2)) (∀{v},r=some v->k v (t / 2))variable {t:Nat}
theorem vB{a b:Prop}(ha:a)(hb:b):FI t a b:=by
 unfold FI;cases t % 2 with
 |zero=>exact ha
 |succ n=>exact hb
theorem EJ{r:Option B}{k:B->Prop}(h:∀v,r=some v->k v):Of r k:=by
 cases r with
 |some v=>exact h v rfl
 |none=>(trivial)variable {r:Res B}
theorem gh{k:B->ac->Prop}(h:∀v U,r=.ok v U->k v U):B5 r k:=by
 cases r with
 |ok v U=>exact h v U rfl
 |bad=>(trivial)theorem vA{k:B->ac->Nat->Prop}(h:∀v U t,r=.ok v U->k v U t):Il t r k:=vB (gh λv U e=>h v U _ e) λe=>h _ _ _ (e)theorem nY{r:Option B}{k:B->Nat->Prop}(h:∀v t,r=some v->k v t):CB t r k:=vB (EJ λv e=>h v _ e) λe=>h _ _ (e)def x9(b:Me)(x:V)(bH:ac)(vs:List V)(U:ac):Res V:=if sI b bH x then Gb b x vs U else .bad
variable {a:B}theorem Ms{Y:Type}{f:ac->Res Y}{b:Y}{k:B->Y->ac->Res γ}{q:Res γ}(h:r=.ok a U)(h2:f U=.ok b ae)(h3:k a b ae=q):(r.bind λx aa=>(f aa).bind (k x))=q:=au h (au h2 h3)variable {bH:ac}{x:V}
theorem Kr{b:Me}(h1:aU G cf es K bH=.ok vs U)(h2:x9 b x bH vs U=.ok v aa):(if sI b bH x then (aU G cf es K bH).bind λvs ae=>Gb b x vs ae else .bad)=.ok v aa:=by
 unfold x9 at h2;cases h:sI b bH x with
 |true=>rw[h,if_pos rfl]at h2;rw[if_pos rfl];exact au h1 h2
 |false=>rw[h,if_neg PY]at h2;injection h2
theorem Hj{o:Option Fm}(h:bv o U=.ok K aa):bv (o.map Out.next) U=.ok (.next K) aa:=by
 cases o with
 |none=>injection h
 |some x=>injection h with e f;subst e;subst f;rfl
section
variable (G:GD)(cf:CF)
mutual
def pE:E->Fm->ac->Nat->(V->ac->Nat->Prop)->Prop
 |.none=>λ_ U t k=>k (.d .none) U t
 |.bool b=>λ_ U t k=>k (.d (.bool b)) U t
 |.int i=>λ_ U t k=>k (.d (.int i)) U t
 |.str x=>λ_ U t k=>k (.d (.str x)) U t
 |.bin op m a b=>λK U t k=>pE a K U t λx U t=>pE b K U t λy U t=>Il t (dj op m x y U) k
 |.var i=>λK U t k=>B5 (af G cf (.var i) K U) λv U=>k v U t
 |.glob g=>λK U t k=>B5 (af G cf (.glob g) K U) λv U=>k v U t
 |.dict0=>λ_ U t k=>k (.loc U.length) (U++[.dct []]) t
 |.neg a=>λK U t k=>pE a K U t λx U t=>B5 (oc (cH x) (λi=>.ok (.d (.int (-i))) U) .bad) λv U=>k v U t
 |.isx n a=>λK U t k=>pE a K U t λx U t=>B5 (KI n x U) λv U=>k v U t
 |.freeze a=>λK U t k=>pE a K U t λx U t=>∀{v aa},K7 x U=.ok v aa->k v aa t
 |.not a=>λK U t k=>pE a K U t λx U t=>Of (truthy U x) λb=>k (.d (.bool (!b))) U t
 |.bop q es=>λK U t k=>FI t (pB q es K U (t / 2) k) (∀{v aa},af G cf (.bop q es) K U=.ok v aa->k v aa (t / 2))
 |.cmp op a b=>λK U t k=>pE a K U t λx U t=>pE b K U t λy U t=>CB t (bC op x y U) λb t=>k (.d (.bool b)) U t
 |.ite c a b=>λK U t k=>pE c K U t λx U t=>CB t (truthy U x) λq t=>match q with
   |true=>pE a K U t k
   |false=>pE b K U t k
 |.tup es=>λK U t k=>pL es K U t λvs U t=>B5 (xv vs U) λv U=>k v U t
 |.list m es=>λK U t k=>pL es K U t λvs U t=>B5 (AR m vs U) λv U=>k v U t
 |.idx a i=>λK U t k=>pE a K U t λx U t=>pE i K U t λy U t=>CB t (cK x y U) λv t=>k v U t
 |.slc m a lo hi=>λK U t k=>pE a K U t λx U t=>pO lo K U t λl U t=>pO hi K U t λh U t=>Il t (gq m x l h U) k
 |.call f es=>λK U t k=>pL es K U t λvs U t=>∀{v aa},cf f vs U=.ok v aa->B5 (mv v aa) λv U=>k v U t
 |.bi b m es=>λK U t k=>pL es K U t λvs U t=>Il t (xT b m vs U) k
 |.meth b o es=>λK U t k=>pE o K U t λx bH t=>pL es K bH t λvs U t=>∀{v aa},x9 b x bH vs U=.ok v aa->k v aa t
 |e=>λK U t k=>∀{v aa},af G cf e K U=.ok v aa->k v aa (t)def pB(q:Bool):EL->Fm->ac->Nat->(V->ac->Nat->Prop)->Prop
 |.nil=>λ_ _ _ _=>True
 |.cons e es=>λK U t k=>match es with
   |.nil=>pE e K U t k
   |es=>pE e K U t λx U t=>CB t (truthy U x) λb t=>match b==q with
     |true=>pB q es K U t k
     |false=>k x U (t)def pL:EL->Fm->ac->Nat->(List V->ac->Nat->Prop)->Prop
 |.nil=>λ_ U t k=>k [] U t
 |.cons e es=>λK U t k=>pE e K U t λx U t=>pL es K U t λxs U t=>k (x::xs) U (t)def pO:EL->Fm->ac->Nat->(Option V->ac->Nat->Prop)->Prop
 |.nil=>λ_ U t k=>k none U t
 |.cons e _=>λK U t k=>pE e K U t λx U t=>k (some x) U t
end
mutual
def pS:S->Fm->ac->Nat->(Out->ac->Nat->Prop)->Prop
 |.expr e=>λK U t k=>pE G cf e K U t λ_ U t=>k (.next K) U t
 |.asg g e=>λK U t k=>pE G cf e K U t λx U t=>B5 (bv (Jg g x K) U) λK U=>k (.next K) U t
 |.asgT l e=>λK U t k=>pE G cf e K U t λx U t=>B5 (oc (jy x) (λds=>if l.length=ds.length then .ok (.next (b7 l ds K)) U else .bad) .bad) λo U=>k o U t
 |.ite c a b=>λK U t k=>pE G cf c K U t λx U t=>CB t (truthy U x) λq t=>match q with
   |true=>J7 a K U t k
   |false=>J7 b K U t k
 |.ret e=>λK U t k=>pE G cf e K U t λx U t=>k (.ret x) U t
 |.calls g f es=>λK U t k=>pL G cf es K U t λvs U t=>∀{v aa},cf f vs U=.ok v aa->B5 (jV g v K aa) λo U=>k o U t
 |.raise n es=>λK U t k=>pL G cf es K U t λvs U t=>B5 (NP n vs U) λo U=>k o U t
 |s=>λK U t k=>∀{o aa},exec G cf s K U=.ok o aa->k o aa (t)def J7:SL->Fm->ac->Nat->(Out->ac->Nat->Prop)->Prop
 |.nil=>λK U t k=>k (.next K) U t
 |.cons s r=>λK U t k=>pS s K U t λo U t=>match o with
   |.next K=>J7 r K U t k
   |o=>k o U t
end
mutual
theorem cZ:∀(e:E) {K:Fm} {U:ac} {t:Nat} {k:V->ac->Nat->Prop},(∀v σ' t,af G cf e K U=.ok v σ'->k v σ' t)->pE G cf e K U t k
 |.none=>λh=>h _ _ _ rfl
 |.bool _=>λh=>h _ _ _ rfl
 |.int _=>λh=>h _ _ _ rfl
 |.str _=>λh=>h _ _ _ rfl
 |.bin op m a b=>λh=>cZ a λx aa t e1=>cZ b λy ae t e2=>vA λv aF t e3=>h _ _ _ (Ms e1 e2 e3)
 |.not a=>λh=>cZ a λx aa t e1=>EJ λv e3=>h _ _ _ (au e1 (by rw[e3];rfl))
 |.cmp op a b=>λh=>cZ a λx aa t e1=>cZ b λy ae t e2=>nY λv t e3=>h _ _ _ (Ms e1 e2 (by rw[e3];rfl))
 |.ite c a b=>λh=>cZ c λx aa t e1=>nY λv t e3=>match v,e3 with
   |true,e3=>cZ a λy ae t e4=>h _ _ _ (au e1 (by rw[e3];exact e4))
   |false,e3=>cZ b λy ae t e4=>h _ _ _ (au e1 (by rw[e3];exact e4))
 |.tup es=>λh=>o2 es λx aa t e1=>gh λv aF e3=>h _ _ _ (au e1 e3)
 |.list m es=>λh=>o2 es λx aa t e1=>gh λv aF e3=>h _ _ _ (au e1 e3)
 |.idx a i=>λh=>cZ a λx aa t e1=>cZ i λy ae t e2=>nY λv t e3=>h _ _ _ (Ms e1 e2 (by rw[e3];rfl))
 |.slc m a lo hi=>λh=>cZ a λx aa t e1=>IU lo λy ae t e2=>IU hi λy ae t e3=>vA λv aF t e4=>h _ _ _ (au e1 (Ms e2 e3 e4))
 |.call f es=>λh=>o2 es λx aa t e1=>λe2=>gh λv aF e3=>h _ _ _ (au e1 (au e2 e3))
 |.bi b m es=>λh=>o2 es λx aa t e1=>vA λv aF t e3=>h _ _ _ (au e1 e3)
 |.meth b o es=>λh=>cZ o λx aa t e1=>o2 es λy ae t e2=>λe3=>h _ _ _ (au e1 (Kr e2 e3))
 |.var _=>λh=>gh λv U=>h v U _
 |.glob _=>λh=>gh λv U=>h v U _
 |.dict0=>λh=>h _ _ _ rfl
 |.neg a=>λh=>cZ a λx aa t e1=>gh λv aF e3=>h _ _ _ (au e1 e3)
 |.isx n a=>λh=>cZ a λx aa t e1=>gh λv aF e3=>h _ _ _ (au e1 e3)
 |.freeze a=>λh=>cZ a λx aa t e1=>λe3=>h _ _ _ (au e1 e3)
 |.bop q es=>λh=>vB (DR q es h) λe=>h _ _ _ e
 |.cmp2 ..=>λh=>λe=>h _ _ _ e
 |.comp ..=>λh=>λe=>h _ _ _ e
theorem DR(q:Bool):∀(es:EL) {K:Fm} {U:ac} {t:Nat} {k:V->ac->Nat->Prop},(∀v σ' t,iE G cf q es K U=.ok v σ'->k v σ' t)->pB G cf q es K U t k
 |.nil=>λ_=>trivial
 |.cons e .nil=>λh=>cZ e h
 |.cons e (.cons e' es)=>λh=>cZ e λx aa t e1=>nY λb t e2=>match b,q,e2,h with
   |true,true,e2,h=>DR true (.cons e' es) λv σ' t e3=>h _ _ _ (au e1 (by rw[e2];exact e3))
   |false,false,e2,h=>DR false (.cons e' es) λv σ' t e3=>h _ _ _ (au e1 (by rw[e2];exact e3))
   |true,false,e2,h=>h _ _ _ (au e1 (by rw[e2];rfl))
   |false,true,e2,h=>h _ _ _ (au e1 (by rw[e2];rfl))theorem o2:∀(es:EL) {K:Fm} {U:ac} {t:Nat} {k:List V->ac->Nat->Prop},(∀v σ' t,aU G cf es K U=.ok v σ'->k v σ' t)->pL G cf es K U t k
 |.nil=>λh=>h _ _ _ rfl
 |.cons e es=>λh=>cZ e λx aa t e1=>o2 es λy ae t e2=>h _ _ _ (Ms e1 e2 rfl)theorem IU:∀(es:EL) {K:Fm} {U:ac} {t:Nat} {k:Option V->ac->Nat->Prop},(∀v σ' t,dD G cf es K U=.ok v σ'->k v σ' t)->pO G cf es K U t k
 |.nil=>λh=>h _ _ _ rfl
 |.cons e _=>λh=>cZ e λx aa t e1=>h _ _ _ (au e1 rfl)
end
mutual
theorem IT:∀(e:S) {K:Fm} {U:ac} {t:Nat} {k:Out->ac->Nat->Prop},(∀v σ' t,exec G cf e K U=.ok v σ'->k v σ' t)->pS G cf e K U t k
 |.expr e=>λh=>cZ G cf e λx aa t e1=>h _ _ _ (au e1 rfl)
 |.asg g e=>λh=>cZ G cf e λx aa t e1=>gh λv aF e3=>h _ _ _ (au e1 (Hj e3))
 |.asgT l e=>λh=>cZ G cf e λx aa t e1=>gh λv aF e3=>h _ _ _ (au e1 e3)
 |.ite c a b=>λh=>cZ G cf c λx aa t e1=>nY λv t e3=>match v,e3 with
   |true,e3=>oC a λy ae t e4=>h _ _ _ (au e1 (by rw[e3];exact e4))
   |false,e3=>oC b λy ae t e4=>h _ _ _ (au e1 (by rw[e3];exact e4))
 |.ret e=>λh=>cZ G cf e λx aa t e1=>h _ _ _ (au e1 rfl)
 |.calls g f es=>λh=>o2 G cf es λx aa t e1=>λe2=>gh λv aF e3=>h _ _ _ (au e1 (au e2 e3))
 |.raise n es=>λh=>o2 G cf es λx aa t e1=>gh λv aF e3=>h _ _ _ (au e1 e3)
 |.put ..=>λh=>λe=>h _ _ _ e
 |.forr ..=>λh=>λe=>h _ _ _ e
 |.pass=>λh=>λe=>h _ _ _ e
 |.stop=>λh=>λe=>h _ _ _ e
 |.tryS ..=>λh=>λe=>h _ _ _ e
 |.iteC ..=>λh=>λe=>h _ _ _ (e)theorem oC:∀(e:SL) {K:Fm} {U:ac} {t:Nat} {k:Out->ac->Nat->Prop},(∀v σ' t,execs G cf e K U=.ok v σ'->k v σ' t)->J7 G cf e K U t k
 |.nil=>λh=>h _ _ _ rfl
 |.cons s r=>λh=>IT s λo aa t e1=>match o,e1 with
   |.next K,e1=>oC r λv σ' t e2=>h _ _ _ (au e1 e2)
   |.ret v,e1=>h _ _ _ (au e1 rfl)
   |.exc n ds,e1=>h _ _ _ (au e1 rfl)
end
end
noncomputable def tl:SL->SL
 |.cons _ r=>r
 |.nil=>.nil
noncomputable def B2:SL->S
 |.cons s _=>s
 |.nil=>.pass
theorem GP(G:GD)(cf:CF)(e:S)(K:Fm)(U:ac)(t:Nat):pS G cf e K U t λv σ' _=>exec G cf e K U=.ok v σ':=IT G cf e λ_ _ _ h=>(h)theorem ch(G:GD)(cf:CF)(e:SL)(K:Fm)(U:ac)(t:Nat):J7 G cf e K U t λv σ' _=>execs G cf e K U=.ok v σ':=oC G cf e λ_ _ _ h=>(h)noncomputable def chk(p:Prog)(f:Nat)(args:List V):Option (SL×Nat):=match p.P f with
 |some fn=>if args.length=fn.np then some (fn.body,fn.ns - fn.np) else none
 |none=>none
theorem xM{f:Nat}(h:chk p f args=some (b,n))(e:execs p.G (aj p d) b (args++List.replicate n V.un) U=.ok o σ'):aj p (d+1) f args U=nG U.length o σ':=by
 unfold chk at h;show (match p.P f with
   |none=>Res.bad
   |some fn=>if args.length=fn.np then
       (execs p.G (aj p d) fn.body (args++List.replicate (fn.ns - fn.np) V.un) U).bind λo aa=>nG U.length o aa
     else .bad)=_
 cases hp:p.P f with
 |none=>rw[hp]at h;injection h
 |some fn=>
   replace h:=hp▸h;by_cases ha:args.length=fn.np
   . cases (if_pos ha).symm.trans h;exact(if_pos ha).trans (au e rfl)
   . cases (if_neg ha).symm.trans h
theorem wu(p:Prog)(f d:Nat)(args:List V)(U:ac)(h:chk p f args=some (b,n))(t:Nat):J7 p.G (aj p d) b (args++List.replicate n V.un) U t λo σ' _=>aj p (d+1) f args U=nG U.length o σ':=oC p.G (aj p d) b λ_ _ _ e=>xM h (e)def Pr(o:Out)(k:V->Prop):Prop:=match o with
 |.ret (.d x)=>k (.d x)
 |.next _=>k (.d .none)
 |.exc n ds=>k (.exc n ds)
 |_=>True
theorem aX(p:Prog)(f d:Nat)(args:List V)(U:ac)(h:chk p f args=some (b,n))(t:Nat):J7 p.G (aj p d) b (args++List.replicate n V.un) U t λo σ' _=>Pr o λv=>σ'.take U.length=U->aj p (d+1) f args U=.ok v U:=oC p.G (aj p d) b λo σ' _ e=>by
 have q:=xM h e;clear e;cases o with
 |next K=>exact λe=>q.trans (congrArg (Res.ok (V.d .none)) e)
 |exc n ds=>exact λe=>q.trans (congrArg (Res.ok (V.exc n ds)) e)
 |ret v=>cases v with
   |d x=>exact λe=>q.trans (congrArg (Res.ok (V.d x)) e)
   |_=>(trivial)noncomputable abbrev eP (vs:Array Value) (n:Nat):Obj:={ cls:=.type "list",dict:=none,data:=.seq vs n,slots:=#[] }noncomputable abbrev pH (vs:Array Value) (n:Nat):Obj:={ cls:=.type "tuple",dict:=none,data:=.seq vs n,slots:=#[] }def cY(x:Str):Prop:=PyData.strOk x=true/\x.cps.size<=LIM
mutual
inductive Rel(T:Addr->Prop)(h:Heap):Value->PyData->Prop
 |none:Rel T h .none .none
 |bool (b:Bool):Rel T h (.bool b) (.bool b)
 |int (i:Int) (t:Tok):Rel T h (.int i t) (.int i)
 |str (x:Str) (t:Tok):cY x->Rel T h (.str x t) (.str x)
 |list {a:Addr} {vs:Array Value} {n:Nat} {xs:List PyData}:h.get? a=some (eP vs n)->¬ T a->xs.length<=LIM->RelAll T h vs.toList xs->Rel T h (.ref a) (.list xs)
 |tuple {a:Addr} {vs:Array Value} {n:Nat} {xs:List PyData}:h.get? a=some (pH vs n)->¬ T a->xs.length<=LIM->RelAll T h vs.toList xs->Rel T h (.ref a) (.tuple xs)
inductive RelAll(T:Addr->Prop)(h:Heap):List Value->List PyData->Prop
 |nil:RelAll T h [] []
 |cons {v:Value} {vs:List Value} {d:PyData} {ds:List PyData}:Rel T h v d->RelAll T h vs ds->RelAll T h (v::vs) (d::ds)
end
def xy(o:Obj)(vs:Array Value)(n:Nat):Prop:=o.data=.seq vs n\/∃C,o.cls=.ref C/\(o.data=.fields vs\/o.data=.plain)def cj(h:Heap)(a:Addr):Prop:=X3 λo vs n=>h.get? a=some o/\xy o vs (n)variable {T T':Addr->Prop}{h h':Heap}{vs:List Value}{d:PyData}{v:Value}
theorem Rel.mono(H:∀a o vs n,h.get? a=some o->xy o vs n->¬ T a->h'.get? a=some o/\¬ T' a)(r:Rel T h v d):Rel T' h' v d:=
 Rel.rec (motive_1:=λv d _=>Rel T' h' v d) (motive_2:=λvs ds _=>RelAll T' h' vs ds) .none .bool .int .str (λho ht hl _ ih=>.list (H _ _ _ _ ho (.inl rfl) ht).1 (H _ _ _ _ ho (.inl rfl) ht).2 hl ih)
   (λho ht hl _ ih=>.tuple (H _ _ _ _ ho (.inl rfl) ht).1 (H _ _ _ _ ho (.inl rfl) ht).2 hl ih) .nil (λ_ _ a b=>.cons a b) r
theorem RelAll.ind{P:List Value->List PyData->Prop}(h0:P [] [])(h1:∀{v vs d ds},Rel T h v d->P vs ds->P (v::vs) (d::ds))(r:RelAll T h vs ds):P vs ds:=
 RelAll.rec (motive_1:=λ_ _ _=>True) (motive_2:=λvs ds _=>P vs ds) trivial (λ_=>trivial) (λ_ _=>trivial) (λ_ _ _=>trivial) (λ_ _ _ _ _=>trivial) (λ_ _ _ _ _=>trivial) h0 (λr _ _ ih=>h1 r ih) r
theorem RelAll.mono(H:∀a o vs n,h.get? a=some o->xy o vs n->¬ T a->h'.get? a=some o/\¬ T' a)(r:RelAll T h vs ds):RelAll T' h' vs ds:=
 r.ind .nil λr ih=>.cons (r.mono H) ih
theorem Rel.reads(r:Rel T h v d):∃as,Reads h v d as:=
 Rel.rec (motive_1:=λv d _=>∃as,Reads h v d as) (motive_2:=λvs ds _=>∃as,ReadsAll h vs ds as) ⟨_,.none⟩ (λb=>⟨_,.bool b⟩) (λi t=>⟨_,.int i t⟩) (λx t _=>⟨_,.str x t⟩)
   (λho _ _ _ ih=>ih.elim λ_ q=>⟨_,.list ho rfl rfl q⟩) (λho _ _ _ ih=>ih.elim λ_ q=>⟨_,.tuple ho rfl rfl q⟩) ⟨_,.nil⟩ (λ_ _ a b=>a.elim λ_ p=>b.elim λ_ q=>⟨_,.cons p q⟩) r
theorem RelAll.reads(r:RelAll T h vs ds):∃as,ReadsAll h vs ds as:=r.ind (P:=λvs ds=>∃as,ReadsAll h vs ds as) ⟨_,.nil⟩ λr ih=>r.reads.elim λ_ p=>ih.elim λ_ q=>⟨_,.cons p q⟩
theorem Rel.lay(r:Rel T h v d):d.canLay0=true:=
 Rel.rec (motive_1:=λv d _=>d.canLay0=true) (motive_2:=λvs ds _=>PyData.canLayAll0 ds=true) rfl (λ_=>rfl) (λ_ _=>rfl) (λ_ _ e=>e.1) (λ_ _ _ _ ih=>ih) (λ_ _ _ _ ih=>ih) rfl (λ_ _ a b=>PI.mpr ⟨a,b⟩) r
theorem RelAll.lay(r:RelAll T h vs ds):PyData.canLayAll0 ds=true:=r.ind (P:=λ_ ds=>PyData.canLayAll0 ds=true) rfl λr ih=>PI.mpr ⟨r.lay,ih⟩
theorem RelAll.inv(r:RelAll T h vs (d::ds)):X2 λv vs'=>A3 (vs=v::vs') (Rel T h v d) (RelAll T h vs' ds):=by
 cases r with
 |cons r rs=>exact⟨_,_,rfl,r,rs⟩theorem RelAll.inv0(r:RelAll T h vs []):vs=[]:=by cases r;rfl
theorem RelAll.length(r:RelAll T h vs ds):vs.length=ds.length:=by
 induction ds generalizing vs with
 |nil=>rw[r.inv0];rfl
 |cons d ds ih=>obtain⟨v,vs',rfl,_,rs⟩:=r.inv;rw[PX,PX,ih rs]
theorem RelAll.append{ws:List Value}{es:List PyData}(r:RelAll T h vs ds)(q:RelAll T h ws es):RelAll T h (vs++ws) (ds++es):=by
 induction ds generalizing vs with
 |nil=>exact r.inv0▸q
 |cons d ds ih=>obtain⟨v,vs',rfl,x,rs⟩:=r.inv;exact .cons x (ih rs)
theorem RelAll.get{vs:List Value}{ds:List PyData}(r:RelAll T h vs ds){k:Nat}{d:PyData}(e:ds[k]?=some d):∃v,vs[k]?=some v/\Rel T h v d:=by
 induction ds generalizing vs k with
 |nil=>injection e
 |cons d' ds ih=>
   obtain⟨v,vs',rfl,x,rs⟩:=r.inv;cases k with
   |zero=>injection e with e;subst e;exact⟨_,rfl,x⟩
   |succ k=>exact ih rs e
theorem RelAll.getV(r:RelAll T h vs ds)(e:vs[k]?=some v):∃d,ds[k]?=some d/\Rel T h v d:=by
 have hk:k < ds.length:=by exact r.length▸(Pz.mp e).1
 obtain⟨w,hw,q⟩:=r.get (PB hk);rw[e]at hw;injection hw with e;subst e;exact⟨_,PB hk,q⟩
theorem RelAll.drop(k:Nat)(r:RelAll T h vs ds):RelAll T h (vs.drop k) (ds.drop k):=by
 induction k generalizing vs ds with
 |zero=>exact r
 |succ k ih=>cases ds with
   |nil=>exact r.inv0▸.nil
   |cons d ds=>obtain⟨v,vs',rfl,_,rs⟩:=r.inv;exact ih rs
theorem RelAll.take(k:Nat)(r:RelAll T h vs ds):RelAll T h (vs.take k) (ds.take k):=by
 induction k generalizing vs ds with
 |zero=>exact .nil
 |succ k ih=>cases ds with
   |nil=>exact r.inv0▸.nil
   |cons d ds=>obtain⟨v,vs',rfl,x,rs⟩:=r.inv;exact .cons x (ih rs)theorem RelAll.one(r:Rel T h v d):RelAll T h [v] [d]:=.cons r .nil
def Cell.live:Cell->Bool
 |.lst _ | .dct _=>true
 |_=>(false)noncomputable def Cell.isGone:Cell->Bool
 |.gone=>true
 |_=>(false)variable {c:Cell}theorem Cell.live_not_gone(h:c.live=true):c.isGone=false:=by cases c<;>first|rfl|injection h
def TT(Y:List Addr)(U:ac)(a:Addr):Prop:=X2 λ(k:Nat) (c:Cell)=>A3 (Y[k]?=some a) (U[k]?=some c) (c.isGone=false)def WW(Y:List Addr)(U:ac)(a:Addr):Prop:=X2 λ(k:Nat) (c:Cell)=>A3 (Y[k]?=some a) (U[k]?=some c) (c.live=true)variable {a:Addr}{Y:List Addr}theorem WW.tt:WW Y U a->TT Y U a:=λ⟨k,c,h1,h2,h3⟩=>⟨k,c,h1,h2,Cell.live_not_gone h3⟩theorem TT.mem:TT Y U a->a∈Y:=λ⟨_,_,h1,_,_⟩=>PC h1
structure Cx where
 prog:Program
 w:World
 h₀:Heap
 mg:Str->Option Value
 mb:Str->Option Value
 fr:List Addr
 /-- code that may run while an exception is handled -/
 q:Bool
noncomputable abbrev WP(Z:Cx){B:Type}(A:Around)(t:Sem B)(Q:B->Shared->Prop)(E:VP)(s:Shared):Prop:=wpAny (model Z.prog Z.w) A t Q E s
def jW(Z:Cx)(T:Addr->Prop)(h hd:Heap)(a:Addr)(l:List (Str×PyData)):Prop:=
 ∃kvs:List (Str×Value),A5 (h.DictOf (strKind Z.prog Z.w) a kvs) (kvs.map (·.1)=l.map (·.1)) (RelAll T hd (kvs.map (·.2)) (l.map (·.2))) ((∀k∈l.map (·.1),cY k)) (l.length<=LIM)def fQ(Z:Cx)(T:Addr->Prop)(h hd:Heap)(a:Addr):Cell->Prop
 |.lst l=>X2 λvs n=>A3 (h.get? a=some (eP vs n)) (RelAll T hd vs.toList l) (l.length<=LIM)
 |.dct l=>jW Z T h hd a l
 |_=>∃o,h.get? a=some (o)def Iw(Z:Cx)(Y:List Addr)(U:ac)(h:Heap):Prop:=∀(k:Nat) (a:Addr) (c:Cell),Y[k]?=some a->U[k]?=some c->fQ Z (TT Y U) h h a c
structure Inv(Z:Cx)(Y:List Addr)(U:ac)(h:Heap):Prop where
 len:Y.length=U.length
 nodup:Y.Nodup
 base:∀a o,Z.h₀.get? a=some o->h.get? a=some o
 fresh:∀a∈Y,Z.h₀.get? a=none
 cell:Iw Z Y U h
def gd(o:Obj):Prop:=X2 λes n=>o.data=.dict es (n)def FX(Y:List Addr)(U:ac)(σ':ac):Prop:=∀(k:Nat) (c':Cell),k < Y.length->σ'[k]?=some c'->∃c,A4 (U[k]?=some c) ((c'.live=true->c.live=true)) ((c.isGone=true->c'.isGone=true)) (c=.busy->c'=.busy)def CI(O:Addr->Prop)(Y:List Addr)(U:ac)(s:Shared)(s':Shared):Prop:=∀a o,s.heap.get? a=some o->¬ WW Y U a->¬ O a->s'.heap.get? a=some o\/(gd o/\a∉Y/\∃sl,s'.heap.get? a=some { o with slots:=sl })
structure Step(O:Addr->Prop)(Y:List Addr)(U:ac)(s:Shared)(β':List Addr)(σ':ac)(s':Shared):Prop where
 ext:∃e,β'=Y++e/\∀a∈e,s.heap.get? a=none
 mono:FX Y U σ'
 keepW:CI O Y U s s'
 alive:∀a,s'.heap.get? a=none->s.heap.get? a=none
 gens:s'.gens=s.gens
 os:s'.os=s.os
abbrev cz:Addr->Prop:=λ_=>(False)variable {x:Addr}{O' O:Addr->Prop}{Z:Cx}{hd:Heap}{ag a5:List Addr}{o:Obj}{s ai aq:Shared}
theorem fQ.ex(r:fQ Z T h hd a c):∃o,h.get? a=some o:=by
 cases c with
 |lst _=>obtain⟨_,_,e,_⟩:=r;exact⟨_,e⟩
 |dct _=>obtain⟨_,⟨o,_,_,e,_⟩,_⟩:=r;exact⟨o,e⟩
 |gone=>exact r
 |busy=>exact r
theorem Inv.at(I:Inv Z Y U h)(hk:Y[k]?=some a):∃c,U[k]?=some c/\fQ Z (TT Y U) h h a c:=by
 have hlt:k < U.length:=by exact I.len▸(Pz.mp hk).1
 exact⟨U[k],PB hlt,I.cell k a _ hk (PB hlt)⟩theorem Inv.ex(I:Inv Z Y U h)(ha:a∈Y):∃o,h.get? a=some o:=by obtain⟨k,hk⟩:=Q0 ha;obtain⟨c,_,r⟩:=I.at hk;exact(r.ex)theorem Step.keep(a:Step O Y U s ag aa ai)(x:Addr)(o:Obj)(hx:s.heap.get? x=some o)(hw:¬ WW Y U x)(hO:¬ O x)(hn:¬ gd o):ai.heap.get? x=some o:=(a.keepW x o hx hw hO).resolve_right λq=>hn (q.1)theorem Ja(h:∀a o,s.heap.get? a=some o->¬ WW Y U a->¬ O a->ai.heap.get? a=some o):∀a o,s.heap.get? a=some o->¬ WW Y U a->¬ O a->ai.heap.get? a=some o\/(gd o/\a∉Y/\∃sl,ai.heap.get? a=some { o with slots:=sl }):=λa o e w n=>.inl (h a o e w n)theorem tG{vs:Array Value}(h:xy o vs n):¬ gd o:=λ⟨es,m,q⟩=>by rcases h with h|⟨_,_,h|h⟩<;>rw[h]at q<;>injection q
def gk(Z:Cx)(Y:List Addr)(h:Heap):Prop:=∀f∈Z.fr,(∃o,h.get? f=some o/\gd o)/\f∉Y/\Z.h₀.get? f=none
theorem gk.step(F:gk Z Y s.heap)(S:Step O Y U s ag aa ai)(hO:∀f∈Z.fr,¬ O f):gk Z ag ai.heap:=λf hf=>by
 obtain⟨⟨o,e,q⟩,nb,n0⟩:=F f hf;refine⟨?_,λm=>?_,n0⟩
 . rcases S.keepW f o e (λz=>nb z.tt.mem) (hO f hf) with h|⟨_,_,sl,h⟩
   . exact⟨o,h,q⟩
   . exact⟨_,h,q⟩
 . obtain⟨l,rfl,g⟩:=S.ext;rcases PQ.mp m with m|m
   . exact nb m
   . rw[g f m]at e;injection e
theorem gk.not(F:gk Z Y h)(e:h.get? a=none):a∉Z.fr:=λm=>by obtain⟨⟨o,q,_⟩,_⟩:=F a m;rw[e]at q;injection q
theorem gk.grow(F:gk Z Y h)(hk:∀f o,f∈Z.fr->h.get? f=some o->gd o->∃o',h'.get? f=some o'/\gd o'):gk Z Y h':=λf hf=>by obtain⟨⟨o,e,q⟩,r⟩:=F f hf;exact⟨hk f o hf e q,r⟩
theorem Step.refl:Step O Y U s Y U s:=
 ⟨⟨[],by simp,by simp⟩,λk c' _ e=>⟨c',e,id,id,id⟩,Ja λ_ _ e _ _=>e,λ_ e=>e,rfl,rfl⟩
theorem Step.trans(a:Step O Y U s ag aa ai)(b:Step O ag aa ai a5 ae aq):Step O Y U s a5 ae aq:=by
 obtain⟨e1,rfl,f1⟩:=a.ext;obtain⟨e2,rfl,f2⟩:=b.ext;refine⟨⟨e1++e2,by simp,λx hx=>?_⟩,λk c' hk hc=>?_,λx o hx hw hO=>?_,λx hx=>a.alive x (b.alive x hx),b.gens.trans a.gens,b.os.trans a.os⟩
 . rcases PQ.mp hx with h1|h1
   . exact f1 x h1
   . exact a.alive x (f2 x h1)
 . obtain⟨c1,g1,g2,g3,g4⟩:=b.mono k c' (by rw[PA];exact Qr hk (PU ..)) hc;obtain⟨c,k1,k2,k3,k4⟩:=a.mono k c1 hk g1;exact⟨c,k1,λz=>k2 (g2 z),λz=>g3 (k3 z),λz=>g4 (k4 z)⟩
 . have nw:¬ WW (Y++e1) aa x:=?_
   . rcases a.keepW x o hx hw hO with q|⟨f,nb,sl,q⟩
     . exact(b.keepW x o q nw hO).imp id λ⟨f,n,r⟩=>⟨f,λm=>n (Q1 _ m),r⟩
     . rcases b.keepW x _ q nw hO with q'|⟨_,_,sl',q'⟩
       . exact .inr ⟨f,nb,sl,q'⟩
       . exact .inr ⟨f,nb,sl',q'⟩
   rintro⟨k,c,h1,h2,h3⟩
   by_cases hk:k < Y.length
   . obtain⟨c0,k1,k2,_⟩:=a.mono k c hk h2;exact hw ⟨k,c0,by rwa [P1 hk]at h1,k1,k2 h3⟩
   . rw[PW (QD hk)]at h1;have:=f1 x (PC h1);rw[hx]at this;injection this
theorem Step.weaken(a:Step O Y U s ag aa ai)(hO:∀x,O x->O' x):Step O' Y U s ag aa ai:=
 ⟨a.ext,a.mono,λx o hx hw hn=>a.keepW x o hx hw λz=>hn (hO x z),a.alive,a.gens,a.os⟩theorem Step.ofNo(a:Step cz Y U s ag aa ai):Step O Y U s ag aa ai:=a.weaken λ_ z=>z.elim
theorem Step.drop(a:Step O Y U s ag aa ai)(hO:∀x,O x->s.heap.get? x=none):Step cz Y U s ag aa ai:=
 ⟨a.ext,a.mono,λx o hx hw _=>a.keepW x o hx hw (λz=>by rw[hO x z]at hx;injection hx),a.alive,a.gens,a.os⟩
theorem Step.notTT(a:Step O Y U s ag aa ai)(hx:s.heap.get? x=some o)(ht:¬ TT Y U x):¬ TT ag aa x:=by
 rintro⟨k,c,h1,h2,h3⟩
 obtain⟨e,rfl,f⟩:=a.ext;by_cases hk:k < Y.length
 . obtain⟨c0,k1,k2,k3,_⟩:=a.mono k c hk h2;refine ht ⟨k,c0,by rwa [P1 hk]at h1,k1,?_⟩;cases hg:c0.isGone with
   |false=>rfl
   |true=>rw[k3 hg]at h3;injection h3
 . rw[PW (QD hk)]at h1;have:=f x (PC h1);rw[hx]at this;injection this
theorem Step.relH(a:Step O Y U s ag aa ai)(hO:∀x,O x->¬ cj s.heap x) :
   ∀x o vs n,s.heap.get? x=some o->xy o vs n->¬ TT Y U x->ai.heap.get? x=some o/\¬ TT ag aa x:=
 λx o vs n hx hd ht=>⟨a.keep x o hx (λz=>ht z.tt) (λz=>hO x z ⟨o,vs,n,hx,hd⟩) (tG hd),a.notTT hx ht⟩theorem Step.rel(a:Step O Y U s ag aa ai)(hO:∀x,O x->¬ cj s.heap x)(r:Rel (TT Y U) s.heap v d):Rel (TT ag aa) ai.heap v d:=r.mono (a.relH hO)theorem Step.relAll(a:Step O Y U s ag aa ai)(hO:∀x,O x->¬ cj s.heap x)(r:RelAll (TT Y U) s.heap vs ds):RelAll (TT ag aa) ai.heap vs ds:=r.mono (a.relH hO)theorem Step.get(a:Step O Y U s ag aa ai)(hk:Y[k]?=some x):ag[k]?=some x:=by obtain⟨e,rfl,_⟩:=a.ext;rw[P1 (Pz.mp hk).1];exact(hk)def aE(Y:List Addr)(U:ac)(h:Heap)(v:Value):V->Prop
 |.un=>False
 |.d x=>Rel (TT Y U) h v x
 |.loc n=>∃a,Y[n]?=some a/\v=.ref a
 |.exc k ds=>X3 λe o vs=>A4 (v=.ref e) (h.get? e=some o) ((o.cls=.ref (KA k)/\o.data=.fields vs/\(1<=k/\k<=6))) (¬ TT Y U e)abbrev eY(Y:List Addr)(U:ac)(h:Heap):List Value->List V->Prop:=Paired (aE Y U h)variable {iW c':Cell}{bj hd':Heap}
theorem aE.mono(hb:∀(n:Nat) (a:Addr),Y[n]?=some a->ag[n]?=some a)(H:∀x o vs n,h.get? x=some o->xy o vs n->¬ TT Y U x->bj.get? x=some o/\¬ TT ag aa x){x:V}(r:aE Y U h v x):aE ag aa bj v x:=by
 cases x with
 |un=>exact r
 |d _=>exact Rel.mono H r
 |loc _=>obtain⟨x,h1,h2⟩:=r;exact⟨x,hb _ _ h1,h2⟩
 |exc _ _=>obtain⟨e,o,vs,h1,h2,h3,h4⟩:=r;have q:=H e o vs 0 h2 (.inr ⟨_,h3.1,.inl h3.2.1⟩) h4;exact⟨e,o,vs,h1,q.1,h3,q.2⟩theorem Step.vrel0(a:Step cz Y U s ag aa ai){x:V}(r:aE Y U s.heap v x):aE ag aa ai.heap v x:=r.mono (λ_ _ e=>a.get e) (a.relH λ_ z=>z.elim)theorem Step.rel0(a:Step cz Y U s ag aa ai)(r:Rel (TT Y U) s.heap v d):Rel (TT ag aa) ai.heap v d:=a.rel (λ_ z=>z.elim) (r)theorem Step.relAll0(a:Step cz Y U s ag aa ai){v:List Value}{d:List PyData}(r:RelAll (TT Y U) s.heap v d):RelAll (TT ag aa) ai.heap v d:=a.relAll (λ_ z=>z.elim) r
theorem Step.grow(hk:∀a o,s.heap.get? a=some o->ai.heap.get? a=some o)(hg:ai.gens=s.gens)(ho:ai.os=s.os):Step O Y U s Y U ai:=
 ⟨⟨[],by simp,by simp⟩,λk c' _ e=>⟨c',e,id,id,id⟩,Ja λa o e _ _=>hk a o e,λa e=>(by
   cases q:s.heap.get? a with
   |none=>rfl
   |some o=>rw[hk a o q]at e;injection e),hg,ho⟩
theorem jW.mono{l:List (Str×PyData)}(r:jW Z T h hd a l)(ha:∀o,h.get? a=some o->h'.get? a=some o)
   (H:∀a o vs n,hd.get? a=some o->xy o vs n->¬ T a->hd'.get? a=some o/\¬ T' a):jW Z T' h' hd' a l:=by
 obtain⟨kvs,⟨o,es,ep,e1,e2⟩,q,r,st,su⟩:=r;exact⟨kvs,⟨o,es,ep,ha _ e1,e2⟩,q,r.mono H,st,su⟩
theorem fQ.mono(r:fQ Z T h hd a c)(ha:∀o,h.get? a=some o->h'.get? a=some o)
   (H:∀a o vs n,hd.get? a=some o->xy o vs n->¬ T a->hd'.get? a=some o/\¬ T' a):fQ Z T' h' hd' a c:=by
 cases c with
 |lst l=>obtain⟨vs,n,e,r,z⟩:=r;exact⟨vs,n,ha _ e,r.mono H,z⟩
 |dct l=>exact jW.mono r ha H
 |gone=>obtain⟨o,e⟩:=r;exact⟨o,ha _ e⟩
 |busy=>obtain⟨o,e⟩:=r;exact⟨o,ha _ e⟩
theorem Inv.grow(I:Inv Z Y U h)(hk:∀a o,h.get? a=some o->h'.get? a=some o):Inv Z Y U h':=
 ⟨I.len,I.nodup,λa o e=>hk a o (I.base a o e),I.fresh,λk a c h1 h2=>(I.cell k a c h1 h2).mono (λo e=>hk a o e) λa o _ _ e _ t=>⟨hk a o e,t⟩⟩
theorem Bc(hl:Y.length=U.length):TT (Y++[a]) (U++[c]) x↔TT Y U x\/(x=a/\c.isGone=false):=by
 constructor
 . rintro⟨k,c',h1,h2,h3⟩
   by_cases hk:k < Y.length
   . rw[P1 hk]at h1;rw[P1 (hl▸hk)]at h2;exact .inl ⟨k,c',h1,h2,h3⟩
   . rw[PW (QD hk)]at h1;rw[PW (hl▸QD hk)]at h2;have e:k - Y.length=0:=S8.mp (Pz.mp h1).1;rw[e]at h1;rw[<- hl,e]at h2;simp at h1 h2;subst h1 h2;exact .inr ⟨rfl,h3⟩
 . rintro (⟨k,c',h1,h2,h3⟩|⟨rfl,h3⟩)
   . exact⟨k,c',by rw[P1 (Pz.mp h1).1];exact h1,by rw[P1 (Pz.mp h2).1];exact h2,h3⟩
   . exact⟨Y.length,c,by simp,by rw[hl];simp,h3⟩
theorem uO(I:Inv Z Y U s.heap)(hk:∀a o,s.heap.get? a=some o->ai.heap.get? a=some o)(hf:s.heap.get? a=none)(hg:ai.gens=s.gens)(ho:ai.os=s.os)
   (hc:fQ Z (TT Y U) ai.heap s.heap a c):Step O Y U s (Y++[a]) (U++[c]) ai/\Inv Z (Y++[a]) (U++[c]) ai.heap:=by
 have hna:a∉Y:=λm=>by obtain⟨o,e⟩:=I.ex m;rw[hf]at e;injection e
 have H0:∀x o vs n,s.heap.get? x=some o->xy o vs n->¬ TT Y U x->ai.heap.get? x=some o/\¬ TT (Y++[a]) (U++[c]) x:=λx o vs n e d t=>⟨hk x o e,λz=>((Bc I.len).mp z).elim t λq=>by rw[q.1,hf]at e;injection e⟩
 refine⟨⟨⟨[a],rfl,by simpa using hf⟩,λk c' hk' e=>?_,Ja λx o e _ _=>hk x o e,λx e=>?_,hg,ho⟩,⟨by simp[I.len],?_,λx o e=>hk x o (I.base x o e),?_,?_⟩⟩
 . rw[P1 (by exact I.len▸hk')]at e;exact⟨c',e,id,id,id⟩
 . cases q:s.heap.get? x with
   |none=>rfl
   |some o=>rw[hk x o q]at e;injection e
 . rw[RF];exact⟨I.nodup,by simp,λx hx y hy=>by simp at hy;clear hc H0;subst hy;rintro rfl;exact hna hx⟩
 . intro x hx;rcases PQ.mp hx with h1|h1
   . exact I.fresh x h1
   . simp at h1;clear H0;subst h1;cases q:Z.h₀.get? x with
     |none=>rfl
     |some o=>rw[I.base x o q]at hf;injection hf
 . intro k x c' h1 h2;by_cases hk':k < Y.length
   . rw[P1 hk']at h1;rw[P1 (by exact I.len▸hk')]at h2;exact(I.cell k x c' h1 h2).mono (λo e=>hk x o e) H0
   . rw[PW (QD hk')]at h1;rw[PW (by rw[<- I.len];exact QD hk')]at h2;have e:k - Y.length=0:=S8.mp (Pz.mp h1).1;rw[e]at h1;rw[<- I.len,e]at h2;simp at h1 h2;subst h1 h2;exact hc.mono (λo e=>e) (H0)theorem d3(hne:n≠k):(U.set n c)[k]?=U[k]?:=by simp[hne]theorem dg(hn:U[n]?=some iW):(U.set n c)[n]?=some c:=by have:=(Pz.mp hn).1;simp[this]
theorem d9{P:Prop}(hn:U[n]?=some iW)(e:(U.set n c)[k]?=some c')(h1:k=n->c'=c->P)(h2:n≠k->U[k]?=some c'->P):P:=by
 by_cases hne:n=k
 . rw[<- hne,dg hn]at e;exact h1 hne.symm (Option.some.inj e).symm
 . rw[d3 hne]at e;exact h2 hne (e)theorem oa(hn:U[n]?=some iW)(hg:iW.isGone=false)(z:TT Y (U.set n c) x):TT Y U x:=by obtain⟨k,c',h1,h2,h3⟩:=z;exact d9 hn h2 (λe _=>⟨k,iW,h1,e▸hn,hg⟩) λ_ h2=>⟨k,c',h1,h2,h3⟩theorem Inv.addr_ne(I:Inv Z Y U h)(hb:Y[n]?=some a)(h1:Y[k]?=some x)(hne:n≠k):x≠a:=λq=>hne ((Tb (Pz.mp hb).1 I.nodup).mp (hb.trans (q▸h1).symm))
theorem Inv.setc(I:Inv Z Y U h)(hb:Y[n]?=some a)(hn:U[n]?=some iW)(base:∀x o,Z.h₀.get? x=some o->h'.get? x=some o)(keep:∀x o,x≠a->h.get? x=some o->h'.get? x=some o)
   (H0:∀x o vs n',h.get? x=some o->xy o vs n'->¬ TT Y U x->h'.get? x=some o/\¬ TT Y (U.set n c) x) (hc:fQ Z (TT Y (U.set n c)) h' h' a c):Inv Z Y (U.set n c) h':=
 ⟨I.len.trans (Sp ..).symm,I.nodup,base,I.fresh,λk x c' h1 h2=>d9 hn h2 (λe e'=>by rw[e',Option.some.inj (h1.symm.trans (e▸hb))];exact hc) λhne h2=>(I.cell k x c' h1 h2).mono (λo e=>keep x o (I.addr_ne hb h1 hne) e) H0⟩
theorem oA(I:Inv Z Y U s.heap)(hb:Y[n]?=some a)(hn:U[n]?=some iW)(hl:iW.live=true)(hk:∀x o,x≠a->s.heap.get? x=some o->ai.heap.get? x=some o)
   (hg:ai.gens=s.gens) (ho:ai.os=s.os) (hc:fQ Z (TT Y U) ai.heap s.heap a c):Step O Y U s Y (U.set n c) ai/\Inv Z Y (U.set n c) ai.heap:=by
 have gn:=Cell.live_not_gone hl;have H0:∀x o vs n',s.heap.get? x=some o->xy o vs n'->¬ TT Y U x->ai.heap.get? x=some o/\¬ TT Y (U.set n c) x:=λx o vs n' e d t=>⟨hk x o (λq=>t (q▸⟨n,iW,hb,hn,gn⟩)) e,λz=>t (oa hn gn z)⟩
 refine⟨⟨⟨[],(P4 _).symm,λ_ z=>absurd z QG⟩,λk c' hk' e=>d9 hn e (λe _=>⟨iW,e▸hn,λ_=>hl,λz=>absurd (gn.symm.trans z) PY,λz=>absurd hl (z▸PY)⟩) λ_ e=>⟨c',e,id,id,id⟩,Ja λx o e hw _=>hk x o (λq=>hw (q▸⟨n,iW,hb,hn,hl⟩)) e,λx e=>?_,hg,ho⟩,
   I.setc hb hn (λx o e=>hk x o (λq=>?_) (I.base x o e)) hk H0 (hc.mono (λo e=>e) H0)⟩
 . cases q:s.heap.get? x with
   |none=>rfl
   |some o=>
     by_cases hx:x=a
     . refine hc.ex.elim λo' e'=>?_;rw[hx,e']at e;injection e
     . rw[hk x o hx q]at e;injection e
 . exact SO o (e.symm.trans (q▸I.fresh a (PC hb)))
theorem uy(I:Inv Z Y U s.heap)(hb:Y[n]?=some a)(hn:U[n]?=some iW)(hl:iW.live=true)(hc:c.live=false):Step O Y U s Y (U.set n c) s/\Inv Z Y (U.set n c) s.heap:=by
 have hg:=Cell.live_not_gone hl;refine⟨⟨⟨[],(P4 _).symm,λ_ z=>absurd z QG⟩,λk c' hk' e=>d9 hn e (λe e'=>⟨iW,e▸hn,λz=>absurd (hc.symm.trans (e'▸z)) PY,λz=>absurd (hg.symm.trans z) PY,λz=>absurd hl (z▸PY)⟩) λ_ e=>⟨c',e,id,id,id⟩,Ja λx o e hw _=>e,λx e=>e,rfl,rfl⟩,
   I.setc hb hn I.base (λ_ _ _ e=>e) (λx o vs n' e d t=>⟨e,λz=>t (oa hn hg z)⟩) ?_⟩
 have z:=(I.cell n a iW hb hn).ex;cases c with
 |lst l=>injection hc
 |dct l=>injection hc
 |gone=>exact z
 |busy=>exact z
theorem yZ(I:Inv Z Y U s.heap)(hb:Y[n]?=some a)(hn:U[n]?=some (.lst l)):Rel (TT Y (U.set n .gone)) s.heap (.ref a) (.list l):=by
 obtain⟨vs,m,e,r,hz⟩:=I.cell n a _ hb hn;refine .list e ?_ hz (r.mono λx o vs n' e d t=>⟨e,λz=>t (oa hn rfl z)⟩)
 rintro⟨k,c',h1,h2,h3⟩
 exact d9 hn h2 (λ_ e=>Q3 (h3.symm.trans (congrArg Cell.isGone e))) λhne _=>I.addr_ne hb h1 hne rfl
theorem Bp(I:Inv Z Y U s.heap)(hb:Y[n]?=some a)(hn:U[n]?=some (.lst l))(S:Step O Y (U.set n .busy) s ag aa ai)(hO:∀x,O x->¬ cj s.heap x)(ay:Inv Z ag aa ai.heap) :
   Step O Y U s ag (aa.set n (.lst l)) ai/\Inv Z ag (aa.set n (.lst l)) ai.heap:=by
 obtain⟨vs,m,e,r,hz⟩:=I.cell n a _ hb hn;have I3:=S.get hb;have ny:aa[n]?=some .busy:=by obtain⟨Om,ny,_⟩:=ay.at I3;obtain⟨c',k1,k2,k3,k4⟩:=S.mono n Om (Pz.mp hb).1 ny;rw[dg hn]at k1;rw[ny,k4 (Option.some.inj k1).symm]
 have H0:∀x o vs' n',ai.heap.get? x=some o->xy o vs' n'->¬ TT ag aa x->ai.heap.get? x=some o/\¬ TT ag (aa.set n (.lst l)) x:=λx o _ _ ex _ t=>⟨ex,λz=>t (oa ny rfl z)⟩;refine⟨⟨S.ext,λk c' hk e=>d9 ny e (λe e'=>⟨_,e▸hn,(λ_=>rfl),(λz=>by injection z),λz=>by injection z⟩) λhne e=>?_,λx o ex hw hO'=>S.keepW x o ex (λ⟨k,c',h1,h2,h3⟩=>d9 hn h2 (λ_ e=>Q3 (h3.symm.trans (congrArg Cell.live e))) λ_ h2=>hw ⟨k,c',h1,h2,h3⟩) hO',S.alive,S.gens,S.os⟩,
   ay.setc I3 ny ay.base (λ_ _ _ e=>e) H0 ⟨vs,m,(S.keep a _ e (λ⟨k,c',h1,h2,h3⟩=>d9 hn h2 (λ_ e=>Q3 (h3.symm.trans (congrArg Cell.live e))) λhne _=>I.addr_ne hb h1 hne rfl) (λz=>hO a z ⟨_,vs,m,e,.inl rfl⟩) (tG (.inl rfl))),r.mono λx o vs' n' ex d t=>?_,hz⟩⟩
 . obtain⟨c,g1,g2,g3,g4⟩:=S.mono k c' hk e;rw[d3 hne]at g1;exact⟨c,g1,g2,g3,g4⟩
 . have q:=S.relH hO x o vs' n' ex d λz=>t (oa hn rfl z);exact H0 x o vs' n' q.1 d q.2
set_option tactic.hygienic true in
theorem nZ:TT (Y.take n) (U.take n) x->TT Y U x:=by
 rintro⟨k,c,h1,h2,h3⟩
 rw[Rj]at h1 h2;split at h1
 . rename_i hk;rw[if_pos hk]at h2;exact⟨k,c,h1,h2,h3⟩
 . injection h1
set_option tactic.hygienic true in
theorem Inv.take(I:Inv Z Y U h)(n:Nat):Inv Z (Y.take n) (U.take n) h:=by
 refine⟨by simp[I.len],I.nodup.sublist (R5 ..),I.base,λa ha=>I.fresh a (P8 ha),λk a c h1 h2=>?_⟩;rw[Rj]at h1 h2;split at h1
 . rename_i hk;rw[if_pos hk]at h2;exact(I.cell k a c h1 h2).mono (λo e=>e) λx o _ _ e _ t=>⟨e,λz=>t (nZ z)⟩
 . injection h1
theorem Step.take(a:Step O Y U s ag aa ai)(hl:Y.length=U.length)(OZ:ag.length=aa.length):Step O Y U s (ag.take U.length) (aa.take U.length) ai:=by obtain⟨e,rfl,f⟩:=a.ext;refine⟨⟨[],by simp[<- hl],by simp⟩,λk c' hk hc=>a.mono k c' hk ?_,a.keepW,a.alive,a.gens,a.os⟩;rw[Rj,if_pos (hl▸hk)]at hc;exact(hc)theorem Gu(r:Rel (TT Y U) h v d):Rel (TT (Y.take n) (U.take n)) h v d:=r.mono λx o _ _ e _ t=>⟨e,λz=>t (nZ z)⟩
theorem FV(hb:Y[k]?=some a)(hc:U[k]?=some c)(hl:Y.length=U.length):TT (Y.take n++[a]) (U.take n++[c]) x->TT Y U x:=λz=>by
 rcases (Bc (by simp[hl])).mp z with z|⟨rfl,z'⟩
 . exact nZ z
 . exact⟨k,c,hb,hc,z'⟩
theorem HR(S:Step O Y U s ag aa ai)(hl:Y.length=U.length)(ay:Inv Z ag aa ai.heap)(hk:U.length<=k)(hb:ag[k]?=some a)(hc:aa[k]?=some c) :
   Step O Y U s (ag.take U.length++[a]) (aa.take U.length++[c]) ai/\Inv Z (ag.take U.length++[a]) (aa.take U.length++[c]) ai.heap:=by
 have Ue:=ay.take U.length;obtain⟨e,rfl,f⟩:=S.ext;have ha:a∈e:=by rw[PW (hl▸hk)]at hb;exact PC hb
 have hlen:(List.take U.length aa).length=U.length:=by rw[Ql];exact Qm (Qd (P6 hk (Pz.mp hc).1))
 have hβ:List.take U.length (Y++e)=Y:=by simp[<- hl]
 have H0:∀x o vs n,ai.heap.get? x=some o->xy o vs n->¬ TT (Y++e) aa x->ai.heap.get? x=some o/\¬ TT ((Y++e).take U.length++[a]) (aa.take U.length++[c]) x:=
   λx o _ _ ex _ t=>⟨ex,λz=>t (FV hb hc ay.len z)⟩
 refine⟨⟨⟨[a],by rw[hβ],by simpa using f a ha⟩,λj c' hj hc'=>?_,S.keepW,S.alive,S.gens,S.os⟩,⟨by simp[hβ,hlen,hl],?_,ay.base,λx hx=>?_,λj x c' h1 h2=>?_⟩⟩
 . rw[P1 (by rw[hlen,<- hl];exact hj)]at hc';exact(S.take hl ay.len).mono j c' hj hc'
 . rw[hβ,RF];have nd:=RF.mp ay.nodup;exact⟨nd.1,by simp,λx hx y hy=>by simp at hy;clear H0;subst hy;exact nd.2.2 x hx y ha⟩
 . rcases PQ.mp hx with h1|h1
   . exact Ue.fresh x h1
   . simp at h1;clear H0;subst h1;exact ay.fresh x (QH _ ha)
 . by_cases hj:j < Y.length
   . rw[hβ,P1 hj]at h1;rw[P1 (by rw[hlen,<- hl];exact hj),Rj,if_pos (hl▸hj)]at h2;exact(ay.cell j x c' (by rw[P1 hj];exact h1) h2).mono (λo e=>e) H0
   . rw[hβ,PW (QD hj)]at h1;rw[PW (by rw[hlen,<- hl];exact QD hj)]at h2;have ej:j - Y.length=0:=S8.mp (Pz.mp h1).1;rw[ej]at h1;rw[hlen,<- hl,ej]at h2;simp at h1 h2;subst h1 h2;exact(ay.cell k a c hb hc).mono (λo e=>e) (H0)def lS(Z:Cx)(d:Nat)(A:Around):Prop:=(Z.q=false->A.handled=none)/\A.depth+d+2 < recursionLimit/\A.units+8 * d+200 < cLine/\∃l:List Env,A3 (A.frames=some l) (l.map (·.frame)=Z.fr.map some) (∀env∈l,env.scope.kind=.function)variable {A:Around}{d:Nat}theorem lS.room(h:lS Z d A):A.units+200 < cLine:=P6 (PJ (PU _ _) _) h.2.2.1
theorem lS.deeper(env:Env){f:Addr}(hf:env.frame=some f)(hk:env.scope.kind=.function)(h:lS Z (d+1) A):lS { Z with fr:=f::Z.fr } d (A.deeper env):=by
 obtain⟨h1,h2,h3,l,h4,h5,h6⟩:=h;refine⟨h1,QP A.depth 1 d▸h2,P6 (PJ (by show A.units+3+8 * d<=_;rw[Qo,Qu 3];exact Qe (Qe (by decide) _) _) _) h3,env::l,Around.frames_deeper h4,?_,λe he=>?_⟩
 . rw[Qq,Qq,hf,h5]
 . rcases PM.mp he with rfl|he
   . exact hk
   . exact h6 e he
inductive Po(Z:Cx)(O:Addr->Prop)(Y:List Addr)(U:ac)(s:Shared)(σ':ac)(s':Shared)(R:List Addr->Prop):Prop where
 |mk (β':List Addr) (S:Step O Y U s β' σ' s') (I:Inv Z β' σ' s'.heap) (r:R β'):Po Z O Y U s σ' s' R
def Ev{B γ:Type}(Z:Cx)(O:Addr->Prop)(A:Around)(t:Sem B)(r:Res γ)(R:B->γ->List Addr->ac->Heap->Prop)(Y:List Addr)(U:ac)(s:Shared):Prop:=
 ∀c σ',r=.ok c σ'->WP Z A t (λa s'=>Po Z O Y U s σ' s' λβ'=>R a c β' σ' s'.heap) (λ_ _=>False) s
variable {pos:Pos}{r:Res γ}{t:Sem B}{R:B->γ->List Addr->ac->Heap->Prop}{c:γ}
section
variable {α' γ':Type}{R':α'->γ'->List Addr->ac->Heap->Prop}
theorem Ev.bind{m:Sem B}{f:B->Sem α'}{k:γ->ac->Res γ'}(h:Ev Z O A m r R Y U s)
   (hf:∀a c β' σ' s',Step O Y U s β' σ' s'->Inv Z β' σ' s'.heap->R a c β' σ' s'.heap->r=.ok c σ'->Ev Z O A (f a) (k c σ') R' β' σ' s'):Ev Z O A (m >>= f) (r.bind k) R' Y U s:=by
 intro c' σ' e;cases r with
 |bad=>injection e
 |ok c aa=>refine OJ (PO (h c aa rfl) (λa ai bj=>?_) λ_ _ x=>x);obtain⟨ag,aH,ay,wq⟩:=bj;refine PO (hf a c ag aa ai aH ay wq rfl c' σ' e) (λa' aq gg=>?_) λ_ _ x=>x;obtain⟨a5,cC,cD,uD⟩:=gg;exact⟨a5,aH.trans cC,cD,uD⟩theorem Ev.bad:Ev Z O A t (.bad:Res γ) R Y U s:=λ_ _ e=>by injection e
theorem Ev.pure{a:B}(I:Inv Z Y U s.heap)(h:R a c Y U s.heap):Ev Z O A (pure a) (.ok c U) R Y U s:=λ_ _ e=>by injection e with e f;subst e;subst f;exact PH ⟨Y,Step.refl,I,h⟩theorem Ev.holding(h:Ev Z O A t r R Y U s):Ev Z O A (holding vs t) r R Y U s:=λc σ' e=>QR (h c σ' e)theorem Ev.standAt(h:Ev Z O A t r R Y U s):Ev Z O A (standAt pos >>= λ_=>t) r R Y U s:=λc σ' e=>OJ (Qy (h c σ' e))theorem Ev.done(h:WP Z A t (λa s'=>Po Z O Y U s aa s' λβ'=>R a c β' aa s'.heap) (λ_ _=>False) s):Ev Z O A t (.ok c aa) R Y U s:=λ_ _ e=>by injection e with e f;subst e;subst f;exact h
theorem Ev.grown(I:Inv Z Y U s.heap)(h:WP Z A t (λa s'=>(∀b o,s.heap.get? b=some o->s'.heap.get? b=some o)/\s'.gens=s.gens/\s'.os=s.os/\R a c Y U s'.heap) (λ_ _=>False) s) :
   Ev Z O A t (.ok c U) R Y U s:=Ev.done (PO h (λa s' ⟨hk,hg,ho,r⟩=>⟨Y,Step.grow hk hg ho,I.grow hk,r⟩) λ_ _ x=>x)
end
abbrev VR:Value->V->List Addr->ac->Heap->Prop:=λv x Y U h=>aE Y U h v (x)abbrev OB:List Value->List V->List Addr->ac->Heap->Prop:=λv x Y U h=>eY Y U h v x
structure World0(Z:Cx):Prop where
 g:Z.h₀.Ns mainGlobals Z.mg
 b:Z.h₀.Ns builtinsNs Z.mb
 nolimit:Z.h₀.NoLimit
theorem World0.keeps(W:World0 Z)(I:Inv Z Y U h):h.Ns mainGlobals Z.mg/\h.Ns builtinsNs Z.mb/\h.NoLimit:=
 ⟨W.g.keeps I.base,W.b.keeps I.base,W.nolimit.keeps I.base⟩def own(env:Env)(a:Addr):Prop:=a=env.locals\/∃x,env.cells.lookup x=some a
inductive FNs(env:Env)(sc:SC)(K:Fm)(Y:List Addr)(U:ac)(h:Heap):Prop
 |mk (m:Str->Option Value) (N:h.Ns env.locals m) (q:∀x i,sc.lookup x=some i->env.kindOf x=some .local->∀v:V,K[i]?=some v->v≠.un->∃w,m x=some w/\aE Y U h w v):FNs env sc K Y U h
inductive FC1(env:Env)(sc:SC)(K:Fm)(Y:List Addr)(U:ac)(h:Heap)(x:Str)(c:Addr):Prop
 |mk (ov:Option Value) (C:h.IsCell c ov) (q:∀i,sc.lookup x=some i->(env.kindOf x=some .cell\/env.kindOf x=some .free)->∀v:V,K[i]?=some v->v≠.un->∃w,ov=some w/\aE Y U h w v):FC1 env sc K Y U h x c
def NJ(env:Env)(sc:SC)(K:Fm)(Y:List Addr)(U:ac)(h:Heap):Prop:=∀x c,env.cells.lookup x=some c->FC1 env sc K Y U h x (c)def vI(env:Env)(ks:KS):Prop:=∀x k,ks.lookup x=some k->env.kindOf x=some k\/(k=.free/\env.kindOf x=some .cell)noncomputable def vJ (env:Env) (sc:SC):Prop:=∀x i,sc.lookup x=some i->(env.kindOf x=some .local\/((env.kindOf x=some .cell\/env.kindOf x=some .free)/\∃c,env.cells.lookup x=some c))/\(x==("__classdict__":Str))=false
def x7(env:Env):Prop:=∀x y c,env.cells.lookup x=some c->env.cells.lookup y=some c->x=y
structure FrameOk(Z:Cx)(env:Env)(ks:KS)(sc:SC)(K:Fm)(Y:List Addr)(U:ac)(h:Heap):Prop where
 kind:env.scope.kind=.function
 globals:env.globals=mainGlobals
 builtins:env.builtins=builtinsNs
 kinds:vI env ks
 bound:vJ env sc
 inj:∀x y i,sc.lookup x=some i->sc.lookup y=some i->x=y
 ns:FNs env sc K Y U h
 cell:NJ env sc K Y U h
 apart:∀a,own env a->a∉Y/\Z.h₀.get? a=none
 cinj:x7 env
 cloc:∀x,env.cells.lookup x≠some env.locals
 frs:gk Z Y h
variable {W:Addr->Prop}{env:Env}{ks:KS}{j tk:Nat}{sc:SC}{x y:Str}{Q:Unit->Shared->Prop}{v:V}
theorem FrameOk.ownSome(F:FrameOk Z env ks sc K Y U h)(ha:own env a):∃o,h.get? a=some o/\¬ X2 λvs n=>xy o vs n:=by
 rcases ha with rfl|⟨x,e⟩
 . refine kk λUc k=>?_;obtain⟨m,⟨o,es,ep,ho,hd,_⟩,_⟩:=F.ns;refine k ?_;exact⟨o,ho,λ⟨vs,n,q⟩=>by rcases q with q|⟨_,_,q|q⟩<;>rw[hd]at q<;>injection q⟩
 . obtain⟨ov,⟨o,ho,hd⟩,_⟩:=F.cell x a e;exact⟨o,ho,λ⟨vs,n,q⟩=>by rcases q with q|⟨_,_,q|q⟩<;>rw[hd]at q<;>injection q⟩theorem FrameOk.notSeq(F:FrameOk Z env ks sc K Y U h):∀a,own env a->¬ cj h a:=λa ha ⟨o,vs,n,e,d⟩=>by obtain⟨o',e',q⟩:=F.ownSome ha;rw[e]at e';injection e' with e;subst e;exact q ⟨vs,n,d⟩
theorem FrameOk.step(F:FrameOk Z env ks sc K Y U s.heap)(S:Step cz Y U s ag aa ai):FrameOk Z env ks sc K ag aa ai.heap:=by
 have keep:∀a,own env a->∀o,s.heap.get? a=some o->∃sl,ai.heap.get? a=some { o with slots:=sl }:=λa ha o e=>(S.keepW a o e (λz=>(F.apart a ha).1 z.tt.mem) id).elim (λq=>⟨o.slots,q⟩) λq=>q.2.2
 refine⟨F.kind,F.globals,F.builtins,F.kinds,F.bound,F.inj,?_,?_,?_,F.cinj,F.cloc,F.frs.step S λ_ _ z=>z⟩
 . refine kk λUc k=>?_;obtain⟨m,⟨o,es,ep,ho,r⟩,q⟩:=F.ns;obtain⟨sl,ho⟩:=keep _ (.inl rfl) o ho;refine k ?_;exact⟨m,⟨_,es,ep,ho,r⟩,λx i h1 h2 v h3 h4=>let ⟨w,g1,g2⟩:=q x i h1 h2 v h3 h4;⟨w,g1,S.vrel0 g2⟩⟩
 . intro x c e;refine kk λUc k=>?_;obtain⟨ov,⟨o,ho,hd⟩,q⟩:=F.cell x c e;obtain⟨sl,ho⟩:=keep c (.inr ⟨x,e⟩) o ho;refine k ?_;exact⟨ov,⟨_,ho,hd⟩,λi h1 h2 v h3 h4=>let ⟨w,g1,g2⟩:=q i h1 h2 v h3 h4;⟨w,g1,S.vrel0 g2⟩⟩
 . intro a ha;refine⟨λm=>?_,(F.apart a ha).2⟩;obtain⟨e,rfl,f⟩:=S.ext;rcases PQ.mp m with m|m
   . exact(F.apart a ha).1 m
   . obtain⟨o,e',_⟩:=F.ownSome ha;rw[f a m]at e';injection e'
theorem FrameOk.load(F:FrameOk Z env ks sc K Y U s.heap){E:VP}{Q:VP}(hx:sc.lookup x=some i)(hv:K[i]?=some v)(hu:v≠.un)
   (h:∀w,aE Y U s.heap w v->Q w s):WP Z A (loadName env x) Q E s:=by
 rcases F.bound x i hx with⟨hk|⟨hk,c,hc⟩,hn⟩
 . refine kk λUc k=>?_;obtain⟨m,N,q⟩:=F.ns;obtain⟨w,e,r⟩:=q x i hx hk v hv hu;refine k ?_;exact wpAny_loadName_local F.kind hk N e (h w r)
 . obtain⟨ov,C,q⟩:=F.cell x c hc;obtain⟨w,rfl,r⟩:=q i hx hk v hv hu;rcases hk with hk|hk
   . exact wpAny_loadName_cell F.kind hk hc C (h w r)
   . exact wpAny_loadName_free F.kind hk hc C (h w r) (hn)theorem j8(hs:∀b o,¬ W b->h.get? b=some o->h'.get? b=some o)(hn:∀a,W a->¬ cj h a){w:Value}(r:aE Y U h w v):aE Y U h' w v:=r.mono (λ_ _ e=>e) λx o vs n e d t=>⟨hs x o (λq=>hn x q ⟨o,vs,n,e,d⟩) e,t⟩theorem gF(hs:∀b o,b≠a->h.get? b=some o->h'.get? b=some o)(hn:¬ cj h a){w:Value}(r:aE Y U h w v):aE Y U h' w v:=j8 (W:=(·=a)) hs (λ_ q=>q▸hn) (r)theorem g8(hne:i≠j):(K.set i v)[j]?=K[j]?:=by simp[hne]theorem Do{u:V}(h:(K.set i v)[i]?=some u):v=u:=by have l:=(Pz.mp h).1;rw[Sp]at l;rw[List.getElem?_set_self l]at h;exact Option.some.inj h
theorem FrameOk.stored(F:FrameOk Z env ks sc K Y U s.heap)(I:Inv Z Y U s.heap){w:Value}{Q:Shared->Prop}
   (h:∀s',FrameOk Z env ks sc (K.set i v) Y U s'.heap->Step (own env) Y U s Y U s'->Inv Z Y U s'.heap->(∀u y,aE Y U s.heap u y->aE Y U s'.heap u y)->(env.kindOf x=some .local->(∀b o,b≠env.locals->s.heap.get? b=some o->s'.heap.get? b=some o)/\∃m,s'.heap.Ns env.locals m/\m x=some w)->Q s')
   (ha:own env a) (hloc:env.kindOf x=some .local->a=env.locals/\∃m,h'.Ns env.locals m/\m x=some w) (hs:Heap.SameBut a s.heap h') (hal:h'.get? a≠none) (f1:FNs env sc (K.set i v) Y U h') (f2:NJ env sc (K.set i v) Y U h'):Q { s with heap:=h',toks:=tk }:=by
 have hk:∀b o,b≠a->s.heap.get? b=some o->h'.get? b=some o:=λb o hb e=>(hs.2 b hb).trans e;refine h _ ⟨F.kind,F.globals,F.builtins,F.kinds,F.bound,F.inj,f1,f2,F.apart,F.cinj,F.cloc,F.frs.grow λf o hf e q=>?_⟩ ⟨⟨[],(P4 _).symm,λ_ z=>absurd z QG⟩,λk c' _ e=>⟨c',e,id,id,id⟩,Ja λb o e _ hb=>hk b o (λq=>hb (q▸ha)) e,λb e=>?_,rfl,rfl⟩ ?_ (λu y r=>gF hk (F.notSeq a ha) r) λhl=>⟨λb o hb e=>hk b o (λq=>hb (q.trans (hloc hl).1)) e,(hloc hl).2⟩
 . by_cases hb:f=a
   . rw[hb]at e ⊢;clear hb h hloc hs hal hk;rcases ha with z|⟨y,hy⟩
     . obtain⟨m,⟨o',es,ep,ho',hd',_⟩,_⟩:=f1;exact⟨o',z▸ho',es,ep,hd'⟩
     . obtain⟨ov,⟨o',ho',hd'⟩,_⟩:=F.cell y a hy;rw[e]at ho';obtain⟨es,n,q⟩:=q;rw[Option.some.inj ho',hd']at q;injection q
   . exact⟨o,hk f o hb e,q⟩
 . by_cases hb:b=a
   . exact absurd (hb▸e) hal
   . exact(hs.2 b hb).symm.trans e
 . refine⟨I.len,I.nodup,λb o e=>hk b o (λq=>?_) (I.base b o e),I.fresh,λk b c h1 h2=>(I.cell k b c h1 h2).mono (λo e=>hk b o (λq=>(F.apart a ha).1 (q▸PC h1)) e) λb o vs n e d t=>⟨hk b o (λq=>?_) e,t⟩⟩
   . have z:=(F.apart a ha).2;rw[<- q,e]at z;injection z
   . exact F.notSeq a ha (q▸⟨o,vs,n,e,d⟩)
theorem NJ.other(F:FrameOk Z env ks sc K Y U s.heap){c:Addr}(hs':Heap.SameBut c s.heap h')(hown:own env c){c':Addr}(e:env.cells.lookup y=some c')(hne:c'≠c)(hij:∀j,sc.lookup y=some j->(env.kindOf y=some .cell\/env.kindOf y=some .free)->i≠j) :
   FC1 env sc (K.set i v) Y U h' y c':=by
 obtain⟨ov,C,q'⟩:=F.cell y c' e;refine⟨ov,C.sameBut hs' hne,λj h1 h2 u h3 h4=>?_⟩;rw[g8 (hij j h1 h2)]at h3;obtain⟨w',g1,g2⟩:=q' j h1 h2 u h3 h4;exact⟨w',g1,gF (λb o hb e=>(hs'.2 b hb).trans e) (F.notSeq c hown) g2⟩
theorem FrameOk.store(F:FrameOk Z env ks sc K Y U s.heap)(I:Inv Z Y U s.heap){E:VP}{w:Value}(hx:sc.lookup x=some i)(r:aE Y U s.heap w v)
   (h:∀s',FrameOk Z env ks sc (K.set i v) Y U s'.heap->Step (own env) Y U s Y U s'->Inv Z Y U s'.heap->(∀u y,aE Y U s.heap u y->aE Y U s'.heap u y)->(env.kindOf x=some .local->(∀b o,b≠env.locals->s.heap.get? b=some o->s'.heap.get? b=some o)/\∃m,s'.heap.Ns env.locals m/\m x=some w)->Q () s'):WP Z A (storeName env x w) Q E s:=by
 rcases F.bound x i hx with⟨hk|⟨hk,c,hc⟩,hn⟩
 . obtain⟨m,N,q⟩:=F.ns;refine wpAny_storeName_local hk N (λh' hn' hs'=>?_) (by rw[F.kind];rfl);refine F.stored I h (.inl rfl) (λ_=>⟨rfl,_,hn',if_pos rfl⟩) hs' ?_ ⟨_,hn',λy j h1 h2 u h3 h4=>?_⟩ λy c' e=>?_
   . obtain⟨o,_,_,ho,_⟩:=hn';rw[ho];exact SO _
   . clear h hn N;have keep:∀u y,aE Y U s.heap u y->aE Y U h' u y:=λu y=>gF (λb o hb e=>(hs'.2 b hb).trans e) (F.notSeq env.locals (.inl rfl));by_cases hyx:y=x
     . rw[hyx,hx]at h1;rw[<- Option.some.inj h1]at h3;exact⟨w,if_pos hyx,keep _ _ (Do h3▸r)⟩
     . rw[g8 λ(e:i=j)=>hyx (F.inj y x i (e▸h1) hx)]at h3;obtain⟨w',g1,g2⟩:=q y j h1 h2 u h3 h4;exact⟨w',(if_neg hyx).trans g1,keep _ _ g2⟩
   . refine NJ.other F hs' (.inl rfl) e (λz=>F.cloc y (z▸e)) λj h1 h2 z=>?_;rw[F.inj y x i (z▸h1) hx,hk]at h2;rcases h2 with h2|h2<;>(injection h2 with e;injection e)
 . obtain⟨ov,C,q⟩:=F.cell x c hc;have st:WP Z A (cellOf env x >>= λc=>cellSet c (some w)) Q E s:=by
     refine OJ (wpAny_cellOf hc (wpAny_cellSet C λh' hc' hs'=>?_));have hown:own env c:=.inr ⟨x,hc⟩;have keep:∀u y,aE Y U s.heap u y->aE Y U h' u y:=λu y=>gF (λb o hb e=>(hs'.2 b hb).trans e) (F.notSeq c hown);refine F.stored I h hown (λq=>by rcases hk with hk|hk<;>rw[hk]at q<;>(injection q with e;injection e)) hs' ?_ ?_ λy c' e=>?_
     . obtain⟨o,ho,_⟩:=hc';rw[ho];exact SO _
     . clear h hn q C;obtain⟨m,N,q'⟩:=F.ns;refine⟨m,N.sameBut hs' (λz=>F.cloc x (z▸hc)),λy j h1 h2 u h3 h4=>?_⟩;rw[g8 λ(z:i=j)=>by rw[F.inj y x i (z▸h1) hx]at h2;rcases hk with hk|hk<;>rw[hk]at h2<;>(injection h2 with e;injection e)]at h3
       obtain⟨w',g1,g2⟩:=q' y j h1 h2 u h3 h4;exact⟨w',g1,keep _ _ g2⟩
     . by_cases hyx:y=x
       . rw[hyx,hc]at e;refine(Option.some.inj e)▸?_;refine⟨some w,hc',λj h1 h2 u h3 h4=>⟨w,rfl,?_⟩⟩;rw[hyx,hx]at h1;rw[<- Option.some.inj h1]at h3;exact keep _ _ (Do h3▸r)
       . exact NJ.other F hs' hown e (λz=>hyx (F.cinj y x c (z▸e) hc)) λj h1 h2 z=>hyx (F.inj y x i (z▸h1) hx)
   have e:storeName env x w=(cellOf env x >>= λc=>cellSet c (some w)):=by unfold storeName;rcases hk with hk|hk<;>first | (rw[hk];rfl) | (exact hk▸F.kind▸rfl;rfl) | (rw[F.kind,hk];rfl)
   exact e▸st
noncomputable abbrev kq:Heap:={}theorem yH(a:Addr):kq.get? a=none:=SJ (PR _)
def iO(L:Option Addr)(h:Heap)(e:Addr)(vs:Array Value):Prop:=
 vs[1]?=some .none\/X3 λT oT ts=>A5 (vs[1]?=some (.ref T)) (T≠e) (h.get? T=some oT) (oT.data=.fields ts) ((ts[3]?=some .none\/∃l,L=some l/\ts[3]?=some (rawInt l)))variable {e:Addr}{vs:Array Value}{L:Option Addr}
theorem iO.any(q:iO none h e vs):iO L h e vs:=by
 rcases q with q|⟨T,oT,ts,h1,h2,h3,h4,h5⟩
 . exact .inl q
 . exact .inr ⟨T,oT,ts,h1,h2,h3,h4,.inl (h5.elim id λ⟨_,z,_⟩=>by injection z)⟩
structure Noted(fv:Value)(fs:List Addr)(e:Addr)(oe:Obj)(vs:Array Value)(h h':Heap):Prop where
 keep:∀b o,h.get? b=some o->b≠e->vs[1]?≠some (.ref b)->b∉fs->h'.get? b=some o
 frs:∀b o,h.get? b=some o->gd o->∃sl,h'.get? b=some { o with slots:=sl }
 live:∀b o,h.get? b=some o->∃o',h'.get? b=some o'
 exc:X3 λT vs' oe'=>A4 ((h.get? T=none\/vs[1]?=some (.ref T))) (h'.get? e=some oe') (oe'.cls=oe.cls) (A5 (oe'.dict=oe.dict) (oe'.data=.fields vs') (vs'[1]?=some (.ref T)) (T≠e) (X2 λoT ts=>A3 (h'.get? T=some oT) (oT.data=.fields ts) (ts[3]?=some fv)))variable {hadNext:Bool}{h0:Heap}{fs:List Addr}{outer:List Env}{M:Model}{oe:Obj}{fo:Option Addr}{v head:Value}
section
variable {E:VP}theorem rh(o:Obj)(f:Array Value->Array Value):(o.mapFields f).dict=o.dict:=by obtain⟨c,d,dt,sl⟩:=o;cases dt<;>rfl
theorem t4{L:Addr} 
   (hfr:A.frames=some (env::outer)) (hl:s.heap.FunFrames kq (env::outer)) (hf:env.frame=some L)
   (he:s.heap.get? e=some oe) (hd:oe.data=.fields vs) (hsz:1 < vs.size)
   (hk:∀b o,h0.get? b=some o->b≠e->vs[1]?≠some (.ref b)->s.heap.get? b=some o) (hfr0:∀b o,h0.get? b=some o->gd o->s.heap.get? b=some o) (hlive:∀b o,h0.get? b=some o->∃o',s.heap.get? b=some o')
   (h:∀h',Noted (rawInt L) ((env::outer).filterMap (·.frame)) e oe vs h0 h'->Q () { s with heap:=h' }) :
   wpAny M A (do let a <- frameOf env;let pl <- entryPlaceOf L hadNext;let b <- EntryCells.newEntry head a .none (rawInt L) .none pl;setField (.ref e) 1 b) Q E s:=by
 have hene:e∉(env::outer).filterMap (·.frame):=λhm=>by obtain⟨_,o,ho,hnf⟩:=hl.mem hm;rw[he]at ho;injection ho with e;subst e;exact hnf vs hd
 refine OJ (wpAny_frameOf_fun hfr hl hf λbj xb=>?_);refine OJ (wpAny_entryPlaceOf λpl hpl=>?_);unfold EntryCells.newEntry newFields;refine OJ (Qn ?_ (hpl.sizeOk5 _ _ _ _ _));have tQ:bj.get? e=some oe:=(xb.2.1 e hene).trans he;generalize hN:({ cls:=.type "traceback",dict:=none,data:=.fields ([head,.ref L,.none,rawInt L,.none]++(if pl.isEmpty then List.replicate 6 Value.none else pl)).toArray }:Obj)=oN;have hNd:oN.data=.fields ([head,.ref L,.none,rawInt L,.none]++(if pl.isEmpty then List.replicate 6 Value.none else pl)).toArray:=by rw[<- hN]
 have po:=PG (h:=bj) oN tQ;refine wpAny_setField po hd hsz (h _ ?_);have hTe:bj.objs.size≠e:=Sk (Qx tQ);have tR:=Obj.data_mapFields hd (·.setIfInBounds 1 (Value.ref bj.objs.size));have pj:=QU (Obj.mapFields (·.setIfInBounds 1 (Value.ref bj.objs.size))) po (Obj.isFreed_of_fields tR);have AH:=(Q2 (bj.push oN) (Obj.mapFields (·.setIfInBounds 1 (Value.ref bj.objs.size))) (Ne.symm hTe)).trans (PV bj (Obj.isFreed_of_fields hNd));generalize hH:(bj.push oN).update e (Obj.mapFields (·.setIfInBounds 1 (Value.ref bj.objs.size)))=H at pj AH;have keep:∀b o,b≠e->bj.get? b=some o->H.get? b=some o:=λb o hbe hb=>by rw[<- hH,Q2 _ _ (Ne.symm hbe)];exact PG _ hb
 refine⟨λb o hb hbe hnT hbf=>keep b o hbe ((xb.2.1 b hbf).trans (hk b o hb hbe hnT)),λb o hb hfr=>?_,λb o hb=>?_,?_⟩
 . have hb':=hfr0 b o hb hfr;obtain⟨sl,q⟩:=xb.2.2 b o hb';refine⟨sl,keep b _ (λz=>?_) q⟩;rw[z,he]at hb';obtain⟨es,n,y⟩:=hfr;rw[<- Option.some.inj hb',hd]at y;injection y
 . obtain⟨o',q⟩:=hlive b o hb;obtain⟨sl,q⟩:=xb.2.2 b o' q;by_cases z:b=e
   . rw[z];exact⟨_,pj⟩
   . exact⟨_,keep b _ z q⟩
 . refine⟨bj.objs.size,_,_,.inl ?_,pj,Obj.cls_mapFields _ _,rh _ _,tR,by simp[hsz],hTe,_,_,AH,hNd,by simp⟩;cases q:h0.get? bj.objs.size with
   |none=>rfl
   |some o=>obtain⟨o',q⟩:=hlive _ o q;have:=Qx q;rw[xb.1]at this;exact absurd this (Rr _)
theorem tE{L:Addr} 
   (hfr:A.frames=some (env::outer)) (hl:s.heap.FunFrames kq (env::outer)) (hf:env.frame=some L)
   (he:s.heap.get? e=some oe) (hd:oe.data=.fields vs) (h1:iO env.frame s.heap e vs)
   (h:∀h',Noted (rawInt L) ((env::outer).filterMap (·.frame)) e oe vs s.heap h'->Q () { s with heap:=h' }) :
   wpAny M A (noteFrame (.ref e) env) Q E s:=by
 rcases h1 with h1|⟨T,oT,ts,h1,hTe,hT,hdT,h3|⟨l,hl',h3⟩⟩
 . unfold noteFrame;simp only[hf];refine OJ (wpAny_field he hd h1 ?_);rw[if_neg (by decide)];exact t4 hfr hl hf he hd (Q8.mp h1).1 (λb o q _ _=>q) (λb o q _=>q) (λb o q=>⟨o,q⟩) h
 . unfold noteFrame;simp only[hf];refine OJ (wpAny_field he hd h1 ?_);rw[if_pos (by simp:(Value.ref T != Value.none)=true)];refine OJ (wpAny_field hT hdT h3 ?_);rw[if_neg (by simp[rawInt]:¬ ((Value.none==rawInt L)=true))];refine OJ (wpAny_setField hT hdT (Q8.mp h3).1 ?_);have other:∀b,b≠T->(s.heap.update T (Obj.mapFields (·.setIfInBounds 3 Value.none))).get? b=s.heap.get? b:=λb hb=>Q2 _ _ (Ne.symm hb);have notT:∀b o,s.heap.get? b=some o->(∀vs,o.data≠.fields vs)->b≠T:=λb o hb hnf q=>by rw[q,hT]at hb;injection hb with e;subst e;exact hnf ts hdT
   refine t4 (h0:=s.heap) hfr (hl.of_keeps λb o hb hnf=>⟨o,(other b (notT b o hb hnf)).trans hb,rfl⟩) hf ((other e (Ne.symm hTe)).trans he) hd (Q8.mp h1).1 (λb o q _ hn=>(other b λz=>hn (z▸h1)).trans q) (λb o q hq=>(other b (notT b o q λvs z=>?_)).trans q) (λb o q=>?_) h
   . obtain⟨es,n,y⟩:=hq;rw[y]at z;injection z
   . by_cases z:b=T
     . rw[z];exact⟨_,QU _ hT (Obj.isFreed_of_fields (Obj.data_mapFields hdT _))⟩
     . exact⟨o,(other b z).trans q⟩
 . have el:L=l:=by rw[hf]at hl';exact Option.some.inj hl'
   subst el;exact wpAny_noteFrame_inFlight hf he hd h1 hT hdT h3 (h _ ⟨λb o q _ _ _=>q,λb o q _=>⟨o.slots,q⟩,λb o q=>⟨o,q⟩,T,vs,oe,.inr h1,he,rfl,rfl,hd,h1,hTe,oT,ts,hT,hdT,h3⟩)
theorem mH{T:Addr}{oT:Obj}{ts:Array Value}{x:Value} 
   (he:s.heap.get? e=some oe) (hd:oe.data=.fields vs) (h1:vs[1]?=some (.ref T)) (hTe:T≠e) (hT:s.heap.get? T=some oT) (hdT:oT.data=.fields ts) (h3:ts[3]?=some x)
   (h:∀h',Noted (fo.elim .none λf=>rawInt f) [] e oe vs s.heap h'->Q () { s with heap:=h' }):wpAny M A (setFlight (.ref e) fo) Q E s:=by
 have hsz:=(Q8.mp h3).1;unfold setFlight;refine OJ (wpAny_field he hd h1 ?_);rw[if_pos (by simp:(Value.ref T != Value.none)=true)];refine wpAny_setField hT hdT hsz (h _ ?_);have other:∀b,b≠T->(s.heap.update T (Obj.mapFields (·.setIfInBounds 3 (fo.elim Value.none λf=>rawInt f)))).get? b=s.heap.get? b:=λb hb=>Q2 _ _ (Ne.symm hb);have hd':=Obj.data_mapFields hdT (·.setIfInBounds 3 (fo.elim Value.none λf=>rawInt f));have self:=QU (Obj.mapFields (·.setIfInBounds 3 (fo.elim Value.none λf=>rawInt f))) hT (Obj.isFreed_of_fields hd');refine⟨λb o q _ hn _=>(other b λz=>hn (z▸h1)).trans q,λb o q hq=>⟨o.slots,(other b λz=>?_).trans q⟩,λb o q=>?_,T,vs,oe,.inr h1,(other e (Ne.symm hTe)).trans he,rfl,rfl,hd,h1,hTe,_,_,self,hd',by simp[hsz]⟩
 . clear self other;subst z;rw[hT]at q;injection q with e;subst e;obtain⟨es,n,y⟩:=hq;rw[hdT]at y;injection y
 . by_cases z:b=T
   . clear other;subst z;exact⟨_,self⟩
   . exact⟨o,(other b z).trans q⟩
theorem Noted.then{Q:Prop}{v':Value}(N:Noted v fs e oe vs h h')(k:∀T oe' oT vs' ts,h'.get? e=some oe'->oe'.data=.fields vs'->vs'[1]?=some (.ref T)->T≠e->h'.get? T=some oT->oT.data=.fields ts->ts[3]?=some v->(∀h'',Noted v' [] e oe' vs' h' h''->Noted v' fs e oe vs h h'')->Q):Q:=by
 obtain⟨T,vs',oe',n1,n2,n3,n4,n5,n6,n7,oT,ts,n8,n9,n10⟩:=N.exc;refine k T oe' oT vs' ts n2 n5 n6 n7 n8 n9 n10 λh'' M=>⟨λb o q hbe hbT hbf=>M.keep b o (N.keep b o q hbe hbT hbf) hbe (λz=>?_) (by simp),λb o q hq=>?_,λb o q=>?_,?_⟩
 . rw[n6]at z;injection z with e;injection e with e;subst e;rcases n1 with n1|n1
   . rw[n1]at q;injection q
   . exact hbT n1
 . obtain⟨sl,q'⟩:=N.frs b o q hq;obtain⟨sl',q'⟩:=M.frs b _ q' hq;exact⟨sl',q'⟩
 . obtain⟨o',q'⟩:=N.live b o q;exact M.live b o' q'
 . obtain⟨T',vs'',oe'',m1,m2,m3,m4,m5,m6,m7,m8⟩:=M.exc;refine⟨T',vs'',oe'',?_,m2,m3.trans n3,m4.trans n4,m5,m6,m7,m8⟩;rcases m1 with m1|m1
   . refine .inl ?_;cases z:h.get? T' with
     |none=>rfl
     |some o=>obtain⟨o',z⟩:=N.live T' o z;rw[m1]at z;injection z
   . rw[n6]at m1;injection m1 with e;injection e with e;subst e;exact n1
theorem wI{L:Addr} 
   (hfr:A.frames=some (env::outer)) (hl:s.heap.FunFrames kq (env::outer)) (hf:env.frame=some L)
   (he:s.heap.get? e=some oe) (hd:oe.data=.fields vs) (h1:iO env.frame s.heap e vs)
   (h:∀h',Noted (fo.elim .none λf=>rawInt f) ((env::outer).filterMap (·.frame)) e oe vs s.heap h'->Q () { s with heap:=h' }) :
   wpAny M A (noteFrame (.ref e) env) (λ_ s'=>wpAny M A (setFlight (.ref e) fo) Q E s') E s:=
 tE hfr hl hf he hd h1 λh' N=>N.then λT oe' oT vs' ts n2 n5 n6 n7 n8 n9 n10 k=>mH (s:={ s with heap:=h' }) n2 n5 n6 n7 n8 n9 n10 λh'' M=>h h'' (k h'' M)
theorem wX{L:Addr} 
   (hfr:A.frames=some (env::outer)) (hl:s.heap.FunFrames kq (env::outer)) (hf:env.frame=some L)
   (he:s.heap.get? e=some oe) (hd:oe.data=.fields vs) (h1:iO env.frame s.heap e vs)
   (h:∀h',Noted .none ((env::outer).filterMap (·.frame)) e oe vs s.heap h'->Q () { s with heap:=h' }) :
   wpAny M A (leaving env (.ref e)) Q E s:=by
 unfold leaving;exact OJ (wI (fo:=none) hfr hl hf he hd h1 h)
theorem Ei{L:Addr} 
   (hfr:A.frames=some (env::outer)) (hl:s.heap.FunFrames kq (env::outer)) (hf:env.frame=some L)
   (he:s.heap.get? e=some oe) (hd:oe.data=.fields vs) (h1:iO env.frame s.heap e vs)
   (h:∀h',Noted (rawInt L) ((env::outer).filterMap (·.frame)) e oe vs s.heap h'->E (.ref e) { s with heap:=h' }) :
   wpAny M A (noteFrame (.ref e) env) (λ_ s'=>cameBackBy M A env E (.ref e) s') (λx s'=>cameBackBy M A env E x s') s:=
 tE hfr hl hf he hd h1 λh' N=>N.then λT oe' oT vs' ts n2 n5 n6 n7 n8 n9 n10 k=>by unfold cameBackBy;refine OJ (wpAny_field (s:={ s with heap:=h' }) n2 n5 n6 ?_);exact(if_neg (by simp:¬ ((Value.ref T==Value.none)=true)))▸hf▸(mH (s:={ s with heap:=h' }) (fo:=some L) n2 n5 n6 n7 n8 n9 n10 λh'' M=>h h'' (k h'' M))
end
def Fl(L:Option Addr)(h0 h:Heap)(e:Addr)(k:Nat)(ds:List PyData):Prop:=
 h0.get? e=none/\(1<=k/\k<=6)/\X2 λoe vs=>A5 (h.get? e=some oe) (oe.cls=.ref (KA k)) (oe.data=.fields vs) (iO L h e vs) (∀T,vs[1]?=some (.ref T)->h0.get? T=none)theorem Fl.back{h1:Heap}(hal:∀a,h1.get? a=none->h0.get? a=none)(F:Fl L h1 h e k ds):Fl L h0 h e k ds:=by obtain⟨f1,f2,oe,vs,f3,f4,f5,f6,f7⟩:=F;exact⟨hal _ f1,f2,oe,vs,f3,f4,f5,f6,λT q=>hal _ (f7 T q)⟩
inductive XD(h0:Heap)(Y:List Addr)(U:ac)(h:Heap)(e:Addr)(ds:List PyData):Prop where
 |mk (oe:Obj) (D:Addr) (m:Str->Option Value) (v1 v2:Value) (x1 x2:PyData) (h1:ds=[x1,x2]) (h2:h.get? e=some oe) (h3:oe.dict=some D) (h4:h0.get? D=none/\D∉Y) (h5:h.Ns1 D m) (h6:m j5=some v1/\m dG=some v2) (h7:Rel (TT Y U) h v1 x1) (h8:Rel (TT Y U) h v2 x2):XD h0 Y U h e ds
variable {h0':Heap}{β':List Addr}
theorem XD.move(X:XD h0 Y U h e ds)(h00:∀a,h0.get? a=none->h0'.get? a=none)(he:∀oe,h.get? e=some oe->∃oe',h'.get? e=some oe'/\oe'.dict=oe.dict)
   (hD:∀D o,h.get? D=some o->gd o->D∉Y->h0.get? D=none->D∉β'/\∃sl,h'.get? D=some { o with slots:=sl }) (hr:∀v x,Rel (TT Y U) h v x->Rel (TT β' σ') h' v x):XD h0' β' σ' h' e ds:=by
 cases X with
 |mk oe D m v1 v2 x1 x2 h1 h2 h3 h4 h5 h6 h7 h8=>refine kk λUc k=>?_;obtain⟨oe',q1,q2⟩:=he oe h2;obtain⟨o,es,ep,ho,hd,r⟩:=h5;obtain⟨nb,sl,q3⟩:=hD D o ho ⟨es,ep,hd⟩ h4.2 h4.1;refine k ?_;exact⟨oe',D,m,v1,v2,x1,x2,h1,q1,q2.trans h3,⟨h00 D h4.1,nb⟩,⟨_,es,ep,q3,hd,r⟩,h6,hr _ _ h7,hr _ _ h8⟩
theorem XD.same(X:XD h0 Y U h e ds)(h00:∀a,h0.get? a=none->h0'.get? a=none)(hb:∀a,a∈β'->a∈Y)(ht:∀a,TT β' σ' a->TT Y U a):XD h0' β' σ' h e ds:=
 X.move h00 (λoe q=>⟨oe,q,rfl⟩) (λD o q _ nb _=>⟨λz=>nb (hb D z),o.slots,q⟩) λv x r=>r.mono λa o _ _ q _ t=>⟨q,λz=>t (ht a z)⟩
inductive FlyQ(L:Option Addr)(Z:Cx)(O:Addr->Prop)(Y:List Addr)(U:ac)(s:Shared)(σ':ac)(k:Nat)(ds:List PyData)(X:List Addr->ac->Heap->Prop)(v:Value)(s':Shared):Prop where
 |mk (β':List Addr) (e:Addr) (h1:v=.ref e) (h2:Step O Y U s β' σ' s') (h3:Inv Z β' σ' s'.heap) (h4:e∉β') (h5:Fl L s.heap s'.heap e k ds) (h6:X β' σ' s'.heap) (h7:k=6->XD s.heap β' σ' s'.heap e ds):FlyQ L Z O Y U s σ' k ds X v s'
def LM(Z:Cx)(A:Around)(t:Sem Value)(r:Res V)(Y:List Addr)(U:ac)(s:Shared):Prop:=
 ∀c σ',r=.ok c σ'->WP Z A t (λa s'=>nH c=none/\Po Z cz Y U s σ' s' λβ'=>aE β' σ' s'.heap a c)
   (λv s'=>X2 λk ds=>c=.exc k ds/\FlyQ none Z cz Y U s σ' k ds (λ_ _ _=>True) v s') s
def vK(L:Option Addr)(Z:Cx)(O:Addr->Prop)(A:Around)(t:Sem Flow)(r:Res Out)(R:Flow->Out->List Addr->ac->Heap->Prop)(X:List Addr->ac->Heap->Prop)(Y:List Addr)(U:ac)(s:Shared):Prop:=
 ∀c σ',r=.ok c σ'->WP Z A t (λa s'=>Po Z O Y U s σ' s' λβ'=>R a c β' σ' s'.heap)
   (λv s'=>X2 λk ds=>c=.exc k ds/\FlyQ L Z O Y U s σ' k ds X v s') s
variable {R:Flow->Out->List Addr->ac->Heap->Prop}{X:List Addr->ac->Heap->Prop}{d:PyData}{t:Sem Value}{s':Shared}{fv:Value}{R':B->γ->List Addr->ac->Heap->Prop}theorem FlyQ.back(S:Step O Y U s ag aa ai)(F:FlyQ L Z O ag aa ai σ' k ds X v s'):FlyQ L Z O Y U s σ' k ds X v s':=by obtain⟨β',e,rfl,S',I',n,f,x,y⟩:=F;exact⟨β',e,rfl,S.trans S',I',n,f.back S.alive,x,λq=>(y q).same S.alive (λ_ z=>z) λ_ z=>z⟩
theorem LM.ev{r:Res V}(h:LM Z A t r Y U s):Ev Z cz A t (r.bind mv) VR Y U s:=λc σ' e=>by
 cases r with
 |bad=>injection e
 |ok v aa=>
 have h2:mv v aa=.ok c σ':=e;unfold mv at h2;cases hx:nH v with
 |some x=>rw[hx]at h2;injection h2
 |none=>
 rw[hx]at h2;injection h2 with e f;subst e;subst f;refine PO (h _ _ rfl) (λa s' q=>q.2) λv s' ⟨k,ds,q,_⟩=>?_;clear h;subst q;injection hx
theorem LM.bad:LM Z A t .bad Y U s:=λ_ _ e=>by injection e
theorem vK.of{t:Sem Flow}{r:Res Out}(h:Ev Z O A t r R Y U s):vK L Z O A t r R X Y U s:=λc σ' e=>PO (h c σ' e) (λ_ _ q=>q) λ_ _ q=>(q.elim)theorem vK.standAt{t:Sem Flow}{r:Res Out}(h:vK L Z O A t r R X Y U s):vK L Z O A (standAt pos >>= λ_=>t) r R X Y U s:=λc σ' e=>OJ (Qy (h c σ' e))
theorem vK.bindO{m:Sem B}{f:B->Sem Flow}{k:γ->ac->Res Out}(h:Ev Z cz A m r R' Y U s)
   (hf:∀a c β' σ' s',Step cz Y U s β' σ' s'->Inv Z β' σ' s'.heap->R' a c β' σ' s'.heap->r=.ok c σ'->vK L Z O A (f a) (k c σ') R X β' σ' s'):vK L Z O A (m >>= f) (r.bind k) R X Y U s:=by
 intro c' σ' e;cases r with
 |bad=>injection e
 |ok c aa=>refine OJ (PO (h c aa rfl) (λa ai bj=>?_) λ_ _ x=>x.elim);obtain⟨ag,aH,ay,wq⟩:=bj;refine PO (hf a c ag aa ai aH ay wq rfl c' σ' e) (λa' aq gg=>?_) λv aq ⟨k,ds,q,F⟩=>⟨k,ds,q,F.back aH.ofNo⟩;obtain⟨a5,cC,cD,uD⟩:=gg;exact⟨a5,aH.ofNo.trans cC,cD,uD⟩
theorem Rel.keepS(H:∀a o vs n,h.get? a=some o->o.data=.seq vs n->¬ T a->h'.get? a=some o)(r:Rel T h v d):Rel T h' v d:=by
 have main:∀(g:Heap),(∀a o vs n,h.get? a=some o->o.data=.seq vs n->¬ T a->g.get? a=some o)->Rel T g v d:=by
   intro g hg;exact Rel.rec (motive_1:=λv d _=>Rel T g v d) (motive_2:=λvs ds _=>RelAll T g vs ds) .none .bool .int (λx t e=>.str x t e)
     (λho ht hl _ ih=>.list (hg _ _ _ _ ho rfl ht) ht hl ih) (λho ht hl _ ih=>.tuple (hg _ _ _ _ ho rfl ht) ht hl ih) .nil (λ_ _ a b=>.cons a b) r
 exact main h' H
theorem RelAll.keepS(H:∀a o vs n,h.get? a=some o->o.data=.seq vs n->¬ T a->h'.get? a=some o):∀{vs:List Value} {ds:List PyData},RelAll T h vs ds->RelAll T h' vs ds
 |_,[]=>@λr=>by exact r.inv0▸.nil
 |_,d::ds=>@λr=>by obtain⟨v,vs',rfl,x,rs⟩:=r.inv;exact .cons (x.keepS H) (RelAll.keepS H rs)
theorem Noted.off(N:Noted fv fs e oe vs h h')(he:h.get? e=some oe)(hd:oe.data=.fields vs)(hL:iO L h e vs)(hfs:∀f∈fs,∃o,h.get? f=some o/\gd o){b:Addr}(hb:h.get? b=some o)(hn:∀ws,o.data≠.fields ws)(hf:¬ gd o):h'.get? b=some o:=by
 refine N.keep b o hb (λq=>?_) (λq=>?_) λq=>?_
 . subst q;rw[he]at hb;injection hb with e;subst e;exact hn _ hd
 . rcases hL with z|⟨T,oT,ts,z,_,hT,hdT,_⟩
   . rw[z]at q;injection q with e;injection e
   . rw[z]at q;injection q with e;injection e with e;subst e;rw[hT]at hb;injection hb with e;subst e;exact hn _ hdT
 . obtain⟨o',q',z⟩:=hfs b q;rw[hb]at q';injection q' with e;subst e;exact hf z
theorem Inv.noted(I:Inv Z Y U h)(N:Noted fv fs e oe vs h h')(he:h.get? e=some oe)(hd:oe.data=.fields vs)(hL:iO L h e vs)(hfs:∀f∈fs,(∃o,h.get? f=some o/\gd o)/\f∉Y/\Z.h₀.get? f=none)
   (h0e:Z.h₀.get? e=none) (h0T:∀T,vs[1]?=some (.ref T)->Z.h₀.get? T=none):Inv Z Y U h':=by
 have off:=λ{b:Addr} {o:Obj}=>N.off he hd hL (λf hf=>(hfs f hf).1) (b:=b) (o:=o);have seq:∀a o ws n,h.get? a=some o->o.data=.seq ws n->¬ TT Y U a->h'.get? a=some o:=λa o ws n q hq _=>off q (λx z=>by rw[hq]at z;injection z) λ⟨_,_,z⟩=>by rw[hq]at z;injection z
 refine⟨I.len,I.nodup,λa o q=>?_,I.fresh,λk a c h1 h2=>?_⟩
 . refine N.keep a o (I.base a o q) (λz=>?_) (λz=>?_) λz=>?_
   . subst z;rw[h0e]at q;injection q
   . rw[h0T a z]at q;injection q
   . rw[(hfs a z).2.2]at q;injection q
 . have r:=I.cell k a c h1 h2;clear h2;cases c with
   |lst l=>obtain⟨ws,n,q,r,z⟩:=r;exact⟨ws,n,off q (λx z=>by injection z) (λ⟨_,_,z⟩=>by injection z),r.keepS seq,z⟩
   |dct l=>
     refine kk λUc k=>?_;obtain⟨kvs,⟨o,es,ep,e1,e2⟩,q,r,st,su⟩:=r;refine k ?_;refine⟨kvs,⟨o,es,ep,?_,e2⟩,q,r.keepS seq,st,su⟩;refine N.keep a o e1 (λz=>?_) (λz=>?_) λz=>(hfs a z).2.1 (PC h1)
     . clear N;subst z;rw[he]at e1;injection e1 with e;subst e;have:=e2.2.1;rw[hd]at this;injection this
     . rcases hL with y|⟨T,oT,ts,y,_,hT,hdT,_⟩
       . rw[y]at z;injection z with e;injection e
       . rw[y]at z;injection z with e;injection e with e;subst e;rw[hT]at e1;injection e1 with e;subst e;have:=e2.2.1;rw[hdT]at this;injection this
   |gone=>obtain⟨o,q⟩:=r;exact N.live a o q
   |busy=>obtain⟨o,q⟩:=r;exact N.live a o q
theorem Step.noted(S:Step O Y U s ag aa ai)(N:Noted fv fs e oe vs ai.heap h')(h0e:s.heap.get? e=none)(h0T:∀T,vs[1]?=some (.ref T)->s.heap.get? T=none)(hfs:∀f∈fs,(∃o,ai.heap.get? f=some o/\gd o)/\f∉Y):Step O Y U s ag aa { ai with heap:=h' }:=by
 have step:∀a o bD,s.heap.get? a=some o->ai.heap.get? a=some bD->h'.get? a=some bD\/(gd bD/\a∉Y/\∃sl,h'.get? a=some { bD with slots:=sl }):=by
   intro a o bD q BH;by_cases hf:a∈fs
   . refine kk λUc k=>?_;obtain⟨⟨o',e',f'⟩,nb⟩:=hfs a hf;refine k ?_;rw[BH]at e';injection e' with e;subst e;exact .inr ⟨f',nb,N.frs a bD BH f'⟩
   . exact .inl (N.keep a bD BH (λz=>by subst z;rw[h0e]at q;injection q) (λz=>by rw[h0T a z]at q;injection q) hf)
 refine⟨S.ext,S.mono,λa o q w n=>?_,λa q=>?_,S.gens,S.os⟩
 . rcases S.keepW a o q w n with z|⟨f,nb,sl,z⟩
   . exact step a o o q z
   . rcases step a o _ q z with y|⟨_,_,sl',y⟩
     . exact .inr ⟨f,nb,sl,y⟩
     . exact .inr ⟨f,nb,sl',y⟩
 . cases z:s.heap.get? a with
   |none=>rfl
   |some o=>
     have:∃bD,ai.heap.get? a=some bD:=by
       cases y:ai.heap.get? a with
       |none=>rw[S.alive a y]at z;injection z
       |some bD=>exact⟨bD,rfl⟩
     obtain⟨bD,y⟩:=this;obtain⟨o',y⟩:=N.live a bD y;rw[q]at y;injection y
theorem Fl.noted(N:Noted fv fs e oe vs h h')(hfv:fv=.none\/∃l,L=some l/\fv=rawInt l)(hal:∀a,h.get? a=none->h0.get? a=none)(h0e:h0.get? e=none)(h0T:∀T,vs[1]?=some (.ref T)->h0.get? T=none)(hk:1<=k/\k<=6)(hc:oe.cls=.ref (KA k)):Fl L h0 h' e k ds:=by
 obtain⟨T,vs',oe',n1,n2,n3,n4,n5,n6,n7,oT,ts,n8,n9,n10⟩:=N.exc;refine⟨h0e,hk,oe',vs',n2,n3.trans hc,n5,.inr ⟨T,oT,ts,n6,n7,n8,n9,?_⟩,λT' q=>by rw[n6]at q;injection q with e;injection e with e;subst e;exact n1.elim (hal _) (h0T _)⟩;clear N;rcases hfv with rfl|⟨l,q,rfl⟩
 . exact .inl n10
 . exact .inr ⟨l,q,n10⟩
theorem XD.noted(X:XD h0 Y U h e ds)(N:Noted fv fs e oe vs h h')(he:h.get? e=some oe)(hd:oe.data=.fields vs)(hL:iO L h e vs)(hfs:∀f∈fs,(∃o,h.get? f=some o/\gd o)/\h0.get? f≠none):XD h0 Y U h' e ds:=by
 refine X.move (λ_ z=>z) (λo z=>?_) (λD o z hf nb hn=>⟨nb,N.frs D o z hf⟩) λv x r=>r.keepS λa o ws n q hq _=>N.off he hd hL (λf hf=>(hfs f hf).1) q (λy z=>by rw[hq]at z;injection z) λ⟨_,_,z⟩=>by rw[hq]at z;injection z
 rw[he]at z;injection z with e;subst e;obtain⟨T,vs',oe',_,n2,_,n4,_⟩:=N.exc;exact⟨oe',n2,n4⟩
theorem FrameOk.bare(F:FrameOk Z env ks sc K Y U h):FrameOk Z env ks sc [] Y U h:=
 ⟨F.kind,F.globals,F.builtins,F.kinds,F.bound,F.inj,let ⟨m,n,_⟩:=F.ns;⟨m,n,λ_ _ _ _ v q=>by simp at q⟩,λx c e=>let ⟨ov,n,_⟩:=F.cell x c e;⟨ov,n,λ_ _ _ v q=>by simp at q⟩,F.apart,F.cinj,F.cloc,F.frs⟩
theorem FrameOk.empty(F:FrameOk Z env ks sc [] Y U h):FrameOk Z env ks sc (List.replicate n .un) Y U h:=
 ⟨F.kind,F.globals,F.builtins,F.kinds,F.bound,F.inj,let ⟨m,n,_⟩:=F.ns;⟨m,n,λ_ _ _ _ v q hu=>absurd (Sq.mp (PC q)).2 hu⟩,λx c e=>let ⟨ov,n,_⟩:=F.cell x c e;⟨ov,n,λ_ _ _ v q hu=>absurd (Sq.mp (PC q)).2 hu⟩,F.apart,F.cinj,F.cloc,F.frs⟩theorem gk.noted(F:gk Z Y h)(N:Noted fv fs e oe vs h h'):gk Z Y h':=F.grow λf o _ q hq=>let ⟨sl,z⟩:=N.frs f o q hq;⟨_,z,hq⟩
theorem FrameOk.noted(F:FrameOk Z env ks sc [] Y U h)(N:Noted fv fs e oe vs h h')(he:h.get? e=some oe)(hd:oe.data=.fields vs)(hL:iO L h e vs)
   (hfs:∀f∈fs,∃o,h.get? f=some o/\gd o):FrameOk Z env ks sc [] Y U h':=by
 refine⟨F.kind,F.globals,F.builtins,F.kinds,F.bound,F.inj,?_,λx c q=>?_,F.apart,F.cinj,F.cloc,F.frs.noted N⟩
 . refine kk λUc k=>?_;obtain⟨m,⟨o,es,ep,ho,hd',r⟩,_⟩:=F.ns;obtain⟨sl,z⟩:=N.frs _ o ho ⟨es,ep,hd'⟩;refine k ?_;exact⟨m,⟨_,es,ep,z,hd',r⟩,λ_ _ _ _ v q=>by simp at q⟩
 . obtain⟨ov,⟨o,ho,hc⟩,_⟩:=F.cell x c q;exact⟨ov,⟨o,N.off he hd hL hfs ho (λws z=>by rw[hc]at z;injection z) (λ⟨_,_,z⟩=>by rw[hc]at z;injection z),hc⟩,λ_ _ _ v q=>by simp at q⟩theorem tV:∀{l:List Env},(∀x∈l,x.scope.kind≠.module/\X2 λf o=>A3 (x.frame=some f) (h.get? f=some o) (gd o))->h.FunFrames kq l
 |[]=>@λ_=>trivial
 |x::l=>@λH=>by obtain⟨h1,f,o,h2,h3,es,n,h4⟩:=H x (PF ..);exact⟨h1,⟨f,o,h2,yH f,h3,λvs q=>by rw[h4]at q;injection q⟩,tV λy hy=>H y (PD _ hy)⟩
theorem B9{l:List Env}{fr:List Addr}(h:l.map (·.frame)=fr.map some):l.filterMap (·.frame)=fr/\∀x∈l,∃f,x.frame=some f/\f∈fr:=by
 induction l generalizing fr with
 |nil=>cases fr with
   |nil=>exact⟨rfl,λ_ h=>by cases h⟩
   |cons _ _=>injection h
 |cons x l ih=>cases fr with
   |nil=>injection h
   |cons f fr=>
     simp only[Qq,List.cons.injEq]at h;obtain⟨h1,h2⟩:=ih h.2;refine⟨by rw[Rx,h.1,h1],λy hy=>?_⟩;rcases PM.mp hy with rfl|hy
     . exact⟨f,h.1,PF ..⟩
     . obtain⟨f',q,m⟩:=h2 y hy;exact⟨f',q,PD _ m⟩theorem cb:LIM<=sizeLine:=by unfold LIM sizeLine;decide
variable {ws:Array Value}{b i:Int}{ε ι:Type}{y:V}{Q:VP}{u:Value}{w:World}{o:Option B}{p:Option γ}{z:Res ε}{R:ι->ε->List Addr->ac->Heap->Prop}theorem Inv.notTT(I:Inv Z Y U h)(ha:h.get? a=none):¬ TT Y U a:=λz=>by obtain⟨o,e⟩:=I.ex z.mem;rw[ha]at e;injection e
inductive ListAt(T:Addr->Prop)(h:Heap)(v:Value)(l:List PyData):Prop where
 |mk (a:Addr) (vs:Array Value) (n:Nat) (h1:v=.ref a) (h2:h.get? a=some (eP vs n)) (h3:RelAll T h vs.toList l) (h4:l.length<=LIM):ListAt T h v l
inductive TupAt(T:Addr->Prop)(h:Heap)(v:Value)(l:List PyData):Prop where
 |mk (a:Addr) (vs:Array Value) (n:Nat) (h1:v=.ref a) (h2:h.get? a=some (pH vs n)) (h3:¬ T a) (h4:l.length<=LIM) (h5:RelAll T h vs.toList l):TupAt T h v l
inductive DctIn(Z:Cx)(Y:List Addr)(U:ac)(h:Heap)(x:V)(v:Value)(l:List (Str×PyData)):Prop where
 |mk (n:Nat) (a:Addr) (h1:x=.loc n) (h2:Y[n]?=some a) (h3:U[n]?=some (.dct l)) (h4:v=.ref a) (h5:jW Z (TT Y U) h h a l):DctIn Z Y U h x v l
theorem ListAt.el{P:Value->Prop}(r:ListAt T h v l)(k:∀a vs n,h.get? a=some (eP vs n)->RelAll T h vs.toList l->l.length<=LIM->P (.ref a)):P v:=by obtain⟨a,vs,n,e,h2,h3,h4⟩:=r;exact e▸k a vs n h2 h3 (h4)theorem TupAt.el{P:Value->Prop}(r:TupAt T h v l)(k:∀a vs n,h.get? a=some (pH vs n)->¬ T a->l.length<=LIM->RelAll T h vs.toList l->P (.ref a)):P v:=by obtain⟨a,vs,n,e,h2,h3,h4,h5⟩:=r;exact e▸k a vs n h2 h3 h4 (h5)theorem DctIn.el{x:V}{l:List (Str×PyData)}{P:V->Value->Prop}(r:DctIn Z Y U h x v l)(k:∀n a,Y[n]?=some a->U[n]?=some (.dct l)->jW Z (TT Y U) h h a l->P (.loc n) (.ref a)):P x v:=by obtain⟨n,a,e,h2,h3,e',h5⟩:=r;exact e▸e'▸k n a h2 h3 h5
inductive NewSeq(O:Array Value->Nat->Obj)(T:Addr->Prop)(s:Shared)(l:List PyData)(v:Value)(s':Shared):Prop where
 |mk (a:Addr) (vs:Array Value) (n:Nat) (h1:v=.ref a) (h2:s.heap.get? a=none) (h3:s'.heap.get? a=some (O vs n)) (h4:∀b o,s.heap.get? b=some o->s'.heap.get? b=some o) (h5:s'.gens=s.gens) (h6:s'.os=s.os) (h7:RelAll T s.heap vs.toList l):NewSeq O T s l v s'
theorem bb{x:V}(I:Inv Z Y U h)(hl:aQ U x=some l)(r:aE Y U h v x):ListAt (TT Y U) h v l:=by
 cases x with
 |d y=>
   cases r with
   |list e t z q=>injection hl with e;subst e;exact⟨_,_,_,rfl,e,q,z⟩
   |_=>injection hl
 |loc n=>obtain⟨a,hb,rfl⟩:=r;obtain⟨vs,m,e,q,z⟩:=I.cell n a _ hb (ku hl);exact⟨a,vs,m,rfl,e,q,z⟩
 |_=>injection hl
theorem lB{x:V}{l:List (Str×PyData)}(I:Inv Z Y U h)(hl:iF U x=some l)(r:aE Y U h v x):DctIn Z Y U h x v l:=by
 cases x with
 |loc n=>obtain⟨a,hb,rfl⟩:=r;exact⟨n,a,rfl,hb,jp hl,rfl,I.cell n a _ hb (jp hl)⟩
 |_=>injection hl
theorem gI{m:Bool}(I:Inv Z Y U s.heap)(hl:l.length<=LIM)
   (hw:WP Z A t (NewSeq eP (TT Y U) s l) (λ_ _=>False) s) :
   Ev Z O A t (bh m l U) VR Y U s:=by
 unfold bh;cases m with
 |true=>refine Ev.done (PO hw (λv s' q=>?_) λ_ _ x=>x);obtain⟨a,vs,n,rfl,hf,e,hk,hg,ho,r⟩:=q;have N:=uO (O:=O) (c:=.lst l) I hk hf hg ho ⟨vs,n,e,r,hl⟩;exact⟨_,N.1,N.2,a,by rw[<- I.len];simp,rfl⟩
 |false=>refine Ev.grown I (PO hw (λv s' q=>?_) λ_ _ x=>x);obtain⟨a,vs,n,rfl,hf,e,hk,hg,ho,r⟩:=q;exact⟨hk,hg,ho,.list e (I.notTT hf) hl (r.mono λx o _ _ e _ t=>⟨hk x o e,t⟩)⟩
theorem rV(I:Inv Z Y U s.heap)(hl:l.length<=LIM)
   (hw:WP Z A t (NewSeq pH (TT Y U) s l) (λ_ _=>False) s) :
   Ev Z O A t (.ok (.d (.tuple l)) U) VR Y U s:=by
 refine Ev.grown I (PO hw (λv s' q=>?_) λ_ _ x=>x);obtain⟨a,vs,n,rfl,hf,e,hk,hg,ho,r⟩:=q;exact⟨hk,hg,ho,.tuple e (I.notTT hf) hl (r.mono λx o _ _ e _ t=>⟨hk x o e,t⟩)⟩
theorem bo(h:Heap):h.get? h.objs.size=none:=by
 cases q:h.get? h.objs.size with
 |none=>rfl
 |some o=>exact absurd (Qx q) (Rr _)
theorem cc{x:PyData}(I:Inv Z Y U s.heap)(hw:WP Z A t (λv s'=>(X2 λtk dr=>s'={ s with toks:=tk,drawn:=dr })/\Rel (TT Y U) s.heap v x) (λ_ _=>False) s) :
   Ev Z O A t (.ok (.d x) U) VR Y U s:=Ev.grown I (PO hw (λv s' q=>by obtain⟨⟨tk,dr,rfl⟩,r⟩:=q;exact⟨λ_ _ e=>e,rfl,rfl,r⟩) λ_ _ x=>x)
theorem D9{a:Int}(h:tJ a b=true):IntMulOk a b:=by
 unfold tJ at h;rcases Qa.mp h with h|h<;>have h:=of_decide_eq_true h
 . exact .of_left (intBits_le_64 (by omega) (by omega))
 . exact .of_right (intBits_le_64 (by omega) (by omega))theorem E5{a:Int}(hb:0 < b):a.fdiv b=a / b:=Int.fdiv_eq_ediv_of_nonneg _ (R3 hb)theorem E1{a:Int}(hb:0 < b):a.fmod b=a % b:=Int.fmod_eq_emod_of_nonneg _ (R3 hb)theorem D7{a:Int}(h0:0 < b)(h1:b < 9223372036854775808):Builtin.divisionGoesByPylong a b=false:=by refine PyProof.noPylong_of_log2 ?_;have:b.natAbs.log2 < 63:=(Nat.log2_lt (by omega)).mpr (by omega);lia
theorem mi:∀(n:Nat) (a:Array Nat) (acc:Array Nat),((List.replicate n a).foldl (·++·) acc).toList=acc.toList++(List.replicate n a.toList).flatten
 |0=>@λa acc=>by simp
 |n+1=>@λa acc=>by rw[SQ,Ts,mi n a,SQ];simp
set_option tactic.hygienic true in
theorem Gl(x:Str)(n:Int)(h0:0<=n):Txt.mul x n=aD (List.replicate n.toNat (aG x)).flatten:=by
 obtain⟨a⟩:=x;unfold Txt.mul aD aG;split
 . have:n.toNat=0:=by lia
   rw[this];simp[Str.empty]
 . split
   . rename_i h1 h2;rcases Qa.mp h2 with h2|h2
     . have:n=1:=by simpa using h2
       subst this;simp
     . have h3:a=#[]:=Array.eq_empty_of_size_eq_zero (by simpa[Str.length] using h2);subst h3;simp
   . have:=mi n.toNat a #[];simp only[Str.mk.injEq];apply Array.ext';rw[this];simp
theorem zV:PyData.strOk x=true↔∀c∈aG x,c < 0x110000:=by unfold PyData.strOk aG;rw[<- Array.all_toList,QN];simp
theorem Df(l:List Nat):aG (aD l)=l:=by simp[aG,aD]theorem gQ{l:List Nat}(h:∀c∈l,c < 0x110000)(hl:l.length<=LIM):cY (aD l):=⟨zV.mpr (by rw[Df];exact h),by simpa[aD] using hl⟩theorem cY.cps(h:cY x):∀c∈aG x,c < 0x110000:=zV.mp (h.1)theorem cY.len(h:cY x):(aG x).length<=LIM:=by simpa[aG] using h.2
theorem yi(x y:Str):x++y=aD (aG x++aG y):=by obtain⟨a⟩:=x;obtain⟨b⟩:=y;show Str.append _ _=_;simp[Str.append,aD,aG]noncomputable def My:BOp->Operator
 |.add=>.Add
 |.sub=>.Sub
 |.mul=>.Mult
 |.fdiv=>.FloorDiv
 |.mod=>.Mod
 |.pow _=>.Pow
theorem sT{t b:Addr}{n2:Nat}{E:VP}{prog:Program}(ht:IsT s.heap t vs n)(hb:IsT s.heap b ws n2)(hsz:vs.size+ws.size<=sizeLine)
   (h1:vs.isEmpty=true->Q (.ref b) s) (h2:ws.isEmpty=true->Q (.ref t) s) (h3:Q (.ref s.heap.objs.size) { s with heap:=s.heap.push { cls:=.type "tuple",data:=.seq (vs++ws) } }) :
   wpAny (model prog w) A (binaryOp .Add (.ref t) (.ref b)) Q E s:=by
 by_cases e1:vs.isEmpty=true
 . exact concat_meets ⟨_,ht,rfl⟩ ⟨_,hb,rfl⟩ noFill_tuple_add seq_tuple_add F.slot_tuple_add F.entry_tuple_add (F.args_tuple_add_2 _ _) (AutoSeq1.tuple___add___tuple_tuple_0 t vs n b ws n2 e1) ⟨ht,hb,h1 e1⟩
 . by_cases e2:ws.isEmpty=true
   . exact concat_meets ⟨_,ht,rfl⟩ ⟨_,hb,rfl⟩ noFill_tuple_add seq_tuple_add F.slot_tuple_add F.entry_tuple_add (F.args_tuple_add_2 _ _) (AutoSeq1.tuple___add___tuple_tuple_1 t vs n b ws n2 e1 e2) ⟨ht,hb,h2 e2⟩
   . exact P.add_tuple ht hb e1 e2 h3 (hsz)theorem mV(r:aE Y U h v (.d (.int i))):∃t,v=.int i t:=by cases r;exact⟨_,rfl⟩theorem zQ{b:Bool}(r:aE Y U h v (.d (.bool b))):v=.bool b:=by cases r;rfl
theorem oo(r:aE Y U h v (.d (.str x))):∃t,v=.str x t/\cY x:=by
 cases r with
 |str _ t g=>exact⟨_,rfl,g⟩
theorem qo(r:aE Y U h v (.d (.tuple l))):TupAt (TT Y U) h v l:=by
 cases r with
 |tuple e t z r=>exact⟨_,_,_,rfl,e,t,z,r⟩
theorem cy{t:Sem ι}{f:B->γ->Res ε}(h1:∀a b,o=some a->p=some b->Ev Z O A t (f a b) R Y U s)(h2:Ev Z O A t z R Y U s):Ev Z O A t (b2 o p f z) R Y U s:=by
 rcases nX o p f z with⟨a,b,ha,hb,e⟩|e
 . rw[e];exact h1 a b ha hb
 . rw[e];exact h2
theorem aY{t:Sem ι}{f:B->Res ε}(h1:∀a,o=some a->Ev Z O A t (f a) R Y U s)(h2:Ev Z O A t z R Y U s):Ev Z O A t (oc o f z) R Y U s:=by
 rcases jj o f z with⟨a,ha,e⟩|e
 . rw[e];exact h1 a ha
 . rw[e];exact h2
theorem cx{t:Sem ι}{c:Prop}[Decidable c]{f:Res ε}(h:c->Ev Z O A t f R Y U s):Ev Z O A t (if c then f else .bad) R Y U s:=by
 by_cases hc:c
 . rw[if_pos hc];exact h hc
 . rw[if_neg hc];exact Ev.bad
theorem fB{op:Operator}{x:V}{f:Int->Int->Res V}{z:Res V}(rx:aE Y U s.heap v x)(ry:aE Y U s.heap u y)
   (h1:∀a b t t',Ev Z O A (binaryOp op (.int a t) (.int b t')) (f a b) VR Y U s) (h2:Ev Z O A (binaryOp op v u) z VR Y U s):Ev Z O A (binaryOp op v u) (b2 (cH x) (cH y) f z) VR Y U s:=
 cy (λa b ha hb=>by have ha:=c6 ha;have hb:=c6 hb;subst ha;subst hb;apply gj (mV rx);intro t;apply gj (mV ry);intro t';exact h1 a b t t') h2
set_option tactic.hygienic true in
theorem zD{m:Bool}{x:V}(I:Inv Z Y U s.heap)(rx:aE Y U s.heap v x)(ry:aE Y U s.heap u y):Ev Z O A (binaryOp (My op) v u) (dj op m x y U) VR Y U s:=by
 cases op with
 |add=>
   refine fB rx ry (λa b t t'=>cc I (P.add_int ⟨⟨_,_,rfl⟩,.int _ _⟩)) ?_;refine cy (λx' y' hx hy=>cx λhm=>?_) (cy (λx' y' hx hy=>cx λhm=>?_) (cy (λl1 l2 h1 h2=>cx λhm=>?_) Ev.bad))
   . have hx:=eA hx;have hy:=eA hy;subst hx;subst hy;apply xo (oo rx);intro t g;apply xo (oo ry);intro t' g';refine cc I (PyProof.Rows.add_str (λt' tk=>⟨⟨_,_,rfl⟩,?_⟩) (iv hm cb));rw[yi];exact .str _ _ (gQ (λc hc=>(PQ.mp hc).elim (g.cps c) (g'.cps c)) (by simpa[aG] using hm))
   . have hx:=eu hx;have hy:=eu hy;subst hx;subst hy;apply (qo rx).el;intro a1 vs1 n1 e1 t1 z1 q1;apply (qo ry).el;intro a2 vs2 n2 e2 t2 z2 q2;have l1:=q1.length;have l2:=q2.length;simp only[PZ]at l1 l2;refine Ev.grown I (sT e1 e2 (by rw[l1,l2];exact iv hm cb) (λe=>⟨λ_ _ e=>e,rfl,rfl,?_⟩) (λe=>⟨λ_ _ e=>e,rfl,rfl,?_⟩) ⟨λb o e=>PG _ e,rfl,rfl,?_⟩)
     . have:x'=[]:=Rm (by rw[<- l1];simpa using e);subst this;exact .tuple e2 t2 z2 q2
     . have:y'=[]:=Rm (by rw[<- l2];simpa using e);subst this;rw[P4];exact .tuple e1 t1 z1 q1
     . refine .tuple (PV _ rfl) (I.notTT (bo _)) (by simpa using hm) ?_;have:=q1.append q2;rw[TO];exact this.mono λx o _ _ e _ t=>⟨PG _ e,t⟩
   . apply (bb I h1 rx).el;intro a vs n e1 q1 _;apply (bb I h2 ry).el;intro b ws n2 e2 q2 _;have z1:=q1.length;have z2:=q2.length;simp only[PZ]at z1 z2;refine gI I (by rw[PA];exact hm) (P.add_list e1 e2 ?_ (by rw[z1,z2];exact iv hm cb));exact⟨_,_,_,rfl,bo _,PV _ rfl,λb o e=>PG _ e,rfl,rfl,by rw[TO];exact q1.append q2⟩
 |sub=>exact fB rx ry (λa b t t'=>cc I (P.sub_int ⟨⟨_,_,rfl⟩,.int _ _⟩)) Ev.bad
 |mul=>
   refine fB rx ry (λa b t t'=>cx λhm=>cc I (P.mul_int ⟨⟨_,_,rfl⟩,.int _ _⟩ (D9 hm))) (cy (λx' n hx hy=>cx λhm=>?_) Ev.bad);have hx:=eA hx;have hy:=c6 hy;subst hx;subst hy;apply xo (oo rx);intro t g;apply gj (mV ry);intro t';have hlen:(List.replicate n.toNat (aG x')).flatten.length<=LIM:=by
     have h1:(aG x').length<=1000:=by simpa[aG] using hm.2.2
     have h2:n.toNat<=1000:=Rg.mpr hm.2.1;simp only[List.length_flatten,List.map_replicate,List.sum_replicate_nat,LIM]
     calc n.toNat * (aG x').length<=1000 * 1000:=TN h2 h1
       _=1000000:=rfl
   refine cc I (SB.mul ⟨?_,λ_ _=>?_,λ_ _=>?_⟩ λt' k=>⟨⟨_,_,rfl⟩,?_⟩)
   . have:n<=1000:=hm.2.1;have:0<=n:=hm.1;simp;lia
   . have h1:x'.length<=1000:=hm.2.2;have h3:0<=n:=hm.1;have h4:(9223372036854775:Int)<=(2 ^ 63 - 1) / n:=by
       rcases Int.lt_or_eq_of_le h3 with h3|h3
       . exact(Int.le_ediv_iff_mul_le h3).mpr (by lia)
       . clear hm;subst h3;rename_i q _;lia
     lia
   . have h1:x'.length * n.toNat<=1000 * 1000:=TN hm.2.2 (Rg.mpr hm.2.1);unfold Builtin.Str.tooLong;simp[sizeLine];lia
   . rw[Gl x' n hm.1];exact .str _ _ (gQ (λc hc=>by obtain⟨l,hl,hc⟩:=List.mem_flatten.mp hc;rw[(Sq.mp hl).2]at hc;exact g.cps c hc) hlen)
 |fdiv=>refine fB rx ry (λa b t t'=>cx λhm=>?_) Ev.bad;exact(E5 hm.1)▸cc I (PyProof.Rows.floordiv_int (SH hm.1) ⟨⟨_,_,rfl⟩,.int _ _⟩ (.inl (D7 hm.1 hm.2)))
 |mod=>refine fB rx ry (λa b t t'=>cx λhm=>?_) Ev.bad;exact(E1 hm)▸cc I (PyProof.Rows.mod_int' (SH hm) ⟨⟨_,_,rfl⟩,.int _ _⟩)
 |pow _=>refine fB rx ry (λa b t t'=>cx λhm=>?_) Ev.bad;obtain⟨rfl,rfl⟩:=hm;exact cc I (PyProof.Rows.pow_int (by decide) (by decide +kernel) ⟨⟨_,_,rfl⟩,.int _ _⟩)variable {xs ys:Array Value}{b c:Bool}{op:COp}{f:Int->Int->Option Bool}{kvs:List (Str×Value)}{k:List PyData}{m:Nat}{R:PySem.Fin->Shared->Prop}{x:V}{key:Value}{z:Option γ}def CO(Z:Cx):Prop:=∃o,Z.h₀.get? sysModules=some o
theorem CO.ne(Ub:CO Z)(I:Inv Z Y U h)(ha:a∈Y):(a==sysModules)=false:=by
 refine Ub.elim λo e=>?_;have:=I.fresh a ha;cases q:a==sysModules with
 |false=>rfl
 |true=>rw[beq_iff_eq.mp q,e]at this;injection this
theorem HT(I:Inv Z Y U s.heap)(hw:WP Z A t (λv s'=>(X2 λtk dr=>s'={ s with toks:=tk,drawn:=dr })/\v=.bool b) (λ_ _=>False) s) :
   Ev Z O A t (.ok (.d (.bool b)) U) VR Y U s:=cc I (PO hw (λv s' q=>⟨q.1,by rw[q.2];exact .bool b⟩) λ_ _ x=>x)
theorem E9(q:RelAll T h vs.toList l):vs.isEmpty=l.isEmpty:=by
 have:=q.length;clear q;cases l with
 |nil=>simp at this;simp[this]
 |cons x r=>
   simp at this;have:vs.size≠0:=by rw[this];exact Tl _
   simp[Array.isEmpty,this]theorem pY(hn:n<=LIM):(n:Int) < 2 ^ 63:=Int.lt_of_le_of_lt (QV.mpr hn) (by decide)
theorem gx{f:B->Option γ}{c:γ}(h:oc o f z=some c):(∃a,o=some a/\f a=some c)\/z=some c:=by
 rcases jj o f z with⟨a,ha,e⟩|e
 . exact .inl ⟨a,ha,e.symm.trans h⟩
 . exact .inr (e.symm.trans h)
theorem ko{f:B->Option γ}{c:γ}(h:oc o f none=some c):∃a,o=some a/\f a=some c:=by
 rcases gx h with h|h
 . exact h
 . injection h
theorem jz(I:Inv Z Y U s.heap)(r:aE Y U s.heap v x)(ht:truthy U x=some b){Q:Bool->Shared->Prop}{E:VP}
   (h:∀tk,Q b { s with toks:=tk }):WP Z A (PySem.truthy v) Q E s:=by
 rcases gx ht with⟨c,hc,e⟩|e
 . rw[nP hc]at r;exact zQ r▸Option.some.inj e▸wpAny_truthy_bool (h s.toks)
 . obtain⟨l,hl,e⟩:=ko e;apply (bb I hl r).el;intro a vs n e' q z;have hz:=q.length;simp only[PZ]at hz;refine wpAny_truthy_list ⟨_,e',rfl,_,rfl⟩ (by rw[hz];exact pY z) ?_;rw[E9 q,Option.some.inj e];exact h (_)noncomputable def bW:COp->CmpOp
 |.eq=>.Eq
 |.ne=>.NotEq
 |.lt=>.Lt
 |.le=>.LtE
 |.gt=>.Gt
 |.ge _=>.GtE
 |.isN=>.Is
 |.isNotN=>.IsNot
 |.isIn=>.In
 |.notIn=>.NotIn
def CG(s:Shared)(Q:VP)(v:Value):Prop:=∀tk,Q v { s with toks:=tk }
theorem gU{l:List (Str×PyData)}(e:kvs.map (·.1)=l.map (·.1))(r:RelAll T h (kvs.map (·.2)) (l.map (·.2)))(k:Str):(valueAt kvs k=none/\l.lookup k=none)\/X2 λv d=>A3 (valueAt kvs k=some v) (l.lookup k=some d) (Rel T h v d):=by
 induction kvs generalizing l with
 |nil=>
   clear r;cases l with
   |nil=>exact .inl ⟨rfl,rfl⟩
   |cons _ _=>injection e
 |cons a kvs ih=>
   cases l with
   |nil=>injection e
   |cons b l=>
     injection e with e1 e2;have e1:a.1=b.1:=e1;cases r with
     |cons r rs=>
       by_cases hk:a.1=k
       . exact .inr ⟨a.2,b.2,by unfold valueAt;rw[List.find?_cons_of_pos (p:=λkv:Str×Value=>decide (kv.1=k)) (decide_eq_true hk)];rfl,by rw[P2,beq_iff_eq.mpr (hk.symm.trans e1)],r⟩
       . have h1:valueAt (a::kvs) k=valueAt kvs k:=by unfold valueAt;exact congrArg _ (List.find?_cons_of_neg (p:=λkv:Str×Value=>decide (kv.1=k)) (by rw[decide_eq_false hk];exact nofun))
         have h2:List.lookup k (b::l)=l.lookup k:=by rw[P2,beq_eq_false_iff_ne.mpr λq=>hk (e1.trans q.symm)]
         exact h1▸h2▸ih e2 rs
theorem iM{f:B->γ->Option ι}{z:Option ι}{c:ι}(h:b2 o p f z=some c):(X2 λa b=>A3 (o=some a) (p=some b) (f a b=some c))\/z=some c:=by
 rcases nX o p f z with⟨a,b,ha,hb,e⟩|e
 . exact .inl ⟨a,b,ha,hb,e.symm.trans h⟩
 . exact .inr (e.symm.trans h)
theorem tZ(hu:A.units+200 < cLine)(rx:aE Y U s.heap v x)(ry:aE Y U s.heap u y)(hb:LU x y=some b){E:VP} :
   (CG s Q (.bool b)->WP Z A (compareOp .Eq v u) Q E s)/\(CG s Q (.bool (!b))->WP Z A (compareOp .NotEq v u) Q E s):=by
 rcases iM hb with⟨d,e,hd,he,hb⟩|hb
 . rw[b9 hd]at rx;rw[b9 he]at ry;refine(Rel.reads rx).elim λas ra=>(Rel.reads ry).elim λbs rb=>?_;by_cases hm:min d.depth e.depth<=64
   . cases (if_pos hm).symm.trans hb;exact⟨λq=>SeqAt.compareEq_reads ra rb (Rel.lay rx) (Rel.lay ry) (by omega) (q s.toks),λq=>SeqAt.compareNe_reads ra rb (Rel.lay rx) (Rel.lay ry) (by omega) (q s.toks)⟩
   . cases (if_neg hm).symm.trans hb
 . injection hb
theorem D6{prog:Program}{Uc:Type}[DecidableEq Uc]{knd:KeyKind prog w Uc}{E:VP}{d:Addr}{k:Uc}{f:Uc->Option Value}(hkey:knd.is k key=true)(hd:(d==sysModules)=false)(hm:s.heap.MapOf knd d f)
   (h:Q (.bool (!(f k).isSome)) { s with toks:=s.toks+1 }):wpAny (model prog w) A (compareOp .NotIn key (.ref d)) Q E s:=by
 show wpAny _ _ (do return .bool (!(<- contains (.ref d) key))) Q E s;refine OJ ?_;unfold contains
 try with_reducible refine QR ?_
 refine OJ (wpAny_specialOf hm.typeIs slot_dict_contains.lookup ?_);refine(?_:wpAny _ _ (if (some (Value.builtin "dict.__contains__")==some Value.none)=true then _ else _) _ E s);rw[if_neg (by rw[beq_builtin_none];exact PY)];refine OJ (wpAny_callSpecialUnlessNone?_slot (name:=Str.ofString "__contains__") hm.typeIs slot_dict_contains
   (wpAny_call_entry slot_dict_contains hm.typeIs entry_dict_contains ?_ (args_dict_contains _ _)))
 show wpAny _ _ (dictGet d key >>= _) _ _ s;refine OJ (wpAny_dictGet_of hkey hm ?_);cases hf:f k with
 |some v=>rw[hf]at h;refine(?_:wpAny _ _ (ret (.bool true)) _ _ _);exact PH ⟨_,rfl,wpAny_truthy_bool (PH h)⟩
 |none=>rw[hf]at h;refine(?_:wpAny _ _ (Builtin.Dict.pendingKey? d key >>= _) _ _ _);exact OJ (wpAny_pendingKey_other hd (PH ⟨_,rfl,wpAny_truthy_bool (PH h)⟩))
theorem KN(x y:Str)(hx:x.cps.size=1):(!(Builtin.Str.occurrences y x 0 y.length 1).isEmpty)=(aG y).any λc=>aG x==[c]:=by
 obtain⟨a⟩:=x;obtain⟨c,rfl⟩:∃c,a=#[c]:=by
   match a,hx with
   |⟨[c]⟩,_=>exact⟨c,rfl⟩
 rw[StrLaws.found_one];unfold aG;show decide (c∈y.cps.toList)=y.cps.toList.any λd=>[c]==[d]
 rw[Bool.eq_iff_iff,decide_eq_true_iff,Sg];constructor
 . exact λm=>⟨c,m,by rw[beq_iff_eq]⟩
 . rintro⟨d,m,e⟩
   rw[beq_iff_eq]at e;cases (e);exact m
theorem AE{x:PyData}(h:w0 x l=some b):min (PyData.depthAll l) x.depth<=64/\(l.any λy=>y.eqv x)=b:=by
 unfold w0 at h;by_cases hc:min (PyData.depthAll l) x.depth<=64
 . rw[if_pos hc]at h;exact⟨hc,Option.some.inj h⟩
 . rw[if_neg hc]at h;injection h
theorem tO(Ub:CO Z)(I:Inv Z Y U s.heap)(hu:A.units+200 < cLine)(rx:aE Y U s.heap v x)(ry:aE Y U s.heap u y)(hb:bC.inV x y U=some b){E:VP} :
   (CG s Q (.bool b)->WP Z A (compareOp .In v u) Q E s)/\(CG s Q (.bool (!b))->WP Z A (compareOp .NotIn v u) Q E s):=by
 replace hb:=ko hb;obtain⟨dx,hx,hb⟩:=hb;replace rx:=(b9 hx)▸rx;replace hb:=iM hb;rcases hb with⟨xs,ys,h1,h2,hb⟩|hb
 . rw[pW h1]at rx;rw[eA h2]at ry;apply xo (oo rx);intro t g;apply xo (oo ry);intro t' g';by_cases hs:xs.cps.size=1
   . rw[if_pos hs]at hb;injection hb with e;subst e;rw[<- KN xs ys hs];exact⟨λq=>P.in_str (q s.toks),λq=>P.notIn_str (q s.toks)⟩
   . rw[if_neg hs]at hb;injection hb
 . obtain⟨as,ra⟩:=Rel.reads rx;have la:=Rel.lay rx;replace hb:=gx hb;rcases hb with⟨l,hl,hb⟩|hb
   . refine kk λUc k=>?_;rw[eu hl]at ry;obtain⟨hm,rfl⟩:=AE hb;obtain⟨bs,rb⟩:=Rel.reads ry;have lb:=Rel.lay ry;rw[PyData.canLay0]at lb;refine k ?_;exact⟨λq=>SeqAt.in_tuple_reads rb ra lb la (by omega) (q s.toks),λq=>SeqAt.notIn_tuple_reads rb ra lb la (by omega) (q s.toks)⟩
   . replace hb:=gx hb;rcases hb with⟨l,hl,hb⟩|hb
     . apply (bb I hl ry).el;intro a vs n e q z;obtain⟨bs,rb⟩:=q.reads;have rb':Reads s.heap (.ref a) (.list l) _:=.list e rfl rfl rb;obtain⟨hm,rfl⟩:=AE hb;exact⟨λq'=>SeqAt.in_list_reads rb' ra q.lay la (by omega) (q' s.toks),λq'=>SeqAt.notIn_list_reads rb' ra q.lay la (by omega) (q' s.toks)⟩
     . rcases iM hb with⟨k,kvs',hk0,hdd,hb⟩|hb
       . injection hb with e;subst e;rw[pW hk0]at rx;apply (lB I hdd ry).el;intro n a hbb hc R0;obtain⟨kvs,D,hk,q,_,z⟩:=R0;apply xo (oo rx);intro t g;have e:(valueAt kvs k).isSome=(List.lookup k kvs').isSome:=by rcases gU hk q k with⟨h1,h2⟩|⟨v,d,h1,h2,_⟩<;>rw[h1,h2]<;>rfl
         have ne:=Ub.ne I (PC hbb);exact⟨λq'=>wpAny_in_of (strKind_is Z.prog Z.w k t) ne D.mapOf (by rw[e];exact q' _),λq'=>D6 (strKind_is Z.prog Z.w k t) ne D.mapOf (by rw[e];exact q' _)⟩
       . injection hb
theorem u0{P:Value->Value->Prop}(rx:aE Y U h v x)(ry:aE Y U h u y)(hb:b2 (cH x) (cH y) f none=some b)(k:∀i j t t',f i j=some b->P (.int i t) (.int j t')):P v u:=by
 rcases iM hb with⟨i,j,hi,hj,e⟩|e
 . rw[c6 hi]at rx;rw[c6 hj]at ry;apply gj (mV rx);intro t;apply gj (mV ry);intro t';exact k i j t t' e
 . injection e
theorem AD(r:Rel T h v d):plainIs v .none=true/\(v==.none)=uY d:=by cases r<;>exact⟨rfl,rfl⟩theorem As{f:PyData->Option Bool}(ry:aE Y U h u y)(hb:oc (tH y) (λ_=>oc (bN x) f none) none=some b):u=.none/\∃d,x=.d d/\f d=some b:=by obtain⟨_,hy,hb⟩:=ko hb;replace ry:=(qU hy)▸ry;obtain⟨d,hd,hb⟩:=ko hb;exact⟨by cases ry;rfl,d,b9 hd,hb⟩
inductive GtI(T:Addr->Prop)(h:Heap)(c:Bool)(m n:Nat)(r:List (Value×Value)):Prop where
 |mk (l k:List PyData) (xs ys:List Value) (i:Nat) (e:r=xs.zip ys) (qa:RelAll T h xs l) (qb:RelAll T h ys k) (hl:He k l=some c) (z1:m=xs.length+i) (z2:n=ys.length+i):GtI T h c m n r
inductive GtJ(T:Addr->Prop)(h:Heap)(c:Bool)(m n:Nat)(p:Value×Value)(r:List (Value×Value)):Prop where
 |eq (i:Int) (t t':Tok) (e:p=(.int i t,.int i t')) (g:GtI T h c m n r):GtJ T h c m n p r
 |ne (i j:Int) (t t':Tok) (e:p=(.int i t,.int j t')) (hne:i≠j) (hc:decide (i > j)=c):GtJ T h c m n p r
theorem Ah{x:Int}(r:Rel T h v (.int x)):∃t,v=.int x t:=by cases r;exact⟨_,rfl⟩
theorem Hy{p:Value×Value}{r:List (Value×Value)}(g:GtI T h c m n (p::r)):GtJ T h c m n p r:=by
 obtain⟨l,k,xs,ys,i,e,qa,qb,hl,z1,z2⟩:=g;cases qa with
 |nil=>injection e
 |cons r1 q1=>
   cases qb with
   |nil=>injection e
   |cons r2 q2=>
     injection e with h1 h2;rcases iM (hl:b2 (B1 _) (B1 _) (λx y=>if x=y then He _ _ else some (decide (x < y))) none=some c) with⟨y,x,hy,hx,hl⟩|hl
     . rw[u8 hx]at r1;rw[u8 hy]at r2;obtain⟨t,e1⟩:=Ah r1;obtain⟨t',e2⟩:=Ah r2;rw[e1,e2]at h1;by_cases e:y=x
       . rw[if_pos e]at hl;rw[e]at h1;exact .eq x t t' h1 ⟨_,_,_,_,i+1,h2,q1,q2,hl,z1.trans (QP _ 1 i),z2.trans (QP _ 1 i)⟩
       . rw[if_neg e]at hl;exact .ne x y t t' h1 (Ne.symm e) (Option.some.inj hl)
     . injection hl
theorem KW(g:GtI T h c m n []):decide (m > n)=c:=by
 obtain⟨l,k,xs,ys,i,e,qa,qb,hl,rfl,rfl⟩:=g;cases qa with
 |nil=>
   cases qb with
   |nil=>exact(decide_eq_false (Rr _)).trans (Option.some.inj hl)
   |cons _ _=>exact(decide_eq_false (SN.mpr (PJ (PR _) i))).trans (Option.some.inj hl)
 |cons _ _=>
   cases qb with
   |nil=>exact(decide_eq_true (Nat.add_lt_add_right (Ru _) i)).trans (Option.some.inj hl)
   |cons _ _=>injection e
theorem sD{prog:Program}{E:VP}{T:Addr->Prop}{b:Addr}(ea:s.heap.get? a=some (pH xs n))(eb:s.heap.get? b=some (pH ys m))
   (qa:RelAll T s.heap xs.toList l) (qb:RelAll T s.heap ys.toList k) (hc:He k l=some c) (q:R (.done (.ret (.bool c))) s) :
   wpAny (model prog w) A (Builtin.«tuple.__gt__» ⟨[.ref a,.ref b],[]⟩) R E s:=by
 show wpAny _ _ (isInstance (.ref b) (.type "tuple") >>= _) _ _ s;refine OJ (wpAny_isInstance (T:="tuple") ⟨_,eb,rfl⟩ isSubtype_tuple_tuple (OJ (wpAny_tupleItemsOf ea rfl (OJ (wpAny_tupleItemsOf eb rfl (OJ ?_))))));refine wpAny_forIn_list _ (λrest r s'=>r=(none,())/\s'=s/\GtI T s.heap c xs.size ys.size rest) _ (λp rest r s' g=>?_) (λr s' g=>?_) _ _ ⟨rfl,rfl,_,_,_,_,0,rfl,qa,qb,hc,rfl,rfl⟩
 . cases Hy g.2.2 with
   |eq i t t' e g'=>rw[e,g.2.1];refine OJ (wpAny_eqBool_int ?_);rw[beq_self_eq_true i];exact PH ⟨rfl,rfl,g'⟩
   |ne i j t t' e hne hc=>rw[e,g.2.1];refine OJ (wpAny_eqBool_int ?_);rw[beq_eq_false_iff_ne.mpr hne];exact OJ (wpAny_rule (OJ (P.gt_int (OJ (PH (PH (PH (hc▸q))))))))
 . rw[g.1,g.2.1];exact PH ((KW g.2.2)▸q:R (.done (.ret (.bool (decide (xs.size > ys.size))))) s)
theorem EH{prog:Program}{E:VP}{T:Addr->Prop}{b:Addr}(ea:s.heap.get? a=some (pH xs n))(eb:s.heap.get? b=some (pH ys m))
   (qa:RelAll T s.heap xs.toList l) (qb:RelAll T s.heap ys.toList k) (hc:He k l=some c) (hu:A.units < cLine) (q:Q (.bool c) s) :
   wpAny (model prog w) A (compareOp .Gt (.ref a) (.ref b)) Q E s:=by
 show wpAny _ _ (richCompare .Gt (.ref a) (.ref b)) _ _ _;refine wpAny_richCompare_same_room (T:="tuple") ⟨_,ea,rfl⟩ ⟨_,eb,rfl⟩ F.slot_tuple_gt ?_ hu;refine wpAny_call_entry F.slot_tuple_gt (T:="tuple") ⟨_,ea,rfl⟩ F.entry_tuple_gt ?_ (F.args_tuple_gt_2 _ _);exact sD ea eb qa qb hc ⟨_,rfl,nofun,q⟩
theorem zh(Ub:CO Z)(I:Inv Z Y U s.heap)(hu:A.units+200 < cLine)(rx:aE Y U s.heap v x)(ry:aE Y U s.heap u y)(hb:bC op x y U=some b){E:VP}
   (q:CG s Q (.bool b)):WP Z A (compareOp (bW op) v u) Q E s:=by
 cases op with
 |eq=>exact(tZ hu rx ry hb).1 q
 |ne=>obtain⟨c,hc,rfl⟩:=Qj.mp (show (LU x y).map (!·)=some b from hb);exact(tZ hu rx ry hc).2 q
 |lt=>apply u0 rx ry hb;intro i j t t' e;injection e with e;subst e;exact P.lt_int (q s.toks)
 |le=>apply u0 rx ry hb;intro i j t t' e;injection e with e;subst e;exact P.le_int (q s.toks)
 |gt=>
   rcases iM hb with⟨i,j,hi,hj,e⟩|e
   . rw[c6 hi]at rx;rw[c6 hj]at ry;apply gj (mV rx);intro t;apply gj (mV ry);intro t';clear hb;injection e with e;subst e;exact P.gt_int (q s.toks)
   rcases iM e with⟨i,j,hi,hj,e⟩|e
   . rw[eu hi]at rx;rw[eu hj]at ry;apply (qo rx).el;intro a vs n h1 _ _ r1;apply (qo ry).el;intro a' us m h2 _ _ r2;exact EH h1 h2 r1 r2 e (P6 (PU _ 200) hu) (q s.toks)
   . injection e
 |ge _=>apply u0 rx ry hb;intro i j t t' e;injection e with e;subst e;exact P.ge_int (q s.toks)
 |isN=>obtain⟨e,d,e',h⟩:=As ry hb;have r:=AD (d:=d) (e'▸rx);exact e▸wpAny_is_plain r.1 (r.2▸Option.some.inj h▸q s.toks)
 |isNotN=>obtain⟨e,d,e',h⟩:=As ry hb;have r:=AD (d:=d) (e'▸rx);exact e▸wpAny_isNot_plain r.1 (r.2▸Option.some.inj h▸q s.toks)
 |isIn=>exact(tO Ub I hu rx ry hb).1 q
 |notIn=>obtain⟨c,hc,rfl⟩:=Qj.mp (show (bC.inV x y U).map (!·)=some b from hb);exact(tO Ub I hu rx ry hc).2 (q)variable {items:Array Value}{value:Expr}{p:Option Int}{vl vu:Value}theorem oV{j:Int}(hj:(if i < 0 then i+n else i)=j)(h0:0<=j)(h1:j < n):seqIndex? i n=some j.toNat:=by show (if (decide (0<=(if i < 0 then i+(n:Int) else i))&&decide ((if i < 0 then i+(n:Int) else i) < n))=true then some (if i < 0 then i+(n:Int) else i).toNat else none)=_;rw[hj,if_pos (by rw[decide_eq_true h0,decide_eq_true h1];rfl)]
theorem rE{k:Nat}(h:index n i=some k):seqIndex? i n=some k/\-(n:Int)<=i/\i < n/\k < n:=by
 by_cases h0:0<=i
 . have h:=(if_pos h0).symm.trans h;by_cases h1:i < n
   . have e:=Option.some.inj ((if_pos h1).symm.trans h);clear h;subst e;exact⟨oV (if_neg (RG.mpr h0)) h0 h1,QL (Int.neg_nonpos_of_nonneg (Qg n)) h0,h1,(Sl h0).mpr h1⟩
   . exact TQ rfl (heq_of_eq ((if_neg h1).symm.trans h))
 . have h:=(if_neg h0).symm.trans h;have h0:=TS.mp h0;by_cases h1:0<=i+n
   . have e:=Option.some.inj ((if_pos h1).symm.trans h);clear h;subst e;have h2:i+n < n:=Sr (Int.add_lt_add_right h0 n) (Int.le_of_eq (TV _));exact⟨oV (if_pos h0) h1 h2,by lia,Sr h0 (Qg n),(Sl h1).mpr h2⟩
   . exact TQ rfl (heq_of_eq ((if_neg h1).symm.trans h))
def ItemsOf(Z:Cx)(A:Around)(E:VP)(v u:Value)(Q:VP)(s:Shared):Prop:=
 X2 λT id=>A3 (s.TypeIs v T) (typeLookup (.type T) "__getitem__"=pure (some (.builtin id))) (WP Z A (getItem v u) Q E s)
theorem vd{t:Tok}{y:Value}{E:VP}(e:s.heap.get? a=some (eP vs n))(h0:0<=i)(hz:vs.size<=LIM)(hy:vs[i.toNat]?=some y)(h:Q y s) :
   ItemsOf Z A E (.ref a) (.int i t) Q s:=
 ⟨"list",_,⟨_,e,rfl⟩,slot_list_getitem.lookup,wpAny_getItem_list ⟨_,e,rfl,_,rfl⟩ h0 (by have:=(Q8.mp hy).1;unfold LIM at hz;lia) hy h⟩
theorem yY{z:V}(I:Inv Z Y U s.heap)(rx:aE Y U s.heap v x)(ry:aE Y U s.heap u y)(hb:cK x y U=some z){E:VP}
   (q:∀w tk,aE Y U s.heap w z->Q w { s with toks:=tk }):ItemsOf Z A E v u Q s:=by
 rcases gx hb with⟨i,hi,hb⟩|hb
 . rw[c6 hi]at ry;apply gj (mV ry);intro ti;rcases gx hb with⟨l,hl,hb⟩|hb
   . rw[eu hl]at rx;apply (qo rx).el;intro a vs n e t zz r;obtain⟨k,hk,hb⟩:=PK.mp hb;obtain⟨d,hd,rfl⟩:=Qj.mp hb;obtain⟨h1,h2,h3,h4⟩:=rE hk;obtain⟨w,hw,rw'⟩:=r.get hd;have hl:=r.length;simp only[PZ]at hl;exact⟨"tuple",_,⟨_,e,rfl⟩,F.slot_tuple_getitem.lookup,P.getItem_tuple e (by unfold LIM at zz;lia) (by unfold LIM at zz;lia) (by rw[hl];exact h1) (by simpa using hw) (q w s.toks rw')⟩
   . rcases gx hb with⟨x',hx,hb⟩|hb
     . replace rx:=(eA hx)▸rx;obtain⟨t,rfl,g⟩:=oo rx;obtain⟨k,hk,hb⟩:=PK.mp hb;obtain⟨c,hd,rfl⟩:=Qj.mp hb;obtain⟨h1,h2,h3,h4⟩:=rE hk;have hl:=g.len;have hlen:x'.length=(aG x').length:=by simp[Str.length,aG]
       have hc:x'.cps[k]?=some c:=by simpa[aG] using hd
       refine⟨"str",_,typeIs_str s x' t,F.slot_str_getitem.lookup,P.getItem_str ?_ (c:=c) ?_ (q _ _ (.str _ _ ?_))⟩
       . unfold LIM at hl;simp;lia
       . rw[hlen,h1,Option.bind_some];exact hc
       . exact gQ (λd hd'=>by simp at hd';clear q;subst hd';exact g.cps d (PC hd)) (by simp[LIM])
     . obtain⟨l,hl,hb⟩:=ko hb;apply (bb I hl rx).el;intro a vs n e r zz;by_cases h0:0<=i
       . rw[if_pos h0]at hb;obtain⟨d,hd,hb⟩:=Qj.mp hb;obtain⟨w,hw,rw'⟩:=r.get hd;have hz:=r.length;simp only[PZ]at hz;exact vd e h0 (by rw[hz];exact zz) (by simpa using hw) (q w s.toks (hb▸rw'))
       . rw[if_neg h0]at hb;injection hb
 . rcases iM hb with⟨k,l,hk0,hl,hbF⟩|hb
   . clear hb;apply (lB I hl rx).el;intro n a hb' hc R0;obtain⟨kvs,D,hk,r,_,zz⟩:=R0;rw[eA hk0]at ry;apply xo (oo ry);intro t g;obtain⟨d',hd',rfl⟩:=Qj.mp hbF;rcases gU hk r k with⟨h1,h2⟩|⟨w,d,h1,h2,rw'⟩
     . rw[h2]at hd';injection hd'
     . rw[h2]at hd';clear hb;injection hd' with e;subst e;exact⟨"dict",_,D.typeIs,slot_dict_getitem.lookup,wpAny_getItem_of (strKind_is Z.prog Z.w k t) D.mapOf h1 (q w _ rw')⟩
   . injection hb
set_option tactic.hygienic true in
theorem ez{slice:Expr}{E:VP}(h:ItemsOf Z A E v u Q s) :
   WP Z A (do standAt pos;let r <- subscripted slice (<- getitemInPython v) v u;letTemporaryGo value v r;pure r) Q E s:=by
 obtain⟨T,id,hT,hl,hw⟩:=h;refine OJ (Qy ?_);have hs:∃ops,subscripted slice false v u=operate ops (getItem v u):=by
   cases slice
   case Slice _ _ st _=>cases st<;>exact⟨_,rfl⟩
   all_goals exact⟨_,rfl⟩
 obtain⟨ops,hs⟩:=hs;refine OJ ?_;rw[getitemInPython_of_ne hT.not_modules];refine OJ (wpAny_specialOf hT hl ?_);have fin:WP Z A (subscripted slice false v u) (λr aW=>WP Z A (letTemporaryGo value v r >>= λ_=>pure r) Q E aW) E s:=by exact hs▸(wpAny_operating (PO hw (λr aW oJ=>OJ (wpAny_letTemporaryGo (PH oJ))) λ_ _ x=>x))
 first
   |exact PH (OJ fin)
   |exact OJ (PH (OJ fin))
   |exact OJ (fin)theorem iI(n:Nat)(i:Int):jq n i=clipAt n i:=(rfl)theorem oz(vs:Array Value)(lo hi:Option Int):(slicePick vs lo hi none).toList=aC vs.toList lo hi:=by rw[slicePick_plain];unfold aC;cases lo<;>cases hi<;>simp[iI]
theorem fG(l:List B)(lo hi:Option Int):(aC l lo hi).length<=l.length:=
 ((R5 _ _).trans (Tc _ _)).length_le
theorem RelAll.slice{vs:List Value}(r:RelAll T h vs ds)(lo hi:Option Int):RelAll T h (aC vs lo hi) (aC ds lo hi):=by unfold aC;exact r.length▸(r.drop _).take _
theorem wg(x:Str)(lo hi:Option Int):(Builtin.Str.strSliceIndices lo hi 1 x.length).filterMap (x.cps[·]?)=aC (aG x) lo hi:=by
 have e:Builtin.Str.strSliceIndices lo hi 1 x.length=sliceRange (((lo.elim 0 (clipAt x.length):Nat):Int)) (((hi.elim x.length (clipAt x.length):Nat):Int)) 1:=by unfold Builtin.Str.strSliceIndices;cases lo<;>cases hi<;>simp[clipAt_cast]
 rw[e,sliceRange_one,pick_run];unfold aC aG;clear e;cases lo<;>cases hi<;>simp[iI,Str.length]
theorem xF(n:Nat)(i:Int):(if i < 0 then max (i+n) 0 else min i n)=(clipAt n i:Int):=by
 rw[clipAt_cast n i];by_cases h:i < 0
 . rw[if_pos h,if_pos h,SR (QL (Int.add_le_add_right (R3 h) n) (Int.le_of_eq (TV _))),Int.max_comm]
 . rw[if_neg h,if_neg h,Sh (Int.le_min.mpr ⟨RG.mp h,Qg n⟩)]
theorem ul(lo hi:Option Int)(n:Nat):Builtin.Slice.sliceAdjust lo hi 1 (n:Int)=(((lo.elim 0 (clipAt n):Nat):Int),((hi.elim n (clipAt n):Nat):Int)):=by
 refine Prod.ext ?_ ?_
 . cases lo with
   |none=>rfl
   |some i=>exact xF n i
 . cases hi with
   |none=>rfl
   |some i=>exact xF n i
theorem uj(a b:Nat):Builtin.Slice.slicePlaces (a:Int) (b:Int) 1=b - a:=by
 unfold Builtin.Slice.slicePlaces;have h1:(1:Int) > 0:=by decide
 simp only[h1,if_true,Int.ediv_one];split<;>lia
theorem mZ{prog:Program}{E:VP}{Q:Option Int->Shared->Prop}(hp:IsPart v p)(h:Q p s):wpAny (model prog w) A (Builtin.Slice.slicePartIndex v) Q E s:=by
 cases hp with
 |none=>exact SS h
 |int i t=>exact PyProof.Rows.slicePart_int h
theorem C4(items:Array Value)(lo hi:Option Int):((List.range (hi.elim items.size (clipAt items.size) - lo.elim 0 (clipAt items.size))).filterMap λ(k:Nat)=>items[(((lo.elim 0 (clipAt items.size):Nat):Int)+(k:Int) * 1).toNat]?).toArray=(aC items.toList lo hi).toArray:=by
 have e:(λ(k:Nat)=>items[(((lo.elim 0 (clipAt items.size):Nat):Int)+(k:Int) * 1).toNat]?)=λk=>items[lo.elim 0 (clipAt items.size)+k]?:=by funext k;congr 1;rw[Int.mul_one];rfl
 refine e▸?_;have:=pick_run items (lo.elim 0 (clipAt items.size)) (hi.elim items.size (clipAt items.size) - lo.elim 0 (clipAt items.size));rw[List.filterMap_map]at this;have e2:((λx=>items[x]?) ∘ λx=>lo.elim 0 (clipAt items.size)+x)=λk=>items[lo.elim 0 (clipAt items.size)+k]?:=rfl;replace this:=e2▸this;rw[this];unfold aC;clear e2 e this;cases lo<;>cases hi<;>simp[iI]
theorem Bq(items:Array Value)(lo hi:Option Int)(hw:(((lo.elim 0 (clipAt items.size):Nat):Int)==0&&(1:Int)==1&&(hi.elim items.size (clipAt items.size) - lo.elim 0 (clipAt items.size))==items.size)=true):aC items.toList lo hi=items.toList:=by
 simp only[P3,beq_iff_eq]at hw;obtain⟨⟨h3,_⟩,h4⟩:=hw;have:∀a b,a=0->b - a=items.size->(items.toList.drop a).take (b - a)=items.toList:=by intro a b ha hb;rw[hb];subst ha;simp[RB]
 unfold aC;have q:=this (lo.elim 0 (clipAt items.size)) (hi.elim items.size (clipAt items.size)) (Int.ofNat.inj h3) h4;clear h4;cases lo<;>cases hi<;>simpa[iI] using q
set_option tactic.hygienic true in
theorem lP{prog:Program}{E:VP}{t sl:Addr}{lo hi:Option Int}(ht:s.heap.get? t=some (pH items n))
   (hs:s.heap.IsSliceOf sl vl vu .none) (pl:IsPart vl lo) (pu:IsPart vu hi) (hsz:items.size<=sizeLine)
   (h1:aC items.toList lo hi=items.toList->Q (.ref t) s) (h2:Q (.ref s.heap.objs.size) { s with heap:=s.heap.push { cls:=.type "tuple",data:=.seq (aC items.toList lo hi).toArray } }) :
   wpAny (model prog w) A (getItem (.ref t) (.ref sl)) Q E s:=by
 have ht':PyProof.Rows.IsTup s.heap t items:=⟨_,ht,rfl,_,rfl⟩
 obtain⟨os,hos,hcs,hds⟩:=id hs;have hlen:=fG items.toList lo hi;have hdrop:sizeOk (.seq (aC items.toList lo hi).toArray):=by show (aC items.toList lo hi).toArray.size<=sizeLine;rw[Td];simp at hlen;exact iv hlen hsz
 unfold getItem
 try with_reducible refine QR ?_
 first|refine OJ (PH ?_) | skip
 refine OJ (wpAny_sequenceKey ht'.typeIs (by decide) ?_);refine OJ (wpAny_callSpecial?_slot (name:=Str.ofString "__getitem__") ht'.typeIs SD
   (wpAny_call_entry SD ht'.typeIs PyProof.Rows.entry_tuple_getitem ?_ (PyProof.Rows.args_tuple_getitem _ _)))
 show wpAny _ _ (Builtin.Tuple.tupleItemsOf (.ref t) >>= _) _ _ s;refine OJ (PyProof.Rows.tupleItemsOf_ ht' ?_);refine OJ (wpAny_typeOf (⟨os,hos,hcs⟩) ?_);rw[if_pos (by decide)];have app:∀Q':Int×Int×Nat->Shared->Prop,Q' (((lo.elim 0 (clipAt items.size):Nat):Int),1,hi.elim items.size (clipAt items.size) - lo.elim 0 (clipAt items.size)) s->
     wpAny (model prog w) A.in1 (Builtin.Slice.sliceApplied (.ref sl) (pure (items.size:Int))) Q' E s:=by
   intro Q' hq;unfold Builtin.Slice.sliceApplied Builtin.Slice.sliceFields;refine OJ (OJ (wpAny_field hos hds (x:=vl) rfl (OJ (wpAny_field hos hds (x:=vu) rfl (OJ (wpAny_field hos hds (x:=.none) rfl (PH ?_)))))));refine OJ (SS ?_);refine(?_:wpAny _ _ (if ((1:Int)==0)=true then _ else _) _ _ s);rw[if_neg (by decide)];refine OJ (mZ pl (OJ (mZ pu (OJ (PH ?_)))));show wpAny _ _ (match Builtin.Slice.sliceAdjust lo hi 1 (items.size:Int) with | (lo,hi)=>pure (lo,(1:Int),Builtin.Slice.slicePlaces lo hi 1)) _ _ s;rw[ul];show wpAny _ _ (pure (((lo.elim 0 (clipAt items.size):Nat):Int),(1:Int),Builtin.Slice.slicePlaces ((lo.elim 0 (clipAt items.size):Nat):Int) ((hi.elim items.size (clipAt items.size):Nat):Int) 1)) _ _ s;rw[uj];exact PH hq
 refine OJ (app _ ?_);show wpAny _ _ (if ((((lo.elim 0 (clipAt items.size):Nat):Int)==0&&(1:Int)==1&&(hi.elim items.size (clipAt items.size) - lo.elim 0 (clipAt items.size))==items.size)=true) then _ else _) _ _ s;split
 . rename_i hw;have h1':=h1 (Bq items lo hi hw);have ex:∀Q':Bool->Shared->Prop,Q' true s->wpAny (model prog w) A.in1 (Builtin.Tuple.tupleIsExact (.ref t)) Q' E s:=by intro Q' hq;unfold Builtin.Tuple.tupleIsExact;exact OJ (wpAny_typeOf ht'.typeIs (PH hq))
   first
     |exact OJ (ex _ (OJ (wpAny_rule (PH ⟨_,rfl,PH h1'⟩))))
     |exact OJ (ex _ (OJ (wpAny_rule (OJ (PH (PH ⟨_,rfl,PH h1'⟩))))))
 . rw[C4]
   first
     |exact OJ (m:=Builtin.Tuple.tupleExact _) (Qn (PH ⟨_,rfl,PH h2⟩) hdrop)
     |exact OJ (m:=Builtin.Tuple.tupleExact _) (Qn (OJ (PH (PH ⟨_,rfl,PH h2⟩))) hdrop)
     |exact OJ (OJ (m:=Builtin.Tuple.tupleExact _) (Qn (PH (PH ⟨_,rfl,PH h2⟩)) hdrop))
     |exact OJ (OJ (m:=Builtin.Tuple.tupleExact _) (Qn (PH ⟨_,rfl,PH h2⟩) hdrop))variable {bs:List Bool}{ss:List Str}{xs:List V}{vs rest:List Value}{g:V->Res V}{f:Value}
section
variable {h:Heap}def LV(v:Value)(x:Option V)(Y:List Addr)(U:ac)(h:Heap):Prop:=match x with
 |none=>v=.none
 |some x=>aE Y U h v x
theorem k9{x:Option V}(r:LV v x Y U h)(hp:cO x=some p):IsPart v p:=by
 cases x with
 |none=>injection hp with e;subst e;subst r;exact .none
 |some x=>cases x with
   |d y=>cases y with
     |int i=>injection hp with e;subst e;cases r;exact .int _ _
     |_=>injection hp
   |_=>injection hp
theorem hX(ha:h.objs.size<=a):h.get? a=none:=by
 cases q:h.get? a with
 |none=>rfl
 |some o=>exact absurd (Qx q) (SN.mpr ha)
theorem uw{l:List B}{lo hi:Option Int}(hl:(aC l lo hi).length=l.length):aC l lo hi=l:=
 ((R5 _ _).trans (Tc _ _)).eq_of_length hl
theorem Ig(n:Nat)(i:Int):clipAt n i<=n:=Rg.mpr (Int.max_le.mpr ⟨Qg n,Int.min_le_right _ _⟩)
theorem Bw{x:Str}{l h:Option Int}{l' h':Option (Int×Tok)}(e1:l'.map (·.1)=l)(e2:h'.map (·.1)=h)(hlen:(slicePicked x l' h' none).length=x.length):aD (aC (aG x) l h)=x:=by
 have e:slicePicked x l' h' none=sliceRange (((l.elim 0 (clipAt x.length):Nat):Int)) (((h.elim x.length (clipAt x.length):Nat):Int)) 1:=by unfold slicePicked;rw[e1,e2];unfold Builtin.Str.strSliceIndices;clear e2;cases (l)<;>cases (h)<;>simp[clipAt_cast]
 rw[e,sliceRange_one,Pa,Ra]at hlen;have c2:h.elim x.length (clipAt x.length)<=x.length:=by
   clear hlen e;cases h with
   |none=>exact P9 _
   |some i=>exact Ig _ i
 have es:aC (aG x) l h=((aG x).drop (l.elim 0 (clipAt x.length))).take (h.elim x.length (clipAt x.length) - l.elim 0 (clipAt x.length)):=by clear e1 c2 e2 hlen e;cases (l)<;>cases (h)<;>rfl
 rw[es,hlen,(Tc _ (aG x)).eq_of_length_le (by rw[Qw];exact iv (Qk hlen.symm) (Nat.sub_le_sub_right c2 _)),RB (show (aG x).length<=x.length from P9 _)];(rfl)noncomputable abbrev Gx (v vl vu:Value) (value slice:Expr) (pos:Pos):Sem Value:=newFields "slice" [vl,vu,.none] >>= λi=>(do standAt pos;let r <- subscripted slice (<- getitemInPython v) v i;letTemporaryGo value v r;pure r)
theorem NY{slice:Expr}{l h:Option Int}(I:Inv Z Y U s.heap){x:List PyData}(rx:aE Y U s.heap v (.d (.tuple x)))(pl:IsPart vl l)(pu:IsPart vu h):Ev Z O A (Gx v vl vu value slice pos) (.ok (.d (.tuple (aC x l h))) U) VR Y U s:=by
 have hk:∀b o,s.heap.get? b=some o->(s.heap.push { cls:=.type "slice",data:=.fields #[vl,vu,.none] }).get? b=some o:=λb o e=>PG _ e;have sl:(s.heap.push { cls:=.type "slice",data:=.fields #[vl,vu,.none] }).IsSliceOf s.heap.objs.size vl vu .none:=Heap.IsSliceOf.new ..;cases rx with
 |tuple e t z r=>
   have hz:=r.length;simp at hz;refine Ev.grown I (OJ (Qn (ez ⟨"tuple",_,⟨_,hk _ _ e,rfl⟩,F.slot_tuple_getitem.lookup,lP (hk _ _ e) sl pl pu (by rw[hz];exact iv z cb) (λq=>?_) ?_⟩)))
   . refine⟨hk,rfl,rfl,?_⟩;rw[(uw (by rw[<- (r.slice l h).length,q,r.length]))];exact .tuple (hk _ _ e) t z (r.mono λx o _ _ e _ t=>⟨hk x o e,t⟩)
   . refine⟨λb o e=>PG _ (hk b o e),rfl,rfl,?_⟩;refine .tuple (n:=0) (PV _ rfl) (I.notTT ?_) (iv (fG x l h) z) ?_
     . exact hX (by rw[RQ];exact Sj _)
     . exact(r.slice l h).mono λx o _ _ e _ t=>⟨PG _ (hk x o e),t⟩
set_option tactic.hygienic true in
theorem NX{slice:Expr}{l h:Option Int}(I:Inv Z Y U s.heap){x:Str}(rx:aE Y U s.heap v (.d (.str x)))(pl:IsPart vl l)(pu:IsPart vu h):Ev Z O A (Gx v vl vu value slice pos) (.ok (.d (.str (aD (aC (aG x) l h)))) U) VR Y U s:=by
 have hk:∀b o,s.heap.get? b=some o->(s.heap.push { cls:=.type "slice",data:=.fields #[vl,vu,.none] }).get? b=some o:=λb o e=>PG _ e;cases rx with
 |str _ tk g=>
   have good:cY (aD (aC (aG x) l h)):=gQ (λc hc=>g.cps c (by unfold aC at hc;exact QF (P8 hc))) (iv (fG _ _ _) g.len)
   have parts:X2 λl' h'=>A4 (vl=partValue l') (vu=partValue h') (l'.map (·.1)=l) (h'.map (·.1)=h):=by
     refine⟨match vl with | .int i t=>some (i,t) | _=>none,match vu with | .int i t=>some (i,t) | _=>none,?_,?_,?_,?_⟩
     . cases pl<;>rfl
     . cases pu<;>rfl
     . cases pl<;>rfl
     . cases pu<;>rfl
   obtain⟨l',h',rfl,rfl,e1,e2⟩:=parts;refine Ev.grown I (OJ (Qn (ez ⟨"str",_,typeIs_str _ x tk,F.slot_str_getitem.lookup,wpAny_getItem_str_slice (l:=l') (u:=h') (st:=none) ⟨_,PV _ rfl,rfl,rfl⟩ rfl ?_⟩)));have GX:(slicePicked x l' h' none).filterMap (x.cps[·]?)=aC (aG x) l h:=by unfold slicePicked;rw[e1,e2];exact wg x l h
   unfold sliceMade;split
   . rename_i hw;refine⟨hk,rfl,rfl,?_⟩;have hx:aD (aC (aG x) l h)=x:=Bw e1 e2 (by have:=(PI.mp hw).2;simpa using this)
     rw[hx];exact .str _ _ g
   . refine⟨?_,hk,rfl,rfl,?_⟩
     . rw[GX];have:=good.2;exact iv this cb
     . rw[GX];exact .str _ _ good
theorem NW{m:Bool}{slice:Expr}{l h:Option Int}(I:Inv Z Y U s.heap){xs:List PyData}(rx:aE Y U s.heap v x)(hxs:aQ U x=some xs)(pl:IsPart vl l)(pu:IsPart vu h):Ev Z O A (Gx v vl vu value slice pos) (bh m (aC xs l h) U) VR Y U s:=by
 have hk:∀b o,s.heap.get? b=some o->(s.heap.push { cls:=.type "slice",data:=.fields #[vl,vu,.none] }).get? b=some o:=λb o e=>PG _ e;have sl:(s.heap.push { cls:=.type "slice",data:=.fields #[vl,vu,.none] }).IsSliceOf s.heap.objs.size vl vu .none:=Heap.IsSliceOf.new ..;obtain⟨a,vs,n,rfl,e,r,z⟩:=bb I hxs rx;have hz:=r.length;simp at hz;refine gI I (iv (fG _ _ _) z) (OJ (Qn (ez ⟨"list",_,⟨_,hk _ _ e,rfl⟩,slot_list_getitem.lookup,
   wpAny_getItem_list_slice ⟨_,hk _ _ e,rfl,_,rfl⟩ sl pl pu .none (by simp) ?_ (by rw[hz];exact iv z cb)⟩)))
 refine⟨_,_,0,rfl,hX (by rw[RQ];exact Sj _),PV _ rfl,λb o e=>PG _ (hk b o e),rfl,rfl,?_⟩;rw[oz];exact r.slice l h
theorem Gw{m:Bool}(h1:∀l h y,cO lo=some l->cO hi=some h->x=.d (.tuple y)->Ev Z O A t (.ok (.d (.tuple (aC y l h))) U) VR Y U s)(h2:∀l h y,cO lo=some l->cO hi=some h->x=.d (.str y)->Ev Z O A t (.ok (.d (.str (aD (aC (aG y) l h)))) U) VR Y U s)
   (h3:∀l h xs,cO lo=some l->cO hi=some h->aQ U x=some xs->Ev Z O A t (bh m (aC xs l h) U) VR Y U s):Ev Z O A t (gq m x lo hi U) VR Y U s:=by
 unfold gq;rcases nX (cO lo) (cO hi) (λl h=>oc (jy x) (λx=>Res.ok (V.d (.tuple (aC x l h))) U) (oc (j3 x) (λx=>.ok (.d (.str (aD (aC (aG x) l h)))) U) (oc (aQ U x) (λx=>bh m (aC x l h) U) .bad))) .bad with⟨l,h,hl,hh,e⟩|e
 . rw[e];clear e;rcases jj (jy x) (λx=>Res.ok (V.d (.tuple (aC x l h))) U) (oc (j3 x) (λx=>.ok (.d (.str (aD (aC (aG x) l h)))) U) (oc (aQ U x) (λx=>bh m (aC x l h) U) .bad)) with⟨y,hy,e⟩|e
   . rw[e];exact h1 l h y hl hh (eu hy)
   rw[e];clear e;rcases jj (j3 x) (λx=>Res.ok (V.d (.str (aD (aC (aG x) l h)))) U) (oc (aQ U x) (λx=>bh m (aC x l h) U) .bad) with⟨y,hy,e⟩|e
   . rw[e];exact h2 l h y hl hh (eA hy)
   rw[e];clear e;rcases jj (aQ U x) (λx=>bh m (aC x l h) U) .bad with⟨y,hy,e⟩|e
   . rw[e];exact h3 l h y hl hh hy
   . rw[e];exact Ev.bad
 . rw[e];exact Ev.bad
theorem ym{m:Bool}{slice:Expr}(I:Inv Z Y U s.heap)(rx:aE Y U s.heap v x)(rl:LV vl lo Y U s.heap)(ru:LV vu hi Y U s.heap) :
   Ev Z O A (Gx v vl vu value slice pos) (gq m x lo hi U) VR Y U s:=
 Gw (λl h y hl hh e=>NY I (e▸rx) (k9 rl hl) (k9 ru hh)) (λl h y hl hh e=>NX I (e▸rx) (k9 rl hl) (k9 ru hh)) λl h xs hl hh hxs=>NW I rx hxs (k9 rl hl) (k9 ru hh)noncomputable def ui:Ty->String
 |.list=>"list"
 |.int=>"int"
 |.bool=>"bool"
 |.str=>"str"
 |.tuple _=>"tuple"
theorem uX{t:Ty}(r:aE Y U s.heap v x)(hb:OO t x=some b){E:VP}(q:CG s Q (.bool b)) :
   WP Z A (call (.builtin "isinstance") [v,.type (ui t)]) Q E s:=by
 cases x with
 |d y=>
   cases r with
   |int i tk=>
     cases t with
     |int=>injection hb with e;subst e;exact IsiPair.int_int (q s.toks)
     |bool=>injection hb with e;subst e;exact IsiPair.int_bool (q _)
     |str=>injection hb with e;subst e;exact IsiPair.int_str (q _)
     |tuple=>injection hb with e;subst e;exact IsiPair.int_tuple (q _)
     |list=>injection hb
   |str x tk g=>
     cases t with
     |str=>injection hb with e;subst e;exact IsiPair.str_str (q s.toks)
     |tuple=>injection hb with e;subst e;exact IsiPair.str_tuple (q _)
     |_=>injection hb
   |none=>
     cases t with
     |str=>injection hb with e;subst e;exact IsiPair.NoneType_str (q _)
     |tuple=>injection hb with e;subst e;exact IsiPair.NoneType_tuple (q _)
     |_=>injection hb
   |tuple e ht z r=>
     cases t with
     |tuple=>injection hb with e;subst e;exact IsiPair.tuple_tuple e rfl (q s.toks)
     |str=>injection hb with e;subst e;exact IsiPair.tuple_str e rfl (q _)
     |_=>injection hb
   |bool i=>injection hb
   |list e ht z r=>
     cases t with
     |list=>injection hb with e;subst e;exact IsiPair.list_list e rfl (q s.toks)
     |_=>injection hb
 |_=>injection hb
theorem qv(r:RelAll T h vs l)(e:iP l=some ss):PyProof.Rows.StrsAre vs ss/\l=ss.map .str:=by
 induction l generalizing vs ss with
 |nil=>rw[r.inv0];injection e with e;subst e;exact⟨.nil,rfl⟩
 |cons d l ih=>
   obtain⟨v,vs,rfl,z,rs⟩:=r.inv;clear r;cases z with
   |str x t g=>obtain⟨ss,e',rfl⟩:=Qj.mp (e:(iP l).map (x::·)=some ss);exact⟨.cons x t (ih rs e').1,congrArg (List.cons (PyData.str x)) (ih rs e').2⟩
   |_=>injection e
theorem iL(r:RelAll T h vs l)(e:c7 l=some bs):vs=bs.map .bool/\l=bs.map .bool:=by
 induction l generalizing vs bs with
 |nil=>rw[r.inv0];injection e with e;subst e;exact⟨rfl,rfl⟩
 |cons d l ih=>
   obtain⟨v,vs,rfl,z,rs⟩:=r.inv;clear r;cases z with
   |bool x=>obtain⟨ss,e',rfl⟩:=Qj.mp (e:(c7 l).map (x::·)=some bs);exact⟨congrArg (List.cons (Value.bool x)) (ih rs e').1,congrArg (List.cons (PyData.bool x)) (ih rs e').2⟩
   |_=>injection e
theorem De(x y:Str):PySem.Spec.ltCps x.cps.toList y.cps.toList=lV x y:=by rw[PyProof.Rows.ltCps_eq];(rfl)theorem Dg{x y:Str}(h:aG x=aG y):x=y:=by obtain⟨a⟩:=x;obtain⟨b⟩:=y;simp[aG]at h;simp[h]theorem pi(x y:Str)(r:List Str):iV x (y::r)=if lV y x then y::iV x r else x::y::r:=rfl
theorem kH(x:Str):∀l:List Str,(iV x l).Perm (x::l)
 |[]=>.refl _
 |y::r=>by
   rw[pi];split
   . exact((kH x r).cons y).trans (.swap ..)
   . exact .refl (_)theorem eE:∀l:List Str,(cu l).Perm l
 |[]=>.refl _
 |x::r=>(kH x _).trans ((eE r).cons x)def yR(x y:Str):Prop:=lV y x=false
theorem tL{x y z:Str}(h1:yR x y)(h2:yR y z):yR x z:=by unfold yR lV at *;simp only[decide_eq_false_iff_not,List.not_lt]at *;exact List.le_trans h1 h2
set_option tactic.hygienic true in
theorem mh(x:Str):∀l:List Str,l.Pairwise yR->(iV x l).Pairwise yR
 |[]=>@λ_=>Th _ _
 |y::r=>@λhp=>by
   obtain⟨h1,h2⟩:=RW.mp hp;rw[pi];split
   . rename_i hlt;refine RW.mpr ⟨λz hz=>?_,mh x r h2⟩;rcases PM.mp ((kH x r).mem_iff.mp hz) with rfl|hz
     . unfold yR lV at *;simp only[decide_eq_true_iff,decide_eq_false_iff_not]at *;exact List.lt_asymm hlt
     . exact h1 z hz
   . rename_i hlt;have hxy:yR x y:=by unfold yR;simpa using hlt
     refine RW.mpr ⟨λz hz=>?_,hp⟩;rcases PM.mp hz with rfl|hz
     . exact hxy
     . exact tL hxy (h1 z hz)theorem kc:∀l:List Str,(cu l).Pairwise yR
 |[]=>.nil
 |x::r=>mh x _ (kc r)
theorem jf:∀(p:Str) (l:List Str),PyProof.Rows.risingS p l=true->(p::l).Pairwise yR
 |p,[]=>@λ_=>by simp
 |p,x::r=>@λhh=>by
   simp only[PyProof.Rows.risingS,P3,QB]at hh;have ih:=jf x r hh.2;have hpx:yR p x:=by unfold yR;rw[<- De];exact hh.1
   refine RW.mpr ⟨λz hz=>?_,ih⟩;clear hh;rcases PM.mp hz with rfl|hz
   . exact hpx
   . exact tL hpx ((RW.mp ih).1 z hz)
theorem lW{l l':List Str}(hp:l'.Perm l)(hs:PyProof.Rows.sortedS l'=true):l'=cu l:=by
 have h1:l'.Pairwise yR:=by
   cases l' with
   |nil=>exact .nil
   |cons x r=>exact jf x r hs
 refine List.Perm.eq_of_pairwise (λa b _ _ h1 h2=>?_) h1 (kc l) (hp.trans (eE l).symm);unfold yR lV at *;simp only[decide_eq_false_iff_not,List.not_lt]at *;exact Dg (List.le_antisymm h1 h2)
theorem wx(r:PyProof.Rows.StrsAre vs ss)(hg:∀x∈ss,cY x):RelAll T h vs (ss.map .str):=by
 induction r with
 |nil=>exact .nil
 |cons x t r ih=>exact .cons (.str x t (hg x (PF ..))) (ih λy hy=>hg y (PD _ hy))
theorem B4(r:RelAll T h vs (ss.map .str)):∀x∈ss,cY x:=by
 induction ss generalizing vs with
 |nil=>exact λx hx=>absurd hx QG
 |cons y ss ih=>
   obtain⟨v,vs,rfl,z,rs⟩:=r.inv;clear r;cases z with
   |str _ _ g=>exact λx hx=>(PM.mp hx).elim (λe=>e▸g) (ih rs x)theorem uc:∀bs:List Bool,(List.range bs.length).any (λi=>(bs[i]?).getD false)=bs.any id
 |[]=>rfl
 |b::bs=>by rw[PX,Tq,RJ,Tt,RJ,<- uc bs];(rfl)theorem ud:∀bs:List Bool,(List.range bs.length).all (λi=>(bs[i]?).getD true)=bs.all id
 |[]=>rfl
 |b::bs=>by rw[PX,Tq,List.all_cons,List.all_map,List.all_cons,<- ud bs];(rfl)noncomputable def ua:Bi->Value
 |.len=>.builtin "len"
 |.list=>.type "list"
 |.int=>.type "int"
 |.max=>.builtin "max"
 |.tuple=>.type "tuple"
 |.sortedSet=>.builtin "sorted"
 |.any=>.builtin "any"
 |.all=>.builtin "all"
 |.isinst _=>.builtin "isinstance"
def zF:Bi->List Value
 |.isinst t=>[.type (ui t)]
 |_=>[]
theorem qw:∀{vs:List Value} {ss:List Str},vs.length=ss.length->(∀(j:Nat) (v:Value),vs[j]?=some v->X2 λk t=>ss[j]?=some k/\v=.str k t)->PyProof.Rows.StrsAre vs ss
 |[],[]=>@λ_ _=>.nil
 |[],_::_=>@λhl _=>by simp at hl
 |_::_,[]=>@λhl _=>by simp at hl
 |v::vs,k::ss=>@λhl hv=>by obtain⟨k',t,h1,rfl⟩:=hv 0 v rfl;simp at h1;subst h1;exact .cons k t (qw (by simpa using hl) λj v hj=>hv (j+1) v hj)
theorem Gv{vs:Array Value}(hl:vs.size=kvs.length)(hv:∀(j:Nat) (v:Value),vs[j]?=some v->X2 λk t=>(kvs.map (·.1))[j]?=some k/\v=.str k t):PyProof.Rows.StrsAre vs.toList (kvs.map (·.1)):=
 qw (by simpa using hl) λj v hj=>hv j v (by simpa using hj)
theorem r9{kvs:List (Str×Value)}{E:VP}(hh:A.handled=none)(ne:(a==sysModules)=false)(D:s.heap.DictOf (strKind Z.prog Z.w) a kvs)(hz:kvs.length<=sizeLine)
   (q:∀h' tk (vs:Array Value) n,(∀b o,s.heap.get? b=some o->h'.get? b=some o)->h'.get? s.heap.objs.size=some (eP vs n)->PyProof.Rows.StrsAre vs.toList (kvs.map (·.1))->Q (.ref s.heap.objs.size) { s with heap:=h',toks:=tk }) :
   WP Z A (call (.type "list") [.ref a]) Q E s:=by
 obtain⟨ep,D'⟩:=D.dictAt;refine PySem.W.kdl_call (PySem.W.kdl_dict (knd:=strKind Z.prog Z.w) (kvs:=kvs) (ep:=ep) ne) hh D' hz λh' tk acc c hk e hi=>q h' tk acc c hk e ?_;refine Gv hi.1 λj v hj=>?_;obtain⟨k,x,h1,h2⟩:=hi.2 j v hj;obtain⟨t,rfl⟩:=Value.isStrOf_shape h2;exact⟨k,t,by rw[Qc,h1];rfl,rfl⟩
theorem lh(rx:eY Y U h vs xs)(e:one xs=some x):∃v,vs=[v]/\aE Y U h v x:=by
 have e:=dC e;subst e;cases rx with
 |cons r rs=>cases rs;exact⟨_,rfl,r⟩
theorem Gn(rx:eY Y U h vs xs)(e:two xs=some (x,y)):X2 λv u=>A3 (vs=[v,u]) (aE Y U h v x) (aE Y U h u y):=by
 have e:=jx e;subst e;cases rx with
 |cons r rs=>cases rs with
   |cons r' rs=>cases rs;exact⟨_,_,rfl,r,r'⟩theorem C3{P:List Value->Prop}(rx:eY Y U h vs xs)(e:two xs=some (x,y))(k:∀v u,aE Y U h v x->aE Y U h u y->P [v,u]):P vs:=by obtain⟨v,u,e,r,r'⟩:=Gn rx e;exact e▸k v u r r'
theorem ft(rx:eY Y U s.heap vs xs)(h1:∀v x,aE Y U s.heap v x->Ev Z O A (call f (v::rest)) (g x) VR Y U s):Ev Z O A (call f (vs++rest)) (oc (one xs) g .bad) VR Y U s:=
 aY (λa e=>by apply xo (lh rx e);intro v r;exact h1 v a r) Ev.bad
theorem BW (I:Inv Z Y U s.heap) (r:aE Y U s.heap v x):Ev Z O A (call (.builtin "len") [v]) (oc (jy x) (λl=>.ok (.d (.int l.length)) U) (oc (j3 x) (λx=>.ok (.d (.int (aG x).length)) U) (oc (aQ U x) (λl=>.ok (.d (.int l.length)) U) .bad))) VR Y U s:=by
 refine aY (λl e=>?_) (aY (λx' e=>?_) (aY (λl hl=>?_) Ev.bad))
 . have e:=eu e;subst e;apply (qo r).el;intro a vs n e t z rr;have hz:=rr.length;simp only[PZ]at hz;refine hz▸?_;exact cc I (P.len_tuple e (by have:=pY z;rw[hz];lia) ⟨⟨_,_,rfl⟩,.int _ _⟩)
 . have e:=eA e;subst e;obtain⟨t,rfl,g⟩:=oo r;have hlen:(aG x').length=x'.length:=by simp[aG,Str.length]
   rw[hlen];exact cc I (P.len_str (by have:=pY g.len;rw[hlen]at this;lia) ⟨⟨_,_,rfl⟩,.int _ _⟩)
 . obtain⟨a,ws,n,rfl,e,q,z⟩:=bb I hl r;have hz:=q.length;simp only[PZ]at hz;rw[<- hz];exact cc I (call_len_list ⟨_,e,rfl,_,rfl⟩ (by rw[hz];exact pY z) ⟨⟨_,_,rfl⟩,.int _ _⟩)
theorem yQ {m:Bool} (Ub:CO Z) (I:Inv Z Y U s.heap) (hh:A.handled=none) (r:aE Y U s.heap v x):Ev Z O A (call (.type "list") [v]) (oc (jy x) (λl=>bh m l U) (oc (iF U x) (λkvs=>bh m (kvs.map λx=>.str x.1) U) .bad)) VR Y U s:=by
 refine aY (λl e=>?_) (aY (λkvs' hd=>?_) Ev.bad)
 . have e:=eu e;subst e;apply (qo r).el;intro a vs n e t z rr;have hz:=rr.length;simp only[PZ]at hz;exact gI I z (call_list_seq _ (.inr rfl) e rfl rfl (λh' c hk e'=>⟨_,_,_,rfl,bo _,e',hk,rfl,rfl,rr⟩) (by rw[hz];exact iv z cb))
 . obtain⟨n,a,rfl,hb,hc,rfl,kvs,D,hk,q,hg,z⟩:=lB I hd r;have hz:kvs.length=kvs'.length:=by have:=congrArg List.length hk;simpa using this
   refine gI I (by rw[Pa];exact z) (r9 hh (Ub.ne I (PC hb)) D (by rw[hz];exact iv z cb) λh' tk vs n hk' e S=>⟨_,_,_,rfl,bo _,e,hk',rfl,rfl,?_⟩);rw[hk]at S;have:=wx (T:=TT Y U) (h:=s.heap) S hg;rw[Qv]at this;exact this
theorem wa (I:Inv Z Y U s.heap) (r:aE Y U s.heap v x):Ev Z O A (call (.type "tuple") [v]) (oc (aQ U x) (λl=>.ok (.d (.tuple l)) U) .bad) VR Y U s:=by
 refine aY (λl hl=>?_) Ev.bad;obtain⟨a,ws,n,rfl,e,q,z⟩:=bb I hl r;have hz:=q.length;simp only[PZ]at hz;refine rV I z (call_tuple_list ⟨_,e,rfl,_,rfl⟩ (λh' hk=>⟨_,_,_,rfl,?_,PV _ rfl,λb o e=>PG _ (hk b o e),rfl,rfl,q⟩) (by exact hz▸iv z cb));cases w:s.heap.get? h'.objs.size with
 |none=>rfl
 |some o=>exact absurd (Qx (hk _ _ w)) (Rr _)
theorem CC (I:Inv Z Y U s.heap) (hh:A.handled=none) (r:aE Y U s.heap v x):Ev Z O A (call (.builtin "any") [v]) (oc ((aQ U x).bind c7) (λl=>.ok (.d (.bool (l.any id))) U) .bad) VR Y U s:=by
 refine aY (λbs hl=>?_) Ev.bad;obtain⟨l,hl,hs⟩:=PK.mp hl;obtain⟨a,ws,n,rfl,e,q,z⟩:=bb I hl r;obtain⟨hw,rfl⟩:=iL q hs;have hws:ws=(bs.map Value.bool).toArray:=by rw[<- hw]
 refine Ev.grown I (call_any_walk (wpAny_pyIter_list ⟨_,e,rfl,_,rfl⟩ ?_));refine⟨_,_,_,_,_,_,λi=>(bs[i]?).getD false,rfl,Walks.list (A:=A.in1) hh s.heap.objs.size a (QE (Qx e)) ws,⟨⟨_,PV _ rfl,rfl,rfl⟩,⟨_,PG _ e,rfl,_,rfl⟩⟩,?_,λh' tk hk=>⟨?_,rfl,rfl,?_⟩⟩
 . intro i v s' Q' E' hv hq;rw[hws]at hv;simp only[Tu,Qc,Qj]at hv;obtain⟨b,hb,rfl⟩:=hv;have hq':Q' ((bs[i]?).getD false) s':=hq;rw[hb]at hq';exact wpAny_truthy_bool hq'
 . intro b o eb;exact hk b o (by simp;exact QE (Qx eb)) (PG _ eb)
 . have:(List.range ws.size).any (λi=>(bs[i]?).getD false)=bs.any id:=by rw[hws];simp only[Td,Pa];exact uc bs
   exact this▸.bool _
theorem CE (I:Inv Z Y U s.heap) (hh:A.handled=none) (r:aE Y U s.heap v x):Ev Z O A (call (.builtin "all") [v]) (oc ((aQ U x).bind c7) (λl=>.ok (.d (.bool (l.all id))) U) .bad) VR Y U s:=by
 refine aY (λbs hl=>?_) Ev.bad;obtain⟨l,hl,hs⟩:=PK.mp hl;obtain⟨a,ws,n,rfl,e,q,z⟩:=bb I hl r;obtain⟨hw,rfl⟩:=iL q hs;have hws:ws=(bs.map Value.bool).toArray:=by rw[<- hw]
 refine Ev.grown I (call_all_walk (wpAny_pyIter_list ⟨_,e,rfl,_,rfl⟩ ?_));refine⟨_,_,_,_,_,_,λi=>(bs[i]?).getD true,rfl,Walks.list (A:=A.in1) hh s.heap.objs.size a (QE (Qx e)) ws,⟨⟨_,PV _ rfl,rfl,rfl⟩,⟨_,PG _ e,rfl,_,rfl⟩⟩,?_,λh' tk hk=>⟨?_,rfl,rfl,?_⟩⟩
 . intro i v s' Q' E' hv hq;rw[hws]at hv;simp only[Tu,Qc,Qj]at hv;obtain⟨b,hb,rfl⟩:=hv;have hq':Q' ((bs[i]?).getD true) s':=hq;rw[hb]at hq';exact wpAny_truthy_bool hq'
 . intro b o eb;exact hk b o (by simp;exact QE (Qx eb)) (PG _ eb)
 . have:(List.range ws.size).all (λi=>(bs[i]?).getD true)=bs.all id:=by rw[hws];simp only[Td,Pa];exact ud bs
   exact this▸.bool _
theorem Cv{b:Bi}{m:Bool}(Ub:CO Z)(I:Inv Z Y U s.heap)(hh:A.handled=none)(rx:eY Y U s.heap vs xs)(hb:b≠.sortedSet) :
   Ev Z O A (call (ua b) (vs++zF b)) (xT b m xs U) VR Y U s:=by
 cases b with
 |len=>exact ft rx λv x r=>BW I r
 |list=>exact ft rx λv x r=>yQ Ub I hh r
 |int=>refine ft rx λv x r=>aY (λb e=>?_) Ev.bad;have e:=nP e;subst e;apply iY (zQ r);exact cc I (call_int_bool ⟨⟨_,_,rfl⟩,.int _ _⟩)
 |max=>refine aY (λp e=>cy (λx y hx hy=>?_) Ev.bad) Ev.bad;apply C3 rx e;intro v u r r';rw[c6 hx]at r;rw[c6 hy]at r';apply gj (mV r);intro t;apply gj (mV r');intro t';refine Ev.grown I (max_two_ints hh λh' tk hk=>⟨hk,rfl,rfl,?_⟩);split<;>exact .int _ _
 |tuple=>exact ft rx λv x r=>wa I r
 |any=>exact ft rx λv x r=>CC I hh r
 |isinst t=>exact ft rx λv x r=>aY (λb hb=>HT I (uX r hb λtk=>⟨⟨_,_,rfl⟩,rfl⟩)) Ev.bad
 |sortedSet=>exact absurd rfl hb
 |all=>exact ft rx λv x r=>CE I hh r
end
def MW:Me->String
 |.append=>"list.append"
 |.extend=>"list.extend"
 |.update=>"dict.update"
 |.pop=>"dict.pop"
 |.count=>"list.count"
 |.index=>"list.index"
 |.nop _=>""
def rf:Me->Str
 |.append=>"append"
 |.extend=>"extend"
 |.update=>"update"
 |.pop=>"pop"
 |.count=>"count"
 |.index=>"index"
 |.nop _=>""
def Me.done:Me->Bool
 |.append | .extend | .update=>true
 |.count | .index=>true
 |.pop=>true
 |_=>(false)variable {h:Heap}{l:List (Str×PyData)}{es:List DictEntry}{x k:Str}{Q:Unit->Shared->Prop}{e:Value->Bool}
theorem B3{prog:Program}{E:VP}{Q:Int->Shared->Prop}(h:Q 0xFCA86420 { s with toks:=s.toks+1 }) :
   wpAny (model prog w) A (pyHash .none) Q E s:=by
 unfold pyHash;refine OJ ?_;refine PH ?_;refine OJ (wpAny_specialOf (T:="NoneType") rfl F.slot_NoneType_hash.lookup ?_);refine OJ (wpAny_specialOf (T:="NoneType") rfl F.slot_NoneType_hash.lookup ?_);refine OJ (wpAny_callSpecialIfBoundUnlessNone?_slot (T:="NoneType") rfl F.slot_NoneType_hash
   (wpAny_call_entry F.slot_NoneType_hash (T:="NoneType") rfl F.entry_NoneType_hash
     (wpAny_ret_mkInt ?_:wpAny _ _ (do ret (<- mkInt 0xFCA86420)) _ _ s) (F.args_NoneType_hash_1 _)))
 exact PH (h)noncomputable def IY(k:Option Str)(v:Value):Bool:=k.elim (v==.none) λk=>Value.isStrOf k (v)theorem de(h:IY none v=true):v=.none:=eq_of_beq h
def uP(prog:Program)(w:World):KeyKind prog w (Option Str) where
 is:=IY
 hash:=λk=>k.elim 0xFCA86420 (hashStr w)
 inj:=λv a b ha hb=>by
   cases a with
   |none=>
     cases de ha
     cases b with
     |none=>rfl
     |some b=>injection hb
   |some a=>
     cases b with
     |none=>cases de hb;injection ha
     |some b=>rw[Value.isStrOf_inj v a b ha hb]
 byValue:=λk v h=>by
   cases k with
   |none=>cases de h;rfl
   |some k=>exact(strKind prog w).byValue k v h
 pyHash:=λ{A E s k v Q} hv h=>by
   cases k with
   |none=>cases de hv;exact B3 h
   |some k=>exact(strKind prog w).pyHash (k:=k) hv h
 eqBool:=λ{A E s a b u v Q} hu hv h=>by
   cases a with
   |none=>
     cases de hu
     cases b with
     |none=>cases de hv;exact SeqAt.EqAt.same .none prog w E Q h
     |some b=>obtain⟨t,rfl⟩:=Value.isStrOf_shape hv;exact SeqAt.EqAt.none_str b t prog w E Q h
   |some a=>
     cases b with
     |none=>cases de hv;obtain⟨t,rfl⟩:=Value.isStrOf_shape hu;exact SeqAt.EqAt.str_none a t prog w E Q h
     |some b=>exact(strKind prog w).eqBool (a:=a) (b:=b) hu hv (by simpa using h)
 «strs»:=λk x t v h=>by
   cases k with
   |none=>cases de h
   |some k=>exact(strKind prog w).«strs» k x t v h
theorem BT{prog:Program}(p:Pairs (strKind prog w) es kvs):Pairs (uP prog w) es (kvs.map λx=>(some x.1,x.2)):=by
 induction p with
 |nil=>exact .nil
 |cons a b _ ih=>exact .cons a b ih
theorem Ea{prog:Program}(D:h.DictOf (strKind prog w) a kvs):h.DictOf (uP prog w) a (kvs.map λx=>(some x.1,x.2)):=by
 obtain⟨o,es,ep,e,hx,hd,hk,hp,hn⟩:=D;refine⟨o,es,ep,e,hx,hd,λx hx=>?_,BT hp,?_⟩
 . obtain⟨k,h1,h2⟩:=hk x hx;exact⟨some k,h1,h2⟩
 . rw[Qv,show ((λx:Option Str×Value=>x.1) ∘ λx:Str×Value=>(some x.1,x.2))=some ∘ (λx:Str×Value=>x.1) from rfl,<- Qv];exact List.Pairwise.map some (λa b c e=>c (Option.some.inj e)) hn
theorem Kq(kvs:List (Str×Value)):valueAt (kvs.map λx=>(some x.1,x.2)) none=none:=by
 unfold valueAt;rw[List.find?_eq_none.mpr λx hx=>?_]
 . rfl
 . obtain⟨y,_,rfl⟩:=Qi.mp hx;exact(nofun)theorem nV(a b:Bool):(Value.bool a==Value.bool b)=(a==b):=by cases a<;>cases b<;>decide
theorem xO{l:List Bool}(hw:ws.toList=l.map Value.bool){y:Value}(hy:y∈ws):∃b,y=.bool b:=by have:=TI.mpr hy;rw[hw,Qi]at this;obtain⟨b,_,rfl⟩:=this;exact⟨b,rfl⟩theorem xB{x:Bool}(l:List Bool):(l.map Value.bool).countP (λv=>v==.bool x)=l.count x:=by rw[List.countP_map,List.count_eq_countP];refine List.countP_congr λb _=>?_;refine(?_:(Value.bool b==Value.bool x)=true↔_);rw[nV]
theorem yM{b:Me}{o:V}{pl:Sem Bool}{Q:Value×List Value->Shared->Prop}{E:VP}(hd:b.done=true)(I:Inv Z Y U s.heap)(ro:aE Y U s.heap v o)(hm:sI b U o=true)
   (q:Q (.builtin (MW b),[v]) s):WP Z A (getMethod v (rf b) pl) Q E s:=by
 have dc:(iF U o).isSome=true->s.TypeIs v "dict"/\∀a,v=.ref a->∃ob,s.heap.get? a=some ob/\ob.dict=none:=λhm=>by obtain⟨l,hl⟩:=Qh.mp hm;apply (lB I hl ro).el;intro n a hb hc R0;obtain⟨kvs,⟨ob,es,ep,e,hx,_⟩,_⟩:=R0;exact⟨⟨ob,e,hx.1⟩,λa' h=>by injection h with e;subst e;exact⟨ob,e,hx.2.1⟩⟩
 have lc:(aQ U o).isSome=true->s.TypeIs v "list"/\∀a,v=.ref a->∃ob,s.heap.get? a=some ob/\ob.dict=none:=λhm=>by refine(Qh.mp hm).elim λl hl=>?_;apply (bb I hl ro).el;intro a ws n e _ _;exact⟨⟨_,e,rfl⟩,λa' h=>by injection h with e;subst e;exact⟨_,e,rfl⟩⟩
 cases b with
 |append=>exact getMethod_builtin (lc hm).1 F.plainAttrs_list F.slot_list_append F.type_list_append (lc hm).2 q
 |extend=>exact getMethod_builtin (lc hm).1 F.plainAttrs_list F.slot_list_extend F.type_list_extend (lc hm).2 q
 |update=>exact getMethod_builtin (dc hm).1 F.plainAttrs_dict F.slot_dict_update F.type_dict_update (dc hm).2 q
 |pop=>exact getMethod_builtin (dc hm).1 F.plainAttrs_dict F.slot_dict_pop F.type_dict_pop (dc hm).2 q
 |count=>exact getMethod_builtin (lc hm).1 F.plainAttrs_list F.slot_list_count F.type_list_count (lc hm).2 q
 |index=>exact getMethod_builtin (lc hm).1 F.plainAttrs_list F.slot_list_index F.type_list_index (lc hm).2 q
 |nop _=>injection hd
theorem yN(rv:Rel T h v d)(hk:kvs.map (·.1)=l.map (·.1))(r:RelAll T h (kvs.map (·.2)) (l.map (·.2))) :
   (kvs.map λx=>if x.1=k then (x.1,v) else x).map (·.1)=(l.map λx=>if x.1=k then (x.1,d) else x).map (·.1)/\RelAll T h ((kvs.map λx=>if x.1=k then (x.1,v) else x).map (·.2)) ((l.map λx=>if x.1=k then (x.1,d) else x).map (·.2)):=by
 induction kvs generalizing l with
 |nil=>
   cases l with
   |nil=>exact⟨rfl,.nil⟩
   |cons _ _=>injection hk
 |cons a kvs ih_=>
   cases l with
   |nil=>injection hk
   |cons b l=>
     injection hk with e1 e2;have e1:a.1=b.1:=e1;cases r with
     |cons r rs=>
       have ih:=ih_ e2 rs;rw[Qq,Qq,Qq,Qq,Qq,Qq,e1];by_cases q:b.1=k
       . rw[if_pos q,if_pos q];exact⟨congrArg (List.cons b.1) ih.1,.cons rv ih.2⟩
       . rw[if_neg q,if_neg q,e1];exact⟨congrArg (List.cons b.1) ih.1,.cons r ih.2⟩
theorem qy(hk:kvs.map (·.1)=l.map (·.1))(r:RelAll T h (kvs.map (·.2)) (l.map (·.2)))(rv:Rel T h v d) :
   (stored kvs k v).map (·.1)=(eZ k d l).map (·.1)/\RelAll T h ((stored kvs k v).map (·.2)) ((eZ k d l).map (·.2)):=by
 have ha:kvs.any (λkv=>decide (kv.1=k))=l.any (λx=>decide (x.1=k)):=by
   have:∀{B:Type} (l:List (Str×B)),l.any (λkv=>decide (kv.1=k))=(l.map (·.1)).any (λx=>decide (x=k)):=λl=>by rw[Tt];rfl
   rw[this,this,hk]
 unfold stored eZ;rw[ha];split
 . exact yN rv hk r
 . refine⟨by simp[hk],?_⟩;simp only[PP,Qq,RE];exact r.append (.one rv)
theorem qY:∀{more:List (Str×Value)} {m:List (Str×PyData)} {kvs:List (Str×Value)} {l:List (Str×PyData)},more.map (·.1)=m.map (·.1)->RelAll T h (more.map (·.2)) (m.map (·.2))->kvs.map (·.1)=l.map (·.1)->RelAll T h (kvs.map (·.2)) (l.map (·.2))->
   (merged kvs more).map (·.1)=(eH l m).map (·.1)/\RelAll T h ((merged kvs more).map (·.2)) ((eH l m).map (·.2))
 |[],[],_,_,_,_=>@λhk r=>⟨hk,r⟩
 |[],_::_,_,_,hk,_=>@λ_ _=>by simp at hk
 |_::_,[],_,_,hk,_=>@λ_ _=>by simp at hk
 |a::more,b::m,kvs,l,hm,.cons r' rs=>@λhk r=>by simp only[Qq,List.cons.injEq]at hm;have h1:=qy (k:=a.1) hk r r';have:=qY hm.2 rs h1.1 h1.2;unfold merged eH at *;simp only[Ts];exact hm.1▸this
theorem tC(hx:x∈(eZ k d l).map (·.1)):x=k\/x∈l.map (·.1):=by
 unfold eZ at hx;split at hx
 . have:((l.map λx=>if x.1=k then (x.1,d) else x).map (·.1))=l.map (·.1):=by rw[Qv];refine Ry λy _=>?_;simp only[Function.comp];split<;>rfl
   rw[this]at hx;exact .inr hx
 . simp only[PP,PQ,Qq,RE,PL]at hx;exact(hx.symm)theorem oZ(k:Str)(d:PyData)(l:List (Str×PyData)):(eZ k d l).length<=l.length+1:=by unfold eZ;split<;>simp
theorem oY:∀{m l:List (Str×PyData)} {x:Str},x∈(eH l m).map (·.1)->x∈m.map (·.1)\/x∈l.map (·.1)
 |[],l,x,hx=>.inr hx
 |b::m,l,x,hx=>by
   rcases oY (m:=m) (l:=eZ b.1 b.2 l) hx with h1|h1
   . exact .inl (PD _ h1)
   . rcases tC h1 with rfl|h2
     . exact .inl (PF ..)
     . exact .inr (h2)theorem l4:∀(m l:List (Str×PyData)),(eH l m).length<=l.length+m.length
 |[]=>@λl=>P9 _
 |b::m=>@λl=>by have h1:=l4 m (eZ b.1 b.2 l);have h2:=oZ b.1 b.2 l;have:eH l (b::m)=eH (eZ b.1 b.2 l) m:=rfl;rw[this];simp only[PX];lia
theorem mD(k:Str)(t:Tok):(strKind Z.prog Z.w).is k (.str k t)=true:=by show Value.isStrOf k (.str k t)=true;simp[Value.isStrOf]
theorem j9{vs:Array Value}{f:Array Value->Array Value}(e:h.get? a=some (eP vs n)) :
   (∃m,(h.update a (Obj.mapSeq f)).get? a=some (eP (f vs) m))/\∀x o,x≠a->h.get? x=some o->(h.update a (Obj.mapSeq f)).get? x=some o:=
 ⟨⟨_,IsL.update e f⟩,λx o hx e'=>(Q2 h _ (Ne.symm hx)).trans e'⟩theorem yJ(Ub:CO Z)(I:Inv Z Y U h)(hb:Y[n]?=some a):(a==sysModules)=false:=Ub.ne I (PC hb)theorem CY(r:aE Y U h v (.loc n)):∃a,Y[n]?=some a/\v=.ref a:=r
theorem vV(hk:kvs.map (·.1)=l.map (·.1))(r:RelAll T h (kvs.map (·.2)) (l.map (·.2))) :
   (without kvs k).map (·.1)=(l.filter λx=>!decide (x.1=k)).map (·.1)/\RelAll T h ((without kvs k).map (·.2)) ((l.filter λx=>!decide (x.1=k)).map (·.2)):=by
 induction kvs generalizing l with
 |nil=>
   cases l with
   |nil=>exact⟨rfl,.nil⟩
   |cons _ _=>injection hk
 |cons a kvs ih_=>
   cases l with
   |nil=>injection hk
   |cons b l=>
     injection hk with h1 h2;have h1:a.1=b.1:=h1;cases r with
     |cons r rs=>
       have ih:=ih_ h2 rs;by_cases e:b.1=k
       . have e1:without (a::kvs) k=without kvs k:=Ti (by rw[h1,decide_eq_false (not_not_intro e)];exact nofun);rw[e1,(Ti (by rw[decide_eq_true e];exact nofun))];exact ih
       . have e1:without (a::kvs) k=a::without kvs k:=Ss (by rw[h1];exact decide_eq_true e);rw[e1,(Ss (by rw[decide_eq_false e];rfl))];exact⟨congr (congrArg List.cons h1) ih.1,.cons r ih.2⟩
theorem wB:∀{l:List (Str×PyData)},l.lookup k=none->(l.filter λx=>!decide (x.1=k))=l
 |[]=>@λ_=>rfl
 |(a,b)::l=>@λe=>by
   by_cases q:a=k
   . subst q;rw[List.lookup_cons_self]at e;injection e
   . have e1:List.lookup k ((a,b)::l)=l.lookup k:=by rw[P2,beq_eq_false_iff_ne.mpr (Ne.symm q)]
     rw[Ss (by rw[decide_eq_false q];rfl),wB (e1.symm.trans e)]
theorem BM{k:Str}(Ub:CO Z)(I:Inv Z Y U s.heap)(hb:Y[n]?=some a)(hc:U[n]?=some (.dct l))(rk:aE Y U s.heap u (.d (.str k))) :
   Ev Z O A (call (.builtin "dict.pop") [.ref a,u,.none]) (.ok (.d ((l.lookup k).getD .none)) (U.set n (.dct (l.filter λx=>!decide (x.1=k))))) VR Y U s:=by
 apply xo (oo rk);intro t g;obtain⟨kvs,D,hk,q,hg,z⟩:=I.cell n a _ hb hc;have hz:kvs.length=l.length:=by have:=congrArg List.length hk;rwa [Pa,Pa]at this
 rcases gU hk q k with⟨h1,h2⟩|⟨w,d,h1,h2,rw'⟩
 . refine h2▸?_;rw[wB h2];refine Ev.done (call_meetsIn F.slot_dict_pop D.typeIs F.entry_dict_pop (F.args_dict_pop_3 _ _ _) (meets_dict_pop_default (strKind Z.prog Z.w) a (k:=k) (mD k t) (yJ Ub I hb) rfl _) ⟨kvs,D,h1,?_⟩);have N:=oA (O:=O) (ai:={ s with toks:=s.toks+1 }) (c:=.dct l) I hb hc rfl (λ_ _ _ e=>e) rfl rfl ⟨kvs,D,hk,q,hg,z⟩;exact⟨Y,N.1,N.2,.none⟩
 . refine h2▸?_;refine Ev.done (call_meetsIn F.slot_dict_pop D.typeIs F.entry_dict_pop (F.args_dict_pop_3 _ _ _) (meets_dict_pop_there (strKind Z.prog Z.w) a (k:=k) (mD k t) [.none] (.inr ⟨_,rfl⟩) rfl) ⟨kvs,w,D,by rw[hz];exact iv z cb,h1,λh' D' hs=>?_⟩);have M:=vV (k:=k) hk q;have N:=oA (O:=cz) (ai:={ s with heap:=h',toks:=s.toks+1 }) (c:=.dct (l.filter λx=>!decide (x.1=k))) I hb hc rfl (λb o hb e=>(hs.2 b hb).trans e) rfl rfl
     ⟨_,D',M.1,M.2,λx hx=>hg x ((List.filter_sublist.map _).subset hx),iv (Rh _ _) z⟩
   exact⟨Y,N.1.ofNo,N.2,N.1.rel0 rw'⟩
theorem yy(Ub:CO Z)(I:Inv Z Y U s.heap)(hb:Y[n]?=some a)(hc:U[n]?=some (.dct l)) :
   Ev Z O A (call (.builtin "dict.pop") [.ref a,.none,.none]) (.ok (.d .none) U) VR Y U s:=by
 refine(I.cell n a _ hb hc).elim λkvs q9=>?_;have D:=q9.1;exact cc I (call_meetsIn F.slot_dict_pop D.typeIs F.entry_dict_pop (F.args_dict_pop_3 _ _ _) (meets_dict_pop_default (uP Z.prog Z.w) a (k:=none) rfl (yJ Ub I hb) rfl _) ⟨_,Ea D,Kq _,⟨_,_,rfl⟩,.none⟩)
theorem tN[BEq B]{l:List B}{x:B}(I:Inv Z Y U s.heap)(g:s.heap.get? a=some (eP ws n))(hm:ws.toList.map e=l.map (·==x))(hlt:l.idxOf x < l.length)(z:l.length<=LIM)
   (hq:∀y,y∈ws->SeqAt.EqAt A.in1 s y u (e y)):Ev Z O A (call (.builtin "list.index") [.ref a,u]) (.ok (.d (.int (l.idxOf x:Nat))) U) VR Y U s:=by
 have hz:ws.size=l.length:=by have:=congrArg List.length hm;rwa [Pa,Pa,PZ]at this
 have at':∀(m:Nat) (hm:m < ws.size) (hl:m < l.length),e ws[m]=(l[m]==x):=λm h1 h2=>by have:=congrArg (·[m]?) hm;simpa[h1,h2] using this
 have hi:l.idxOf x < ws.size:=hz▸hlt;refine cc I (call_meets F.slot_list_index ⟨_,g,rfl⟩ F.entry_list_index (F.args_list_index_2 _ _) (SeqAt.list_indexAt a ws n none #[] u e (l.idxOf x) hi ?_ ?_ ?_) ⟨g,hq,⟨_,_,rfl⟩,.int _ _⟩)
 . exact Qp.mpr (Qr hlt z) |> λh=>Sr h (by decide)
 . rw[at' _ hi hlt];exact List.findIdx_getElem (p:=(·==x)) (w:=hlt)
 . intro m h1 h2;rw[at' m h1 (hz▸h1)];exact List.not_of_lt_findIdx (xs:=l) (p:=(·==x)) h2
theorem yX{o:V}{x:Bool}{l:List Bool}(I:Inv Z Y U s.heap)(ro:aE Y U s.heap v o)(r:aE Y U s.heap u (.d (.bool x)))(hl:(aQ U o).bind c7=some l)(hlt:l.idxOf x < l.length) :
   Ev Z O A (call (.builtin "list.index") [v,u]) (.ok (.d (.int (l.idxOf x:Nat))) U) VR Y U s:=by
 apply iY (zQ r);obtain⟨l0,hl0,hb⟩:=PK.mp hl;apply (bb I hl0 ro).el;intro a ws n e q z;obtain⟨hw,rfl⟩:=iL q hb;rw[Pa]at z;refine tN (e:=λv=>v==.bool x) I e ?_ hlt z λy hy=>?_
 . rw[hw,Qv];exact Ry λb _=>nV b x
 . obtain⟨b,rfl⟩:=xO hw hy;rw[show (Value.bool b==Value.bool x)=(b==x) from nV b x];exact SeqAt.EqAt.bool_bool b x
theorem Dc{l:List Str}(h:PyProof.Rows.StrsAre vs l):vs.map (Value.isStrOf x)=l.map (·==x)/\∀y∈vs,X2 λb t=>y=.str b t:=by
 induction h with
 |nil=>exact⟨rfl,λ_ z=>absurd z QG⟩
 |cons y t _ ih=>exact⟨congrArg (List.cons (y==x)) ih.1,λz hz=>(PM.mp hz).elim (λe=>⟨y,t,e⟩) (ih.2 z)⟩
theorem BU{b:Me}{o:V}(Ub:CO Z)(I:Inv Z Y U s.heap)(ro:aE Y U s.heap v o)(rx:eY Y U s.heap vs xs) :
   Ev Z O A (call (.builtin (MW b)) (v::vs)) (Gb b o xs U) VR Y U s:=by
 cases b with
 |append=>refine aY (λp e=>cy (λn x hn hd=>aY (λl hc=>cx λhl=>?_) Ev.bad) Ev.bad) Ev.bad;apply xo (lh rx e);intro u r;rw[b9 hd]at r;rw[jK hn]at ro;have hc:=ku hc;apply LT (CY ro);intro a hb;obtain⟨ws,m,e,q,z⟩:=I.cell n a _ hb hc;have hz:=q.length;simp only[PZ]at hz;refine Ev.done (call_meets F.slot_list_append ⟨_,e,rfl⟩ F.entry_list_append (F.args_list_append_2 _ _) (list_append a ws m _ (by rw[hz];exact iv z cb)) ⟨e,?_⟩);obtain⟨⟨m',e'⟩,hk⟩:=j9 (f:=λx_1=>x_1.push _) e;have N:=oA (O:=O) (ai:={ s with heap:=s.heap.update a (Obj.mapSeq λx_1=>x_1.push _),toks:=s.toks }) (c:=.lst (l++[x])) I hb hc rfl hk rfl rfl ⟨_,_,e',by simpa using q.append (.one r),by rw[PA];exact hl⟩;exact⟨Y,N.1,N.2,.none⟩
 |extend=>
   refine aY (λp e=>aY (λn hn=>cy (λl ys hc hy=>cx λhl=>?_) Ev.bad) Ev.bad) Ev.bad;apply xo (lh rx e);intro u r;rw[jK hn]at ro;have hc:=ku hc;apply LT (CY ro);intro a hb;obtain⟨ws,m,e,q,z⟩:=I.cell n a _ hb hc;have hz:=q.length;simp only[PZ]at hz;apply (bb I hy r).el;intro a' us m' e' q' z';have hz':=q'.length;simp only[PZ]at hz';have hsz:ws.size+us.size<=sizeLine:=by rw[hz,hz'];exact iv hl cb
   refine Ev.done (call_meets F.slot_list_extend ⟨_,e,rfl⟩ F.entry_list_extend (F.args_list_extend_2 _ _) (AutoSeq1.list_extend_list_list_0 a ws m a' us m' ?_ (iv (PU _ _) hsz) (Qt hsz)) ⟨e,e',?_⟩)
   . have:Builtin.List.listTooLong (ws.size+us.size)=false:=by unfold Builtin.List.listTooLong;simp;unfold LIM at hl;omega
     rw[this];simp
   obtain⟨⟨m',e'⟩,hk⟩:=j9 (f:=λx=>x++us) e;have N:=oA (O:=O) (ai:={ s with heap:=s.heap.update a (Obj.mapSeq λx=>x++us),toks:=s.toks }) (c:=.lst (l++ys)) I hb hc rfl hk rfl rfl ⟨_,_,e',by simpa using q.append q',by rw[PA];exact hl⟩;exact⟨Y,N.1,N.2,.none⟩
 |update=>
   refine aY (λp e=>cy (λn k hn hk=>cx λhne=>cy (λx y hx hy=>cx λhl=>?_) Ev.bad) Ev.bad) Ev.bad;apply xo (lh rx e);intro u r;rw[jK hn]at ro;rw[jK hk]at r;have hx:=jp hx;have hy:=jp hy;apply LT (CY ro);intro a hb;obtain⟨kvs,D,hk,q,hg,z⟩:=I.cell n a _ hb hx;apply LT (CY r);intro a' hb';obtain⟨kvs',D',hk',q',hg',z'⟩:=I.cell k a' _ hb' hy;have hz:kvs.length=x.length:=by have:=congrArg List.length hk;simpa using this
   have hz':kvs'.length=y.length:=by have:=congrArg List.length hk';simpa using this
   refine Ev.done (call_meetsIn F.slot_dict_update D.typeIs F.entry_dict_update (F.args_dict_update_2 _ _) (meets_dict_update (strKind Z.prog Z.w) a a' (I.addr_ne hb' hb (Ne.symm hne)) (yJ Ub I hb')) ⟨kvs,kvs',D,D',by rw[hz,hz'];exact iv hl cb,λh' OI _ hs'=>?_⟩);have M:=qY hk' q' hk q;have N:=oA (O:=O) (ai:={ s with heap:=h' }) (c:=.dct (eH x y)) I hb hx rfl (λb o hb e=>(hs'.2 b hb).trans e) rfl rfl ⟨_,OI,M.1,M.2,λx hx=>(oY hx).elim (hg' x) (hg x),iv (l4 _ _) hl⟩;exact⟨Y,N.1,N.2,.none⟩
 |pop=>
   refine aY (λp e=>cy (λn _ hn hz=>aY (λl hc=>?_) Ev.bad) Ev.bad) Ev.bad;apply C3 rx e;intro u w r r';replace r':=(qU hz)▸r';rw[jK hn]at ro;have hc:=jp hc;apply LT (CY ro);intro a hb;cases (r');refine aY (λk hk=>?_) (aY (λ_ hk=>?_) Ev.bad)
   . rw[eA hk]at r;exact BM Ub I hb hc r
   . replace r:=(qU hk)▸r;cases (r);exact yy Ub I hb hc
 |count=>
   refine aY (λp e=>cy (λx l hx hl=>?_) Ev.bad) Ev.bad;apply xo (lh rx e);intro u r;rw[nP hx]at r;apply iY (zQ r);obtain⟨l0,hl0,hb⟩:=PK.mp hl;apply (bb I hl0 ro).el;intro a ws n e q z;obtain⟨hw,rfl⟩:=iL q hb;refine cc I (call_meets F.slot_list_count ⟨_,e,rfl⟩ F.entry_list_count (F.args_list_count_2 _ _) (SeqAt.list_countAt a ws n none #[] (.bool x) (λv=>v==.bool x)) ⟨e,λy hy=>?_,⟨_,_,rfl⟩,?_⟩)
   . obtain⟨b,rfl⟩:=xO hw hy;have:=SeqAt.EqAt.bool_bool (A:=A.in1) (s:=s) b x;rw[show (Value.bool b==Value.bool x)=(b==x) from nV b x];exact this
   . rw[hw,xB];exact .int _ _
 |index=>
   refine aY (λp e=>?_) Ev.bad;apply xo (lh rx e);intro u r;refine cy (λx l hx hl=>cx λhlt=>?_) (cy (λx l hx hl=>cx λhlt=>?_) Ev.bad)
   . rw[nP hx]at r;exact yX I ro r hl hlt
   . rw[eA hx]at r;apply xo (oo r);intro t g;obtain⟨l0,hl0,hb⟩:=PK.mp hl;apply (bb I hl0 ro).el;intro a ws n e q z;obtain⟨S,rfl⟩:=qv q hb;obtain⟨hm,hs⟩:=Dc (x:=x) S;rw[Pa]at z;refine tN I e hm hlt z λy hy=>?_;obtain⟨b,t',rfl⟩:=hs y (TI.mpr hy);exact SeqAt.EqAt.str_str b t' x t
 |nop _=>exact Ev.bad
theorem xw(I:Inv Z Y U s.heap):Ev Z O A (eval (.Dict [] [] pos) env) (.ok (.loc U.length) (U++[.dct []])) VR Y U s:=by
 refine Ev.done (wpAny_Dict_empty ?_);have N:=uO (O:=O) (ai:={ s with heap:=s.heap.push { cls:=.type "dict",data:=.dict #[] } }) (a:=s.heap.objs.size) (c:=.dct []) I (λb o e=>PG _ e) (bo _) rfl rfl
   ⟨[],Heap.DictOf.new _,rfl,.nil,by simp,by simp⟩
 exact⟨_,N.1,N.2,_,by rw[<- I.len];simp,rfl⟩
theorem BI{k:Str}{t:Tok}{x:PyData}{E:VP}(I:Inv Z Y U s.heap)(hb:Y[n]?=some a)(hc:U[n]?=some (.dct l))(g:cY k)(r:Rel (TT Y U) s.heap v x)(hl:l.length < LIM)
   (q:∀s',Step O Y U s Y (U.set n (.dct (eZ k x l))) s'->Inv Z Y (U.set n (.dct (eZ k x l))) s'.heap->Q () s'):WP Z A (setItem (.ref a) (.str k t) v) Q E s:=by
 obtain⟨kvs,D,hk,q',hg,z⟩:=I.cell n a _ hb hc;have hz:kvs.length=l.length:=by have:=congrArg List.length hk;simpa using this
 refine wpAny_setItem_pairs (knd:=strKind Z.prog Z.w) (k:=k) (mD k t) D (λh' D' hs'=>?_) (hz▸iv z cb);have M:=qy (k:=k) hk q' r;have N:=oA (O:=O) (ai:={ s with heap:=h',toks:=s.toks+1 }) (c:=.dct (eZ k x l)) I hb hc rfl (λb o hb e=>(hs'.2 b hb).trans e) rfl rfl ⟨_,D',M.1,M.2,λy hy=>(tC hy).elim (λe=>e▸g) (hg y),iv (oZ _ _ _) hl⟩;exact q _ N.1 (N.2)noncomputable def Cr (w:World):Bool:=w.params.followText "set-order"
inductive StrEnts(w:World):List (Int×Value)->List Str->Prop
 |nil:StrEnts w [] []
 |cons (x:Str) (t:Tok) {es:List (Int×Value)} {L:List Str}:StrEnts w es L->StrEnts w ((hashStr w x,.str x t)::es) (x::L)variable {es:List (Int×Value)}{L:List Str}
theorem StrEnts.length(r:StrEnts w es L):es.length=L.length:=by
 induction r with
 |nil=>rfl
 |cons _ _ _ ih=>exact congrArg (·+1) ih
theorem StrEnts.perm{es':List (Int×Value)}(p:es'.Perm es):∀{L:List Str},StrEnts w es L->∃L',StrEnts w es' L'/\L'.Perm L:=by
 induction p with
 |nil=>intro L h;exact⟨L,h,.refl _⟩
 |cons e _ ih=>
   intro L h;cases h with
   |cons x t r=>obtain⟨L',h1,h2⟩:=ih r;exact⟨x::L',.cons x t h1,h2.cons x⟩
 |swap a b l=>
   intro L h;cases h with
   |cons x t r=>cases r with
     |cons y u r=>exact⟨y::x::_,.cons y u (.cons x t r),.swap ..⟩
 |trans _ _ ih1 ih2=>intro L h;obtain⟨L1,a1,a2⟩:=ih2 h;obtain⟨L2,b1,b2⟩:=ih1 a1;exact⟨L2,b1,b2.trans a2⟩
theorem StrEnts.snoc(x:Str)(t:Tok)(h:StrEnts w es L):StrEnts w (es++[(hashStr w x,.str x t)]) (L++[x]):=by
 induction h with
 |nil=>exact .cons x t .nil
 |cons y u _ ih=>exact .cons y u ih
theorem StrEnts.elems{prog:Program}(h:StrEnts w es L):ElemsOf (strKind prog w) es:=by
 induction h with
 |nil=>exact λe he=>absurd he QG
 |cons x t _ ih=>exact λe he=>(PM.mp he).elim (λz=>z▸⟨⟨x,by show Value.isStrOf x (.str x t)=true;simp[Value.isStrOf],rfl⟩,rfl⟩) (ih e)
theorem StrEnts.find{x:Str}:∀{es:List (Int×Value)} {L:List Str},StrEnts w es L->((es.findIdx? λe=>Value.isStrOf x e.2)=none↔x∉L)
 |_,_,.nil=>by simp
 |_,_,.cons y t r=>by
   rw[List.findIdx?_cons];by_cases h:y=x
   . have e:Value.isStrOf x (Value.str y t)=true:=by simp[Value.isStrOf,h]
     rw[if_pos e];simp[h]
   . have e:Value.isStrOf x (Value.str y t)=false:=by simp[Value.isStrOf,h]
     rw[if_neg (by rw[e];exact PY),Option.map_eq_none_iff,(r.find (x:=x)),PM,not_or];exact⟨λq=>⟨λq=>h q.symm,q⟩,λq=>q.2⟩def dm(w:World)(h:Heap)(a:Addr)(L:List Str):Prop:=X4 λo es ep t=>A4 (h.get? a=some o) (o.ExactSet) (o.data=.set es ep t) (A5 (StrEnts w es.toList L) (L.length < scanBound) (t.fits es.size=true) (t.led=!Cr w) ((L≠[]->t.plain=false)))
theorem uV(t:SetTable)(es:Array (Int×Value))(h:Int)(x:Value):(layNew t es h x).2.1.led=t.led/\((layNew t es h x).2.1.plain=true->t.plain=true):=by
 have os:∀(u:SetTable) (n:Nat),u.led=t.led->u.plain=t.plain->(u.orStandIn n).led=t.led/\((u.orStandIn n).plain=true->t.plain=true):=λu n h1 h2=>by
   unfold SetTable.orStandIn;split
   . exact⟨h1,λh=>h2▸h⟩
   . exact⟨h1,λh=>by injection h⟩
 unfold layNew;cases t.freeSlot h with
 |some p=>exact os _ _ rfl rfl
 |none=>exact⟨rfl,λh=>by injection h⟩
theorem qI(t:SetTable)(es:Array (Int×Value))(n:Nat):(relayAll t es n).2.1.led=t.led/\((relayAll t es n).2.1.plain=true->t.plain=true):=by
 have st:(t.standIn es.size).led=t.led/\((t.standIn es.size).plain=true->t.plain=true):=⟨rfl,λh=>by injection h⟩
 unfold relayAll;cases he:t.relaid (es.map (·.1)) n with
 |none=>exact st
 |some q=>
   obtain⟨t',order⟩:=q;have hm:t'.led=t.led/\(t'.plain=true->t.plain=true):=by obtain⟨ow,_,e⟩:=PK.mp he;clear he;injection e with e;injection e with e f;subst e;subst f;exact⟨rfl,id⟩
   show (if _ then _ else _:Array (Int×Value)×SetTable×Bool).2.1.led=_/\((if _ then _ else _:Array (Int×Value)×SetTable×Bool).2.1.plain=true->_)
   split
   . exact hm
   . exact(st)variable {L':List Str}{ep:Nat}{o:Obj}{t:SetTable}
theorem qx{es es':Array (Int×Value)}{t':SetTable}(ho:h.get? a=some o)(hex:o.ExactSet)(hd:o.data=.set es ep t)(he:StrEnts w es'.toList L')(hb:L'.length < scanBound)(hf:t'.fits es'.size=true)(hl:t'.led=!Cr w)(hp:L'≠[]->t'.plain=false) :
   (h.update a (Obj.putSet es' t')).get? a=some { o with data:=.set es' (ep+1) t' }/\dm w (h.update a (Obj.putSet es' t')) a L':=by
 have hg:(h.update a (Obj.putSet es' t')).get? a=some { o with data:=.set es' (ep+1) t' }:=by have:=QU (Obj.putSet es' t') ho (by rw[putSet_of es' t' hd];rfl);rw[putSet_of es' t' hd]at this;exact this
 exact⟨hg,_,es',ep+1,t',hg,hex,rfl,he,hb,hf,hl,hp⟩variable {I sa:Addr}{g:Bool->Sem Unit}{R:Result->Shared->Prop}{tk:Tok}
section
variable {prog:Program}{E:VP}
theorem xZ(hg:∀(b:Bool) (ai:Shared) (Q':Unit->Shared->Prop),Q' () ai->wpAny (model prog w) A (g b) Q' E ai)
   {a:Addr} {o:Obj} {es es1:Array (Int×Value)} {ep:Nat} {t t2:SetTable} {L1:List Str} (ho:s.heap.get? a=some o) (hex:o.ExactSet) (hd:o.data=.set es ep t)
   (he:StrEnts w es1.toList L1) (hb:L1.length < scanBound) (hf:t2.fits es1.size=true) (hl:t2.led=!Cr w) (hp:t2.plain=false) {wasDummy:Bool} {R:Option Bool->Shared->Prop}
   (h:∀h' L',Heap.SameBut a s.heap h'->dm w h' a L'->L'.Perm L1->R (some true) { s with heap:=h' }) :
   wpAny (model prog w) A (do
       storeSet a es1 t2
       if (!wasDummy&&t2.tooFull)=true then do
           g (relayAll t2 es1 (SetTable.grown es1.size)).2.2
           storeSet a (relayAll t2 es1 (SetTable.grown es1.size)).1 (relayAll t2 es1 (SetTable.grown es1.size)).2.1
           pure (some true)
         else pure (some true)) R E s:=by
 have hsz:es1.size=L1.length:=by exact PZ▸he.length
 refine OJ (wpAny_storeSet_of ho hd ?_ (fits_of_scanBound (by rw[hsz];exact hb)));obtain⟨ho1,hS1⟩:=qx ho hex hd he hb hf hl λ_=>hp;have hsb1:=Heap.SameBut.update s.heap a (Obj.putSet es1 t2);split
 . have hpm:=relayAll_perm t2 es1 (SetTable.grown es1.size);have hfr:=relayAll_fits t2 es1 (SetTable.grown es1.size);have hmk:=qI t2 es1 (SetTable.grown es1.size);generalize relayAll t2 es1 (SetTable.grown es1.size)=Rl at hpm hfr hmk ⊢;obtain⟨es2,t3,gave2⟩:=Rl;dsimp only at hpm hfr hmk ⊢;refine(he.perm hpm).elim λL2 q9=>?_;have he2:=q9.1;have p2:=q9.2;have hb2:L2.length < scanBound:=by rw[p2.length_eq];exact hb
   have hsz2:es2.size=L2.length:=by exact PZ▸he2.length
   have hp3:t3.plain=false:=by
     cases h3:t3.plain with
     |false=>rfl
     |true=>have:=hmk.2 h3;rw[hp]at this;injection this
   refine OJ (hg _ _ _ ?_);refine OJ (wpAny_storeSet_of ho1 rfl ?_ (fits_of_scanBound (by rw[hsz2];exact hb2)));have hS2:=(qx ho1 hex rfl he2 hb2 hfr (hmk.1.trans hl) λ_=>hp3).2;exact PH (h _ L2 (hsb1.trans (Heap.SameBut.update _ a _)) hS2 p2)
 . exact PH (h _ L1 hsb1 hS1 (.refl _))
set_option tactic.hygienic true in
theorem add_str{x:Str}{Q:Bool->Shared->Prop}(hS:dm w s.heap a L)(hroom:L.length+1 < scanBound)
   (h:∀(b:Bool) (h':Heap) (L':List Str),Heap.SameBut a s.heap h'->dm w h' a L'->(x∈L->L'=L)->(x∉L->L'.Perm (L++[x]))->Q b { s with heap:=h' }) :
   wpAny (model prog w) A (setAddHashed a (.str x tk) (hashStr w x)) Q E s:=by
 obtain⟨o,es,ep,t,ho,hex,hd,hel,hb,hf,hled,hpl⟩:=id hS;have hsz:es.size=L.length:=by exact PZ▸hel.length
 have hE:ElemsOf (strKind prog w) es.toList:=hel.elems;have hkey:(strKind prog w).is x (.str x tk)=true:=by show Value.isStrOf x (.str x tk)=true;simp[Value.isStrOf]
 unfold setAddHashed setAddHashedIn;refine QR (OJ (wpAny_setState_of ho hd hf ?_));dsimp only;rw[byScan_of (knd:=strKind prog w) rfl (by rw[hsz];exact hb) hE,if_pos rfl];unfold setAddByScan;refine OJ ?_;refine OJ (wpAny_rule ?_);refine OJ (wpAny_setScan_of (knd:=strKind prog w) hkey ho hd hf hE ?_);have hfind:=hel.find (x:=x);cases hr:List.findIdx? (λe=>(strKind prog w).is x e.2) es.toList with
 |some j=>
   have hx:x∈L:=Classical.byContradiction λq=>by have:=hfind.mpr q;rw[show List.findIdx? (λe=>Value.isStrOf x e.2) es.toList=some j from hr]at this;injection this
   refine PH (PH ?_);have e:s={ s with heap:=s.heap }:=by clear h;cases s;rfl
   exact e▸(h false s.heap L (Heap.SameBut.refl a s.heap) hS (λ_=>rfl) λq=>absurd hx q)
 |none=>
   have hgw:∀(b:Bool) {ai:Shared} {Q':Unit->Shared->Prop},Q' () ai->wpAny (model prog w) A (match b with|true=>rule "set.scan.the-table-gave-way" |false=>pure ()) Q' E ai:=
     λb ai Q' hq=>by cases b<;>first|exact PH hq|exact wpAny_rule hq
   have hperm:=layNew_perm t es (hashStr w x) (.str x tk);have hfits:=layNew_fits t es (hashStr w x) (.str x tk);have hmk:=uV t es (hashStr w x) (.str x tk);generalize layNew t es (hashStr w x) (.str x tk)=T at hperm hfits hmk ⊢;obtain⟨es1,t1,wasDummy,gave⟩:=T;dsimp only at hperm hfits hmk ⊢;refine kk λUc k=>?_;rw[Te]at hperm;obtain⟨L1,hL1,pL1⟩:=(hel.snoc x tk).perm hperm;refine k ?_;have hlen1:L1.length < scanBound:=by rw[pL1.length_eq,PA];exact hroom
   have hl1:t1.led=!Cr w:=hmk.1.trans hled;have hend:∀h' L',Heap.SameBut a s.heap h'->dm w h' a L'->L'.Perm L1->Q true { s with heap:=h' }:=λh' L' hsb hS' hp=>h true h' L' hsb hS' (λq=>absurd q (hfind.mp hr)) λ_=>hp.trans pL1;refine OJ (hgw _ ?_);split
   . refine OJ ?_;rw[hashByValue_scannable 8 (x:=.str x tk) rfl];refine PH ?_;refine xZ ?_ ho hex hd hL1 hlen1 ?_ ?_ ?_ ?_
     . intro b ai Q' hq;cases b<;>first|exact PH hq|exact wpAny_rule hq
     . exact SetTable.fits_plain_off hfits
     . exact hl1
     . rfl
     . intro h' L' hsb hS' hp;exact PH (hend h' L' hsb hS' hp)
   . rename_i hpl1;refine OJ (PH ?_);refine xZ ?_ ho hex hd hL1 hlen1 hfits hl1 (by simpa using hpl1) ?_
     . intro b ai Q' hq;cases b<;>first|exact PH hq|exact wpAny_rule hq
     . intro h' L' hsb hS' hp;exact PH (hend h' L' hsb hS' hp)theorem t0:entryFor table "set.update.loop"=some Builtin.«set.update.loop»:=entryFor_of_tree (by kernel_rfl)theorem oB:plainId "set.update.loop"=true:=by decide +kernel
theorem JH(h:PyProof.Rows.StrsAre vs ss):∀{i:Nat} {v:Value},vs[i]?=some v->X2 λx t=>v=.str x t/\ss[i]?=some x:=by
 induction h with
 |nil=>intro i v e;simp at e
 |cons y t r ih=>
   intro i v e;cases i with
   |zero=>injection e with e;subst e;exact⟨y,t,rfl,rfl⟩
   |succ i=>exact ih (i:=i) (v:=v) (by simpa using e)theorem dm.keep(hS:dm w h a L)(k:∀o,h.get? a=some o->h'.get? a=some o):dm w h' a L:=by obtain⟨o,es,ep,t,ho,r1,r2,r3,r4,r5,r6,r7⟩:=hS;exact⟨o,es,ep,t,k o ho,r1,r2,r3,r4,r5,r6,r7⟩
theorem vY{l:Addr}(hh:A.handled=none)(hV:PyProof.Rows.StrsAre vs ss)(hlen:vs.length=ss.length)(h1:sa≠I)(h2:sa≠l)(h3:l≠I) :
   ∀(k i:Nat) (s:Shared) (L:List Str),ss.length - i=k->i<=ss.length->s.heap.IsListIter I l i->s.heap.IsList l vs.toArray->dm w s.heap sa L->L.Nodup->L.length+k < scanBound->
     (∀h' tk L',(∀b o,b≠I->b≠sa->s.heap.get? b=some o->h'.get? b=some o)->dm w h' sa L'->L'.Nodup->(∀y,y∈L'↔y∈L\/y∈ss.drop i)->R (.ok (.ret .none)) { s with heap:=h',toks:=tk })->
     codeAny (model prog w) A (.builtin "set.update.loop" ⟨[.ref sa,.ref I],[]⟩) R s:=by
 have W:=Walks.list (prog:=prog) (w:=w) (A:=A.in1) hh I l h3 vs.toArray;have hsz:vs.toArray.size=ss.length:=by simp[hlen]
 intro k
 induction k with
 |zero=>intro i s L hk hi hit hl hS hnd hb hR;have:i=ss.length:=Rz hi (Tv hk);subst this;refine codeAny_builtin t0 ?_;refine(Around.under_plainId oB _)▸?_;show wpAny _ A.in1 (pyNext (.ref I) >>= _) _ _ s;refine OJ (W.done s _ _ (by exact hsz▸⟨hit,hl⟩) λh' tk hk'=>?_);refine PH ?_;refine hR h' tk L (λb o hb _ e=>hk' b o (λq=>hb (PL.mp q)) e) (hS.keep λo e=>hk' sa o (λq=>h1 (PL.mp q)) e) hnd λy=>?_;rw[Si];simp
 |succ k ih=>
   intro i s L hk hi hit hl hS hnd hb hR;have hlt:i < ss.length:=Nat.sub_pos_iff_lt.mp (hk▸Ru k);refine codeAny_builtin t0 ?_;refine(Around.under_plainId oB _)▸?_;show wpAny _ A.in1 (pyNext (.ref I) >>= _) _ _ s;refine OJ (W.item i s _ _ (by exact hsz▸hlt) ⟨hit,hl⟩ λv h' tk hP hst hk'=>?_);obtain⟨x,t,rfl,hx⟩:=JH hV (i:=i) (v:=v) (by simpa using hP);refine OJ (QR ?_);unfold setAdd;refine QR (OJ ((strKind prog w).pyHash (k:=x) (by show Value.isStrOf x (.str x t)=true;simp[Value.isStrOf]) ?_));refine add_str (s:={ s with heap:=h',toks:=tk+1 }) (hS.keep λo e=>hk' sa o (λq=>h1 (PL.mp q)) e) (by omega) λb h'' L' hsb hS'' hin hout=>?_;have kk:∀c o,c≠sa->h'.get? c=some o->h''.get? c=some o:=λc o hc e=>hsb.extBut c o hc e;have hd:ss.drop i=x::ss.drop (i+1):=by rw[QT hlt];rw[PB hlt]at hx;injection hx with hx;rw[hx]
   have hL':L'.Nodup/\L'.length<=L.length+1/\∀y,y∈L'↔y∈L\/y=x:=by
     by_cases hxL:x∈L
     . rw[hin hxL];exact⟨hnd,Sj _,λy=>⟨.inl,λq=>q.elim id λq=>q▸hxL⟩⟩
     . have p:=hout hxL;refine⟨p.nodup_iff.mpr (RF.mpr ⟨hnd,by simp,λa ha b hb q=>hxL ?_⟩),by rw[p.length_eq];simp,λy=>by rw[p.mem_iff,PQ,PL]⟩;exact(PL.mp hb)▸q▸ha
   refine PH ⟨plainId_quiet oB _,ih (i+1) _ L' ((Nat.sub_add_eq ..).trans (by rw[hk];rfl)) hlt (hst.1.at λo e=>kk I o (Ne.symm h1) e) (hst.2.at λo e=>kk l o (Ne.symm h2) e) hS'' hL'.1 (by have:=hL'.2.1;omega) λh3' tk' L3 k3 hS3 hnd3 hm3=>?_⟩;refine hR h3' tk' L3 (λc o hc hc' e=>k3 c o hc hc' (kk c o hc' (hk' c o (λq=>hc (PL.mp q)) e))) hS3 hnd3 λy=>?_;rw[hm3,hL'.2.2,hd,PM,or_assoc]
end
theorem qr (v:Value):checkTypeCall "set" ⟨[v],[]⟩=pure ():=by kernel_rfl
theorem sH (v:Value):checkBuiltinCall "set.__new__" ⟨[.type "set",v],[]⟩=pure ():=by kernel_rfl
variable {LG:VP}
section
variable {prog:Program}{E:VP}noncomputable abbrev fy (w:World):Obj:={ cls:=.type "set",dict:=none,data:=.set #[] 0 (.fresh 0 0 (!Cr w)) }
theorem sL(v:Value)(h:LG (.ref s.heap.objs.size) { s with heap:=s.heap.push (fy w) }) :
   codeAny (model prog w) A (.call (.builtin "set.__new__") ⟨[.type "set",v],[]⟩) (wants LG E) s:=by
 refine codeAny_of_tree ?_;refine(?_:wpAny _ A.in1 (do checkBuiltinCall "set.__new__" ⟨[.type "set",v],[]⟩;again (.builtin "set.__new__" ⟨[.type "set",v],[]⟩)) _ _ s);refine OJ (wpAny_of_eq (sH v) (PH ⟨plainId_quiet F.plain_set_new _,codeAny_builtin F.entry_set_new ?_⟩));refine(Around.under_plainId F.plain_set_new _)▸?_;unfold Builtin.«set.__new__» Builtin.Frozenset.newClass;have hsub:=sub_set_self;obtain⟨hp,g,d,tk,os⟩:=s
 wp_walk
 refine wpAny_askSetting (PH ?_)
 unfold newObj;refine OJ (wpAny_alloc (PH ?_));exact PH h
theorem pM {self:Value} (hT:s.TypeIs self "set") (hQ:Q () s) :
   wpAny M A (checkBuiltinCall "set.__init__" ⟨[self,v],[]⟩) Q E s:=by
 unfold checkBuiltinCall;refine kind_set_init▸split_set_init▸sig_set_init▸?_;refine OJ (wpAny_isInstance hT sub_set_self ?_);rw[Su,if_neg PY];unfold Bind.checkArgs
 refine OJ (m:=Bind.printed "set" true _ _) (PyProof.Rows.printed_name (by decide) ?_);refine OJ (m:=Bind.printed "*" false _ _) (PyProof.Rows.printed_star (self:=self) rfl hT λshort=>?_);exact wpAny_of_eq (a:=()) (by kernel_rfl) (hQ)theorem wL:isSubtype (.type "list") (.type "set")=pure false:=by rw[isSubtype_type];kernel_rfl
theorem qT:isSubtype (.type "list") (.type "frozenset")=pure false:=by rw[isSubtype_type];kernel_rfl
theorem sE{l:Addr}{id:String}(hh:A.handled=none)(hl:s.heap.IsList l vs.toArray)(hV:PyProof.Rows.StrsAre vs ss)(hlen:vs.length=ss.length)(hne:sa≠l)(hS:dm w s.heap sa L)(hnd:L.Nodup)(hb:L.length+ss.length < scanBound)
   (h:∀h' tk L',(∀b o,b≠sa->s.heap.get? b=some o->h'.get? b=some o)->dm w h' sa L'->L'.Nodup->(∀y,y∈L'↔y∈L\/y∈ss)->Q () { s with heap:=h',toks:=tk }) :
   wpAny (model prog w) A (Builtin.Frozenset.updateFrom id sa (.ref l)) Q E s:=by
 have hT:s.TypeIs (.ref l) "list":=by obtain⟨o,ho,hc,_⟩:=hl;exact⟨o,ho,hc⟩
 have hsa:sa < s.heap.objs.size:=by obtain⟨o,_,_,_,ho,_⟩:=hS;exact Qx ho
 have hla:l < s.heap.objs.size:=by obtain⟨o,ho,_⟩:=hl;exact Qx ho
 unfold Builtin.Frozenset.updateFrom Builtin.Frozenset.isAnySet;refine OJ ?_;show wpAny _ _ (isInstance (.ref l) (.type "set") >>= _) _ _ _;refine OJ (wpAny_isInstance (b:=false) hT wL ?_);refine(?_:wpAny _ _ (isInstance (.ref l) (.type "frozenset")) _ _ _);refine wpAny_isInstance (b:=false) hT qT ?_;refine(?_:wpAny _ _ (typeOf (.ref l) >>= _) _ _ _);refine OJ (wpAny_typeOf hT ?_);rw[if_neg (by decide)];refine OJ (wpAny_pyIter_list hl ?_);refine OJ (wpAny_runValue ?_);refine vY hh hV hlen (QE hsa) hne (QE hla) ss.length 0 _ L (by rfl) (PR _) ⟨_,PV _ rfl,rfl,rfl⟩ (hl.at λo e=>PG _ e) (hS.keep λo e=>PG _ e) hnd hb λh' tk L' hk hS' hnd' hm=>?_;refine PH (h h' tk L' (λb o hb e=>hk b o (λq=>?_) hb (PG _ e)) hS' hnd' λy=>by rw[hm];simp);exact absurd (Qx e) (by rw[q];exact Rr _)
set_option maxHeartbeats 999999 in
theorem zq{l:Addr}{Q:VP}(hh:A.handled=none)(hl:s.heap.IsList l vs.toArray)(hV:PyProof.Rows.StrsAre vs ss)(hlen:vs.length=ss.length)(hb:ss.length < 4000)
   (h:∀h' tk L',(∀b o,s.heap.get? b=some o->h'.get? b=some o)->dm w h' s.heap.objs.size L'->L'.Nodup->(∀y,y∈L'↔y∈ss)->Q (.ref s.heap.objs.size) { s with heap:=h',toks:=tk }) :
   wpAny (model prog w) A (call (.type "set") [.ref l]) Q E s:=by
 obtain⟨c,tl,hmro⟩:=F.called_set.mro;have hmade:=F.called_set.made;have hsub:=F.called_set.sub;refine wpAny_call (codeAny_of_tree ?_);refine(?_:wpAny _ _ (callAny (.type "set") _) _ _ _);refine PH ⟨Code.quiet_builtin _ (by decide +kernel),codeAny_builtin F.entry_type_call ?_⟩;rw[Around.under_plain (weight_type_call_type "set" [.ref l] []) rfl];have hct:=qr (.ref l)
 repeat (any_goals (first|assumption|wp_step))
 refine codeAny_mono (sL (E:=E) (.ref l) (LG:=λobj ai=>obj=.ref s.heap.objs.size/\ai={ s with heap:=s.heap.push (fy w) }) ⟨rfl,rfl⟩) λr ai hr=>?_;cases r with
 |error e=>exact hr
 |ok fl=>
   cases fl with
   |ret obj=>
     obtain⟨rfl,rfl⟩:=hr;have hS:(s.heap.push (fy w)).get? s.heap.objs.size=some (fy w):=PV _ rfl;have hT:Shared.TypeIs { s with heap:=s.heap.push (fy w) } (.ref s.heap.objs.size) "set":=⟨_,hS,rfl⟩
     have hli:=F.called_set.init.lookup;have hbi:=F.called_set.init.bind (.ref s.heap.objs.size)
     repeat (any_goals (first|assumption|wp_step))
     refine codeAny_mono (codeAny_call_builtin (R:=wants (λr aq=>r=.none/\Q (.ref s.heap.objs.size) aq) E) F.called_set.init.plain F.entry_set_init (pM hT ?_)) λuD aq Ex=>?_
     . unfold Builtin.«set.__init__» noKeywords;have hl':(s.heap.push (fy w)).IsList l vs.toArray:=hl.at λo e=>PG _ e;have hU:=λ(Q:Unit->Shared->Prop) (E:VP)=>sE (prog:=prog) (w:=w) (A:=A.in1.in1) (E:=E) (s:={ s with heap:=s.heap.push (fy w) }) (sa:=s.heap.objs.size) (id:="set.__init__") (Q:=Q) hh hl' hV hlen (Sk (by obtain⟨o,ho,_⟩:=hl;exact Qx ho)) (⟨_,#[],0,_,hS,⟨rfl,rfl,rfl⟩,rfl,.nil,by decide,by rfl,rfl,λq=>absurd rfl q⟩) SG (by simp[scanBound];lia);generalize Builtin.Frozenset.updateFrom=Ua at hU ⊢
       wp_walk
       refine hU _ _ λh' tk L' hk hS' hnd' hm=>?_;refine PH ⟨rfl,h h' tk L' (λb o e=>hk b o (λq=>absurd (Qx e) (by rw[q];exact Rr _)) (PG _ e)) hS' hnd' λy=>?_⟩;rw[hm];simp
     . cases uD with
       |error e=>exact Ex
       |ok Nl=>
         cases Nl with
         |ret r=>
           obtain⟨rfl,hq⟩:=Ex
           repeat (any_goals (first|assumption|wp_step))
         |_=>exact Ex.elim
   |_=>exact hr.elim
end
theorem bu:Slot "set_iterator" "__next__" "set_iterator.__next__":=
 .of (owner:="set_iterator") (n:="__next__") (by rw[typeLookup_type,builtinLookup_eq_fast];kernel_rfl) (by decide +kernel) (by decide +kernel) (by decide +kernel)
   (by first|exact .inl (by decide +kernel) | exact .inr (by decide +kernel)) (by rw[isSubtype_type];kernel_rfl)
theorem mY:Slot "set_iterator" "__iter__" "set_iterator.__iter__":=
 .of (owner:="set_iterator") (n:="__iter__") (by rw[typeLookup_type,builtinLookup_eq_fast];kernel_rfl) (by decide +kernel) (by decide +kernel) (by decide +kernel)
   (by first|exact .inl (by decide +kernel) | exact .inr (by decide +kernel)) (by rw[isSubtype_type];kernel_rfl)theorem fO:entryFor table "set_iterator.__next__"=some Builtin.«set_iterator.__next__»:=entryFor_of_fast (by kernel_rfl)theorem gB (a:Value):argsOk "set_iterator.__next__" ⟨[a],[]⟩:=by unfold argsOk;kernel_rfl
theorem vi:entryFor table "set.__iter__"=some Builtin.«frozenset.__iter__»:=
 entryFor_alias (id':="frozenset.__iter__") (by kernel_rfl) rfl (by decide +kernel) (by kernel_rfl)noncomputable abbrev mf (a:Addr) (n ep:Nat) (f:Value) (i:Nat):Obj:={ cls:=.type "set_iterator",dict:=none,data:=.fields #[f,rawInt i,.ref a,rawInt n,rawInt ep],slots:=#[] }variable {es:Array (Int×Value)}{i sl:Nat}{Q:Option Value->Shared->Prop}
section
variable {prog:Program}{E:VP}
theorem IW{nx:Nat}{x:Value}(hI:s.heap.get? I=some (mf a n ep (rawInt sl) i))(ho:s.heap.get? a=some o)(hd:o.data=.set es ep t)(hf:t.fits es.size=true)(hn:es.size=n)
   (hN:∀{A':Around} {E':VP} {Q':Option (Value×Nat)->Shared->Prop},Q' (some (x,nx)) s->wpAny (model prog w) A' (setNext a sl i ep) Q' E' s)
   (hQ:∀h',h'.get? I=some (mf a n ep (rawInt nx) (i+1))->Heap.SameBut I s.heap h'->Q (some x) { s with heap:=h' }):wpAny (model prog w) A (pyNext (.ref I)) Q E s:=by
 have hT:s.TypeIs (.ref I) "set_iterator":=⟨_,hI,rfl⟩
 unfold pyNext;refine OJ (wpAny_attempt (wpAny_callSpecial?_slot (name:=Str.ofString "__next__") hT bu (wpAny_call_entry bu hT fO ?_ (gB _))));refine(?_:wpAny _ _ (fieldsOf (.ref I) >>= _) _ _ s);refine OJ (wpAny_fieldsOf hI rfl ?_);refine(?_:wpAny _ _ (setEntries a >>= _) _ _ s);refine OJ (wpAny_setEntries_of ho hd hf ?_);rw[if_neg (by rw[hn];simp)];show wpAny _ _ (setNext a (Int.toNat (sl:Int)) (Int.toNat (i:Int)) (Int.toNat (ep:Int)) >>= _) _ _ s;rw[Qs,Qs,Qs];refine OJ (hN ?_);refine OJ (wpAny_setField_rec hI (by simp) λh1 e1 k1=>?_);refine OJ (wpAny_setField_rec e1 (by simp) λh2 e2 k2=>?_);exact PH ⟨x,rfl,PH (hQ h2 e2 (k1.trans k2))⟩
theorem Np{a:Addr}{i:Nat}(hh:A.handled=none)(hI:s.heap.get? I=some (mf a n ep (rawInt sl) i))(ho:s.heap.get? a=some o)(hd:o.data=.set es ep t)(hf:t.fits es.size=true)(hn:es.size=n)
   (hN:∀{A':Around} {E':VP} {Q':Option (Value×Nat)->Shared->Prop},Q' none s->wpAny (model prog w) A' (setNext a sl i ep) Q' E' s)
   (hQ:∀h',Heap.ExtBut I s.heap h'->Q none { s with heap:=h' }):wpAny (model prog w) A (pyNext (.ref I)) Q E s:=by
 have hT:s.TypeIs (.ref I) "set_iterator":=⟨_,hI,rfl⟩
 unfold pyNext;refine OJ (wpAny_attempt (wpAny_callSpecial?_slot (name:=Str.ofString "__next__") hT bu (wpAny_call_entry bu hT fO ?_ (gB _))));show wpAny _ _ (fieldsOf (.ref I) >>= _) _ _ s;refine OJ (wpAny_fieldsOf hI rfl ?_);refine(?_:wpAny _ _ (setEntries a >>= _) _ _ s);refine OJ (wpAny_setEntries_of ho hd hf ?_);rw[if_neg (by rw[hn];simp)];show wpAny _ _ (setNext a (Int.toNat (sl:Int)) (Int.toNat (i:Int)) (Int.toNat (ep:Int)) >>= _) _ _ s;rw[Qs,Qs,Qs];refine OJ (hN ?_);refine OJ (wpAny_setField (i:=2) (x:=Value.none) hI rfl (by simp) ?_);show wpAny _ _ (newExc (.type "StopIteration") [] >>= _) _ _ _;refine OJ ?_;unfold newExc newTuple;refine OJ (Qn ?_ (by size_fits));refine OJ (m:=firstArgMember _ _) (wpAny_of_eq (a:=Value.none) (by first|rfl | (simp only[firstArgMember];rfl)) ?_);refine Qn ?_ (by size_fits);unfold raiseNew;refine OJ (wpAny_handled ?_);rw[show A.in1.handled=none from hh];refine OJ (PH (wpAny_throw ?_));refine OJ (wpAny_isInstance (T:="StopIteration") (b:=true) ⟨_,PV _ rfl,rfl⟩ isSubtype_stop ?_);exact PH (hQ _ (((Heap.SameBut.update ..).extBut.push _).push _))
theorem tq(hb:Cr w=true)(ho:s.heap.get? a=some o)(hd:o.data=.set es ep t)(hf:t.fits es.size=true){Q:Option (Value×Nat)->Shared->Prop}
   (h:Q (((pickOrder (w.params.setOrder a ep) es)[i]?).map λe=>(e.2,sl)) s):wpAny (model prog w) A (setNext a sl i ep) Q E s:=by
 unfold setNext;refine OJ (wpAny_setState_of ho hd hf ?_)
 unfold setsByText;refine OJ (OJ (wpAny_askSetting (PH ?_)))
 have hb':(model prog w).w.params.followText "set-order"=true:=hb;rw[if_pos hb',if_neg (by simp)];refine OJ ?_;unfold setWalk setsByText;refine OJ (wpAny_setState_of ho hd hf ?_)
 refine OJ (OJ (wpAny_askSetting (PH ?_)))
 rw[if_pos hb'];refine OJ (wpAny_askSetting (PH (PH h)))
set_option tactic.hygienic true in
theorem tv(hb:Cr w=false)(hled:t.led=true)(h1:es.size<=1)(ho:s.heap.get? a=some o)(hd:o.data=.set es ep t)(hf:t.fits es.size=true){Q:Option (Value×Nat)->Shared->Prop}
   (h:Q (match es[SetTable.below t.place sl]?,t.place[SetTable.below t.place sl]? with|some (_,x),some j=>some (x,j+1) | _,_=>none) s):wpAny (model prog w) A (setNext a sl i ep) Q E s:=by
 unfold setNext;refine OJ (wpAny_setState_of ho hd hf ?_)
 unfold setsByText;refine OJ (OJ (wpAny_askSetting (PH ?_)))
 have hb':¬ (model prog w).w.params.followText "set-order"=true:=by show ¬ Cr w=true;rw[hb];exact PY
 rw[if_neg hb'];split
 . rename_i hdr;have hdr:(!t.plain&&decide (es.size > 1))=true:=hdr;simp only[P3,decide_eq_true_eq]at hdr;omega
 . refine OJ ?_;show wpAny _ _ (if (!t.led&&!es.isEmpty)=true then unsupported "set:maker-not-led" else pure ()) _ _ _;rw[if_neg (by rw[hled];simp)];exact PH (PH h)
end
theorem mJ:∀(l:List B) (i:Nat) (x:B),l[i]?=some x->l.Perm (x::l.eraseIdx i)
 |[],i=>@λx h=>by simp at h
 |y::l,0=>@λx h=>by injection h with e;subst e;exact .refl _
 |y::l,i+1=>@λx h=>by
   have h':l[i]?=some x:=by simpa using h
   exact((mJ l i x h').cons y).trans (.swap ..)
theorem Am(next:Nat->Nat):∀(fuel k:Nat) (left:List B) (out:Array B),left.length<=fuel->(pickOrder.go next fuel k left out).toList.Perm (out.toList++left)
 |0=>@λk left out h=>by have:left=[]:=Rm (Nat.le_zero.mp h);subst this;rw[P4];exact .refl _
 |fuel+1=>@λk left out h=>by
   show (match left[next k % left.length]? with|some x=>pickOrder.go next fuel (k+1) (left.eraseIdx (next k % left.length)) (out.push x) | none=>out).toList.Perm _;cases hx:left[next k % left.length]? with
   |some x=>
     have hp:=mJ left _ x hx;have hl:(left.eraseIdx (next k % left.length)).length<=fuel:=by have:=hp.length_eq;rw[PX]at this;lia
     refine(Am next fuel (k+1) _ _ hl).trans ?_;rw[Te,PT];exact hp.symm.append_left _
   |none=>
     have:left=[]:=by
       clear h;cases left with
       |nil=>rfl
       |cons y l=>
         have:next k % (y::l).length < (y::l).length:=Nat.mod_lt _ (by simp)
         rw[PB this]at hx;injection hx
     rw[this,P4]
theorem k7(next:Nat->Nat)(xs:Array B):(pickOrder next xs).toList.Perm xs.toList:=by
 unfold pickOrder;have:=Am next xs.size 0 xs.toList #[] (by simp)
 simpa using this
variable {tp:Addr}{ps:Array Value}{nt:Nat}{ot:Obj}{src:Source}
section
variable {prog:Program}{E:VP}theorem zm{Q:Nat->Shared->Prop}(hn:n≠0)(h:∀k d,k < n->Q k { s with drawn:=d }):wpAny (model prog w) A (choose src n) Q E s:=λΓ p hΓ=>by unfold choose;rw[Sem.wp_choose];exact⟨hn,h _ _ (Nat.mod_lt _ (Nat.pos_of_ne_zero hn))⟩
theorem xt:∀(n:Nat) (xs:List B) (s:Shared) {Q:List B->Shared->Prop},xs.length<=n->(∀ys d,ys.Perm xs->Q ys { s with drawn:=d })->wpAny (model prog w) A (drawOrder n xs) Q E s
 |0,xs=>@λs Q h hQ=>by have:xs=[]:=Rm (Nat.le_zero.mp h);subst this;refine(?_:wpAny _ _ (pure []) _ _ _);exact PH (hQ [] s.drawn (.refl _))
 |n+1,[]=>@λs Q h hQ=>by show wpAny _ _ (pure []) _ _ _;exact PH (hQ [] s.drawn (.refl _))
 |n+1,x::xs=>@λs Q h hQ=>by
   refine(?_:wpAny _ _ (do let i <- choose .order (x::xs).length;match (x::xs)[i]? with|some y=>return y::(<- drawOrder n ((x::xs).eraseIdx i)) | none=>unsupported "internal:drawOrder") _ _ _);refine OJ (zm (by simp) λk d hk=>?_);refine(PB hk)▸?_
   have hp:=mJ (x::xs) k _ (PB hk);have hl:((x::xs).eraseIdx k).length<=n:=by have:=hp.length_eq;rw[PX]at this h;rw[PX]at this;lia
   refine OJ (xt n _ _ hl λys d' hys=>?_);exact PH (hQ _ d' ((hys.cons _).trans hp.symm))
theorem MS{pl:Nat}{h0:Int}{x:Value}(hI:s.heap.get? I=some (mf a n ep (.ref tp) i))(ho:s.heap.get? a=some o)(hd:o.data=.set es ep t)(hf:t.fits es.size=true)(hn:es.size=n)
   (htp:s.heap.get? tp=some ot) (hdt:ot.data=.seq ps nt) (hp:ps[i]?=some (rawInt pl)) (hx:es[pl]?=some (h0,x))
   (hQ:∀h',h'.get? I=some (mf a n ep (.ref tp) (i+1))->Heap.SameBut I s.heap h'->Q (some x) { s with heap:=h' }):wpAny (model prog w) A (pyNext (.ref I)) Q E s:=by
 have hT:s.TypeIs (.ref I) "set_iterator":=⟨_,hI,rfl⟩
 unfold pyNext;refine OJ (wpAny_attempt (wpAny_callSpecial?_slot (name:=Str.ofString "__next__") hT bu (wpAny_call_entry bu hT fO ?_ (gB _))));refine(?_:wpAny _ _ (fieldsOf (.ref I) >>= _) _ _ s);refine OJ (wpAny_fieldsOf hI rfl ?_);refine(?_:wpAny _ _ (setEntries a >>= _) _ _ s);refine OJ (wpAny_setEntries_of ho hd hf ?_);rw[if_neg (by rw[hn];simp)];show wpAny _ _ (seqItems? (.ref tp) >>= _) _ _ s;refine OJ (wpAny_seqItems htp hdt ?_);refine(?_:wpAny _ _ (match ps[Int.toNat (i:Int)]? with|some (.int place _)=>_|some _=>_|none=>_) _ _ s);rw[Qs,hp];show wpAny _ _ (setNextDrawn a (Int.toNat (pl:Int)) (Int.toNat (ep:Int)) >>= _) _ _ s;rw[Qs,Qs];refine OJ ?_;unfold setNextDrawn;refine OJ (wpAny_setState_of ho hd hf ?_);dsimp only;rw[if_neg (by simp),hx];refine PH ?_;refine OJ (wpAny_setField_rec hI (by simp) λh1 e1 k1=>?_);exact PH ⟨x,rfl,PH (hQ h1 e1 k1)⟩
theorem Oh{a:Addr}{i:Nat}(hh:A.handled=none)(hI:s.heap.get? I=some (mf a n ep (.ref tp) i))(ho:s.heap.get? a=some o)(hd:o.data=.set es ep t)(hf:t.fits es.size=true)(hn:es.size=n)
   (htp:s.heap.get? tp=some ot) (hdt:ot.data=.seq ps nt) (hp:ps[i]?=none)
   (hQ:∀h',Heap.ExtBut I s.heap h'->Q none { s with heap:=h' }):wpAny (model prog w) A (pyNext (.ref I)) Q E s:=by
 have hT:s.TypeIs (.ref I) "set_iterator":=⟨_,hI,rfl⟩
 unfold pyNext;refine OJ (wpAny_attempt (wpAny_callSpecial?_slot (name:=Str.ofString "__next__") hT bu (wpAny_call_entry bu hT fO ?_ (gB _))));show wpAny _ _ (fieldsOf (.ref I) >>= _) _ _ s;refine OJ (wpAny_fieldsOf hI rfl ?_);refine(?_:wpAny _ _ (setEntries a >>= _) _ _ s);refine OJ (wpAny_setEntries_of ho hd hf ?_);rw[if_neg (by rw[hn];simp)];show wpAny _ _ (seqItems? (.ref tp) >>= _) _ _ s;refine OJ (wpAny_seqItems htp hdt ?_);refine(?_:wpAny _ _ (match ps[Int.toNat (i:Int)]? with|some (.int place _)=>_|some _=>_|none=>_) _ _ s);rw[Qs,hp];refine OJ (wpAny_setField_rec (x:=rawInt 0) hI (by simp) λh1 e1 k1=>?_);refine OJ (wpAny_setField (i:=2) (x:=Value.none) e1 rfl (by simp) ?_);show wpAny _ _ (newExc (.type "StopIteration") [] >>= _) _ _ _;refine OJ ?_;unfold newExc newTuple;refine OJ (Qn ?_ (by size_fits));refine OJ (m:=firstArgMember _ _) (wpAny_of_eq (a:=Value.none) (by first|rfl | (simp only[firstArgMember];rfl)) ?_);refine Qn ?_ (by size_fits);unfold raiseNew;refine OJ (wpAny_handled ?_);rw[show A.in1.handled=none from hh];refine OJ (PH (wpAny_throw ?_));refine OJ (wpAny_isInstance (T:="StopIteration") (b:=true) ⟨_,PV _ rfl,rfl⟩ isSubtype_stop ?_);refine PH (hQ _ ?_);exact(((k1.trans (Heap.SameBut.update ..)).extBut.push _).push _)
end
theorem sK:entryFor table "set_iterator.__iter__"=some Builtin.«dict_keyiterator.__iter__»:=
 entryFor_alias (id':="dict_keyiterator.__iter__") (by kernel_rfl) rfl (by decide +kernel) (by kernel_rfl)theorem vC (a:Value):argsOk "set_iterator.__iter__" ⟨[a],[]⟩:=by unfold argsOk;kernel_rfl
theorem StrEnts.strs:∀{es:List (Int×Value)} {L:List Str},StrEnts w es L->PyProof.Rows.StrsAre (es.map (·.2)) L
 |_,_,.nil=>.nil
 |_,_,.cons x t r=>.cons x t (r.strs)variable {Q:VP}
section
variable {prog:Program}{E:VP}
theorem oF(hI:s.heap.get? I=some (mf a n ep f i))(h:Q (.ref I) s):wpAny (model prog w) A (pyIter (.ref I)) Q E s:=by
 have hT:s.TypeIs (.ref I) "set_iterator":=⟨_,hI,rfl⟩
 refine wpAny_pyIter_slot hT mY (wpAny_call_entry mY hT sK ?_ (vC _));refine(?_:wpAny _ _ (ret (.ref I)) _ _ s);exact PH ⟨_,rfl,"set_iterator",_,hT,bu.lookup,h⟩
theorem Jx(hb:Cr w=true)(hne:a≠I)(hd:o.data=.set es ep t)(hf:t.fits es.size=true)(hh:A.handled=none) :
   Walks prog w A I [I,a] [I] es.size (λi v=>((pickOrder (w.params.setOrder a ep) es).toList.map (·.2))[i]?=some v) (λi h=>h.get? I=some (mf a es.size ep (rawInt (0:Nat)) i)/\h.get? a=some o) where
 sub:=λb hb=>by simp at hb;simp[hb]
 frame:=λ_ _ _ st hk=>⟨hk I (by simp) _ st.1,hk a (by simp) _ st.2⟩
 item:=λi s Q E hi st hQ=>by
   have hsz:(pickOrder (w.params.setOrder a ep) es).size=es.size:=by rw[<- PZ,(k7 _ es).length_eq,PZ]
   have hlt:i < (pickOrder (w.params.setOrder a ep) es).size:=by rw[hsz];exact hi
   refine IW (x:=(pickOrder (w.params.setOrder a ep) es)[i].2) (nx:=0) st.1 st.2 hd hf rfl (λq=>tq hb st.2 hd hf (by rw[Se hlt];exact q)) λh' e' k'=>?_;exact hQ _ h' s.toks (by simp[hlt]) ⟨e',k'.extBut a _ hne st.2⟩ λb o hb e=>k'.extBut b o (λq=>hb (by simp[q])) e
 done:=λs Q E st hQ=>by
   have hsz:(pickOrder (w.params.setOrder a ep) es).size=es.size:=by rw[<- PZ,(k7 _ es).length_eq,PZ]
   refine Np hh st.1 st.2 hd hf rfl (λq=>tq hb st.2 hd hf (by rw[RU (Qk hsz)];exact q)) λh' e'=>?_;exact hQ h' s.toks λb o hb e=>e' b o (λq=>hb (by simp[q])) e
 self:=λ_ _ _ _ st hQ=>oF st.1 hQ
noncomputable def xr(es:Array (Int×Value))(k:Nat):Int×Value:=(es[k]?).getD (0,.none)
theorem xq(es:Array (Int×Value)):(List.range es.size).map (xr es)=es.toList:=by
 refine SE λi=>?_;rw[Qc];by_cases h:i < es.size
 . rw[PB (by simpa using h)];simp[xr,h]
 . rw[Rf (by simpa using h),Rf (by simpa using h)];rfl
theorem Jz{ys:List Nat}(hys:ys.Perm (List.range es.size))(hne:a≠I)(hnt:tp≠I)(hd:o.data=.set es ep t)(hf:t.fits es.size=true)(hdt:ot.data=.seq (ys.map λ(k:Nat)=>rawInt (k:Int)).toArray)(hh:A.handled=none) :
   Walks prog w A I [I,a,tp] [I] es.size (λi v=>((ys.map (xr es)).map (·.2))[i]?=some v) (λi h=>h.get? I=some (mf a es.size ep (.ref tp) i)/\h.get? a=some o/\h.get? tp=some ot) where
 sub:=λb hb=>by simp at hb;simp[hb]
 frame:=λ_ _ _ st hk=>⟨hk I (by simp) _ st.1,hk a (by simp) _ st.2.1,hk tp (by simp) _ st.2.2⟩
 item:=λi s Q E hi st hQ=>by
   have hl:ys.length=es.size:=by rw[hys.length_eq,Ra]
   have hlt:i < ys.length:=by rw[hl];exact hi
   have hm:ys[i] < es.size:=Rc.mp (hys.mem_iff.mp (Rn hlt));refine MS (pl:=ys[i]) (h0:=(es[ys[i]]).1) (x:=(es[ys[i]]).2) st.1 st.2.1 hd hf rfl st.2.2 hdt (by simp[hlt]) (by simp[hm]) λh' e' k'=>?_;exact hQ _ h' s.toks (by simp[hlt,xr,hm]) ⟨e',k'.extBut a _ hne st.2.1,k'.extBut tp _ hnt st.2.2⟩ λb o hb e=>k'.extBut b o (λq=>hb (by simp[q])) e
 done:=λs Q E st hQ=>by
   have hl:ys.length=es.size:=by rw[hys.length_eq,Ra]
   refine Oh hh st.1 st.2.1 hd hf rfl st.2.2 hdt (by simp[hl]) λh' e'=>?_;exact hQ h' s.toks λb o hb e=>e' b o (λq=>hb (by simp[q])) e
 self:=λ_ _ _ _ st hQ=>oF st.1 hQ
theorem ub(j sl:Nat):SetTable.below #[j] sl=if j < sl then 1 else 0:=by show SetTable.below.go #[j] sl 1 0 1=_;exact(show SetTable.below.go #[j] sl 1 0 1=(if (0:Nat) < 1 then (if j < sl then 1 else 0) else 0) from rfl).trans (if_pos (by decide))
theorem Jy(hb:Cr w=false)(hled:t.led=true)(h1:es.size<=1)(hne:a≠I)(hd:o.data=.set es ep t)(hf:t.fits es.size=true)(hh:A.handled=none) :
   Walks prog w A I [I,a] [I] es.size (λi v=>(es.toList.map (·.2))[i]?=some v) (λi h=>h.get? I=some (mf a es.size ep (rawInt ((if i=0 then 0 else (t.place[0]?).getD 0+1:Nat):Int)) i)/\h.get? a=some o) where
 sub:=λb hb=>by simp at hb;simp[hb]
 frame:=λ_ _ _ st hk=>⟨hk I (by simp) _ st.1,hk a (by simp) _ st.2⟩
 item:=λi s Q E hi st hQ=>by
   have hi0:i=0:=S8.mp (Qr hi h1);subst hi0;have hs1:es.size=1:=Rz h1 hi;have hps:t.place.size=1:=by simp only[SetTable.fits,P3,beq_iff_eq]at hf;exact hf.1.trans hs1
   obtain⟨j,hj⟩:∃j,t.place=#[j]:=Tw.mp hps;refine IW (sl:=0) (x:=es[0].2) (nx:=j+1) st.1 st.2 hd hf rfl (λq=>tv hb hled h1 st.2 hd hf (by rw[hj,ub,if_neg (Nat.not_lt_zero _)];simpa[hs1] using q)) λh' e' k'=>?_;exact hQ _ h' s.toks (by simp[hs1]) ⟨by simpa[hj] using e',k'.extBut a _ hne st.2⟩ λb o hb e=>k'.extBut b o (λq=>hb (by simp[q])) e
 done:=λs Q E st hQ=>by
   refine Np (sl:=if es.size=0 then 0 else (t.place[0]?).getD 0+1) hh st.1 st.2 hd hf rfl (λq=>tv hb hled h1 st.2 hd hf ?_) λh' e'=>?_
   . have hps:t.place.size=es.size:=by simp only[SetTable.fits,P3,beq_iff_eq]at hf;exact hf.1
     have hn:es[SetTable.below t.place (if es.size=0 then 0 else (t.place[0]?).getD 0+1)]?=none:=by
       by_cases h0:es.size=0
       . exact RU (by rw[h0];exact PR _)
       . obtain⟨j,hj⟩:∃j,t.place=#[j]:=Tw.mp (hps.trans (Rz h1 (Nat.pos_of_ne_zero h0)));rw[if_neg h0,hj];show es[SetTable.below #[j] (j+1)]?=none;rw[ub,if_pos (RN _)];exact RU h1
     exact hn▸q
   . exact hQ h' s.toks λb o hb e=>e' b o (λq=>hb (by simp[q])) e
 self:=λ_ _ _ _ st hQ=>oF st.1 hQ
end
variable {fp:List Addr}{its:List Value}
section
variable {prog:Program}{E:VP}def NI(prog:Program)(w:World)(I:Addr)(its:List Value)(h:Heap)(P:Addr->Prop):Prop:=X2 λ(fp:List Addr) (St:Nat->Heap->Prop)=>A4 ((∀A':Around,A'.handled=none->Walks prog w A' I fp [I] its.length (λi v=>its[i]?=some v) St)) (St 0 h) ((∀b∈fp,P b)) (I∈fp)theorem vc{St:Nat->Heap->Prop}(hl:its.length=n)(W:∀A':Around,A'.handled=none->Walks prog w A' I fp [I] n (λi v=>its[i]?=some v) St){P:Addr->Prop}(h0:St 0 h)(h1:∀b∈fp,P b)(h2:I∈fp):NI prog w I its h P:=⟨fp,St,λA' hA'=>hl▸W A' hA',h0,h1,h2⟩
set_option tactic.hygienic true in
theorem Es{a:Addr}(hS:dm w s.heap a L)
   (h:∀(I:Addr) (h':Heap) (d:Drawn) (its:List Value) (L':List Str),PyProof.Rows.StrsAre its L'->L'.Perm L->NI prog w I its h' (λb=>b=a\/s.heap.objs.size<=b)->(∀b o,s.heap.get? b=some o->h'.get? b=some o)->s.heap.objs.size<=I->Q (.ref I) { s with heap:=h',drawn:=d }) :
   wpAny (model prog w) A (pyIter (.ref a)) Q E s:=by
 obtain⟨o,es,ep,t,ho,hex,hd,hel,hb,hf,hled,hpl⟩:=id hS;have hsz:es.size=L.length:=by exact PZ▸hel.length
 have hT:s.TypeIs (.ref a) "set":=⟨o,ho,hex.1⟩
 have hla:a < s.heap.objs.size:=Qx ho;refine wpAny_pyIter_slot hT F.slot_set_iter (wpAny_call_entry F.slot_set_iter hT vi ?_ (F.args_set_iter_1 _));unfold Builtin.«frozenset.__iter__» Builtin.Frozenset.slot0 slotArgs;simp only[List.isEmpty_nil,Su,SY,↓reduceIte,bind_assoc,Q6,bne_self_eq_false];unfold Builtin.Frozenset.addrOf Builtin.Frozenset.sizeOf;refine OJ (PH ?_)
 refine OJ (PH ?_);refine OJ (OJ (wpAny_setEntries_of ho hd hf (PH ?_)));unfold setDrawn setsByText;refine OJ (OJ (wpAny_setState_of ho hd hf ?_))
 refine OJ (OJ (wpAny_askSetting (PH ?_)))
 refine PH ?_;have lt2:∀(h0:Heap) (ob:Obj),h0.objs.size < (h0.push ob).objs.size:=λh0 ob=>by rw[RQ];exact RN _
 split
 . rename_i hdr;have hdr:(!Cr w&&(!t.plain&&decide (es.size > 1)))=true:=hdr;refine OJ (xt es.size (List.range es.size) s (by simp) λys d hys=>?_);have hyl:ys.length=es.size:=by rw[hys.length_eq,Ra]
   unfold newTuple;refine OJ (Qn ?_ (by show (ys.map λ(i:Nat)=>rawInt (i:Int)).length<=sizeLine;rw[Pa,hyl];exact fits_of_scanBound (by rw[hsz];exact hb)))
   refine OJ (wpAny_setEpoch_of (PG _ ho) hd hf ?_);unfold newFields;refine OJ (Qn ?_);refine PH ⟨_,rfl,"set_iterator",_,⟨_,PV _ rfl,rfl⟩,bu.lookup,?_⟩;have hp:(ys.map (xr es)).Perm es.toList:=by rw[<- xq];exact hys.map _
   refine(hel.perm hp).elim λL' q9=>?_;have hL':=q9.1;have pL':=q9.2;have W:=λ(A':Around) (hA':A'.handled=none)=>Jz (prog:=prog) (w:=w) (A:=A') (I:=(s.heap.push { cls:=.type "tuple",data:=.seq (ys.map λ(i:Nat)=>rawInt (i:Int)).toArray }).objs.size) (a:=a) (tp:=s.heap.objs.size) (o:=o) (ot:={ cls:=.type "tuple",data:=.seq (ys.map λ(i:Nat)=>rawInt (i:Int)).toArray }) hys (QE (Tx hla (lt2 _ _))) (QE (lt2 _ _)) hd hf rfl hA';refine h _ _ d _ L' hL'.strs pL' (vc (by rw[Pa,Pa,hyl]) W ?_ ?_ ?_) (λb o e=>PG _ (PG _ e)) (Qd (lt2 _ _))
   . exact⟨PV _ rfl,PG _ (PG _ ho),PG _ (PV _ rfl)⟩
   . intro b hb;simp only[PM,QG,or_false]at hb;clear ho h W;rcases hb with rfl|rfl|rfl
     . exact .inr (Qd (lt2 _ _))
     . exact .inl rfl
     . exact .inr (P9 _)
   . exact PF ..
 . rename_i hdr;have hdr:¬ (!Cr w&&(!t.plain&&decide (es.size > 1)))=true:=hdr;refine OJ (PH ?_);refine OJ (wpAny_setEpoch_of ho hd hf ?_);unfold newFields;refine OJ (Qn ?_);refine PH ⟨_,rfl,"set_iterator",_,⟨_,PV _ rfl,rfl⟩,bu.lookup,?_⟩;clear hT hS;cases hbt:Cr w with
   |true=>
     obtain⟨L',hL',pL'⟩:=hel.perm (k7 (w.params.setOrder a ep) es);have W:=λ(A':Around) (hA':A'.handled=none)=>Jx (prog:=prog) (w:=w) (A:=A') (I:=s.heap.objs.size) (a:=a) (o:=o) hbt (QE hla) hd hf hA';refine h _ _ s.drawn _ L' hL'.strs pL' (vc (by rw[Pa,(k7 _ es).length_eq,PZ]) W ?_ ?_ ?_) (λb o e=>PG _ e) (P9 _)
     . exact⟨PV _ rfl,PG _ ho⟩
     . intro b hb;simp only[PM,QG,or_false]at hb;clear h W;rcases hb with rfl|rfl
       . exact .inr (P9 _)
       . exact .inl rfl
     . exact PF ..
   |false=>
     have h1:es.size<=1:=by
       rcases SZ 1 es.size with q|q
       . rw[hbt,(hpl (λe=>by rw[hsz,e]at q;simp at q)),decide_eq_true q]at hdr;exact absurd rfl hdr
       . exact q
     have W:=λ(A':Around) (hA':A'.handled=none)=>Jy (prog:=prog) (w:=w) (A:=A') (I:=s.heap.objs.size) (a:=a) (o:=o) hbt (by rw[hled,hbt];rfl) h1 (QE hla) hd hf hA';refine h _ _ s.drawn _ L hel.strs (.refl _) (vc (by rw[Pa,PZ]) W ?_ ?_ ?_) (λb o e=>PG _ e) (P9 _)
     . exact⟨PV _ rfl,PG _ ho⟩
     . clear W;clear h;intro b hb;simp only[PM,QG,or_false]at hb;rcases hb with rfl|rfl
       . exact .inr (P9 _)
       . exact .inl rfl
     . exact PF ..
theorem qC:typeLookup (.type "set") (Str.ofString "__len__")=pure (some (.builtin "set.__len__")):=F.slot_set_len.lookup
theorem xD{Q:List Value->Shared->Prop}(hh:A.handled=none)(hS:dm w s.heap a L)
   (h:∀(h':Heap) (d:Drawn) (tk:Nat) (its:List Value) (L':List Str),PyProof.Rows.StrsAre its L'->L'.Perm L->(∀b o,s.heap.get? b=some o->h'.get? b=some o)->s.heap.objs.size<=h'.objs.size->Q its { s with heap:=h',drawn:=d,toks:=tk }) :
   wpAny (model prog w) A (collect (.ref a)) Q E s:=by
 obtain⟨o,es,ep,t,ho,hex,hd,hel,hb,hf,hled,hpl⟩:=id hS;have hSI:s.heap.objs.size≠a:=Sk (Qx ho);unfold collect;refine OJ (wpAny_runValue (codeAny_builtin F.entry_proto_collect ?_));rw[Around.under_plainId F.plain_proto_collect _];show wpAny _ A.in1 (newList [] >>= λl=>again (.builtin "list.__iadd__" ⟨[l,.ref a],[]⟩)) _ _ s;refine OJ (Qn ?_);refine PH ⟨plainId_quiet F.plain_list_iadd _,codeAny_builtin F.entry_list_iadd ?_⟩;rw[Around.under_plainId F.plain_list_iadd _];have M8:(s.heap.push { cls:=.type "list",data:=.seq ([]:List Value).toArray }).get? s.heap.objs.size=some { cls:=.type "list",data:=.seq ([]:List Value).toArray }:=PV _ rfl;have hSS:dm w (s.heap.push { cls:=.type "list",data:=.seq ([]:List Value).toArray }) a L:=hS.keep λo e=>PG _ e;have hT:Shared.TypeIs { s with heap:=s.heap.push { cls:=.type "list",data:=.seq ([]:List Value).toArray } } (.ref a) "set":=⟨o,PG _ ho,hex.1⟩
 refine(?_:wpAny _ A.in1 (Builtin.List.listExtendWith (.ref s.heap.objs.size) (.ref a) (.ref s.heap.objs.size)) _ _ _);unfold Builtin.List.listExtendWith;refine OJ (wpAny_typeOf hT ?_);have h1:Builtin.List.listSameRef (.ref s.heap.objs.size) (.ref a)=false:=by simp[Builtin.List.listSameRef,hSI]
 have h2:(Value.type "set"==Value.type "list")=false:=by decide
 have h3:(Value.type "set"==Value.type "tuple")=false:=by decide
 rw[h1,h2,h3,Rs,Rs,if_neg PY];refine OJ (Es (prog:=prog) hSS λI h' d its L' hits pL hgo hk hI=>?_);have hT':Shared.TypeIs { s with heap:=h',drawn:=d } (.ref a) "set":=⟨o,hk a o (PG _ ho),hex.1⟩
 refine OJ (QR ?_);unfold Builtin.List.listLengthHint;refine OJ (wpAny_specialOf hT' qC ?_)
 (generalize hid:("set.__len__":String)=id0;(fail_if_success (clear hid id0));wp_delta;rw[show splitId id0=some ("set","__len__") from by subst hid;decide +kernel];subst hid)
 refine OJ (wpAny_isInstance (b:=true) hT' sub_set_self ?_);refine(?_:wpAny _ A.in1 (typeOf (.ref a) >>= _) _ _ _);refine OJ (wpAny_typeOf hT' ?_);refine PH ?_;refine(?_:wpAny _ A.in1 (rule "list.extend.makes-room" >>= λ_=>Builtin.List.listTouch (.ref s.heap.objs.size) >>= λ_=>again (.builtin "list.extend.loop" ⟨[.ref s.heap.objs.size,.ref I,.ref s.heap.objs.size],[]⟩)) _ _ _)
 refine OJ (wpAny_rule ?_);obtain⟨fp,St,W,hst,hfp,hIf⟩:=hgo;have hS1:=hk _ _ M8;refine OJ ?_;show wpAny _ A.in1 (updateSeq s.heap.objs.size (·.push .none) >>= λ_=>updateSeq s.heap.objs.size (·.pop)) _ _ _;refine OJ (wpAny_updateSeq hS1 rfl ?_);have I4:=QU (Obj.mapSeq (·.push Value.none)) hS1 rfl;refine wpAny_updateSeq I4 rfl ?_;have hSf:s.heap.objs.size∉fp:=λq=>by
   rcases hfp _ q with e|e
   . exact hSI e
   . rw[RQ]at e;exact Rr _ e
 have oth:∀b o,b≠s.heap.objs.size->h'.get? b=some o->((h'.update s.heap.objs.size (Obj.mapSeq (·.push Value.none))).update s.heap.objs.size (Obj.mapSeq (·.pop))).get? b=some o:=
   λb o hb e=>(Q2 _ _ (Ne.symm hb)).trans ((Q2 _ _ (Ne.symm hb)).trans e)
 have WS:=(W A.in1 hh).toS;have hlen:its.length=L.length:=by
   have:∀{vs:List Value} {ss:List Str},PyProof.Rows.StrsAre vs ss->vs.length=ss.length:=λq=>by
     induction q with
     |nil=>rfl
     |cons _ _ _ ih=>exact congrArg (·+1) ih
   rw[this hits,pL.length_eq]
 refine PH ⟨plainId_quiet F.plain_extend_loop _,codeAny_extend_loopS WS (by rw[hlen];exact fits_of_scanBound hb) _ hSf _ its.length 0 _ _ _ rfl (PR _)
   (WS.frame 0 { s with heap:=h',drawn:=d } _ s.toks hst (P9 _) λb hb o e=>oth b o (λq=>hSf (q▸hb)) e) (QU (Obj.mapSeq (·.pop)) I4 rfl) (ItemsOf.nil _) λs' acc' c' hm hS' hacc=>?_⟩
 refine(?_:wpAny _ A (load s.heap.objs.size >>= _) _ _ s');refine OJ (wpAny_load hS' ?_);have hacc':acc'.toList=its:=by
   refine SE λi=>?_;by_cases hi:i < its.length
   . have:i < acc'.size:=by rw[hacc.1];exact hi
     have:=hacc.2 i acc'[i] (by simp[this]);rw[this];simp
   . rw[Rf (by rw[PZ,hacc.1];omega),Rf (by omega)]
 have es:s'={ s with heap:=s'.heap,drawn:=d,toks:=s'.toks }:=by have g1:=hm.gens;have g2:=hm.drawn;have g3:=hm.os;obtain⟨h5,g5,d5,t5,o5⟩:=s';simp only at g1 g2 g3;clear hS' hm;subst g1;subst g2;subst g3;rfl
 rw[es];refine PH ?_;rw[hacc'];refine h s'.heap d s'.toks its L' hits pL (λb o e=>?_) ?_
 . have hbl:b < s.heap.objs.size:=Qx e;have hbs:b≠s.heap.objs.size:=QE hbl;refine hm.heap b o (λq=>?_) (oth b o hbs (hk b o (PG _ e)));rcases PM.mp q with q|q
   . exact hbs q
   . have h9:s.heap.objs.size+1<=I:=by have:=hI;rw[RQ]at this;exact this
     exact absurd ((PL.mp q)▸hbl) (SN.mpr (QZ h9))
 . exact Qd (Qx hS')
theorem yk(hh:A.handled=none)(hS:dm w s.heap a L)(h64:L.length < 64)
   (h:∀(h':Heap) (d:Drawn) (tk:Nat) (r:Addr) (out:Array Value) (e:Nat) (ss':List Str),s.heap.objs.size<=r->h'.get? r=some (eP out e)->PyProof.Rows.StrsAre out.toList ss'->ss'.Perm L->PyProof.Rows.sortedS ss'=true->(∀b o,s.heap.get? b=some o->h'.get? b=some o)->Q (.ref r) { s with heap:=h',drawn:=d,toks:=tk }) :
   wpAny (model prog w) A (call (.builtin "sorted") [.ref a]) Q E s:=by
 refine Calls.call_function_entry PyProof.Rows.kind_sorted PyProof.Rows.plain_sorted PyProof.Rows.entry_sorted (PyProof.Rows.args_sorted1 _) ?_;unfold Builtin.«sorted»;refine OJ (m:=checkCount "sorted" 1 1 _) (PH ?_);refine OJ (xD (prog:=prog) (A:=A.in1) hh hS λh' d tk its L' hits pL hk hsz=>?_);have hlen:its.length < 64:=by
   have:∀{vs:List Value} {ss:List Str},PyProof.Rows.StrsAre vs ss->vs.length=ss.length:=λq=>by
     induction q with
     |nil=>rfl
     |cons _ _ _ ih=>exact congrArg (·+1) ih
   rw[this hits,pL.length_eq];exact h64
 refine OJ (wpAny_newList ?_);have hoL:(h'.push (PyProof.Rows.seqObj "list" its.toArray 0)).get? h'.objs.size=some (PyProof.Rows.seqObj "list" its.toArray 0):=PV _ rfl;refine OJ (QR (wpAny_call_entry PyProof.Rows.slot_list_sort ⟨_,hoL,rfl⟩ PyProof.Rows.entry_list_sort (PyProof.Rows.list_sort_treeK PyProof.Rows.strKind_oneLt hoL hits.keysOf (λPa O9 rest e=>PyProof.Rows.keyKind_strs (by exact e▸hits)) hlen λst' a1 a2=>⟨_,rfl,?_⟩) (PyProof.Rows.args_list_sort _)));refine kk λUc k=>?_;obtain⟨ss',q1,q2,q3⟩:=PyProof.Rows.sorted_out_str hits a1 a2;obtain⟨e',he'⟩:=PyProof.Rows.sortedHeap_at (out:=(PyProof.Rows.arrOf st').map (·.2)) hoL;refine k ?_;refine PH ⟨_,rfl,h _ d tk _ _ e' ss' hsz he' q1 (q2.trans pL) q3 λb o e=>?_⟩;have e2:=hk b o e;have hlt:b < h'.objs.size:=Qx e2;rw[PyProof.Rows.sortedHeap_old (QE hlt) (by rw[RQ];exact Nat.lt_succ_of_lt hlt)];exact PG _ e2
end
variable {l:List PyData}
theorem G9{m:Bool}{c:V}(I:Inv Z Y U s.heap)(hl:l.length<=LIM)(hc:bh m l U=.ok c σ')
   (q:X3 λa vs n=>A4 (v=.ref a) (s.heap.get? a=none) (s'.heap.get? a=some (eP vs n)) (A4 ((∀b o,s.heap.get? b=some o->s'.heap.get? b=some o)) (s'.gens=s.gens) (s'.os=s.os) (RelAll (TT Y U) s.heap vs.toList l))) :
   Po Z O Y U s σ' s' λβ'=>VR v c β' σ' s'.heap:=by
 obtain⟨a,vs,n,rfl,hf,e,hk,hg,ho,r⟩:=q;unfold bh at hc;cases m with
 |true=>injection hc with e f;subst e;subst f;have N:=uO (O:=O) (c:=.lst l) I hk hf hg ho ⟨vs,n,e,r,hl⟩;exact⟨_,N.1,N.2,a,by rw[<- I.len];simp,rfl⟩
 |false=>injection hc with e f;subst e;subst f;exact⟨Y,Step.grow hk hg ho,I.grow hk,.list e (I.notTT hf) hl (r.mono λx o _ _ e _ t=>⟨hk x o e,t⟩)⟩theorem rW(y:Str)(l:List Str):cM (y::l)=if y∈l then cM l else y::cM l:=rfl
theorem bJ:∀{l:List Str},x∈cM l↔x∈l
 |[]=>Iff.rfl
 |y::l=>by
   rw[rW];by_cases h:y∈l
   . rw[if_pos h,bJ,PM];exact⟨.inr,λq=>q.elim (λe=>e▸h) id⟩
   . rw[if_neg h,PM,PM,bJ]
theorem cw:∀l:List Str,(cM l).Nodup
 |[]=>SG
 |y::l=>by
   rw[rW];by_cases h:y∈l
   . rw[if_pos h];exact cw l
   . rw[if_neg h];exact QW.mpr ⟨λq=>h (bJ.mp q),cw l⟩
theorem pJ{m:Bool}{vs:List Value}{c:V}(I:Inv Z Y U s.heap)(hh:A.handled=none)(rx:eY Y U s.heap vs xs)(hc:xT .sortedSet m xs U=.ok c σ') :
   WP Z A (call (.type "set") vs) (λt ai=>WP Z A (call (.builtin "sorted") [t]) (λv s''=>Po Z O Y U s σ' s'' λβ''=>VR v c β'' σ' s''.heap) (λ_ _=>False) ai) (λ_ _=>False) s:=by
 obtain⟨x,hx,hc⟩:=iz hc;replace hx:=dC hx;subst hx;obtain⟨ss,hl,hc⟩:=iz hc;replace hc:=AF hc;obtain⟨hlim,hc⟩:=hc;cases rx with
 |cons r rs=>
   refine kk λUc k=>?_;cases rs;obtain⟨l,hl,hs⟩:=PK.mp hl;refine k ?_;apply (bb I hl r).el;intro a ws n e q z;obtain⟨S,rfl⟩:=qv q hs;have hlen:ws.toList.length=ss.length:=by have:=q.length;rw[Pa]at this;exact this
   refine zq (vs:=ws.toList) hh ⟨_,e,rfl,_,rfl⟩ S hlen (by have:=hlim.1;omega) λh' tk L' hk hS hnd hm=>?_;have pL:L'.Perm (cM ss):=(List.perm_ext_iff_of_nodup hnd (cw ss)).mpr λy=>by rw[hm,bJ]
   refine yk hh hS (by rw[pL.length_eq];exact hlim.2) λh'' d tk' r' out e' ss' hr he hss hp hso hk'=>?_;have:=lW hp hso;subst this;have hse:cu L'=cu (cM ss):=lW ((eE L').trans pL) hso;refine G9 I (by have:=(eE (cM ss)).length_eq;simp[this,LIM];lia) hc ⟨r',out,e',rfl,hX ?_,he,λb o q=>hk' b o (hk b o q),rfl,rfl,?_⟩
   . obtain⟨o,_,_,_,ho,_⟩:=hS;have hr:h'.objs.size<=r':=hr;exact iv (Qd (Qx ho)) hr
   . exact hse▸(wx hss λx hx=>B4 q x (bJ.mp (pL.mem_iff.mp ((eE L').mem_iff.mp hx))))variable {it:Addr}
section
variable {prog:Program}{E:VP}
theorem G5{t:Addr}{x:Value}(hit:s.heap.IsTupleIter it t i)(ht:s.heap.IsTuple t items)(hx:items[i]?=some x)
   (hQ:∀h',h'.IsTupleIter it t (i+1)->Heap.SameBut it s.heap h'->Q x { s with heap:=h' }):wpAny (model prog w) A (Builtin.SmallTypes.nextOf (.ref it)) Q E s:=by
 obtain⟨o,ho,hc,hd⟩:=id hit;obtain⟨ol,hol,_,nl,hdl⟩:=ht;unfold Builtin.SmallTypes.nextOf;refine OJ (wpAny_callSpecial?_slot (name:=Str.ofString "__next__") hit.typeIs F.slot_tuple_iterator_next (wpAny_call_entry F.slot_tuple_iterator_next hit.typeIs F.entry_tuple_iterator_next ?_ (F.args_tuple_iterator_next_1 _)));refine(?_:wpAny _ _ (field (.ref it) 0 >>= _) _ _ s);refine OJ (wpAny_field ho hd (x:=.ref t) rfl ?_);refine(?_:wpAny _ _ (if (Value.ref t==Value.none)=true then _ else _) _ _ s);rw[if_neg (show ¬ ((Value.ref t==Value.none)=true) from PY)];show wpAny _ _ (field (.ref it) 1 >>= _) _ _ s;refine OJ (wpAny_field ho hd (x:=.int i 0) rfl ?_);refine(?_:wpAny _ _ (seqItems? (.ref t) >>= _) _ _ s);refine OJ (wpAny_seqItems hol hdl ?_);simp only[Qs,hx];refine OJ (wpAny_setField ho hd (by simp) (PH ⟨x,rfl,PH (hQ _ ?_ (Heap.SameBut.update ..))⟩));exact⟨_,QU _ ho (Obj.isFreed_of_fields (Obj.data_mapFields hd _)),(Obj.cls_mapFields ..).trans hc,by rw[Obj.data_mapFields hd];simp[rawInt]⟩
theorem yI{t:Addr}(hh:A.handled=none)(hit:s.heap.IsTupleIter it t i)(ht:s.heap.IsTuple t items)(hx:items[i]?=none)
   (hE:∀h' e,Heap.ExtBut it s.heap h'->(∃o,h'.get? e=some o/\o.cls=.type "StopIteration")->E (.ref e) { s with heap:=h' }):wpAny (model prog w) A (Builtin.SmallTypes.nextOf (.ref it)) Q E s:=by
 obtain⟨o,ho,hc,hd⟩:=id hit;obtain⟨ol,hol,_,nl,hdl⟩:=ht;unfold Builtin.SmallTypes.nextOf;refine OJ (wpAny_callSpecial?_slot (name:=Str.ofString "__next__") hit.typeIs F.slot_tuple_iterator_next (wpAny_call_entry F.slot_tuple_iterator_next hit.typeIs F.entry_tuple_iterator_next ?_ (F.args_tuple_iterator_next_1 _)));show wpAny _ _ (field (.ref it) 0 >>= _) _ _ s;refine OJ (wpAny_field ho hd (x:=.ref t) rfl ?_);refine(?_:wpAny _ _ (if (Value.ref t==Value.none)=true then _ else _) _ _ s);rw[if_neg (show ¬ ((Value.ref t==Value.none)=true) from PY)];show wpAny _ _ (field (.ref it) 1 >>= _) _ _ s;refine OJ (wpAny_field ho hd (x:=.int i 0) rfl ?_);refine(?_:wpAny _ _ (seqItems? (.ref t) >>= _) _ _ s);refine OJ (wpAny_seqItems hol hdl ?_);simp only[Qs,hx];refine OJ (wpAny_rule (OJ (wpAny_setField ho hd (by simp) ?_)));show wpAny _ _ (newExc (.type "StopIteration") [] >>= _) _ _ _;refine OJ ?_;unfold newExc newTuple;refine OJ (Qn ?_ (by size_fits));refine OJ (m:=firstArgMember _ _) (wpAny_of_eq (a:=Value.none) (by first|rfl | (simp only[firstArgMember];rfl)) ?_);refine Qn ?_ (by size_fits);unfold raiseNew;refine OJ (wpAny_handled ?_)
 first|rw[show A.in1.handled=none from hh] | rw[hh]
 refine OJ (PH (wpAny_throw ?_));exact hE _ _ (((Heap.SameBut.update ..).extBut.push _).push _) ⟨_,PV _ rfl,rfl⟩
theorem Fp(hh:A.handled=none)(it l:Addr)(hne:l≠it)(items:Array Value) :
   Draws prog w A it [it,l] items.size (λi x=>items[i]?=some x) (λi h=>h.IsTupleIter it l i/\h.IsTuple l items) where
 live:=λi h ⟨⟨o,e,_⟩,_⟩=>⟨o,e⟩
 frame:=λi h h' ⟨⟨o,e,r⟩,⟨o',e',r'⟩⟩ hk=>⟨⟨o,hk it (by simp) o e,r⟩,⟨o',hk l (by simp) o' e',r'⟩⟩
 item:=λi s Q E hi ⟨a,b⟩ hQ=>G5 a b (Se hi) λh' a' k=>hQ _ h' s.toks (Se hi) ⟨a',b.extBut k.extBut hne⟩ k
 done:=λs Q E ⟨a,b⟩ hE=>yI hh a b (RU (P9 _)) hE
theorem Bm{cls:Value}{Q:Bool->Shared->Prop}{E:VP}(h:∀b,Q b s):wpAny M A (Builtin.SmallTypes.calledThroughType cls) Q E s:=
 OJ (wpAny_stack_any λ_=>PH (h _))
set_option maxRecDepth 99999 in
theorem wQ(l:Addr)(items:Array Value)(n:Nat) :
   Meets (Builtin.«enumerate.__new__» ⟨[.type "enumerate",.ref l],[]⟩) (λ_ R s=>s.heap.get? l=some { cls:=.type "tuple",dict:=none,data:=.seq items n,slots:=#[] }/\
     R (.ok (.ret (.ref (s.heap.push { cls:=.type "tuple_iterator",data:=.fields #[.ref l,.int 0 0] }).objs.size)))
       { s with heap:=(s.heap.push { cls:=.type "tuple_iterator",data:=.fields #[.ref l,.int 0 0] }).push { cls:=.type "enumerate",data:=.fields #[.none,.bool false,.ref s.heap.objs.size,rawInt 0,.none,.none] } }):=
 .of_wp λprog w A R s h=>by
   obtain⟨hp,g,d,tk,os⟩:=s;have hl:=h.1;have h:=h.2;have hsub:=sub_enumerate;have hL:Heap.IsTuple (Shared.heap ⟨hp,g,d,tk,os⟩) l items:=⟨_,hl,rfl,n,rfl⟩
   wp_walk using AutoSeq1.wpAny_loadPart' hl,Bm
   intro b;cases (b)
   . wp_walk using AutoSeq1.wpAny_loadPart' hl,wpAny_pyIter_tuple hL
     exact⟨_,rfl,h⟩
   . wp_walk using AutoSeq1.wpAny_loadPart' hl,wpAny_pyIter_tuple hL
     exact⟨_,rfl,h⟩
theorem zy {l:Addr} (hL:s.heap.get? l=some { cls:=.type "tuple",dict:=none,data:=.seq items n,slots:=#[] })
   (h:∀h',IsEnum h' (s.heap.objs.size+1) s.heap.objs.size 0 .none->h'.get? s.heap.objs.size=some { cls:=.type "tuple_iterator",dict:=none,data:=.fields #[.ref l,.int 0 0],slots:=#[] }->
     (∀b o,s.heap.get? b=some o->h'.get? b=some o)->Q (.ref (s.heap.objs.size+1)) { s with heap:=h' }) :
   wpAny (model prog w) A (call (.type "enumerate") [.ref l]) Q E s:=by
 refine callType_new F.called_enumerate (by decide) (F.typeCall_enumerate_1 _) (F.newCall_enumerate_1 _) (λobj=>F.args_object_init_2 obj _) F.entry_enumerate_new (wQ l items n) ⟨hL,?_⟩;have hz:(s.heap.push { cls:=.type "tuple_iterator",data:=.fields #[.ref l,.int 0 0] }).objs.size=s.heap.objs.size+1:=RQ ..;refine(?_:_/\_);rw[hz];have he:IsEnum ((s.heap.push { cls:=.type "tuple_iterator",data:=.fields #[.ref l,.int 0 0] }).push
     { cls:=.type "enumerate",data:=.fields #[.none,.bool false,.ref s.heap.objs.size,rawInt 0,.none,.none] }) (s.heap.objs.size+1) s.heap.objs.size 0 .none:=by
   have:=PV (s.heap.push { cls:=.type "tuple_iterator",data:=.fields #[.ref l,.int 0 0] })
     (o:={ cls:=.type "enumerate",data:=.fields #[.none,.bool false,.ref s.heap.objs.size,rawInt 0,.none,.none] }) rfl
   rw[hz]at this;exact this
 exact⟨⟨_,he,rfl⟩,h _ he (PG _ (PV _ rfl)) λb o x=>PG _ (PG _ x)⟩
end
variable {Ia:Addr}{vs xs:Array Value}{h'':Heap}{wr:List Addr}{shown:List PyData}{k:Nat}{lk:Option Nat}{p:Pos}{T:String}{Q:Unit->Shared->Prop}{E':VP}theorem Inv.notMem(I:Inv Z Y U h)(e:h.get? a=none):a∉Y:=λm=>by obtain⟨o,q⟩:=I.ex m;rw[e]at q;injection q
theorem Step.tail(S:Step O Y U s ag aa ai)(hf:∀a,W a->s.heap.get? a=none)(hk:∀b o,¬ W b->ai.heap.get? b=some o->aq.heap.get? b=some o)(hg:aq.gens=ai.gens)(ho:aq.os=ai.os):Step O Y U s ag aa aq:=
 ⟨S.ext,S.mono,λx o hx hw hO=>have nW:¬ W x:=λq=>(by rw[hf x q]at hx;injection hx);(S.keepW x o hx hw hO).imp (hk x o nW) (λ⟨f,n,sl,q⟩=>⟨f,n,sl,hk x _ nW q⟩),(λx hx=>by
   by_cases q:W x
   . exact hf x q
   . cases e:ai.heap.get? x with
     |none=>exact S.alive x e
     |some o=>rw[hk x o q e]at hx;injection hx),hg.trans S.gens,ho.trans S.os⟩
theorem Inv.touch(I:Inv Z Y U h)(ha:∀a,W a->a∉Y)(h0:∀a,W a->Z.h₀.get? a=none)(hn:∀a,W a->¬ cj h a)(hk:∀b o,¬ W b->h.get? b=some o->h'.get? b=some o):Inv Z Y U h':=
 ⟨I.len,I.nodup,λb o e=>hk b o (λq=>by rw[h0 b q]at e;injection e) (I.base b o e),I.fresh,λk b c h1 h2=>(I.cell k b c h1 h2).mono (λo e=>hk b o (λq=>ha b q (PC h1)) e) λx o vs n e d t=>⟨hk x o (λq=>hn x q ⟨o,vs,n,e,d⟩) e,t⟩⟩
theorem FrameOk.map(F:FrameOk Z env ks sc K Y U h)(hv:∀{w:Value} {v:V},aE Y U h w v->aE Y aa h' w v)(hz:∀b∈Z.fr,∀o,h.get? b=some o->h'.get? b=some o)(hk:∀b,own env b->∀o,h.get? b=some o->h'.get? b=some o):FrameOk Z env ks sc K Y aa h':=by
 refine⟨F.kind,F.globals,F.builtins,F.kinds,F.bound,F.inj,?_,?_,F.apart,F.cinj,F.cloc,F.frs.grow λf o hf e q=>⟨o,hz f hf o e,q⟩⟩
 . refine kk λUc k=>?_;obtain⟨m,⟨o,es,ep,ho,r⟩,q⟩:=F.ns;refine k ?_;exact⟨m,⟨o,es,ep,hk _ (.inl rfl) o ho,r⟩,λx i h1 h2 v h3 h4=>let ⟨w,g1,g2⟩:=q x i h1 h2 v h3 h4;⟨w,g1,hv g2⟩⟩
 . intro x c e;refine kk λUc k=>?_;obtain⟨ov,⟨o,ho,hd⟩,q⟩:=F.cell x c e;refine k ?_;exact⟨ov,⟨o,hk c (.inr ⟨x,e⟩) o ho,hd⟩,λi h1 h2 v h3 h4=>let ⟨w,g1,g2⟩:=q i h1 h2 v h3 h4;⟨w,g1,hv g2⟩⟩
theorem FrameOk.touch(F:FrameOk Z env ks sc K Y U h)(hz:∀a,W a->a∉Z.fr)(ha:∀a,W a->¬ own env a)(hn:∀a,W a->¬ cj h a)(hk:∀b o,¬ W b->h.get? b=some o->h'.get? b=some o):FrameOk Z env ks sc K Y U h':=
 F.map (j8 hk hn) (λf hf o e=>hk f o (λw=>hz f w hf) e) λb hb o e=>hk b o (λq=>ha b q hb) e
def cg(Y:List Addr)(U:ac)(h:Heap)(β':List Addr)(σ':ac)(h':Heap):Prop:=
 ∀x o vs n,h.get? x=some o->xy o vs n->¬ TT Y U x->h'.get? x=some o/\¬ TT β' σ' x
theorem cg.refl:cg Y U h Y U h:=λ_ _ _ _ e _ t=>⟨e,t⟩theorem cg.trans(a:cg Y U h ag aa h')(b:cg ag aa h' a5 ae h''):cg Y U h a5 ae h'':=λx o vs n e d t=>let ⟨e1,t1⟩:=a x o vs n e d t;b x o vs n e1 d t1
theorem cg.vrel(a:cg Y U h Y aa h'){w:Value}{v:V}(r:aE Y U h w v):aE Y aa h' w v:=r.mono (λ_ _ e=>e) a
theorem Inv.touchBusy(I:Inv Z Y U h)(hb:Y[n]?=some a)(hn:U[n]?=some .busy)(hk:∀b o,b≠a->h.get? b=some o->h'.get? b=some o)(ho:∃o,h'.get? a=some o) :
   Inv Z Y U h'/\cg Y U h Y U h':=by
 have H:cg Y U h Y U h':=λx o vs m e d t=>⟨hk x o (λq=>t (q▸(⟨n,.busy,hb,hn,rfl⟩))) e,t⟩;refine⟨⟨I.len,I.nodup,λb o e=>hk b o (λq=>?_) (I.base b o e),I.fresh,λk b c h1 h2=>?_⟩,H⟩
 . have:=I.fresh a (PC hb);rw[q]at e;rw[this]at e;injection e
 . by_cases hkn:n=k
   . subst hkn;rw[hb]at h1;injection h1 with e;subst e;rw[hn]at h2;injection h2 with e;subst e;exact ho
   . exact(I.cell k b c h1 h2).mono (λo e=>hk b o (λq=>by subst q;exact I.addr_ne hb h1 hkn rfl) e) H
theorem sB{c:Cell}(hn:U[n]?=some iW)(hg:iW.isGone=c.isGone){x:Addr}:TT Y (U.set n c) x↔TT Y U x:=by
 constructor
 . rintro⟨k,c',h1,h2,h3⟩
   by_cases hk:n=k
   . subst hk;rw[dg hn]at h2;injection h2 with e;subst e;exact⟨n,iW,h1,hn,hg.trans h3⟩
   . rw[d3 hk]at h2;exact⟨k,c',h1,h2,h3⟩
 . rintro⟨k,c',h1,h2,h3⟩
   by_cases hk:n=k
   . subst hk;rw[hn]at h2;injection h2 with e;subst e;exact⟨n,c,h1,dg hn,hg▸h3⟩
   . exact⟨k,c',h1,by rw[d3 hk];exact h2,h3⟩
theorem Inv.openBusy(I:Inv Z Y U h)(hb:Y[n]?=some a)(hn:U[n]?=some .busy)(e:h.get? a=some (eP vs m))(r:RelAll (TT Y U) h vs.toList l)(hl:l.length<=LIM) :
   Inv Z Y (U.set n (.lst l)) h:=by
 have H:∀x o vs n',h.get? x=some o->xy o vs n'->¬ TT Y U x->h.get? x=some o/\¬ TT Y (U.set n (.lst l)) x:=λx o vs n' e d t=>⟨e,λz=>t (((λx=>sB (iW:=.busy) (c:=.lst l) hn rfl) x).mp z)⟩;refine⟨by simp[I.len],I.nodup,I.base,I.fresh,λk b c h1 h2=>?_⟩;by_cases hkn:n=k
 . subst hkn;rw[hb]at h1;injection h1 with e;subst e;rw[dg hn]at h2;injection h2 with e;subst e;exact⟨vs,m,e,r.mono H,hl⟩
 . rw[d3 hkn]at h2;exact(I.cell k b c h1 h2).mono (λo e=>e) (H)def pT(Y:List Addr)(U:ac)(h:Heap)(b:Addr):Prop:=(∃n:Nat,Y[n]?=some b/\U[n]?=some .busy)\/(cj h b/\¬ TT Y U b)
theorem pT.keep{b:Addr}(S:Step O Y U s ag aa ai)(I:Inv Z Y U s.heap)(ay:Inv Z ag aa ai.heap)(hO:∀x,O x->x∉Y/\¬ cj s.heap x)(st:pT Y U s.heap b) :
   (∀o,s.heap.get? b=some o->ai.heap.get? b=some o)/\pT ag aa ai.heap b:=by
 rcases st with⟨n,hb,hn⟩|⟨⟨o,vs,n,e,d⟩,t⟩
 . have hm:=PC hb;have hw:¬ WW Y U b:=by
     rintro⟨k,c,h1,h2,h3⟩
     by_cases hkn:n=k
     . subst hkn;rw[hn]at h2;injection h2 with e;subst e;injection h3
     . exact I.addr_ne hb h1 hkn rfl
   refine⟨λo e=>(S.keepW b o e hw λz=>(hO b z).1 hm).resolve_right λq=>q.2.1 hm,.inl ⟨n,S.get hb,?_⟩⟩;have EB:n < aa.length:=by rw[<- ay.len];exact(Pz.mp (S.get hb)).1
   obtain⟨c,h1,_,_,h4⟩:=S.mono n aa[n] ((Pz.mp hb).1) (PB EB);rw[hn]at h1;injection h1 with e;subst e;rw[PB EB,h4 rfl]
 . have k:=S.relH (λx z=>(hO x z).2) b o vs n e d t;exact⟨λo' e'=>by rw[e]at e';injection e' with e;subst e;exact k.1,.inr ⟨⟨o,vs,n,k.1,d⟩,k.2⟩⟩
theorem pT.ex{b:Addr}(I:Inv Z Y U h)(st:pT Y U h b):∃o,h.get? b=some o:=by
 rcases st with⟨n,hb,hn⟩|⟨⟨o,vs,n,e,d⟩,t⟩
 . exact I.ex (PC hb)
 . exact⟨o,e⟩noncomputable def jh (n:String):Bool:=["enumerate","zip","dict_itemiterator","dict_reverseitemiterator","odict_iterator","itertools.zip_longest","itertools.pairwise"].contains n
structure Itr where
 Ia:Addr
 fp:List Addr
 wr:List Addr
 shown:List PyData
 P:Nat->Value->Heap->Heap->Prop
 St:Nat->Heap->Prop
 Mid:Nat->Value->Heap->Prop
 en:Bool
def Kp(T:Itr)(h h':Heap):Prop:=∀b o,b∉T.wr->h.get? b=some o->h'.get? b=some (o)def x6(T:Itr)(h:Heap):Prop:=∀i h h',T.St i h->(∀b∈T.fp,∀o,h.get? b=some o->h'.get? b=some o)->T.St i (h')def zO(Z:Cx)(A:Around)(T:Itr):Prop:=∀i (s:Shared) (Q:Option Value->Shared->Prop) (E:VP),i < T.shown.length->T.St i s.heap->(∀v h' tk,T.P i v s.heap h'->T.Mid i v h'->Kp T s.heap h'->Q (some v) { s with heap:=h',toks:=tk })->WP Z A (pyNext (.ref T.Ia)) Q E (s)def F0(Z:Cx)(A:Around)(T:Itr):Prop:=∀(elts:List Expr) (k:Nat) (pos:Pos) i v (s:Shared) (Q:Unit->Shared->Prop) (E:VP),T.Mid i v s.heap->(∀h',T.St (i+1) h'->Kp T s.heap h'->Q () { s with heap:=h' })->WP Z A (letOwnedTupleGo (.Tuple elts k pos) (.ref T.Ia) v) Q E (s)def zP(Z:Cx)(A:Around)(T:Itr):Prop:=∀(s:Shared) (Q:Option Value->Shared->Prop) (E:VP),T.St T.shown.length s.heap->(∀h' tk,Kp T s.heap h'->Q none { s with heap:=h',toks:=tk })->WP Z A (pyNext (.ref T.Ia)) Q E (s)def zN(Z:Cx)(A:Around)(T:Itr):Prop:=∀i (s:Shared) (Q:VP) (E:VP),T.St i s.heap->Q (.ref T.Ia) s->WP Z A (pyIter (.ref T.Ia)) Q E (s)def x5(Z:Cx)(T:Itr)(Y:List Addr)(U:ac)(h:Heap):Prop:=∀i v hb h',i < T.shown.length->T.P i v hb h'->∀β' σ',Inv Z β' σ' hb->cg Y U h β' σ' h'->∃d,T.shown[i]?=some d/\Rel (TT β' σ') h' v (d)def x4(T:Itr):Prop:=∀i h',T.St i h'->∀b∈T.wr,(∃o,h'.get? b=some o/\¬ gd o)/\¬ cj h' (b)def vG(T:Itr):Prop:=∀i v h',T.Mid i v h'->∀b∈T.wr,(∃o,h'.get? b=some o/\¬ gd o)/\¬ cj h' b
structure Opened(Z:Cx)(A:Around)(T:Itr)(Y:List Addr)(U:ac)(h:Heap):Prop where
 sub:∀b∈T.wr,b∈T.fp
 frame:x6 T h
 item:zO Z A T
 go:F0 Z A T
 skip:T.en=false->∀i v h,T.Mid i v h->T.St (i+1) h
 done:zP Z A T
 self:zN Z A T
 start:T.St 0 h
 stay:∀b∈T.fp,b∈T.wr\/pT Y U h b
 items:x5 Z T Y U h
 noseq:x4 T
 noseqM:vG T
theorem eJ(d:o.data=.fields xs):¬ gd o:=λ⟨es,n,q⟩=>by rw[d]at q;injection q
theorem jG{n:String}(e:h.get? a=some o)(c:o.cls=.type n)(d:o.data=.fields xs):¬ cj h a:=λ⟨o',vs,n,e',d'⟩=>by
 rw[e]at e';injection e' with e;subst e;rcases d' with d'|⟨_,c',_⟩
 . rw[d]at d';injection d'
 . rw[c]at c';injection c'
theorem Iu(n:Nat)(h:n<=LIM):n<=sizeLine:=iv h cb
set_option tactic.hygienic true in
theorem EI{E:VP}{xs:List Expr}{n:String}(e:s.heap.get? Ia=some o)(hc:o.cls=.type n)(hd:o.data=.fields vs)(hn:jh n=false)(hQ:Q () s) :
   WP Z A (letOwnedTupleGo (.Tuple xs k p) (.ref Ia) v) Q E s:=by
 cases v
 case ref T=>unfold letOwnedTupleGo;refine OJ (wpAny_load e ?_);rw[hc,hd];show wpAny _ A (if (jh n&&vs[0]?==some (rawInt T))=true then _ else _) Q E s;rw[hn,RR,if_neg (by simp)];exact PH hQ
 all_goals exact PH hQ
noncomputable def AC(Ia:Addr)(fp:List Addr)(shown:List PyData)(P:Nat->Value->Prop)(St:Nat->Heap->Prop):Itr:=⟨Ia,fp,[Ia],shown,λi v _ _=>P i v,St,λi _ h=>St (i+1) h,false⟩
theorem Opened.plain{P:Nat->Value->Prop}{St:Nat->Heap->Prop}(walks:Walks Z.prog Z.w A Ia fp [Ia] shown.length P St)(start:St 0 h)(stay:∀b∈fp,b=Ia\/pT Y U h b)
   (items:∀i v,i < shown.length->P i v->∀β' σ' h',cg Y U h β' σ' h'->∃d,shown[i]?=some d/\Rel (TT β' σ') h' v d)
   (plain:∀i h',St i h'->X3 λo n vs=>A4 (h'.get? Ia=some o) (o.cls=.type n) (o.data=.fields vs) (jh n=false)):Opened Z A (AC Ia fp shown P St) Y U h:=by
 have ns:∀i h',St i h'->∀b∈[Ia],(∃o,h'.get? b=some o/\¬ gd o)/\¬ cj h' b:=λi h' st b hb=>by obtain⟨o,n,vs,e,c,d,_⟩:=plain i h' st;cases PL.mp hb;exact⟨⟨o,e,eJ d⟩,jG e c d⟩
 exact⟨walks.sub,walks.frame,λi s Q E hi st q=>walks.item i s Q E hi st λv h' tk hp st' k=>q v h' tk hp st' k,λxs k p i v s Q E st q=>by
   obtain⟨o,n,vs,e,c,d,w⟩:=plain _ _ st;exact EI e c d w (q s.heap st λ_ _ _ e=>e),λ_ i v h st=>st,λs Q E st q=>walks.done s Q E st λh' tk k=>q h' tk k,walks.self,start,λb hb=>(stay b hb).imp (λq=>PL.mpr q) id,
   λi v hb h' hi hp β' σ' _ k=>items i v hi hp β' σ' h' k,ns,λi v h' st=>ns _ _ st⟩
inductive ItPost(Z:Cx)(A:Around)(en:Bool)(I:Items)(Y:List Addr)(U:ac)(s:Shared)(aa:ac)(it:Value)(aq:Shared):Prop where
 |mk (ag:List Addr) (T:Itr) (h1:it=.ref T.Ia) (h2:T.shown=I.shown) (h3:T.en=en) (h4:Step cz Y U s ag aa aq) (h5:Inv Z ag aa aq.heap) (h6:∀a∈T.wr,s.heap.get? a=none/\a∉ag) (h7:Opened Z A T ag (c5 I.lk aa) aq.heap)
   (h8:∀n,I.lk=some n->aa[n]?=some (.lst I.base)) (h9:I.shown.length<=LIM):ItPost Z A en I Y U s aa it aq
theorem qP (hh:A.handled=none) (hi:h.get? Ia=some { cls:=.type "list_iterator",dict:=none,data:=.fields #[.ref a,.int 0 0],slots:=#[] }) (e:h.get? a=some (eP vs n)) (r:RelAll (TT Y U) h vs.toList l) (hs:pT Y U h a) :
   X3 λfp P St=>Opened Z A (AC Ia fp l P St) Y U h:=by
 have hne:a≠Ia:=λq=>by rw[q,hi]at e;injection e with e;exact absurd (congrArg Obj.cls e) (by simp)
 have hz:=r.length;simp at hz;have W:=Walks.list (prog:=Z.prog) (w:=Z.w) hh Ia a hne vs;replace W:=hz▸W;refine⟨_,_,_,.plain W ⟨⟨_,hi,rfl,rfl⟩,⟨_,e,rfl,_,rfl⟩⟩ ?_ ?_ ?_⟩
 . intro b hb;simp at hb;clear hi W;rcases hb with rfl|rfl
   . exact .inl rfl
   . exact .inr hs
 . intro i v _ hv β' σ' h' k;obtain⟨d,h1,h2⟩:=r.getV (k:=i) (v:=v) (by simpa using hv);exact⟨d,h1,Rel.mono k h2⟩
 . rintro i h' ⟨⟨o,e,c,d⟩,_⟩
   exact⟨o,_,_,e,c,d,by decide⟩
theorem yA (hh:A.handled=none) (hi:h.get? Ia=some { cls:=.type "tuple_iterator",dict:=none,data:=.fields #[.ref a,.int 0 0],slots:=#[] }) (e:h.get? a=some (pH vs n)) (r:RelAll (TT Y U) h vs.toList l) (hs:pT Y U h a) :
   X3 λfp P St=>Opened Z A (AC Ia fp l P St) Y U h:=by
 have hne:a≠Ia:=λq=>by rw[q,hi]at e;injection e with e;exact absurd (congrArg Obj.cls e) (by simp)
 have hz:=r.length;simp at hz;have W:=Walks.tuple (prog:=Z.prog) (w:=Z.w) hh Ia a hne vs;replace W:=hz▸W;refine⟨_,_,_,.plain W ⟨⟨_,hi,rfl,rfl⟩,⟨_,e,rfl,_,rfl⟩⟩ ?_ ?_ ?_⟩
 . intro b hb;simp at hb;clear hi W;rcases hb with rfl|rfl
   . exact .inl rfl
   . exact .inr hs
 . intro i v _ hv β' σ' h' k;obtain⟨d,h1,h2⟩:=r.getV (k:=i) (v:=v) (by simpa using hv);exact⟨d,h1,Rel.mono k h2⟩
 . rintro i h' ⟨⟨o,e,c,d⟩,_⟩
   exact⟨o,_,_,e,c,d,by decide⟩
theorem qO(W:Walks Z.prog Z.w A Ia [Ia] [Ia] x.cps.size (SignAt x) (λi h=>h.IsStrIter Ia T x tk i))(ht:jh T=false)(g:cY x)(hi:h.IsStrIter Ia T x tk 0) :
   Opened Z A (AC Ia [Ia] ((aG x).map λc=>.str (aD [c])) (SignAt x) (λi h=>h.IsStrIter Ia T x tk i)) Y U h:=by
 have hz:((aG x).map λc=>PyData.str (aD [c])).length=x.cps.size:=by rw[Pa];exact PZ
 rw[<- hz]at W;refine .plain W hi (λb hb=>.inl (PL.mp hb)) (λi v _ hv β' σ' h' k=>?_) λi h' ⟨o,e,c,d⟩=>⟨o,_,_,e,c,d,ht⟩;obtain⟨c,u,hc,rfl⟩:=hv;have hc':(aG x)[i]?=some c:=by unfold aG;rw[Array.getElem?_toList];exact hc
 refine⟨.str (aD [c]),by rw[Qc,hc'];rfl,.str _ _ (gQ (λy hy=>g.cps y ?_) (by rw[QQ];decide))⟩;rw[PL.mp hy];exact PC (hc')theorem bw(o:Obj):∀b x,h.get? b=some x->(h.push o).get? b=some x:=λb x e=>PG _ (e)theorem kJ(I:Inv Z Y U h):∀a∈[h.objs.size],h.get? a=none/\a∉Y:=λa ha=>by rw[PL.mp ha];exact⟨bo _,I.notMem (bo _)⟩theorem yB {E:VP} (hh:A.handled=none) (I:Inv Z Y U s.heap) (r:aE Y U s.heap v (.d (.tuple l))):WP Z A (pyIter v) (λit aq=>ItPost Z A false ⟨l,l,none⟩ Y U s U it aq) E s:=by apply (qo r).el;intro a vs m e t z q;refine wpAny_pyIter_tuple ⟨_,e,rfl,_,rfl⟩ ?_;have hk:=bw (h:=s.heap) { cls:=.type "tuple_iterator",data:=.fields #[.ref a,.int 0 0] };obtain⟨fp,P,St,Op⟩:=yA (Z:=Z) (A:=A) (Y:=Y) (U:=U) hh (PV s.heap rfl) (hk _ _ e) (q.mono λx o _ _ e _ t=>⟨hk _ _ e,t⟩) (.inr ⟨⟨_,_,_,hk _ _ e,.inl rfl⟩,t⟩);exact⟨Y,_,rfl,rfl,rfl,Step.grow hk rfl rfl,I.grow hk,kJ I,Op,(λn q=>by injection q),z⟩
theorem yD{E:VP}(hh:A.handled=none)(I:Inv Z Y U s.heap)(r:aE Y U s.heap v (.d (.list l))):WP Z A (pyIter v) (λit aq=>ItPost Z A false ⟨l,l,none⟩ Y U s U it aq) E s:=by
 cases r with
 |@list a vs m xs e t z q=>refine wpAny_pyIter_list ⟨_,e,rfl,_,rfl⟩ ?_;have hk:=bw (h:=s.heap) { cls:=.type "list_iterator",data:=.fields #[.ref a,.int 0 0] };obtain⟨fp,P,St,Op⟩:=qP (Z:=Z) (A:=A) (Y:=Y) (U:=U) hh (PV s.heap rfl) (hk _ _ e) (q.mono λx o _ _ e _ t=>⟨hk _ _ e,t⟩) (.inr ⟨⟨_,_,_,hk _ _ e,.inl rfl⟩,t⟩);exact⟨Y,_,rfl,rfl,rfl,Step.grow hk rfl rfl,I.grow hk,kJ I,Op,(λn q=>by injection q),z⟩
theorem yC{E:VP}(hh:A.handled=none)(I:Inv Z Y U s.heap)(r:aE Y U s.heap v (.d (.str x))):WP Z A (pyIter v) (λit aq=>ItPost Z A false ⟨(aG x).map λc=>.str (aD [c]),(aG x).map λc=>.str (aD [c]),none⟩ Y U s U it aq) E s:=by
 apply xo (oo r);intro tk g;have fin:∀T:String,Walks Z.prog Z.w A s.heap.objs.size [s.heap.objs.size] [s.heap.objs.size] x.cps.size (SignAt x) (λi h=>h.IsStrIter s.heap.objs.size T x tk i)->jh T=false->ItPost Z A false ⟨(aG x).map λc=>.str (aD [c]),(aG x).map λc=>.str (aD [c]),none⟩ Y U s U (.ref s.heap.objs.size) { s with heap:=s.heap.push { cls:=.type T,data:=.fields #[.str x tk,.int 0 0] } }:=λT W ht=>⟨Y,_,rfl,rfl,rfl,Step.grow (bw _) rfl rfl,I.grow (bw _),kJ I,qO W ht g ⟨_,PV _ rfl,rfl,rfl⟩,(λn q=>by injection q),by rw[Pa];exact g.len⟩
 cases ha:x.cps.all (· < 128)
 . exact wpAny_pyIter_wide ha (fin _ (Walks.strWide hh _ x tk) (by decide))
 . exact wpAny_pyIter_ascii ha (fin _ (Walks.strAscii hh _ x tk) (by decide))theorem DU {E:VP} (hh:A.handled=none) (I:Inv Z Y U s.heap) (r:aE Y U s.heap v (.loc n)) (hc:U[n]?=some (.lst l)):WP Z A (pyIter v) (λit aq=>ItPost Z A false ⟨l,l,some n⟩ Y U s U it aq) E s:=by obtain⟨a,hb,ev⟩:=r;refine ev▸?_;obtain⟨vs,m,e,q,z⟩:=I.cell n a _ hb hc;refine wpAny_pyIter_list ⟨_,e,rfl,_,rfl⟩ ?_;have hk:=bw (h:=s.heap) { cls:=.type "list_iterator",data:=.fields #[.ref a,.int 0 0] };obtain⟨fp,P,St,Op⟩:=qP (Z:=Z) (A:=A) (Y:=Y) (U:=U.set n .busy) hh (PV s.heap rfl) (hk _ _ e) (q.mono λx o _ _ e _ t=>⟨hk _ _ e,λz=>t (((λx=>sB (iW:=.lst l) (c:=.busy) hc rfl) x).mp z)⟩) (.inl ⟨n,hb,dg hc⟩);exact⟨Y,_,rfl,rfl,rfl,Step.grow hk rfl rfl,I.grow hk,kJ I,Op,(λk q=>Option.some.inj q▸hc),z⟩
theorem wE{Q:List PyData->Option Nat->Prop}{x:V}(ho:qQ x U=some (l,lk))(h1:∀l,x=.d (.tuple l)->Q l none)(h2:∀l,x=.d (.list l)->Q l none)(h3:∀y,x=.d (.str y)->Q ((aG y).map λc=>.str (aD [c])) none)(h4:∀n l,x=.loc n->U[n]?=some (.lst l)->Q l (some n)):Q l lk:=by
 cases x with
 |d y=>
   replace ho:=gx ho;rcases ho with⟨l',hl,ho⟩|ho
   . injection ho with e;injection e with e f;subst e;subst f;exact h1 _ (congrArg V.d (um hl))
   replace ho:=gx ho;rcases ho with⟨l',hl,ho⟩|ho
   . injection ho with e;injection e with e f;subst e;subst f;exact h2 _ (congrArg V.d (Hf hl))
   . replace ho:=ko ho;obtain⟨y,hl,ho⟩:=ho;injection ho with e;injection e with e f;subst e;subst f;exact h3 _ (congrArg V.d (pW hl))
 |loc n=>obtain⟨l',hc,ho⟩:=Qj.mp ho;cases (ho);exact h4 n _ rfl (ku hc)
 |_=>injection ho
theorem wD{x:V}{E:VP}(hh:A.handled=none)(I:Inv Z Y U s.heap)(r:aE Y U s.heap v x)(ho:qQ x U=some (l,lk)) :
   WP Z A (pyIter v) (λit aq=>ItPost Z A false ⟨l,l,lk⟩ Y U s U it aq) E s:=
 wE (Q:=λl lk=>WP Z A (pyIter v) (λit aq=>ItPost Z A false ⟨l,l,lk⟩ Y U s U it aq) E s) ho (λl e=>yB hh I (e▸r)) (λl e=>yD hh I (e▸r)) (λy e=>yC hh I (e▸r)) λn l e hc=>DU hh I (e▸r) hc
theorem jF(a b:Int):(b8 a b).length=(b - a).toNat:=by simp[b8]
theorem wy{a b:Int}{r:Addr}{t u v:Tok}{E:VP}(hh:A.handled=none)(ha:-100000<=a/\a<=100000)(hb:-100000<=b/\b<=100000)(I:Inv Z Y U s.heap)(hr:IsRange s.heap r a b 1 t u v) :
   WP Z A (pyIter (.ref r)) (λit aq=>ItPost Z A false ⟨b8 a b,[],none⟩ Y U s U it aq) E s:=by
 refine wpAny_pyIter_range hr (small_one (by omega) (by omega) (by omega) (by omega)) ?_;have hsz:Builtin.Range.rangeSize a b 1=(((b - a).toNat:Nat):Int):=by rw[rangeSize_one];split<;>grind
 have hk:=bw (h:=s.heap) { cls:=.type "range_iterator",data:=.fields #[rawInt a,rawInt (Builtin.Range.rangeSize a b 1),rawInt 1] };have W:=Walks.range (prog:=Z.prog) (w:=Z.w) hh s.heap.objs.size a 1 (b - a).toNat;rw[<- jF]at W;refine⟨Y,_,rfl,rfl,rfl,Step.grow hk rfl rfl,I.grow hk,kJ I,.plain W ?_ ?_ ?_ ?_,(λn q=>by injection q),?_⟩
 . show IsRangeIter _ _ (a+((0:Nat):Int) * 1) ((((b8 a b).length:Nat):Int) - ((0:Nat):Int)) 1;have e1:a+((0:Nat):Int) * 1=a:=Int.add_zero a;have e2:(((b8 a b).length:Nat):Int) - ((0:Nat):Int)=Builtin.Range.rangeSize a b 1:=(TU _).trans (by rw[jF,hsz]);rw[e1,e2];exact PV _ rfl
 . intro c hc;simp at hc;exact .inl hc
 . rintro i x hi ⟨t,rfl⟩ β' σ' h' _
   rw[jF]at hi;refine⟨.int (a+i),?_,?_⟩
   . simp[b8,hi]
   . rw[Int.mul_one];exact .int _ _
 . intro i h' st;exact⟨_,_,_,st,rfl,rfl,by decide⟩
 . rw[jF];exact Rg.mpr (QL (Int.sub_le_sub hb.2 ha.1) (by decide))theorem E6(l:List PyData)(i:Nat):(kK l)[i]?=(l[i]?).map λd=>PyData.tuple [.int i,d]:=by unfold kK;rw[Qc,List.getElem?_zipIdx];cases l[i]?<;>simp
theorem oL(l:List PyData):(kK l).length=l.length:=by simp[kK]
def M3(e it a:Addr)(vs:Array Value)(l:List PyData):Itr:=⟨e,[e,it,a],[e,it],kK l,λi v hb h'=>X3 λT t x=>A4 (v=.ref T) (hb.get? T=none) (h'.get? T=some (pH #[.int i t,x] 0)) (vs[i]?=some x),
 λi h=>(∃old,IsEnum h e it i old)/\h.IsTupleIter it a i/\h.IsTuple a vs,λi v h=>X2 λT x=>A3 (v=.ref T) (IsEnumOut h e it ((i:Int)+1) x T) (h.IsTupleIter it a (i+1)/\h.IsTuple a vs),true⟩
theorem BP {e:Addr} (hh:A.handled=none) (he:IsEnum h e it 0 .none) (hi:h.get? it=some { cls:=.type "tuple_iterator",dict:=none,data:=.fields #[.ref a,.int 0 0],slots:=#[] }) (ha:h.get? a=some (pH vs n)) (r:RelAll (TT Y U) h vs.toList l) (hs:pT Y U h a) :
   Opened Z A (M3 e it a vs l) Y U h:=by
 have hai:a≠it:=λq=>by rw[q,hi]at ha;injection ha with ha;exact absurd (congrArg Obj.cls ha) (by simp)
 have hae:a≠e:=λq=>by rw[q]at ha;have he:=he.symm.trans ha;injection he with he;exact absurd (congrArg Obj.cls he) (by simp)
 have hei:e≠it:=λq=>by rw[q]at he;have he:=he.symm.trans hi;injection he with he;exact absurd (congrArg Obj.cls he) (by simp)
 have hz:=r.length;simp at hz;have D:=Fp (prog:=Z.prog) (w:=Z.w) (A:=A.in1) hh it a hai vs;have mem:∀{b:Addr},b∉[e,it]->b≠e/\b≠it:=λhb=>⟨λq=>hb (by simp[q]),λq=>hb (by simp[q])⟩;have ns:∀{h':Heap} {i:Nat} {oe:Obj} {es:Array Value} {n:String},h'.get? e=some oe->oe.cls=.type n->oe.data=.fields es->h'.IsTupleIter it a i->∀b∈[e,it],(∃o,h'.get? b=some o/\¬ gd o)/\¬ cj h' b:=λhe hc hd ⟨o,hi,c,d⟩ b hb=>by
   rcases PM.mp hb with rfl|hb
   . exact⟨⟨_,he,eJ hd⟩,jG he hc hd⟩
   . cases PL.mp hb;exact⟨⟨_,hi,eJ d⟩,jG hi c d⟩
 refine⟨λb hb=>?_,λi h h' ⟨⟨old,he⟩,hi⟩ hk=>?_,λi s Q E hlt ⟨⟨old,he⟩,hi⟩ q=>?_,λxs k p i v s Q E m q=>?_,(λh=>by injection h),λs Q E ⟨⟨old,he⟩,hi⟩ q=>?_,λi s Q E ⟨⟨old,he⟩,hi⟩ q=>wpAny_pyIter_enum he q,⟨⟨_,he⟩,⟨_,hi,rfl,rfl⟩,⟨_,ha,rfl,_,rfl⟩⟩,λb hb=>?_,λi v hb h' hlt p β' σ' I k=>?_,λi h' ⟨⟨old,he⟩,hi,_⟩=>ns he rfl rfl hi,λi v h' ⟨T,x,_,he,hi,_⟩=>ns he rfl rfl hi⟩
 . rcases PM.mp hb with rfl|hb
   . exact PF ..
   . cases PL.mp hb;exact PD _ (PF ..)
 . exact⟨⟨old,hk e (PF ..) _ he⟩,D.frame _ _ _ hi λb hb=>hk b (PD _ hb)⟩
 . have hlt:i < vs.size:=by have:i < (kK l).length:=hlt;rw[oL]at this;lia
   refine wpAny_pyNext_enum_itemD D he hi hlt hei (λm=>?_) λx h' tk hx ho hs' hT _ hk=>q _ h' _ ⟨_,_,x,rfl,bo _,hT,hx⟩ ⟨_,_,rfl,ho,hs'⟩ λb o hb e=>hk b o (mem hb).1 (mem hb).2 e;rcases PM.mp m with h|h
   . exact hei h
   . exact hae (PL.mp h).symm
 . obtain⟨T,x,rfl,ho,hs'⟩:=m;refine wpAny_letOwnedTupleGo_enum ho λh' he' hk=>q h' ⟨⟨x,he'⟩,D.frame _ _ _ hs' λb hb o y=>(hk.2 b λz=>?_).trans y⟩ λb o hb y=>(hk.2 b (mem hb).1).trans y;clear he' mem ns he q;subst z;rcases PM.mp hb with h|h
   . exact hei h
   . exact hae (PL.mp h).symm
 . have hi:(λi h=>Heap.IsTupleIter h it a i/\Heap.IsTuple h a vs) vs.size s.heap:=by rw[hz,<- oL l];exact hi
   exact wpAny_pyNext_enum_endD D he hi λh' hx=>q h' s.toks λb o hb y=>hx b o (mem hb).2 y
 . clear D ns;rcases PM.mp hb with rfl|hb
   . exact .inl (PF ..)
   . clear he mem;rcases PM.mp hb with rfl|hb
     . exact .inl (PD _ (PF ..))
     . cases PL.mp hb;exact .inr hs
 . obtain⟨T,t,x,rfl,hT,hT',hx⟩:=p;obtain⟨d,h1,h2⟩:=r.getV (k:=i) (v:=x) (by simpa using hx);refine⟨.tuple [.int i,d],?_,.tuple hT' (λz=>I.notMem hT z.mem) (by simp[LIM]) (.cons (.int _ _) (.one (Rel.mono k h2)))⟩;show (kK l)[i]?=_;rw[E6,h1];rfl
theorem zb{E:VP}(hh:A.handled=none)(I:Inv Z Y U s.heap)(r:aE Y U s.heap v (.d (.tuple l))) :
   WP Z A (call (.type "enumerate") [v]) (λx ai=>WP Z A (pyIter x) (λit aq=>ItPost Z A true ⟨kK l,[],none⟩ Y U s U it aq) E ai) E' s:=by
 apply (qo r).el;intro a vs m e t z q;refine zy e λh' he hi hk=>wpAny_pyIter_enum he ?_;have f0:∀k,s.heap.get? (s.heap.objs.size+k)=none:=λk=>hX (PU _ _);refine⟨Y,_,rfl,rfl,rfl,Step.grow hk rfl rfl,I.grow hk,(λb hb=>?_),(BP (Z:=Z) (A:=A) (Y:=Y) (U:=U) hh he hi (hk _ _ e) (q.mono λx o _ _ e _ t=>⟨hk _ _ e,t⟩) (.inr ⟨⟨_,_,_,hk _ _ e,.inl rfl⟩,t⟩)),(λn q=>by injection q),by rw[oL];exact z⟩;rcases PM.mp hb with rfl|hb
 . exact⟨f0 1,I.notMem (f0 1)⟩
 . cases PL.mp hb;exact⟨f0 0,I.notMem (f0 0)⟩
theorem lC(S0:Step O Y U s ag aa ai)(ay:Inv Z ag aa ai.heap)(hlk:∀n,lk=some n->aa[n]?=some (.lst base))(S:Step (λx=>O x\/x∈wr) ag (c5 lk aa) ai a5 ae aq)(cD:Inv Z a5 ae aq.heap)
   (hO:∀x,O x->¬ cj ai.heap x) (hi:∀a∈wr,¬ cj ai.heap a) (hf:∀a∈wr,s.heap.get? a=none):A3 (Step O Y U s a5 (bx lk base ae) aq) (Inv Z a5 (bx lk base ae) aq.heap) (∀x,TT a5 (bx lk base ae) x↔TT a5 ae x):=by
 have drop:∀{σ':ac},Step (λx=>O x\/x∈wr) Y U s a5 σ' aq->Step O Y U s a5 σ' aq:=λT=>⟨T.ext,T.mono,λx o hx hw hn=>T.keepW x o hx hw (λz=>z.elim hn λq=>by rw[hf x q]at hx;injection hx),T.alive,T.gens,T.os⟩
 cases lk with
 |none=>exact⟨drop ((S0.weaken λ_=>.inl).trans S),cD,λ_=>.rfl⟩
 |some n=>
   have hn:=hlk n rfl;have hlt:n < ag.length:=by rw[ay.len];exact(Pz.mp hn).1
   have hb:=PB hlt;have Ua:=Bp ay hb hn S (λx z=>z.elim (hO x) (hi x)) cD;have st:ae[n]?=some .busy:=by
     have EA:n < ae.length:=by rw[<- cD.len];exact(Pz.mp (S.get hb)).1
     obtain⟨c,h1,_,_,h4⟩:=S.mono n ae[n] hlt (PB EA);have:(c5 (some n) aa)[n]?=some .busy:=dg hn;rw[this]at h1;injection h1 with e;subst e;rw[PB EA,h4 rfl]
   exact⟨drop ((S0.weaken λ_=>.inl).trans Ua.1),Ua.2,λx=>sB (iW:=.busy) (c:=.lst base) st rfl⟩
theorem AA(ay:Inv Z ag aa ai.heap)(hlk:∀n,lk=some n->aa[n]?=some (.lst base)):Inv Z ag (c5 lk aa) ai.heap/\Step cz ag aa ai ag (c5 lk aa) ai:=by
 cases lk with
 |none=>exact⟨ay,Step.refl⟩
 |some n=>
   have hn:=hlk n rfl;have hlt:n < ag.length:=by exact ay.len▸(Pz.mp hn).1
   have:=uy (O:=cz) (c:=.busy) ay (PB hlt) hn rfl rfl;exact⟨this.2,this.1⟩variable {o:Option B}theorem IV{x:B}{P:Prop}(h:o=some x)(hn:o=none):P:=by rw[hn]at h;injection h
theorem av{f:B->Bool}(h:ob o f=true):∃a,o=some a/\f a=true:=by
 cases o with
 |none=>injection h
 |some a=>exact⟨a,rfl,h⟩theorem wJ{a:Bool}(h:(!a)=true):a=false:=by cases a with|false=>rfl|true=>injection h
theorem xX{a:Bool}(z:(a&&b&&c)=true):A3 (a=true) (b=true) (c=true):=by have q:=PI.mp z;obtain⟨ha,hb⟩:=PI.mp q.1;exact⟨ha,hb,q.2⟩variable {d:Bool}theorem sA{a:Bool}(z:(a&&b&&c&&d)=true):A4 (a=true) (b=true) (c=true) (d=true):=by have q:=PI.mp z;obtain⟨ha,hb,hc⟩:=xX q.1;exact⟨ha,hb,hc,q.2⟩theorem NE{a e:Bool}(z:(a&&b&&c&&d&&e)=true):A5 (a=true) (b=true) (c=true) (d=true) (e=true):=by have q:=PI.mp z;obtain⟨ha,hb,hc,hd⟩:=sA q.1;exact⟨ha,hb,hc,hd,q.2⟩theorem zH{a e f:Bool}(z:(a&&b&&c&&d&&e&&f)=true):A6 (a=true) (b=true) (c=true) (d=true) (e=true) (f=true):=by have q:=PI.mp z;obtain⟨ha,hb,hc,hd,he⟩:=NE q.1;exact⟨ha,hb,hc,hd,he,q.2⟩theorem ND{a e f g:Bool}(z:(a&&b&&c&&d&&e&&f&&g)=true):A4 (a=true) (b=true) (c=true) (A4 (d=true) (e=true) (f=true) (g=true)):=by have q:=PI.mp z;obtain⟨ha,hb,hc,hd,he,hf⟩:=zH q.1;exact⟨ha,hb,hc,hd,he,hf,q.2⟩
theorem a8{k:n=m->B}{a:B}(h:cT n m k=some a):∃e,k e=a:=by
 unfold cT at h;by_cases e:n=m
 . rw[dif_pos e]at h;exact⟨e,Option.some.inj h⟩
 . rw[dif_neg e]at h;injection h
def gC(ex:Expr):Option (Const):=cT ex.ctorIdx 19 λe=>Expr.Constant.elim (motive_1:=λ_=>Const) ex e λa0 _ _=>(a0)theorem AM{ex:Expr}{t:Const}(h:gC ex=some t):X2 λa b=>ex=.Constant t a b:=by refine(a8 h).elim λe q=>?_;exact Expr.Constant.elim (motive_1:=λex=>∀e:ex.ctorIdx=19,(Expr.Constant.elim (motive_1:=λ_=>Const) ex e λa0 _ _=>a0)=t->X2 λa b=>ex=.Constant t a b) ex e (λ_ a b _ q=>q▸⟨a,b,rfl⟩) e (q)theorem bO{ex:Expr}{t:Str}(h:fc ex=some t):∃p,ex=.Name t p:=by refine(a8 h).elim λe q=>?_;exact Expr.Name.elim (motive_1:=λex=>∀e:ex.ctorIdx=23,(Expr.Name.elim (motive_1:=λ_=>Str) ex e λa0 _=>a0)=t->∃p,ex=.Name t p) ex e (λ_ p _ q=>q▸⟨p,rfl⟩) e (q)def K5(ex:Expr):Option (Expr×Operator×Expr):=cT ex.ctorIdx 2 λe=>Expr.BinOp.elim (motive_1:=λ_=>Expr×Operator×Expr) ex e λa0 a1 a2 _=>(a0,a1,a2)theorem K4{ex:Expr}{t:Expr×Operator×Expr}(h:K5 ex=some t):∃p,ex=.BinOp t.1 t.2.1 t.2.2 p:=by refine(a8 h).elim λe q=>?_;exact Expr.BinOp.elim (motive_1:=λex=>∀e:ex.ctorIdx=2,(Expr.BinOp.elim (motive_1:=λ_=>Expr×Operator×Expr) ex e λa0 a1 a2 _=>(a0,a1,a2))=t->∃p,ex=.BinOp t.1 t.2.1 t.2.2 p) ex e (λ_ _ _ p _ q=>q▸⟨p,rfl⟩) e (q)theorem HJ{ex:Expr}{l r:Expr}{o:Operator}(h:K5 ex=some (l,o,r)):∃p,ex=.BinOp l o r p:=K4 (h)def Nd(ex:Expr):Option (UnaryOp×Expr):=cT ex.ctorIdx 3 λe=>Expr.UnaryOp.elim (motive_1:=λ_=>UnaryOp×Expr) ex e λa0 a1 _=>(a0,a1)theorem Nc{ex:Expr}{t:UnaryOp×Expr}(h:Nd ex=some t):∃p,ex=.UnaryOp t.1 t.2 p:=by refine(a8 h).elim λe q=>?_;exact Expr.UnaryOp.elim (motive_1:=λex=>∀e:ex.ctorIdx=3,(Expr.UnaryOp.elim (motive_1:=λ_=>UnaryOp×Expr) ex e λa0 a1 _=>(a0,a1))=t->∃p,ex=.UnaryOp t.1 t.2 p) ex e (λ_ _ p _ q=>q▸⟨p,rfl⟩) e (q)theorem KX{ex:Expr}{o:UnaryOp}{x:Expr}(h:Nd ex=some (o,x)):∃p,ex=.UnaryOp o x p:=Nc (h)def K3(ex:Expr):Option (BoolOp×List Expr):=cT ex.ctorIdx 0 λe=>Expr.BoolOp.elim (motive_1:=λ_=>BoolOp×List Expr) ex e λa0 a1 _=>(a0,a1)theorem K2{ex:Expr}{t:BoolOp×List Expr}(h:K3 ex=some t):∃p,ex=.BoolOp t.1 t.2 p:=by refine(a8 h).elim λe q=>?_;exact Expr.BoolOp.elim (motive_1:=λex=>∀e:ex.ctorIdx=0,(Expr.BoolOp.elim (motive_1:=λ_=>BoolOp×List Expr) ex e λa0 a1 _=>(a0,a1))=t->∃p,ex=.BoolOp t.1 t.2 p) ex e (λ_ _ p _ q=>q▸⟨p,rfl⟩) e (q)variable {xs:List Expr}theorem HI{ex:Expr}{o:BoolOp}(h:K3 ex=some (o,xs)):∃p,ex=.BoolOp o xs p:=K2 (h)def HH(ex:Expr):Option (Expr×List CmpOp×List Expr):=cT ex.ctorIdx 15 λe=>Expr.Compare.elim (motive_1:=λ_=>Expr×List CmpOp×List Expr) ex e λa0 a1 a2 _=>(a0,a1,a2)theorem K1{ex:Expr}{t:Expr×List CmpOp×List Expr}(h:HH ex=some t):∃p,ex=.Compare t.1 t.2.1 t.2.2 p:=by refine(a8 h).elim λe q=>?_;exact Expr.Compare.elim (motive_1:=λex=>∀e:ex.ctorIdx=15,(Expr.Compare.elim (motive_1:=λ_=>Expr×List CmpOp×List Expr) ex e λa0 a1 a2 _=>(a0,a1,a2))=t->∃p,ex=.Compare t.1 t.2.1 t.2.2 p) ex e (λ_ _ _ p _ q=>q▸⟨p,rfl⟩) e (q)theorem vg{ex:Expr}{l:Expr}{o:List CmpOp}{r:List Expr}(h:HH ex=some (l,o,r)):∃p,ex=.Compare l o r p:=K1 (h)def Og(ex:Expr):Option (Expr×Expr×Expr):=cT ex.ctorIdx 5 λe=>Expr.IfExp.elim (motive_1:=λ_=>Expr×Expr×Expr) ex e λa0 a1 a2 _=>(a0,a1,a2)theorem Nj{ex:Expr}{t:Expr×Expr×Expr}(h:Og ex=some t):∃p,ex=.IfExp t.1 t.2.1 t.2.2 p:=by refine(a8 h).elim λe q=>?_;exact Expr.IfExp.elim (motive_1:=λex=>∀e:ex.ctorIdx=5,(Expr.IfExp.elim (motive_1:=λ_=>Expr×Expr×Expr) ex e λa0 a1 a2 _=>(a0,a1,a2))=t->∃p,ex=.IfExp t.1 t.2.1 t.2.2 p) ex e (λ_ _ _ p _ q=>q▸⟨p,rfl⟩) e (q)theorem KZ{ex:Expr}{l o r:Expr}(h:Og ex=some (l,o,r)):∃p,ex=.IfExp l o r p:=Nj (h)def B6(ex:Expr):Option (List Expr):=cT ex.ctorIdx 25 λe=>Expr.Tuple.elim (motive_1:=λ_=>List Expr) ex e λa0 _ _=>(a0)theorem lu{ex:Expr}{t:List Expr}(h:B6 ex=some t):X2 λk p=>ex=.Tuple t k p:=by refine(a8 h).elim λe q=>?_;exact Expr.Tuple.elim (motive_1:=λex=>∀e:ex.ctorIdx=25,(Expr.Tuple.elim (motive_1:=λ_=>List Expr) ex e λa0 _ _=>a0)=t->X2 λk p=>ex=.Tuple t k p) ex e (λ_ a b _ q=>q▸⟨a,b,rfl⟩) e (q)def EO(ex:Expr):Option (List Expr):=cT ex.ctorIdx 24 λe=>Expr.List.elim (motive_1:=λ_=>List Expr) ex e λa0 _=>(a0)theorem xi{ex:Expr}{t:List Expr}(h:EO ex=some t):∃p,ex=.List t p:=by refine(a8 h).elim λe q=>?_;exact Expr.List.elim (motive_1:=λex=>∀e:ex.ctorIdx=24,(Expr.List.elim (motive_1:=λ_=>List Expr) ex e λa0 _=>a0)=t->∃p,ex=.List t p) ex e (λ_ p _ q=>q▸⟨p,rfl⟩) e (q)def EQ(ex:Expr):Option (List (Option Expr)×List Expr):=cT ex.ctorIdx 6 λe=>Expr.Dict.elim (motive_1:=λ_=>List (Option Expr)×List Expr) ex e λa0 a1 _=>(a0,a1)theorem HF{ex:Expr}{t:List (Option Expr)×List Expr}(h:EQ ex=some t):∃p,ex=.Dict t.1 t.2 p:=by refine(a8 h).elim λe q=>?_;exact Expr.Dict.elim (motive_1:=λex=>∀e:ex.ctorIdx=6,(Expr.Dict.elim (motive_1:=λ_=>List (Option Expr)×List Expr) ex e λa0 a1 _=>(a0,a1))=t->∃p,ex=.Dict t.1 t.2 p) ex e (λ_ _ p _ q=>q▸⟨p,rfl⟩) e (q)variable {k:List (Option Expr)}theorem EP{ex:Expr}{v:List Expr}(h:EQ ex=some (k,v)):∃p,ex=.Dict k v p:=HF (h)def B7(ex:Expr):Option (Expr×Expr):=cT ex.ctorIdx 21 λe=>Expr.Subscript.elim (motive_1:=λ_=>Expr×Expr) ex e λa0 a1 _=>(a0,a1)theorem EK{ex:Expr}{t:Expr×Expr}(h:B7 ex=some t):∃p,ex=.Subscript t.1 t.2 p:=by refine(a8 h).elim λe q=>?_;exact Expr.Subscript.elim (motive_1:=λex=>∀e:ex.ctorIdx=21,(Expr.Subscript.elim (motive_1:=λ_=>Expr×Expr) ex e λa0 a1 _=>(a0,a1))=t->∃p,ex=.Subscript t.1 t.2 p) ex e (λ_ _ p _ q=>q▸⟨p,rfl⟩) e (q)theorem qf{ex:Expr}{v x:Expr}(h:B7 ex=some (v,x)):∃p,ex=.Subscript v x p:=EK (h)def HB(ex:Expr):Option (Option Expr×Option Expr×Option Expr):=cT ex.ctorIdx 26 λe=>Expr.Slice.elim (motive_1:=λ_=>Option Expr×Option Expr×Option Expr) ex e λa0 a1 a2 _=>(a0,a1,a2)theorem KY{ex:Expr}{t:Option Expr×Option Expr×Option Expr}(h:HB ex=some t):∃p,ex=.Slice t.1 t.2.1 t.2.2 p:=by refine(a8 h).elim λe q=>?_;exact Expr.Slice.elim (motive_1:=λex=>∀e:ex.ctorIdx=26,(Expr.Slice.elim (motive_1:=λ_=>Option Expr×Option Expr×Option Expr) ex e λa0 a1 a2 _=>(a0,a1,a2))=t->∃p,ex=.Slice t.1 t.2.1 t.2.2 p) ex e (λ_ _ _ p _ q=>q▸⟨p,rfl⟩) e (q)theorem HA{ex:Expr}{l u t:Option Expr}(h:HB ex=some (l,u,t)):∃p,ex=.Slice l u t p:=KY (h)def ES(ex:Expr):Option (Expr×List Comprehension×Scope):=cT ex.ctorIdx 8 λe=>Expr.ListComp.elim (motive_1:=λ_=>Expr×List Comprehension×Scope) ex e λa0 a1 a2 _=>(a0,a1,a2)theorem HG{ex:Expr}{t:Expr×List Comprehension×Scope}(h:ES ex=some t):∃p,ex=.ListComp t.1 t.2.1 t.2.2 p:=by refine(a8 h).elim λe q=>?_;exact Expr.ListComp.elim (motive_1:=λex=>∀e:ex.ctorIdx=8,(Expr.ListComp.elim (motive_1:=λ_=>Expr×List Comprehension×Scope) ex e λa0 a1 a2 _=>(a0,a1,a2))=t->∃p,ex=.ListComp t.1 t.2.1 t.2.2 p) ex e (λ_ _ _ p _ q=>q▸⟨p,rfl⟩) e (q)variable {g:List Comprehension}theorem ER{ex:Expr}{e:Expr}{s:Scope}(h:ES ex=some (e,g,s)):∃p,ex=.ListComp e g s p:=HG (h)def tU(ex:Expr):Option (Expr×List Expr×List Keyword×Pos):=cT ex.ctorIdx 16 λe=>Expr.Call.elim (motive_1:=λ_=>Expr×List Expr×List Keyword×Pos) ex e λa0 a1 a2 a3=>(a0,a1,a2,a3)theorem vh{ex:Expr}{t:Expr×List Expr×List Keyword×Pos}(h:tU ex=some t):ex=.Call t.1 t.2.1 t.2.2.1 t.2.2.2:=by refine(a8 h).elim λe q=>?_;exact Expr.Call.elim (motive_1:=λex=>∀e:ex.ctorIdx=16,(Expr.Call.elim (motive_1:=λ_=>Expr×List Expr×List Keyword×Pos) ex e λa0 a1 a2 a3=>(a0,a1,a2,a3))=t->ex=.Call t.1 t.2.1 t.2.2.1 t.2.2.2) ex e (λ_ _ _ _ _ q=>q▸rfl) e (q)variable {a:List Expr}theorem xj{ex:Expr}{f:Expr}{k:List Keyword}(h:tU ex=some (f,a,k,p)):ex=.Call f a k p:=vh (h)theorem HK{ex:Expr}{t:Expr×Str×Pos}(h:AN ex=some t):ex=.Attribute t.1 t.2.1 t.2.2:=by refine(a8 h).elim λe q=>?_;exact Expr.Attribute.elim (motive_1:=λex=>∀e:ex.ctorIdx=20,(Expr.Attribute.elim (motive_1:=λ_=>Expr×Str×Pos) ex e λa0 a1 a2=>(a0,a1,a2))=t->ex=.Attribute t.1 t.2.1 t.2.2) ex e (λ_ _ _ _ q=>q▸rfl) e (q)theorem xk{ex:Expr}{o:Expr}{n:Str}(h:AN ex=some (o,n,p)):ex=.Attribute o n p:=HK (h)noncomputable def Nv:Const->Option Unit
 |.none=>some ()
 |_=>(none)noncomputable def Nw:Const->Option Bool
 |.bool b=>some b
 |_=>(none)noncomputable def Oz:Const->Option Int
 |.int b=>some b
 |_=>(none)noncomputable def Oy:Const->Option Str
 |.str b=>some b
 |_=>(none)def AK(ex:Expr):Option Unit:=(gC ex).bind (Nv)def I8(ex:Expr):Option Bool:=(gC ex).bind (Nw)def Ni(ex:Expr):Option Int:=(gC ex).bind (Oz)def Nf(ex:Expr):Option Str:=(gC ex).bind (Oy)variable {u:Unit}theorem xh{ex:Expr}(h:AK ex=some u):X2 λa b=>ex=.Constant .none a b:=by obtain⟨c,h1,h2⟩:=PK.mp h;clear h;obtain⟨a,b,rfl⟩:=AM h1;clear h1;cases c<;>first|exact⟨_,_,rfl⟩|exact IV h2 rfl
theorem ET{ex:Expr}{x:Bool}(h:I8 ex=some x):X2 λa b=>ex=.Constant (.bool x) a b:=by obtain⟨c,h1,h2⟩:=PK.mp h;clear h;obtain⟨a,b,rfl⟩:=AM h1;clear h1;cases c<;>first|exact IV h2 rfl | ((injection h2 with e;subst e);exact⟨_,_,rfl⟩)theorem HE{ex:Expr}{x:Int}(h:Ni ex=some x):X2 λa b=>ex=.Constant (.int x) a b:=by obtain⟨c,h1,h2⟩:=PK.mp h;clear h;obtain⟨a,b,rfl⟩:=AM h1;cases c<;>first|exact IV h2 rfl | ((injection h2 with e;subst e);exact⟨_,_,rfl⟩)theorem Hz{ex:Expr}(h:Nf ex=some x):X2 λa b=>ex=.Constant (.str x) a b:=by obtain⟨c,h1,h2⟩:=PK.mp h;clear h;obtain⟨a,b,rfl⟩:=AM h1;cases c<;>first|exact IV h2 rfl | ((injection h2 with e;subst e);exact⟨_,_,rfl⟩)def Nh(ex:Expr):Option Expr:=(Nd ex).bind λq=>if q.1=.USub then some q.2 else none
def Ng(ex:Expr):Option Expr:=(Nd ex).bind λq=>if q.1=.Not then some q.2 else none
theorem IJ{ex x:Expr}{o:UnaryOp}(h:((Nd ex).bind λq=>if q.1=o then some q.2 else none)=some x):∃p,ex=.UnaryOp o x p:=by
 obtain⟨⟨o',y⟩,h1,h2⟩:=PK.mp h;apply gj (KX h1);intro p;clear h;by_cases ho:o'=o
 . rw[if_pos ho]at h2;injection h2 with e;subst e;subst ho;exact⟨p,rfl⟩
 . rw[if_neg ho]at h2;injection h2
theorem HD{ex x:Expr}(h:Nh ex=some x):∃p,ex=.UnaryOp .USub x p:=IJ (h)theorem HC{ex x:Expr}(h:Ng ex=some x):∃p,ex=.UnaryOp .Not x p:=IJ (h)noncomputable def JD{B:Type}:List B->Option (B×List B)
 |a::b=>some (a,b)
 |_=>(none)variable {l:List B}
theorem oq{a:B}{r:List B}(h:JD l=some (a,r)):l=a::r:=by
 cases l with
 |nil=>injection h
 |cons x l=>injection h with e;injection e with e f;subst e;subst f;rfl
theorem gc(h:l.isEmpty=true):l=[]:=by
 cases l with
 |nil=>rfl
 |cons x l=>injection h
noncomputable def Oi{B:Type}:List B->Option Unit
 |[]=>some ()
 |_=>none
theorem Fe(h:Oi l=some u):l=[]:=by
 cases l with
 |nil=>rfl
 |cons _ _=>exact IV h (rfl)def rL(ex:Expr):Option (Str×List Expr):=(tU ex).bind λq=>(fc q.1).bind λx=>(Oi q.2.2.1).bind λ_=>some (x,q.2.1)theorem eU{ex:Expr}{a:List Expr}(h:rL ex=some (x,a)):X2 λp pos=>ex=.Call (.Name x p) a [] pos:=by refine kk λUc k=>?_;obtain⟨q,h1,h⟩:=PK.mp h;obtain⟨x',h2,h⟩:=PK.mp h;obtain⟨_,h3,h⟩:=PK.mp h;obtain⟨p,h2⟩:=bO h2;refine k ?_;have h4:=Prod.mk.inj (Option.some.inj h);refine⟨p,q.2.2.2,?_⟩;rw[xj (f:=q.1) (a:=q.2.1) (k:=q.2.2.1) (p:=q.2.2.2) h1,h2,Fe h3,h4.1,h4.2]def I7(ex:Expr):Option (Expr×Str×Pos×List Expr×Pos):=(tU ex).bind λq=>(AN q.1).bind λo=>(Oi q.2.2.1).bind λ_=>some (o.1,o.2.1,o.2.2,q.2.1,q.2.2.2)variable {nm:Str}theorem EN{ex ov:Expr}{ap:Pos}{a:List Expr}(h:I7 ex=some (ov,nm,ap,a,pos)):ex=.Call (.Attribute ov nm ap) a [] pos:=by obtain⟨q,h1,h⟩:=PK.mp h;obtain⟨o,h2,h⟩:=PK.mp h;obtain⟨_,h3,h⟩:=PK.mp h;have h2:=xk (o:=o.1) (n:=o.2.1) (p:=o.2.2) h2;rw[xj (f:=q.1) (a:=q.2.1) (k:=q.2.2.1) (p:=q.2.2.2) h1,h2,Fe h3];exact congrArg (λt:Expr×Str×Pos×List Expr×Pos=>Expr.Call (.Attribute t.1 t.2.1 t.2.2.1) t.2.2.2.1 [] t.2.2.2.2) (Option.some.inj h)noncomputable def O2:Bi->Option Ty
 |.isinst t=>some t
 |_=>(none)theorem LC{b:Bi}{t:Ty}(h:O2 b=some t):b=.isinst t:=by cases b<;>first | ((injection h with e;subst e);rfl) | injection h
def rD(ks:KS)(x:Str):Bool:=decide (ks.lookup x=some .globalImplicit)&&co (x)def AI(x:Str):Bool:=PyData.strOk x&&decide (x.cps.size<=LIM)noncomputable def fJ(ex:Expr):Bool:=Expr.casesOn (motive_1:=λ_=>Bool) ex (λ_ _ _=>true) (λ_ _ _=>true) (λ_ _ _ _=>true) (λ_ _ _=>true) (λ_ _ _ _=>true) (λ_ _ _ _=>true) (λ_ _ _=>true) (λ_ _ _=>true) (λ_ _ _ _=>true) (λ_ _ _ _=>true) (λ_ _ _ _ _=>true) (λ_ _ _ _=>true) (λ_ _=>true) (λ_ _=>true) (λ_ _=>true) (λ_ _ _ _=>true) (λ_ _ _ _=>true) (λ_ _ _ _=>true) (λ_ _=>true) (λ_ _ _=>true) (λ_ _ _=>true) (λ_ _ _=>true) (λ_ _=>false) (λ_ _=>true) (λ_ _=>true) (λ_ _ _=>true) (λ_ _ _ _=>true)def wK(ex:Expr):Bool:=(HB ex).isNone
noncomputable def qS(ex:Expr):Bool:=Expr.casesOn (motive_1:=λ_=>Bool) ex (λ_ _ _=>true) (λ_ _ _=>true) (λ_ _ _ _=>true) (λ_ _ _=>true) (λ_ _ _ _=>true) (λ_ _ _ _=>true) (λ_ _ _=>true) (λ_ _ _=>false) (λ_ _ _ _=>true) (λ_ _ _ _=>true) (λ_ _ _ _ _=>true) (λ_ _ _ _=>true) (λ_ _=>true) (λ_ _=>true) (λ_ _=>true) (λ_ _ _ _=>true) (λ_ _ _ _=>true) (λ_ _ _ _=>true) (λ_ _=>true) (λ_ _ _=>true) (λ_ _ _=>true) (λ_ _ _=>true) (λ_ _=>true) (λ_ _=>true) (λ_ _=>true) (λ_ _ _=>true) (λ_ _ _ _=>true)def Ar(ex:Expr):Bool:=(tU ex).isNone
def mW(t:Ty):Str:=Str.ofString (ui t)noncomputable def sk:Bi->Str
 |.len=>"len"
 |.list=>"list"
 |.int=>"int"
 |.max=>"max"
 |.tuple=>"tuple"
 |.sortedSet=>"sorted"
 |.any=>"any"
 |.all=>"all"
 |.isinst _=>"isinstance"
noncomputable def O3:Bi->Bool
 |.sortedSet=>true
 |_=>(false)theorem LD{b:Bi}(h:O3 b=true):b=.sortedSet:=by cases b<;>first|rfl|injection h
noncomputable def Bi.plain:Bi->Bool
 |.isinst _ | .sortedSet=>false
 |_=>(true)def MX(sc:SC):Tgt->Expr->Bool
 |.var i,ex=>ob (fc ex) λx=>decide (sc.lookup x=some i)&&co x
 |.tup _,_=>(false)variable {t:Tgt}
theorem Hc{ex:Expr}(h:MX sc t ex=true):X3 λi x p=>A4 (t=.var i) (ex=.Name x p) (sc.lookup x=some i) (co x=true):=by
 cases t with
 |tup l=>injection h
 |var i=>replace h:=av h;obtain⟨x,h0,h⟩:=h;apply gj (bO h0);intro p;have h:(decide (sc.lookup x=some i)&&co x)=true:=h;simp only[P3,decide_eq_true_eq]at h;exact⟨i,x,p,rfl,rfl,h.1,h.2⟩def fS(ex:Expr):List Str:=oc (fc ex) (λx=>[x]) (oc (B6 ex) (λxs=>xs.filterMap fc) [])noncomputable def da:Tgt->List Nat
 |.var i=>[i]
 |.tup is=>is
def dE(sc:SC)(names:KS)(t:Tgt)(target:Expr):SC:=
 (fS target).zip (da t)++(names.filter λx=>decide (x.2=.free)).filterMap λx=>(sc.lookup x.1).map λi=>(x.1,i)
def Fu(ks:KS)(sc:SC)(scope:Scope)(t:Tgt)(target:Expr):Bool:=
 decide (scope.kind=.function)&&(scope.names.all λx=>match x.2 with
   |.local=>decide (scope.names.lookup x.1=some .local)
   |.free=>decide (scope.names.lookup x.1=some .free)&&decide (ks.lookup x.1=some .cell\/ks.lookup x.1=some .free)&&(sc.lookup x.1).isSome&&co x.1
   |.globalImplicit=>true
   |_=>false)&&
 ((fS target).all λx=>decide (scope.names.lookup x=some .local)&&co x)&&decide ((dE sc scope.names t target).map (·.2)).Nodup&&decide ((fS target).length=(da t).length)def kr(sc:SC):List Nat->List Expr->Bool
 |[],xs=>xs.isEmpty
 |i::l,xs=>ob (JD xs) λq=>ob (fc q.1) λx=>decide (sc.lookup x=some i)&&kr sc l (q.2)noncomputable def yS:Tgt->Bool
 |.tup _=>true
 |_=>(false)def o4(sc:SC):Tgt->Expr->Bool
 |.var i,ex=>ob (fc ex) λx=>decide (sc.lookup x=some i)
 |.tup l,ex=>ob (B6 ex) λxs=>kr sc l (xs)noncomputable def yV:It->Bool
 |.enum _=>true
 |_=>false
inductive InitX(h:Heap)(mN:Str->Option Value):Prop where
 |mk (f:Addr) (o:Obj) (fd:FuncData) (p0 p1 p2:Str) (n1 n2 n3 n4 n5 n6 n7 n8:Pos) (h1:mN "__init__"=some (.ref f)) (h2:h.get? f=some o) (h3:o.cls=.type "function") (h4:o.data=.func fd)
   (h5:fd.body=.stmts [.Assign [.Attribute (.Name p0 n1) j5 n2] (.Name p1 n3) n4,.Assign [.Attribute (.Name p0 n5) dG n6] (.Name p2 n7) n8]) (h6:fd.closure=[]) (h7:h.CodeRec fd.code fd.qualname) (h8:fd.scope.kind=.function/\fd.scope.isCoroutine=false/\fd.scope.isGenerator=false)
   (h9:∀a b c:Value,bindArgs fd ⟨[a,b,c],[]⟩=pure [(p0,a),(p1,b),(p2,c)]) (h10:∀p∈[p0,p1,p2],fd.scope.names.lookup p=some .local/\co p=true) (h11:p1≠p0/\p2≠p0/\p2≠p1):InitX h mN
variable {mN:Str->Option Value}
theorem InitX.keeps(X:InitX h mN)(hk:∀b o,h.get? b=some o->h'.get? b=some o):InitX h' mN:=by
 cases X with
 |mk f o fd p0 p1 p2 n1 n2 n3 n4 n5 n6 n7 n8 h1 h2 h3 h4 h5 h6 h7 h8 h9 h10 h11=>exact⟨f,o,fd,p0,p1,p2,n1,n2,n3,n4,n5,n6,n7,n8,h1,hk _ _ h2,h3,h4,h5,h6,h7.keeps hk,h8,h9,h10,h11⟩
section
variable (P:Nat->Option Fn)(gn:Nat->Str)
mutual
def mE(ks:KS)(sc:SC):E->Expr->Bool
 |.none=>λex=>ob (AK ex) λ_=>true
 |.bool b=>λex=>ob (I8 ex) λc=>b==c
 |.int i=>λex=>ob (Ni ex) λj=>decide (i=j)
 |.str x=>λex=>ob (Nf ex) λy=>decide (x=y)&&AI x
 |.var i=>λex=>ob (fc ex) λx=>decide (sc.lookup x=some i)&&co x
 |.glob g=>λex=>ob (fc ex) λx=>decide (x=gn g)&&rD ks x
 |.bin op _ a b=>λex=>ob (K5 ex) λq=>decide (My op=q.2.1)&&mE ks sc a q.1&&mE ks sc b q.2.2
 |.neg a=>λex=>ob (Nh ex) λx=>mE ks sc a x
 |.not a=>λex=>ob (Ng ex) λx=>mE ks sc a x
 |.bop k es=>λex=>ob (K3 ex) λq=>decide (q.1=if k then .And else .Or)&&rj ks sc es q.2
 |.cmp op a b=>λex=>ob (HH ex) λq=>ob (one q.2.1) λo=>ob (one q.2.2) λr=>decide (bW op=o)&&!behindInMarks o r&&mE ks sc a q.1&&mE ks sc b r
 |.cmp2 bD fW a b c=>λex=>ob (HH ex) λq=>ob (two q.2.1) λo=>ob (two q.2.2) λr=>decide (bW bD=o.1)&&decide (bW fW=o.2)&&!behindInMarks o.2 r.2&&mE ks sc a q.1&&mE ks sc b r.1&&mE ks sc c r.2
 |.ite c a b=>λex=>ob (Og ex) λq=>mE ks sc c q.1&&mE ks sc a q.2.1&&mE ks sc b q.2.2
 |.tup es=>λex=>ob (B6 ex) λxs=>rj ks sc es xs&&decide (xs.length<=1000)
 |.list _ es=>λex=>ob (EO ex) λxs=>rj ks sc es xs&&decide (xs.length<=1000)
 |.dict0=>λex=>ob (EQ ex) λq=>q.1.isEmpty&&q.2.isEmpty
 |.idx a i=>λex=>ob (B7 ex) λq=>wK q.2&&mE ks sc a q.1&&mE ks sc i q.2
 |.slc _ a lo hi=>λex=>ob (B7 ex) λq=>ob (HB q.2) λp=>p.2.2.isNone&&mE ks sc a q.1&&Az ks sc lo p.1&&Az ks sc hi p.2.1
 |.comp _ t it c e=>λex=>ob (ES ex) λq=>ob (one q.2.1) λg=>decide (g.is_async=0)&&(yS t||!yV it)&&MY ks sc it g.iter&&qS g.iter&&Fu ks sc q.2.2 t g.target&&o4 (dE sc q.2.2.names t g.target) t g.target&&
       decide (g.ifs.length<=1)&&Az q.2.2.names (dE sc q.2.2.names t g.target) c g.ifs.head?&&mE q.2.2.names (dE sc q.2.2.names t g.target) e q.1&&(P 0).isSome
 |.call f es=>λex=>ob (rL ex) λq=>decide ((P f).map (·.name)=some q.1)&&rD ks q.1&&rj ks sc es q.2
 |.bi b _ es=>λex=>ob (rL ex) λq=>decide (q.1=sk b)&&rD ks q.1&&(P 0).isSome&&(match O2 b with
     |some t=>ob (two q.2) λr=>ob (fc r.2) λz=>decide (z=mW t)&&rD ks z&&rj ks sc es [r.1]
     |none=>if O3 b then ob (one q.2) λr=>ob (rL r) λz=>decide (z.1=("set":Str))&&rD ks z.1&&fJ r&&rj ks sc es z.2 else b.plain&&rj ks sc es q.2)
 |.meth b o es=>λex=>ob (I7 ex) λq=>decide (q.2.1=rf b)&&b.done&&Ar q.1&&decide (q.2.2.2.1.length < 30)&&decide (q.2.2.1.endLine=q.2.2.2.2.line)&&mE ks sc o q.1&&rj ks sc es q.2.2.2.1
 |.freeze e=>λex=>mE ks sc e ex
 |.isx k e=>λex=>ob (rL ex) λq=>ob (two q.2) λr=>ob (fc r.2) λz=>decide (q.1=("isinstance":Str))&&rD ks q.1&&decide (z=j6 k)&&rD ks z&&decide (k<=7)&&fJ r.1&&mE ks sc e (r.1)def rj(ks:KS)(sc:SC):EL->List Expr->Bool
 |.nil=>λxs=>xs.isEmpty
 |.cons e es=>λxs=>ob (JD xs) λq=>fJ q.1&&mE ks sc e q.1&&rj ks sc es (q.2)def Az(ks:KS)(sc:SC):EL->Option Expr->Bool
 |.nil=>λx=>x.isNone
 |.cons e _=>λx=>ob x λx=>mE ks sc e (x)def MY(ks:KS)(sc:SC):It->Expr->Bool
 |.seq e=>λex=>mE ks sc e ex
 |.range e=>λex=>ob (rL ex) λq=>ob (one q.2) λa=>decide (q.1=("range":Str))&&rD ks q.1&&fJ a&&mE ks sc e a
 |.range2 y7 lQ=>λex=>ob (rL ex) λq=>ob (two q.2) λa=>decide (q.1=("range":Str))&&rD ks q.1&&fJ a.1&&mE ks sc y7 a.1&&fJ a.2&&mE ks sc lQ a.2
 |.enum e=>λex=>ob (rL ex) λq=>ob (one q.2) λa=>decide (q.1=("enumerate":Str))&&rD ks q.1&&fJ a&&mE ks sc e a
end
end
variable {P:Nat->Option Fn}{gn:Nat->Str}theorem ll(h:rj P gn ks sc .nil xs=true):xs=[]:=gc (h)variable {e:E}{es:EL}theorem fY(h:rj P gn ks sc (.cons e es) xs=true):X2 λy ys=>A4 (xs=y::ys) (fJ y=true) (mE P gn ks sc e y=true) (rj P gn ks sc es ys=true):=by refine kk λUc k=>?_;replace h:=av h;obtain⟨⟨y,ys⟩,h1,h⟩:=h;have h:(fJ y&&mE P gn ks sc e y&&rj P gn ks sc es ys)=true:=h;simp only[P3]at h;refine k ?_;exact⟨y,ys,oq h1,h.1.1,h.1.2,h.2⟩
structure BiOk(Z:Cx):Prop where
 free:∀b:Bi,Z.mg (sk b)=none/\Z.mb (sk b)=some (ua b)
 ty:∀t:Ty,Z.mg (mW t)=none/\Z.mb (mW t)=some (.type (ui t))
 range:Z.mg "range"=none/\Z.mb "range"=some (.type "range")
 enum:Z.mg "enumerate"=none/\Z.mb "enumerate"=some (.type "enumerate")
 set:Z.mg "set"=none/\Z.mb "set"=some (.type "set")
inductive XAt(h:Heap)(k:Nat):Prop where
 |mk (nm q:Str) (N:Addr) (bs:List Value) (hdct:Bool) (sn:List Str) (sub:List Value) (ab:Bool) (col:Option Bool) (dd:Option Addr) (k0 k1 k2 k3 k5:Option Value) (mN:Str->Option Value) (h1:h.get? (KA k)=some (excClassObj nm q (KA k) N bs (d7 k) hdct sn sub ab col dd k0 k1 k2 k3 k5 "ValueError.__new__"))
   (h2:h.Ns N mN) (h3:∀n∈fh,mN n=none) (h4:k<=5->mN "__init__"=none) (h5:k=6->hdct=true/\InitX h mN):XAt h k
structure XOk(Z:Cx):Prop where
 own:∀k,k<=6->Z.mg (j6 k)=some (.ref (KA k))/\XAt Z.h₀ k
 inj:∀i j,i<=6->j<=6->KA i=KA j->i=j
 ve:Z.mg "ValueError"=none/\Z.mb "ValueError"=some (.type "ValueError")def NS(Z:Cx)(cf:CF)(d f:Nat)(fn:Fn)(q:Bool):Prop:=X3 λa o fd=>A4 (Z.mg fn.name=some (.ref a)) (Z.h₀.get? a=some o) (o.data=.func fd) (∀A Y U s vs xs,lS { Z with q:=q } d A->gk Z Y s.heap->Inv Z Y U s.heap->eY Y U s.heap vs xs->LM Z A (call (.ref a) vs) (cf f xs U) Y U s)
structure Wd(Z:Cx)(P:Nat->Option Fn)(gn:Nat->Str)(G:GD)(cf:CF)(d:Nat):Prop where
 w:World0 Z
 y:CO Z
 b:BiOk Z
 g:∀k x,G k=some x->∃v,Z.mg (gn k)=some v/\∀T h,Rel T h v x
 c:∀f fn,P f=some fn->NS Z cf d f fn Z.q
 q:(P 0).isSome=true->Z.q=false
 x:XOk Z
 /-- what may be called while an exception is handled -/
 k:∀f fn,P f=some fn->fn.name=("_law_kind":Str)->NS Z cf d f fn true
abbrev TR:Bool->Bool->List Addr->ac->Heap->Prop:=λa b _ _ _=>a=b
def mT(r:Res V):Res Bool:=r.bind λv U=>bv (truthy U v) (U)variable {a:E}{vs:List Value}{d:Nat}{r:Res V}{t:Sem Value}{Q:VP}{u:Value}{R:Value->V->List Addr->ac->Heap->Prop}{c:γ}
section
def ir(Z:Cx)(A:Around)(env:Env)(ex:Expr)(r:Res V)(Y:List Addr)(U:ac)(s:Shared):Prop:=
 Ev Z cz A (eval ex env) r VR Y U s/\Ev Z cz A (isTrue ex env (eval ex env)) (mT r) TR Y U s
def PE(Z:Cx)(P:Nat->Option Fn)(gn:Nat->Str)(G:GD)(cf:CF)(d:Nat)(e:E):Prop:=
 ∀ks sc ex env K A Y U s,mE P gn ks sc e ex=true->lS Z d A->FrameOk Z env ks sc K Y U s.heap->Inv Z Y U s.heap->ir Z A env ex (af G cf e K U) Y U s
def CP(Z:Cx)(P:Nat->Option Fn)(gn:Nat->Str)(G:GD)(cf:CF)(d:Nat)(es:EL):Prop:=
 (∀ks sc xs env K A Y U s,rj P gn ks sc es xs=true->lS Z d A->FrameOk Z env ks sc K Y U s.heap->Inv Z Y U s.heap->Ev Z cz A (spliced (starEach xs env)) (aU G cf es K U) OB Y U s)/\
 (∀k pos ks sc xs env K A Y U s,rj P gn ks sc es xs=true->lS Z d A->FrameOk Z env ks sc K Y U s.heap->Inv Z Y U s.heap->
   Ev Z cz A (boolOp pos (if k then .And else .Or) (evalEach xs env)) (iE G cf k es K U) VR Y U s/\Ev Z cz A (allTrue (if k then .And else .Or) xs env) (mT (iE G cf k es K U)) TR Y U s)
def Ir(Z:Cx)(P:Nat->Option Fn)(gn:Nat->Str)(G:GD)(cf:CF)(d:Nat)(e:EL):Prop:=
 (∀ks sc ex env K A Y U s,Az P gn ks sc e ex=true->lS Z d A->FrameOk Z env ks sc K Y U s.heap->Inv Z Y U s.heap->Ev Z cz A (valueOrNone (evalOpt ex env)) (dD G cf e K U) LV Y U s)/\
 (∀ks sc ex env K A Y U s,Az P gn ks sc e (some ex)=true->lS Z d A->FrameOk Z env ks sc K Y U s.heap->Inv Z Y U s.heap->∃e' r,e=.cons e' r/\ir Z A env ex (af G cf e' K U) Y U s)
def LH(Z:Cx)(P:Nat->Option Fn)(gn:Nat->Str)(G:GD)(cf:CF)(d:Nat)(it:It):Prop:=
 ∀ks sc ex env K A Y U s I aa,MY P gn ks sc it ex=true->lS Z d A->A.handled=none->FrameOk Z env ks sc K Y U s.heap->Inv Z Y U s.heap->cA G cf it K U=.ok I aa->
   WP Z A (eval ex env) (λx ai=>WP Z A (pyIter x) (λitv aq=>ItPost Z A (yV it) I Y U s aa itv aq) (λ_ _=>False) ai) (λ_ _=>False) s
variable {ex:Expr}theorem Step.toks{tk:Nat}(S:Step O Y U s β' σ' s'):Step O Y U s β' σ' { s' with toks:=tk }:=⟨S.ext,S.mono,S.keepW,S.alive,S.gens,S.os⟩
theorem yh(h:mT r=.ok b σ'):∃v,r=.ok v σ'/\truthy σ' v=some b:=by
 cases r with
 |bad=>injection h
 |ok v aa=>
   have h:bv (truthy aa v) aa=.ok b σ':=h;cases ht:truthy aa v with
   |none=>rw[ht]at h;injection h
   |some b'=>rw[ht]at h;injection h with e f;subst e;subst f;exact⟨v,rfl,ht⟩theorem je(a:Res γ)(f:γ->ac->Res V):mT (a.bind f)=a.bind λx U=>mT (f x U):=by cases a<;>rfl
theorem wb(o:Option Bool)(U:ac):mT (bv (o.map λb=>V.d (.bool b)) U)=(bv o U).bind λb U=>.ok b U:=by cases o<;>rfl
theorem Gq(t:Bool)(a b:Res V):mT (if t then a else b)=if t then mT a else mT b:=by cases t<;>rfl
theorem tY(op:COp)(a b:E)(K:Fm)(U:ac):af G cf (.cmp op a b) K U=(af G cf a K U).bind λx aa=>(af G cf b K aa).bind λy ae=>bv ((bC op x y ae).map λb=>V.d (.bool b)) ae:=(rfl)theorem rT(bD fW:COp)(a b c:E)(K:Fm)(U:ac):af G cf (.cmp2 bD fW a b c) K U=(af G cf a K U).bind λx aa=>(af G cf b K aa).bind λy ae=>(bv (bC bD x y ae) ae).bind λt ae=>if t then (af G cf c K ae).bind λz aF=>bv ((bC fW y z aF).map λb=>V.d (.bool b)) aF else .ok (.d (.bool false)) ae:=(rfl)theorem C7(h:Ev Z O A t r VR Y U s):∀b σ',mT r=.ok b σ'->WP Z A t (λv ai=>WP Z A (PySem.truthy v) (λa s'=>Po Z O Y U s σ' s' λβ'=>a=b) (λ_ _=>False) ai) (λ_ _=>False) s:=by intro b σ' e;refine kk λUc kz=>?_;obtain⟨v,rfl,hb⟩:=yh e;refine kz ?_;refine PO (h v σ' rfl) (λw ai ⟨ag,S,I,q⟩=>?_) λ_ _ x=>x;exact jz I q hb λtk=>⟨ag,S.toks,I,rfl⟩theorem ir.plain(hp:isTrue ex env (eval ex env)=(do let v <- eval ex env;standAt ex.pos;holding [v] (PySem.truthy v)))(h:Ev Z cz A (eval ex env) r VR Y U s):ir Z A env ex r Y U s:=by refine⟨h,λb σ' e=>?_⟩;exact hp▸(OJ (PO (C7 h b σ' e) (λv ai bj=>OJ (Qy (QR bj))) λ_ _ x=>x))
theorem jm{f:B->γ}(h:bv (o.map f) U=.ok c σ'):∃a,A3 (o=some a) (c=f a) (σ'=U):=by
 cases o with
 |none=>injection h
 |some a=>injection h with e f;subst e;subst f;exact⟨a,rfl,rfl,rfl⟩theorem uU{f:B->γ}{P:γ->ac->Prop}(h:bv (o.map f) U=.ok c σ')(k:∀a,o=some a->P (f a) U):P c σ':=by obtain⟨a,e,e1,e2⟩:=jm h;exact e1▸e2▸k a e
theorem AB{c:B}(h:bv o U=.ok c σ'):o=some c/\σ'=U:=by
 cases o with
 |none=>injection h
 |some a=>injection h with e f;subst e;subst f;exact⟨rfl,rfl⟩
theorem Ka:PE Z P gn G cf d .none:=λks sc ex env K A Y U s hm hA F I=>by
 replace hm:=av hm;obtain⟨_,h0,hm⟩:=hm;apply y9 (xh h0);intro _ _
 . exact ir.plain rfl (Ev.grown I (wpAny_Constant_none ⟨λ_ _ e=>e,rfl,rfl,.none⟩))
theorem Kl(b:Bool):PE Z P gn G cf d (.bool b):=λks sc ex env K A Y U s hm hA F I=>by
 replace hm:=av hm;obtain⟨c,h0,hm⟩:=hm;apply y9 (ET h0);intro _ _
 . have:=eq_of_beq hm;subst this;exact ir.plain rfl (Ev.grown I (wpAny_Constant_bool ⟨λ_ _ e=>e,rfl,rfl,.bool _⟩))
theorem MK(i:Int):PE Z P gn G cf d (.int i):=λks sc ex env K A Y U s hm hA F I=>by
 replace hm:=av hm;obtain⟨c,h0,hm⟩:=hm;obtain⟨_,_,rfl⟩:=HE h0
 . have:=of_decide_eq_true hm;subst this;exact ir.plain rfl (Ev.grown I (wpAny_Constant_int ⟨λ_ _ e=>e,rfl,rfl,.int _ _⟩))theorem xe(h:AI x=true):cY x:=by simp only[AI,P3,decide_eq_true_eq]at h;exact h
theorem MC(x:Str):PE Z P gn G cf d (.str x):=λks sc ex env K A Y U s hm hA F I=>by
 replace hm:=av hm;obtain⟨c,h0,hm⟩:=hm;obtain⟨_,_,rfl⟩:=Hz h0
 . simp only[P3,decide_eq_true_eq]at hm;obtain⟨rfl,hg⟩:=hm;exact ir.plain rfl (Ev.grown I (wpAny_Constant_str ⟨λ_ _ e=>e,rfl,rfl,.str _ _ (xe hg)⟩))theorem cV (h:co x=true):(x==("__debug__":Str))=false/\(x==("__classdict__":Str))=false:=by simpa only[co,P3,QB] using h
theorem MA(i:Nat):PE Z P gn G cf d (.var i):=λks sc ex env K A Y U s hm hA F I=>by
 replace hm:=av hm;obtain⟨x,h0,hm⟩:=hm;apply gj (bO h0);intro pos
 . skip
   simp only[P3,decide_eq_true_eq]at hm;refine ir.plain rfl λc σ' e=>?_;rw[Fh]at e;obtain⟨hv,hu,rfl⟩:=Hg e;exact wpAny_Name (F.load hm.1 hv (λq=>hu q) λw hw=>⟨Y,Step.refl,I,hw⟩) (cV hm.2).1
theorem Eu (F:FrameOk Z env ks sc K Y U h) (hg:rD ks x=true):env.kindOf x=some .globalImplicit/\(x==("__debug__":Str))=false:=by
 simp only[rD,P3,decide_eq_true_eq]at hg;refine⟨?_,(cV hg.2).1⟩;rcases F.kinds x _ hg.1 with h|⟨h,_⟩
 . exact h
 . injection h
theorem jL{E:VP}(D:Wd Z P gn G cf d)(F:FrameOk Z env ks sc K Y U s.heap)(I:Inv Z Y U s.heap)(hg:rD ks x=true)(hv:Z.mg x=some v)(q:Q v s) :
   WP Z A (eval (.Name x pos) env) Q E s:=by
 refine(Eu F hg).elim λh1 h2=>?_;obtain⟨k1,k2,k3⟩:=D.w.keeps I;exact Name_function_global F.kind h1 (loadGlobal_global (by rw[F.globals];exact k1) hv q) h2
theorem fK{E:VP}(D:Wd Z P gn G cf d)(F:FrameOk Z env ks sc K Y U s.heap)(I:Inv Z Y U s.heap)(hg:rD ks x=true)(hn:Z.mg x=none)(hv:Z.mb x=some v)(q:Q v s) :
   WP Z A (eval (.Name x pos) env) Q E s:=by
 refine(Eu F hg).elim λh1 h2=>?_;obtain⟨k1,k2,k3⟩:=D.w.keeps I;exact Name_function_global F.kind h1 (loadGlobal_builtin (by rw[F.globals];exact k1) hn (by rw[F.builtins];exact k2) hv q) h2
theorem Kf(D:Wd Z P gn G cf d)(g:Nat):PE Z P gn G cf d (.glob g):=λks sc ex env K A Y U s hm hA F I=>by
 replace hm:=av hm;obtain⟨x,h0,hm⟩:=hm;apply gj (bO h0);intro pos
 . skip
   simp only[P3,decide_eq_true_eq]at hm;obtain⟨rfl,hg⟩:=hm;refine ir.plain rfl λc σ' e=>?_;rw[H5]at e;apply uU e;intro x hx;obtain⟨w,h1,h2⟩:=D.g g x hx;exact jL D F I hg h1 ⟨Y,Step.refl,I,h2 _ _⟩theorem Ev.operate(h:Ev Z O A t r R Y U s):Ev Z O A (operate vs t) r R Y U s:=λc σ' e=>wpAny_operating (h c σ' e)
theorem MO{op:BOp}{m:Bool}{b:E}(ha:PE Z P gn G cf d a)(hb:PE Z P gn G cf d b):PE Z P gn G cf d (.bin op m a b):=λks sc ex env K A Y U s hm hA F I=>by
 replace hm:=av hm;obtain⟨⟨l,o,r⟩,h0,hm⟩:=hm;apply gj (HJ h0);intro pos
 . skip
   simp only[P3,decide_eq_true_eq]at hm;obtain⟨⟨rfl,h1⟩,h2⟩:=hm;refine ir.plain rfl ?_;rw[arm_eval_BinOp];rw[Ln];refine Ev.bind (ha ks sc l env K A Y U s h1 hA F I).1 λv x ag aa ai aH ay rx _=>?_;refine Ev.bind (Ev.holding (hb ks sc r env K A ag aa ai h2 hA (F.step aH) ay).1) λu y a5 ae aq cC cD ry _=>?_;exact Ev.standAt (Ev.operate (zD cD (cC.vrel0 rx) ry))
theorem MH(ha:PE Z P gn G cf d a):PE Z P gn G cf d (.neg a):=λks sc ex env K A Y U s hm hA F I=>by
 replace hm:=av hm;obtain⟨x,h0,hm⟩:=hm;apply gj (HD h0);intro pos
 . skip
   refine ir.plain rfl ?_;rw[arm_eval_UnaryOp];rw[Ll];refine Ev.bind (ha ks sc x env K A Y U s hm hA F I).1 λv x ag aa ai aH ay rx _=>?_;refine Ev.standAt (Ev.holding ?_);refine aY (λi hi=>?_) Ev.bad;rw[c6 hi]at rx;apply gj (mV rx);intro t;exact cc ay (PyProof.Rows.neg_int ⟨⟨_,_,rfl⟩,.int _ _⟩)
theorem MF(ha:PE Z P gn G cf d a):PE Z P gn G cf d (.not a):=λks sc ex env K A Y U s hm hA F I=>by
 replace hm:=av hm;obtain⟨x,h0,hm⟩:=hm;apply gj (HC h0);intro pos
 . skip
   have hx:=ha ks sc x env K A Y U s hm hA F I;constructor
   . rw[arm_eval_UnaryOp];rw[Fi];refine Ev.bind hx.1 λv x ag aa ai aH ay rx _=>?_;refine Ev.standAt (Ev.holding λc σ' e=>?_);apply uU e;intro b hb;exact not_value (jz ay rx hb λtk=>⟨ag,Step.refl.toks,ay,.bool _⟩)
   . intro c σ' e;refine wpAny_isTrue_Not ?_;rw[Fi]at e;replace e:=yh e;obtain⟨v,e,hc⟩:=e;cases h:af G cf a K U with
     |bad=>rw[h]at e;injection e
     |ok w aa=>rw[h]at e;obtain⟨b,hb,rfl,rfl⟩:=jm e;injection hc with e;subst e;refine PO (hx.2 b σ' (by rw[h];exact congrArg (λo=>bv o σ') hb)) (λa s' ⟨β',S,I',q⟩=>⟨β',S,I',by exact congrArg _ q⟩) λ_ _ x=>x
theorem MI{c b:E}(hc:PE Z P gn G cf d c)(ha:PE Z P gn G cf d a)(hb:PE Z P gn G cf d b):PE Z P gn G cf d (.ite c a b):=λks sc ex env K A Y U s hm hA F I=>by
 replace hm:=av hm;obtain⟨⟨t,x,y⟩,h0,hm⟩:=hm;apply gj (KZ h0);intro pos
 . skip
   simp only[P3]at hm;obtain⟨⟨h1,h2⟩,h3⟩:=hm;have ht:=(hc ks sc t env K A Y U s h1 hA F I).2;have ev:af G cf (.ite c a b) K U=(mT (af G cf c K U)).bind λt aa=>if t then af G cf a K aa else af G cf b K aa:=by have ev0:af G cf (.ite c a b) K U=(af G cf c K U).bind (λx aa=>(bv (truthy aa x) aa).bind λt aa=>if t then af G cf a K aa else af G cf b K aa):=rfl;rw[ev0];unfold mT;cases af G cf c K U<;>rfl
   constructor
   . rw[ev,arm_eval_IfExp];refine Ev.bind ht λv w ag aa ai aH ay rx _=>?_;subst rx;cases v with
     |true=>exact(ha ks sc x env K A ag aa ai h2 hA (F.step aH) ay).1
     |false=>exact(hb ks sc y env K A ag aa ai h3 hA (F.step aH) ay).1
   . have ev':mT (af G cf (.ite c a b) K U)=(mT (af G cf c K U)).bind λt aa=>if t then mT (af G cf a K aa) else mT (af G cf b K aa):=by
       rw[ev];cases mT (af G cf c K U) with
       |bad=>rfl
       |ok t aa=>cases t<;>rfl
     rw[ev',arm_isTrue_IfExp];refine Ev.bind ht λv w ag aa ai aH ay rx _=>?_;subst rx;cases v with
     |true=>exact(ha ks sc x env K A ag aa ai h2 hA (F.step aH) ay).2
     |false=>exact(hb ks sc y env K A ag aa ai h3 hA (F.step aH) ay).2
theorem rY(D:Wd Z P gn G cf d){x:V}(hA:lS Z d A)(I:Inv Z Y U s.heap)(rx:aE Y U s.heap v x)(ry:aE Y U s.heap u y) :
   Ev Z O A (compareOp (bW op) v u) (bv (bC op x y U) U) (λw b _ _ _=>w=.bool b) Y U s:=λc σ' e=>by
 obtain⟨hb,rfl⟩:=AB e;exact zh D.y I hA.room rx ry hb λtk=>⟨Y,Step.refl.toks,I,rfl⟩theorem kb(I:Inv Z Y U s.heap):Ev Z O A (holding vs (PySem.truthy (.bool b))) (.ok b U) TR Y U s:=Ev.holding (Ev.done (wpAny_truthy_bool ⟨Y,Step.refl,I,rfl⟩))
theorem MM(D:Wd Z P gn G cf d){b:E}(ha:PE Z P gn G cf d a)(hb:PE Z P gn G cf d b):PE Z P gn G cf d (.cmp op a b):=λks sc ex env K A Y U s hm hA F I=>by
 replace hm:=av hm;obtain⟨⟨l,os,rs⟩,h0,hm⟩:=hm;apply gj (vg h0);intro pos;replace hm:=av hm;obtain⟨o,k1,hm⟩:=hm;replace hm:=av hm;obtain⟨r,k2,hm⟩:=hm;apply iY (dC k1:os=[o]);apply iY (dC k2:rs=[r])
 . obtain⟨ho,hk,h1,h2⟩:=sA hm;replace hk:=wJ hk;replace ho:=of_decide_eq_true ho;rw[<- ho]at hk;apply iY ho.symm;clear hm ho k1 k2 h0;have pre:∀{B γ:Type} {k:Value->Value->Sem B} {q:V->V->ac->Res γ} {R:B->γ->List Addr->ac->Heap->Prop},(∀v u x y Y U s,Inv Z Y U s.heap->aE Y U s.heap v x->aE Y U s.heap u y->Ev Z cz A (k v u) (q x y U) R Y U s)->
       Ev Z cz A (eval l env >>= λv=>holding [v] (eval r env) >>= λu=>standAt pos >>= λ_=>k v u) ((af G cf a K U).bind λx aa=>(af G cf b K aa).bind λy ae=>q x y ae) R Y U s:=λhk=>by
     refine Ev.bind (ha ks sc l env K A Y U s h1 hA F I).1 λv x ag aa ai aH ay rx _=>?_;refine Ev.bind (Ev.holding (hb ks sc r env K A ag aa ai h2 hA (F.step aH) ay).1) λu y a5 ae aq cC cD ry _=>?_;exact Ev.standAt (hk v u x y a5 ae aq cD (cC.vrel0 rx) ry)
   constructor
   . have e1:eval (.Compare l [bW op] [r] pos) env=(eval l env >>= λv=>holding [v] (eval r env) >>= λu=>standAt pos >>= λ_=>operate [v,u] (compareOp (bW op) v u)):=by rw[eval_Compare1,markedBehindIn_of_false hk]
     rw[e1];rw[tY];refine pre λv u x y Y U s I rx ry=>Ev.operate λc σ' e=>?_;obtain⟨b,hb,rfl,rfl⟩:=jm e;exact PO (rY D hA I rx ry b σ' (by rw[hb];rfl)) (λw s' ⟨β',S,I',q⟩=>⟨β',S,I',by rw[q];exact .bool _⟩) λ_ _ x=>x
   . have e1:isTrue (.Compare l [bW op] [r] pos) env (eval (.Compare l [bW op] [r] pos) env)=(eval l env >>= λv=>holding [v] (eval r env) >>= λu=>standAt pos >>= λ_=>operate [v,u] (compareOp (bW op) v u) >>= λc=>holding [c] (PySem.truthy c)):=by rw[arm_isTrue_Compare];show (do testChain pos (<- eval l env) [bW op] [markedBehindIn (bW op) r (eval r env)])=_;rw[markedBehindIn_of_false hk];rfl
     have e2:mT (af G cf (.cmp op a b) K U)=(af G cf a K U).bind λx aa=>(af G cf b K aa).bind λy ae=>(bv (bC op x y ae) ae).bind λb ae=>.ok b ae:=by rw[tY,je];refine congrArg _ (funext λx=>funext λaa=>?_);rw[je];refine congrArg _ (funext λy=>funext λae=>?_);exact wb _ _
     rw[e1,e2];refine pre λv u x y Y U s I rx ry=>?_;refine Ev.bind (R:=λw b _ _ _=>w=.bool b) (λc σ' e=>wpAny_operating (rY D hA I rx ry c σ' e)) λw b ag aa ai aH ay q _=>?_;subst q;exact kb ay
theorem Kj(D:Wd Z P gn G cf d){bD fW:COp}{b c:E}(ha:PE Z P gn G cf d a)(hb:PE Z P gn G cf d b)(hc:PE Z P gn G cf d c):PE Z P gn G cf d (.cmp2 bD fW a b c):=λks sc ex env K A Y U s hm hA F I=>by
 replace hm:=av hm;obtain⟨⟨l,os,rs⟩,h0,hm⟩:=hm;apply gj (vg h0);intro pos;refine kk λUc kz=>?_;replace hm:=av hm;obtain⟨⟨Mt,J0⟩,k1,hm⟩:=hm;replace hm:=av hm;obtain⟨⟨m,r⟩,k2,hm⟩:=hm;refine kz ?_;apply iY (jx k1:os=[Mt,J0]);apply iY (jx k2:rs=[m,r])
 . obtain⟨ho,ho',hk,h1,h2,h3⟩:=zH hm;replace hk:=wJ hk;replace ho:=of_decide_eq_true ho;replace ho':=of_decide_eq_true ho';rw[<- (ho':bW fW=J0)]at hk;apply iY (show Mt=bW bD from ho.symm);apply iY (show J0=bW fW from ho'.symm);clear hm ho ho' k1 k2 h0;have pre:∀{B γ:Type} {k:Value->Value->Sem B} {stop:Value->Sem B} {q:V->V->ac->Res γ} {z:ac->Res γ} {R:B->γ->List Addr->ac->Heap->Prop},(∀v u x y Y U s,Inv Z Y U s.heap->aE Y U s.heap v x->aE Y U s.heap u y->Ev Z cz A (k v u) (q x y U) R Y U s)->
       (∀Y U s,Inv Z Y U s.heap->Ev Z cz A (stop (.bool false)) (z U) R Y U s)->
       Ev Z cz A (eval l env >>= λv=>holding [v] (eval m env) >>= λu=>standAt pos >>= λ_=>holding [v,u] (compareOp (bW bD) v u) >>= λc=>release [v,u] [c] >>= λ_=>holding [c,u] (PySem.truthy c) >>= λt=>if t=true then (holding [u] (eval r env) >>= λw=>standAt pos >>= λ_=>k u w) else stop c)
         ((af G cf a K U).bind λx aa=>(af G cf b K aa).bind λy ae=>(bv (bC bD x y ae) ae).bind λt ae=>if t then (af G cf c K ae).bind λw aF=>q y w aF else z ae) R Y U s:=λhk hs=>by
     refine Ev.bind (ha ks sc l env K A Y U s h1 hA F I).1 λv x ag aa ai aH ay rx _=>?_;refine Ev.bind (Ev.holding (hb ks sc m env K A ag aa ai h2 hA (F.step aH) ay).1) λu y a5 ae aq cC cD ry _=>?_;refine Ev.standAt (Ev.bind (Ev.holding (rY D hA cD (cC.vrel0 rx) ry)) λw t vQ aF aW vF CJ q _=>?_);subst q;refine λc' σ' e=>OJ (wpAny_release (OJ (QR (wpAny_truthy_bool ?_))));cases t with
     |false=>exact hs vQ aF aW CJ c' σ' (by rw[if_neg (by simp)]at e;exact e)
     |true=>rw[if_pos rfl]at e;rw[if_pos rfl];refine(Ev.bind (Ev.holding (hc ks sc r env K A vQ aF aW h3 hA ((F.step aH).step (cC.trans vF)) CJ).1) λw z mU LW gm CH F1 rz _=>?_) c' σ' e;exact Ev.standAt (hk u w y z mU LW gm F1 ((vF.trans CH).vrel0 ry) rz)
   constructor
   . have e1:eval (.Compare l [bW bD,bW fW] [m,r] pos) env=(eval l env >>= λv=>holding [v] (eval m env) >>= λu=>standAt pos >>= λ_=>holding [v,u] (compareOp (bW bD) v u) >>= λc=>release [v,u] [c] >>= λ_=>holding [c,u] (PySem.truthy c) >>= λt=>if t=true then (holding [u] (eval r env) >>= λw=>standAt pos >>= λ_=>operate [u,w] (compareOp (bW fW) u w)) else pure c):=by rw[arm_eval_Compare];show (do compareChain pos (<- eval l env) [bW bD,bW fW] [eval m env,markedBehindIn (bW fW) r (eval r env)])=_;rw[markedBehindIn_of_false hk];rfl
     rw[e1];rw[rT];refine pre (λv u x y Y U s I rx ry=>Ev.operate λc σ' e=>?_) λY U s I=>Ev.pure I (.bool _);obtain⟨b,hb,rfl,rfl⟩:=jm e;exact PO (rY D hA I rx ry b σ' (by rw[hb];rfl)) (λw s' ⟨β',S,I',q⟩=>⟨β',S,I',by rw[q];exact .bool _⟩) λ_ _ x=>x
   . have e1:isTrue (.Compare l [bW bD,bW fW] [m,r] pos) env (eval (.Compare l [bW bD,bW fW] [m,r] pos) env)=(eval l env >>= λv=>holding [v] (eval m env) >>= λu=>standAt pos >>= λ_=>holding [v,u] (compareOp (bW bD) v u) >>= λc=>release [v,u] [c] >>= λ_=>holding [c,u] (PySem.truthy c) >>= λt=>if t=true then (holding [u] (eval r env) >>= λw=>standAt pos >>= λ_=>operate [u,w] (compareOp (bW fW) u w) >>= λc=>holding [c] (PySem.truthy c)) else pure false):=by rw[arm_isTrue_Compare];show (do testChain pos (<- eval l env) [bW bD,bW fW] [eval m env,markedBehindIn (bW fW) r (eval r env)])=_;rw[markedBehindIn_of_false hk];rfl
     have e2:mT (af G cf (.cmp2 bD fW a b c) K U)=(af G cf a K U).bind λx aa=>(af G cf b K aa).bind λy ae=>(bv (bC bD x y ae) ae).bind λt ae=>if t then (af G cf c K ae).bind λw aF=>(bv (bC fW y w aF) aF).bind λb aF=>.ok b aF else .ok false ae:=by
       rw[rT,je];refine congrArg _ (funext λx=>funext λaa=>?_);rw[je];refine congrArg _ (funext λy=>funext λae=>?_);rw[je];refine congrArg _ (funext λt=>funext λaF=>?_);rw[Gq];cases t with
       |false=>rfl
       |true=>rw[if_pos rfl,if_pos rfl,je];refine congrArg _ (funext λw=>funext λOJ=>?_);exact wb _ _
     rw[e1,e2];refine pre (λv u x y Y U s I rx ry=>?_) λY U s I=>Ev.pure I rfl;refine Ev.bind (R:=λw b _ _ _=>w=.bool b) (λc σ' e=>wpAny_operating (rY D hA I rx ry c σ' e)) λw b ag aa ai aH ay q _=>?_;subst q;exact kb ay
end
variable {l:List PyData}{vs:List V}{ws:List Value}{r1:Res Bool}{k:ac->Res (List V)}{r2:ac->Res Bool}
section
variable {ex:Expr}
theorem Res.bind_ok{r:Res B}{f:B->ac->Res γ}(h:r.bind f=.ok c σ'):X2 λa aa=>r=.ok a aa/\f a aa=.ok c σ':=by
 cases r with
 |bad=>injection h
 |ok a aa=>exact⟨a,aa,rfl,h⟩theorem bc{x:Expr}(xs:List Expr)(h:fJ x=true):starEach (x::xs) env=(false,eval x env)::starEach xs env:=by cases x<;>first|rfl|injection h
theorem Ev.consVR{x:Sem Value}{rest:List (Bool×Sem Value)}(h:Ev Z cz A x r VR Y U s)
   (hk:∀v c β' σ' s',Step cz Y U s β' σ' s'->Inv Z β' σ' s'.heap->aE β' σ' s'.heap v c->Ev Z cz A (spliced rest) (k σ') OB β' σ' s') :
   Ev Z cz A (spliced ((false,x)::rest)) (r.bind λv aa=>(k aa).bind λvs ae=>.ok (v::vs) ae) OB Y U s:=λc σ' e=>by
 cases r with
 |bad=>injection e
 |ok v aa=>
   refine spliced_cons (PO (h v aa rfl) (λa ai ⟨ag,aH,ay,BH⟩=>?_) λ_ _ x=>x);have e:((k aa).bind λvs ae=>Res.ok (v::vs) ae)=.ok c σ':=e;cases hr:k aa with
   |bad=>rw[hr]at e;cases (e)
   |ok vs ae=>rw[hr]at e;cases (e);refine PO (hk a v ag aa ai aH ay BH vs σ' hr) (λas aq ⟨a5,cC,cD,yx⟩=>?_) λ_ _ x=>x;exact⟨a5,aH.trans cC,cD,.cons (cC.vrel0 BH) yx⟩
theorem eV{pos:Pos}:∀{es:EL} {xs:List Expr},rj P gn ks sc es xs=true->backTo pos (starEach xs env)=starEach xs env/\(starEach xs env).any (·.1)=false
 |.nil,xs,h=>by replace h:=ll h;subst h;exact⟨rfl,rfl⟩
 |.cons e es,xs,h=>by
   replace h:=fY h;obtain⟨x,xs,rfl,h1,h2,h3⟩:=h;have ih:=eV (pos:=pos) h3;rw[bc _ h1];refine⟨?_,?_⟩
   . show (false,eval x env)::backTo pos (starEach xs env)=_;rw[ih.1]
   . simp only[RJ,SM];exact ih.2
theorem lA:∀{es:EL} {xs:List Expr} {K:Fm} {U σ':ac} {vs:List V},rj P gn ks sc es xs=true->aU G cf es K U=.ok vs σ'->vs.length=xs.length
 |.nil,xs,K,U,σ',vs,h,e=>by replace h:=ll h;subst h;rw[Ff]at e;injection e with e f;subst e;subst f;rfl
 |.cons e es,xs,K,U,σ',vs,h,ev=>by replace h:=fY h;obtain⟨x,xs,rfl,_,_,h⟩:=h;rw[H2]at ev;replace ev:=Res.bind_ok ev;obtain⟨v,aa,h1,ev⟩:=ev;replace ev:=Res.bind_ok ev;obtain⟨ws,ae,h2,ev⟩:=ev;injection ev with e f;subst e;subst f;rw[PX,PX,lA h h2]
theorem MG:CP Z P gn G cf d .nil:=by
 constructor
 . intro ks sc xs env K A Y U s hm hA F I;replace h:=ll hm;subst h;exact Ev.pure I .nil
 . intro k pos ks sc xs env K A Y U s hm hA F I;exact⟨Ev.bad,Ev.bad⟩theorem Cc(k:Bool)(e:E)(K:Fm)(U:ac):iE G cf k (.cons e .nil) K U=af G cf e K U:=(rfl)theorem rU(k:Bool)(e e':E)(es:EL)(K:Fm)(U:ac):iE G cf k (.cons e (.cons e' es)) K U=(af G cf e K U).bind λx aa=>(bv (truthy aa x) aa).bind λt aa=>if t=k then iE G cf k (.cons e' es) K aa else .ok x aa:=rfl
theorem C8(k:Bool)(e e':E)(es:EL)(K:Fm)(U:ac):mT (iE G cf k (.cons e (.cons e' es)) K U)=(mT (af G cf e K U)).bind λt aa=>if t=k then mT (iE G cf k (.cons e' es) K aa) else .ok t aa:=by
 rw[rU];cases af G cf e K U with
 |bad=>rfl
 |ok x aa=>
   refine(?_:mT ((bv (truthy aa x) aa).bind λt aa=>if t=k then iE G cf k (.cons e' es) K aa else .ok x aa)=(bv (truthy aa x) aa).bind λt aa=>if t=k then mT (iE G cf k (.cons e' es) K aa) else .ok t aa);cases h:truthy aa x with
   |none=>rfl
   |some t=>
     show mT (if t=k then iE G cf k (.cons e' es) K aa else .ok x aa)=if t=k then mT (iE G cf k (.cons e' es) K aa) else .ok t aa
     by_cases hk:t=k
     . rw[if_pos hk,if_pos hk]
     . rw[if_neg hk,if_neg hk];exact congrArg (λo=>bv o aa) h
theorem Ct{t1 t2:Sem Value}{r1:Res V}{r2:ac->Res V}(k:Bool)(h1:Ev Z cz A t1 r1 VR Y U s)(h2:∀ag aa ai,Step cz Y U s ag aa ai->Inv Z ag aa ai.heap->Ev Z cz A t2 (r2 aa) VR ag aa ai) :
   Ev Z cz A (do
     let v <- t1
     standAt pos
     let t <- holding [v] (PySem.truthy v)
     match (if k then BoolOp.And else BoolOp.Or),t with
     |.And,false | .Or,true=>pure v
     |_,_=>t2) (r1.bind λx aa=>(bv (truthy aa x) aa).bind λt aa=>if t=k then r2 aa else .ok x aa) VR Y U s:=by
 refine Ev.bind h1 λv c ag aa ai aH ay rv _=>?_;refine Ev.standAt λc' σ' e=>?_;cases ht:truthy aa c with
 |none=>rw[ht]at e;injection e
 |some t=>
   rw[ht]at e;replace e:(if t=k then r2 aa else .ok c aa)=.ok c' σ':=e;refine OJ (QR (jz ay rv ht λtk=>?_));clear ht;by_cases hk:t=k
   . rw[if_pos hk]at e;have T:=PO (h2 ag aa { ai with toks:=tk } (aH.toks (tk:=tk)) ay c' σ' e) (λa s' ⟨β',S,I',q⟩=>(⟨β',⟨S.ext,S.mono,S.keepW,S.alive,S.gens,S.os⟩,I',q⟩:Po Z cz ag aa ai σ' s' λβ'=>VR a c' β' σ' s'.heap)) λ_ _ x=>x;clear e h2 h1;rw[hk];cases (k)<;>exact T
   . rw[if_neg hk]at e;injection e with e f;subst e;subst f;have T:Po Z cz ag aa ai aa { ai with toks:=tk } λβ'=>VR v c β' aa ai.heap:=⟨ag,Step.refl.toks,ay,rv⟩
     clear h2 h1;cases (t)<;>cases (k)<;>first|exact absurd rfl hk|exact PH T
theorem Cs{t1 t2:Sem Bool}(k:Bool)(h1:Ev Z cz A t1 r1 (λa b _ _ _=>a=b) Y U s)(h2:∀ag aa ai,Step cz Y U s ag aa ai->Inv Z ag aa ai.heap->Ev Z cz A t2 (r2 aa) (λa b _ _ _=>a=b) ag aa ai) :
   Ev Z cz A (do
     match (if k then BoolOp.And else BoolOp.Or),<- t1 with
     |.And,false=>pure false
     |.Or,true=>pure true
     |_,_=>t2) (r1.bind λt aa=>if t=k then r2 aa else .ok t aa) (λa b _ _ _=>a=b) Y U s:=by
 refine Ev.bind h1 λa t ag aa ai aH ay q _=>?_;subst q;have T:=h2 ag aa ai aH ay;clear h2 h1;by_cases hk:a=k
 . rw[if_pos hk,hk];cases (k)<;>exact T
 . rw[if_neg hk];cases (a)<;>cases (k)<;>first|exact absurd rfl hk|exact Ev.pure ay rfl
theorem Kh(he:PE Z P gn G cf d e)(hes:CP Z P gn G cf d es):CP Z P gn G cf d (.cons e es):=by
 constructor
 . intro ks sc xs env K A Y U s hm hA F I;replace hm:=fY hm;obtain⟨x,xs,rfl,h1,h2,h3⟩:=hm;rw[bc _ h1];exact Ev.consVR (k:=λaa=>aU G cf es K aa) (he ks sc x env K A Y U s h2 hA F I).1 λv c β' σ' s' S I' q=>hes.1 ks sc xs env K A β' σ' s' h3 hA (F.step S) I'
 . intro k pos ks sc xs env K A Y U s hm hA F I;replace hm:=fY hm;obtain⟨x,xs,rfl,hm1,hm2,hm3⟩:=hm
   . have hx:=he ks sc x env K A Y U s hm2 hA F I;cases es with
     |nil=>
       have hxs:=ll hm3;subst hxs
       . rw[Cc];refine⟨hx.1,λb σ' e=>?_⟩;rw[arm_allTrue_cons];refine OJ (PO (hx.2 b σ' e) (λa ai ⟨ag,S,ay,q⟩=>?_) λ_ _ x=>x);subst q;cases k<;>cases a<;>exact PH ⟨ag,S,ay,rfl⟩
     |cons e' es'=>
       obtain⟨x',xs',rfl,_⟩:=fY hm3
       . have tail:=λag aa ai (S:Step cz Y U s ag aa ai) I=>hes.2 k pos ks sc (x'::xs') env K A ag aa ai hm3 hA (F.step S) I;constructor
         . rw[rU];exact Ct k hx.1 λag aa ai S I=>(tail ag aa ai S I).1
         . rw[C8,arm_allTrue_cons];exact Cs k hx.2 λag aa ai S I=>(tail ag aa ai S I).2
theorem MN{k:Bool}(hes:CP Z P gn G cf d es):PE Z P gn G cf d (.bop k es):=λks sc ex env K A Y U s hm hA F I=>by replace hm:=av hm;obtain⟨⟨op,xs⟩,h0,hm⟩:=hm;apply gj (HI h0);intro pos;simp only[P3,decide_eq_true_eq]at hm;obtain⟨rfl,hm⟩:=hm;have h:=hes.2 k pos ks sc xs env K A Y U s hm hA F I;exact⟨h.1,h.2⟩
theorem rg(e:vs.mapM bN=some l)(r:eY Y U h ws vs):RelAll (TT Y U) h ws l:=by
 induction vs generalizing l ws with
 |nil=>cases (e);cases r;exact .nil
 |cons v vs ih_=>
   rw[List.mapM_cons]at e;replace e:=PK.mp e;obtain⟨a,h1,e⟩:=e;replace e:=PK.mp e;obtain⟨as,h2,e⟩:=e;injection e with e;subst e;cases r with
   |cons r rs=>
     cases v with
     |d x=>injection h1 with e;subst e;exact .cons r (ih_ h2 rs)
     |_=>injection h1
theorem gl(r:eY Y U h ws vs):ws.length=vs.length:=by
 induction r with
 |nil=>rfl
 |cons _ _ ih=>exact congrArg (·+1) ih
set_option tactic.hygienic true in
theorem MB(hes:CP Z P gn G cf d es):PE Z P gn G cf d (.tup es):=λks sc ex env K A Y U s hm hA F I=>by
 replace hm:=av hm;obtain⟨xs,h0,hm⟩:=hm;obtain⟨k,pos,rfl⟩:=lu h0
 . skip
   simp only[P3,decide_eq_true_eq]at hm;refine ir.plain rfl ?_;rw[arm_eval_Tuple,(eV (pos:=pos) hm.1).1];refine Ev.standAt ?_;rw[(rfl:af G cf (.tup es) K U=(aU G cf es K U).bind λvs aa=>xv vs aa)];refine Ev.bind (hes.1 ks sc xs env K A Y U s hm.1 hA F I) λws vs ag aa ai aH ay rv he=>?_;have hl:=lA hm.1 he;have hw:=gl rv;have hz:ws.length<=1000:=by first | (rw[hw,hl];exact hm.2) | (exact hw▸hl▸hm.2) | omega
   unfold xv;split
   . rename_i l hl';have q:=rg hl' rv;have:=q.length;refine rV ay (by rw[<- q.length];exact iv hz (by decide)) (wpAny_newTuple ?_ (iv hz (by decide)));exact⟨_,_,0,rfl,bo _,PV _ rfl,bw _,rfl,rfl,by simpa using q⟩
   . exact Ev.bad
set_option tactic.hygienic true in
theorem Kc{m:Bool}(hes:CP Z P gn G cf d es):PE Z P gn G cf d (.list m es):=λks sc ex env K A Y U s hm hA F I=>by
 replace hm:=av hm;obtain⟨xs,h0,hm⟩:=hm;obtain⟨pos,rfl⟩:=xi h0
 . skip
   simp only[P3,decide_eq_true_eq]at hm;refine ir.plain rfl ?_;rw[arm_eval_List,(eV (pos:=pos) hm.1).1];refine Ev.standAt ?_;rw[(rfl:af G cf (.list m es) K U=(aU G cf es K U).bind λvs aa=>AR m vs aa)];refine Ev.bind (hes.1 ks sc xs env K A Y U s hm.1 hA F I) λws vs ag aa ai aH ay rv he=>?_;have hl:=lA hm.1 he;have hw:=gl rv;have hz:ws.length<=1000:=by first | (rw[hw,hl];exact hm.2) | (exact hw▸hl▸hm.2) | omega
   unfold AR;split
   . rename_i l hl';have q:=rg hl' rv;have:=q.length;refine gI ay (by rw[<- q.length];exact iv hz (by decide)) (wpAny_newList ?_ (iv hz (by decide)));exact⟨_,_,0,rfl,bo _,PV _ rfl,bw _,rfl,rfl,by simpa using q⟩
   . exact(Ev.bad)theorem G1:PE Z P gn G cf d .dict0:=λks sc ex env K A Y U s hm hA F I=>by replace hm:=av hm;obtain⟨⟨a,b⟩,h0,hm⟩:=hm;apply gj (EP h0);intro pos;simp only[P3]at hm;have h1:=gc hm.1;have h2:=gc hm.2;subst h1;subst h2;exact ir.plain rfl (xw I)
end
variable {b:Bi}{o:Expr}{ts:List (Bool×Sem Value)}{args:List Expr}{f:Nat}
section
variable {ex:Expr}theorem F4:∀{x:Option V},Step cz Y U s β' σ' s'->LV v x Y U s.heap->LV v x β' σ' s'.heap
 |none=>@λ_ q=>q
 |some x=>@λS q=>S.vrel0 q
theorem ML{i:E}(ha:PE Z P gn G cf d a)(hi:PE Z P gn G cf d i):PE Z P gn G cf d (.idx a i):=λks sc ex env K A Y U s hm hA F I=>by
 replace hm:=av hm;obtain⟨⟨v,x⟩,h0,hm⟩:=hm;apply gj (qf h0);intro pos
 . skip
   simp only[P3]at hm;refine ir.plain rfl ?_;rw[arm_eval_Subscript];rw[(rfl:af G cf (.idx a i) K U=(af G cf a K U).bind λx aa=>(af G cf i K aa).bind λy ae=>bv (cK x y ae) ae)];refine Ev.bind (ha ks sc v env K A Y U s hm.1.2 hA F I).1 λw c ag aa ai aH ay lY _=>?_;refine Ev.bind (Ev.holding (hi ks sc x env K A ag aa ai hm.2 hA (F.step aH) ay).1) λu y a5 ae aq cC cD ru _=>?_;intro c' σ' e;obtain⟨hz,rfl⟩:=AB e;exact ez (yY cD (cC.vrel0 lY) ru hz λtk w' hw=>⟨a5,Step.refl.toks,cD,hw⟩)
theorem MD{m:Bool}{lo hi:EL}(ha:PE Z P gn G cf d a)(hl:Ir Z P gn G cf d lo)(hh:Ir Z P gn G cf d hi):PE Z P gn G cf d (.slc m a lo hi):=λks sc ex env K A Y U s hm hA F I=>by
 replace hm:=av hm;obtain⟨⟨v,x⟩,h0,hm⟩:=hm;apply gj (qf h0);intro pos;replace hm:=av hm;obtain⟨⟨l,h,st⟩,h1,hm⟩:=hm;apply gj (HA h1:∃p,x=.Slice l h st p);intro p;clear h1 h0
 . obtain⟨hs,m1,m2,m3⟩:=sA hm;apply iY (QA.mp hs:st=none);clear hm hs;have hm:=And.intro (And.intro m1 m2) m3;refine ir.plain rfl ?_;rw[arm_eval_Subscript,arm_eval_Slice];rw[(rfl:af G cf (.slc m a lo hi) K U=(af G cf a K U).bind λx aa=>(dD G cf lo K aa).bind λl ae=>(dD G cf hi K ae).bind λh aF=>gq m x l h aF)];refine Ev.bind (ha ks sc v env K A Y U s hm.1.1 hA F I).1 λw c ag aa ai aH ay lY _=>?_;have one:∀{B:Type} {f:Value->Sem B} {r:Res V} {R:B->V->List Addr->ac->Heap->Prop},Ev Z cz A (do
       let l <- valueOrNone (evalOpt l env)
       let u <- holding [l] (valueOrNone (evalOpt h env))
       let i <- newFields "slice" [l,u,.none]
       f i) r R ag aa ai->Ev Z cz A ((holding [w] (do
       let l <- valueOrNone (evalOpt l env)
       let u <- holding [l] (valueOrNone (evalOpt h env))
       let s <- holding [l,u] (valueOrNone (evalOpt none env))
       newFields "slice" [l,u,s])) >>= f) r R ag aa ai:=λhx c σ' e=>by
     intro Γ p hΓ;have:=hx c σ' e Γ p hΓ;simp only[Sem.wp_bind',Sem.wp_holding]at this ⊢;exact this
   refine one ?_;refine Ev.bind (hl.1 ks sc l env K A ag aa ai hm.1.2 hA (F.step aH) ay) λvl xl a5 ae aq cC cD rl _=>?_;refine Ev.bind (Ev.holding (hh.1 ks sc h env K A a5 ae aq hm.2 hA ((F.step aH).step cC) cD)) λvu xu vQ aF aW vF CJ ru _=>?_;exact ym CJ (vF.vrel0 (cC.vrel0 lY)) (F4 vF rl) ru
theorem N6:Ir Z P gn G cf d .nil:=by
 constructor
 . intro ks sc ex env K A Y U s hm hA F I;have hm:=QA.mp hm;subst hm;exact Ev.pure I rfl
 . intro ks sc ex env K A Y U s hm hA F I;exact Q3 (hm:false=true)
theorem Mz{r:EL}(he:PE Z P gn G cf d e):Ir Z P gn G cf d (.cons e r):=by
 constructor
 . intro ks sc ex env K A Y U s hm hA F I;replace hm:=av hm;obtain⟨x,h0,hm⟩:=hm;subst h0
   . intro c σ' e';have ev:dD G cf (.cons e r) K U=(af G cf e K U).bind λx aa=>.ok (some x) aa:=rfl;rw[ev]at e';cases h:af G cf e K U with
     |bad=>rw[h]at e';injection e'
     |ok v aa=>replace e':=h▸e';cases (e');exact(he ks sc x env K A Y U s hm hA F I).1 v σ' h
 . intro ks sc ex env K A Y U s hm hA F I;exact⟨e,r,rfl,he ks sc ex env K A Y U s hm hA F I⟩
theorem D0(he:PE Z P gn G cf d e):PE Z P gn G cf d (.freeze e):=λks sc ex env K A Y U s hm hA F I=>by
 have hx:=he ks sc ex env K A Y U s hm hA F I;have ev:af G cf (.freeze e) K U=(af G cf e K U).bind λx aa=>K7 x aa:=rfl;have fr:∀{x:V} {v:V} {aa σ':ac},K7 x aa=.ok v σ'->X2 λn l=>A4 (x=.loc n) (aa[n]?=some (.lst l)) (v=.d (.list l)) (σ'=aa.set n .gone):=by intro x v aa σ' h;obtain⟨n,hn,h⟩:=iz h;replace h:=iz h;obtain⟨l,hl,h⟩:=h;injection h with e f;subst e;subst f;exact⟨n,l,jK hn,ku hl,rfl,rfl⟩
 constructor
 . intro c σ' e';replace e':=ev▸e';cases h:af G cf e K U with
   |bad=>rw[h]at e';injection e'
   |ok v aa=>rw[h]at e';obtain⟨n,l,rfl,hl,rfl,rfl⟩:=fr e';refine PO (hx.1 _ _ h) (λa s' ⟨β',S,I',q⟩=>?_) λ_ _ x=>x;obtain⟨ad,hb,rfl⟩:=q;have N:=uy (O:=cz) (c:=.gone) I' hb hl rfl rfl;exact⟨β',S.trans N.1,N.2,yZ I' hb hl⟩
 . intro c σ' e';rw[ev]at e';obtain⟨w,e',hc⟩:=yh e';cases h:af G cf e K U with
   |bad=>rw[h]at e';injection e'
   |ok v aa=>
     rw[h]at e';obtain⟨n,l,rfl,hl,rfl,rfl⟩:=fr e';have ht:truthy aa (.loc n)=some c:=by show oc (jl aa n) (λl=>some (!l.isEmpty)) none=some c;exact(jk hl)▸hc
     refine PO (hx.2 c aa (by rw[h];simp[mT,Res.bind,bv,ht])) (λa s' ⟨β',S,I',q⟩=>?_) λ_ _ x=>x;have hlt:n < β'.length:=by rw[I'.len];exact(Pz.mp hl).1
     have N:=uy (O:=cz) (c:=.gone) I' (PB hlt) hl rfl rfl;exact⟨β',S.trans N.1,N.2,q⟩theorem wh{x:Sem Value}{Q:List Value->Shared->Prop}{E:VP}(h:wpAny M A (spliced [(false,x)]) Q E s):wpAny M A x (λv s'=>Q [v] s') E s:=λΓ p hΓ=>by have:=h Γ p hΓ;simpa only[spliced,Sem.wp_bind',Sem.wp_holding,Sem.wp_pure',SY,if_false,P4] using this
theorem gL{f:Value}{Q:Args->Shared->Prop}{E:VP}(hes:CP Z P gn G cf d es)(hm:rj P gn ks sc es args=true)(hA:lS Z d A)(F:FrameOk Z env ks sc K Y U s.heap)(I:Inv Z Y U s.heap)
   {vs:List V} {aa:ac} (he:aU G cf es K U=.ok vs aa) (q:∀ws β' s',Step cz Y U s β' aa s'->Inv Z β' aa s'.heap->eY β' aa s'.heap ws vs->Q ⟨ws,[]⟩ s') :
   WP Z A (evalArgs f true (starEach args env) []) Q E s:=by
 have h':=PO (hes.1 ks sc args env K A Y U s hm hA F I vs aa he) (λws s' ⟨β',S,I',r⟩=>q ws β' s' S I' r) (E':=E) λ_ _ x=>x.elim;clear hes;cases args with
 |nil=>
   cases es with
   |nil=>rw[Ff]at he;cases (he);exact PyProof.Rows.evalArgs_nil3 (q [] Y s Step.refl I .nil)
   |cons e es=>replace hm:=fY hm;obtain⟨_,_,hx,_⟩:=hm;injection hx
 |cons x xs=>
   clear he;cases es with
   |nil=>cases (ll hm)
   |cons e es=>refine kk λUc k=>?_;replace hm:=fY hm;obtain⟨_,_,hx,hs,_⟩:=hm;injection hx with e f;subst e;subst f;refine k ?_;rw[bc _ hs]at h' ⊢;exact evalArgs_plain (h')theorem Res.bind_bind(a:Res B)(f:B->ac->Res γ)(g:γ->ac->Res ι):(a.bind f).bind g=a.bind λx U=>(f x U).bind g:=by cases a<;>rfl
theorem se(D:Wd Z P gn G cf d)(hes:CP Z P gn G cf d es){pos:Pos}(h1:(P f).map (·.name)=some x)(h2:rD ks x=true)(h3:rj P gn ks sc es args=true)(hA:lS Z d A)(F:FrameOk Z env ks sc K Y U s.heap)(I:Inv Z Y U s.heap) :
   LM Z A (eval (.Call (.Name x p) args [] pos) env) ((aU G cf es K U).bind λvs aa=>cf f vs aa) Y U s:=λc σ' e=>by
 refine kk λUc kz=>?_;obtain⟨fn,hf,hq⟩:=Qj.mp h1;obtain⟨a,o,fd,hg,ho,hd,hcall⟩:=D.c f fn hf;obtain⟨vs,aa,he,hc⟩:=Res.bind_ok e;refine kz ?_;refine PyProof.Rows.Call_Name (eV (pos:=pos) h3).1 (jL D F I h2 (hq▸hg) ?_);refine callWith_function (o:=o) (fd:=fd) (gL hes h3 hA F I he λws β' s' S I' r=>⟨⟨I'.base a o ho,hd⟩,?_⟩);exact PO (hcall A β' aa s' ws vs hA (F.step S).frs I' r c σ' hc) (λv s'' ⟨z,β'',S',I'',q⟩=>⟨z,β'',S.trans S',I'',q⟩) λv s'' ⟨k,ds,q,fq⟩=>⟨k,ds,q,fq.back S⟩theorem Kk(D:Wd Z P gn G cf d)(hes:CP Z P gn G cf d es):PE Z P gn G cf d (.call f es):=λks sc ex env K A Y U s hm hA F I=>by replace hm:=av hm;obtain⟨⟨x,args⟩,h0,hm⟩:=hm;obtain⟨p,pos,rfl⟩:=eU h0;obtain⟨h1,h2,h3⟩:=xX hm;have C:=(se (p:=p) (pos:=pos) D hes (of_decide_eq_true h1) h2 h3 hA F I).ev;rw[Res.bind_bind]at C;exact ir.plain rfl (C)theorem zE(h:b.plain=true):zF b=[]:=by cases b<;>first|rfl|exact Q3 (h:false=true)
theorem xL(h:b.plain=true){prog:Program}{E:VP}(hpl:(ts.any (·.1))=false)
   (post:∀{f:Value},wpAny (model prog w) A (evalArgs f true ts []) (λa ai=>wpAny (model prog w) A (call (ua b) ([]++a.pos) a.kw) Q E ai) E s):wpAny (model prog w) A (callWith pos (ua b) [] ts []) Q E s:=by
 cases b<;>first
   |exact callWith_builtin hpl post
   |exact Q9 hpl post
   |exact Q3 (h:false=true)
set_option tactic.hygienic true in
theorem N7(D:Wd Z P gn G cf d){m:Bool}(hes:CP Z P gn G cf d es):PE Z P gn G cf d (.bi b m es):=λks sc ex env K A Y U s hm hA F I=>by
 replace hm:=av hm;obtain⟨⟨x,args⟩,h0,hm⟩:=hm;apply y9 (eU h0);intro p pos
 . obtain⟨hx,h2,hP,h3⟩:=sA hm;replace hx:x=sk b:=of_decide_eq_true hx;replace h2:=(show (x,args).1=_ from hx)▸h2;apply iY hx;have hh:=hA.1 (D.q hP);clear hm hP hx h0;refine ir.plain rfl λc σ' e=>?_;obtain⟨vs,aa,he,hc⟩:=Res.bind_ok (r:=aU G cf es K U) (f:=λvs aa=>xT b m vs aa) e;clear e;obtain⟨hfree,hval⟩:=D.b.free b;have fin:b≠.sortedSet->∀{ws:List Value} {β':List Addr} {s':Shared},Step cz Y U s β' aa s'->Inv Z β' aa s'.heap->eY β' aa s'.heap ws vs->
       WP Z A (call (ua b) (ws++zF b)) (λv s''=>Po Z cz Y U s σ' s'' λβ''=>VR v c β'' σ' s''.heap) (λ_ _=>False) s':=λhnb _ _ _ S I' r=>
     PO (Cv (O:=cz) (m:=m) D.y I' hh r hnb c σ' hc) (λv s'' ⟨β'',S',I'',q⟩=>⟨β'',S.trans S',I'',q⟩) λ_ _ x=>x
   split at h3
   . rename_i t ht;refine kk λUc k=>?_;replace ht:=LC ht;subst ht;replace h3:=av h3;obtain⟨⟨y,zn⟩,h5,h3⟩:=h3;replace h3:=av h3;obtain⟨z,h6,h3⟩:=h3;refine k ?_;clear k;apply iY (jx h5:args=[y,zn]);clear h5;apply gj (bO h6:∃p,zn=.Name z p);intro pz;clear h6;replace h3:=xX h3;obtain⟨hx,hz,h3⟩:=h3;replace hx:z=mW t:=of_decide_eq_true hx;rw[hx]at hz;apply iY hx;clear hx;cases es with
     |nil=>cases (ll h3)
     |cons e' es'=>
       refine kk λUc k=>?_;obtain⟨_,_,hx,hs,_⟩:=fY h3;injection hx with e f;subst e;subst f;refine k ?_;have trees:backTo pos (starEach [y,.Name (mW t) pz] env)=[(false,eval y env),(false,eval (.Name (mW t) pz) env)]:=by rw[bc _ hs];rfl
       refine PyProof.Rows.Call_Name trees (fK D F I h2 hfree hval ?_);refine callWith_builtin rfl (evalArgs_plain (spliced_cons ?_));have h:=hes.1 ks sc [y] env K A Y U s h3 hA F I vs aa he;rw[bc _ hs]at h;refine PO (wh h) (λv ai ⟨ag,aH,ay,r⟩=>?_) λ_ _ x=>x;refine spliced_cons (fK D (F.step aH) ay hz (D.b.ty t).1 (D.b.ty t).2 (spliced_nil ?_));exact fin (λq=>by injection q) aH ay r
   . split at h3
     . rename_i hss;replace hss:=LD hss;subst hss;replace h3:=av h3;obtain⟨r,h5,h3⟩:=h3;apply iY (dC h5:args=[r]);replace h3:=av h3;obtain⟨⟨z,zargs⟩,h6,h3⟩:=h3;obtain⟨hx,hz,hst,h3⟩:=sA h3;obtain⟨pz,posz,h6⟩:=eU h6;replace hx:z=("set":Str):=of_decide_eq_true hx;rw[hx]at h6;rw[show (z,zargs).1=_ from hx]at hz;rw[h6]at hst;apply iY h6;clear h6 hx h5 fin;have trees:backTo pos (starEach [.Call (.Name ("set":Str) pz) zargs [] posz] env)=[(false,eval (.Call (.Name ("set":Str) pz) zargs [] posz) env)]:=by rw[bc _ hst];rfl
       refine PyProof.Rows.Call_Name trees (fK D F I h2 hfree hval ?_);refine callWith_builtin rfl (evalArgs_plain (spliced_cons ?_));refine PyProof.Rows.Call_Name (eV (pos:=posz) h3).1 (fK D F I hz D.b.set.1 D.b.set.2 ?_);refine Q9 (eV (env:=env) (pos:=posz) h3).2 (gL hes h3 hA F I he λws β' s' S I' r=>?_);refine PO (pJ (O:=cz) I' hh r hc) (λt ai ht=>spliced_nil (PO ht (λv s'' ⟨β'',S',I'',q⟩=>⟨β'',S.trans S',I'',q⟩) λ_ _ x=>x)) λ_ _ x=>x
     . simp only[P3]at h3;refine PyProof.Rows.Call_Name (eV (pos:=pos) h3.2).1 (fK D F I h2 hfree hval ?_);have hnb:b≠.sortedSet:=λq=>by replace h3:=q▸h3;cases h3.1
       have post:∀{f:Value},WP Z A (evalArgs f true (starEach args env) []) (λa ai=>WP Z A (call (ua b) ([]++a.pos) a.kw) (λv s''=>Po Z cz Y U s σ' s'' λβ''=>VR v c β'' σ' s''.heap) (λ_ _=>False) ai) (λ_ _=>False) s:=λ{f}=>gL hes h3.2 hA F I he λws β' s' S I' r=>by have:=fin hnb S I' r;rw[(zE h3.1),P4]at this;exact this
       exact xL h3.1 ((eV (env:=env) (pos:=pos) h3.2).2) (post)theorem sw(h:Ar o=true)(nm:Str)(w:Sem Value):attributeBase o nm env w=w:=by cases o<;>first|rfl|injection h
set_option tactic.hygienic true in
theorem Kb(D:Wd Z P gn G cf d){b:Me}{o:E}(ho:PE Z P gn G cf d o)(hes:CP Z P gn G cf d es):PE Z P gn G cf d (.meth b o es):=λks sc ex env K A Y U s hm hA F I=>by
 refine kk λUc kz=>?_;replace hm:=av hm;obtain⟨⟨ov,nm,apos,args,pos⟩,h0,hm⟩:=hm;refine kz ?_;apply iY (EN h0);clear h0
 . refine kk λUc k=>?_;obtain⟨hn,hdn,hnc,hlen,hpos,h1,h2⟩:=ND hm;refine k ?_;clear hm k;replace hlen:args.length < 30:=of_decide_eq_true hlen;replace hpos:apos.endLine=pos.line:=of_decide_eq_true hpos;apply iY (of_decide_eq_true hn:nm=rf b);clear hn;refine ir.plain rfl λc σ' e=>?_;obtain⟨x,aa,he,e⟩:=Res.bind_ok (r:=af G cf o K U) (f:=λx aa=>if sI b aa x then (aU G cf es K aa).bind λvs ae=>Gb b x vs ae else .bad) e;split at e
   . rename_i hok;obtain⟨vs,ae,he2,hc⟩:=Res.bind_ok e;have hst:=eV (env:=env) (pos:=pos) h2;have hform:methodCallForm (args.length+0) (starEach args env) []=true:=by
       unfold methodCallForm;have h3:(starEach args env).all (λx=>!x.1)=true:=by have:=hst.2;simp only[List.any_eq_false]at this;simp only[QN,QB];intro x hx;simpa using this x hx
       rw[h3];simp;omega
     rw[arm_eval_Call,sw hnc,hst.1];refine OJ (PO ((ho ks sc ov env K A Y U s h1 hA F I).1 x aa he) (λv ai ⟨ag,aH,ay,rv⟩=>?_) λ_ _ x=>x);refine OJ (Qy ?_);refine(?_:wpAny _ _ (methodCall ov (rf b) apos pos env v (args.length+0) (starEach args env) []) _ _ _);unfold methodCall;refine hform▸?_;refine OJ (QR ?_);show wpAny _ _ (getMethod v (rf b) _) _ _ _;refine yM hdn ay rv hok ?_;refine OJ ?_;have hp:methodCallPos true ov env apos pos=pure pos:=by unfold methodCallPos;simp[hpos]
     rw[hp];refine PH (callWith_builtin hst.2 (gL hes h2 hA (F.step aH) ay he2 λws a5 aq cC cD r=>?_));refine PO (BU (O:=cz) D.y cD (cC.vrel0 rv) r c σ' hc) (λv s'' ⟨β'',S',I'',q⟩=>⟨β'',(aH.trans cC).trans S',I'',q⟩) λ_ _ x=>x
   . injection e
end
variable {k:Nat}
theorem XAt.elim {Q:Prop} (X:XAt h k) (f:∀nm q N bs hdct sn sub ab col dd k0 k1 k2 k3 k5 mN,h.get? (KA k)=some (excClassObj nm q (KA k) N bs (d7 k) hdct sn sub ab col dd k0 k1 k2 k3 k5 "ValueError.__new__")->h.Ns N mN->(∀n∈fh,mN n=none)->(k<=5->mN "__init__"=none)->Q):Q:=by
 cases X with
 |mk nm q N bs hdct sn sub ab col dd k0 k1 k2 k3 k5 mN h1 h2 h3 h4 h5=>exact f nm q N bs hdct sn sub ab col dd k0 k1 k2 k3 k5 mN h1 h2 h3 h4
theorem XAt.keeps(X:XAt h k)(hk:∀b o,h.get? b=some o->h'.get? b=some o):XAt h' k:=by
 cases X with
 |mk nm q N bs hdct sn sub ab col dd k0 k1 k2 k3 k5 mN h1 h2 h3 h4 h5=>exact⟨nm,q,N,bs,hdct,sn,sub,ab,col,dd,k0,k1,k2,k3,k5,mN,hk _ _ h1,h2.keeps hk,h3,h4,λz=>⟨(h5 z).1,(h5 z).2.keeps hk⟩⟩theorem wV:typeLookup (.type "ValueError") "__class__"=pure (some (.builtin "object.__class__")):=by rw[typeLookup_type,builtinLookup_eq_fast];kernel_rfl
theorem wU:typeLookup (.type "ValueError") "__getattribute__"=pure (some (.builtin "BaseException.__getattribute__")):=by rw[typeLookup_type,builtinLookup_eq_fast];kernel_rfl
theorem pg:typeLookup (.type "ValueError") "__getattr__"=pure none:=by rw[typeLookup_type,builtinLookup_eq_fast];kernel_rfl
theorem jb(h:1<=k):d7 k=.ref (KA 0)::fR:=if_neg (Sk h)
theorem kU(h:fR.contains (.type T)=true):(Value.ref (KA k)::d7 k).contains (.type T)=true:=by
 have:(d7 k).contains (.type T)=true:=by
   unfold d7;split
   . exact h
   . rw[QI,h,Sm]
 rw[QI,this,Sm]variable {g:Array GenState}{d:Drawn}{t:Nat}{y:Option Value}{os:OsState}{base:Value}
section
variable {E:VP}
theorem rn {n:Str} {Q:Option Value->Shared->Prop} (Xk:XAt h k) (X0:XAt h 0) (hk:1<=k) (hn:n∈fh) (hB:typeLookup (.type "ValueError") n=pure y) (hq:Q y ⟨h,g,d,t,os⟩) :
   wpAny M A (typeLookup (.ref (KA k)) n) Q E ⟨h,g,d,t,os⟩:=by
 have hrest:lookupAlong fR n=pure y:=by rw[typeLookup_eq,F.excBase_ValueError.mroIs]at hB;exact hB
 refine Xk.elim λnm q N bs hdct sn sub ab col dd k0 k1 k2 k3 k5 mN h1 h2 h3 _=>?_;refine X0.elim λnm' q' N' bs' hdct' sn' sub' ab' col' dd' k0' k1' k2' k3' k5' mN' h1' h2' h3' _=>?_;rw[typeLookup_eq];refine OJ (wpAny_mroOf_exc h1 ?_);rw[lookupAlong_cons];refine OJ (wpAny_classOwn_exc h1 h2 ?_);rw[h3 n hn];show wpAny M A (lookupAlong (d7 k) n) Q E _;rw[jb hk,lookupAlong_cons];refine OJ (wpAny_classOwn_exc h1' h2' ?_);rw[h3' n hn];show wpAny M A (lookupAlong fR n) Q E _;rw[hrest];exact PH (hq)theorem s0{Q:Bool->Shared->Prop}(Xk:XAt h k)(hq:Q ((Value.ref (KA k)::d7 k).contains base) ⟨h,g,d,t,os⟩):wpAny M A (isSubtype (.ref (KA k)) base) Q E ⟨h,g,d,t,os⟩:=by refine Xk.elim λnm q N bs hdct sn sub ab col dd k0 k1 k2 k3 k5 mN h1 h2 h3 _=>?_;exact QK h1 hq
end
variable {a:Addr}{b:Bool}{Q:Fin->Shared->Prop}{dep:Int}{o:Obj}{R:Result->Shared->Prop}{nameV:Value}
section
variable {prog:Program}{E:VP}
theorem xG(Xk:XAt h k)(hx:h.get? a=some o)(hc:o.cls=.ref (KA k))(hq:R (.ok (.ret (.ref (KA k)))) ⟨h,g,d,t,os⟩) :
   codeAny (model prog w) A (.call (.builtin "getset_descriptor.__get__") ⟨[.builtin "object.__class__",.ref a,.ref (KA k)],[]⟩) R ⟨h,g,d,t,os⟩:=by
 have hcB:(Value.ref (KA k)::d7 k).contains (.type (".".intercalate ("object.__class__".cutAt '.').dropLast))=true:=by rw[F.owner_object_class];exact kU rfl
 refine codeAny_call_builtin F.slot_gs_get.plain F.entry_gs_get (F.slot_gs_get.check _ _ _ _ _ _ _ _ F.typeOf_object_class (F.args_gs_get _ _ _) ?_)
 repeat (any_goals (first|assumption | (with_reducible refine P0 hx ?_;refine hc▸?_) | (with_reducible refine s0 Xk ?_;rw[hcB]) | wp_step))
 refine⟨Code.quiet_builtin _ (by decide +kernel),codeAny_builtin F.entry_object_class ?_⟩
 repeat (any_goals (first|assumption | (with_reducible refine P0 hx ?_;refine hc▸?_) | wp_step))
theorem zo {Q:Unit->Shared->Prop} (Xk:XAt h k) (hx:h.get? a=some o) (hc:o.cls=.ref (KA k)) (hq:Q () ⟨h,g,d,t,os⟩):wpAny M A (checkBuiltinCall "BaseException.__getattribute__" ⟨[.ref a,nameV],[]⟩) Q E ⟨h,g,d,t,os⟩:=by
 have hk:builtinKind "BaseException.__getattribute__"=some .slot:=by decide +kernel
 have hsplit:splitId "BaseException.__getattribute__"=some ("BaseException","__getattribute__"):=by decide +kernel
 unfold checkBuiltinCall;refine hk▸hsplit▸?_;refine OJ ?_
 . unfold isInstance
   repeat (first | (with_reducible refine P0 hx ?_;refine hc▸?_) | (with_reducible refine s0 Xk ?_;rw[(kU rfl)]) | wp_step)
   exact hq
theorem sN(Xk:XAt h k)(X0:XAt h 0)(hk:1<=k)(hx:h.get? a=some o)(hc:o.cls=.ref (KA k))(hq:Q (.done (.ret (.ref (KA k)))) ⟨h,g,d,t,os⟩) :
   wpAny (model prog w) A (Builtin.«object.__getattribute__» ⟨[.ref a,.str "__class__" tk],[]⟩) Q E ⟨h,g,d,t,os⟩:=by
 have f5:=F.typeOf_object_class;have f6:=F.slot_gs_get.lookup;have f7:=F.slot_gs_set.lookup;have hmA:("__class__":Str)∈fh:=.tail _ (.tail _ (.head _))
 repeat (any_goals (first|assumption | (with_reducible refine P0 hx ?_;refine hc▸?_) | with_reducible refine rn Xk X0 hk hmA wV ?_|wp_step))
 refine xG Xk hx hc ?_
 repeat (any_goals (first|assumption|wp_step))
theorem zj{Q:VP}(Xk:XAt h k)(X0:XAt h 0)(hk:1<=k)(hx:h.get? a=some o)(hc:o.cls=.ref (KA k))(hq:Q (.ref (KA k)) ⟨h,g,d,t,os⟩) :
   wpAny (model prog w) A (getAttrBy (.ref a) (.str "__class__" tk) false) Q E ⟨h,g,d,t,os⟩:=by
 have f3:=F.excAttr_ValueError.ga.bind (.ref a);have hx2:(Value.builtin "BaseException.__getattribute__"==Value.builtin "object.__getattribute__")=false:=by decide +kernel
 have hx1:(onTheHeap (Value.ref (KA k))&&Value.builtin "BaseException.__getattribute__"==Value.builtin "object.__getattribute__")=false:=by refine hx2▸?_;rfl
 have hm1:("__getattribute__":Str)∈fh:=.head _;have hm2:("__getattr__":Str)∈fh:=.tail _ (.head _)
 repeat (any_goals (first|assumption | (with_reducible refine P0 hx ?_;refine hc▸?_) | with_reducible refine rn Xk X0 hk hm1 wU ?_|with_reducible refine rn Xk X0 hk hm2 pg ?_|wp_step))
 refine codeAny_call_builtin F.excAttr_ValueError.ga.plain F.entry_bexc_ga (zo Xk hx hc (sN Xk X0 hk hx hc ?_))
 repeat (any_goals (first|assumption|wp_step))
theorem vp{Q:Option Value->Shared->Prop}(Xk:XAt h k)(X0:XAt h 0)(hk:1<=k)(hx:h.get? a=some o)(hc:o.cls=.ref (KA k))(hq:Q (some (.ref (KA k))) ⟨h,g,d,t+1,os⟩) :
   wpAny (model prog w) A (getAttr? (.ref a) "__class__") Q E ⟨h,g,d,t,os⟩:=by
 unfold getAttr? getAttrBy?
 repeat (any_goals (first|assumption|with_reducible apply zj Xk X0 hk hx hc|wp_step))
theorem Et(Xk:XAt h k)(Xj:XAt h j)(hx:h.get? a=some o)(hc:o.cls=.ref (KA k))(hb:(Value.ref (KA k)::d7 k).contains (.ref (KA j))=true)
   (hq:Q (.done (.ret (.bool true))) ⟨h,g,d,t,os⟩):wpAny (model prog w) A (Builtin.«isinstance.nested» ⟨[.ref a,.ref (KA j),.int dep tk],[]⟩) Q E ⟨h,g,d,t,os⟩:=by
 refine Xk.elim λnm q N bs hdct sn sub ab col dd k0 k1 k2 k3 k5 mN h1 _ _ _=>?_;refine Xj.elim λnm' q' N' bs' hdct' sn' sub' ab' col' dd' k0' k1' k2' k3' k5' mN' h1' _ _ _=>?_;by_cases hne:(Value.ref (KA k)==Value.ref (KA j))=true
 . repeat (any_goals (first|assumption | (with_reducible refine P0 hx ?_;exact hc) | with_reducible refine P0 h1' ?_ | (with_reducible refine QK h1 ?_;rw[hb]) | wp_step))
 . have hne:=Bool.eq_false_iff.mpr hne
   repeat (any_goals (first|assumption | (with_reducible refine P0 hx ?_;refine hc▸?_) | with_reducible refine P0 h1' ?_ | (with_reducible refine QK h1 ?_;rw[hb]) | wp_step))
theorem B0(Xk:XAt h k)(X0:XAt h 0)(Xj:XAt h j)(hk:1<=k)(hx:h.get? a=some o)(hc:o.cls=.ref (KA k))(hb:(Value.ref (KA k)::d7 k).contains (.ref (KA j))=false)
   (hq:Q (.done (.ret (.bool false))) ⟨h,g,d,t+1,os⟩):wpAny (model prog w) A (Builtin.«isinstance.nested» ⟨[.ref a,.ref (KA j),.int dep tk],[]⟩) Q E ⟨h,g,d,t,os⟩:=by
 refine Xk.elim λnm q N bs hdct sn sub ab col dd k0 k1 k2 k3 k5 mN h1 _ _ _=>?_;refine Xj.elim λnm' q' N' bs' hdct' sn' sub' ab' col' dd' k0' k1' k2' k3' k5' mN' h1' _ _ _=>?_;have hne:(Value.ref (KA k)==Value.ref (KA j))=false:=by rw[QI,R8]at hb;have:=hb.1;rw[BEq.comm];exact this
 repeat (any_goals (first|assumption | (with_reducible refine P0 hx ?_;refine hc▸?_) | with_reducible refine P0 h1' ?_|with_reducible refine P0 h1 ?_ | (with_reducible refine QK h1 ?_;rw[hb]) | with_reducible apply vp Xk X0 hk hx hc|wp_step))
theorem KH(Xk:XAt h k)(hx:h.get? a=some o)(hc:o.cls=.ref (KA k))
   (hq:Q (.done (.ret (.bool true))) ⟨h,g,d,t,os⟩):wpAny (model prog w) A (Builtin.«isinstance.nested» ⟨[.ref a,.type "ValueError",.int dep tk],[]⟩) Q E ⟨h,g,d,t,os⟩:=by
 refine Xk.elim λnm q N bs hdct sn sub ab col dd k0 k1 k2 k3 k5 mN h1 _ _ _=>?_
 repeat (any_goals (first|assumption | (with_reducible refine P0 hx ?_;refine hc▸?_) | (with_reducible refine QK h1 ?_;rw[(kU rfl)]) | wp_step))
theorem y8{Q:Bool->Shared->Prop}(Xk:XAt h k)(Xj:XAt h j)(hx:h.get? a=some o)(hc:o.cls=.ref (KA k))(hb:(Value.ref (KA k)::d7 k).contains (.ref (KA j))=b)
   (hq:Q b ⟨h,g,d,t,os⟩):wpAny M A (excMatches (.ref a) (.ref (KA j))) Q E ⟨h,g,d,t,os⟩:=by
 refine Xk.elim λnm q N bs hdct sn sub ab col dd k0 k1 k2 k3 k5 mN h1 _ _ _=>?_;refine Xj.elim λnm' q' N' bs' hdct' sn' sub' ab' col' dd' k0' k1' k2' k3' k5' mN' h1' _ _ _=>?_;have f:=tc_notTuple;cases (b)
 all_goals
   unfold excMatches
   repeat (first | (with_reducible refine P0 hx ?_;rw[hc]) | with_reducible refine P0 h1' ?_ | (with_reducible refine QK h1' ?_;first|rw[(kU rfl)] | rw[hb]) | (with_reducible refine QK h1 ?_;rw[hb]) | wp_step)
   exact hq
end
theorem ID(X:XOk Z)(hk:1<=k)(hk':k<=6)(hj:j<=6):(Value.ref (KA k)::d7 k).contains (.ref (KA j))=(j==k||j==0):=by
 rw[jb hk,QI,QI];have e:∀i,i<=6->(Value.ref (KA j)==Value.ref (KA i))=(j==i):=λi hi=>by
   by_cases q:j=i
   . subst q;rw[beq_self_eq_true,beq_self_eq_true]
   . have:KA j≠KA i:=λz=>q (X.inj j i hj hi z);rw[beq_eq_false_iff_ne.mpr q,beq_eq_false_iff_ne.mpr λz=>this (Value.ref.inj z)]
 refine(e k hk')▸?_;rw[e 0 (PR _)];cases (j==k)<;>cases (j==0)<;>rfl
section
variable {d:Nat}theorem XOk.at(X:XOk Z)(I:Inv Z Y U s.heap)(hk:k<=6):XAt s.heap k:=by exact XAt.keeps (X.own k hk).2 I.base
theorem BZ(X:XOk Z)(I:Inv Z Y U s.heap)(hj:j<=7)(r:aE Y U s.heap v (.exc k ds)) :
   Ev Z O A (call (.builtin "isinstance") [v,if j=7 then .type "ValueError" else .ref (KA j)]) (.ok (.d (.bool (j==k||j==0||j==7))) U) VR Y U s:=by
 obtain⟨e,o,vs,rfl,he,⟨hc,hd,hk⟩,_⟩:=r;obtain⟨hp,g,dr,tk,os⟩:=s;have Xk:XAt hp k:=X.at (s:=⟨hp,g,dr,tk,os⟩) I hk.2;refine cc I (PyProof.Rows.call_isinstance_of ?_);by_cases h7:j=7
 . subst h7;rw[if_pos rfl];refine KH Xk he hc ⟨⟨_,_,rfl⟩,?_⟩;have:(7==k||7==0||7==7)=true:=by simp
   rw[this];exact .bool _
 . refine(if_neg h7)▸?_;have Xj:XAt hp j:=X.at (s:=⟨hp,g,dr,tk,os⟩) I (R6 (S1 hj h7));have ct:=ID X hk.1 hk.2 (R6 (S1 hj h7));have e7:(j==7)=false:=by simpa using h7
   refine e7▸?_;rw[Rs];cases hb:(j==k||j==0) with
   |true=>rw[hb]at ct;exact Et Xk Xj he hc ct ⟨⟨_,_,rfl⟩,.bool _⟩
   |false=>rw[hb]at ct;exact B0 Xk (X.at I (PR _)) Xj hk.1 he hc ct ⟨⟨_,_,rfl⟩,.bool _⟩
theorem MJ(D:Wd Z P gn G cf d)(he:PE Z P gn G cf d e):PE Z P gn G cf d (.isx k e):=λks sc ex env K A Y U s hm hA F I=>by
 replace hm:=av hm;obtain⟨⟨x,args⟩,h0,hm⟩:=hm;apply y9 (eU h0);intro p pos;clear h0;replace hm:=av hm;obtain⟨⟨a,c⟩,h00,hm⟩:=hm;apply iY (jx h00:args=[a,c]);clear h00;replace hm:=av hm;obtain⟨z,h00,hm⟩:=hm;apply gj (bO h00:∃p,c=.Name z p);intro zp;clear h00;replace hm:=ND hm;obtain⟨hx,hg,hz',hz,hk,hs,hm⟩:=hm;apply iY (of_decide_eq_true hz':z=j6 k);replace hk:=of_decide_eq_true hk;rw[show z=j6 k from of_decide_eq_true hz']at hz;replace hx:x=("isinstance":Str):=of_decide_eq_true hx;rw[show (x,args).1=_ from hx]at hg;apply iY hx;clear hz' hx;refine ir.plain rfl λv σ' ev=>?_;have ev:((af G cf e K U).bind λx aa=>KI k x aa)=.ok v σ':=ev;refine kk λUc kz=>?_;obtain⟨y,aa,e1,ev⟩:=Res.bind_ok ev;replace ev:=iz ev;obtain⟨⟨k',ds⟩,hy,ev⟩:=ev;rw[show y=.exc k' ds by clear e1 ev;cases y<;>first | ((injection hy with e;injection e with e f;subst e;subst f);rfl) | injection hy]at e1;refine kz ?_;clear kz hy;have trees:backTo pos (starEach [a,.Name (j6 k) zp] env)=[(false,eval a env),(false,eval (.Name (j6 k) zp) env)]:=by rw[bc _ hs];rfl
 have bi:=D.b.free (.isinst .list);refine PyProof.Rows.Call_Name trees (fK D F I hg bi.1 bi.2 ?_);refine callWith_builtin rfl (evalArgs_plain (spliced_cons (PO ((he ks sc a env K A Y U s hm hA F I).1 _ _ e1) (λu ai ⟨ag,aH,ay,ru⟩=>?_) λ_ _ x=>x)));have fin:=BZ (A:=A) (O:=cz) D.x ay hk ru v σ' ev;refine spliced_cons ?_;clear trees;by_cases h7:k=7
 . subst h7;rw[if_pos rfl]at fin;refine fK D (F.step aH) ay hz D.x.ve.1 D.x.ve.2 (spliced_nil ?_);exact PO fin (λw aq ⟨a5,cC,cD,q⟩=>⟨a5,aH.trans cC,cD,q⟩) λ_ _ x=>x
 . rw[if_neg h7]at fin;refine jL D (F.step aH) ay hz (D.x.own k (R6 (S1 hk h7))).1 (spliced_nil ?_);exact PO fin (λw aq ⟨a5,cC,cD,q⟩=>⟨a5,aH.trans cC,cD,q⟩) λ_ _ x=>x
end
variable {C fI N:Addr}{hdct ab:Bool}{sn:List Str}{bs sub:List Value}{oI:Obj}{dd:Option Addr}{col:Option Bool}{newId:String}
section
variable {prog:Program}{E:VP}variable {q:Str}{bm bmB:List Value}{k0 k1 k2 k3 k5:Option Value}{Ud initId:String}
theorem pG(F:ExcBaseFacts Ud newId initId bmB)(T:OwnTail h bmB bm) 
   (hC:h.get? C=some (excClassObj nm q C N bs bm hdct sn sub ab col dd k0 k1 k2 k3 k5 newId)) (hn:h.Ns N mN) (hi:mN "__init__"=some (.ref fI)) (hfI:h.get? fI=some oI) (hfc:oI.cls=.type "function") (hrest:rest.length<=sizeLine)
   (hq:∀h' e,Heap.MadeExcOf h h' e (.ref C) rest->wpAny (model prog w) A (call (.ref fI) (.ref e::rest)) (λr s'=>r=.none/\Q (.done (.ret (.ref e))) s') E ⟨h',g,d,t,os⟩) :
   wpAny (model prog w) A (Builtin.«type.__call__» ⟨.ref C::rest,[]⟩) Q E ⟨h,g,d,t,os⟩:=by
 repeat (first|with_reducible refine P0 hC ?_|with_reducible refine wpAny_madeBy_exc hC ?_|wp_step)
 refine codeAny_call_builtin_code (Code.quiet_builtin _ F.quiet) (wpAny_check_new_subT F T hC (codeAny_exc_new_subT F T hC ?_ hrest));refine(?_:wpAny _ _ _ _ _ _);generalize hh:((h.push { cls:=.type "tuple",data:=.seq rest.toArray }).push { cls:=.ref C,data:=.fields #[.ref h.objs.size,.none,.none,.none,.bool false,.none] })=bj;have kp:∀b o,h.get? b=some o->bj.get? b=some o:=λb o e=>by rw[<- hh];exact PG _ (PG _ e)
 have hget:bj.get? (h.objs.size+1)=some { cls:=.ref C,data:=.fields #[.ref h.objs.size,.none,.none,.none,.bool false,.none] }:=by rw[<- hh];heap_get
 have hcC:(Value.ref C::bm).contains (.ref C)=true:=by simp
 unfold isInstance
 repeat (first|with_reducible refine P0 hget ?_ | (with_reducible refine QK (kp _ _ hC) ?_;rw[hcC]) | wp_step)
 show wpAny _ _ (typeLookup (.ref C) _) _ _ _;refine wpAny_typeLookup_tail (kp _ _ hC) (hn.keeps kp) (T.keeps kp) F.mroIs F.init.lookup ?_;refine hi▸?_;refine QR (OJ ?_);unfold bindSpecial;refine OJ (wpAny_typeOf (T:="function") ⟨_,kp _ _ hfI,hfc⟩ ?_);rw[if_pos (by decide)];refine PH (OJ (PO (hq _ _ (⟨kp,SJ (Sj _),h.objs.size,hget,SJ (P9 _),by rw[<- hh];exact PG _ (Heap.get?_push_at rfl rfl)⟩)) (λr s' hr=>?_) λ_ _ x=>x));obtain⟨rfl,hQ⟩:=hr
 wp_walk
 exact hQ
theorem zu(F:ExcBaseFacts Ud newId initId bmB)(T:OwnTail h bmB bm){Q:VP}
   (hC:h.get? C=some (excClassObj nm q C N bs bm hdct sn sub ab col dd k0 k1 k2 k3 k5 newId)) (hn:h.Ns N mN) (hi:mN "__init__"=some (.ref fI)) (hfI:h.get? fI=some oI) (hfc:oI.cls=.type "function") (hrest:rest.length<=sizeLine)
   (hq:∀h' e,Heap.MadeExcOf h h' e (.ref C) rest->wpAny (model prog w) (A.under (.builtin "type.__call__" ⟨.ref C::rest,[]⟩)) (call (.ref fI) (.ref e::rest)) (λr s'=>r=.none/\Q (.ref e) s') E ⟨h',g,d,t,os⟩) :
   wpAny (model prog w) A (call (.ref C) rest) Q E ⟨h,g,d,t,os⟩:=by
 have f1:=tc_lookup;have f2:=tc_bind (.ref C);have hT:(⟨h,g,d,t,os⟩:Shared).TypeIs (.ref C) "type":=⟨_,hC,rfl⟩
 refine wpAny_call (codeAny_of_tree ?_);refine(?_:wpAny _ _ (callAny (.ref C) _) _ _ _)
 repeat (any_goals (first|assumption|with_reducible refine P0 hC ?_|wp_step))
 exact⟨rfl,codeAny_call_builtin_at (Code.quiet_builtin _ (by decide +kernel)) entry_typeCall (wpAny_check_type_call_sub hC (pG F T hC hn hi hfI hfc hrest hq))⟩
theorem yw {x:Sem Value} {Q:Flow->Shared->Prop} (hbase:bm.contains (.type "BaseException")=true) (hh:A.handled=none)
   (h:wpAny M A x (λv ai=>X4 λe t D sl=>A4 (v=.ref e) (ai.heap.get? C=some (excClassObj nm q C N bs bm hdct sn sub ab col dd k0 k1 k2 k3 k5 newId)) (ai.heap.get? e=some { cls:=.ref C,dict:=D,data:=.fields #[.ref t,.none,.none,.none,.bool false,.none],slots:=sl }) (E (.ref e) ai)) E s) :
   wpAny M A (raiseStmt env (some x) none) Q E s:=by
 have hcB:(Value.ref C::bm).contains (.type "BaseException")=true:=by rw[QI,hbase,Sm]
 unfold raiseStmt;refine OJ (PO h (λv ai bj=>?_) λ_ _ x=>x);obtain⟨e,t,D,sl,rfl,hC,he,hE⟩:=bj;obtain⟨hp,g,d,tk,os⟩:=ai
 repeat (first|with_reducible refine P0 he ?_|with_reducible refine P0 hC ?_ | (with_reducible refine QK hC ?_;rw[hcB]) | wp_step)
 exact wpAny_raiseNew_none hh hE
end
open Builtin Builtin.ObjectAttr
variable {D:Addr}{vs:Array Value}{hdct':Bool}{ns:List Str}{name:Str}{mN' mA:Str->Option Value}{Q:Unit->Shared->Prop}
section
variable {prog:Program}{E:VP}variable {q nm' q':Str}{C' N' x:Addr}{bs':List Value}{sn':List Str}{sub':List Value}{ab':Bool}{col':Option Bool}{dd':Option Addr}{k0 k1 k2 k3 k5 k0' k1' k2' k3' k5':Option Value}{newId':String}
inductive Two(h:Heap)(C:Addr)(mN mN':Str->Option Value):Prop where
 |mk (nm q nm' q':Str) (N C' N':Addr) (bs bs':List Value) (hdct':Bool) (sn sn':List Str) (sub sub':List Value) (ab ab':Bool) (col col':Option Bool) (dd dd':Option Addr) (k0 k1 k2 k3 k5 k0' k1' k2' k3' k5':Option Value) (newId newId':String)
   (h1:h.get? C=some (excClassObj nm q C N bs (.ref C'::fR) true sn sub ab col dd k0 k1 k2 k3 k5 newId)) (h2:h.Ns N mN) (h3:h.get? C'=some (excClassObj nm' q' C' N' bs' fR hdct' sn' sub' ab' col' dd' k0' k1' k2' k3' k5' newId')) (h4:h.Ns N' mN'):Two h C mN mN'
theorem fA {n:Str} {Q:Option Value->Shared->Prop} (T:Two h C mN mN') (hn:mN n=none) (hn':mN' n=none) (hB:typeLookup (.type "ValueError") n=pure y) (hq:Q y ⟨h,g,d,t,os⟩) :
   wpAny M A (typeLookup (.ref C) n) Q E ⟨h,g,d,t,os⟩:=by
 have hrest:lookupAlong fR n=pure y:=by rw[typeLookup_eq,F.excBase_ValueError.mroIs]at hB;exact hB
 cases T with
 |mk _ _ _ _ _ _ _ _ _ _ _ _ _ _ _ _ _ _ _ _ _ _ _ _ _ _ _ _ _ _ _ _ h1 h2 h3 h4=>
 rw[typeLookup_eq];refine OJ (wpAny_mroOf_exc h1 ?_);rw[lookupAlong_cons];refine OJ (wpAny_classOwn_exc h1 h2 ?_);rw[hn];show wpAny M A (lookupAlong (.ref _::fR) n) Q E _;rw[lookupAlong_cons];refine OJ (wpAny_classOwn_exc h3 h4 ?_);rw[hn'];show wpAny M A (lookupAlong fR n) Q E _;rw[hrest];exact PH hq
inductive ClsAt(h:Heap)(C:Addr):Prop
 |mk (nm q:Str) (N C':Addr) (bs:List Value) (sn:List Str) (sub:List Value) (ab:Bool) (col:Option Bool) (dd:Option Addr) (k0 k1 k2 k3 k5:Option Value) (newId:String) (hC:h.get? C=some (excClassObj nm q C N bs (.ref C'::fR) true sn sub ab col dd k0 k1 k2 k3 k5 newId)):ClsAt h C
theorem Two.cls(T:Two h C mN mN'):ClsAt h C:=by
 cases T with
 |mk _ _ _ _ _ _ _ _ _ _ _ _ _ _ _ _ _ _ _ _ _ _ _ _ _ _ _ _ _ _ _ _ h1 h2 h3 h4=>exact⟨_,_,_,_,_,_,_,_,_,_,_,_,_,_,_,_,h1⟩
theorem sO(T:Two h C mN mN')(hx:h.get? x=some o)(hc:o.cls=.ref C)(hq:Q () ⟨h,g,d,t,os⟩) :
   wpAny M A (checkBuiltinCall "object.__setattr__" ⟨[.ref x,nameV,v],[]⟩) Q E ⟨h,g,d,t,os⟩:=by
 obtain⟨nm,q,N,C',bs,sn,sub,ab,col,dd,k0,k1,k2,k3,k5,newId,hC⟩:=T.cls;have hcB:(Value.ref C::.ref C'::fR).contains (.type "object")=true:=by rw[QI,QI,show fR.contains (.type "object")=true from rfl,Sm,Sm]
 unfold checkBuiltinCall;refine F.store_ValueError.kind▸F.store_ValueError.split▸?_;refine OJ ?_
 . unfold isInstance
   repeat (first | (with_reducible refine P0 hx ?_;refine hc▸?_) | (with_reducible refine QK hC ?_;rw[hcB]) | wp_step)
   exact hq
theorem BA {Q:Fin->Shared->Prop} (T:Two h C mN mN') (hna:mN name=none) (hna':mN' name=none) (hB:typeLookup (.type "ValueError") name=pure none) (hx:h.get? x=some o) (hc:o.cls=.ref C) (hdn:o.dict=none) (hdat:o.data=.fields vs)
   (hq:∀h' tk',h'.get? x=some { o with dict:=some h.objs.size }->h'.Ns1 h.objs.size (λy=>if y=name then some v else none)->(∀b o,b≠x->h.get? b=some o->h'.get? b=some o)->Q (.done (.ret .none)) ⟨h',g,d,tk',os⟩) :
   wpAny (model prog w) A (Builtin.«object.__setattr__» ⟨[.ref x,.str name tk,v],[]⟩) Q E ⟨h,g,d,t,os⟩:=by
 obtain⟨nm,q,N,C',bs,sn,sub,ab,col,dd,k0,k1,k2,k3,k5,newId,hC⟩:=T.cls;unfold Builtin.«object.__setattr__»
 repeat (first|rw[refuse_eq] | (rw[refuseLoop_ref,refuseLoop_ref,(F.store_ValueError.passes (.ref x))]) | (with_reducible refine P0 hx ?_;rw[hc]) | with_reducible refine wpAny_mroOf_exc hC ?_|with_reducible refine fA T hna hna' hB ?_|wp_step)
 rw[hdn];show wpAny _ _ (if (!true||!typeHasDict (Value.ref C))=true then pure none else _) _ _ _;rw[if_neg (by simp[typeHasDict]),hdat];have I0:(h.push { cls:=.type "dict",data:=.dict #[] }).get? x=some o:=PG _ hx;have hxs:x≠h.objs.size:=QE (Qx hx);refine OJ (wpAny_alloc' ?_);refine OJ (wpAny_update' I0 (PH ?_));show wpAny _ _ (storeInDict h.objs.size (.str name tk) name v) _ _ _;generalize hh:((h.push { cls:=.type "dict",data:=.dict #[] }).update x λo=>{ cls:=o.cls,dict:=some h.objs.size,data:=o.data,slots:=o.slots })=gg;have hgd:gg.get? h.objs.size=some { cls:=.type "dict",data:=.dict #[] }:=by rw[<- hh];exact(Heap.get?_update_ne _ _ _ _ hxs.symm).trans (Heap.get?_push_at rfl rfl)
 have M6:gg.get? x=some { o with dict:=some h.objs.size }:=by rw[<- hh];refine QU _ I0 ?_;obtain⟨oc,od,odt,osl⟩:=o;clear hq;subst hdat;rfl
 have kp:∀b o,b≠x->h.get? b=some o->gg.get? b=some o:=λb o hb e=>by rw[<- hh];exact(Heap.get?_update_ne _ _ _ _ hb).trans (PG _ e)
 unfold storeInDict newKeyGuard;refine OJ (PH (OJ (wpAny_nsSet1 (Heap.Ns1.of_empty ⟨_,#[],_,hgd,rfl,λe he=>absurd he (by simp),λ_=>rfl⟩) λh' hn' hs=>?_)));obtain⟨oD,esD,epD,hoD,hdD,hcD⟩:=hn'.count (Within.cons name v Within.nil);refine OJ (wpAny_lookBehind hoD (by rw[hdD];exact pastItsLine_dict (iv hcD (by rw[PX,Q6,sizeLine_eq];decide))) ?_)
 wp_walk
 exact hq h' _ ((hs.2 x hxs).trans M6) hn' λb o hb e=>(hs.2 b (QE (Qx e))).trans (kp b o hb e)
theorem Dl {Q:Fin->Shared->Prop} (T:Two h C mN mN') (hna:mN name=none) (hna':mN' name=none) (hB:typeLookup (.type "ValueError") name=pure none) (hx:h.get? x=some o) (hc:o.cls=.ref C) (hdx:o.dict=some D)
   (hns:h.Ns1 D mA) (hw:Within mA ns) (hsz:ns.length+1<=1000)
   (hq:∀h' tk',h'.Ns1 D (λy=>if y=name then some v else mA y)->(∀b o,b≠D->h.get? b=some o->h'.get? b=some o)->Q (.done (.ret .none)) ⟨h',g,d,tk',os⟩) :
   wpAny (model prog w) A (Builtin.«object.__setattr__» ⟨[.ref x,.str name tk,v],[]⟩) Q E ⟨h,g,d,t,os⟩:=by
 obtain⟨nm,q,N,C',bs,sn,sub,ab,col,dd,k0,k1,k2,k3,k5,newId,hC⟩:=T.cls;unfold Builtin.«object.__setattr__»
 repeat (first|rw[refuse_eq] | (rw[refuseLoop_ref,refuseLoop_ref,(F.store_ValueError.passes (.ref x))]) | (with_reducible refine P0 hx ?_;rw[hc]) | with_reducible refine wpAny_mroOf_exc hC ?_|with_reducible refine fA T hna hna' hB ?_|wp_step)
 refine hdx▸?_;refine PH ?_;refine(?_:wpAny _ _ (storeInDict D (.str name tk) name v) _ _ _);unfold storeInDict newKeyGuard;refine OJ (PH (OJ (wpAny_nsSet1 hns λh' hn' hs=>?_)));obtain⟨oD,esD,epD,hoD,hdD,hcD⟩:=hn'.count (Within.cons name v hw);refine OJ (wpAny_lookBehind hoD (by rw[hdD];exact pastItsLine_dict (iv hcD (by rw[PX,sizeLine_eq];lia))) ?_)
 wp_walk
 exact hq h' _ hn' λb o hb e=>(hs.2 b hb).trans e
theorem oU (T:Two h C mN mN') (hs:mN "__setattr__"=none) (hs':mN' "__setattr__"=none) (hx:h.get? x=some o) (hc:o.cls=.ref C)
   (hent:∀(A':Around) (E':VP) (Q':Fin->Shared->Prop) (tk:Tok) (t':Nat),(∀h' tk',Q () ⟨h',g,d,tk',os⟩->Q' (.done (.ret .none)) ⟨h',g,d,tk',os⟩)->wpAny (model prog w) A' (Builtin.«object.__setattr__» ⟨[.ref x,.str name tk,v],[]⟩) Q' E' ⟨h,g,d,t',os⟩) :
   wpAny (model prog w) A (setAttr (.ref x) name v) Q E ⟨h,g,d,t,os⟩:=by
 have f3:=F.store_ValueError.slot.bind (.ref x);unfold setAttr callSpecial? specialOf
 repeat (any_goals (first|assumption | (with_reducible refine P0 hx ?_;refine hc▸?_) | with_reducible refine fA T hs hs' F.store_ValueError.slot.lookup ?_|wp_step))
 refine codeAny_call_builtin F.store_ValueError.slot.plain F.store_ValueError.entry (sO T hx hc (hent _ _ _ _ _ λh' tk' hQ=>?_))
 repeat (any_goals (first|assumption|wp_step))
end
variable {expr:Bool}
section
variable {prog:Program}{E:VP}variable {x:Addr}
theorem rA {Q:Fin->Shared->Prop} (T:Two h C mN mN') (hna:mN name=none) (hna':mN' name=none) (hB:typeLookup (.type "ValueError") name=pure none) (hx:h.get? x=some o) (hc:o.cls=.ref C) (hdat:o.data=.fields vs) (hdx:o.dict=some D) (hns:h.Ns1 D mA) (hv:mA name=some v)
   (hq:Q (.done (.ret v)) ⟨h,g,d,t,os⟩):wpAny (model prog w) A (Builtin.«object.__getattribute__» ⟨[.ref x,.str name tk],[]⟩) Q E ⟨h,g,d,t,os⟩:=by
 repeat (any_goals (first|assumption | (with_reducible refine P0 hx ?_;rw[hc]) | with_reducible refine fA T hna hna' hB ?_|wp_step))
 rw[hdat];show wpAny _ _ (instanceDict x false) _ _ _;unfold instanceDict;obtain⟨nm,q,N,C',bs,sn,sub,ab,col,dd,k0,k1,k2,k3,k5,newId,hC⟩:=T.cls
 repeat (first | (with_reducible refine P0 hx ?_;rw[hc]) | with_reducible refine P0 hC ?_|wp_step)
 refine hdx▸?_
 repeat (first | (with_reducible refine wpAny_nsGet hns.ns ?_;refine hv▸?_) | wp_step)
 exact hq
theorem sQ (T:Two h C mN mN') (hx:h.get? x=some o) (hc:o.cls=.ref C) (hq:Q () ⟨h,g,d,t,os⟩):wpAny M A (checkBuiltinCall "BaseException.__getattribute__" ⟨[.ref x,nameV],[]⟩) Q E ⟨h,g,d,t,os⟩:=by
 obtain⟨nm,q,N,C',bs,sn,sub,ab,col,dd,k0,k1,k2,k3,k5,newId,hC⟩:=T.cls;have hk:builtinKind "BaseException.__getattribute__"=some .slot:=by decide +kernel
 have hsplit:splitId "BaseException.__getattribute__"=some ("BaseException","__getattribute__"):=by decide +kernel
 have hcB:(Value.ref C::.ref C'::fR).contains (.type "BaseException")=true:=by rw[QI,QI,show fR.contains (.type "BaseException")=true from rfl,Sm,Sm]
 unfold checkBuiltinCall;refine hk▸hsplit▸?_;refine OJ ?_
 . unfold isInstance
   repeat (first | (with_reducible refine P0 hx ?_;refine hc▸?_) | (with_reducible refine QK hC ?_;rw[hcB]) | wp_step)
   exact hq
theorem xf {Q:VP} (T:Two h C mN mN') (hg:mN "__getattribute__"=none) (hg':mN' "__getattribute__"=none) (hga:mN "__getattr__"=none) (hga':mN' "__getattr__"=none) (hna:mN name=none) (hna':mN' name=none) (hB:typeLookup (.type "ValueError") name=pure none) (hx:h.get? x=some o) (hc:o.cls=.ref C) (hdat:o.data=.fields vs) (hdx:o.dict=some D) (hns:h.Ns1 D mA) (hv:mA name=some v) (hh:handedOut v=pure v)
   (hq:∀t',Q v ⟨h,g,d,t',os⟩):wpAny (model prog w) A (getAttr (.ref x) name expr) Q E ⟨h,g,d,t,os⟩:=by
 have f3:=F.excAttr_ValueError.ga.bind (.ref x);have hx2:(Value.builtin "BaseException.__getattribute__"==Value.builtin "object.__getattribute__")=false:=by decide +kernel
 have hx1:(onTheHeap (Value.ref C)&&Value.builtin "BaseException.__getattribute__"==Value.builtin "object.__getattribute__")=false:=by rw[hx2];rfl
 unfold getAttr getAttrBy
 repeat (any_goals (first|assumption | (with_reducible refine P0 hx ?_;rw[hc]) | with_reducible refine fA T hg hg' wU ?_|with_reducible refine fA T hga hga' pg ?_|wp_step))
 rw[if_neg (by cases expr<;>exact PY)];unfold boundAndCalled
 repeat (any_goals (first|assumption | (with_reducible refine P0 hx ?_;rw[hc]) | wp_step))
 refine codeAny_call_builtin F.excAttr_ValueError.ga.plain F.entry_bexc_ga (sQ T hx hc (rA T hna hna' hB hx hc hdat hdx hns hv ?_))
 repeat (any_goals (first|assumption|wp_step))
 exact hq _
end
theorem tK:typeLookup (.type "ValueError") j5=pure none:=by rw[typeLookup_type,builtinLookup_eq_fast];kernel_rfl
theorem o8:typeLookup (.type "ValueError") dG=pure none:=by rw[typeLookup_type,builtinLookup_eq_fast];kernel_rfl
inductive Cl6(h:Heap):Prop where
 |mk (mN mN':Str->Option Value) (T:Two h (KA 6) mN mN') (q:∀n∈fh,mN n=none/\mN' n=none) (I:InitX h mN) (O:OwnTail h fR (d7 6)) (nm q':Str) (N:Addr) (bs:List Value) (sn:List Str) (sub:List Value) (ab:Bool) (col:Option Bool) (dd:Option Addr) (k0 k1 k2 k3 k5:Option Value) (hC:h.get? (KA 6)=some (excClassObj nm q' (KA 6) N bs (d7 6) true sn sub ab col dd k0 k1 k2 k3 k5 "ValueError.__new__")) (hN:h.Ns N mN):Cl6 h
theorem Fw(X6:XAt h 6)(X0:XAt h 0):Cl6 h:=by obtain⟨nm,q,N,bs,hdct,sn,sub,ab,col,dd,k0,k1,k2,k3,k5,mN,h1,h2,h3,_,h5⟩:=X6;obtain⟨nm',q',N',bs',hdct',sn',sub',ab',col',dd',k0',k1',k2',k3',k5',mN',h1',h2',h3',h4',_⟩:=X0;obtain⟨rfl,i⟩:=h5 rfl;exact⟨mN,mN',⟨nm,q,nm',q',N,KA 0,N',bs,bs',hdct',sn,sn',sub,sub',ab,ab',col,col',dd,dd',k0,k1,k2,k3,k5,k0',k1',k2',k3',k5',_,_,h1,h2,h1',h2'⟩,λn hn=>⟨h3 n hn,h3' n hn⟩,i,.own h1' h2' (h4' (PR _)) .base,nm,q,N,bs,sn,sub,ab,col,dd,k0,k1,k2,k3,k5,h1,h2⟩
theorem Two.keeps(T:Two h C mN mN')(kp:∀b o,h.get? b=some o->h'.get? b=some o):Two h' C mN mN':=by
 cases T with
 |mk nm q nm' q' N C' N' bs bs' hdct' sn sn' sub sub' ab ab' col col' dd dd' k0 k1 k2 k3 k5 k0' k1' k2' k3' k5' newId newId' h1 h2 h3 h4=>exact⟨nm,q,nm',q',N,C',N',bs,bs',hdct',sn,sn',sub,sub',ab,ab',col,col',dd,dd',k0,k1,k2,k3,k5,k0',k1',k2',k3',k5',newId,newId',kp _ _ h1,h2.keeps kp,kp _ _ h3,h4.keeps kp⟩
inductive Made6(h h':Heap)(e:Addr)(v1 v2:Value):Prop where
 |mk (t D:Addr) (sl:Array (Option Value)) (m:Str->Option Value) (kp:∀b o,h.get? b=some o->h'.get? b=some o) (h1:h.get? e=none) (h2:h'.get? e=some { cls:=.ref (KA 6),dict:=some D,data:=.fields #[.ref t,.none,.none,.none,.bool false,.none],slots:=sl }) (h3:h.get? D=none) (h4:h'.Ns1 D m) (h5:m j5=some v1/\m dG=some v2):Made6 h h' e v1 v2
variable {p0 p1 p2:Str}
section
variable {prog:Program}{E:VP}theorem xQ{Uc:Str->Option NameKind}(h0:Uc p0=some .local)(h1:Uc p1=some .local)(h2:Uc p2=some .local)(a b c:Value):bindL Uc [(p0,a),(p1,b),(p2,c)] (λ_=>none)=λy=>if y=p2 then some c else if y=p1 then some b else if y=p0 then some a else none:=by unfold bindL bindL bindL bindL;rw[if_pos h0,if_pos h1,if_pos h2]
theorem zk{v1 v2:Value}{Q:VP}(X:Cl6 h)(hlim:h.NoLimit)(hroom:A.depth+1 < recursionLimit)(q:∀h' tk e,Made6 h h' e v1 v2->Q (.ref e) ⟨h',g,d,tk,os⟩) :
   wpAny (model prog w) A (call (.ref (KA 6)) [v1,v2]) Q E ⟨h,g,d,t,os⟩:=by
 obtain⟨mN,mN',T,qn,⟨f,o,fd,p0,p1,p2,n1,n2,n3,n4,n5,n6,n7,n8,i1,i2,i3,i4,i5,i6,i7,i8,i9,i10,i11⟩,OT,nm,q',N,bs,sn,sub,ab,col,dd,k0,k1,k2,k3,k5,hC,hN⟩:=X;have hl:=λp hp=>(i10 p hp).1;have l0:=hl p0 (PF ..);have l1:=hl p1 (PD _ (PF ..));have l2:=hl p2 (PD _ (PD _ (PF ..)));have g0:=(cV (i10 p0 (PF ..)).2).1;have g1:=(cV (i10 p1 (PD _ (PF ..))).2).1;have g2:=(cV (i10 p2 (PD _ (PD _ (PF ..)))).2).1;refine zu PySem.F.excBase_ValueError OT hC hN i1 i2 i3 (by simp[sizeLine]) λbj e M=>?_;obtain⟨tu,he,htu,_⟩:=M.there;refine wpAny_call (codeAny_call_cells hroom (M.keeps _ _ i2) i4 (hlim.keeps M.keeps) (i7.keeps M.keeps) i5 (i9 (.ref e) v1 v2) i6 (λy hy=>.inl ?_) (λai x=>?_) i8.2.1 i8.2.2 i8.1)
 . rcases PM.mp hy with rfl|hy
   . exact l0
   . rcases PM.mp hy with rfl|hy
     . exact l1
     . exact(PL.mp hy)▸l2
 . have hns:=x.toInCall.ns;rw[xQ (Uc:=(callEnvC fd bj.objs.size f).kindOf) l0 l1 l2]at hns;have hfr:bj.get? (callEnvC fd bj.objs.size f).locals=none:=hX x.toInCall.fresh;obtain⟨gg,Mk,rfl,Hm⟩:=x.done;generalize hL:(callEnvC fd bj.objs.size f).locals=L at hns hfr;have hk0:(callEnvC fd bj.objs.size f).kindOf p0=some .local:=l0;have hk1:(callEnvC fd bj.objs.size f).kindOf p1=some .local:=l1;have hk2:(callEnvC fd bj.objs.size f).kindOf p2=some .local:=l2;have hke:(callEnvC fd bj.objs.size f).scope.kind=.function:=i8.1;clear x;generalize callEnvC fd bj.objs.size f=env at hk0 hk1 hk2 hke hL ⊢;have po:=Hm _ _ he;have eL:e≠L:=λz=>by rw[<- z,he]at hfr;injection hfr
   have wY:∀b o,h.get? b=some o->gg.get? b=some o:=λb o z=>Hm b o (M.keeps b o z);have s1:=qn "__setattr__" (by simp[fh]);have s2:=qn j5 (by simp[fh]);have s3:=qn dG (by simp[fh]);have ldN:∀{A':Around} {E':VP} {Q':VP} {p:Str} {np:Pos} {v:Value} {s':Shared} {m':Str->Option Value},env.kindOf p=some .local->(p==("__debug__":Str))=false->s'.heap.Ns L m'->m' p=some v->Q' v s'->wpAny (model prog w) A' (eval (.Name p np) env) Q' E' s':=λhk hg hn hm hq=>wpAny_Name (wpAny_loadName_local hke hk (hL▸hn) hm hq) hg;rw[arm_execs_cons];refine OJ (plainObj_wpAny_Assign_Attribute (ldN (s':=⟨gg,g,d,Mk,os⟩) hk1 g1 hns (v:=v1) ?_ (ldN hk0 g0 hns (v:=.ref e) ?_ ?_)))
   . show (if p1=p2 then some v2 else if p1=p1 then some v1 else _)=some v1;rw[if_neg (Ne.symm i11.2.2),if_pos rfl]
   . show (if p0=p2 then some v2 else if p0=p1 then some v1 else if p0=p0 then some (Value.ref e) else none)=_;rw[if_neg (Ne.symm i11.2.1),if_neg (Ne.symm i11.1),if_pos rfl]
   refine oU (T.keeps wY) s1.1 s1.2 po rfl λA' E' Q' tk t' k=>BA (T.keeps wY) s2.1 s2.2 tK po rfl rfl rfl λoJ IM HP nD kD=>k oJ IM ?_;have rJ:gg.get? gg.objs.size=none:=bo _;generalize gg.objs.size=D at rJ HP nD kD ⊢;have Ez:oJ.Ns L _:=hns.at λo z=>kD L o (Ne.symm eL) z;have Er:∀b o,h.get? b=some o->oJ.get? b=some o:=λb o z=>kD b o (λy=>by rw[y,M.new]at z;injection z) (wY b o z);refine(?_:wpAny _ _ (PySem.execs [_] env) _ _ _);rw[arm_execs_cons];refine OJ (plainObj_wpAny_Assign_Attribute (ldN (s':=⟨oJ,g,d,IM,os⟩) hk2 g2 Ez (v:=v2) ?_ (ldN hk0 g0 Ez (v:=.ref e) ?_ ?_)))
   . show (if p2=p2 then some v2 else _)=some v2;exact(if_pos rfl)
   . show (if p0=p2 then some v2 else if p0=p1 then some v1 else if p0=p0 then some (Value.ref e) else none)=_;rw[if_neg (Ne.symm i11.2.1),if_neg (Ne.symm i11.1),if_pos rfl]
   have hDe:D≠e:=λz=>by rw[z,po]at rJ;injection rJ
   refine oU (T.keeps Er) s1.1 s1.2 HP rfl λA' E' Q' tk t' k=>Dl (ns:=[j5]) (T.keeps Er) s3.1 s3.2 o8 HP rfl rfl nD (Within.cons j5 v1 Within.nil) (by simp) λHu IK MT M2=>k Hu IK ?_;refine wpAny_execs_nil ⟨rfl,q Hu IK e ⟨tu,D,_,_,λb o z=>M2 b o (λy=>?_) (Er b o z),M.new,M2 _ _ (Ne.symm hDe) HP,?_,MT,?_,?_⟩⟩
   . rw[y]at z;rw[wY _ _ z]at rJ;injection rJ
   . cases z:h.get? D with
     |none=>rfl
     |some o=>rw[wY _ _ z]at rJ;injection rJ
   . show (if j5=dG then some v2 else if j5=j5 then some v1 else none)=_;rw[if_neg (by decide),if_pos rfl]
   . show (if dG=dG then some v2 else _)=_;exact(if_pos rfl)
end
variable {d:Nat}variable {en:Bool}{I:Items}{names:KS}{tk:Nat}{scope:Scope}{it:Value}
section
variable {ex:Expr}theorem ItPost.back(S:Step cz Y U s ag aa ai)(h:ItPost Z A en I ag aa ai ae it aq):ItPost Z A en I Y U s ae it aq:=by obtain⟨a5,T,e,e1,e2,S',I',hf,r1,r2,r3⟩:=h;exact⟨a5,T,e,e1,e2,S.trans S',I',λa ha=>⟨S.alive a (hf a ha).1,(hf a ha).2⟩,r1,r2,r3⟩theorem ME(he:PE Z P gn G cf d e):LH Z P gn G cf d (.seq e):=λks sc ex env K A Y U s I aa hm hA hh F Iv e'=>by refine kk λUc k=>?_;rw[Lk]at e';obtain⟨x,ae,h1,h2⟩:=Res.bind_ok e';clear e';obtain⟨⟨l,lk⟩,ho,rfl,rfl⟩:=jm h2;refine k ?_;refine PO ((he ks sc ex env K A Y U s hm hA F Iv).1 x aa h1) (λv ai ⟨ag,aH,ay,rv⟩=>?_) λ_ _ x=>x;exact PO (wD hh ay rv ho) (λit aq h=>h.back aH) λ_ _ x=>x
theorem qJ{m n:Int}{t u v:Tok}(hh:A.handled=none)(ha:-100000<=m/\m<=100000)(hb:-100000<=n/\n<=100000)(S:Step cz Y U s ag aa ai)(I:Inv Z ag aa ai.heap)(r:IsRange (ai.heap.push o) ai.heap.objs.size m n 1 t u v) :
   WP Z A (pyIter (.ref ai.heap.objs.size)) (λit aq=>ItPost Z A false ⟨b8 m n,[],none⟩ Y U s aa it aq) (λ_ _=>False) { ai with heap:=ai.heap.push o,toks:=tk }:=
 have cC:Step cz ag aa ai ag aa { ai with heap:=ai.heap.push o,toks:=tk }:=Step.grow (bw _) rfl rfl
 PO (wy hh ha hb (I.grow (bw (h:=ai.heap) o)) r) (λit aq h=>h.back (S.trans cC)) λ_ _ x=>x
theorem GY(D:Wd Z P gn G cf d)(he:PE Z P gn G cf d e):LH Z P gn G cf d (.range e):=λks sc ex env K A Y U s I aa hm hA hh F Iv e'=>by
 replace hm:=av hm;obtain⟨⟨x,args⟩,h0,hm⟩:=hm;apply y9 (eU h0);intro p pos;replace hm:=av hm;obtain⟨a,h00,hm⟩:=hm;apply iY (dC h00:args=[a]);obtain⟨hx,hg,hs,hm⟩:=sA hm;rw[Fg]at e';obtain⟨y,ae,h1,h2⟩:=Res.bind_ok e';clear e';obtain⟨b,hy,hb,rfl,rfl⟩:=BG h2;have trees:backTo pos (starEach [a] env)=[(false,eval a env)]:=by rw[bc _ hs];rfl
 replace hx:x=("range":Str):=of_decide_eq_true hx;refine PyProof.Rows.Call_Name trees (fK D F Iv hg (hx▸D.b.range.1) (hx▸D.b.range.2) ?_);refine Q9 rfl (evalArgs_plain (spliced_cons (PO ((he ks sc a env K A Y U s hm hA F Iv).1 _ _ h1) (λv ai ⟨ag,aH,ay,rv⟩=>spliced_nil ?_) λ_ _ x=>x)));replace rv:aE ag aa ai.heap v (.d (.int b)):=hy▸rv;apply gj (mV rv);intro t;exact call_range_1 (qJ hh (by decide) hb aH ay (IsRange.new ..))
theorem DW(D:Wd Z P gn G cf d){y7 lQ:E}(bj:PE Z P gn G cf d y7)(gg:PE Z P gn G cf d lQ):LH Z P gn G cf d (.range2 y7 lQ):=λks sc ex env K A Y U s I aa hm hA hh F Iv e'=>by
 replace hm:=av hm;obtain⟨⟨x,args⟩,h0,hm⟩:=hm;apply y9 (eU h0);intro p pos;replace hm:=av hm;obtain⟨⟨a,b⟩,h00,hm⟩:=hm;apply iY (jx h00:args=[a,b]);obtain⟨hx,hg,hs,hm,hs',hm'⟩:=zH hm;rw[Cd]at e';obtain⟨y,ae,q1,q2⟩:=Res.bind_ok e';obtain⟨z,aF,q2,q3⟩:=Res.bind_ok q2;clear e';obtain⟨m,n,hy,hz,hb,rfl,rfl⟩:=yv q3;have trees:backTo pos (starEach [a,b] env)=[(false,eval a env),(false,eval b env)]:=by rw[bc _ hs,bc _ hs'];rfl
 replace hx:x=("range":Str):=of_decide_eq_true hx;refine PyProof.Rows.Call_Name trees (fK D F Iv hg (hx▸D.b.range.1) (hx▸D.b.range.2) ?_);refine Q9 rfl (evalArgs_plain (spliced_cons (PO ((bj ks sc a env K A Y U s hm hA F Iv).1 _ _ q1) (λv ai ⟨ag,aH,ay,rv⟩=>spliced_cons (PO ((gg ks sc b env K A ag ae ai hm' hA (F.step aH) ay).1 _ _ q2) (λu aq ⟨a5,cC,cD,ru⟩=>spliced_nil ?_) λ_ _ x=>x)) λ_ _ x=>x)));replace rv:aE ag ae ai.heap v (.d (.int m)):=hy▸rv;replace ru:aE a5 aa aq.heap u (.d (.int n)):=hz▸ru;apply gj (mV rv);intro t;apply gj (mV ru);intro t';exact call_range_2 (qJ hh hb.1 hb.2 (aH.trans cC) cD (IsRange.new ..))
theorem Kg(D:Wd Z P gn G cf d)(he:PE Z P gn G cf d e):LH Z P gn G cf d (.enum e):=λks sc ex env K A Y U s I aa hm hA hh F Iv e'=>by
 replace hm:=av hm;obtain⟨⟨x,args⟩,h0,hm⟩:=hm;apply y9 (eU h0);intro p pos;replace hm:=av hm;obtain⟨a,h00,hm⟩:=hm;apply iY (dC h00:args=[a]);obtain⟨hx,hg,hs,hm⟩:=sA hm;rw[H4]at e';obtain⟨y,ae,h1,h2⟩:=Res.bind_ok e';obtain⟨l,hl,h2⟩:=iz h2;injection h2 with e f;subst e;subst f;have trees:backTo pos (starEach [a] env)=[(false,eval a env)]:=by rw[bc _ hs];rfl
 replace hx:x=("enumerate":Str):=of_decide_eq_true hx;refine PyProof.Rows.Call_Name trees (fK D F Iv hg (hx▸D.b.enum.1) (hx▸D.b.enum.2) ?_);refine Q9 rfl (evalArgs_plain (spliced_cons (PO ((he ks sc a env K A Y U s hm hA F Iv).1 _ _ h1) (λv ai ⟨ag,aH,ay,rv⟩=>spliced_nil ?_) λ_ _ x=>x)));rw[eu hl]at rv;exact PO (zb hh ay rv) (λx aq h=>PO h (λit aW h=>h.back aH) λ_ _ x=>x) λ_ _ x=>x
set_option tactic.hygienic true in
theorem zi:∀{acc:List (Str×Addr)},(∀x∈names,x.2=.free->∃c,env.cells.lookup x.1=some c)->(∀x c,acc.lookup x=some c->env.cells.lookup x=some c)->
   ∃cl,A4 ((forIn names acc λ(x:Str×NameKind) (cs:List (Str×Addr))=>(if (x.2==.free)=true then do let c <- cellOf env x.1;pure (ForInStep.yield ((x.1,c)::cs)) else pure (ForInStep.yield cs):Sem (ForInStep (List (Str×Addr)))))=(pure cl:Sem (List (Str×Addr)))) ((∀x c,cl.lookup x=some c->env.cells.lookup x=some c)) ((∀x,(x,NameKind.free)∈names\/(acc.lookup x).isSome=true->(cl.lookup x).isSome=true)) ((∀x,(cl.lookup x).isSome=true->(x,NameKind.free)∈names\/(acc.lookup x).isSome=true)):=by
 induction names with
 |nil=>intro acc _ ha;exact⟨acc,rfl,ha,λx h=>h.elim (λq=>by cases q) id,λx h=>.inr h⟩
 |cons n ns ih=>
   intro acc hn ha;obtain⟨n,k⟩:=n;by_cases hk:k=.free
   . subst hk;obtain⟨c,hc⟩:=hn (n,.free) (PF ..) rfl;have hc:env.cells.lookup n=some c:=hc;obtain⟨cl,h1,h2,h3,h4⟩:=ih (acc:=(n,c)::acc) (λx hx=>hn x (PD _ hx)) (λx c' h=>by
       rw[P2]at h;split at h
       . rename_i hxn;have:=eq_of_beq hxn;clear hc;subst this;injection h with e;subst e;exact hc
       . exact ha x c' h)
     refine⟨cl,?_,h2,λx h=>h3 x ?_,λx h=>?_⟩
     . rw[List.forIn_cons];have:cellOf env n=pure c:=by unfold cellOf;rw[hc]
       simp only[this];exact h1
     . rcases h with h|h
       . rcases PM.mp h with h|h
         . cases h;right;simp[P2]
         . exact .inl h
       . right;rw[P2];split
         . rfl
         . exact h
     . rcases h4 x h with h|h
       . exact .inl (PD _ h)
       . rw[P2]at h;split at h
         . rename_i hxn;have:=eq_of_beq hxn;clear h3 h4 h1 hn;subst this;exact .inl (PF ..)
         . exact .inr h
   . obtain⟨cl,h1,h2,h3,h4⟩:=ih (acc:=acc) (λx hx=>hn x (PD _ hx)) ha;refine⟨cl,?_,h2,λx h=>h3 x ?_,λx h=>?_⟩
     . rw[List.forIn_cons];have:(k==NameKind.free)=false:=by simpa using hk
       simp only[this,SY,if_false];exact h1
     . rcases h with h|h
       . rcases PM.mp h with h|h
         . clear hn;injection h with e f;subst e;subst f;exact absurd rfl hk
         . exact .inl h
       . exact .inr h
     . exact(h4 x h).imp (PD _) id
theorem sM(hn:∀x∈scope.names,x.2=.free->∃c,env.cells.lookup x.1=some c) :
   ∃cl,A4 (closureFor scope env=pure cl) ((∀x c,cl.lookup x=some c->env.cells.lookup x=some c)) ((∀x,(x,NameKind.free)∈scope.names->(cl.lookup x).isSome=true)) ((∀x,(cl.lookup x).isSome=true->(x,NameKind.free)∈scope.names)):=by
 obtain⟨cl,h1,h2,h3,h4⟩:=zi (acc:=[]) hn (λx c h=>by injection h);refine⟨cl,?_,h2,λx h=>h3 x (.inl h),λx h=>(h4 x h).elim id λq=>by injection q⟩;have e:closureFor scope env=((forIn scope.names ([]:List (Str×Addr)) λ(x:Str×NameKind) (cs:List (Str×Addr))=>(if (x.2==.free)=true then do let c <- cellOf env x.1;pure (ForInStep.yield ((x.1,c)::cs)) else pure (ForInStep.yield cs):Sem (ForInStep (List (Str×Addr))))) >>= λcs=>pure cs):=rfl;rw[e,h1];rfl
end
variable {tx:Expr}{l is:List Nat}{dd:PyData}{t:Tgt}theorem o6(h:kr sc (i::l) xs=true):X3 λx p ys=>A3 (xs=.Name x p::ys) (sc.lookup x=some i) (kr sc l ys=true):=by replace h:=av h;obtain⟨⟨y,ys⟩,h0,h⟩:=h;replace h:=av h;obtain⟨x,h1,h⟩:=h;obtain⟨p,h1⟩:=bO h1;simp only[P3,decide_eq_true_eq]at h;exact⟨x,p,ys,by rw[oq h0];exact congrArg (·::ys) h1,h.1,h.2⟩
theorem mK:∀{l:List Nat} {xs:List Expr},kr sc l xs=true->(assignEach xs env).length=l.length/\(assignEach xs env).findIdx? (·.1)=none
 |[],xs,h=>by have h:=gc h;subst h;exact⟨rfl,rfl⟩
 |i::l,xs,h=>by replace h:=o6 h;obtain⟨x,p,ys,rfl,_,h⟩:=h;have ih:=mK h;have e:assignEach (.Name x p::ys) env=(false,assign (.Name x p) env)::assignEach ys env:=rfl;rw[e];exact⟨by rw[PX,PX,ih.1],by rw[List.findIdx?_cons,ih.2];rfl⟩def Bd(env:Env)(xs:List Expr)(h h':Heap):Prop:=(∀x∈xs.filterMap fc,env.kindOf x=some .local)->∀b o,b≠env.locals->h.get? b=some o->h'.get? b=some o
theorem oS{E:VP}:∀{xs:List Expr} {vs:List Value} {ds:List PyData} {K:Fm} {s:Shared},kr sc l xs=true->l.length=ds.length->RelAll (TT Y U) s.heap vs ds->FrameOk Z env ks sc K Y U s.heap->Inv Z Y U s.heap->
   (∀s',FrameOk Z env ks sc (b7 l ds K) Y U s'.heap->Step (own env) Y U s Y U s'->Inv Z Y U s'.heap->Bd env xs s.heap s'.heap->Q () s')->WP Z A (assignInOrder ((assignEach xs env).map (·.2)) vs) Q E s:=by
 induction l with
 |nil=>
   intro xs vs ds K s h hl r F I q;clear r;cases ds with
   |nil=>have h:=gc h;subst h;exact PH (q s F Step.refl I λ_ _ _ _ e=>e)
   |cons _ _=>injection hl
 |cons i l ih_=>
   intro xs vs ds K s h hl r F I q;cases ds with
   |nil=>injection hl
   |cons d ds=>
     replace h:=o6 h;obtain⟨x,p,ys,rfl,hx,h⟩:=h;obtain⟨v,vs',rfl,z,rs⟩:=r.inv;clear r;refine(?_:wpAny _ _ (holding vs' (assign (.Name x p) env v) >>= λ_=>assignInOrder ((assignEach ys env).map (·.2)) vs') _ _ _);refine OJ (QR (wpAny_assign_Name (F.store I hx (v:=.d d) z λs' F' S' I' keep kl=>?_)));refine ih_ h (Nat.succ.inj hl) ?_ F' I' λs'' F'' S'' I'' k''=>q s'' F'' (S'.trans S'') I'' λhloc b o hb e=>k'' (λy hy=>hloc y ?_) b o hb ((kl (hloc x ?_)).1 b o hb e)
     . exact S'.relAll F.notSeq rs
     . exact PD _ hy
     . exact PF ..
theorem sy{E:VP}{w:Value}(hh:A.handled=none)(h1:kr sc l xs=true)(F:FrameOk Z env ks sc K Y U s.heap)(I:Inv Z Y U s.heap)(r:aE Y U s.heap w (.d dd))(hb:fe (.tup l) dd K=some ρ')
   (q:∀s',FrameOk Z env ks sc ρ' Y U s'.heap->Step (own env) Y U s Y U s'->Inv Z Y U s'.heap->Bd env xs s.heap s'.heap->Q () s'):WP Z A (assign (.Tuple xs k p) env w) Q E s:=by
 obtain⟨ds,hd,hb⟩:=ko hb;rw[um hd]at r;by_cases hl:l.length=ds.length
 . rw[if_pos hl]at hb;injection hb with e;subst e;apply (qo r).el;intro a vs n ha _ _ rr;have hn:=mK (env:=env) h1;have hz:=rr.length;simp only[PZ]at hz;refine wpAny_assign_Tuple hh ⟨_,ha,rfl,_,rfl⟩ (by rw[hn.1,hz,hl]) hn.2 λh' he=>?_;have hk:∀b o,s.heap.get? b=some o->h'.get? b=some o:=λb o e=>he b o (QE (Qx e)) e;have S2:Step cz Y U s Y U { s with heap:=h' }:=Step.grow hk rfl rfl;exact oS h1 hl (rr.mono λx o _ _ e _ t=>⟨hk _ _ e,t⟩) (F.step S2) (I.grow hk) λs' F' S' I' k'=>q s' F' (S2.ofNo.trans S') I' λhloc b o hb e=>k' hloc b o hb (hk b o e)
 . rw[if_neg hl]at hb;injection hb
theorem FA{E:VP}{w:Value}(hh:A.handled=none)(h1:o4 sc t tx=true)(hloc:∀x∈fS tx,env.kindOf x=some .local)(F:FrameOk Z env ks sc K Y U s.heap)(I:Inv Z Y U s.heap)(r:aE Y U s.heap w (.d dd))(hb:fe t dd K=some ρ')
   (q:∀s',FrameOk Z env ks sc ρ' Y U s'.heap->Step (own env) Y U s Y U s'->Inv Z Y U s'.heap->(∀b o,b≠env.locals->s.heap.get? b=some o->s'.heap.get? b=some o)->Q () s'):WP Z A (assign tx env w) Q E s:=by
 cases t with
 |var i=>replace h1:=av h1;obtain⟨x,h0,hx⟩:=h1;obtain⟨p,rfl⟩:=bO h0;injection hb with e;subst e;exact wpAny_assign_Name (F.store I (of_decide_eq_true hx) (v:=.d dd) r λs' F' S' I' _ kl=>q s' F' S' I' (kl (hloc x (PL.mpr rfl))).1)
 |tup l=>replace h1:=av h1;obtain⟨xs,h0,h1⟩:=h1;obtain⟨k',p,rfl⟩:=lu h0;exact sy hh h1 F I r hb λs' F' S' I' k'=>q s' F' S' I' (k' hloc)noncomputable def CN(is:List Nat)(K:Fm):Fm:=K.mapIdx λj v=>if j∈is then .un else v
theorem qg{v:V}(h:(CN is K)[j]?=some v)(hu:v≠.un):j∉is/\K[j]?=some v:=by
 unfold CN at h;rw[TJ]at h;obtain⟨w,h1,h2⟩:=Qj.mp h;by_cases hj:j∈is
 . rw[if_pos hj]at h2;exact absurd h2.symm hu
 . rw[if_neg hj]at h2;exact⟨hj,by rw[h1,h2]⟩
theorem AW(h:j∉is):(CN is K)[j]?=K[j]?:=by
 unfold CN;rw[TJ];cases K[j]? with
 |none=>rfl
 |some v=>exact congrArg some (if_neg h)theorem qD:∀{l:List Nat} {ds:List PyData} {K:Fm} {j:Nat},j∉l->(b7 l ds K)[j]?=K[j]?
 |[],_,_,_,_=>rfl
 |_::_,[],_,_,_=>rfl
 |i::l,d::ds,K,j,h=>by show (b7 l ds (K.set i (.d d)))[j]?=_;rw[qD λq=>h (PD _ q),g8 λq=>h (PM.mpr (.inl q.symm))]
theorem jD:∀{l:List Nat} {ds:List PyData} {K ρ':Fm},l.length=ds.length->K.length=ρ'.length->(∀j,j∉l->K[j]?=ρ'[j]?)->b7 l ds K=b7 l ds ρ'
 |[],ds,K,ρ',_,_,h=>by exact((SE λj=>h j (λq=>by cases q)))
 |_::_,[],_,_,hl,_,_=>by injection hl
 |i::l,d::ds,K,ρ',hl,hn,h=>by
   show b7 l ds (K.set i (.d d))=b7 l ds (ρ'.set i (.d d));refine jD (Nat.succ.inj hl) (by rw[Sp,Sp,hn]) λj hj=>?_;by_cases q:i=j
   . subst q;rw[List.getElem?_set,List.getElem?_set,hn];simp
   . rw[g8 q,g8 q];exact h j λz=>(PM.mp z).elim (λz=>q z.symm) (hj)theorem AX(is:List Nat)(K:Fm):(CN is K).length=K.length:=List.length_mapIdx
theorem Cu{K ρ':Fm}(h:fe t dd K=some ρ'):fe t dd (CN (da t) K)=some ρ'/\∀j,j∉da t->ρ'[j]?=K[j]?:=by
 cases t with
 |var i=>injection h with e;subst e;refine⟨congrArg some ?_,λj hj=>g8 λq=>hj (PL.mpr q.symm)⟩;have:=jD (l:=[i]) (ds:=[dd]) (K:=CN [i] K) (ρ':=K) rfl (AX ..) λj hj=>AW hj;exact this
 |tup l=>
   obtain⟨ds,hd,h⟩:=ko h;by_cases hl:l.length=ds.length
   . rw[if_pos hl]at h;injection h with e;subst e;refine⟨?_,λj hj=>qD hj⟩;show oc (C5 dd) _ _=_;rw[hd];show (if l.length=ds.length then some (b7 l ds (CN l K)) else none)=_;rw[if_pos hl,jD hl (AX ..) λj hj=>AW hj]
   . rw[if_neg hl]at h;injection h
theorem FrameOk.less(F:FrameOk Z env ks sc K Y U h)(hl:∀(j:Nat) (v:V),ρ'[j]?=some v->v≠.un->K[j]?=some v):FrameOk Z env ks sc ρ' Y U h:=by
 refine⟨F.kind,F.globals,F.builtins,F.kinds,F.bound,F.inj,?_,?_,F.apart,F.cinj,F.cloc,F.frs⟩
 . obtain⟨m,N,q⟩:=F.ns;exact⟨m,N,λx j h1 h2 v h3 h4=>q x j h1 h2 v (hl j v h3 h4) h4⟩
 . intro x c e;obtain⟨ov,C,q⟩:=F.cell x c e;exact⟨ov,C,λj h1 h2 v h3 h4=>q j h1 h2 v (hl j v h3 h4) h4⟩theorem MU{t:Sem B}{Q:B->Shared->Prop}{E:VP}(h:WP Z A t Q (λ_ _=>False) s):WP Z A t Q E s:=PO h (λ_ _ x=>x) λ_ _ x=>x.elim
structure Lp(Z:Cx)(A:Around)(O:Addr->Prop)(T:Itr)(cR:List Addr)(bH:ac)(dn:Shared)(X:Heap->Prop)(Y:List Addr)(U:ac)(s:Shared):Prop where
 op:Opened Z A T cR bH dn.heap
 st0:Step (λx=>O x\/x∈T.wr) cR bH dn Y U s
 inv:Inv Z Y U s.heap
 st:X s.heap
 nm:∀a∈T.wr,a∉Y
 n0:∀a∈T.wr,Z.h₀.get? a=none
 live:∀a∈T.wr,(∃o,s.heap.get? a=some o/\¬ gd o)/\¬ cj s.heap a
 stay:∀b∈T.fp,b∈T.wr\/pT Y U s.heap b
 seq:cg cR bH dn.heap Y U s.heap
variable {Ub X:Heap->Prop}{T:Itr}{cl:List (Str×Addr)}{cR:List Addr}{elts:List Expr}{sc':SC}{dn:Shared}
theorem Lp.start(op:Opened Z A T cR bH dn.heap)(I:Inv Z cR bH dn.heap)(hn:∀a∈T.wr,a∉cR)(h0:∀a∈T.wr,Z.h₀.get? a=none):Lp Z A O T cR bH dn (T.St 0) cR bH dn:=
 ⟨op,Step.refl,I,op.start,hn,h0,op.noseq _ _ op.start,op.stay,cg.refl⟩
theorem Lp.exAll(L:Lp Z A O T cR bH dn X Y U s):∀b∈T.fp,∃o,s.heap.get? b=some o:=λb hb=>by
 rcases L.stay b hb with h|h
 . obtain⟨o,e,_⟩:=(L.live b h).1;exact⟨o,e⟩
 . exact h.ex L.inv
theorem Lp.step(L:Lp Z A O T cR bH dn (T.St k) Y U s)(S:Step O Y U s β' σ' s')(I':Inv Z β' σ' s'.heap)(hO:∀x,O x->x∉Y/\¬ cj s.heap x)(hI:∀a∈T.wr,¬ O a):Lp Z A O T cR bH dn (T.St k) β' σ' s':=by
 have keepI:∀a∈T.wr,∀o,s.heap.get? a=some o->s'.heap.get? a=some o:=λa ha o e=>S.keep a o e (λz=>L.nm a ha z.tt.mem) (hI a ha) (by obtain⟨o',e',q⟩:=(L.live a ha).1;rw[e]at e';injection e' with e;subst e;exact q)
 have keep:∀b∈T.fp,∀o,s.heap.get? b=some o->s'.heap.get? b=some o:=λb hb o e=>by
   rcases L.stay b hb with h|h
   . exact keepI b h o e
   . exact(h.keep S L.inv I' hO).1 o e
 have st':=L.op.frame k _ _ L.st keep;refine⟨L.op,L.st0.trans (S.weaken λ_=>.inl),I',st',λa ha m=>?_,L.n0,L.op.noseq _ _ st',λb hb=>?_,L.seq.trans (S.relH λx z=>(hO x z).2)⟩
 . obtain⟨e,rfl,f⟩:=S.ext;rcases PQ.mp m with m|m
   . exact L.nm a ha m
   . obtain⟨o,e',_⟩:=(L.live a ha).1;rw[f _ m]at e';injection e'
 . exact(L.stay b hb).imp id λh=>(h.keep S L.inv I' hO).2
theorem Lp.off(L:Lp Z A O T cR bH dn (T.St k) Y U s)(hf:dn.heap.get? a=none)(ha:a∉T.fp)(I':Inv Z Y U s'.heap)(hn:∀o vs n,s.heap.get? a=some o->xy o vs n->TT Y U a)(hk:∀b o,b≠a->s.heap.get? b=some o->s'.heap.get? b=some o)(hg:s'.gens=s.gens)(ho:s'.os=s.os) :
   Lp Z A O T cR bH dn (T.St k) Y U s':=by
 have st':=L.op.frame k _ s'.heap L.st λb hb o e=>hk b o (λq=>ha (q▸hb)) e;refine⟨L.op,L.st0.tail (W:=(·=a)) (λ_ q=>q▸hf) hk hg ho,I',st',L.nm,L.n0,L.op.noseq _ _ st',λb hb=>?_,L.seq.trans λx o vs n e d t=>⟨hk x o (λq=>t (q▸hn o vs n (q▸e) d)) e,t⟩⟩;refine(L.stay b hb).imp id λh=>h.imp id ?_
 rintro⟨⟨o,vs,n,e,d⟩,t⟩
 exact⟨⟨o,vs,n,hk b o (λq=>ha (q▸hb)) e,d⟩,t⟩
theorem Lp.move(L:Lp Z A O T cR bH dn X Y U s)(hk:Kp T s.heap h')(st':Ub h')(hl:∀a∈T.wr,(∃o,h'.get? a=some o/\¬ gd o)/\¬ cj h' a):Lp Z A O T cR bH dn Ub Y U { s with heap:=h',toks:=tk }:=by
 refine⟨L.op,?_,L.inv.touch (W:=(·∈T.wr)) L.nm L.n0 (λa q=>(L.live a q).2) hk,st',L.nm,L.n0,hl,λb hb=>?_,L.seq.trans (λx o vs n e d t=>⟨hk x o (λq=>(L.live x q).2 ⟨o,vs,n,e,d⟩) e,t⟩)⟩
 . refine L.st0.trans ⟨⟨[],by simp,by simp⟩,λk c' _ e=>⟨c',e,id,id,id⟩,Ja λx o e _ hx=>hk x o (λq=>hx (.inr q)) e,λx e=>?_,rfl,rfl⟩;by_cases q:x∈T.wr
   . obtain⟨o,ho,_⟩:=(hl x q).1;have e:h'.get? x=none:=e;rw[ho]at e;injection e
   . cases q':s.heap.get? x with
     |none=>rfl
     |some o=>have e:h'.get? x=none:=e;rw[hk x o q q']at e;injection e
 . by_cases q:b∈T.wr
   . exact .inl q
   . refine(L.stay b hb).imp id λh=>h.imp id ?_
     rintro⟨⟨o,vs,n,e,d⟩,t⟩
     exact⟨⟨o,vs,n,hk b o q e,d⟩,t⟩
theorem Lp.next(L:Lp Z A O T cR bH dn (T.St k) Y U s){E:VP}{Q:Option Value->Shared->Prop}(hk:k < T.shown.length)
   (h:∀v d s',Lp Z A O T cR bH dn (T.Mid k v) Y U s'->T.shown[k]?=some d->Rel (TT Y U) s'.heap v d->Kp T s.heap s'.heap->Q (some v) s'):WP Z A (pyNext (.ref T.Ia)) Q E s:=by
 refine L.op.item k s Q E hk L.st λv h' tk hp md keep=>?_;have L':=L.move (tk:=tk) keep md (L.op.noseqM _ _ _ md);obtain⟨d,h1,h2⟩:=L.op.items k v _ h' hk hp Y U L.inv L'.seq;exact h v d _ L' h1 h2 keep
theorem Lp.skip(L:Lp Z A O T cR bH dn (T.Mid k v) Y U s)(he:T.en=false):Lp Z A O T cR bH dn (T.St (k+1)) Y U s:=
 ⟨L.op,L.st0,L.inv,L.op.skip he _ _ _ L.st,L.nm,L.n0,L.live,L.stay,L.seq⟩
theorem Lp.go(L:Lp Z A O T cR bH dn (T.Mid k v) Y U s){E:VP} 
   (h:∀s',Lp Z A O T cR bH dn (T.St (k+1)) Y U s'->Kp T s.heap s'.heap->Q () s'):WP Z A (letOwnedTupleGo (.Tuple elts n pos) (.ref T.Ia) v) Q E s:=
 L.op.go elts n pos k v s Q E L.st λh' st' keep=>h _ (L.move (tk:=s.toks) keep st' (L.op.noseq _ _ st')) keep
theorem Lp.goT(L:Lp Z A O T cR bH dn (T.Mid k v) Y U s){E:VP}(pt:o4 sc t tx=true)(he:yS t=true\/T.en=false)
   (h:∀s',Lp Z A O T cR bH dn (T.St (k+1)) Y U s'->Kp T s.heap s'.heap->Q () s'):WP Z A (letOwnedTupleGo tx (.ref T.Ia) v) Q E s:=by
 cases t with
 |var i=>replace pt:=av pt;obtain⟨x,h0,hx⟩:=pt;apply gj (bO h0);intro p;exact PH (h s (L.skip (he.resolve_left PY)) λ_ _ _ e=>e)
 |tup l=>replace pt:=av pt;obtain⟨xs,h0,h1⟩:=pt;apply y9 (lu h0);intro k' p;exact L.go h
theorem Lp.done(L:Lp Z A O T cR bH dn (T.St k) Y U s){E:VP}{Q:Option Value->Shared->Prop}(hk:k=T.shown.length)
   (h:∀s',Kp T s.heap s'.heap->s'.gens=s.gens->s'.os=s.os->Q none s'):WP Z A (pyNext (.ref T.Ia)) Q E s:=by
 subst hk;exact L.op.done s Q E L.st λh' tk keep=>h _ keep rfl rfl
set_option tactic.hygienic true in
theorem rq{k:NameKind}(h:names.lookup x=some k) :
   (names.map λ(n,k)=>if (k==NameKind.free&&env.scope.kind==.function&&env.kindOf n==some .cell) then (n,NameKind.cell) else (n,k)).lookup x=some (if (k==NameKind.free&&env.scope.kind==.function&&env.kindOf x==some .cell) then .cell else k):=by
 induction names with
 |nil=>injection h
 |cons a r ih=>
   obtain⟨n,k'⟩:=a;rw[P2]at h;refine(?_:List.lookup x ((if (k'==NameKind.free&&env.scope.kind==.function&&env.kindOf n==some .cell)=true then (n,NameKind.cell) else (n,k'))::_)=_);cases hx:x==n with
   |true=>
     rw[hx]at h;injection h with e;subst e;have:=eq_of_beq hx;subst this;split
     . rename_i hc;simp[P2]
     . rename_i hc;simp[P2]
   |false=>
     rw[hx]at h;split
     . rw[P2,hx];exact ih h
     . rw[P2,hx];exact ih h
set_option tactic.hygienic true in
theorem nz{names:KS}{x:Str}{i:Nat}:∀{l:KS},(∀y∈l,y.2=.free)->(l.filterMap λx=>(sc.lookup x.1).map λi=>(x.1,i)).lookup x=some i->(x,NameKind.free)∈l/\sc.lookup x=some i
 |[]=>@λ_ h=>by injection h
 |(n,k)::l=>@λhl h=>by
   have hk:k=.free:=hl (n,k) (PF ..);subst hk;have ih:=nz (names:=names) (x:=x) (i:=i) (l:=l) λy hy=>hl y (PD _ hy);rw[Rx]at h;cases hs:sc.lookup n with
   |none=>simp only[hs,Option.map_none]at h;exact⟨PD _ (ih h).1,(ih h).2⟩
   |some j=>
     simp only[hs,Sv]at h;rw[P2]at h;split at h
     . rename_i hx;have:=eq_of_beq hx;subst this;injection h with e;subst e;exact⟨PF ..,hs⟩
     . exact⟨PD _ (ih h).1,(ih h).2⟩
set_option tactic.hygienic true in
theorem li:∀{l:SC},(l.map (·.2)).Nodup->∀{x y:Str} {i:Nat},l.lookup x=some i->l.lookup y=some i->x=y
 |[]=>@λ_ _ _ _ h _=>by injection h
 |(n,j)::l=>@λhn x y i hx hy=>by
   rw[Qq,QW]at hn;have mem:∀{z:Str},l.lookup z=some i->i∈l.map (·.2):=λ{z} h=>by
     have:∃p∈l,p.2=i:=by
       clear hn hx hy
       induction l with
       |nil=>injection h
       |cons a l ih=>
         rw[P2]at h;split at h
         . injection h with e;subst e;exact⟨a,PF ..,rfl⟩
         . obtain⟨p,h1,h2⟩:=ih h;exact⟨p,PD _ h1,h2⟩
     obtain⟨p,h1,h2⟩:=this;exact Qi.mpr ⟨p,h1,h2⟩
   rw[P2]at hx hy;split at hx
   . rename_i h1;injection hx with e;subst e;split at hy
     . rename_i h2;rw[eq_of_beq h1,eq_of_beq h2]
     . exact absurd (mem hy) hn.1
   . split at hy
     . injection hy with e;subst e;exact absurd (mem hx) hn.1
     . exact li hn.2 hx hy
set_option tactic.hygienic true in
theorem o7:∀{l:SC} {x:Str} {i:Nat},l.lookup x=some i->(x,i)∈l
 |(y,j)::l,x,i,h=>by
   rw[P2]at h;split at h
   . rename_i q;injection h with e;subst e;rw[eq_of_beq q];exact PF ..
   . exact PD _ (o7 h)def vL(scope:Scope):Prop:=∀y∈scope.names,y.2=.local->scope.names.lookup y.1=some .local
def sU(ks:KS)(sc:SC)(scope:Scope):Prop:=∀y,(y,NameKind.free)∈scope.names->scope.names.lookup y=some .free/\(ks.lookup y=some .cell\/ks.lookup y=some .free)/\(sc.lookup y).isSome=true/\co y=true
def vM(sc:SC)(scope:Scope)(xs:List Str)(is:List Nat)(sc':SC):Prop:=∀x i,sc'.lookup x=some i->(x∈xs/\i∈is)\/((x,NameKind.free)∈scope.names/\sc.lookup x=some i/\i∉is)
structure CompNames(ks:KS)(sc:SC)(scope:Scope)(xs:List Str)(is:List Nat)(sc':SC):Prop where
 kind:scope.kind=.function
 loc:vL scope
 free:sU ks sc scope
 nocell:∀y∈scope.names,y.2≠.cell
 x0:∀x∈xs,scope.names.lookup x=some .local/\co x=true
 inj:(sc'.map (·.2)).Nodup
 at1:vM sc scope xs is sc'
set_option tactic.hygienic true in
theorem rt:∀{l l':SC} {x:Str} {i:Nat},(l++l').lookup x=some i->(x,i)∈l\/l'.lookup x=some i
 |[],_,_,_,h=>.inr h
 |(y,j)::l,l',x,i,h=>by
   rw[List.cons_append,P2]at h;split at h
   . rename_i q;injection h with e;subst e;exact(eq_of_beq q)▸.inl (PF ..)
   . exact(rt h).imp (PD _) id
theorem Ci(h:Fu ks sc scope t tx=true):CompNames ks sc scope (fS tx) (da t) (dE sc scope.names t tx):=by
 obtain⟨hk,hn,hx,hi,hl⟩:=NE h;replace hk:=of_decide_eq_true hk;replace hi:=of_decide_eq_true hi;replace hl:=of_decide_eq_true hl;have hn':=QN.mp hn;have hfr:∀y,(y,NameKind.free)∈scope.names->scope.names.lookup y=some .free/\(ks.lookup y=some .cell\/ks.lookup y=some .free)/\(sc.lookup y).isSome=true/\co y=true:=λy hy=>by obtain⟨q1,q2,q3,q4⟩:=sA (show (decide (scope.names.lookup y=some .free)&&decide (ks.lookup y=some .cell\/ks.lookup y=some .free)&&(sc.lookup y).isSome&&co y)=true from hn' _ hy);exact⟨of_decide_eq_true q1,of_decide_eq_true q2,q3,q4⟩
 refine⟨hk,λy hy hl=>?_,hfr,λy hy hc=>?_,λx hx'=>?_,hi,λx i hx=>?_⟩
 . have:=hn' y hy;rw[hl]at this;simpa using this
 . have:=hn' y hy;rw[hc]at this;injection this
 . have:=QN.mp hx x hx';simpa only[P3,decide_eq_true_eq] using this
 . rcases rt hx with q|q
   . exact .inl ⟨(Tz q).1,(Tz q).2⟩
   . obtain⟨h2,h3⟩:=nz (names:=scope.names) (λy hy=>by have:=(QO.mp hy).2;simpa using this) q;refine .inr ⟨(QO.mp h2).1,h3,λz=>?_⟩;unfold dE at hi;rw[PP,List.map_snd_zip (Qk hl.symm)]at hi;exact(RF.mp hi).2.2 i z i (Qi.mpr ⟨(x,i),o7 q,rfl⟩) rfl
set_option tactic.hygienic true in
theorem Cj{xs:List Str}(N:CompNames ks sc scope xs is sc')(F:FrameOk Z env ks sc K Y U h)
   (h2:∀x c,cl.lookup x=some c->env.cells.lookup x=some c) (h3:∀x,(x,NameKind.free)∈scope.names->(cl.lookup x).isSome=true) (h4:∀x,(cl.lookup x).isSome=true->(x,NameKind.free)∈scope.names)
   (hC:h.get? C=none) (hCb:C∉β') (hC0:Z.h₀.get? C=none) (hn:h'.Ns C λ_=>none) (hk:∀b o,h.get? b=some o->h'.get? b=some o) (hv:∀w v,aE Y U h w v->aE β' σ' h' w v) (hβ:∀a o,h.get? a=some o->a∉Y->a∉β') :
   FrameOk Z (compEnvC scope cl C env) scope.names sc' (CN is K) β' σ' h':=by
 have kd:∀x k,scope.names.lookup x=some k->(compEnvC scope cl C env).kindOf x=some (if (k==NameKind.free&&env.scope.kind==.function&&env.kindOf x==some .cell) then .cell else k):=λx k hx=>rq hx;have kl:∀x∈xs,(compEnvC scope cl C env).kindOf x=some .local:=λx hx=>by rw[kd x .local (N.x0 x hx).1];rfl
 have kf:∀x,(x,NameKind.free)∈scope.names->(compEnvC scope cl C env).kindOf x=some .cell\/(compEnvC scope cl C env).kindOf x=some .free:=λx hx=>by
   rw[kd x .free (N.free x hx).1];split
   . exact .inl rfl
   . exact .inr rfl
 refine⟨N.kind,F.globals,F.builtins,λx k hx=>?_,λx i hx=>?_,λx y i hx hy=>li N.inj hx hy,⟨_,hn,λx i hx hl v hv' hu=>?_⟩,λx c hc=>?_,λa ha=>?_,λx y c hx hy=>F.cinj x y c (h2 x c hx) (h2 y c hy),λx hx=>?_,λf hf=>?_⟩
 . rw[kd x k hx];split
   . rename_i hc;simp only[P3]at hc;exact .inr ⟨eq_of_beq hc.1.1,rfl⟩
   . exact .inl rfl
 . rcases N.at1 x i hx with⟨h1,_⟩|⟨hf,hs,_⟩
   . exact⟨.inl (kl x h1),(cV (N.x0 x h1).2).2⟩
   . obtain⟨c,hc⟩:=Qh.mp (h3 x hf);exact⟨.inr ⟨kf x hf,c,hc⟩,(cV (N.free x hf).2.2.2).2⟩
 . exfalso;rcases N.at1 x i hx with⟨_,h2⟩|⟨hf,_,_⟩
   . exact(qg hv' hu).1 h2
   . rcases kf x hf with q|q<;>rw[hl]at q<;>(injection q with e;injection e)
 . obtain⟨ov,⟨o,ho,hd⟩,q⟩:=F.cell x c (h2 x c hc);refine⟨ov,⟨o,hk c o ho,hd⟩,λi hx hk' v hv' hu=>?_⟩;have hf:=h4 x (by have hc:List.lookup x cl=some c:=hc;rw[hc];rfl);rcases N.at1 x i hx with⟨h1,_⟩|⟨_,hs,hne⟩
   . have:=(N.free x hf).1;rw[(N.x0 x h1).1]at this;injection this with e;injection e
   . replace hv':=(qg hv' hu).2;have hkx:env.kindOf x=some .cell\/env.kindOf x=some .free:=by
       rcases (N.free x hf).2.1 with q|q
       . exact(F.kinds x _ q).elim .inl λz=>by cases z.1
       . exact(F.kinds x _ q).elim .inr λz=>.inl z.2
     obtain⟨w,g1,g2⟩:=q i hs hkx v hv' hu;exact⟨w,g1,hv _ _ g2⟩
 . clear kf kd;rcases ha with rfl|⟨x,hx⟩
   . exact⟨hCb,hC0⟩
   . have hown:own env a:=.inr ⟨x,h2 x a hx⟩;obtain⟨o,ho,_⟩:=F.ownSome hown;exact⟨hβ a o ho (F.apart a hown).1,(F.apart a hown).2⟩
 . obtain⟨o,ho,_⟩:=F.ownSome (.inr ⟨x,h2 x C hx⟩);rw[hC]at ho;injection ho
 . refine kk λUc k=>?_;obtain⟨⟨o,e,q⟩,nb,n0⟩:=F.frs f hf;refine k ?_;exact⟨⟨o,hk f o e,q⟩,hβ f o e nb,n0⟩def xC(G:GD)(cf:CF)(t:Tgt)(c:EL)(e:E)(K:Fm):PyData->ac->Res (Option PyData):=λx σ'=>match fe t x K with
 |none=>.bad
 |some ρ'=>(dD G cf c ρ' σ').bind λcv ae=>match cv with
   |none=>(af G cf e ρ' ae).bind λy aF=>bv ((bN y).map some) aF
   |some cv=>(bv (truthy ae cv) ae).bind λb ae=>if b then (af G cf e ρ' ae).bind λy aF=>bv ((bN y).map some) aF else .ok none (ae)theorem za(G:GD)(cf:CF)(m:Bool)(t:Tgt)(it:It)(c:EL)(e:E)(K:Fm)(U:ac):af G cf (.comp m t it c e) K U=(cA G cf it K U).bind λI aa=>(iH (xC G cf t c e K) I.shown (c5 I.lk aa++[.busy])).bind λr ae=>bh m r ((bx I.lk I.base ae).take aa.length):=(rfl)def Je(G:GD)(cf:CF)(c:EL)(e:E)(ρ':Fm)(σ':ac):Res (Option PyData):=(dD G cf c ρ' σ').bind λcv ae=>match cv with
   |none=>(af G cf e ρ' ae).bind λy aF=>bv ((bN y).map some) aF
   |some cv=>(bv (truthy ae cv) ae).bind λb ae=>if b then (af G cf e ρ' ae).bind λy aF=>bv ((bN y).map some) aF else .ok none (ae)variable {c:EL}{o:Option PyData}
theorem Fv{x:PyData}(h:xC G cf t c e K x U=.ok o σ'):∃ρ',fe t x K=some ρ'/\Je G cf c e ρ' U=.ok o σ':=by
 unfold xC at h;cases hb:fe t x K with
 |none=>rw[hb]at h;injection h
 |some ρ'=>rw[hb]at h;exact⟨ρ',rfl,h⟩
inductive CompDone(Z:Cx)(Y:List Addr)(U:ac)(s:Shared)(v:V)(σ':ac)(acc:Value)(C:Addr)(s':Shared):Prop where
 |mk (β':List Addr) (mm:Str->Option Value) (h1:Step cz Y U s β' σ' s') (h2:Inv Z β' σ' s'.heap) (h3:aE β' σ' s'.heap acc v) (h4:s'.heap.Ns C mm) (h5:s.heap.get? C=none) (h6:C∉β'):CompDone Z Y U s v σ' acc C s'
variable {l r:List PyData}{f:PyData->ac->Res (Option PyData)}
theorem zg{d:PyData}(hd:l[k]?=some d)(h:iH f (l.drop k) U=.ok r σ') :
   X3 λo aa wq=>A3 (f d U=.ok o aa) (iH f (l.drop (k+1)) aa=.ok wq σ') (r=o.toList++wq):=by
 have hd':=(Pz.mp hd).2;rw[QT ((Pz.mp hd).1),hd']at h;replace h:((f d U).bind λo aa=>(iH f (l.drop (k+1)) aa).bind λr ae=>.ok (o.toList++r) ae)=.ok r σ':=h;refine kk λUc k=>?_;obtain⟨o,aa,h1,h2⟩:=Res.bind_ok h;obtain⟨wq,ae,h2,h3⟩:=Res.bind_ok h2;clear h;cases (h3);refine k ?_;exact⟨o,aa,wq,h1,h2,rfl⟩variable {Dd:Addr}{ce:Env}{elt iter:Expr}{ρt:Fm}{βk βc:List Addr}{ifs:List Expr}{nb mm:Nat}{sb oW sz:Shared}{σL σk σb σc:ac}{mC:Str->Option Value}{v:V}{Q:VP}theorem ng{m:Str->Option Value}(hn:h.Ns a m):¬ cj h a:=λ⟨o,vs,n,e,d⟩=>by obtain⟨o',es,ep,e',hd,_⟩:=hn;rw[e]at e';injection e' with e;subst e;rcases d with d|⟨_,_,d|d⟩<;>rw[hd]at d<;>injection d
theorem xW{x:Value}{E:VP}(e:s.heap.get? a=some (eP vs n))(hz:vs.size<=sizeLine)
   (q:∀h' m,h'.get? a=some (eP (vs.push x) m)->(∀b o,b≠a->s.heap.get? b=some o->h'.get? b=some o)->Q .none { s with heap:=h' }):WP Z A (call (.builtin "list.append") [.ref a,x]) Q E s:=by
 refine call_meets F.slot_list_append ⟨_,e,rfl⟩ F.entry_list_append (F.args_list_append_2 _ _) (list_append a vs n x hz) ⟨e,?_⟩;obtain⟨⟨m',e'⟩,hk⟩:=j9 (f:=λx_1=>x_1.push x) e;exact q _ m' e' (hk)theorem Step.takeN(a:Step O Y U s ag aa ai)(hn:Y.length<=n):Step O Y U s (ag.take n) (aa.take n) ai:=by obtain⟨e,rfl,f⟩:=a.ext;refine⟨⟨e.take (n - Y.length),by rw[List.take_append,RB hn],λx hx=>f x (P8 hx)⟩,λk c' hk hc=>a.mono k c' hk ?_,a.keepW,a.alive,a.gens,a.os⟩;rw[Rj,if_pos (by lia)]at hc;exact(hc)theorem zR(h:k < n):n+1 - (k+1) < n+1 - k:=Nat.sub_lt_sub_left (Nat.lt_succ_of_lt h) (RN k)
inductive CompPk(Z:Cx)(A:Around)(T:Itr)(ag:List Addr)(σL:ac)(aq:Shared)(env:Env)(ks:KS)(sc:SC)(n:Nat)(Dd:Addr)(k kk:Nat)(done:List PyData)(βk:List Addr)(σk:ac)(s':Shared)(ρ':Fm):Prop where
 |mk (L:Lp Z A cz T ag σL aq (T.St k) βk σk s') (Fr:FrameOk Z env ks sc ρ' βk σk s'.heap) (db:βk[n]?=some Dd) (dc:σk[n]?=some .busy) (ys:Array Value) (mm:Nat) (dh:s'.heap.get? Dd=some (eP ys mm)) (dr:RelAll (TT βk σk) s'.heap ys.toList done) (dz:ys.size<=kk):CompPk Z A T ag σL aq env ks sc n Dd k kk done βk σk s' ρ'
inductive CompJ(Z:Cx)(A:Around)(T:Itr)(ag:List Addr)(σL:ac)(aq:Shared)(env:Env)(ks:KS)(sc:SC)(nb:Nat)(Dd:Addr)(K:Fm)(f:PyData->ac->Res (Option PyData))(r:List PyData)(ae:ac)(n:Nat)(s':Shared):Prop where
 |mk (k:Nat) (βk:List Addr) (σk:ac) (done rest:List PyData) (h1:n=T.shown.length+1 - k) (h2:k<=T.shown.length) (pk:CompPk Z A T ag σL aq env ks sc nb Dd k k done βk σk s' K) (h4:iH f (T.shown.drop k) σk=.ok rest ae) (h5:r=done++rest):CompJ Z A T ag σL aq env ks sc nb Dd K f r ae n s'
theorem CompPk.lp{kk:Nat}{done:List PyData}:CompPk Z A T ag σL aq env ks sc n Dd k kk done βk σk s' ρ'->Lp Z A cz T ag σL aq (T.St k) βk σk s'
 |⟨L,_,_,_,_,_,_,_,_⟩=>(L)theorem CompPk.fr{kk:Nat}{done:List PyData}:CompPk Z A T ag σL aq env ks sc n Dd k kk done βk σk s' ρ'->FrameOk Z env ks sc ρ' βk σk s'.heap
 |⟨_,F,_,_,_,_,_,_,_⟩=>F
theorem CompPk.step{kk:Nat}{done:List PyData}{βb:List Addr}(pk:CompPk Z A T ag σL aq env ks sc n Dd k kk done βk σk s' ρ')(S:Step cz βk σk s' βb σb sb)(Ib:Inv Z βb σb sb.heap):CompPk Z A T ag σL aq env ks sc n Dd k kk done βb σb sb ρ':=by
 obtain⟨L,Fr,db,dc,ys,mm,dh,dr,dz⟩:=pk;have hlt:n < βk.length:=(Pz.mp db).1;have hltb:n < σb.length:=by rw[<- Ib.len];exact(Pz.mp (S.get db)).1
 obtain⟨c',h1,_,_,hbz⟩:=S.mono n σb[n] hlt (PB hltb);rw[dc]at h1;injection h1 with e;subst e;exact⟨L.step S Ib (λx z=>z.elim) (λ_ _=>id),Fr.step S,S.get db,by rw[PB hltb,hbz rfl],ys,mm,(pT.keep S L.inv Ib (λx z=>z.elim) (.inl ⟨n,db,dc⟩)).1 _ dh,S.relAll0 dr,dz⟩
theorem Cg{prog:Program}{R:Result->Shared->Prop}{elt target iter:Expr}{ifs:List Expr}{scope:Scope}{pos:Pos}{acc:Value}(Ue:Nat->Shared->Prop)
   (turn:∀n s,Ue n s->wpAny (model prog w) A (pyNext it) (λr ai=>match r with
     |none=>R (.ok .next) ai
     |some v=>wpAny (model prog w) A (letOwnedTupleGo target it v) (λ_ ai=>wpAny (model prog w) A (assign target env v) (λ_ aq=>
         wpAny (model prog w) A (forIn ifs true λc r=>if r=true then do let ok <- isTrue c env (eval c env);pure (ForInStep.yield ok) else pure (ForInStep.yield r)) (λok aW=>
           if ok=true then wpAny (model prog w) A (eval elt env) (λx dJ=>wpAny (model prog w) A (call (.builtin "list.append") [acc,x]) (λ_ gm=>∃m,m < n/\Ue m gm) (λ_ _=>False) dJ) (λ_ _=>False) aW
           else ∃m,m < n/\Ue m aW) (λ_ _=>False) aq) (λ_ _=>False) ai) (λ_ _=>False) ai) (λ_ _=>False) s) (n:Nat) {s:Shared} (h:Ue n s) :
   codeAny (model prog w) A (.compLoop (.ListComp elt [⟨target,iter,ifs,0⟩] scope pos) 0 it acc env) R s:=by
 refine codeAny_loop rfl Ue (λn s hI=>?_) n h;refine(?_:wpAny _ A ((compTurn (.ListComp elt [⟨target,iter,ifs,0⟩] scope pos) 0 it acc env).onRaise (λx=>do noteFrame x env;theTreesLotGoes x)) _ _ s);refine wpAny_noted ?_;rw[compTurn_list];refine OJ (Qy (OJ (PO (turn n s hI) (λr ai bj=>?_) λ_ _ x=>x.elim)));cases r with
 |none=>exact PH bj
 |some v=>
   refine OJ (PO bj (λ_ ai bj=>OJ (PO bj (λ_ aq gg=>OJ (PO gg (λok aW oJ=>?_) λ_ _ x=>x.elim)) λ_ _ x=>x.elim)) λ_ _ x=>x.elim);cases ok with
   |false=>exact PH ⟨rfl,oJ⟩
   |true=>exact OJ (OJ (PO oJ (λx dJ Hu=>OJ (PO Hu (λ_ gm Oe=>PH (PH ⟨rfl,Oe⟩)) λ_ _ x=>x.elim)) λ_ _ x=>x.elim))
theorem t7{done:List PyData}{Q:Shared->Prop}(he:PE Z P gn G cf d e)(hme:mE P gn ks sc e elt=true)(hA:lS Z d A)(hDf:aq.heap.get? Dd=none)(hfpD:Dd∉T.fp)(hz:k<=sizeLine)
   (pk:CompPk Z A T ag σL aq ce ks sc nb Dd (k+1) k done βc σc oW ρt) (h:((af G cf e ρt σc).bind λy aF=>bv ((bN y).map some) aF)=.ok o σb)
   (fin:∀βd gm,CompPk Z A T ag σL aq ce ks sc nb Dd (k+1) (k+1) (done++o.toList) βd σb gm ρt->Q gm) :
   WP Z A (eval elt ce) (λx dJ=>WP Z A (call (.builtin "list.append") [.ref Dd,x]) (λ_ gm=>Q gm) (λ_ _=>False) dJ) (λ_ _=>False) oW:=by
 refine kk λUc k=>?_;obtain⟨y,aF,hy,hl⟩:=Res.bind_ok h;obtain⟨yd,hyd,eo,eσ⟩:=jm hl;rw[b9 hyd,<- eσ]at hy;refine k ?_;refine PO ((he ks sc elt _ _ A βc σc oW hme hA pk.fr pk.lp.inv).1 _ _ hy) (λx dJ ⟨βd,Sd,Id,rx⟩=>?_) λ_ _ x=>x;obtain⟨Ld,Fd,db',dc',ys',mm',dh',dr',dz'⟩:=CompPk.step pk Sd Id;refine xW dh' (iv dz' hz) λh' m' e' hk'=>fin βd _ ?_;refine(Ld.inv.touchBusy db' dc' hk' ⟨_,e'⟩).elim λIe sq=>?_;rw[eo];exact⟨Ld.off (s':={ dJ with heap:=h' }) (a:=Dd) hDf hfpD Ie (λ_ _ _ _ _=>⟨_,_,db',dc',rfl⟩) hk' rfl rfl,
   Fd.map sq.vrel (λb hb o e=>hk' b o (λq=>(Fd.frs b hb).2.1 (q▸PC db')) e) λb hb o e=>hk' b o (λq=>(Fd.apart b hb).1 (q▸PC db')) e,
   db',dc',_,m',e',by rw[Te];exact(dr'.mono sq).append (.one (Rel.mono sq rx)),by rw[Array.size_push];exact PN dz'⟩
theorem Cf{done:List PyData}{Q:Shared->Prop}(hc:Ir Z P gn G cf d c)(he:PE Z P gn G cf d e)
   (hmc:(match ifs with | []=>Az P gn ks sc c none | [x]=>Az P gn ks sc c (some x) | _=>false)=true) (hme:mE P gn ks sc e elt=true) (hA:lS Z d A) (hDf:aq.heap.get? Dd=none) (hfpD:Dd∉T.fp) (hz:k<=sizeLine)
   (pk:CompPk Z A T ag σL aq ce ks sc nb Dd (k+1) k done βk σk sb ρt) (hf:Je G cf c e ρt σk=.ok o σb)
   (fin:∀βd gm,CompPk Z A T ag σL aq ce ks sc nb Dd (k+1) (k+1) (done++o.toList) βd σb gm ρt->Q gm) :
   WP Z A (forIn ifs true λc r=>if r=true then do let ok <- isTrue c ce (eval c ce);pure (ForInStep.yield ok) else pure (ForInStep.yield r)) (λok aW=>if ok=true then WP Z A (eval elt ce) (λx dJ=>WP Z A (call (.builtin "list.append") [.ref Dd,x]) (λ_ gm=>Q gm) (λ_ _=>False) dJ) (λ_ _=>False) aW else Q aW) (λ_ _=>False) sb:=by
 cases ifs with
 |nil=>
   clear hc;cases c with
   |cons e r=>exact Q3 (show false=true from hmc)
   |nil=>exact wpAny_tests_nil (by rw[if_pos rfl];exact t7 he hme hA hDf hfpD hz pk hf fin)
 |cons x xs=>
   cases xs with
   |cons _ _=>injection hmc
   |nil=>
     obtain⟨c',_,ec,Ud⟩:=hc.2 ks sc x _ _ A βk σk sb (hmc:Az P gn ks sc c (some x)=true) hA pk.fr pk.lp.inv;replace hf:=ec▸hf;clear hmc hc ec;refine kk λUc k=>?_;obtain⟨cv,σc,hcv,hf⟩:=Res.bind_ok hf;obtain⟨cv',σc',hcv',hq⟩:=Res.bind_ok (r:=af G cf c' ρt σk) (f:=λx aa=>.ok (some x) aa) hcv;cases (hq);obtain⟨b,σd,hb,hf⟩:=Res.bind_ok hf;have htr:truthy σc cv'=some b/\σd=σc:=by
       clear hf;cases hq:truthy σc cv' with
       |none=>rw[hq]at hb;injection hb
       |some b'=>replace hb:=hq▸hb;cases (hb);exact⟨rfl,rfl⟩
     obtain⟨htr,rfl⟩:=htr;refine k ?_;refine wpAny_tests_one (PO (Ud.2 b σd (by rw[hcv'];simp[mT,Res.bind,bv,htr])) (λa oW ⟨βc,Sc,Ic,q⟩=>?_) λ_ _ x=>x);refine q▸?_;have pkc:=CompPk.step pk Sc Ic;clear hf;cases b with
     |true=>rw[if_pos rfl];exact t7 he hme hA hDf hfpD hz pkc hf fin
     |false=>rw[if_neg PY];cases (hf);obtain⟨Lc,Fc,db',dc',ys',mm',dh',dr',dz'⟩:=pkc;exact fin βc oW ⟨Lc,Fc,db',dc',ys',mm',dh',by rw[Option.toList_none,P4];exact dr',Qt dz'⟩
theorem Ft{m:Bool}(aH:Step cz Y U s ag aa aq)(ay:Inv Z ag aa aq.heap)(h0:∀a,s.heap.get? a=none->Z.h₀.get? a=none)(hw:∀a∈T.wr,s.heap.get? a=none/\a∉ag)
   (Op:Opened Z A T ag (c5 I.lk aa) aq.heap) (hlk:∀n,I.lk=some n->aa[n]?=some (.lst I.base)) (hrl:r.length<=LIM) (hCs:s.heap.get? C=none) (hfpC:C∉T.fp) (L:Lp Z A cz T ag (c5 I.lk aa) aq X βk ae s') (hnC:s'.heap.Ns C mC) (hCk:C∉βk) (db:βk[aa.length]?=some Dd) (dc:ae[aa.length]?=some .busy)
   (dh:s'.heap.get? Dd=some (eP ys mm)) (dr:RelAll (TT βk ae) s'.heap ys.toList r) (hkz:Kp T s'.heap sz.heap) (hgz:sz.gens=s'.gens) (hoz:sz.os=s'.os) (hv:bh m r ((bx I.lk I.base ae).take aa.length)=.ok v σ'):CompDone Z Y U s v σ' (.ref Dd) C sz:=by
 obtain⟨Sx,Ix,ttx⟩:=lC aH ay hlk L.st0 L.inv (λx z=>z.elim) (λa q=>(Op.noseq 0 _ Op.start a q).2) (λa q=>(hw a q).1);have hUn:(bx I.lk I.base ae)[aa.length]?=some .busy:=by
   cases hlk':I.lk with
   |none=>exact dc
   |some n=>show (ae.set n _)[aa.length]?=_;rw[d3 (QE (Pz.mp (hlk n hlk')).1)];exact dc
 generalize bx I.lk I.base ae=Ua at *;have hnβ:Y.length<=aa.length:=by obtain⟨e,q,_⟩:=aH.ext;rw[<- ay.len,q,PA];exact PU _ _
 have hnsI:∀a,a∈T.wr->¬ cj s'.heap a:=λa q=>(L.live a q).2;have dU:=dr.mono λx o _ _ e _ t=>⟨e,λz=>t ((ttx x).mp z)⟩;have key:∀{βf:List Addr},Step cz Y U s βf σ' s'->Inv Z βf σ' s'.heap->(∀a∈T.wr,a∉βf)->C∉βf->aE βf σ' s'.heap (.ref Dd) v->CompDone Z Y U s v σ' (.ref Dd) C sz:=by intro βf Sf If nI nC rv;refine⟨βf,mC,Sf.tail (W:=(·∈T.wr)) (λa q=>(hw a q).1) hkz hgz hoz,If.touch (W:=(·∈T.wr)) nI (λa q=>h0 a (hw a q).1) hnsI hkz,j8 (W:=(·∈T.wr)) hkz hnsI rv,?_,hCs,nC⟩;obtain⟨o,es,ep,ho,q⟩:=hnC;exact⟨o,es,ep,hkz _ _ (λq=>hfpC (Op.sub _ q)) ho,q⟩
 cases m with
 |false=>
   cases (hv);refine key (βf:=βk.take aa.length) (Sx.takeN hnβ) (Ix.take _) (λa ha q=>L.nm a ha (P8 q)) (λq=>hCk (P8 q)) ?_;refine .list dh (λz=>?_) hrl (dU.mono λx o _ _ e _ t=>⟨e,λz=>t (nZ z)⟩);obtain⟨j,c',q1,_,_⟩:=z;rw[Rj]at q1;by_cases hj:j < aa.length
   . rw[if_pos hj]at q1;exact L.inv.addr_ne db q1 (Sk hj) rfl
   . rw[if_neg hj]at q1;injection q1
 |true=>
   cases (hv);have So:Step cz Y U s βk (Ua.set aa.length (.lst r)) s':=⟨Sx.ext,λj c' hj hc'=>by rw[d3 (Sk (Qr hj hnβ))]at hc';exact Sx.mono j c' hj hc',Sx.keepW,Sx.alive,Sx.gens,Sx.os⟩
   have htk:(Ua.take aa.length).length=aa.length:=by rw[Ql];exact Qm (Qd (Pz.mp hUn).1)
   have e1:(Ua.set aa.length (.lst r)).take (aa.length+1)=Ua.take aa.length++[.lst r]:=by rw[List.take_add_one];rw[dg hUn,List.take_set_of_le (P9 _)];rfl
   exact key (βf:=βk.take (aa.length+1)) (e1▸So.takeN (Qt hnβ)) (e1▸(Ix.openBusy db hUn dh dU hrl).take _) (λa ha q=>L.nm a ha (P8 q)) (λq=>hCk (P8 q)) ⟨Dd,by rw[htk,Rj,if_pos (RN _)];exact db,rfl⟩
theorem Ch{c:EL}(hc:Ir Z P gn G cf d c)(he:PE Z P gn G cf d e) 
   (N:CompNames ks sc scope (fS tx) (da t) sc') (hmt:o4 sc' t tx=true) (hh:A.handled=none) (hmc:(match ifs with | []=>Az P gn scope.names sc' c none | [x]=>Az P gn scope.names sc' c (some x) | _=>false)=true) (hme:mE P gn scope.names sc' e elt=true)
   (h2:∀x c,cl.lookup x=some c->env.cells.lookup x=some c) (h3:∀x,(x,NameKind.free)∈scope.names->(cl.lookup x).isSome=true) (h4:∀x,(cl.lookup x).isSome=true->(x,NameKind.free)∈scope.names)
   (hA:lS Z d A) (Iv:Inv Z Y U s.heap) {I:Items} {T:Itr} (hsh:T.shown=I.shown) (hen:yS t=true\/T.en=false)
   (aH:Step cz Y U s ag aa aq) (ay:Inv Z ag aa aq.heap) (hw:∀a∈T.wr,s.heap.get? a=none/\a∉ag) (Op:Opened Z A T ag (c5 I.lk aa) aq.heap) (hlk:∀n,I.lk=some n->aa[n]?=some (.lst I.base)) (hlen:I.shown.length<=LIM)
   (F3:FrameOk Z env ks sc K Y U s.heap) {m:Bool} {r:List PyData} {ae:ac} (hr:iH (xC G cf t c e K) I.shown (c5 I.lk aa++[.busy])=.ok r ae) {v:V} {σ':ac} (hv:bh m r ((bx I.lk I.base ae).take aa.length)=.ok v σ') :
   WP Z A (newList []) (λacc aW=>WP Z A (newFunctionEnv scope env.globals cl [] env.qual none .none (some env)) (λcenv dJ=>
     codeAny (model Z.prog Z.w) A (.compStart (.ListComp elt [⟨tx,iter,ifs,0⟩] scope pos) 0 (.ref T.Ia) acc { cenv with scope:=relabel scope env }) (λr s'=>match r with | .ok _=>CompDone Z Y U s v σ' acc cenv.locals s' | .error _=>False) dJ) (λ_ _=>False) aW) (λ_ _=>False) aq:=by
 rw[<- hsh]at hlen hr;have F:=F3.step aH;have h0:∀a,s.heap.get? a=none->Z.h₀.get? a=none:=λa ha=>by
   cases q:Z.h₀.get? a with
   |none=>rfl
   |some o=>rw[Iv.base a o q]at ha;injection ha
 have h0':∀a,aq.heap.get? a=none->s.heap.get? a=none:=aH.alive;have q9:=AA ay hlk;have IL:=q9.1;have SL:=q9.2;generalize hσL:c5 I.lk aa=σL at *;have hlL:σL.length=aa.length:=by clear hr;subst hσL;cases I.lk with|none=>rfl|some n=>exact Sp
 have hn0:ag.length=aa.length:=ay.len;refine wpAny_newList ?_ (by simp);generalize hDd:aq.heap.objs.size=Dd;have hDf:aq.heap.get? Dd=none:=by exact hDd▸bo _
 refine wpAny_newFunctionEnv N.nocell (by intro y hy;simp at hy) (λbj rH va=>?_) N.kind;dsimp only at rH va ⊢;generalize hH3:aq.heap.push { cls:=.type "list",dict:=none,data:=.seq ([]:List Value).toArray }=H3 at rH va ⊢;have hk23:∀b o,aq.heap.get? b=some o->H3.get? b=some o:=λb o e=>by exact hH3▸PG _ e
 have hD3:H3.get? Dd=some (eP #[] 0):=by exact hH3▸hDd▸PV _ rfl
 generalize hC:H3.objs.size=C at rH va ⊢;have hCf3:H3.get? C=none:=by exact hC▸bo _
 have hCf:aq.heap.get? C=none:=by
   cases q:aq.heap.get? C with
   |none=>rfl
   |some o=>rw[hk23 _ _ q]at hCf3;injection hCf3
 have hDC:Dd≠C:=λq=>by rw[q,hCf3]at hD3;injection hD3
 have hk34:∀b o,H3.get? b=some o->bj.get? b=some o:=λb o e=>(va.2 b (λq=>by rw[q,hCf3]at e;injection e)).trans (PG _ e);have hk24:∀b o,aq.heap.get? b=some o->bj.get? b=some o:=λb o e=>hk34 b o (hk23 b o e)
 -- the state behind
 have NB:=uO (O:=cz) (s:=aq) (ai:={ aq with heap:=bj,toks:=aq.toks+([]:List (Str×Value)).length }) (a:=Dd) (c:=.busy) IL hk24 hDf rfl rfl ⟨_,hk34 _ _ hD3⟩;have hC4:∃o,bj.get? C=some o:=by obtain⟨o,_,_,ho,_⟩:=rH;exact⟨o,ho⟩
 have hCβ:C∉ag++[Dd]:=λmm=>by
   rcases PQ.mp mm with q|q
   . exact ay.notMem hCf q
   . simp at q;exact hDC q.symm
 have FC:FrameOk Z (compEnvC scope cl C env) scope.names sc' (CN (da t) K) (ag++[Dd]) (σL++[.busy]) bj:=
   Cj N F h2 h3 h4 hCf hCβ (h0 C (h0' C hCf)) rH hk24 (λw v q=>(SL.trans NB.1).vrel0 q) λa o ho hb mm=>by
     rcases PQ.mp mm with q|q
     . exact hb q
     . simp at q;rw[q,hDf]at ho;injection ho
 have vH:Lp Z A cz T ag σL aq (T.St 0) ag σL aq:=Lp.start Op IL (λa q=>(hw a q).2) λa q=>h0 a (hw a q).1;have NH:Lp Z A cz T ag σL aq (T.St 0) (ag++[Dd]) (σL++[.busy]) { aq with heap:=bj,toks:=aq.toks+([]:List (Str×Value)).length }:=
   vH.step NB.1 NB.2 (λx z=>z.elim) λ_ _=>id
 have hfpC:C∉T.fp:=λq=>by obtain⟨o,ho⟩:=vH.exAll C q;rw[hCf]at ho;injection ho
 have hfpD:Dd∉T.fp:=λq=>by obtain⟨o,ho⟩:=vH.exAll Dd q;rw[hDf]at ho;injection ho
 have ownC:∀a,own (compEnvC scope cl C env) a->a=C\/∃o,aq.heap.get? a=some o:=λa ha=>by
   rcases ha with q|⟨x,hx⟩
   . exact .inl q
   . obtain⟨o,ho,_⟩:=F.ownSome (.inr ⟨x,h2 x a hx⟩);exact .inr ⟨o,ho⟩
 have hIaOwn:∀a∈T.wr,¬ own (compEnvC scope cl C env) a:=λa ha z=>by
   rcases z with q|⟨x,hx⟩
   . have q:a=C:=q;exact hfpC (Op.sub _ (q▸ha))
   . obtain⟨o,ho,_⟩:=F3.ownSome (.inr ⟨x,h2 x a hx⟩);rw[(hw a ha).1]at ho;injection ho
 -- what a turn keeps
 let Pk:Nat->Nat->List PyData->List Addr->ac->Shared->Fm->Prop:=CompPk Z A T ag σL aq (compEnvC scope cl C env) scope.names sc' aa.length Dd
 let Ue:Nat->Shared->Prop:=CompJ Z A T ag σL aq (compEnvC scope cl C env) scope.names sc' aa.length Dd (CN (da t) K) (xC G cf t c e K) r ae
 have loop:∀aW:Shared,aW={ aq with heap:=bj,toks:=aq.toks+([]:List (Str×Value)).length }->
     codeAny (model Z.prog Z.w) A (.compLoop (.ListComp elt [⟨tx,iter,ifs,0⟩] scope pos) 0 (.ref T.Ia) (.ref Dd) (compEnvC scope cl C env)) (λr s'=>match r with | .ok _=>CompDone Z Y U s v σ' (.ref Dd) C s' | .error _=>False) aW:=by
   rintro aW rfl
   refine Cg Ue ?_ (T.shown.length+1) ⟨0,_,_,[],r,rfl,PR _,⟨NH,FC,by rw[<- hn0];simp,by rw[<- hlL];simp,#[],0,hk34 _ _ hD3,.nil,P9 _⟩,by simpa using hr,rfl⟩
   rintro n s' ⟨k,βk,σk,done,rest,rfl,hkl,pk,hrest,hdone⟩
   obtain⟨L,Fr,db,dc,ys,mm,dh,dr,dz⟩:=pk;by_cases hlt:k < T.shown.length
   . refine L.next hlt λw dd sa Lm hdd lY hka=>?_;obtain⟨o,σb,GQ,hf,Ey,er⟩:=zg hdd hrest;obtain⟨ρt,hbt,hf⟩:=Fv hf;obtain⟨hb1,hb2⟩:=Cu hbt;refine Lm.goT (pt:=hmt) hen λsa' La hk'=>?_;replace hka:Kp T s'.heap sa'.heap:=λb o hb e=>hk' b o hb (hka b o hb e);replace lY:Rel (TT βk σk) sa'.heap w dd:=j8 (W:=(·∈T.wr)) (v:=.d dd) hk' (λa q=>(Lm.live a q).2) lY;clear hk' Lm;have Fa:FrameOk Z (compEnvC scope cl C env) scope.names sc' (CN (da t) K) βk σk sa'.heap:=Fr.touch (W:=(·∈T.wr)) (λa q=>F3.frs.not (hw a q).1) hIaOwn (λa q=>(L.live a q).2) hka;have sqa:cg βk σk s'.heap βk σk sa'.heap:=λx o vs n e d t=>⟨hka x o (λq=>(L.live x q).2 ⟨o,vs,n,e,d⟩) e,t⟩;refine FA hh hmt (λx hx=>lookup_relabel_local (N.x0 x hx).1) Fa La.inv (dd:=dd) lY hb1 λsb Fb Sb Ib kC=>?_;have nsC:¬ cj sa'.heap C:=Fa.notSeq C (.inl rfl);have Lb:=La.off (a:=C) hCf hfpC Ib (λo vs n e d=>absurd ⟨o,vs,n,e,d⟩ nsC) kC Sb.gens Sb.os;refine Cf hc he hmc hme hA hDf hfpD (iv (Qd hlt) (Iu _ hlen)) (⟨Lb,Fb,db,dc,ys,mm,kC _ _ hDC (hka _ _ (λq=>hfpD (Op.sub _ q)) dh),(dr.mono sqa).mono (λx o vs n e d t=>⟨kC x o (λq=>by have q:x=C:=q;rw[q]at e;exact nsC ⟨o,vs,n,e,d⟩) e,t⟩),dz⟩) hf λβd gm pk=>?_;obtain⟨Ld,Fd,db',dc',ys',mm',dh',dr',dz'⟩:=pk;exact⟨T.shown.length+1 - (k+1),zR hlt,k+1,βd,σb,done++o.toList,GQ,rfl,hlt,⟨Ld,Fd.less λj v h1 h2=>(qg h1 h2).2▸hb2 j (qg h1 h2).1,db',dc',ys',mm',dh',dr',dz'⟩,Ey,by rw[hdone,er,PT]⟩
   . have hke:k=T.shown.length:=Rz hkl (QD hlt);refine L.done hke λsz hkz hgz hoz=>?_;refine kk λUc k=>?_;replace hrest:=Si▸hke▸hrest;cases (hrest);rw[P4]at hdone;have hrl:r.length<=LIM:=by rw[hdone,<- dr.length,PZ];exact iv dz (iv hkl hlen)
     obtain⟨mC,hnC,_⟩:=Fr.ns;rw[<- hσL]at L;refine k ?_;exact Ft aH ay h0 hw (hσL▸Op) hlk hrl (h0' C hCf) hfpC L hnC (Fr.apart C (.inl rfl)).1 db dc dh (hdone▸dr) hkz hgz hoz hv
 exact codeAny_compStart_list (loop _ rfl) (Op.self 0 _ _ _ NH.st (loop _ rfl))variable {it:It}theorem o3(h:qS iter=true)(x:Value):foldedSetIterable iter env x=pure x:=by cases iter<;>first|rfl|injection h
inductive CompX(P:Nat->Option Fn)(gn:Nat->Str)(ks:KS)(sc:SC)(t:Tgt)(it:It)(c:EL)(e:E)(ex:Expr):Prop where
 |mk (elt tx iter:Expr) (ifs:List Expr) (scope:Scope) (pos:Pos) (h1:ex=.ListComp elt [⟨tx,iter,ifs,0⟩] scope pos) (h2:o4 (dE sc scope.names t tx) t tx=true) (h3:yS t=true\/yV it=false) (h4:MY P gn ks sc it iter=true) (h5:qS iter=true) (h6:CompNames ks sc scope (fS tx) (da t) (dE sc scope.names t tx))
     (h7:(match (generalizing:=false) ifs with | []=>Az P gn scope.names (dE sc scope.names t tx) c none | [x]=>Az P gn scope.names (dE sc scope.names t tx) c (some x) | _=>false)=true)
     (h8:mE P gn scope.names (dE sc scope.names t tx) e elt=true) (h9:(P 0).isSome=true):CompX P gn ks sc t it c e ex
theorem rX{m:Bool}{ex:Expr}(hm:mE P gn ks sc (.comp m t it c e) ex=true):CompX P gn ks sc t it c e ex:=by
 refine kk λUc k=>?_;replace hm:=av hm;obtain⟨⟨elt,gs,scope⟩,h0,hm⟩:=hm;refine k ?_;apply gj (ER h0);intro pos;replace hm:=av hm;obtain⟨⟨target,iter,ifs,as⟩,h00,hm⟩:=hm;replace h00:=dC h00;clear h0;subst h00;simp only[P3,decide_eq_true_eq,Bool.or_eq_true,QB]at hm;obtain⟨⟨⟨⟨⟨⟨⟨⟨⟨h0',he⟩,h1⟩,h2⟩,h3⟩,h4⟩,h5⟩,h5'⟩,h6⟩,hP⟩:=hm;subst h0';refine⟨elt,target,iter,ifs,scope,pos,rfl,h4,he,h1,h2,Ci h3,?_,h6,hP⟩;cases ifs with
 |nil=>exact h5'
 |cons a l=>cases l with
   |nil=>exact h5'
   |cons _ _=>exact absurd h5 (by simp)
theorem t6(D:Wd Z P gn G cf d){m:Bool}(hi:LH Z P gn G cf d it)(hc:Ir Z P gn G cf d c)(he:PE Z P gn G cf d e){iter:Expr}{pos pos':Pos}
   (hmt:o4 (dE sc scope.names t tx) t tx=true) (hen:yS t=true\/yV it=false) (h1:MY P gn ks sc it iter=true) (h2:qS iter=true) (N:CompNames ks sc scope (fS tx) (da t) (dE sc scope.names t tx))
   (h5:(match ifs with | []=>Az P gn scope.names (dE sc scope.names t tx) c none | [x]=>Az P gn scope.names (dE sc scope.names t tx) c (some x) | _=>false)=true)
   (h6:mE P gn scope.names (dE sc scope.names t tx) e elt=true) (hA:lS Z d A) (hh:A.handled=none) (F:FrameOk Z env ks sc K Y U s.heap) (I:Inv Z Y U s.heap) {v:V} {σ':ac} (ev:af G cf (.comp m t it c e) K U=.ok v σ')
   {use:Option (Value->Sem Unit)} {Q:VP} (q:∀acc C s',CompDone Z Y U s v σ' acc C s'->compPost (model Z.prog Z.w) A (λ_ _=>False) use Q acc C (.ok .next) s') :
   WP Z A (comprehension (.ListComp elt [⟨tx,iter,ifs,0⟩] scope pos) scope env pos' (newList []) false (eval iter env) use) Q (λ_ _=>False) s:=by
 refine kk λUc k=>?_;rw[za]at ev;obtain⟨It,aa,hit,ev⟩:=Res.bind_ok ev;obtain⟨r,ae,hr,hv⟩:=Res.bind_ok ev;have hcells:∀x∈scope.names,x.2=.free->∃c,env.cells.lookup x.1=some c:=λx hx hf=>by
   obtain⟨n,k⟩:=x;subst hf;have q9:=N.free n hx;have hks:=q9.2.1;obtain⟨i,hi⟩:=Qh.mp q9.2.2.1;have hk:env.kindOf n=some .cell\/env.kindOf n=some .free:=by
     rcases hks with q|q
     . exact(F.kinds n _ q).elim .inl λz=>by cases z.1
     . exact(F.kinds n _ q).elim .inr λz=>.inl z.2
   rcases (F.bound n i hi).1 with q|⟨_,q⟩
   . rcases hk with z|z<;>rw[q]at z<;>(injection z with e;injection e)
   . exact q
 obtain⟨cl,hcl,c2,c3,c4⟩:=sM hcells;refine k ?_;refine wpAny_comprehension_free (use:=use) rfl (λx=>o3 h2 x) hcl N.kind N.loc ?_;refine PO (hi ks sc iter env K A Y U s It aa h1 hA hh F I hit) (λx ai h=>PO h (λitv aq h=>?_) λ_ _ x=>x) λ_ _ x=>x;obtain⟨ag,T,rfl,hsh,hen',aH,ay,hw,Op,hlk,hlen⟩:=h;refine PO (Ch hc he N hmt hh h5 h6 c2 c3 c4 hA I hsh (hen.imp id hen'.trans) aH ay hw Op hlk hlen F hr hv (iter:=iter) (pos:=pos)) (λacc aW h=>PO h (λcenv dJ h=>codeAny_mono h λr s' hr=>?_) λ_ _ x=>x) λ_ _ x=>x;cases r with
 |ok f=>have:=q acc cenv.locals s' hr;clear k q;cases use<;>exact this
 |error x=>exact hr.elim
theorem Ki(D:Wd Z P gn G cf d){m:Bool}(hi:LH Z P gn G cf d it)(hc:Ir Z P gn G cf d c)(he:PE Z P gn G cf d e):PE Z P gn G cf d (.comp m t it c e):=λks sc ex env K A Y U s hm hA F I=>by
 obtain⟨elt,tx,iter,ifs,scope,pos,rfl,hmt,hen,h1,h2,N,h5,h6,hP⟩:=rX hm;refine ir.plain rfl λv σ' ev=>?_;rw[arm_eval_ListComp];refine t6 D hi hc he hmt hen h1 h2 N h5 h6 hA (hA.1 (D.q hP)) F I ev (use:=none) λacc C s' h=>?_;obtain⟨β',mm,S,I',rv,hn,hC,hCb⟩:=h;refine⟨mm,hn,λh' hs'=>?_⟩;have hk:∀b o,b≠C->s'.heap.get? b=some o->h'.get? b=some o:=λb o hb e=>(hs'.2 b hb).trans e;have h0:Z.h₀.get? C=none:=by
   cases q:Z.h₀.get? C with
   |none=>rfl
   |some o=>rw[I.base C o q]at hC;injection hC
 exact⟨β',S.tail (W:=(·=C)) (λ_ q=>q▸hC) hk rfl rfl,I'.touch (W:=(·=C)) (λ_ q=>q▸hCb) (λ_ q=>q▸h0) (λ_ q=>q▸ng hn) hk,gF hk (ng hn) rv⟩
mutual
theorem kn(D:Wd Z P gn G cf d):∀e,PE Z P gn G cf d e
 |.none=>Ka
 |.bool b=>Kl b
 |.int i=>MK i
 |.str x=>MC x
 |.var i=>MA i
 |.glob g=>Kf D g
 |.bin op m a b=>MO (kn D a) (kn D b)
 |.neg a=>MH (kn D a)
 |.not a=>MF (kn D a)
 |.bop k es=>MN (qR D es)
 |.cmp op a b=>MM D (kn D a) (kn D b)
 |.cmp2 bD fW a b c=>Kj D (kn D a) (kn D b) (kn D c)
 |.ite c a b=>MI (kn D c) (kn D a) (kn D b)
 |.tup es=>MB (qR D es)
 |.list m es=>Kc (qR D es)
 |.dict0=>G1
 |.idx a i=>ML (kn D a) (kn D i)
 |.slc m a lo hi=>MD (kn D a) (G0 D lo) (G0 D hi)
 |.comp m t it c e=>Ki D (Kd D it) (G0 D c) (kn D e)
 |.call f es=>Kk D (qR D es)
 |.bi b m es=>N7 D (qR D es)
 |.meth b o es=>Kb D (kn D o) (qR D es)
 |.isx k e=>MJ D (kn D e)
 |.freeze e=>D0 (kn D e)theorem qR(D:Wd Z P gn G cf d):∀es,CP Z P gn G cf d es
 |.nil=>MG
 |.cons e es=>Kh (kn D e) (qR D es)theorem G0(D:Wd Z P gn G cf d):∀e,Ir Z P gn G cf d e
 |.nil=>N6
 |.cons e _=>Mz (kn D e)theorem Kd(D:Wd Z P gn G cf d):∀e,LH Z P gn G cf d e
 |.seq e=>ME (kn D e)
 |.range e=>GY D (kn D e)
 |.range2 a b=>DW D (kn D a) (kn D b)
 |.enum e=>Kg D (kn D e)
end
def nu(ex:Expr):Bool:=(tU ex).isSome
noncomputable def Mf(ex:Expr):Nat:=Expr.casesOn (motive_1:=λ_=>Nat) ex (λ_ _ _=>0) (λ_ _ _=>0) (λ_ _ _ _=>0) (λ_ _ _=>0) (λ_ _ _ _=>0) (λ_ _ _ _=>0) (λ_ _ _=>0) (λ_ _ _=>0) (λ_ _ _ _=>1) (λ_ _ _ _=>2) (λ_ _ _ _ _=>2) (λ_ _ _ _=>0) (λ_ _=>0) (λ_ _=>0) (λ_ _=>0) (λ_ _ _ _=>0) (λ_ _ _ _=>0) (λ_ _ _ _=>0) (λ_ _=>0) (λ_ _ _=>0) (λ_ _ _=>0) (λ_ _ _=>0) (λ_ _=>0) (λ_ _=>0) (λ_ _=>0) (λ_ _ _=>0) (λ_ _ _ _=>0)noncomputable def Fo:E->Bool
 |.comp ..=>true
 |_=>(false)theorem Fk(h:Fo e=true):X5 λm t it c e'=>e=.comp m t it c e':=by cases e<;>first|exact⟨_,_,_,_,_,rfl⟩|exact Q3 h
def Jl(e:E)(v:Expr):Bool:=match Mf v with
 |0=>true
 |1=>Fo e
 |_=>(false)def DD(ex:Stmt):Option (Expr):=cT ex.ctorIdx 24 λe=>Stmt.Expr.elim (motive_2:=λ_=>Expr) ex e λa0 _=>(a0)theorem wp{ex:Stmt}{t:Expr}(h:DD ex=some t):∃p,ex=.Expr t p:=by refine(a8 h).elim λe q=>?_;exact Stmt.Expr.elim (motive_2:=λex=>∀e:ex.ctorIdx=24,(Stmt.Expr.elim (motive_2:=λ_=>Expr) ex e λa0 _=>a0)=t->∃p,ex=.Expr t p) ex e (λ_ p _ q=>q▸⟨p,rfl⟩) e (q)theorem JW{ex:Stmt}{t:List Expr×Expr}(h:yt ex=some t):∃p,ex=.Assign t.1 t.2 p:=by refine(a8 h).elim λe q=>?_;exact Stmt.Assign.elim (motive_2:=λex=>∀e:ex.ctorIdx=5,(Stmt.Assign.elim (motive_2:=λ_=>List Expr×Expr) ex e λa0 a1 _=>(a0,a1))=t->∃p,ex=.Assign t.1 t.2 p) ex e (λ_ _ p _ q=>q▸⟨p,rfl⟩) e (q)variable {v:Expr}theorem na{ex:Stmt}{t:List Expr}(h:yt ex=some (t,v)):∃p,ex=.Assign t v p:=JW (h)def NN(ex:Stmt):Option (Expr×List Stmt×List Stmt):=cT ex.ctorIdx 12 λe=>Stmt.If.elim (motive_2:=λ_=>Expr×List Stmt×List Stmt) ex e λa0 a1 a2 _=>(a0,a1,a2)theorem Mp{ex:Stmt}{t:Expr×List Stmt×List Stmt}(h:NN ex=some t):∃p,ex=.If t.1 t.2.1 t.2.2 p:=by refine(a8 h).elim λe q=>?_;exact Stmt.If.elim (motive_2:=λex=>∀e:ex.ctorIdx=12,(Stmt.If.elim (motive_2:=λ_=>Expr×List Stmt×List Stmt) ex e λa0 a1 a2 _=>(a0,a1,a2))=t->∃p,ex=.If t.1 t.2.1 t.2.2 p) ex e (λ_ _ _ p _ q=>q▸⟨p,rfl⟩) e (q)variable {b:List Stmt}theorem DC{ex:Stmt}{t:Expr}{a:List Stmt}(h:NN ex=some (t,a,b)):∃p,ex=.If t a b p:=Mp (h)def JV(ex:Stmt):Option (Expr×Expr×List Stmt×List Stmt):=cT ex.ctorIdx 9 λe=>Stmt.For.elim (motive_2:=λ_=>Expr×Expr×List Stmt×List Stmt) ex e λa0 a1 a2 a3 _=>(a0,a1,a2,a3)theorem JU{ex:Stmt}{t:Expr×Expr×List Stmt×List Stmt}(h:JV ex=some t):∃p,ex=.For t.1 t.2.1 t.2.2.1 t.2.2.2 p:=by refine(a8 h).elim λe q=>?_;exact Stmt.For.elim (motive_2:=λex=>∀e:ex.ctorIdx=9,(Stmt.For.elim (motive_2:=λ_=>Expr×Expr×List Stmt×List Stmt) ex e λa0 a1 a2 a3 _=>(a0,a1,a2,a3))=t->∃p,ex=.For t.1 t.2.1 t.2.2.1 t.2.2.2 p) ex e (λ_ _ _ _ p _ q=>q▸⟨p,rfl⟩) e (q)theorem GO{ex:Stmt}{t i:Expr}{o:List Stmt}(h:JV ex=some (t,i,b,o)):∃p,ex=.For t i b o p:=JU (h)def Dv(ex:Stmt):Option (Option Expr):=cT ex.ctorIdx 3 λe=>Stmt.Return.elim (motive_2:=λ_=>Option Expr) ex e λa0 _=>(a0)theorem p5{ex:Stmt}{t:Option Expr}(h:Dv ex=some t):∃p,ex=.Return t p:=by refine(a8 h).elim λe q=>?_;exact Stmt.Return.elim (motive_2:=λex=>∀e:ex.ctorIdx=3,(Stmt.Return.elim (motive_2:=λ_=>Option Expr) ex e λa0 _=>a0)=t->∃p,ex=.Return t p) ex e (λ_ p _ q=>q▸⟨p,rfl⟩) e (q)def IQ(ex:Stmt):Option (Unit):=cT ex.ctorIdx 25 λe=>Stmt.Pass.elim (motive_2:=λ_=>Unit) ex e λ_=>()theorem Dx{ex:Stmt}{t:Unit}(h:IQ ex=some t):∃p,ex=.Pass p:=by refine(a8 h).elim λe q=>?_;exact Stmt.Pass.elim (motive_2:=λex=>∀e:ex.ctorIdx=25,(Stmt.Pass.elim (motive_2:=λ_=>Unit) ex e λ_=>())=t->∃p,ex=.Pass p) ex e (λp _ _=>⟨p,rfl⟩) e (q)def yr(ex:Stmt):Option (Option Expr×Option Expr):=cT ex.ctorIdx 16 λe=>Stmt.Raise.elim (motive_2:=λ_=>Option Expr×Option Expr) ex e λa0 a1 _=>(a0,a1)theorem Dw{ex:Stmt}{t:Option Expr×Option Expr}(h:yr ex=some t):∃p,ex=.Raise t.1 t.2 p:=by refine(a8 h).elim λe q=>?_;exact Stmt.Raise.elim (motive_2:=λex=>∀e:ex.ctorIdx=16,(Stmt.Raise.elim (motive_2:=λ_=>Option Expr×Option Expr) ex e λa0 a1 _=>(a0,a1))=t->∃p,ex=.Raise t.1 t.2 p) ex e (λ_ _ p _ q=>q▸⟨p,rfl⟩) e (q)theorem BD{ex:Stmt}{a b:Option Expr}(h:yr ex=some (a,b)):∃p,ex=.Raise a b p:=Dw (h)def JO(ex:Stmt):Option (List Stmt×List ExceptHandler×List Stmt×List Stmt):=cT ex.ctorIdx 17 λe=>Stmt.Try.elim (motive_2:=λ_=>List Stmt×List ExceptHandler×List Stmt×List Stmt) ex e λa0 a1 a2 a3 _=>(a0,a1,a2,a3)theorem JN{ex:Stmt}{t:List Stmt×List ExceptHandler×List Stmt×List Stmt}(h:JO ex=some t):∃p,ex=.Try t.1 t.2.1 t.2.2.1 t.2.2.2 p:=by refine(a8 h).elim λe q=>?_;exact Stmt.Try.elim (motive_2:=λex=>∀e:ex.ctorIdx=17,(Stmt.Try.elim (motive_2:=λ_=>List Stmt×List ExceptHandler×List Stmt×List Stmt) ex e λa0 a1 a2 a3 _=>(a0,a1,a2,a3))=t->∃p,ex=.Try t.1 t.2.1 t.2.2.1 t.2.2.2 p) ex e (λ_ _ _ _ p _ q=>q▸⟨p,rfl⟩) e (q)theorem GG{ex:Stmt}{a c d:List Stmt}{b:List ExceptHandler}(h:JO ex=some (a,b,c,d)):∃p,ex=.Try a b c d p:=JN (h)def OQ(sc:SC):RT->Stmt->Option Expr
 |.drop,st=>DD st
 |.var i,st=>(yt st).bind λq=>(one q.1).bind λtx=>(fc tx).bind λx=>if sc.lookup x=some i then some q.2 else none
 |.ret,st=>(Dv st).bind id
 |.retL,st=>((Dv st).bind id).bind λv=>(EO v).bind (one)def O0:ExceptHandler->Option (Str×Option Str×Expr)
 |.ExceptHandler ty nm bd _=>ty.bind λt=>(fc t).bind λx=>(one bd).bind λst=>(Dv st).bind λo=>o.bind λv=>some (x,nm,v)variable {eh:ExceptHandler}{nm:Option Str}theorem K0(h:O0 eh=some (x,nm,v)):X3 λxp rp hp=>eh=.ExceptHandler (some (.Name x xp)) nm [.Return (some v) rp] hp:=by refine kk λUc k=>?_;obtain⟨ty,nm',bd,hp⟩:=eh;obtain⟨t,h1,h⟩:=PK.mp h;obtain⟨x',h2,h⟩:=PK.mp h;obtain⟨st,h3,h⟩:=PK.mp h;obtain⟨o,h4,h⟩:=PK.mp h;obtain⟨v',h5,h⟩:=PK.mp h;have g1:=Prod.mk.inj (Option.some.inj h);have g2:=Prod.mk.inj g1.2;obtain⟨xp,e2⟩:=bO h2;obtain⟨rp,e4⟩:=p5 h4;refine k ?_;exact⟨xp,rp,hp,by rw[h1,dC h3,e4,h5,e2,g1.1,g2.1,g2.2]⟩def Oc (P:Nat->Option Fn) (ks:KS) (f:Nat) (n:Str) (v:Expr):Bool:=ob (rL v) λz=>ob (one z.2) λa=>ob (fc a) λn'=>decide (n'=n)&&decide ((P f).map (·.name)=some z.1)&&decide (z.1=("_law_kind":Str))&&rD ks (z.1)def OV(ks:KS)(sc:SC)(i:Nat)(n:Str):Bool:=decide (sc.lookup n=some i)&&co n&&decide (ks.lookup n=some .local)def OW(P:Nat->Option Fn)(ks:KS)(sc:SC)(h:Hk)(nm:Option Str)(v:Expr):Bool:=match h with
   |.tup i f a=>ob nm λn=>ob (B6 v) λxs=>OV ks sc i n&&ob (JD xs) λq=>Oc P ks f n q.1&&(if a then ob (two q.2) λr=>IZ n j5 r.1&&IZ n dG r.2 else q.2.isEmpty)
   |.none=>nm.isNone&&(AK v).isSome
def Ks(P:Nat->Option Fn)(ks:KS)(sc:SC):List Hd->List ExceptHandler->Bool
 |[],_=>true
 |h::hs,es=>ob (JD es) λq=>ob (O0 q.1) λg=>decide (g.1=j6 h.k)&&rD ks g.1&&decide (h.k<=6)&&OW P ks sc h.h g.2.1 g.2.2&&Ks P ks sc hs q.2
section
variable (P:Nat->Option Fn)(gn:Nat->Str)def NC(v:Expr):Bool:=(B7 v).isSome||nu v||(fc v).isSome
mutual
def mS(ks:KS)(sc:SC):S->Stmt->Bool
 |.expr e,st=>ob (DD st) λv=>nu v&&mE P gn ks sc e v
 |.asg t e,st=>ob (yt st) λq=>ob (one q.1) λtx=>MX sc t tx&&Jl e q.2&&mE P gn ks sc e q.2
 |.asgT l e,st=>ob (yt st) λq=>ob (one q.1) λtx=>ob (B6 tx) λxs=>kr sc l xs&&NC q.2&&(P 0).isSome&&mE P gn ks sc e q.2
 |.put o i e,st=>ob (yt st) λq=>ob (one q.1) λtx=>ob (B7 tx) λp=>wK p.2&&mE P gn ks sc o p.1&&mE P gn ks sc i p.2&&mE P gn ks sc e q.2
 |.ite c a b,st=>ob (NN st) λq=>mE P gn ks sc c q.1&&Ee ks sc a q.2.1&&Ee ks sc b q.2.2
 |.forr t it b,st=>ob (JV st) λq=>q.2.2.2.isEmpty&&o4 sc t q.1&&qS q.2.1&&MY P gn ks sc it q.2.1&&Ee ks sc b q.2.2.1&&(yS t||!yV it)&&(P 0).isSome
 |.ret e,st=>ob (Dv st) λo=>ob o λv=>mE P gn ks sc e v
 |.pass,st=>ob (IQ st) λ_=>true
 |.stop,_=>true
 |.calls t f es,st=>ob (OQ sc t st) λv=>ob (rL v) λq=>decide ((P f).map (·.name)=some q.1)&&rD ks q.1&&rj P gn ks sc es q.2
 |.raise k es,st=>ob (yr st) λq=>ob q.1 λex=>ob (rL ex) λz=>q.2.isNone&&decide (z.1=j6 k)&&rD ks z.1&&decide (1<=k/\k<=6)&&(P 0).isSome&&rj P gn ks sc es z.2&&decide (z.2.length<=1000)
 |.tryS b hs,st=>ob (JO st) λq=>q.2.2.1.isEmpty&&q.2.2.2.isEmpty&&Ee ks sc b q.1&&(P 0).isSome&&(JD q.2.1).isSome&&Ks P ks sc hs q.2.1
 |.iteC f es i x b,st=>ob (NN st) λq=>mE P gn ks sc (.cmp .ne (.idx (.call f es) i) x) q.1&&Ee ks sc b q.2.1&&q.2.2.isEmpty
def Ee(ks:KS)(sc:SC):SL->List Stmt->Bool
 |.nil,xs=>xs.isEmpty
 |.cons s r,xs=>ob (JD xs) λq=>mS ks sc s q.1&&Ee ks sc r q.2
end
end
variable {c:E}{Q:Flow->Shared->Prop}{sp px:Pos}{st:S}{r:SL}def FR(Z:Cx)(env:Env)(ks:KS)(sc:SC)(f:Flow)(o:Out)(Y:List Addr)(U:ac)(h:Heap):Prop:=match o with
 |.next ρ'=>f=.next/\FrameOk Z env ks sc ρ' Y U h
 |.ret v=>∃w,f=.ret w/\aE Y U h w v
 |.exc _ _=>(False)def x3(A:Around)(env:Env):Prop:=X2 λouter f=>A.frames=some (env::outer)/\env.frame=some f
def PS(Z:Cx)(P:Nat->Option Fn)(gn:Nat->Str)(G:GD)(cf:CF)(d:Nat)(st:S):Prop:=
 ∀ks sc x env K A Y U s,mS P gn ks sc st x=true->lS Z d A->FrameOk Z env ks sc K Y U s.heap->Inv Z Y U s.heap->x3 A env->vK env.frame Z (own env) A (PySem.exec x env) (exec G cf st K U) (FR Z env ks sc) (FrameOk Z env ks sc []) Y U s
def FY(Z:Cx)(P:Nat->Option Fn)(gn:Nat->Str)(G:GD)(cf:CF)(d:Nat)(st:SL):Prop:=
 ∀ks sc xs env K A Y U s,Ee P gn ks sc st xs=true->lS Z d A->FrameOk Z env ks sc K Y U s.heap->Inv Z Y U s.heap->x3 A env->vK env.frame Z (own env) A (PySem.execs xs env) (execs G cf st K U) (FR Z env ks sc) (FrameOk Z env ks sc []) Y U s
theorem oR{t:Option Expr}(h:nu v=true):swapsWith v t n env=pure false:=by refine(Qh.mp h).elim λq e=>?_;rw[vh e];rfl
theorem wt{x:Expr}{E:VP}(hk:env.scope.kind=.function)(hx:nu x=true)(h:WP Z A (eval x env) (λ_ ai=>Q .next ai) E s):WP Z A (PySem.exec (.Expr x sp) env) Q E s:=by
 have hi:interactive env=false:=by unfold interactive;rw[hk];rfl
 rw[arm_exec_Expr];refine OJ (Qy ?_);rw[hi,oR hx];show wpAny _ _ (do dropValue x sp (<- eval x env)) _ _ _;exact OJ (PO h (λa ai q=>wpAny_dropValue q) λ_ _ x=>x)
theorem Ad{n:Str}{E:VP}(hs:swapsWith v (some (.Name n px)) sp.line env=pure false)(hw:swappedStores [.Name n px] v env=pure none)
   (h:WP Z A (eval v env) (λu ai=>WP Z A (assign (.Name n px) env u) (λ_ aq=>Q .next aq) E ai) E s):WP Z A (PySem.exec (.Assign [.Name n px] v sp) env) Q E s:=by
 rw[arm_exec_Assign];refine OJ (Qy ?_);refine(?_:wpAny _ _ (swapsWith v (some (.Name n px)) sp.line env >>= λb=>if b=true then _ else _) _ _ _);rw[hs];refine OJ (PH ?_);rw[if_neg PY];refine OJ (PO h (λu ai q=>?_) λ_ _ x=>x);rw[hw];refine OJ (PH ?_);show wpAny _ _ (assign (.Name n px) env u >>= λ_=>pure Flow.next) _ _ _;exact OJ (PO q (λ_ _ q=>PH q) λ_ _ x=>x)
theorem DF{E:VP}(hs:swapsWith v (some (.Tuple xs k p)) sp.line env=pure false)(hw:swappedStores [.Tuple xs k p] v env=pure none)
   (h:WP Z A (eval v env) (λu ai=>WP Z A (assign (.Tuple xs k p) env u) (λ_ aq=>Q .next aq) E ai) E s):WP Z A (PySem.exec (.Assign [.Tuple xs k p] v sp) env) Q E s:=by
 rw[arm_exec_Assign];refine OJ (Qy ?_);refine(?_:wpAny _ _ (swapsWith v (some (.Tuple xs k p)) sp.line env >>= λb=>if b=true then _ else _) _ _ _);rw[hs];refine OJ (PH ?_);rw[if_neg PY];refine OJ (PO h (λu ai q=>?_) λ_ _ x=>x);rw[hw];refine OJ (PH ?_);show wpAny _ _ (assign (.Tuple xs k p) env u >>= λ_=>pure Flow.next) _ _ _;exact OJ (PO q (λ_ _ q=>PH q) λ_ _ x=>x)theorem Ac{x:Expr}{E:VP}(h:WP Z A (eval x env) (λu ai=>Q (.ret u) ai) E s):WP Z A (PySem.exec (.Return (some x) sp) env) Q E s:=by rw[arm_exec_Return];refine OJ (Qy ?_);show wpAny _ _ (eval x env >>= λr=>pure (Flow.ret r)) _ _ _;exact OJ (PO h (λ_ _ q=>PH q) λ_ _ x=>x)
theorem GK(D:Wd Z P gn G cf d):PS Z P gn G cf d (.expr e):=λks sc x env K A Y U s hm hA F I hE=>vK.of <| by
 replace hm:=av hm;obtain⟨v,h0,hm⟩:=hm;apply gj (wp h0);intro pos
 . simp only[P3]at hm;intro c σ' ev;rw[Jv]at ev;obtain⟨w,aa,h1,h2⟩:=Res.bind_ok ev;clear ev;injection h2 with e f;subst e;subst f;exact wt F.kind hm.1 (PO (((kn D e) ks sc v env K A Y U s hm.2 hA F I).1 _ _ h1) (λa ai ⟨ag,S,ay,q⟩=>⟨ag,S.ofNo,ay,rfl,F.step S⟩) λ_ _ x=>x)
theorem si{v:V}{w:Value}{Q:Unit->Shared->Prop}{E:VP}(F:FrameOk Z env ks sc K Y U s.heap)(I:Inv Z Y U s.heap)(hx:sc.lookup x=some i)(r:aE Y U s.heap w v)
   (q:∀s',FrameOk Z env ks sc (K.set i v) Y U s'.heap->Step (own env) Y U s Y U s'->Inv Z Y U s'.heap->Q () s'):WP Z A (storeName env x w) Q E s:=
 F.store I hx r λs' F' S' I' _ _=>q s' F' S' I'
inductive SwapX(e:E)(v:Expr):Prop where
 |mk (m:Bool) (t:Tgt) (it:It) (c:EL) (e':E) (a:Expr) (g:List Comprehension) (s:Scope) (p:Pos) (h1:e=.comp m t it c e') (h2:v=.ListComp a g s p):SwapX e v
set_option tactic.hygienic true in
theorem wd(h:Jl e v=true):swapsWith v (some (.Name x px)) n env=pure false\/(swapsWith v (some (.Name x px)) n env=pure true/\SwapX e v):=by
 cases v
 case ListComp a g s p=>
   obtain⟨m,t,it,c,e',rfl⟩:=Fk (h:Fo e=true);have hb:swapsWith (.ListComp a g s p) (some (.Name x px)) n env=pure (env.blockKind==.function&&env.kindOf x==some .local&&px.line==(Expr.ListComp a g s p).pos.line&&!(s.names.any λ(n,k)=>n==x&&(k==.local||k==.cell))):=rfl;generalize (env.blockKind==.function&&env.kindOf x==some .local&&px.line==(Expr.ListComp a g s p).pos.line&&!(s.names.any λ(n,k)=>n==x&&(k==.local||k==.cell)))=b at hb;cases b with
   |false=>exact .inl hb
   |true=>exact .inr ⟨hb,_,_,_,_,_,_,_,_,_,rfl,rfl⟩
 all_goals first
   |exact .inl rfl
   |exact Q3 (h:false=true)
theorem JT(D:Wd Z P gn G cf d):PS Z P gn G cf d (.asg t e):=λks sc x env K A Y U s hm hA F I hE=>vK.of <| by
 replace hm:=av hm;obtain⟨⟨txs,v⟩,hz,hm⟩:=hm;apply gj (na hz);intro pos;clear hz;replace hm:=av hm;obtain⟨tx,h00,hm⟩:=hm;apply iY (dC h00:txs=[tx]);clear h00
 . obtain⟨h1,h0,h2⟩:=xX hm;replace h1:=Hc h1;clear hm;obtain⟨i,x,px,rfl,rfl,h1,_⟩:=h1
   . intro c σ' ev;obtain⟨w,aa,h3,h4⟩:=Res.bind_ok ev;apply uU h4;intro ρ' hb;clear ev;injection hb with e;subst e;rcases wd (env:=env) (x:=x) (px:=px) (n:=pos.line) h0 with hq|⟨hq,m,t,it,c,e',a,g,oW,p,rfl,rfl⟩
     . exact Ad hq rfl (PO ((kn D e ks sc v env K A Y U s h2 hA F I).1 _ _ h3) (λu ai ⟨ag,S,ay,q⟩=>wpAny_assign_Name (si (F.step S) ay h1 q λs' F' S' I'=>⟨ag,S.ofNo.trans S',I',rfl,F'⟩)) λ_ _ x=>x)
     . rw[arm_exec_Assign];refine OJ (Qy ?_);refine(?_:wpAny _ _ (swapsWith (.ListComp a g oW p) (some (.Name x px)) pos.line env >>= λb=>if b=true then _ else _) _ _ _);refine hq▸?_;refine OJ (PH ?_);rw[if_pos rfl];refine kk λUc k=>?_;obtain⟨elt,tgx,iter,ifs,scope,pos',q,kt,k0,k1,k2,N,k5,k6,hP⟩:=rX h2;clear h2 hq h0;cases (q);refine k ?_;rw[arm_evalThenUse_ListComp];refine OJ (OJ ?_);show wpAny _ _ (comprehension _ oW env _ (newList []) false (eval iter env) (some λv=>assign (.Name x px) env v)) _ _ _;refine t6 D (Kd D it) (G0 D c) (kn D e') kt k0 k1 k2 N k5 k6 hA (hA.1 (D.q hP)) F I h3 λacc C s' h=>?_;obtain⟨β',mm,S,I',rv,hn,hC,hCb⟩:=h;have h0:Z.h₀.get? C=none:=by
         cases q:Z.h₀.get? C with
         |none=>rfl
         |some o=>rw[I.base C o q]at hC;injection hC
       have hnC:¬ own env C:=λz=>by obtain⟨o,ho,_⟩:=F.ownSome z;rw[hC]at ho;injection ho
       refine(?_:wpAny _ _ (assign (.Name x px) env acc) _ _ _);refine wpAny_assign_Name (si (F.step S) I' h1 rv λs'' F'' S'' I''=>?_);have hn'':∃m,s''.heap.Ns C m:=by
         obtain⟨o,es,ep,ho,q⟩:=hn;rcases S''.keepW C o ho (λz=>hCb z.tt.mem) hnC with e|⟨_,_,sl,e⟩
         . exact⟨mm,o,es,ep,e,q⟩
         . exact⟨mm,_,es,ep,e,q⟩
       obtain⟨m'',hn''⟩:=hn'';refine⟨m'',hn'',λh' hs'=>?_⟩;have hk:∀b o,b≠C->s''.heap.get? b=some o->h'.get? b=some o:=λb o hb e=>(hs'.2 b hb).trans e;refine PH (PH ⟨β',(S.ofNo.trans S'').tail (W:=(·=C)) (λ_ q=>q▸hC) hk rfl rfl,I''.touch (W:=(·=C)) (λ_ q=>q▸hCb) (λ_ q=>q▸h0) (λ_ q=>q▸ng hn'') hk,rfl,F''.touch (W:=(·=C)) (λ_ q=>q▸F.frs.not hC) (λ_ q=>q▸hnC) (λ_ q=>q▸ng hn'') hk⟩)
theorem Bs(h:NC v=true):swapsWith v (some (.Tuple xs k p)) n env=pure false/\swappedStores [.Tuple xs k p] v env=pure none:=by
 rcases Qa.mp h with h|h
 rotate_left
 . obtain⟨q,e⟩:=Qh.mp h;obtain⟨p',e⟩:=bO e;rw[e];exact⟨rfl,rfl⟩
 rcases Qa.mp h with h|h
 . obtain⟨q,e⟩:=Qh.mp h;obtain⟨p',e⟩:=EK e;rw[e];exact⟨rfl,rfl⟩
 . obtain⟨q,e⟩:=Qh.mp h;rw[vh e];exact⟨rfl,rfl⟩theorem GN(D:Wd Z P gn G cf d){l:List Nat}:PS Z P gn G cf d (.asgT l e):=λks sc x env K A Y U s hm hA F I hE=>vK.of <| by replace hm:=av hm;obtain⟨⟨txs,v⟩,hz,hm⟩:=hm;apply gj (na hz);intro pos;clear hz;replace hm:=av hm;obtain⟨tx,hz,hm⟩:=hm;apply iY (dC hz:txs=[tx]);clear hz;replace hm:=av hm;obtain⟨xs,hz,hm⟩:=hm;apply y9 (lu hz);intro k p;clear hz;obtain⟨h1,h2,hP,h4⟩:=sA hm;intro c σ' ev;rw[Jw]at ev;refine kk λUc kz=>?_;replace ev:=Res.bind_ok ev;obtain⟨w,aa,e1,ev⟩:=ev;replace ev:=iz ev;obtain⟨ds,hw,ev⟩:=ev;replace ev:=AF ev;obtain⟨hl,ev⟩:=ev;refine kz ?_;clear kz;cases (ev);rw[eu hw]at e1;clear hw;obtain⟨q1,q2⟩:=Bs (env:=env) (xs:=xs) (k:=k) (p:=p) (n:=pos.line) h2;refine DF q1 q2 (PO ((kn D e ks sc v env K A Y U s h4 hA F I).1 _ _ e1) (λu ai ⟨ag,S,ay,q⟩=>?_) λ_ _ x=>x);apply (qo q).el;intro a vs n ha ht hz r;have hn:=mK (env:=env) h1;have hz:=r.length;simp only[PZ]at hz;refine wpAny_assign_Tuple (hA.1 (D.q hP)) ⟨_,ha,rfl,_,rfl⟩ (by rw[hn.1,hz,hl]) hn.2 λh' he=>?_;have hk:∀b o,ai.heap.get? b=some o->h'.get? b=some o:=λb o e=>he b o (QE (Qx e)) e;have S2:Step cz ag σ' ai ag σ' { ai with heap:=h' }:=Step.grow hk rfl rfl;refine oS h1 hl (r.mono λx o _ _ e _ t=>⟨hk _ _ e,t⟩) ((F.step S).step S2) (ay.grow hk) λs' F' S' I' _=>⟨ag,(S.trans S2).ofNo.trans S',I',rfl,F'⟩theorem Bt{o i:Expr}:swapsWith v (some (.Subscript o i p)) n env=pure false:=by cases v<;>rfl
theorem JR(D:Wd Z P gn G cf d){o i:E}:PS Z P gn G cf d (.put o i e):=λks sc x env K A Y U s hm hA F I hE=>vK.of <| by
 replace hm:=av hm;obtain⟨⟨txs,v⟩,hz,hm⟩:=hm;apply gj (na hz);intro pos;clear hz;replace hm:=av hm;obtain⟨tx,h00,hm⟩:=hm;apply iY (dC h00:txs=[tx]);clear h00;replace hm:=av hm;obtain⟨⟨ox,ix⟩,h00,hm⟩:=hm;apply gj (qf h00);intro p
 . refine kk λUc k=>?_;obtain⟨h0,h1,h2,h3⟩:=sA hm;refine k ?_;intro c σ' ev;rw[L6]at ev;refine kk λUc kz=>?_;replace ev:=Res.bind_ok ev;obtain⟨x,aa,e1,ev⟩:=ev;replace ev:=Res.bind_ok ev;obtain⟨a,ae,e2,ev⟩:=ev;replace ev:=Res.bind_ok ev;obtain⟨k,aF,e3,ev⟩:=ev;obtain⟨xd,hx,ev⟩:=iz ev;obtain⟨n,ks',ha,hk,ev⟩:=Jj ev;replace ev:=iz ev;obtain⟨l,hl,ev⟩:=ev;obtain⟨hlim,evF⟩:=AF ev;clear ev;clear ev;replace hl:=jp hl;rw[b9 hx]at e1;rw[jK ha]at e2;rw[eA hk]at e3;clear ev hx ha hk
   . skip
     . skip
       . skip
         refine kz ?_;clear kz;injection evF with e f;subst e;subst f;refine wpAny_Assign_Subscript ?_ Bt;refine PO ((kn D e ks sc v env K A Y U s h3 hA F I).1 _ _ e1) (λu ai ⟨ag,aH,ay,ru⟩=>?_) λ_ _ x=>x;refine PO ((kn D o ks sc ox env K A ag aa ai h1 hA (F.step aH) ay).1 _ _ e2) (λov aq ⟨a5,cC,cD,ro⟩=>?_) λ_ _ x=>x;refine PO ((kn D i ks sc ix env K A a5 ae aq h2 hA ((F.step aH).step cC) cD).1 _ _ e3) (λiv aW ⟨vQ,vF,CJ,ri⟩=>?_) λ_ _ x=>x;apply LT (vF.vrel0 ro);intro ad hb;apply xo (oo ri);intro t g;have S:=(aH.trans cC).trans vF;refine BI (O:=cz) CJ hb hl g (vF.rel0 (cC.rel0 ru)) hlim λs' S' I'=>?_;exact⟨vQ,(S.trans S').ofNo,I',rfl,F.step (S.trans S')⟩
theorem JQ(D:Wd Z P gn G cf d):PS Z P gn G cf d (.ret e):=λks sc x env K A Y U s hm hA F I hE=>vK.of <| by
 replace hm:=av hm;obtain⟨o,h0,hm⟩:=hm;apply gj (p5 h0);intro pos;replace hm:=av hm;obtain⟨v,h00,hm⟩:=hm;subst h00
 . intro c σ' ev;rw[L5]at ev;replace ev:=Res.bind_ok ev;obtain⟨y,aa,e1,ev⟩:=ev;injection ev with e f;subst e;subst f;rw[arm_exec_Return];refine OJ (Qy ?_);show wpAny _ _ (eval v env >>= λr=>pure (Flow.ret r)) _ _ _;exact OJ (PO ((kn D e ks sc v env K A Y U s hm hA F I).1 _ _ e1) (λu ai ⟨ag,aH,ay,ru⟩=>PH ⟨ag,aH.ofNo,ay,u,rfl,ru⟩) λ_ _ x=>x)theorem GI:PS Z P gn G cf d .pass:=λks sc x env K A Y U s hm hA F I hE=>vK.of <| by replace hm:=av hm;obtain⟨_,h0,hm⟩:=hm;apply gj (Dx h0);intro pos;rw[arm_exec_Pass];exact Ev.standAt (Ev.pure I ⟨rfl,F⟩)
theorem DA(D:Wd Z P gn G cf d){a b:SL}(ha:FY Z P gn G cf d a)(hb:FY Z P gn G cf d b):PS Z P gn G cf d (.ite c a b):=λks sc x env K A Y U s hm hA F I hE=>by
 refine kk λUc k=>?_;replace hm:=av hm;obtain⟨⟨t,x,y⟩,h0,hm⟩:=hm;refine k ?_;apply gj (DC h0);intro pos
 . refine kk λUc k=>?_;obtain⟨h1,h2,h3⟩:=xX hm;refine k ?_;have ev:exec G cf (.ite c a b) K U=(mT (af G cf c K U)).bind λt aa=>if t then execs G cf a K aa else execs G cf b K aa:=by have ev0:exec G cf (.ite c a b) K U=(af G cf c K U).bind (λx aa=>(bv (truthy aa x) aa).bind λt aa=>if t then execs G cf a K aa else execs G cf b K aa):=rfl;rw[ev0];unfold mT;cases af G cf c K U<;>rfl
   rw[ev,arm_exec_If];refine vK.standAt (vK.bindO (kn D c ks sc t env K A Y U s h1 hA F I).2 λv w ag aa ai aH ay q _=>?_);subst q;cases v with
   |true=>exact ha ks sc x env K A ag aa ai h2 hA (F.step aH) ay hE
   |false=>exact hb ks sc y env K A ag aa ai h3 hA (F.step aH) ay (hE)theorem Dz:FY Z P gn G cf d .nil:=λks sc xs env K A Y U s hm hA F I hE=>by replace hm:=gc hm;subst hm;exact vK.of (Ev.pure I ⟨rfl,F⟩)
theorem GM(hs:PS Z P gn G cf d st)(hr:FY Z P gn G cf d r):FY Z P gn G cf d (.cons st r):=λks sc xs env K A Y U s hm hA F I hE=>by
 replace hm:=av hm;obtain⟨⟨x,xs⟩,h0,hm⟩:=hm;replace h0:=oq h0;subst h0
 . simp only[P3]at hm;rw[arm_execs_cons];intro c σ' ev;rw[Ge]at ev;obtain⟨o,aa,h1,h2⟩:=Res.bind_ok ev;refine OJ (PO (hs ks sc x env K A Y U s hm.1 hA F I hE o aa h1) (λf ai ⟨ag,aH,ay,q⟩=>?_) λv ai ⟨k,ds,q,fq⟩=>?_)
   . clear h1 ev;cases o with
     |next ρ'=>obtain⟨rfl,F'⟩:=q;exact PO (hr ks sc xs env ρ' A ag aa ai hm.2 hA F' ay hE c σ' h2) (λf aq ⟨a5,cC,cD,q⟩=>⟨a5,aH.trans cC,cD,q⟩) λv aq ⟨k,ds,q,fq⟩=>⟨k,ds,q,fq.back aH⟩
     |ret v=>obtain⟨w,rfl,q⟩:=q;injection h2 with e f;subst e;subst f;exact PH ⟨ag,aH,ay,w,rfl,q⟩
     |exc k ds=>exact q.elim
   . clear ev;subst q;injection h2 with e f;subst e;subst f;exact⟨k,ds,rfl,fq⟩variable {e:Addr}{hk:Hk}{hs:List Hd}{us:List Value}{f:Nat}{L:Option Addr}{tp np rp:Pos}{x y z:PyData}{b:SL}{aW:Shared}{fx:Str}{mL:Str->Option Value}
structure Landed(Z:Cx)(env:Env)(ks:KS)(sc:SC)(L:Option Addr)(Y:List Addr)(U:ac)(s:Shared)(β':List Addr)(σ':ac)(s':Shared)(e:Addr)(k:Nat)(ds:List PyData):Prop where
 st:Step (own env) Y U s β' σ' s'
 inv:Inv Z β' σ' s'.heap
 nb:e∉β'
 fl:Fl L s.heap s'.heap e k ds
 fr:FrameOk Z env ks sc [] β' σ' s'.heap
 xd:k=6->XD s.heap β' σ' s'.heap e ds
theorem FlyQ.elim{Q:Prop}{v:Value}(q:FlyQ L Z (own env) Y U s σ' k ds (FrameOk Z env ks sc []) v s')(f:∀β' e,v=.ref e->Landed Z env ks sc L Y U s β' σ' s' e k ds->Q):Q:=by obtain⟨β',e,h0,h1,h2,h3,h4,h5,h6⟩:=q;exact f β' e h0 ⟨h1,h2,h3,h4,h5,h6⟩theorem Landed.q(q:Landed Z env ks sc L Y U s β' σ' s' e k ds):FlyQ L Z (own env) Y U s σ' k ds (FrameOk Z env ks sc []) (.ref e) s':=⟨β',e,rfl,q.st,q.inv,q.nb,q.fl,q.fr,q.xd⟩theorem Fl.elim{Q:Prop}(q:Fl L h0 h e k ds)(f:∀oe vs,h.get? e=some oe->oe.cls=.ref (KA k)->oe.data=.fields vs->iO L h e vs->(∀T,vs[1]?=some (.ref T)->h0.get? T=none)->Q):Q:=by obtain⟨_,_,oe,vs,h1,h2,h3,h4,h5⟩:=q;exact f oe vs h1 h2 h3 h4 (h5)theorem x3.elim{Q:Prop}(hE:x3 A env)(hA:lS Z d A)(f:∀outer L,A.frames=some (env::outer)->env.frame=some L->(env::outer).filterMap (·.frame)=Z.fr->(∀x∈env::outer,x.scope.kind=.function/\∃f',x.frame=some f'/\f'∈Z.fr)->Q):Q:=by obtain⟨outer,L,hfr,hfL⟩:=hE;obtain⟨l,hl,hlf,hlk⟩:=hA.2.2.2;rw[hfr]at hl;injection hl with e;subst e;obtain⟨hfm,hfx⟩:=B9 hlf;exact f outer L hfr hfL hfm λx hx=>⟨hlk x hx,hfx x hx⟩theorem Landed.frames(q:Landed Z env ks sc L Y U s β' σ' s' e k ds){l:List Env}(h:∀x∈l,x.scope.kind=.function/\∃f',x.frame=some f'/\f'∈Z.fr):s'.heap.FunFrames kq l:=tV λx hx'=>by refine kk λUc kz=>?_;obtain⟨h1,f',hf1,hf2⟩:=h x hx';obtain⟨⟨o',q1,q2⟩,_⟩:=q.fr.frs f' hf2;exact kz (⟨by rw[h1];decide,f',o',hf1,q1,q2⟩)
theorem Landed.noted{L':Option Addr}(q:Landed Z env ks sc L Y U s β' σ' s' e k ds)(F:gk Z Y s.heap)(I:Inv Z Y U s.heap)(hfv:fv=.none\/∃l,L'=some l/\fv=rawInt l)(hfs:∀f∈fs,f∈Z.fr)
   (he:s'.heap.get? e=some oe) (hc:oe.cls=.ref (KA k)) (hd:oe.data=.fields vs) (hL:iO L s'.heap e vs) (hT:∀T,vs[1]?=some (.ref T)->s.heap.get? T=none) (N:Noted fv fs e oe vs s'.heap h'):Landed Z env ks sc L' Y U s β' σ' { s' with heap:=h' } e k ds:=by
 have base0:∀a,s.heap.get? a=none->Z.h₀.get? a=none:=λa q=>by
   cases z:Z.h₀.get? a with
   |none=>rfl
   |some o'=>rw[I.base a o' z]at q;injection q
 exact⟨q.st.noted N q.fl.1 hT λf' hf=>⟨(q.fr.frs f' (hfs f' hf)).1,(F f' (hfs f' hf)).2.1⟩,q.inv.noted N he hd hL (λf' hf=>q.fr.frs f' (hfs f' hf)) (base0 _ q.fl.1) λT z=>base0 _ (hT T z),q.nb,Fl.noted N hfv q.st.alive q.fl.1 hT q.fl.2.1 hc,q.fr.noted N he hd hL λf' hf=>(q.fr.frs f' (hfs f' hf)).1,λz=>(q.xd z).noted N he hd hL λf' hf=>⟨(q.fr.frs f' (hfs f' hf)).1,λy=>by obtain⟨⟨o,y',_⟩,_⟩:=F f' (hfs f' hf);rw[y]at y';injection y'⟩⟩
theorem E2{out:Out}{v:Value}(hA:lS Z d A)(hE:x3 A env)(F:gk Z Y s.heap)(I:Inv Z Y U s.heap)(ho:out=.exc k ds)(fq:FlyQ env.frame Z (own env) Y U s σ' k ds (FrameOk Z env ks sc []) v aW) :
   notedBy (model Z.prog Z.w) A env (cameBackBy (model Z.prog Z.w) A env (λv s'=>X2 λk ds=>out=.exc k ds/\FlyQ env.frame Z (own env) Y U s σ' k ds (FrameOk Z env ks sc []) v s')) v aW:=
 fq.elim λβ' e hv q=>hE.elim hA λouter L hfr hfL hfm hfx=>q.fl.elim λoe vs he hc hd hL hT=>by clear fq;subst hv;exact Ei hfr (q.frames hfx) hfL he hd hL λgg N=>⟨k,ds,ho,(q.noted F I (.inr ⟨L,hfL,rfl⟩) (λf' hf=>hfm▸hf) he hc hd hL hT N).q⟩theorem zK(t:RT)(k:Nat)(ds:List PyData)(K:Fm)(U:ac):jV t (.exc k ds) K U=.ok (.exc k ds) U:=(rfl)theorem gD{v:V}(h:nH v=none)(t:RT)(K:Fm)(U:ac):jV t v K U=OR t v K U:=by unfold jV;rw[h]theorem FlyQ.own{v:Value}(F:FrameOk Z env ks sc K Y U s.heap)(q:FlyQ none Z cz Y U s σ' k ds (λ_ _ _=>True) v s'):FlyQ env.frame Z (own env) Y U s σ' k ds (FrameOk Z env ks sc []) v s':=by obtain⟨β',e,rfl,S,I,n,f,_,y⟩:=q;obtain⟨f1,f2,oe,vs,f3,f4,f5,f6,f7⟩:=f;exact⟨β',e,rfl,S.ofNo,I,n,⟨f1,f2,oe,vs,f3,f4,f5,f6.any,f7⟩,(F.step S).bare,y⟩theorem HU{t:RT}{v:V}{c:Out}(F:FrameOk Z env ks sc K Y U s.heap)(ev:jV t v K ae=.ok c σ'):(X2 λk ds=>v=.exc k ds/\FlyQ none Z cz Y U s ae k ds (λ_ _ _=>True) u s')->X2 λk ds=>c=.exc k ds/\FlyQ env.frame Z (own env) Y U s σ' k ds (FrameOk Z env ks sc []) u s':=λ⟨k,ds,q,fq⟩=>by rw[q,zK]at ev;injection ev with e f;subst e;subst f;exact⟨k,ds,rfl,fq.own F⟩theorem DE{x:Expr}{lp:Pos}{E:VP}(hx:backTo lp (starEach [x] env)=[(false,eval x env)])(h:WP Z A (eval x env) (λu ai=>WP Z A (newList [u]) (λr aq=>Q (.ret r) aq) E ai) E s):WP Z A (PySem.exec (.Return (some (.List [x] lp)) sp) env) Q E s:=by refine Ac ?_;rw[arm_eval_List,hx];exact OJ (Qy (OJ (spliced_cons (PO h (λu ai q=>spliced_nil q) λ_ _ x=>x))))
theorem Ck{t:RT}{x:Stmt}{v:V}{c:Out}{E:VP}(hx:OQ sc t x=some (.Call (.Name fx p) args [] pos))(F:FrameOk Z env ks sc K Y U s.heap)(ev:jV t v K ae=.ok c σ')(C:WP Z A (eval (.Call (.Name fx p) args [] pos) env) (λa ai=>nH v=none/\Po Z cz Y U s ae ai λβ'=>aE β' ae ai.heap a v) E s)
   (fin:∀f s',(Po Z (own env) Y U s σ' s' λβ'=>FR Z env ks sc f c β' σ' s'.heap)->Q f s'):WP Z A (PySem.exec x env) Q E s:=by
 cases t with
 |drop=>apply gj (wp hx);intro sp;refine wt F.kind rfl (PO C (λa ai ⟨z,ag,S,ay,q⟩=>?_) λ_ _ x=>x);rw[gD z]at ev;injection ev with e f;subst e;subst f;exact fin _ _ ⟨ag,S.ofNo,ay,rfl,F.step S⟩
 |var i=>
   replace hx:=PK.mp hx;obtain⟨⟨txs,w⟩,hz,hx⟩:=hx;replace hx:=PK.mp hx;obtain⟨tx,h00,hx⟩:=hx;replace hx:=PK.mp hx;obtain⟨n,hn,hx⟩:=hx;apply gj (na hz);intro sp;apply iY (dC h00:txs=[tx]);apply gj (bO hn);intro px;by_cases hl:sc.lookup n=some i
   . rw[if_pos hl]at hx;apply iY (Option.some.inj hx:w=(.Call (.Name fx p) args [] pos));refine Ad (oR rfl) rfl (PO C (λu ai ⟨z,ag,S,ay,q⟩=>?_) λ_ _ x=>x);rw[gD z]at ev;injection ev with e f;subst e;subst f;exact wpAny_assign_Name (si (F.step S) ay hl q λs' F' S' I'=>fin _ _ ⟨ag,S.ofNo.trans S',I',rfl,F'⟩)
   . rw[if_neg hl]at hx;injection hx
 |ret=>replace hx:=PK.mp hx;obtain⟨o,hz,hx⟩:=hx;apply gj (p5 hz);intro sp;apply iY (show o=some (.Call (.Name fx p) args [] pos) from hx);refine Ac (PO C (λu ai ⟨z,ag,S,ay,q⟩=>?_) λ_ _ x=>x);rw[gD z]at ev;injection ev with e f;subst e;subst f;exact fin _ _ ⟨ag,S.ofNo,ay,u,rfl,q⟩
 |retL=>replace hx:=PK.mp hx;obtain⟨w,hz,hx⟩:=hx;replace hz:=PK.mp hz;obtain⟨o,hz,hw⟩:=hz;apply gj (p5 hz);intro sp;apply iY (show o=some w from hw);replace hx:=PK.mp hx;obtain⟨xs,hg,hx⟩:=hx;apply gj (xi hg);intro lp;apply iY (dC hx);refine DE rfl (PO C (λu ai ⟨z,ag,S,ay,q⟩=>?_) λ_ _ x=>x);rw[gD z]at ev;have ev:oc (bN v) (λx=>Res.ok (Out.ret (.d (.list [x]))) ae) .bad=.ok c σ':=ev;replace ev:=iz ev;obtain⟨y,hy,ev⟩:=ev;injection ev with e f;subst e;subst f;rw[b9 hy]at q;exact PO (gI (O:=cz) (A:=A) (m:=false) (l:=[y]) (t:=newList [u]) ay (by simp[LIM]) (wpAny_newList (by exact⟨_,_,0,rfl,bo _,PV _ rfl,bw _,rfl,rfl,by simpa using RelAll.one q⟩) (by simp[sizeLine])) _ _ rfl) (λr aq ⟨a5,cC,cD,yx⟩=>fin _ _ ⟨a5,(S.trans cC).ofNo,cD,r,rfl,yx⟩) λ_ _ x=>(x.elim)theorem DB(D:Wd Z P gn G cf d){t:RT}:PS Z P gn G cf d (.calls t f es):=λks sc x env K A Y U s hm hA F I hE=>by refine kk λUc k=>?_;replace hm:=av hm;obtain⟨v,hx,hm⟩:=hm;replace hm:=av hm;obtain⟨⟨fx,args⟩,h0,hm⟩:=hm;obtain⟨p,pos,e0⟩:=eU h0;rw[e0]at hx;obtain⟨h1,h3⟩:=PI.mp hm;obtain⟨h1,h2⟩:=PI.mp h1;have h1:=of_decide_eq_true h1;clear h0 e0 hm;refine k λc σ' ev=>?_;clear k;have ev:((aU G cf es K U).bind λvs aa=>(cf f vs aa).bind λv ae=>jV t v K ae)=.ok c σ':=ev;obtain⟨vs,σa,ea,ev⟩:=Res.bind_ok ev;obtain⟨v,ae,eb,ev⟩:=Res.bind_ok ev;have C:=se (p:=p) (pos:=pos) D (qR D _) h1 h2 h3 hA F I v ae (ea▸eb);clear h1 h2 h3 eb ea;exact Ck hx F ev (PO C (λ_ _ x=>x) λ_ _=>HU F ev) λ_ _ q=>q
theorem GJ(D:Wd Z P gn G cf d){i x:E}(hb:FY Z P gn G cf d b):PS Z P gn G cf d (.iteC f es i x b):=λks sc st env K A Y U s hm hA F I hE c σ' ev=>by
 have ev:((aU G cf es K U).bind λvs aa=>(cf f vs aa).bind λv ae=>oc (nH v) (λp=>.ok (.exc p.1 p.2) ae) (exec G cf (.ite (.cmp .ne (.idx (.call f es) i) x) b .nil) K U))=.ok c σ':=ev;replace ev:=Res.bind_ok ev;obtain⟨vs,σa,ea,ev⟩:=ev;replace ev:=Res.bind_ok ev;obtain⟨v,ae,eb,ev⟩:=ev;cases hx:nH v with
 |none=>rw[hx]at ev;exact DA D hb (Dz) ks sc st env K A Y U s hm hA F I hE c σ' ev
 |some p=>
   rw[hx]at ev;refine kk λUc kx=>?_;replace hm:=av hm;obtain⟨⟨t,y,w⟩,h0,hm⟩:=hm;obtain⟨pos,e1⟩:=DC h0;have q9:=xX hm;have hm:=q9.1;replace hm:=av hm;obtain⟨⟨l,os,rs⟩,h0,hm⟩:=hm;obtain⟨pos2,e2⟩:=vg h0;replace hm:=av hm;obtain⟨o,_,hm⟩:=hm;replace hm:=av hm;obtain⟨r,_,hm⟩:=hm;obtain⟨_,_,hm,_⟩:=sA hm;replace hm:=av hm;obtain⟨⟨u,ix⟩,h0,hm⟩:=hm;obtain⟨pos3,e3⟩:=qf h0;obtain⟨_,hm,_⟩:=xX hm;replace hm:=av hm;obtain⟨⟨fx,args⟩,h0,hm⟩:=hm;obtain⟨p4,pos4,e4⟩:=eU h0;obtain⟨h1,h2,h3⟩:=xX hm;refine kx ?_;clear kx;rw[show st=_ from e1,show t=_ from e2,show l=_ from e3,show u=_ from e4];rw[arm_exec_If];refine OJ (Qy (OJ ?_));rw[arm_isTrue_Compare];refine OJ ?_;rw[arm_eval_Subscript];refine OJ (PO (se D (qR D _) (of_decide_eq_true h1) h2 h3 hA F I v ae (by rw[ea];exact eb)) (λa ai z=>?_) λe s' q=>?_)
   . have:=z.1;rw[hx]at this;injection this
   . obtain⟨k,ds,q,fq⟩:=q;rw[q]at hx;injection hx with e;subst e;injection ev with e f;subst e;subst f;exact⟨k,ds,rfl,fq.own F⟩
theorem eY.two{vs:List Value}(r:eY Y U h vs [.d x,.d y]):X2 λv1 v2=>A3 (vs=[v1,v2]) (Rel (TT Y U) h v1 x) (Rel (TT Y U) h v2 y):=by
 cases r with
 |cons r1 r=>cases r with
   |cons r2 r=>cases r;exact⟨_,_,rfl,r1,r2⟩
theorem JX(D:Wd Z P gn G cf d){pos:Pos}{Q:Flow->Shared->Prop}{E:VP}(hg:rD ks (j6 6)=true)(h3:rj P gn ks sc es args=true)(hh:A.handled=none)(hA:lS Z d A)(F:FrameOk Z env ks sc K Y U s.heap)(I:Inv Z Y U s.heap)(he:aU G cf es K U=.ok [.d x,.d y] σ')
   (k:∀v s',FlyQ env.frame Z (own env) Y U s σ' 6 [x,y] (FrameOk Z env ks sc []) v s'->E v s'):WP Z A (PySem.exec (.Raise (some (.Call (.Name (j6 6) p) args [] pos)) none sp) env) Q E s:=by
 have es':=eV (env:=env) (pos:=pos) h3;rw[arm_exec_Raise];refine OJ (Qy ?_);refine XAt.elim (D.x.own 6 (P9 6)).2 λnm q' N bs hdct sn sub ab col dd k0 k1 k2 k3 k5 mN hC hN _ _=>?_;refine yw (C:=KA 6) (nm:=nm) (q:=q') (N:=N) (bs:=bs) (bm:=d7 6) (hdct:=hdct) (sn:=sn) (sub:=sub) (ab:=ab) (col:=col) (dd:=dd) (k0:=k0) (k1:=k1) (k2:=k2) (k3:=k3) (k5:=k5) (newId:="ValueError.__new__") (by rw[jb (by decide),QI];rfl) hh ?_;refine OJ (PO (Q:=λv ai=>X4 λe t D sl=>A4 (v=.ref e) (ai.heap.get? (KA 6)=some (excClassObj nm q' (KA 6) N bs (d7 6) hdct sn sub ab col dd k0 k1 k2 k3 k5 "ValueError.__new__")) (ai.heap.get? e=some { cls:=.ref (KA 6),dict:=D,data:=.fields #[.ref t,.none,.none,.none,.bool false,.none],slots:=sl }) (E (.ref e) ai)) ?_ (λv aW oJ=>OJ (Qy (PH oJ))) λ_ _ z=>z);refine PyProof.Rows.Call_Name es'.1 (jL D F I hg (D.x.own 6 (P9 6)).1 ?_);unfold callWith;refine OJ (QR (gL (qR D es) h3 hA F I he λws β' s' S I' r=>OJ (Qy ?_)));obtain⟨v1,v2,rfl,r1,r2⟩:=r.two;have hlim:=(D.w.keeps I').2.2;have hC':=I'.base _ _ hC;obtain⟨hp,g,dr,tk,os⟩:=s';rw[es'.2];refine OJ (wpAny_keeperOf_exc hC' ?_);refine OJ (zk (prog:=Z.prog) (w:=Z.w) (h:=hp) (g:=g) (d:=dr) (t:=tk) (os:=os) (v1:=v1) (v2:=v2) (Fw (D.x.at I' (P9 6)) (D.x.at I' (PR _))) hlim (P6 (Qb (PU _ d) (by decide)) hA.2.1) λh' tk' e M=>OJ (QR (wpAny_point (PH ?_))));obtain⟨t,Dd,sl,m,kp,e1,e2,e3,e4,e5⟩:=M;have G':Step cz β' σ' ⟨hp,g,dr,tk,os⟩ β' σ' ⟨h',g,dr,tk',os⟩:=Step.grow kp rfl rfl;refine⟨e,t,_,sl,rfl,kp _ _ hC',e2,k _ _ ⟨β',e,rfl,(S.trans G').ofNo,I'.grow kp,I'.notMem e1,⟨S.alive _ e1,⟨by decide,by decide⟩,_,_,e2,rfl,rfl,.inl rfl,λT q=>by (injection q with e;injection e)⟩,((F.step S).step G').bare,λ_=>⟨_,Dd,m,v1,v2,x,y,rfl,e2,rfl,⟨S.alive _ e3,(I'.notMem e3)⟩,e4,e5,G'.rel0 r1,G'.rel0 r2⟩⟩⟩
theorem JY(D:Wd Z P gn G cf d){pos:Pos}{vs:List V}{E:VP}(hk:1<=k/\k<=5)(hg:rD ks (j6 k)=true)(h3:rj P gn ks sc es args=true)(hlen:args.length<=1000)(hh:A.handled=none)(hA:lS Z d A)(F:FrameOk Z env ks sc K Y U s.heap)(I:Inv Z Y U s.heap)(he:aU G cf es K U=.ok vs σ')
   (fin:∀v s',FlyQ env.frame Z (own env) Y U s σ' k [] (FrameOk Z env ks sc []) v s'->E v s'):WP Z A (PySem.exec (.Raise (some (.Call (.Name (j6 k) p) args [] pos)) none sp) env) Q E s:=by
 refine XAt.elim (D.x.own k (Qt hk.2)).2 λnm q N bs hdct sn sub ab col dd k0 k1 k2 k3 k5 mN hC hN hq hi=>?_;refine XAt.elim (D.x.own 0 (PR _)).2 λnm' q' N' bs' hdct' sn' sub' ab' col' dd' k0' k1' k2' k3' k5' mN' hC' hN' hq' hi'=>?_;have es':=eV (env:=env) (pos:=pos) h3;refine wpAny_Raise_call_subT (C:=KA k) (nm:=nm) (q:=q) (N:=N) (bs:=bs) (bm:=d7 k) (hdct:=hdct) (sn:=sn) (sub:=sub) (ab:=ab) (col:=col) (dd:=dd) (k0:=k0) (k1:=k1) (k2:=k2) (k3:=k3) (k5:=k5)
   PySem.F.excBase_ValueError (mN:=mN) (by rw[jb hk.1,QI];rfl) hh (by rw[es'.1];exact es'.2) (hi hk.2) (jL D F I hg ((D.x.own k (Qt hk.2)).1) ⟨rfl,?_⟩)
 rw[es'.1];refine gL (qR D es) h3 hA F I he λws β' s' S I' r=>⟨rfl,?_,I'.base _ _ hC,hN.keeps I'.base,?_,λh' e M=>?_⟩
 . show ws.length<=sizeLine;rw[gl r,lA h3 he];exact iv hlen (by decide)
 . rw[jb hk.1];exact .own (I'.base _ _ hC') (hN'.keeps I'.base) (hi' (PR _)) .base
 . obtain⟨t,ht,_,_⟩:=M.there;have G':Step cz β' σ' s' β' σ' { s' with heap:=h' }:=Step.grow M.keeps rfl rfl;exact fin _ _ ⟨β',e,rfl,(S.trans G').ofNo,I'.grow M.keeps,I'.notMem M.new,⟨S.alive _ M.new,⟨hk.1,Qt hk.2⟩,_,_,ht,rfl,rfl,.inl rfl,λT q=>by (injection q with e;injection e)⟩,((F.step S).step G').bare,λz=>absurd (z▸hk.2) (by decide)⟩
theorem Dy(D:Wd Z P gn G cf d):PS Z P gn G cf d (.raise k es):=λks sc x env K A Y U s hm hA F I hE=>by
 replace hm:=av hm;obtain⟨⟨ox,oc⟩,h0,hm⟩:=hm;apply gj (BD h0);intro sp;replace hm:=av hm;obtain⟨ex,h00,hm⟩:=hm;apply iY (show ox=some ex from h00);replace hm:=av hm;obtain⟨⟨z,args⟩,h01,hm⟩:=hm;apply y9 (eU h01);intro p pos;refine kk λUc kx=>?_;obtain⟨hm,hlen⟩:=PI.mp hm;obtain⟨hm,h3⟩:=PI.mp hm;obtain⟨hm,hP⟩:=PI.mp hm;obtain⟨hm,hk⟩:=PI.mp hm;replace hm:=PI.mp hm;obtain⟨hm,hg⟩:=hm;obtain⟨hn,hz⟩:=PI.mp hm;replace hk:=of_decide_eq_true hk;replace hz:z=j6 k:=of_decide_eq_true hz;replace hn:oc=none:=QA.mp hn;rw[hz]at hg;refine kx ?_;clear kx h0 h00 h01 hm;apply iY hz;apply iY hn;clear hz hn;intro c σ' ev;have ev:((aU G cf es K U).bind λvs aa=>NP k vs aa)=.ok c σ':=ev;refine kk λUc kz=>?_;replace ev:=Res.bind_ok ev;obtain⟨vs,aa,he,ev⟩:=ev;unfold NP at ev;clear hm;by_cases hk5:k<=5
 . rw[if_pos ⟨hk.1,hk5⟩]at ev;refine kz ?_;clear kz;cases (ev);exact JY D ⟨hk.1,hk5⟩ hg h3 (of_decide_eq_true hlen) (hA.1 (D.q hP)) hA F I he λv s' q=>⟨k,[],rfl,q⟩
 . have hk6:k=6:=Rz hk.2 (Nat.lt_of_not_le hk5);rw[if_neg λz=>hk5 z.2,if_pos hk6]at ev;replace ev:=iz ev;obtain⟨⟨a,b⟩,h2,ev⟩:=ev;replace ev:=Jj ev;obtain⟨x,y,hx,hy,ev⟩:=ev;rw[jx h2,show a=.d x from b9 hx,show b=.d y from b9 hy]at he;refine kz ?_;clear kz;injection ev with e f;subst e;subst f;clear h2 hx hy;subst hk6;exact JX D hg h3 (hA.1 (D.q hP)) hA F I he λv s' q=>⟨6,[x,y],rfl,q⟩
theorem BY (D:Wd Z P gn G cf d) {n:Str} {v:V} {E:VP} (h1:(P f).map (·.name)=some fx) (h1':fx=("_law_kind":Str)) (h2:rD ks fx=true) (hn:sc.lookup n=some i) (hno:co n=true)
   (hA:lS { Z with q:=true } d A) (F:FrameOk Z env ks sc K Y U s.heap) (I:Inv Z Y U s.heap) (hv:K[i]?=some (.exc k ds)) (hc:cf f [.exc k ds] U=.ok v σ') (hx:nH v=none) :
   WP Z A (eval (.Call (.Name fx p) [.Name n np] [] pos) env) (λa s'=>Po Z cz Y U s σ' s' λβ'=>aE β' σ' s'.heap a v) E s:=by
 obtain⟨fn,hf,rfl⟩:=Qj.mp h1;obtain⟨a,o,fd,hg,ho,hd,hcall⟩:=D.k f fn hf h1';refine PyProof.Rows.Call_Name rfl (jL D F I h2 hg ?_);refine callWith_function (o:=o) (fd:=fd) (evalArgs_plain (spliced_cons (wpAny_Name (F.load hn hv (by simp) λw hw=>spliced_nil ⟨⟨I.base a o ho,hd⟩,?_⟩) (cV hno).1)));refine PO (hcall A Y U s [w] [.exc k ds] hA F.frs I (.cons hw .nil) v σ' hc) (λu s'' q=>q.2) λu s'' ⟨k',ds',q,_⟩=>?_;subst q;injection hx
theorem Ef {n:Str} {Q:Prop} (hm:Oc P ks f n v=true) (q:∀fp np fpos,v=.Call (.Name "_law_kind" fp) [.Name n np] [] fpos->(P f).map (·.name)=some "_law_kind"->rD ks "_law_kind"=true->Q):Q:=by replace hm:=av hm;obtain⟨⟨fx,fargs⟩,q5,hm⟩:=hm;obtain⟨fp,fpos,rfl⟩:=eU q5;replace hm:=av hm;obtain⟨ax,q6,hm⟩:=hm;replace q6:fargs=[ax]:=dC q6;clear q5;subst q6;replace hm:=av hm;obtain⟨n',q7,hm⟩:=hm;obtain⟨np,rfl⟩:=bO q7;simp only[P3,decide_eq_true_eq]at hm;obtain⟨⟨⟨q8,hf⟩,hf'⟩,hgf⟩:=hm;subst q8;subst hf';exact q fp np fpos rfl hf (hgf)theorem yO{n x:Str}(hm:IZ n x v=true):X2 λnp p=>v=.Attribute (.Name n np) x p:=by replace hm:=av hm;obtain⟨⟨o,y,p⟩,h0,hm⟩:=hm;apply iY (xk h0);replace hm:=av hm;obtain⟨n',h1,hm⟩:=hm;obtain⟨np,h1⟩:=bO h1;subst h1;simp only[P3,decide_eq_true_eq]at hm;obtain⟨rfl,h2⟩:=hm;subst h2;exact⟨np,p,rfl⟩
theorem BS{n:Str}{v:V}{f:Flow}{E:VP}(hkl:env.kindOf n=some .local)(F:FrameOk Z env ks sc K Y U s.heap)(I:Inv Z Y U s.heap)(r:aE Y U s.heap u v)(q:∀s',Step (own env) Y U s Y U s'->Inv Z Y U s'.heap->aE Y U s'.heap u v->Q f s') :
   WP Z A (do bindName env n .none;unbindBehindTheSuite env n pos) (λ_ s'=>Q f s') E s:=by
 obtain⟨Ph,OE,_⟩:=F.ns;refine wpAny_nameGoes hkl OE (by refine F.kind▸?_;rfl) λM5 Pg OD I1=>?_;have hk6':∀b' o',b'≠env.locals->s.heap.get? b'=some o'->M5.get? b'=some o':=λb' o' q z=>(I1.2 b' q).trans z;have nS:=F.notSeq env.locals (.inl rfl);refine q _ ⟨⟨[],by simp,by simp⟩,λk c' _ e=>⟨c',e,id,id,id⟩,Ja λb' o' z _ hb'=>hk6' b' o' (λq=>hb' (.inl q)) z,λb' z=>?_,rfl,rfl⟩ (I.touch (W:=(·=env.locals)) (λ_ q=>q▸(F.apart _ (.inl rfl)).1) (λ_ q=>q▸(F.apart _ (.inl rfl)).2) (λ_ q=>q▸nS) hk6') (gF hk6' nS r);by_cases q:b'=env.locals
 . subst q;obtain⟨o',_,_,z',_⟩:=OD;have z:M5.get? env.locals=none:=z;rw[z']at z;injection z
 . exact(I1.2 b' q).symm.trans z
def Iy(Z:Cx)(A:Around)(env:Env)(v:Expr)(σ':ac)(x:V)(Y:List Addr)(U:ac)(s:Shared):Prop:=
 WP Z A (eval v env) (λu ai=>Po Z cz Y U s σ' ai λβ'=>aE β' σ' ai.heap u x) (λ_ _=>False) s
theorem Db{x:V}{n:Str}{v:Expr}{E NK:VP}(q:Landed Z env ks sc none Y U s β' aa ai e k ds)(F3:FrameOk Z env ks sc K Y U s.heap)
   (hni:sc.lookup n=some i) (hkl:env.kindOf n=some .local)
   (hv:∀ρ' dJ,ρ'[i]?=some (.exc k ds)->FrameOk Z env ks sc ρ' β' aa dJ.heap->Inv Z β' aa dJ.heap->Step (own env) β' aa ai β' aa dJ->(k=6->XD s.heap β' aa dJ.heap e ds)->(X2 λo vs=>A3 (dJ.heap.get? e=some o) (o.cls=.ref (KA k)) (o.data=.fields vs))->(∃m,dJ.heap.Ns env.locals m/\m n=some (.ref e))->Iy Z (A.mark (some (.ref e))) env v σ' x β' aa dJ)
   (k':∀mU u gm,Step (own env) Y U s mU σ' gm->Inv Z mU σ' gm.heap->aE mU σ' gm.heap u x->Q (.ret u) gm) :
   WP Z (A.mark (some (.ref e))) (storeName env n (.ref e)) (λ_ aq=>WP Z (A.mark (some (.ref e))) (PySem.execs [.Return (some v) rp] env)
     (λf aW=>WP Z A (do bindName env n .none;unbindBehindTheSuite env n pos) (λ_ s'=>Q f s') E' aW) E aq) NK ai:=by
 refine q.fl.elim λoe vs he hc hd _ _=>(q.fr.empty:FrameOk Z env ks sc (List.replicate (i+1) .un) β' aa ai.heap).store (v:=.exc k ds) q.inv hni ⟨e,oe,vs,rfl,he,⟨hc,hd,q.fl.2.1⟩,λz=>q.nb z.mem⟩ λdJ CK NG F2 kv kl=>?_;obtain⟨keepL,hNm⟩:=kl hkl;have lo:s.heap.get? env.locals≠none:=λz=>by obtain⟨o,ho,_⟩:=F3.ownSome (.inl rfl);rw[z]at ho;injection ho
 have eL:e≠env.locals:=λz=>lo (z▸q.fl.1);rw[arm_execs_cons,arm_exec_Return];refine OJ (OJ (Qy ?_));show wpAny _ _ (eval v env >>= λr=>pure (Flow.ret r)) _ _ _;refine OJ (PO (hv _ dJ (by simp) CK F2 NG (λz=>(q.xd z).move (λ_ y=>y) (λo y=>⟨o,keepL e o eL y,rfl⟩) (λD o y _ nb hn=>⟨nb,o.slots,keepL D o (λy'=>lo (y'▸hn)) y⟩) λu y r=>kv u (.d y) r) ⟨oe,vs,keepL e oe eL he,hc,hd⟩ hNm) (λu gm ⟨mU,CH,F1,r⟩=>PH (PH ?_)) λ_ _ z=>z.elim);exact BS hkl (CK.step CH) F1 r λNV OC OH N3=>k' mU u NV (((q.st.trans NG).trans CH.ofNo).trans OC) OH N3
theorem sv (D:Wd Z P gn G cf d) {n y:Str} {m:Str->Option Value} {Q:VP} {E:VP} (hy:y∈fh) (hB:typeLookup (.type "ValueError") y=pure none) (hno:co n=true) (hk:env.scope.kind=.function) (hkl:env.kindOf n=some .local) (I:Inv Z Y U s.heap)
   (hNm:s.heap.Ns env.locals mL) (hn':mL n=some (.ref e)) (he:s.heap.get? e=some oe) (hc:oe.cls=.ref (KA 6)) (hd:oe.data=.fields vs) (hD:oe.dict=some Dd) (hn:s.heap.Ns1 Dd m) (hu:m y=some u) (r:Rel (TT Y U) s.heap u z) (q:∀tk,Q u { s with toks:=tk }) :
   WP Z A (eval (.Attribute (.Name n np) y pos) env) Q E s:=by
 refine PyProof.Rows.Attribute_name (wpAny_Name (wpAny_loadName_local hk hkl hNm hn' ?_) (cV hno).1);obtain⟨mN,mN',T,qn,_⟩:=Fw (D.x.at I (P9 6)) (D.x.at I (PR _));have n1:=qn "__getattribute__" (.head _);have n2:=qn "__getattr__" (.tail _ (.head _));have n3:=qn y hy;obtain⟨hp,g,dr,tk,os⟩:=s;exact xf T n1.1 n1.2 n2.1 n2.2 n3.1 n3.2 hB he hc hd hD hn hu (by clear hu q;cases r<;>rfl) λt'=>q t'
theorem zS{xs:List PyData}{E:VP}(I:Inv Z Y U s.heap)(r:RelAll (TT Y U) s.heap us xs)(hl:xs.length<=1000):WP Z A (newTuple us) (λw s'=>Po Z cz Y U s U s' λβ'=>aE β' U s'.heap w (.d (.tuple xs))) E s:=by exact MU (rV (O:=cz) I (iv hl (by decide)) (wpAny_newTuple ⟨_,_,0,rfl,bo _,PV _ rfl,bw _,rfl,rfl,by simpa using r⟩ (by rw[r.length];exact iv hl (by decide))) _ _ rfl)
theorem XD.step(X:XD h0 Y U s.heap e ds)(S:Step cz Y U s ag aa ai)(he:s.heap.get? e=some oe)(hd:oe.data=.fields vs)(nb:e∉Y):XD h0 ag aa ai.heap e ds:=
 X.move (λ_ z=>z) (λo z=>⟨o,S.keep e o z (λy=>nb y.tt.mem) id (by rw[he]at z;injection z with e;subst e;exact eJ hd),rfl⟩) (λD o z hf nb' _=>⟨(λy=>by
     obtain⟨l,rfl,g⟩:=S.ext;rcases PQ.mp y with y|y
     . exact nb' y
     . rw[g D y]at z;injection z),(S.keepW D o z (λy=>nb' y.tt.mem) id).elim (λy=>⟨o.slots,y⟩) λy=>y.2.2⟩) λv x r=>S.rel0 r
theorem Ew(D:Wd Z P gn G cf d){a:Bool}{n:Str}{q:Expr}{xs:List Expr}{kk:Nat}(hq:Oc P ks f n q=true)(hxs:(if a then ob (two xs) λr=>IZ n j5 r.1&&IZ n dG r.2 else xs.isEmpty)=true)(hak:a=true->k=6)
   (hni:sc.lookup n=some i) (hno:co n=true) (hkl:env.kindOf n=some .local) (hA:lS { Z with q:=true } d A) (F:FrameOk Z env ks sc K Y U s.heap) (I:Inv Z Y U s.heap) (hv:K[i]?=some (.exc k ds)) (ec:cf f [.exc k ds] U=.ok (.d x) σ')
   (nb:e∉Y) (xd:k=6->XD h0 Y U s.heap e ds) (he:s.heap.get? e=some oe) (hc:oe.cls=.ref (KA k)) (hd:oe.data=.fields vs) (hNm:s.heap.Ns env.locals mL) (hn:mL n=some (.ref e)):Iy Z A env (.Tuple (q::xs) kk tp) σ' (.d (.tuple (x::if a then ds else []))) Y U s:=by
 refine Ef hq λfp np fpos q0 hf hgf=>?_;clear hq;subst q0;have C:=BY (p:=fp) (np:=np) (pos:=fpos) D hf rfl hgf hni hno hA F I hv ec rfl (E:=λ_ _=>False);unfold Iy;cases a with
 |false=>apply iY (gc hxs:xs=[]);have trees:backTo tp (starEach [.Call (.Name "_law_kind" fp) [.Name n np] [] fpos] env)=[(false,eval (.Call (.Name "_law_kind" fp) [.Name n np] [] fpos) env)]:=rfl;rw[arm_eval_Tuple,trees];exact OJ (Qy (OJ (spliced_cons (PO C (λu ai ⟨ag,S,ay,r⟩=>spliced_nil (PO (zS ay (RelAll.one r) (P5 rfl)) (λw aq ⟨a5,cC,cD,uD⟩=>⟨a5,S.trans cC,cD,uD⟩) λ_ _ z=>z)) λ_ _ z=>z))))
 |true=>
   have hk:=hak rfl;clear hak;subst hk;have hxs:(ob (two xs) λr=>IZ n j5 r.1&&IZ n dG r.2)=true:=hxs;replace hxs:=av hxs;obtain⟨⟨y1,y2⟩,h2,hxs⟩:=hxs;apply iY (jx h2:xs=[y1,y2]);obtain⟨m1,m2⟩:=PI.mp hxs;apply y9 (yO m1:X2 λa b=>y1=_);intro np1 p1;apply y9 (yO m2:X2 λa b=>y2=_);intro np2 p2;clear ec m1 m2 hxs h2;have trees:backTo tp (starEach [.Call (.Name "_law_kind" fp) [.Name n np] [] fpos,.Attribute (.Name n np1) j5 p1,.Attribute (.Name n np2) dG p2] env)=[(false,eval (.Call (.Name "_law_kind" fp) [.Name n np] [] fpos) env),(false,eval (.Attribute (.Name n np1) j5 p1) env),(false,eval (.Attribute (.Name n np2) dG p2) env)]:=rfl;rw[arm_eval_Tuple,trees];refine OJ (Qy (OJ (spliced_cons (PO C (λu ai ⟨ag,S,ay,r⟩=>?_) λ_ _ z=>z))));have tQ:=S.keep e oe he (λy=>nb y.tt.mem) id (eJ hd);obtain⟨oe',Dd,m,v1,v2,x1,x2,rfl,z2,z3,z4,z5,z6,z7,z8⟩:=(xd rfl).step S he hd nb;replace z2:=tQ▸z2;injection z2 with e;subst e;have vb:∃mL,ai.heap.Ns env.locals mL/\mL n=some (.ref e):=by
     obtain⟨o,es,ep,ho,rr⟩:=hNm;rcases S.keepW _ o ho (λy=>(F.apart _ (.inl rfl)).1 y.tt.mem) id with y|⟨_,_,sl,y⟩
     . exact⟨mL,⟨o,es,ep,y,rr⟩,hn⟩
     . exact⟨mL,⟨_,es,ep,y,rr⟩,hn⟩
   obtain⟨mL',vb,ny⟩:=vb;refine spliced_cons (sv D (.tail _ (.tail _ (.tail _ (.tail _ (.head _))))) tK hno F.kind hkl ay vb ny tQ hc hd z3 z5 z6.1 z7 λtk=>spliced_cons (sv (s:={ ai with toks:=tk }) D (.tail _ (.tail _ (.tail _ (.tail _ (.tail _ (.head _)))))) o8 hno F.kind hkl ay vb ny tQ hc hd z3 z5 z6.2 z8 λtk'=>spliced_nil ?_));exact PO (zS (s:={ ai with toks:=tk' }) (us:=[u,v1,v2]) (xs:=[x,x1,x2]) ay (.cons r (.cons z7 (.cons z8 .nil))) (by simp)) (λw aq ⟨a5,cC,cD,uD⟩=>⟨a5,(S.trans (Step.grow (s:=ai) (ai:={ ai with toks:=tk' }) (λ_ _ z=>z) rfl rfl)).trans cC,cD,uD⟩) λ_ _ z=>z
def NT(Z:Cx)(A:Around)(env:Env)(ks:KS)(sc:SC)(Y:List Addr)(U:ac)(s:Shared)(β':List Addr)(aa:ac)(aq:Shared)(e:Addr)(k:Nat)(ds:List PyData):Prop:=
 ∀(Q:Unit->Shared->Prop) (E:VP),(∀aW,Landed Z env ks sc none Y U s β' aa aW e k ds->Q () aW)->WP Z (A.mark (some (.ref e))) (setFlight (.ref e) none) Q E aq
section
variable {c:Out}{hp:Pos}abbrev HQ(Z:Cx)(env:Env)(ks:KS)(sc:SC)(Y:List Addr)(U:ac)(s:Shared)(σ':ac)(c:Out)(f:Flow)(aW:Shared):Prop:=Po Z (own env) Y U s σ' aW λβ'=>FR Z env ks sc f c β' σ' (aW.heap)theorem Hx(fly:NT Z A env ks sc Y U s β' aa aq e k ds)(hv:(AK v).isSome=true)(ev:ls cf .none k ds aa=.ok c σ')(hR:∀f aW,HQ Z env ks sc Y U s σ' c f aW->R (.ok f) aW):codeAny (model Z.prog Z.w) (A.mark (some (.ref e))) (.handlers (.ref e) [.ExceptHandler none none [.Return (some v) rp] hp] env) R aq:=by refine(Qh.mp hv).elim λu n2=>?_;apply y9 (xh n2);intro _ _;injection ev with e f;subst e;subst f;refine codeAny_handlers_suite (fly _ _ λaW qL=>?_);rw[arm_execs_cons,arm_exec_Return];refine OJ (OJ (Qy ?_));show wpAny _ _ (eval (.Constant .none _ _) env >>= λr=>pure (Flow.ret r)) _ _ _;exact OJ (wpAny_Constant_none (PH (PH (hR _ _ ⟨β',qL.st,qL.inv,.none,rfl,.none⟩))))
theorem Hw{n:Str}{x:V}{E:VP}(fly:NT Z A env ks sc Y U s β' aa aq e k ds)(F:FrameOk Z env ks sc K Y U s.heap)(hmn:OV ks sc i n=true)
   (hv:∀ρ' dJ,co n=true->sc.lookup n=some i->env.kindOf n=some .local->ρ'[i]?=some (.exc k ds)->FrameOk Z env ks sc ρ' β' aa dJ.heap->Inv Z β' aa dJ.heap->(k=6->XD s.heap β' aa dJ.heap e ds)->(X2 λo vs=>A3 (dJ.heap.get? e=some o) (o.cls=.ref (KA k)) (o.data=.fields vs))->(∃m,dJ.heap.Ns env.locals m/\m n=some (.ref e))->Iy Z (A.mark (some (.ref e))) env v σ' x β' aa dJ)
   (hR:∀f aW,WP Z A (do bindName env n .none;unbindBehindTheSuite env n hp) (λ_ s'=>HQ Z env ks sc Y U s σ' (.ret x) f s') E aW->R (.ok f) aW):codeAny (model Z.prog Z.w) (A.mark (some (.ref e))) (.handlers (.ref e) [.ExceptHandler none (some n) [.Return (some v) rp] hp] env) R aq:=by
 refine(PI.mp hmn).elim λh1 h2=>?_;obtain⟨h1,hno⟩:=PI.mp h1;have hni:=of_decide_eq_true h1;have hkl:env.kindOf n=some .local:=(F.kinds n _ (of_decide_eq_true h2)).elim id λz=>by cases z.1
 refine codeAny_handlers_suite_as (fly _ _ λaW qL=>?_);refine PO (Db (Q:=HQ Z env ks sc Y U s σ' (.ret x)) (E':=E) (E:=λ_ _=>False) (NK:=λ_ _=>False) qL F hni hkl (λρ' dJ hv' CK F2 _ xd ho hN=>hv ρ' dJ hno hni hkl hv' CK F2 xd ho hN) λmU u gm CH F1 N4=>⟨mU,CH,F1,u,rfl,N4⟩) (λ_ dJ h=>PO h (λf gm h=>hR f gm h) λ_ _ z=>z.elim) λ_ _ z=>z.elim
theorem KV(D:Wd Z P gn G cf d){E:VP}(fly:NT Z A env ks sc Y U s β' aa aq e k ds)(hA:lS Z d A)(F:FrameOk Z env ks sc K Y U s.heap)(nb:e∉β')(hmk:OW P ks sc hk nm v=true)(ev:ls cf hk k ds aa=.ok c σ')
   (hR:∀f aW,(match nm with|none=>HQ Z env ks sc Y U s σ' c f aW|some n=>WP Z A (do bindName env n .none;unbindBehindTheSuite env n hp) (λ_ s'=>HQ Z env ks sc Y U s σ' c f s') E aW)->R (.ok f) aW):codeAny (model Z.prog Z.w) (A.mark (some (.ref e))) (.handlers (.ref e) [.ExceptHandler none nm [.Return (some v) rp] hp] env) R aq:=by
 have hA':lS { Z with q:=true } d (A.mark (some (.ref e))):=⟨(λz=>by injection z),hA.2⟩
 cases hk with
 |none=>
   obtain⟨n1,n2⟩:=PI.mp hmk;have n1:nm=none:=by clear hmk hR;cases nm with|none=>rfl|some _=>injection n1
   subst n1;exact Hx fly n2 ev hR
 |tup i f a=>obtain⟨n,n1,hmk⟩:=av hmk;subst n1;obtain⟨xs,n2,hmk2⟩:=av hmk;apply y9 (lu n2);intro kk tp;obtain⟨hmn,hmk3⟩:=PI.mp hmk2;obtain⟨⟨y,ys⟩,n3,hmk4⟩:=av hmk3;have n3:=oq n3;clear hmk3 hmk2;subst n3;obtain⟨m1,m2⟩:=PI.mp hmk4;replace ev:=Res.bind_ok (ev:((cf f [.exc k ds] aa).bind λv aa=>oc (bN v) (λx=>if a=true->k=6 then Res.ok (Out.ret (.d (.tuple (x::if a then ds else [])))) aa else .bad) .bad)=.ok c σ');obtain⟨vr,σa,ec,ev⟩:=ev;obtain⟨x,hx,ev2⟩:=iz ev;obtain⟨hak,ev3⟩:=AF ev2;have hx:=b9 hx;clear ev2 ev;subst hx;injection ev3 with e f;subst e;subst f;exact Hw fly F hmn (λρ' dJ hno hni hkl hv CK F2 xd ⟨o,vs',y1,y2,y3⟩ ⟨mL,y4,y5⟩=>Ew D m1 m2 hak hni hno hkl hA' CK F2 hv ec nb xd y1 y2 y3 y4 y5) hR
theorem xc(D:Wd Z P gn G cf d){E:VP}(fly:NT Z A env ks sc Y U s β' aa aq e k ds)(hA:lS Z d A)(F:FrameOk Z env ks sc K Y U s.heap)(q:Landed Z env ks sc none Y U s β' aa aq e k ds)(he:aq.heap.get? e=some oe)(hc:oe.cls=.ref (KA k))(hs:List Hd):∀(ehs:List ExceptHandler),Ks P ks sc hs ehs=true->kI cf hs k ds aa=.ok c σ'->WP Z A (handleBy (.ref e) env ehs) (HQ Z env ks sc Y U s σ' c) E aq:=by
 induction hs with
 |nil=>intro ehs _ ev;injection ev
 |cons h hs ih=>
   intro ehs hm ev;obtain⟨⟨eh,es⟩,g0,hm1⟩:=av hm;have g0':=oq g0;clear hm g0;subst g0';obtain⟨⟨x,nm,v⟩,g1,hm2⟩:=av hm1;obtain⟨xp,rp,hp,g1'⟩:=K0 g1;clear g1 hm1;subst g1';obtain⟨hm3,hms⟩:=PI.mp hm2;obtain⟨hm4,hmk⟩:=PI.mp hm3;obtain⟨hm5,hj⟩:=PI.mp hm4;obtain⟨g2,hgx⟩:=PI.mp hm5;have g2:x=j6 h.k:=of_decide_eq_true g2;clear hm5 hm4 hm3 hm2;subst g2;have hj6:=of_decide_eq_true hj;have hk6:=q.fl.2.1;refine wpAny_handleBy_cons (codeAny_handlers_test (jL D q.fr q.inv hgx (D.x.own h.k hj6).1 (y8 (D.x.at q.inv hk6.2) (D.x.at q.inv hj6) he hc (ID D.x hk6.1 hk6.2 hj6) ?_))) (by intro q;injection q);have ev:(if h.k=k\/h.k=0 then ls cf h.h k ds aa else kI cf hs k ds aa)=.ok c σ':=ev;by_cases hit:h.k=k\/h.k=0
   . rw[if_pos hit]at ev;have hb:(h.k==k||h.k==0)=true:=by rcases hit with z|z<;>rw[z]<;>simp
     rw[hb];exact KV D fly hA F q.nb hmk ev λf aW h=>h
   . rw[if_neg hit]at ev;have hb:(h.k==k||h.k==0)=false:=by rw[beq_eq_false_iff_ne.mpr λz=>hit (.inl z),beq_eq_false_iff_ne.mpr λz=>hit (.inr z)];rfl
     rw[hb];exact ih es hms ev
end
theorem JP(D:Wd Z P gn G cf d)(hb:FY Z P gn G cf d b):PS Z P gn G cf d (.tryS b hs):=λks sc x env K A Y U s hm hA F I hE=>by
 refine kk λUc kz=>?_;replace hm:=av hm;obtain⟨⟨body,hds,els,fin⟩,h0,hm⟩:=hm;refine kz ?_;apply gj (GG h0);intro sp;obtain⟨h1,h2,h3,hP,hne,hm⟩:=zH hm;apply iY (gc h1:els=[]);apply iY (gc h2:fin=[]);obtain⟨⟨hd0,hds'⟩,hne⟩:=Qh.mp hne;replace hne:hds=hd0::hds':=oq hne;rw[show (body,hds,els,fin).2.1=_ from hne]at hm;apply iY hne;clear h0 h1 h2 hP hne;intro c σ' ev;obtain⟨o,aa,e1,ev⟩:=Res.bind_ok (ev:((execs G cf b K U).bind λo aa=>match o with | .exc k ds=>kI cf hs k ds aa|o=>.ok o aa)=.ok c σ');refine wpAny_Try_except (PO (hb ks sc body env K A Y U s h3 hA F I hE o aa e1) (λf ai ⟨ag,aH,ay,q⟩=>?_) λv ai ⟨k,ds,q,fq⟩=>?_)
 . clear e1;cases o with
   |next ρ'=>obtain⟨rfl,F'⟩:=q;injection ev with e f;subst e;subst f;exact wpAny_execs_nil ⟨ag,aH,ay,rfl,F'⟩
   |ret w=>obtain⟨u,rfl,q⟩:=q;injection ev with e f;subst e;subst f;exact⟨ag,aH,ay,u,rfl,q⟩
   |exc k ds=>exact q.elim
 . subst q;refine fq.elim λβ' e hv q=>hE.elim hA λouter L hfr hfL hfm hfx=>q.fl.elim λoe vs he hc hd hL hT=>?_;subst hv;refine wI (fo:=none) hfr (q.frames hfx) hfL he hd hL λgg N=>?_;have yx:=q.noted (L':=none) F.frs I (.inl rfl) (λf' hf=>hfm▸hf) he hc hd hL hT N;refine N.then (v':=.none) λT MQ oT L9 ts po M7 Na hTe hT2 hdT h3T _=>yx.fl.elim λMP L8 pj I2 tR M9 AH=>?_;clear e1 q hc hd hL hT he hfr hfL hfm hfx N;have z:MP=MQ:=Option.some.inj (pj.symm.trans po);subst z;have z:L8=L9:=by have:=tR.symm.trans M7;cases (this);rfl
   subst z;exact xc D (λQ E hq=>mH (fo:=none) pj tR Na hTe hT2 hdT h3T λoJ OF=>hq _ (yx.noted (L':=none) F.frs I (.inl rfl) (λf' hf=>by cases hf) pj I2 tR M9 AH OF)) hA F yx pj I2 hs (hd0::hds') hm (ev)def rm(G:GD)(cf:CF)(t:Tgt)(b:SL):PyData->Fm->ac->Res Out:=λx ρ' σ'=>match fe t x ρ' with
 |none=>.bad
 |some ρ''=>execs G cf b ρ'' (σ')variable {o:Out}
theorem Ej(h:rm G cf t b x K U=.ok o σ'):∃ρ',fe t x K=some ρ'/\execs G cf b ρ' U=.ok o σ':=by
 unfold rm at h;cases hb:fe t x K with
 |none=>rw[hb]at h;injection h
 |some ρ'=>rw[hb]at h;exact⟨ρ',rfl,h⟩theorem Cb(G:GD)(cf:CF)(t:Tgt)(it:It)(b:SL)(K:Fm)(U:ac):exec G cf (.forr t it b) K U=(cA G cf it K U).bind λI aa=>(ba (rm G cf t b) I.shown K (c5 I.lk aa)).bind λo ae=>.ok o (bx I.lk I.base ae):=(rfl)variable {f:PyData->Fm->ac->Res Out}
theorem yP{d:PyData}(hd:l[k]?=some d)(h:ba f (l.drop k) K U=.ok o σ') :
   X2 λbD aa=>f d K U=.ok bD aa/\((∃bV,bD=.next bV/\ba f (l.drop (k+1)) bV aa=.ok o σ')\/(∃v,A3 (bD=.ret v) (o=.ret v) (σ'=aa))\/(X2 λk ds=>A3 (bD=.exc k ds) (o=.exc k ds) (σ'=aa))):=by
 have hlt:=(Pz.mp hd).1;have hd':=(Pz.mp hd).2;replace h:=hd'▸(QT hlt)▸h;rw[Hh]at h;obtain⟨bD,aa,h1,h2⟩:=Res.bind_ok h;clear h;cases bD with
 |next bV=>exact⟨_,aa,h1,.inl ⟨bV,rfl,h2⟩⟩
 |ret v=>injection h2 with e f;subst e;subst f;exact⟨_,_,h1,.inr (.inl ⟨v,rfl,rfl,rfl⟩)⟩
 |exc k ds=>injection h2 with e f;subst e;subst f;exact⟨_,_,h1,.inr (.inr ⟨k,ds,rfl,rfl,rfl⟩)⟩variable {ρk:Fm}{X:Fm->Prop}{body:List Stmt}{k':Nat}{J:ac}
inductive ForJ(Z:Cx)(A:Around)(env:Env)(ks:KS)(sc:SC)(T:Itr)(ag:List Addr)(σL:ac)(aq:Shared)(f:PyData->Fm->ac->Res Out)(out:Out)(ae:ac)(n:Nat)(s':Shared):Prop where
 |mk (k:Nat) (βk:List Addr) (σk:ac) (ρk:Fm) (h1:n=T.shown.length+1 - k) (h2:k<=T.shown.length) (L:Lp Z A (own env) T ag σL aq (T.St k) βk σk s') (Fr:FrameOk Z env ks sc ρk βk σk s'.heap) (hr:ba f (T.shown.drop k) ρk σk=.ok out ae):ForJ Z A env ks sc T ag σL aq f out ae n s'
theorem EX{It:Items}{sa:Shared}{bD out:Out}{E:VP}(hb:FY Z P gn G cf d b)(h4:Ee P gn ks sc b body=true)(hA:lS Z d A)(hE:x3 A env)
   (aH:Step cz Y U s ag aa aq) (ay:Inv Z ag aa aq.heap) (hlk:∀n,It.lk=some n->aa[n]?=some (.lst It.base)) (hw:∀a∈T.wr,s.heap.get? a=none/\a∉ag) (hwOwn:∀a∈T.wr,¬ own env a) (ownS:∀x,own env x->¬ cj aq.heap x)
   (La:Lp Z A (own env) T ag (c5 It.lk aa) aq (T.St k') βk σk sa) (Fa:FrameOk Z env ks sc ρk βk σk sa.heap) (Fb:FrameOk Z env ks sc ρt βk σk sb.heap) (Sb:Step (own env) βk σk sa βk σk sb) (Ib:Inv Z βk σk sb.heap)
   (hf:execs G cf b ρt σk=.ok bD σc) (hor:(∃bV,bD=.next bV/\X bV)\/(∃v,A3 (bD=.ret v) (out=.ret v) (ae=σc))\/(X2 λk ds=>A3 (bD=.exc k ds) (out=.exc k ds) (ae=σc)))
   (q1:∀bV βc aW,X bV->Lp Z A (own env) T ag (c5 It.lk aa) aq (T.St k') βc σc aW->FrameOk Z env ks sc bV βc σc aW.heap->Q .next aW)
   (q2:∀u βc aW,Step (own env) Y U s βc (bx It.lk It.base ae) aW->Inv Z βc (bx It.lk It.base ae) aW.heap->FR Z env ks sc (.ret u) out βc (bx It.lk It.base ae) aW.heap->Q (.ret u) aW)
   (q3:∀k ds v aW,out=.exc k ds->FlyQ env.frame Z (own env) Y U s (bx It.lk It.base ae) k ds (FrameOk Z env ks sc []) v aW->E v aW):WP Z A (PySem.execs body env) Q E sb:=by
 have Lb:=La.step Sb Ib (λx z=>⟨(Fa.apart x z).1,Fa.notSeq x z⟩) hwOwn;have own2:∀x,own env x->x∉βk/\¬ cj sb.heap x:=λx z=>⟨(Fb.apart x z).1,Fb.notSeq x z⟩;have IV:∀a∈T.wr,¬ cj aq.heap a:=λa q=>(La.op.noseq 0 _ La.op.start a q).2;refine PO (hb ks sc body env _ A βk σk sb h4 hA Fb Ib hE bD σc hf) (λf aW ⟨βc,Sc,Ic,q⟩=>?_) λv aW ⟨kx,dx,hx,fq⟩=>fq.elim λβc ea hv q=>?_
 . have Lc:=Lb.step Sc Ic own2 hwOwn;rcases hor with⟨bV,e,x⟩|⟨v,e,e',e''⟩|⟨k',ds',e,_⟩
   . refine kk λUc k=>?_;rw[e]at q;obtain⟨ef,Fc⟩:=q;refine k ?_;rw[ef];exact q1 bV βc aW x Lc Fc
   . rw[e]at q;obtain⟨u,ef,ru⟩:=q;rw[ef];rw[e'']at q2;obtain⟨Sx,Ix,ttx⟩:=lC aH.ofNo ay hlk Lc.st0 Lc.inv ownS IV λa q=>(hw a q).1;refine q2 u βc aW Sx Ix ?_;rw[e'];exact⟨u,rfl,cg.vrel (λx o vs n e d t=>⟨e,λz=>t ((ttx x).mp z)⟩) ru⟩
   . rw[e]at q;exact q.elim
 . have hor':out=.exc kx dx/\ae=σc:=by
     rw[hx]at hor;rcases hor with⟨bV,z,_⟩|⟨v,z,_⟩|⟨k',ds',z,z',z''⟩
     . injection z
     . injection z
     . injection z with e f;subst e;subst f;exact⟨z',z''⟩
   replace q3:=hor'.2▸q3;have Lc:=Lb.step q.st q.inv own2 hwOwn;obtain⟨Sx,Ix,ttx⟩:=lC aH.ofNo ay hlk Lc.st0 Lc.inv ownS IV λa q=>(hw a q).1;exact q3 kx dx v aW hor'.1 ⟨βc,ea,hv,Sx,Ix,q.nb,q.fl.back λa q=>aH.alive a (Lb.st0.alive a q),q.fr.map (cg.vrel λx o vs n e d t=>⟨e,λz=>t ((ttx x).mp z)⟩) (λb _ o e=>e) (λb _ o e=>e),λz=>(q.xd z).same (λa q=>aH.alive a (Lb.st0.alive a q)) (λ_ z=>z) λa=>(ttx a).mp⟩
theorem HM{It:Items}(F:FrameOk Z env ks sc K Y U s.heap)(aH:Step cz Y U s ag aa aq)(ay:Inv Z ag aa aq.heap)(h0:∀a,s.heap.get? a=none->Z.h₀.get? a=none)(hlk:∀n,It.lk=some n->aa[n]?=some (.lst It.base))(hw:∀a∈T.wr,s.heap.get? a=none/\a∉ag)(hwOwn:∀a∈T.wr,¬ own env a)(ownS:∀x,own env x->¬ cj aq.heap x)
   (L:Lp Z A (own env) T ag (c5 It.lk aa) aq (T.St k') βk ae s') (Fr:FrameOk Z env ks sc ρk βk ae s'.heap) (hkz:Kp T s'.heap sz.heap) (hgz:sz.gens=s'.gens) (hoz:sz.os=s'.os):Po Z (own env) Y U s (bx It.lk It.base ae) sz λβ'=>FR Z env ks sc .next (.next ρk) β' (bx It.lk It.base ae) sz.heap:=by
 obtain⟨Sx,Ix,ttx⟩:=lC aH.ofNo ay hlk L.st0 L.inv ownS (λa q=>(L.op.noseq 0 _ L.op.start a q).2) (λa q=>(hw a q).1);have hnsI:∀a,a∈T.wr->¬ cj s'.heap a:=λa q=>(L.live a q).2;exact⟨βk,Sx.tail (W:=(·∈T.wr)) (λa q=>(hw a q).1) hkz hgz hoz,Ix.touch (W:=(·∈T.wr)) L.nm (λa q=>h0 a (hw a q).1) hnsI hkz,rfl,(Fr.map (cg.vrel λx o vs n e d t=>⟨e,λz=>t ((ttx x).mp z)⟩) (λb _ o e=>e) λb _ o e=>e).touch (W:=(·∈T.wr)) (λa q=>F.frs.not (hw a q).1) hwOwn hnsI hkz⟩theorem DV{a b:B}(h:Res.ok a U=.ok b J):a=b/\U=J:=by injection h with e f;subst e;subst f;exact⟨rfl,rfl⟩
theorem EY{out:Out}(hb:FY Z P gn G cf d b)(h1:o4 sc t tx=true)(h4:Ee P gn ks sc b body=true)(h5:(yS t||!yV it)=true)(hh:A.handled=none)(hA:lS Z d A)(F:FrameOk Z env ks sc K Y U s.heap)(Iv:Inv Z Y U s.heap)(hE:x3 A env)
   (hen:T.en=yV it) (aH:Step cz Y U s ag aa aq) (ay:Inv Z ag aa aq.heap) (hw:∀a∈T.wr,s.heap.get? a=none/\a∉ag) (Op:Opened Z A T ag (c5 I.lk aa) aq.heap) (hlk:∀n,I.lk=some n->aa[n]?=some (.lst I.base)) (hr:ba (rm G cf t b) T.shown K (c5 I.lk aa)=.ok out ae)
   (r1:∀f s',(f=.next\/∃u,f=.ret u)->(Po Z (own env) Y U s (bx I.lk I.base ae) s' λβ'=>FR Z env ks sc f out β' (bx I.lk I.base ae) s'.heap)->R (.ok f) s')
   (r3:∀k ds v aW,out=.exc k ds->FlyQ env.frame Z (own env) Y U s (bx I.lk I.base ae) k ds (FrameOk Z env ks sc []) v aW->notedBy (model Z.prog Z.w) A env (λe s'=>R (.error e) s') v aW):codeAny (model Z.prog Z.w) A (.forLoop tx (.ref T.Ia) body [] env) R aq:=by
 have h0:∀a,s.heap.get? a=none->Z.h₀.get? a=none:=λa ha=>by
   cases q:Z.h₀.get? a with
   |none=>rfl
   |some o=>rw[Iv.base a o q]at ha;injection ha
 obtain⟨IL,SL⟩:=AA ay hlk;have hwOwn:∀a∈T.wr,¬ own env a:=λa ha z=>by obtain⟨o,ho,_⟩:=F.ownSome z;rw[(hw a ha).1]at ho;injection ho
 have ownS:∀x,own env x->¬ cj aq.heap x:=(F.step aH).notSeq;refine codeAny_forLoop_any (ForJ Z A env ks sc T ag (c5 I.lk aa) aq (rm G cf t b) out ae) ?_ (T.shown.length+1) ⟨0,_,_,K,rfl,PR _,Lp.start Op IL (λa q=>(hw a q).2) λa q=>h0 a (hw a q).1,(F.step aH).step SL,hr⟩;clear hr IL SL
 rintro n s' ⟨k,βk,σk,ρk,en,hkl,L,Fr,hrest⟩
 refine en▸?_;clear en;by_cases hlt:k < T.shown.length
 . refine L.next hlt λw dd sa Lm hdd lY hka=>?_;have Fa:FrameOk Z env ks sc ρk βk σk sa.heap:=Fr.touch (W:=(·∈T.wr)) (λa q=>F.frs.not (hw a q).1) hwOwn (λa q=>(L.live a q).2) hka;obtain⟨bD,σc,hf0,hor⟩:=yP hdd hrest;obtain⟨ρt,hbt,hf⟩:=Ej hf0;clear hf0 hrest hka L Fr hdd;have turn:=λ{sa'} (La:Lp Z A (own env) T ag (c5 I.lk aa) aq (T.St (k+1)) βk σk sa') (Fa:FrameOk Z env ks sc ρk βk σk sa'.heap) {sb} (Fb:FrameOk Z env ks sc ρt βk σk sb.heap) (Sb:Step (own env) βk σk sa' βk σk sb) (Ib:Inv Z βk σk sb.heap)=>EX (Q:=λf aW=>match f with | .next | .cont=>∃m,m < T.shown.length+1 - k/\ForJ Z A env ks sc T ag (c5 I.lk aa) aq (rm G cf t b) out ae m aW | .brk=>R (.ok .next) aW | .ret v=>R (.ok (.ret v)) aW) hb h4 hA hE aH ay hlk hw hwOwn ownS La Fa Fb Sb Ib hf hor (λbV βc aW x Lc Fc=>⟨T.shown.length+1 - (k+1),zR hlt,k+1,βc,σc,bV,rfl,hlt,Lc,Fc,x⟩) (λu βc aW Sx Ix fr=>r1 _ _ (.inr ⟨u,rfl⟩) ⟨βc,Sx,Ix,fr⟩) r3
   clear hor hf;cases t with
   |var i=>replace h1:=av h1;obtain⟨x,h0,hx⟩:=h1;apply gj (bO h0);intro p;have La:=Lm.skip (hen.trans (wJ h5));rw[<- Option.some.inj hbt]at turn;refine PH (a:=()) ?_;exact wpAny_assign_Name (Fa.store La.inv (of_decide_eq_true hx) (v:=.d dd) lY λsb Fb Sb Ib _ _=>turn La Fa Fb Sb Ib)
   |tup l=>replace h1:=av h1;obtain⟨xs,h0,h1⟩:=h1;apply y9 (lu h0);intro k' p;refine Lm.go λsa' La hk'=>?_;have Fa':FrameOk Z env ks sc ρk βk σk sa'.heap:=Fa.touch (W:=(·∈T.wr)) (λa q=>F.frs.not (hw a q).1) hwOwn (λa q=>(Lm.live a q).2) hk';exact sy hh h1 Fa' La.inv (j8 (W:=(·∈T.wr)) hk' (λa q=>(Lm.live a q).2) lY) hbt λsb Fb Sb Ib _=>turn La Fa' Fb Sb Ib
 . have hke:k=T.shown.length:=Rz hkl (QD hlt);refine L.done hke λsz hkz hgz hoz=>?_;rw[hke,Si,Kv]at hrest;have e:=DV hrest;rw[e.2]at L Fr;exact wpAny_execs_nil (r1 _ _ (.inl rfl) (e.1▸HM F aH ay h0 hlk hw hwOwn ownS L Fr hkz hgz hoz))
inductive ForX(G:GD)(cf:CF)(t:Tgt)(it:It)(b:SL)(K:Fm)(U:ac)(out:Out)(σ':ac):Prop where
 |mk (I:Items) (aa ae:ac) (h1:cA G cf it K U=.ok I aa) (h2:ba (rm G cf t b) I.shown K (c5 I.lk aa)=.ok out ae) (h3:σ'=bx I.lk I.base ae):ForX G cf t it b K U out σ'
theorem Nk{out:Out}(ev:exec G cf (.forr t it b) K U=.ok out σ'):ForX G cf t it b K U out σ':=by rw[Cb]at ev;obtain⟨I,aa,hit,ev⟩:=Res.bind_ok ev;obtain⟨o,ae,hr,hv⟩:=Res.bind_ok ev;have e:=DV hv;exact⟨I,aa,ae,hit,e.1▸hr,e.2.symm⟩theorem JS(D:Wd Z P gn G cf d)(hb:FY Z P gn G cf d b):PS Z P gn G cf d (.forr t it b):=λks sc x env K A Y U s hm hA F I hE=>by replace hm:=av hm;obtain⟨⟨tx,iter,body,els⟩,h0,hm⟩:=hm;apply gj (GO h0);intro pos;refine kk λUc kx=>?_;obtain⟨hm,hP⟩:=PI.mp hm;obtain⟨hm,h5⟩:=PI.mp hm;obtain⟨hm,h4⟩:=PI.mp hm;obtain⟨hm,h3⟩:=PI.mp hm;obtain⟨hm,h2⟩:=PI.mp hm;obtain⟨hm,h1⟩:=PI.mp hm;have hh:=hA.1 (D.q hP);refine kx λout σ' ev=>?_;apply iY (show els=[] from gc hm);clear kx hm hP h0;obtain⟨I',aa,ae,hit,hr,e⟩:=Nk ev;refine e▸?_;refine wpAny_For ?_ (λx=>o3 h2 x);refine PO (Kd D it ks sc iter env K A Y U s I' aa h3 hA hh F I hit) (λx ai h=>PO h (λitv aq h=>?_) λ_ _ x=>x.elim) λ_ _ x=>x.elim;obtain⟨ag,T,ei,hsh,hen,aH,ay,hw,Op,hlk,hlen⟩:=h;exact ei▸(EY hb h1 h4 h5 hh hA F I hE hen aH ay hw Op hlk (hsh▸hr) (λf s' hf q=>q) λk ds v aW hx fq=>E2 hA hE F.frs I hx fq)theorem GH:PS Z P gn G cf d .stop:=λks sc x env K A Y U s hm hA F I hE=>by intro c σ' ev;injection ev
mutual
theorem Pf(D:Wd Z P gn G cf d):∀st,PS Z P gn G cf d st
 |.expr e=>GK D
 |.asg t e=>JT D
 |.asgT l e=>GN D
 |.put o i e=>JR D
 |.ite c a b=>DA D (yF D a) (yF D b)
 |.forr t it b=>JS D (yF D b)
 |.ret e=>JQ D
 |.pass=>GI
 |.stop=>GH
 |.calls t f es=>DB D
 |.raise k es=>Dy D
 |.tryS b h=>JP D (yF D b)
 |.iteC f es i x b=>GJ D (yF D b)theorem yF(D:Wd Z P gn G cf d):∀st,FY Z P gn G cf d st
 |.nil=>Dz
 |.cons s r=>GM (Pf D s) (yF D r)
end
def pX(names:KS)(slots:SC)(ps:List Str)(np ns:Nat):Bool:=
 (slots.all λp=>(decide (names.lookup p.1=some .local)||(decide (names.lookup p.1=some .cell)))&&co p.1)&&decide (slots.map (·.2)).Nodup&&decide (ps.length=np)&&
 (ps.zipIdx.all λp=>decide (slots.lookup p.1=some p.2))&&decide (np<=ns)&&(slots.all λp=>decide (p.2 < ns))
inductive FnX(Z:Cx)(P:Nat->Option Fn)(gn:Nat->Str)(fn:Fn):Prop where
 |mk (a:Addr) (o:Obj) (fd:FuncData) (body:List Stmt) (ps:List Str) (h1:Z.mg fn.name=some (.ref a)) (h2:Z.h₀.get? a=some o) (h3:o.data=.func fd) (h4:fd.body=.stmts body) (h5:fd.closure=[]) (h6:Z.h₀.CodeRec fd.code fd.qualname) (h7:fd.globals=mainGlobals) (h8:fd.builtins=builtinsNs)
   (h9:fd.scope.kind=.function) (h10:fd.scope.isCoroutine=false) (h11:fd.scope.isGenerator=false) (h12:∀vals:List Value,vals.length=ps.length->bindArgs fd ⟨vals,[]⟩=pure (ps.zip vals))
   (h13:pX fd.scope.names fn.slots ps fn.np fn.ns=true) (h14:Ee P gn fd.scope.names fn.slots fn.body body=true):FnX Z P gn fn
set_option tactic.hygienic true in
theorem fP:∀{names:KS} {n:Nat} {acc:List (Str×Addr)} {x:Str},(x,NameKind.cell)∈names\/(acc.lookup x).isSome=true->((cellsFrom n names acc).lookup x).isSome=true
 |[],n,acc,x,h=>by
   rcases h with h|h
   . cases h
   . exact h
 |(y,k)::r,n,acc,x,h=>by
   unfold cellsFrom;split
   . rename_i hk;refine fP ?_;rcases h with h|h
     . rcases PM.mp h with h|h
       . injection h with e f;subst e;subst f;right;simp[P2]
       . exact .inl h
     . right;rw[P2];split
       . rfl
       . exact h
   . rename_i hk;refine fP ?_;rcases h with h|h
     . rcases PM.mp h with h|h
       . injection h with e f;subst e;subst f;simp at hk
       . exact .inl h
     . exact .inr (h)variable {x:Str}{kindOf:Str->Option NameKind}
theorem xR(hx:kindOf x=some .local):∀{ps:List Str} {vals:List Value} {m:Str->Option Value},ps.Nodup->(∀(i:Nat) (v:Value),ps[i]?=some x->vals[i]?=some v->bindL kindOf (ps.zip vals) m x=some v)/\(x∉ps->bindL kindOf (ps.zip vals) m x=m x)
 |[],vals,m,_=>⟨λi v h=>by simp at h,λ_=>rfl⟩
 |p::ps,[],m,_=>⟨λi v _ h=>by simp at h,λ_=>rfl⟩
 |p::ps,w::vals,m,hn=>by
   have q9:=QW.mp hn;have h1:=q9.1;have e:∀y,bindL kindOf ((p::ps).zip (w::vals)) m y=bindL kindOf (ps.zip vals) (if kindOf p=some .local then λy=>if y=p then some w else m y else m) y:=λ_=>rfl;have ih:=λm'=>xR hx (ps:=ps) (vals:=vals) (m:=m') q9.2;refine⟨λi v hi hv=>?_,λhx'=>?_⟩
   . rw[e];cases i with
     |zero=>simp at hi hv;subst hi hv;rw[(ih _).2 h1,if_pos hx];simp
     |succ i=>exact(ih _).1 i v (by simpa using hi) (by simpa using hv)
   . simp only[PM,not_or]at hx';rw[e,(ih _).2 hx'.2];split
     . show (if x=p then some w else m x)=m x;exact(if_neg hx'.1)
     . rfl
theorem xS(hx:kindOf x≠some .local):∀{ps:List Str} {vals:List Value} {m:Str->Option Value},ps.Nodup->(∀(i:Nat) (v:Value),ps[i]?=some x->vals[i]?=some v->bindC kindOf (ps.zip vals) m x=some v)/\(x∉ps->bindC kindOf (ps.zip vals) m x=m x)
 |[],vals,m,_=>⟨λi v h=>by simp at h,λ_=>rfl⟩
 |p::ps,[],m,_=>⟨λi v _ h=>by simp at h,λ_=>rfl⟩
 |p::ps,w::vals,m,hn=>by
   have q9:=QW.mp hn;have h1:=q9.1;have e:∀y,bindC kindOf ((p::ps).zip (w::vals)) m y=bindC kindOf (ps.zip vals) (if kindOf p=some .local then m else λy=>if y=p then some w else m y) y:=λ_=>rfl;have ih:=λm'=>xS hx (ps:=ps) (vals:=vals) (m:=m') q9.2;refine⟨λi v hi hv=>?_,λhx'=>?_⟩
   . rw[e];cases i with
     |zero=>simp at hi hv;subst hi hv;rw[(ih _).2 h1,if_neg hx];simp
     |succ i=>exact(ih _).1 i v (by simpa using hi) (by simpa using hv)
   . simp only[PM,not_or]at hx';rw[e,(ih _).2 hx'.2];split
     . rfl
     . show (if x=p then some w else m x)=m x;exact(if_neg hx'.1)variable {fd:FuncData}{ps:List Str}{xs:List V}{vs vals:List Value}{p:Prog}{slots:SC}{v v':V}
theorem eY.get(r:eY Y U h vs xs){x:V}(e:xs[i]?=some x):∃v,vs[i]?=some v/\aE Y U h v x:=by
 induction r generalizing i with
 |nil=>cases (e)
 |cons r rs ih=>
   cases i with
   |zero=>injection e with e;subst e;exact⟨_,rfl,r⟩
   |succ i=>exact ih e
theorem ke{np ns:Nat}(h:pX names slots ps np ns=true) :
   A5 (∀x i,slots.lookup x=some i->(names.lookup x=some .local\/names.lookup x=some .cell)/\co x=true) (slots.map (·.2)).Nodup (ps.length=np) (∀i x,ps[i]?=some x->slots.lookup x=some i) (np<=ns):=by
 obtain⟨h1,h2,h3,h4,h5,h6⟩:=zH h;refine⟨λx i hx=>?_,of_decide_eq_true h2,of_decide_eq_true h3,λi x hx=>of_decide_eq_true (QN.mp h4 (x,i) (List.mem_zipIdx_iff_getElem?.mpr hx)),of_decide_eq_true h5⟩;have q:=PI.mp (QN.mp h1 (x,i) (mem_of_lookup hx));exact⟨(Qa.mp q.1).imp of_decide_eq_true of_decide_eq_true,q.2⟩theorem wA(h:∀i x,ps[i]?=some x->slots.lookup x=some i):ps.Nodup:=by unfold List.Nodup;rw[List.pairwise_iff_getElem];intro i j hi hj hij e;have h1:=h i _ (PB hi);rw[e,(h j _ (PB hj))]at h1;exact QE hij (Option.some.inj h1).symm
noncomputable abbrev Cx.at(Z:Cx)(l:List Addr):Cx:={ Z with fr:=l }theorem Inv.fr(l:List Addr)(I:Inv Z Y U h):Inv (Z.at l) Y U h:=⟨I.len,I.nodup,I.base,I.fresh,λk a c h1 h2=>by have:=I.cell k a c h1 h2;cases c<;>exact this⟩
theorem Cq(hs:pX fd.scope.names fn.slots ps fn.np fn.ns=true)(hk:fd.scope.kind=.function)(hg:fd.globals=mainGlobals)(hb:fd.builtins=builtinsNs)
   (Fs:gk Z Y s.heap) (I:Inv Z Y U s.heap) (r:eY Y U s.heap vals xs) (hl:xs.length=fn.np)
   (x:InCallC s (callEnvC fd s.heap.objs.size a).locals (bindL (callEnvC fd s.heap.objs.size a).kindOf (ps.zip vals) λ_=>none) (callEnvC fd s.heap.objs.size a).cells (bindC (callEnvC fd s.heap.objs.size a).kindOf (ps.zip vals) λ_=>none) ai) :
   A4 (FrameOk (Z.at (s.heap.objs.size::Z.fr)) (callEnvC fd s.heap.objs.size a) fd.scope.names fn.slots (xs++List.replicate (fn.ns - fn.np) .un) Y U ai.heap) (Step (own (callEnvC fd s.heap.objs.size a)) Y U s Y U ai) (Inv (Z.at (s.heap.objs.size::Z.fr)) Y U ai.heap) (∀y,own (callEnvC fd s.heap.objs.size a) y->s.heap.get? y=none):=by
 refine kk λUc k=>?_;obtain⟨f1,f2,f3,f4,f5⟩:=ke hs;have pn:=wA f4;obtain⟨h',tk,rfl,hkeep⟩:=x.done;refine k ?_;have S:Step (own (callEnvC fd s.heap.objs.size a)) Y U s Y U { s with heap:=h',toks:=tk }:=Step.grow hkeep rfl rfl;have Sn:Step cz Y U s Y U { s with heap:=h',toks:=tk }:=Step.grow hkeep rfl rfl;have fresh:∀y,own (callEnvC fd s.heap.objs.size a) y->s.heap.get? y=none:=λy hy=>by
   rcases hy with rfl|⟨n,hn⟩
   . exact hX x.toInCall.fresh
   . exact hX (Qd (P6 x.toInCall.fresh (x.above n y (mem_of_lookup hn))))
 have argAt:∀{x:Str} {i:Nat} {v:V},fn.slots.lookup x=some i->(xs++List.replicate (fn.ns - fn.np) .un)[i]?=some v->v≠.un->ps[i]?=some x/\∃w,vals[i]?=some w/\aE Y U h' w v:=by
   intro x i v hx hv hu;have hi:i < fn.np:=by
     rcases SZ i fn.np with q|q
     . exact q
     . rw[PW (by rw[hl];exact q)]at hv;have:=PC hv;rw[Sq]at this;exact absurd this.2 hu
   rw[P1 (by rw[hl];exact hi)]at hv;obtain⟨w,h1,h2⟩:=r.get hv;have hp:i < ps.length:=by rw[f3];exact hi
   have h3:=f4 i _ (PB hp);exact⟨by rw[PB hp,(li f2 hx h3)],w,h1,Sn.vrel0 h2⟩
 refine⟨⟨hk,hg,hb,λy k hy=>.inl hy,λy i hy=>?_,λy z i hy hz=>li f2 hy hz,⟨_,x.toInCall.ns,λy i hy hl v hv hu=>?_⟩,λy c hc=>⟨_,x.cell y c hc,λi hy hk' v hv hu=>?_⟩,λy hy=>?_,λy z c hy hz=>name_of_addr x.apart (mem_of_lookup hy) (mem_of_lookup hz),λy hy=>?_,λf hf=>?_⟩,S,(I.grow hkeep).fr _,fresh⟩
 . obtain⟨h1,h2⟩:=f1 y i hy;refine⟨?_,(cV h2).2⟩;rcases h1 with h1|h1
   . exact .inl h1
   . exact .inr ⟨.inl h1,Qh.mp (fP (.inl (mem_of_lookup h1)))⟩
 . obtain⟨h1,w,h2,h3⟩:=argAt hy hv hu;exact⟨w,(xR hl pn).1 i w h1 h2,h3⟩
 . obtain⟨h1,w,h2,h3⟩:=argAt hy hv hu;exact⟨w,(xS (by rcases hk' with q|q<;>rw[q]<;>simp) pn).1 i w h1 h2,h3⟩
 . refine⟨I.notMem (fresh y hy),?_⟩;cases q:Z.h₀.get? y with
   |none=>rfl
   |some o=>have:=I.base y o q;rw[fresh y hy]at this;injection this
 . exact Rr _ (x.above y _ (mem_of_lookup hy))
 . rcases PM.mp hf with rfl|hf
   . have q:s.heap.get? s.heap.objs.size=none:=fresh _ (.inl rfl);obtain⟨o,es,ep,ho,hd,_⟩:=x.toInCall.ns;refine⟨⟨o,ho,es,ep,hd⟩,I.notMem q,?_⟩;cases z:Z.h₀.get? s.heap.objs.size with
     |none=>rfl
     |some o=>have:=I.base _ o z;rw[q]at this;injection this
   . obtain⟨⟨o,e,q⟩,r⟩:=Fs f hf;exact⟨⟨o,hkeep f o e,q⟩,r⟩
theorem pq{Q:V->ac->Prop}{c:V}(h:nE n v U=.ok c σ')(h1:∀x,v=.d x->Q (.d x) (U.take n))(h3:∀k c',v=.loc k->¬ k < n->U[k]?=some c'->Q (.loc n) (U.take n++[c'])):Q c σ':=by
 cases v with
 |d x=>injection h with e f;subst e;subst f;exact h1 x rfl
 |loc k=>
   have h:(if k < n then Res.bad else match U[k]? with|some (.lst l)=>.ok (.loc n) (U.take n++[.lst l]) | some (.dct l)=>.ok (.loc n) (U.take n++[.dct l]) | _=>.bad)=.ok c σ':=h;by_cases hk:k < n
   . rw[if_pos hk]at h;injection h
   . rw[if_neg hk]at h;cases hc:U[k]? with
     |none=>rw[hc]at h;injection h
     |some c'=>
       replace h:=hc▸h;cases c' with
       |lst l=>injection h with e f;subst e;subst f;exact h3 k _ rfl hk hc
       |dct l=>injection h with e f;subst e;subst f;exact h3 k _ rfl hk hc
       |_=>injection h
 |_=>injection h
theorem rR{w:Value}(S:Step O Y U s ag aa ai)(I:Inv Z Y U s.heap)(ay:Inv Z ag aa ai.heap)(r:aE ag aa ai.heap w v)(h:nE U.length v aa=.ok v' σ'):Po Z O Y U s σ' ai λβ'=>aE β' σ' ai.heap w v':=by
 have hl:=I.len;apply pq h
 . intro x e;rw[e]at r;exact⟨_,S.take hl ay.len,ay.take _,Gu r⟩
 . intro k c' e hk hc;rw[e]at r;obtain⟨a,hb,ew⟩:=r;have hlen:(ag.take U.length).length=U.length:=by obtain⟨e,q,_⟩:=S.ext;rw[q,Ql,PA];exact Qm (by rw[<- hl];exact PU _ _)
   have E:=HR S hl ay (QD hk) hb hc;exact⟨_,E.1,E.2,a,by rw[PW (Qk hlen),hlen];simp,ew⟩
theorem rS{c:V}(h:nE n v U=.ok c σ'):nH c=none:=
 pq (Q:=λc _=>nH c=none) h (λ_ _=>rfl) λ_ _ _ _ _=>(rfl)def Iq(Z:Cx)(p:Prog)(gn:Nat->Str):Prop:=∀k x,p.G k=some x->∃v,Z.mg (gn k)=some v/\∀T h,Rel T h v x
noncomputable def Ip (Z:Cx) (p:Prog) (gn:Nat->Str):Prop:=∀i fn,p.P i=some fn->fn.name=("_law_kind":Str)->FnX Z (λ_=>none) gn fn
structure Static(Z:Cx)(p:Prog)(gn:Nat->Str):Prop where
 w:World0 Z
 y:CO Z
 b:BiOk Z
 g:Iq Z p gn
 f:∀i fn,p.P i=some fn->FnX Z p.P gn fn
 x:XOk Z
 k:Ip Z p gn
noncomputable abbrev Cx.of(Z:Cx)(l:List Addr)(q:Bool):Cx:={ Z with fr:=l,q:=q }theorem Inv.of(l:List Addr)(q:Bool)(I:Inv Z Y U h):Inv (Z.of l q) Y U h:=⟨I.len,I.nodup,I.base,I.fresh,λk a c h1 h2=>by have:=I.cell k a c h1 h2;cases c<;>exact this⟩theorem Inv.ofBack{l:List Addr}{q:Bool}(I:Inv (Z.of l q) Y U h):Inv Z Y U h:=⟨I.len,I.nodup,I.base,I.fresh,λk a c h1 h2=>by have:=I.cell k a c h1 h2;clear h2;cases c<;>exact this⟩
theorem FnX.of(h:FnX Z P gn fn)(l:List Addr)(q:Bool):FnX (Z.of l q) P gn fn:=by
 cases h with
 |mk a o fd body ps h1 h2 h3 h4 h5 h6 h7 h8 h9 h10 h11 h12 h13 h14=>exact .mk a o fd body ps h1 h2 h3 h4 h5 h6 h7 h8 h9 h10 h11 h12 h13 h14
theorem Static.of(T:Static Z p gn)(l:List Addr)(q:Bool):Static (Z.of l q) p gn:=
 ⟨{ T.w with },T.y,{ T.b with },T.g,λi fn h=>(T.f i fn h).of _ _,{ T.x with },λi fn h h'=>(T.k i fn h h').of _ _⟩
set_option tactic.hygienic true in
theorem E0{f:Nat}{q:Bool}(T:Static Z p gn)(hf:p.P f=some fn)(Fn:FnX Z P gn fn)(ih:∀l,Wd (Z.of l q) P gn p.G (aj p d) d):NS Z (aj p (d+1)) (d+1) f fn q:=by
 obtain⟨a,o,fd,body,ps,h1,h2,h3,h4,h5,h6,h7,h8,h9,h10,h11,h12,h13,h14⟩:=Fn;refine⟨a,o,fd,h1,h2,h3,λA Y U s vs xs hA Fs I r c σ' ev=>?_⟩;have ev:(match p.P f with|none=>Res.bad|some fn=>if xs.length=fn.np then (execs p.G (aj p d) fn.body (xs++List.replicate (fn.ns - fn.np) V.un) U).bind λo aa=>nG U.length o aa else .bad)=.ok c σ':=ev;replace ev:=hf▸ev;dsimp only at ev;split at ev
 . rename_i hl;obtain⟨out,aa,e1,e2⟩:=Res.bind_ok ev;obtain⟨f1,f2,f3,f4,f5⟩:=ke h13;have hvl:vs.length=ps.length:=by rw[gl r,hl,f3]
   have k3:=(T.w.keeps I).2.2;refine wpAny_call (codeAny_call_cells (P6 (iv (PU _ (d+1)) (PU _ 2)) hA.2.1) (I.base a o h2) h3 k3 (h6.keeps I.base) h4 (h12 vs hvl) h5 (λy hy=>?_) (λai x=>?_) h10 h11 h9)
   . obtain⟨i,hi⟩:=Q0 (Tz hy).1;rcases (f1 _ i (f4 i _ hi)).1 with q|q
     . exact .inl q
     . exact .inr ⟨q,fP (.inl (mem_of_lookup q))⟩
   . obtain⟨Fr,S,ay,fresh⟩:=Cq (Z:=Z.of Z.fr q) h13 h9 h7 h8 Fs (I.of Z.fr q) r hl x;have hA2:=hA.deeper (callEnvC fd s.heap.objs.size a) rfl h9;obtain⟨_,_,_,l0,hl0,_⟩:=hA;have hfr:=Around.frames_deeper (env:=callEnvC fd s.heap.objs.size a) hl0;refine PO (yF (ih (s.heap.objs.size::Z.fr)) fn.body _ _ body _ _ _ Y U ai h14 hA2 Fr ay ⟨_,_,hfr,rfl⟩ out aa e1) (λfl aq ⟨a5,cC,cD,q⟩=>?_) λv aq ⟨k,ds,q,fq⟩=>?_
     . have S':=(S.trans cC).drop fresh;have cD:=cD.ofBack;cases out with
       |next ρ'=>obtain⟨rfl,_⟩:=q;have e2:nE U.length (.d .none) aa=.ok c σ':=e2;exact⟨rS e2,rR S' I cD (v:=.d .none) .none e2⟩
       |ret v=>obtain⟨w,rfl,q⟩:=q;have e2:nE U.length v aa=.ok c σ':=e2;exact⟨rS e2,rR S' I cD q e2⟩
       |exc k ds=>exact q.elim
     . clear ev e1;subst q;injection e2 with e f;subst e;subst f;refine fq.elim λa5 e hv q=>x3.elim ⟨_,_,hfr,rfl⟩ hA2 λouter L hfr' hfL hfm hfx=>q.fl.elim λoe vs' he hc hd hL hT=>?_;clear fq;subst hv;refine wX hfr' (q.frames hfx) hfL he hd hL λoJ N=>?_;have qL:=q.noted (L':=none) Fr.frs ay (.inl rfl) (λf' hf=>hfm▸hf) he hc hd hL hT N;exact⟨k,ds,rfl,a5.take U.length,e,rfl,((S.trans qL.st).drop fresh).take I.len qL.inv.len,qL.inv.ofBack.take _,λm=>qL.nb (P8 m),qL.fl.back S.alive,trivial,λz=>(qL.xd z).same S.alive (λ_=>P8) λ_=>nZ⟩
 . injection ev
theorem DI(T:Static Z p gn):Wd Z (λ_=>none) gn p.G cf d:=⟨T.w,T.y,T.b,T.g,(λf fn hf=>by injection hf),(λh=>by injection h)
 ,T.x,λf fn hf=>by injection hf⟩
theorem Gg(p:Prog)(gn:Nat->Str)(Z:Cx)(T:Static Z p gn)(hz:Z.q=false)(hcf:∀f xs U,cf f xs U=.bad):Wd Z p.P gn p.G cf 0:=
 have H:∀{P:Nat->Option Fn} {fn:Fn} {f:Nat} {q:Bool},FnX Z P gn fn->NS Z cf 0 f fn q:=λx=>by obtain⟨a,o,fd,body,ps,h1,h2,h3,_⟩:=x;exact⟨a,o,fd,h1,h2,h3,λA Y U s vs xs _ _ _ _=>by rw[hcf];exact LM.bad⟩
 ⟨T.w,T.y,T.b,T.g,λf fn hf=>H (T.f f fn hf),λ_=>hz,T.x,λf fn hf hn=>H (T.k f fn hf hn)⟩
theorem vU(p:Prog)(gn:Nat->Str):∀(d:Nat) (Z:Cx) (T:Static Z p gn) (hz:Z.q=false),Wd Z p.P gn p.G (aj p d) d
 |0=>@λZ T hz=>Gg p gn Z T hz λ_ _ _=>rfl
 |d+1=>@λZ T hz=>⟨T.w,T.y,T.b,T.g,λf fn hf=>E0 T hf (T.f f fn hf) λl=>vU p gn d (Z.of l Z.q) (T.of _ _) hz,λ_=>hz,T.x,
     λf fn hf hn=>E0 T hf (T.k f fn hf hn) λl=>DI (T.of l true)⟩theorem xm{f g:B->Option γ}:∀{l:List B},(∀n∈l,f n=g n)->l.filterMap f=l.filterMap g
 |[]=>@λ_=>rfl
 |a::l=>@λh=>by rw[Rx,Rx,h a (PF ..),xm λn hn=>h n (PD _ hn)]
set_option tactic.hygienic true in
theorem ql:∀{ps:List Str} {vals:List Value},ps.Nodup->vals.length=ps.length->(∀n∈ps,((ps.zip vals).lookup n).isSome=true)/\(ps.filterMap λn=>((ps.zip vals).lookup n).map (n,·))=ps.zip vals
 |[],[]=>@λ_ _=>⟨(λn h=>by cases h),rfl⟩
 |[],_::_=>@λ_ h=>by simp at h
 |_::_,[]=>@λ_ h=>by simp at h
 |p::ps,v::vals=>@λhn hl=>by
   obtain⟨h1,h2⟩:=QW.mp hn;have ih:=ql h2 (by simpa using hl);refine⟨λn hm=>?_,?_⟩
   . rw[List.zip_cons_cons,P2];split
     . rfl
     . rename_i hne;clear hl;rcases PM.mp hm with rfl|hm
       . simp at hne
       . exact ih.1 n hm
   . rw[List.zip_cons_cons,Rx,P2];simp only[beq_self_eq_true,Sv];rw[xm (g:=λn=>((ps.zip vals).lookup n).map (n,·)) λn hm=>?_,ih.2];rw[P2];have:(n==p)=false:=by
       simp only[beq_eq_false_iff_ne]
       rintro rfl;exact h1 hm
     rw[this]variable {as:List Arg}
theorem sj{qual:Str}{pm code doc:Value}(hn:(as.map (·.arg)).Nodup)(hl:vals.length=(as.map (·.arg)).length) :
   bindArgs (PyProof.Rows.methDef name qual ⟨[],as,none,[],[],none,[]⟩ body scope pm code doc) ⟨vals,[]⟩=pure ((as.map (·.arg)).zip vals):=by
 refine(ql hn hl).elim λz1 z2=>?_;refine Eq.trans (b:=if (decide (vals.length > (as.map Arg.arg).length)&&true)=true then _ else _) rfl ((if_neg (by refine hl▸?_;simp)).trans ?_);refine Eq.trans (b:=if (!(List.filter (λn=>(List.lookup n ((as.map Arg.arg).zip vals)).isNone) (List.take ((as.map Arg.arg).length - (List.drop (0 - (as.map Arg.arg).length) ([]:List Value)).length) (as.map Arg.arg))).isEmpty)=true then _ else _) rfl ((if_neg ?_).trans ?_)
 . rw[RC.mpr λn hn=>?_]
   . simp
   . rw[QA,<- Option.not_isSome_iff_eq_none];exact not_not_intro (z1 n (P8 hn))
 . show (forIn (List.zip (List.drop _ (as.map Arg.arg)) (List.drop (0 - (as.map Arg.arg).length) ([]:List Value))) ((as.map Arg.arg).zip vals) _ >>= λ_=>_)=_;rw[List.drop_nil,List.zip_nil_right];show (pure (List.filterMap _ (as.map Arg.arg++[])):Sem _)=_;rw[P4];exact congrArg pure (z2)theorem wC{a:Arguments}(h:ki a=true):a=⟨[],a.args,none,[],[],none,[]⟩:=by obtain⟨p,as,v,k,kd,kw,d⟩:=a;obtain⟨h1,h2,h3,h4,h5,h6⟩:=zH h;rw[show p=[] from RO.mp h1,show v=none from QA.mp h2,show k=[] from RO.mp h3,show kd=[] from RO.mp h4,show kw=none from QA.mp h5,show d=[] from RO.mp h6]def lD(rs:List DefRec)(P:Nat->Option Fn)(gn:Nat->Str)(fn:Fn):Bool:=ob (rs.find? λr=>decide (r.name=fn.name)) λr=>ki r.params&&decide (r.scope.kind=.function)&&!r.scope.isCoroutine&&!r.scope.isGenerator&&pX r.scope.names fn.slots (r.params.args.map (·.arg)) fn.np fn.ns&&Ee P gn r.scope.names fn.slots fn.body r.body
variable {view:Program}
theorem AP(TA:∀e:PyProof.Rows.DefItem,e∈List.map PySem.W.itemOf (PyProof.Rows.recsOf view)->e.params.defaults=[]->e.At Z.mg Z.h₀)
   (h:lD (PyProof.Rows.recsOf view) P gn fn=true):FnX Z P gn fn:=by
 replace h:=av h;obtain⟨r,hr,h⟩:=h
 . skip
   obtain⟨h1,h2,h3,h4,h5,h6⟩:=zH h;replace h2:=of_decide_eq_true h2;replace h3:=wJ h3;replace h4:=wJ h4;have hn:r.name=fn.name:=by simpa using List.find?_some hr
   have hp:=wC h1;obtain⟨a,c,P',o,pm,doc,q1,q2,q3,q4,_⟩:=TA (PySem.W.itemOf r) (Qi.mpr ⟨r,(List.mem_of_find?_eq_some hr),rfl⟩) (by show r.params.defaults=[];exact congrArg _ hp);obtain⟨f1,f2,f3,f4,f5⟩:=ke h5;refine⟨a,o,_,r.body,r.params.args.map (·.arg),(hn▸q1),q2,q3,rfl,rfl,q4,rfl,rfl,h2,h3,h4,λvals hl=>?_,h5,h6⟩;refine(?_:bindArgs (docDef r.name r.params r.body r.scope pm (.ref c) doc) ⟨vals,[]⟩=_);exact hp▸(sj (qual:=r.name) (wA f4) hl)noncomputable def nU:List Str:=["len","list","int","max","tuple","sorted","set","any","all","isinstance","bool","str","range","enumerate"]def tW(names:List Str):Bool:=nU.all λx=>!names.contains x&&!PySem.bootMainNames.contains (x)theorem Lx (b:Bi):sk b∈nU:=by cases b<;>first|decide|exact(by decide:("isinstance":Str)∈nU)theorem Ny (b:Bi):sk b≠"__name__":=by cases b<;>first|decide|exact(by decide:("isinstance":Str)≠"__name__")variable {consts:List (Str×PyData)}{names:List Str}{mg mb:Str->Option Value}
theorem static_of{prog:Program}{y0:List Fn}
   (GL:PyProof.Rows.Glob 0 mg mb (List.map PySem.W.itemOf (PyProof.Rows.recsOf view)) consts [] names ai.heap)
   (TA:∀e:PyProof.Rows.DefItem,e∈List.map PySem.W.itemOf (PyProof.Rows.recsOf view)->e.params.defaults=[]->e.At mg ai.heap)
   (hchk:(y0.all λfn=>lD (PyProof.Rows.recsOf view) p.P gn fn)=true)
   (hP:p.P=λn=>y0[n]?) (hfree:tW names=true)
   (hg:∀k x,p.G k=some x->∃v,mg (gn k)=some v/\∀T h,Rel T h v x)
   (hkd:(y0.all λfn=>!decide (fn.name=("_law_kind":Str))||lD (PyProof.Rows.recsOf view) (λ_=>none) gn fn)=true)
   (X:XOk ⟨prog,w,ai.heap,mg,mb,[],false⟩):Static ⟨prog,w,ai.heap,mg,mb,[],false⟩ p gn:=by
 have fr:∀x∈nU,mg x=none:=λx hx=>by have:=QN.mp hfree x hx;simp only[P3,QB,TK,decide_eq_false_iff_not]at this;exact GL.free x this.1 this.2
 have bt:∀x:Str,x≠"__name__"->mb x=bootBuiltins x:=GL.builtins;refine⟨⟨GL.g,GL.b,GL.nolimit⟩,?_,⟨λb=>⟨?_,?_⟩,λt=>⟨?_,?_⟩,⟨fr _ (by decide),?_⟩
   ,⟨fr _ (by decide),?_⟩
   ,⟨fr _ (by decide),?_⟩
   ⟩,hg,λi fn hf=>?_,X,λi fn hf hn=>?_
   ⟩
 . obtain⟨mm,⟨o,es,ep,e,_⟩,_⟩:=GL.seer.mods;exact⟨o,e⟩
 . exact fr _ (Lx b)
 . show mb (sk b)=_;rw[bt _ (Ny b)];cases b<;>rfl
 . exact fr _ (by cases t<;>first|decide|exact(by decide:mW (.tuple ())∈nU))
 . show mb (mW t)=_;rw[bt _ (by cases t<;>first|decide|exact(by decide:mW (.tuple ())≠Str.ofString "__name__"))];cases t<;>rfl
 . show mb "range"=_;rw[bt _ (by decide)];rfl
 . show mb "enumerate"=_;rw[bt _ (by decide)];rfl
 . show mb "set"=_;rw[bt _ (by decide)];rfl
 . rw[hP]at hf;exact AP (Z:=⟨prog,w,ai.heap,mg,mb,[],false⟩) TA (QN.mp hchk fn (PC hf))
 . rw[hP]at hf;have:=QN.mp hkd fn (PC hf);rw[decide_eq_true hn,Su,SM]at this;exact AP (Z:=⟨prog,w,ai.heap,mg,mb,[],false⟩) TA (this)variable {T:Addr->Prop}{v:Value}theorem tz{g:Heap}{i:Int}{as:List Addr}(r:Reads h v (.int i) as):Rel T g v (.int i):=by cases r;exact .int _ (_)variable {Pm:Params}
theorem yn{l:List Int}(hT:¬ T a)(hl:l.length<=LIM)(hw:PySem.W.Well Pm h (.ref a) (PySem.W.ofPy (.list (l.map .int)))):Rel T h (.ref a) (.list (l.map .int)):=by
 have all:∀{l:List Int} {vs:List Value},PySem.W.WellAll Pm h vs (PySem.W.ofPys (l.map .int))->RelAll T h vs (l.map .int):=by
   intro l
   induction l with
   |nil=>intro vs w;cases w;exact .nil
   |cons i l ih=>
     intro vs w;cases w with
     |cons w ws=>exact .cons (tz (PySem.W.flat_of_well rfl w h)) (ih ws)
 cases hw with
 |list e ws=>exact .list (n:=0) e hT (by simpa using hl) (by simpa using all ws)theorem zG(hz:Z.fr=[])(h:d<=600):lS Z d callerA:=⟨λ_=>rfl,by show 1+claimMargin+d+2 < recursionLimit;unfold claimMargin recursionLimit;omega,by show 4+8 * d+200 < cLine;unfold cLine;omega,[],rfl,by rw[hz];rfl,λ_ h=>by cases h⟩
theorem run_law{prog:Program}{w:PySem.World}{fa:Addr}{l:List Int}(T:Static ⟨prog,w,ai.heap,mg,mb,[],false⟩ p gn)(hf:p.P i=some fn)(hmg:mg fn.name=some (.ref fa))
   (hw:PySem.W.Well w.params ai.heap (.ref a) (PySem.W.ofPy (.list (l.map .int)))) (hl:l.length<=LIM) (hd:d<=600) (hrun:aj p d i [.d (.list (l.map .int))] []=.ok (.d (.bool true)) σ') {Q E:VP}
   (q:∀s',(∀b o,ai.heap.get? b=some o->s'.heap.get? b=some o)->s'.os=ai.os->s'.gens=ai.gens->Q (.bool true) s'):wpAny (model prog w) callerA (call (.ref fa) [.ref a]) Q E ai:=by
 obtain⟨a',o,fd,h1,_,_,hc⟩:=(vU p gn d _ T rfl).c i fn hf;have:a'=fa:=by have h1:mg fn.name=some (.ref a'):=h1;rw[hmg]at h1;clear hc;injection h1 with e;injection e with e;subst e;rfl
 subst this;have hr:eY [] [] ai.heap [.ref a] [.d (.list (l.map .int))]:=.cons (yn (λ⟨k,c,h,_,_⟩=>by simp at h) hl hw) .nil;refine PO (hc callerA [] [] ai _ _ (zG rfl hd) (λ_ h=>by cases h) (⟨rfl,.nil,λ_ _ e=>e,(λ_ h=>by cases h),λk a c h=>by simp at h⟩) hr _ _ hrun) (λv s' ⟨_,β',S,I',rv⟩=>?_) λ_ _ ⟨_,_,q,_⟩=>by injection q
 cases rv;exact q s' (λb o e=>I'.base b o e) S.os (S.gens)def xn:PyData->Bool
 |.int _=>true
 |.str y=>AI y
 |_=>(false)variable {ds:List PyProof.Rows.DefItem}
theorem globs_of(GL:PyProof.Rows.Glob 0 mg mb ds consts [] names bj)
   (h:∀k x,p.G k=some x->(gn k,x)∈consts/\xn x=true):∀k x,p.G k=some x->∃v,mg (gn k)=some v/\∀T h,Rel T h v x:=λk x hk=>by
 refine(h k x hk).elim λh1 h2=>?_;obtain⟨v,q1,q2⟩:=GL.bound _ h1;refine⟨v,q1,λT h=>?_⟩;have r:Reads h v x []:=q2 h;clear hk h1 q2 q1;cases x with
 |int i=>exact tz r
 |str y=>cases r;exact .str _ _ (xe h2)
 |_=>injection h2
noncomputable def gnames:Nat->Str
 |0=>""
 |1=>"LETTERS"
 |_=>"LONGEST"
theorem d6{a b:Bool}(h:(a&&b)=true):a=true/\b=true:=PI.mp (h)variable {st:Stmt}theorem wS{p f n:Str}(h:Ed p f n st=true):X4 λn1 n2 n3 n4=>st=.Assign [.Attribute (.Name p n1) f n2] (.Name n n3) n4:=by refine kk λUc k=>?_;obtain⟨⟨ts,v⟩,z1,h1⟩:=av h;obtain⟨t,z2,h2⟩:=av h1;have h3:=d6 h2;obtain⟨n1,n2,u1⟩:=yO h3.1;obtain⟨m,z3,h4⟩:=av h3.2;obtain⟨n3,u2⟩:=bO z3;obtain⟨n4,u3⟩:=na z1;refine k ?_;have u5:v=.Name m n3:=u2;exact⟨n1,n2,n3,n4,by rw[u3,(dC z2:ts=[t]),u1,u5,of_decide_eq_true h4]⟩variable {b:List Stmt}theorem B8{f:FuncBody}(h:EM f=some b):f=.stmts b:=by cases f<;>first | ((injection h with e;subst e);rfl) | injection h
theorem G2{a:Bool}(h:(!a)=true):a=false:=by cases a<;>first|rfl|injection h
theorem Br{l:List Str}{a b c:Str}(h:C9 l=some (a,b,c)):l=[a,b,c]:=by
 match l,h with
 |[x,y,z],h=>injection h with e;injection e with e f;subst e;injection f with e f;subst e;subst f;rfl
theorem Nn(e0:fd.params=⟨[],as,none,[],[],none,[]⟩)(e1:fd.body=.stmts b)(e2:fd.globals=mainGlobals)(e3:fd.closure=[])(e4:fd.defaults=.none)(e5:fd.kwdefaults=.none)(e6:fd.annotations=none)(e7:fd.closureTuple=.none)(e8:fd.builtins=builtinsNs) :
   fd=PyProof.Rows.methDef fd.name fd.qualname ⟨[],as,none,[],[],none,[]⟩ b fd.scope fd.pyModule fd.code fd.doc:=
 congr (congr (congr (congr (congr (congr (congr (congr (congrArg (λp b g c d k a t u=>FuncData.mk fd.name fd.qualname p b fd.scope g c d k fd.doc fd.pyModule a fd.code t u) e0) e1) e2) e3) e4) e5) e6) e7) e8
theorem Km(w:p1≠p0/\p2≠p0/\p2≠p1):[p0,p1,p2].Nodup:=
 QW.mpr ⟨λz=>(PM.mp z).elim (λz=>w.1 z.symm) λz=>w.2.1 (PL.mp z).symm,QW.mpr ⟨λz=>w.2.2 (PL.mp z).symm,QW.mpr ⟨QG,SG⟩⟩⟩theorem Nx{as:List Arg}(e:fd=PyProof.Rows.methDef fd.name fd.qualname ⟨[],as,none,[],[],none,[]⟩ b fd.scope fd.pyModule fd.code fd.doc)(w4:as.map (·.arg)=[p0,p1,p2])(w6:p1≠p0/\p2≠p0/\p2≠p1)(u v w:Value):bindArgs fd ⟨[u,v,w],[]⟩=pure [(p0,u),(p1,v),(p2,w)]:=by have:=sj (name:=fd.name) (qual:=fd.qualname) (as:=as) (body:=b) (scope:=fd.scope) (pm:=fd.pyModule) (code:=fd.code) (doc:=fd.doc) (vals:=[u,v,w]) (w4▸Km w6) (by refine w4▸?_;rfl);rw[w4,<- e]at this;exact(this)theorem KT(h:OY fd p0 p1 p2 b=true):X4 λn1 n2 n3 n4=>X4 λn5 n6 n7 n8=>b=[.Assign [.Attribute (.Name p0 n1) j5 n2] (.Name p1 n3) n4,.Assign [.Attribute (.Name p0 n5) dG n6] (.Name p2 n7) n8]:=by refine kk λUc k=>?_;obtain⟨q,z1,h1⟩:=av h;have h2:=d6 h1;obtain⟨n1,n2,n3,n4,u3⟩:=wS h2.1;obtain⟨n5,n6,n7,n8,u4⟩:=wS h2.2;refine k ?_;exact⟨n1,n2,n3,n4,n5,n6,n7,n8,by rw[jx z1,u3,u4]⟩variable {ns:Addr}{o:Obj}theorem Hq (h1:h.nsMap ns "__init__"=some (.ref a)) (h2:h.get? a=some o) (x0:o.cls=.type "function") (h3:o.data=.func fd) (x:OX h fd=true):InitX h (h.nsMap ns):=by have x1:=d6 x;have x2:=d6 x1.2;refine kk λUc k=>?_;obtain⟨b,z1,y1⟩:=av x2.2;obtain⟨⟨p0,p1,p2⟩,z2,y2⟩:=av y1;have y3:=d6 y2;obtain⟨n1,n2,n3,n4,n5,n6,n7,n8,hb⟩:=KT y3.1;refine k ?_;have w:=d6 y3.2;have s1:=d6 x2.1;have s2:=d6 s1.2;have s3:=d6 s2.2;have s4:=d6 s3.2;have s5:=d6 s4.2;have s6:=d6 s5.2;have s7:=d6 s6.2;have s8:=d6 s7.2;have s9:=d6 s8.2;have s10:=d6 s9.2;have eb:=B8 z1;exact⟨a,o,fd,p0,p1,p2,n1,n2,n3,n4,n5,n6,n7,n8,h1,h2,x0,h3,eb.trans (congrArg FuncBody.stmts hb),gc s2.1,.of_ok s8.1,⟨of_decide_eq_true s9.1,G2 s10.1,G2 s10.2⟩,Nx (Nn (wC x1.1) eb (of_decide_eq_true s1.1) (gc s2.1) (of_decide_eq_true s3.1) (of_decide_eq_true s4.1) (QA.mp s5.1) (of_decide_eq_true s6.1) (of_decide_eq_true s7.1)) (Br z2) (of_decide_eq_true w.2),λp hp=>⟨of_decide_eq_true (d6 (QN.mp w.1 p hp)).1,(d6 (QN.mp w.1 p hp)).2⟩,of_decide_eq_true w.2⟩
theorem Hp(x:KR h ns=true):InitX h (h.nsMap ns):=by
 unfold KR at x;cases hf:h.fnAt ns "__init__" with
 |none=>rw[hf]at x;injection x
 |some y=>refine kk λUc k=>?_;obtain⟨a,o,fd⟩:=y;rw[hf]at x;obtain⟨h1,h2,h3⟩:=Heap.fnAt_spec hf;refine k ?_;exact Hq h1 h2 (of_decide_eq_true (d6 x).1) h3 (d6 x).2
def XF(mg:Str->Option Value)(h:Heap):Prop:=∀k,k<=6->mg (j6 k)=some (.ref (KA k))/\XAt h (k)variable {cd:ClassData}theorem Ju (ho:h.get? (KA k)=some o) (hd:o.data=.cls cd) (h1:o.cls=.type "type") (h2:cd.mro=.ref (KA k)::d7 k) (h3:cd.hasDel=false) (h4:o.slots.size=6) (h5:o.slots[4]?=some (some (.builtin "ValueError.__new__"))) (h6:h.isNs cd.ns=true) (h7:∀n∈fh,h.nsMap cd.ns n=none) (h8:k<=5->h.nsMap cd.ns "__init__"=none) (h9:k=6->cd.hasDict=true/\InitX h (h.nsMap cd.ns)):XAt h k:=by obtain⟨oc,dd,dt,sl⟩:=o;obtain⟨nm,bs,mro,N,q,hdct,sn,sub,ab,col,hdel⟩:=cd;obtain⟨l⟩:=sl;obtain⟨k0,k1,k2,k3,k5,rfl⟩:=six_places (l:=l) h4 (by simpa using h5);clear h4 h5;subst h1;subst hd;subst h3;subst h2;exact⟨nm,q,N,bs,hdct,sn,sub,ab,col,dd,k0,k1,k2,k3,k5,h.nsMap N,ho,.of_isNs h6,h7,h8,h9⟩
theorem xf_of(x:L7 h=true):XF (h.nsMap mainGlobals) h:=λk hk=>by
 have x:=QN.mp x k (Rc.mpr (SF hk));unfold IE at x;cases hc:h.clsAt mainGlobals (j6 k) with
 |none=>rw[hc]at x;injection x
 |some y=>obtain⟨a,o,cd⟩:=y;rw[hc]at x;obtain⟨hn,ho,hd⟩:=Heap.clsAt_spec hc;have s9:=d6 x;have s8:=d6 s9.1;have s7:=d6 s8.1;have s6:=d6 s7.1;have s5:=d6 s6.1;have s4:=d6 s5.1;have s3:=d6 s4.1;have s2:=d6 s3.1;have s1:=d6 s2.1;rw[(of_decide_eq_true s1.1)]at hn ho;exact⟨hn,Ju ho hd (eq_of_beq s1.2) (eq_of_beq s2.2) (G2 s3.2) (eq_of_beq s4.2) (eq_of_beq s5.2) s6.2 (λn hn=>QA.mp (QN.mp s7.2 n hn)) (λh5=>(Qa.mp s8.2).elim (λz=>absurd (of_decide_eq_true z) (λz=>by rw[z]at h5;exact absurd h5 (by decide))) QA.mp) λh6=>(Qa.mp s9.2).elim (λz=>absurd h6 (of_decide_eq_false (G2 z))) λz=>⟨(d6 z).1,Hp (d6 z).2⟩⟩theorem XF.keeps(x:XF mg h)(hk:∀b o,h.get? b=some o->h'.get? b=some o):XF mg h':=λk hk6=>⟨(x k hk6).1,(x k hk6).2.keeps hk⟩
theorem LJ:∀i j,i<=6->j<=6->KA i=KA j->i=j:=by
 have:∀i,i < 7->∀j,j < 7->KA i=KA j->i=j:=by decide +kernel
 exact λi j hi hj=>this i (SF hi) j (SF hj)
theorem xok_of {prog:Program} (GL:PyProof.Rows.Glob 0 mg mb ds consts [] names ai.heap) (hve:(!names.contains ("ValueError":Str)&&!PySem.bootMainNames.contains "ValueError")=true) (X:XF mg ai.heap):XOk ⟨prog,w,ai.heap,mg,mb,[],false⟩:=by
 refine⟨λk hk=>⟨(X k hk).1,(X k hk).2⟩,LJ,?_,?_⟩
 . simp only[P3,QB,TK,decide_eq_false_iff_not]at hve;exact GL.free _ hve.1 hve.2
 . show mb "ValueError"=_;rw[GL.builtins _ (by decide)];rfl
namespace L11
noncomputable def bz:Str:=⟨#[110,97,109,101]⟩noncomputable def cL:Str:=⟨#[110,117,109]⟩noncomputable def iu:Str:=⟨#[115,101,116]⟩noncomputable def mt:Str:=⟨#[116,101,108,108]⟩noncomputable def jE:Str:=⟨#[119,104,101,110]⟩noncomputable def bA:Str:=⟨#[99,97,108,108]⟩noncomputable def dq:Str:=⟨#[97,103,97,105,110]⟩noncomputable def lX:Str:=⟨#[110,111,32,115,117,99,104,32,112,108,97,99,101]⟩noncomputable def wo:Str:=⟨#[110,111,32,99,97,108,108]⟩noncomputable def az:Str:=⟨#[97,98,99,100,101,102,103,104,105,106,107,108,109,110,111,112,113,114,115,116,117,118,119,120,121,122]⟩noncomputable def Ab:Str:=⟨#[115,117,109]⟩noncomputable def uB:Str:=⟨#[108,101,115,115]⟩noncomputable def pZ:Str:=⟨#[116,105,109,101,115]⟩noncomputable def jZ:Str:=⟨#[110,111,116,32,115,111,32,109,97,110,121,32,114,111,119,115]⟩noncomputable def fb:Str:=⟨#[97,32,102,117,110,99,116,105,111,110,32,111,102,32,116,104,97,116,32,110,97,109,101]⟩noncomputable def gu:Str:=⟨#[112,108,97,99,101]⟩noncomputable def kX:Str:=⟨#[116,97,107,101,110]⟩noncomputable def gR:Str:=⟨#[117,110,108,105,107,101]⟩noncomputable def eG:Str:=⟨#[99,108,97,115,104]⟩noncomputable def NM:Str:=⟨#[97]⟩noncomputable def iR:Str:=⟨#[122,122]⟩noncomputable def zx(a b:E):E:=.idx a (b)noncomputable def aV:E:=.var 0
noncomputable def cn:E:=.int 0
noncomputable def aN(s:Str):E:=.str (s)noncomputable def dI(a b:E):E:=.cmp .eq a (b)noncomputable def bq:E:=.int 1
noncomputable def bn:E:=.var 1
noncomputable def gM(a b:E):E:=.cmp .notIn a (b)noncomputable def aB(a:E):EL:=.cons a .nil
noncomputable def bp(a:S):SL:=.cons a .nil
noncomputable def bX(c:E)(l:SL):S:=.ite c l .nil
noncomputable def uf(a b:E):E:=.cmp .ne a (b)noncomputable def zc(f:Nat)(l:EL):E:=.call f (l)noncomputable def aO(a b:E):EL:=.cons a (.cons b .nil)noncomputable def dw:E:=.int 2
noncomputable def ue(a b:S):SL:=.cons a (.cons b .nil)noncomputable def ar(k:Nat)(e:E):S:=.asg (.var k) (e)noncomputable def zr(e:E):S:=.ret (e)noncomputable def qk(a b c:S):SL:=.cons a (.cons b (.cons c .nil))noncomputable def om(l:EL):E:=.bop false (l)noncomputable def gN:E:=.int 3
noncomputable def Bj(a b c d:S):SL:=.cons a (.cons b (.cons c (.cons d .nil)))noncomputable def br:E:=.var 3
noncomputable def bk:E:=.var 2
noncomputable def gO(k:Nat)(i:It)(l:SL):S:=.forr (.var k) i (l)noncomputable def zt(l:EL):E:=.tup (l)noncomputable def bR:E:=.var 4
noncomputable def ek(a:E):E:=.cmp .isNotN a .none
noncomputable def fg(l:EL):E:=.bop true (l)noncomputable def Bk(a b:E):E:=.cmp .gt a (b)noncomputable def cF:E:=.var 5
noncomputable def yc(a b:E):E:=.cmp .lt a (b)noncomputable def CW(k f:Nat)(l:EL):S:=.calls (.var k) f (l)noncomputable def gE:E:=.var 6
noncomputable def Bg:E:=.var 9
noncomputable def ff:E:=.var 7
noncomputable def iZ:E:=.var 8
noncomputable def Jt(a b c d e:S):SL:=.cons a (.cons b (.cons c (.cons d (.cons e .nil))))noncomputable def NU(a b c d e f:S):SL:=.cons a (.cons b (.cons c (.cons d (.cons e (.cons f .nil)))))noncomputable def pF(a b c d:E):EL:=.cons a (.cons b (.cons c (.cons d .nil)))noncomputable def js(a b c:E):EL:=.cons a (.cons b (.cons c .nil))noncomputable def ja(a b:E):E:=.cmp .isIn a (b)noncomputable def ij:E:=.var 10
noncomputable def oj:E:=.var 12
noncomputable def Bh(a b c d e f g:S):SL:=.cons a (.cons b (.cons c (.cons d (.cons e (.cons f (.cons g .nil))))))noncomputable def CU(a:E):E:=.cmp .isN a .none
noncomputable def vO(a b c d e:E):EL:=.cons a (.cons b (.cons c (.cons d (.cons e .nil))))noncomputable def CV:E:=.int 6
noncomputable def CM:E:=.int 4
noncomputable def NL(a b c d e f:E):EL:=.cons a (.cons b (.cons c (.cons d (.cons e (.cons f .nil)))))noncomputable def O7(a b:E):E:=.cmp (.ge ()) a (b)noncomputable def zw:List Nat->List Nat->List Str
 |[],a=>[⟨a.toArray⟩]
 |c::l,a=>bif c.beq 32 then ⟨a.toArray⟩::zw l [] else zw l (a++bif c.beq 76 then [95,108,97,119,95] else [c])noncomputable def OM:Nat->List Str->List (Str×Nat)
 |_,[]=>[]
 |k,x::l=>(x,k)::OM (k+1) (l)def O8(n m:Nat)(b:SL)(l:List Str):Fn:={ name:=l.head?.getD default,np:=n,slots:=OM 0 l.tail,ns:=m,body:=b }def dy(s:String)(n m:Nat)(b:SL):Fn:=O8 n m b (zw (Str.ofString s).cps.toList [])noncomputable def vN:E:=.list false .nil
def CT:E:=.bi .len false (aB bn)def IC:E:=.bi .len false (aB bk)def qj:E:=zx bn (cn)def Jp:E:=.slc false bn (aB bq) .nil
def pC:E:=zx aV (bq)def OL:S:=bX (fg (aO (ek pC) (uf (zx bn gN) (zt (aO (aN bz) pC))))) (bp (ar 2 (.bin .add false bk (zt (aB (zt (js (aN iu) pC (zx bn gN))))))))def IB:E:=.bi .len false (aB aV)def LX:E:=zc 25 (aO aV (.bin .add false bn dw))def vR:E:=zx aV (cn)def CR:E:=.slc false aV .nil (aB bR)def OK:S:=bX (dI CT bq) (bp (zr (.bin .add false (.bin .add false CR br) (.slc false aV (aB (.bin .add false bR bk)) .nil))))def CS:E:=.bin .add false aV (zt (aB br))def L4:E:=zc 32 (vO cF bn ff (.bin .sub false br bq) (.bin .add false bq (.bin .mod false (.bin .fdiv false aV (.int 9)) gN)))def vT:E:=zx bn (.neg bq)def Js:E:=.slc false aV (aB (.bin .add false bR bq)) .nil
def Jr:E:=zx bk (.bin .mod false (zc 25 (aO aV bq)) IC)def pA:EL:=aO aV (bn)def CQ:E:=.bin .fdiv false aV (CV)def LZ:E:=om (aO (dI (zx br cn) (aN jE)) (fg (aO (dI (zx br cn) (aN dq)) (Bk (zx br bq) cn))))def Jq:E:=.slc false bn (aB bq) (aB (.neg bq))def LY:SL:=ue (bX (om (aO (dI vR (aN iu)) (dI vR (aN bA)))) (bp (zr pC))) (zr .none)def sC:E:=zx bk (dw)noncomputable def vS:E:=.bool (true)def mc:SL:=bp (.put bn br vS)def ma:SL:=bp (gO 3 (.seq (zc 1 (aB bk))) mc)def mB:SL:=ue (.expr (.meth .append bk (aB (zt (aO CS bR))))) (.expr (.meth .extend bk (aB (zc 7 (aO CS (zc 6 (aB bR)))))))def fL:SL:=ue (bX (ek (zc 4 (aB bk))) (bp (.put bn (zc 4 (aB bk)) vS))) (bX (fg (aO (dI (zx bk cn) (aN dq)) (Bk (zx bk bq) cn))) (bp (.expr (.meth .update bn (aB (zc 8 (aB sC)))))))def gz:SL:=bp (bX (gM cF bk) (bp (.put bn cF vS)))def cP:SL:=Bj (ar 4 (zc 3 (aB br))) (bX LZ (bp (ar 4 (.bin .add false bR (.bi .list false (aB (zc 9 (aB (zx br dw))))))))) (gO 5 (.seq bR) gz) (.expr (.meth .update bk (aB (zc 8 (aB (zt (aB br)))))))def jM:SL:=ue (bX (om (aO (.not (.cmp2 .le .lt cn br IC)) (.not (zc 5 (aB (zx bk br)))))) (bp (.raise 1 (aB (aN lX))))) (ar 2 (zx (zx bk br) dw))def jO:SL:=Jt (ar 6 (.slc false br (aB (.bin .add false (zx bn cF) bq)) .nil)) (ar 7 (zc 8 (aB gE))) (ar 4 (.bin .add false (.bi .list false (aB (zc 9 (aB gE)))) (.comp false (.var 9) (.seq bR) (aB (gM Bg ff)) Bg))) (ar 8 (zx br (zx bn cF))) (bX (yc cF (.bin .sub false CT bq)) (ue (ar 3 (zx iZ dw)) (bX (fg (aO (dI (zx iZ cn) (aN dq)) (Bk (zx iZ bq) bq))) (bp (ar 4 (.bin .add false bR (.bi .list false (aB (zc 9 (aB br))))))))))def dM:SL:=bp (bX (dI (zx br cn) bn) (bp (zr bk)))def gW:SL:=bp (bX (ja (zx (zx bk bq) br) (zc 1 (aB (zx (zx bn gN) bR)))) (bp (zr (zt (aO CS (.bin .add false aV (zt (aB bR))))))))def kA:SL:=bp (gO 4 (.range2 (.bin .add false br bq) (.bi .len false (aB (zx bn gN)))) gW)def g7:SL:=bp (bX (.bi .any false (aB (.comp false (.var 13) (.seq (zc 3 (aB ij))) .nil (ja (.var 13) iZ)))) (bp (zr (zt (aO Bg bn)))))def ph:SL:=bp (.put bR (zx (zx br bq) cF) (.bin .add false aV (zt (aB cF))))def kB:SL:=bp (bX (fg (aO (ek (zc 4 (aB ff))) (gM (zc 4 (aB ff)) bR))) (bp (.put bR (zc 4 (aB ff)) gE)))def jN:SL:=bp (bX (Bk gE bn) (bp (zr gE)))def gY:SL:=bp (bX (ja cF bR) (bp (zr (zt (aO (zx bR cF) (zc 21 (js aV bn cF)))))))def dO:SL:=bp (bX (fg (aO (dI (zx bR cn) (aN bA)) (dI (zx bR dw) bn))) (bp (zr vS)))def me:SL:=bp (.forr (.tup [3,4]) (.seq (zc 7 (aO (zt .nil) sC))) dO)def sm:SL:=Bj (ar 2 (.ite (yc bn IB) (zx aV bn) cn)) (ar 3 (.bin .mod false (.bin .mul false (.bin .add false (.bin .mod false bk (.int 2147483629)) (.bin .mul false (.int 7919) (.bin .add false bn bq))) (.int 48271)) (.int 2147483647))) (ar 3 (.bin .mod false (.bin .mul false (.bin .mod false (.bin .mul false br br) (.int 2147483629)) (.int 69621)) (.int 2147483647))) (zr (.bin .add false (.bin .mul false (.bin .add false (.bin .mul false (.bin .fdiv false bk (.int 2147483629)) (.int 2147483647)) br) (.int 2147483629)) (.bin .mod false (.bin .mul false br br) (.int 2147483629))))def kF:SL:=bp (ar 4 (zt (aB (zt (js (aN jE) (zt (aO (aN cL) (.bin .add false bq gE))) bR)))))def cU:SL:=qk (ar 7 (zc 34 (pF (zc 25 (aO aV (.bin .add false (.bin .add false bn gN) gE))) (zx br gE) bk (.bi .list false (aB (.slc false bR .nil (aB gN))))))) (bX (fg (aO (dI gE cn) (dI (.bin .mod false (.bin .fdiv false LX (.int 4096)) (.int 8)) bq))) (bp (ar 7 (zt (pF (zx br cn) (zt .nil) (zt .nil) (zx ff gN)))))) (ar 4 (.bin .add false bR (zt (aB ff))))def kE:SL:=bp (ar 2 (.bin .add false bk (zc 37 (aB br))))def gZ:SL:=ue (.expr (.meth .append bk (aB (zt (aO CS (zx bn br)))))) (ar 2 (.bin .add true bk (zc 41 (aO CS (zc 40 (aB (zx bn br)))))))def gy:SL:=qk (ar 2 (om (aO bk (ja bn (zc 38 (aB br)))))) (bX LZ (qk (ar 4 (zc 42 (aO (zx br dw) bn))) (ar 2 (om (aO bk (zx bR cn)))) (bX (fg (aO (dI (zx br cn) (aN dq)) (.not (zx bR bq)))) (bp (zr (zt (aO bk (.bool false)))))))) (bX (dI (zc 39 (aB br)) bn) (bp (zr (zt (aO bk (.bool false))))))def g6:SL:=Jt (ar 7 (zc 42 (aO (.slc false bR (aB (.bin .add false gE bq)) .nil) bk))) (ar 5 (om (aO (zx ff cn) (fg (aO (zx ff bq) cF))))) (ar 8 (zx bR gE)) (ar 4 (zx iZ dw)) (bX (fg (aO (dI (zx iZ cn) (aN dq)) (Bk (zx iZ bq) bq))) (bp (ar 5 (om (aO cF (zx (zc 42 (aO bR bk)) cn))))))def kG:SL:=bp (ar 1 (.bin .add false bn (zc 41 (aO (zt (aB bk)) (zx (zx aV bk) dw)))))def iU:SL:=bp (bX (ja (zx (zx bR bq) ff) (zc 37 (aB (zx (zx bk gN) iZ)))) (bp (.expr (.meth .append gE (aB (zt (aO (.bin .add false bn (zt (aB ff))) (.bin .add false bn (zt (aB iZ))))))))))def iT:SL:=bp (gO 8 (.range2 (.bin .add false ff bq) (.bi .len false (aB (zx bk gN)))) iU)def fN:SL:=bp (bX (uf (.comp false (.var 14) (.seq ij) (aB (zc 50 (aO bR (.var 14)))) (.var 14)) vN) (bp (.expr (.meth .append gE (aB (zt (aO Bg bn)))))))def iS:SL:=bp (bX (ja oj ij) (bp (.expr (.meth .append gE (aB (zt (aO Bg (.var 13))))))))def fM:SL:=bp (bX (fg (js (ek oj) (uf oj (zx bk bq)) (zc 43 (js aV bn oj)))) (bp (.forr (.tup [13,10]) (.seq (zc 47 (aO aV qj))) iS)))def pp:Fn:=dy "Lpairs Lprogram_here Lplace Lrow_here Lat Lfunction_here Lkept_here Lfound Li Lj Lthere Lnames_here Lgivers Lname Lother" 3 18 (.cons (ar 3 (zc 48 (aO aV sC))) (.cons (ar 4 (zx aV br)) (.cons (ar 5 (zc 49 (aO bk bR))) (Bh (ar 6 (.list true .nil)) (gO 7 (.seq cF) iT) (.forr (.tup [9,10]) (.seq (zc 47 (aO aV br))) fN) (ar 11 (.comp false (.var 15) (.seq cF) .nil (zt (aO (.bin .add false bn (zt (aB (.var 15)))) (zx (zx bR bq) (.var 15)))))) (ar 11 (.bin .add false (.var 11) (.comp false (.tup [16,17]) (.seq (zc 41 (aO (zt (aB br)) (zx bR dw)))) .nil (zt (aO (.var 16) (zc 39 (aB (.var 17)))))))) (.forr (.tup [9,12]) (.seq (.var 11)) fM) (zr (.freeze gE))))))def tX:Fn:=dy "is_name word" 1 2 (bp (zr (fg (aO (.cmp2 .le .le bq IB (.glob 2)) (.bi .all false (aB (.comp false (.var 1) (.seq aV) .nil (ja bn (.glob 1)))))))))def dl:SL:=.cons (CW 6 10 pA) (.cons (bX (om (js (yc bk cn) (yc vT cn) (Bk (.bin .add false vT bk) (.bi .len false (aB gE))))) (bp (.raise 1 (aB (aN jZ))))) (.cons (ar 7 aV) (.cons (ar 8 bn) (Bh (bX (ek cF) (Bj (bX (.not (.cmp2 .le .le cn bR qj)) (bp (.raise 1 (aB (aN ⟨#[110,111,32,110,117,109,98,101,114,32,102,111,114,32,116,104,101,32,102,117,110,99,116,105,111,110]⟩))))) (bX (ek (zc 15 (aO aV (zx cF cn)))) (bp (.raise 3 (aB (aN fb))))) (ar 7 (.bin .add false (.bin .add false CR (zt (aB cF))) (.slc false aV (aB bR) .nil))) (ar 8 (.bin .add false (zt (aB (.bin .add false qj bq))) Jp)))) (bX (uf (zx br cn) (aN bA)) (bp (.raise 4 (aB (aN wo))))) (ar 9 (zc 15 (aO ff (zx br dw)))) (bX (om (js (CU Bg) (O7 Bg (zx iZ cn)) (uf (.bi .len false (aB (zx br gN))) (.bi .len false (aB (zx (zx ff Bg) bq)))))) (bp (.raise 4 (aB (aN ⟨#[110,111,32,99,97,108,108,32,111,102,32,97,32,102,117,110,99,116,105,111,110,32,97,104,101,97,100]⟩))))) (ar 10 (zc 14 (pF ff iZ bk (zt (aB br))))) (.iteC 24 (aO ij iZ) cn aV (bp (.raise 5 (aB (aN ⟨#[97,110,111,116,104,101,114,32,112,114,111,103,114,97,109]⟩))))) (zr ij)))))def rQ:Fn:=dy "folded program place many row at function rows whole spot number outcome" 6 11 (dl)def eQ:SL:=bp (bX (fg (aO (ek (zc 4 (aB ff))) (gM (zc 4 (aB ff)) bk))) (bp (.put bk (zc 4 (aB ff)) gE)))def gX:SL:=ue (ar 5 (.bin .add false (.slc false aV .nil (aB (.neg bq))) (zt (aB (.bin .add false (zx aV (.neg bq)) br))))) (.forr (.tup [6,7]) (.seq (.bin .add false (.list false (aB (zt (aO cF bR)))) (zc 7 (aO cF (zc 6 (aB bR)))))) eQ)def fD:Fn:=dy "Lkind Lerror Lfound" 1 2 (Bj (ar 1 (.list false (js (.isx 1 aV) (.isx 2 aV) (.isx 3 aV)))) (ar 1 (.bin .add false bn (.list false (js (.isx 4 aV) (.isx 5 aV) (.isx 6 aV))))) (bX (om (js (.not (.isx 0 aV)) (.not (.isx 7 aV)) (uf (.meth .count bn (aB vS)) bq))) (bp (zr (aN ⟨#[115,101,118,101,114,97,108]⟩)))) (zr (zx (.list false (NL (aN gu) (aN bz) (aN kX) (aN bA) (aN gR) (aN eG))) (.meth .index bn (aB vS)))))def jQ:Fn:=dy "Ltold Lprogram_here Lfive Lerror" 2 3 (bp (.tryS (bp (.calls .retL 54 (NL aV qj (zx bn bq) (zx bn dw) (zx bn gN) (zx bn CM)))) [{ k:=6,h:=.tup 2 56 true },{ k:=0,h:=.tup 2 56 false }]))def dX:Fn:=dy "drawn program place many name rows found last both target result parameters call after" 4 15 (.cons (.calls .drop 11 pA) (.cons (ar 4 (.slc false (zc 10 pA) (aB vT) (aB (.bin .add false vT (.bi .max false (aO cn bk)))))) (.cons (bX (om (aO (yc bk bq) (yc (.bi .len false (aB bR)) bk))) (bp (.raise 1 (aB (aN jZ))))) (.cons (bX (.not (zc 52 (aB br))) (bp (.raise 2 (aB (aN ⟨#[110,111,32,110,97,109,101]⟩))))) (.cons (bX (ek (zc 15 (aO aV br))) (bp (.raise 3 (aB (aN fb))))) (.cons (ar 5 (zc 55 (aO bn bR))) (.cons (ar 6 (.bin .add false (.slc false bn .nil (aB (.neg bq))) (zt (aB (.bin .sub false (.bin .add false vT bk) bq))))) (.cons (ar 7 (.comp false (.var 13) (.seq (zc 12 (aO aV gE))) (aB (ja (.var 13) cF)) (.var 13))) (.cons (bX (Bk (.bi .len false (aB ff)) bq) (bp (.raise 6 (aO (zx cF (zx ff cn)) (zx cF (zx ff bq)))))) (.cons (ar 8 .none) (.cons (ar 9 (zt (aO (aN cL) cn))) (Bh (ar 10 (.bi .list true (aB (zc 9 (aB bR))))) (bX (uf ff vN) (qk (ar 8 (zx ff cn)) (ar 9 (zt (aO (aN bz) iZ))) (bX (gM iZ (zc 8 (aB bR))) (bp (.expr (.meth .append ij (aB iZ))))))) (ar 10 (.bi .tuple false (aB (.bi .sortedSet false (aB ij))))) (ar 11 (zt (pF (aN bA) iZ br (.bi .tuple false (aB (.comp false (.var 14) (.seq ij) .nil (zt (aO (aN bz) (.var 14))))))))) (ar 12 (zc 14 (pF aV bn bk (zt (aB (.var 11)))))) (ar 12 (.bin .add false (.bin .add false (.slc false oj .nil (aB qj)) (zt (aB (zt (pF br ij bR Bg))))) (.slc false oj (aB qj) .nil))) (zr (zt (aO oj (.bin .add false (zt (aB (.bin .add false qj bq))) Jp))))))))))))))))def jP:SL:=ue (bX (om (aO (.not (.cmp2 .le .lt cn br IC)) (gM (zx (zx bk br) cn) (zt (aO (aN dq) (aN jE)))))) (bp (zr (.neg bq)))) (ar 2 (zc 40 (aB (zx bk br))))def cX:SL:=qk (ar 2 (.comp false (.var 7) (.seq (zc 44 (aB bn))) (aB (dI (zx (zx ff bq) cn) (aN bA))) ff)) (bX (fg (aO (dI (.bin .mod false (zc 25 (aO aV cn)) gN) cn) (uf bk vN))) (bp (zr (zc 62 (js aV bn bk))))) (.tryS (.cons (bX (fg (aO (dI (.bin .mod false (zc 25 (aO aV cn)) gN) bq) (uf bk vN))) (bp (.calls .ret 24 (aO bn (zx Jr cn))))) (Bh (ar 2 (zc 44 (aB bn))) (bX (dI bk vN) (bp (zr .none))) (ar 3 (zx Jr cn)) (ar 4 (zx (.comp false (.var 8) (.seq (zc 27 (aO (zc 25 (aO aV gN)) (.int 24)))) (aB (gM iZ (.comp false (.var 9) (.seq bn) .nil (zx Bg cn)))) iZ) cn)) (ar 5 (.bin .add false bq (.bin .mod false (zc 25 (aO aV dw)) (.bin .sub false (zc 61 (aO bn br)) (zx br (.neg bq)))))) (CW 6 59 (pF bn br cF bR)) (.calls .ret 24 (aO (zx gE cn) (zx gE bq))))) [{ k:=0,h:=.none }])def cB:SL:=.cons (.asgT [3,4,5,6,7] bn) (.cons (ar 8 (.bin .mod false (.bin .fdiv false bk (.int 9)) (.bin (.pow ()) false (.int 10) (.int 20)))) (.cons (ar 9 (.list false (vO (.bin .add false (.slc false br .nil (aB (.neg bq))) (zt (aB (.bin .sub false (.neg bq) iZ)))) (zt .nil) (.slc false br .nil (aB bq)) (zt (aO (.bin .add false IB iZ) cn)) (.bin .add false br (zt (aB cn)))))) (.cons (ar 10 (.list true (aO (zt (vO br (.bin .add false (.bin .add false bR (.int 200)) iZ) cF gE ff)) (zt (vO (zx Bg (.bin .mod false (.bin .fdiv false bk (.int 11)) (.int 5))) bR cF gE ff))))) (.cons (.expr (.meth .append ij (aB (zt (vO br bR cF (zx (.list false (aO (.bin .add false (.bin .add false (zx br cn) bq) iZ) (.bin .sub false (.neg bq) iZ))) (.bin .mod false (.bin .fdiv false bk (.int 9)) dw)) ff))))) (.cons (.expr (.meth .append ij (aB (zt (vO br bR (zx (.list false (aO (zt (aO (aN mt) (zt (aO (aN cL) bq)))) (zt (js (aN iu) (aN NM) (zt (aO (aN cL) bq)))))) (.bin .mod false iZ dw)) gE ff))))) (.cons (.expr (.meth .append ij (aB (zt (vO br bR (.bin .add false (.slc false cF .nil (aB gN)) (zt (aB (.bin .add false (zx cF gN) (zt (aB (zt (aO (aN cL) (.int 5))))))))) gE ff))))) (.cons (ar 11 (.comp false (.var 13) (.seq (.slc false aV (aB (zx br cn)) .nil)) (aB (dI (.bi .len false (aB (zx (.var 13) bq))) (.bi .len false (aB (zx cF gN))))) (zx (.var 13) cn))) (.cons (ar 12 (zt (aB (zx (.bin .add false (.list false (aB (aN iR))) (.var 11)) (.bin .mod false iZ (.bin .add false bq (.bi .len false (aB (.var 11))))))))) (Bh (.expr (.meth .append ij (aB (zt (vO br bR (.bin .add false (.bin .add false (.slc false cF .nil (aB dw)) oj) (.slc false cF (aB gN) .nil)) gE ff))))) (.expr (.meth .append ij (aB (zt (vO br (.bin .sub false (.neg bq) iZ) cF gE ff))))) (.expr (.meth .append ij (aB (zt (vO br (.bi .max false (aO cn (.bin .sub false (.bin .add false bR bq) (.bin .mul false dw (.bin .mod false iZ dw))))) cF gE ff))))) (.expr (.meth .append ij (aB (zt (vO br bR (.bin .add false (.bin .add false (.slc false cF .nil (aB bq)) (zt (aB (zx (.list false (aO (aN iR) .none)) (.bin .mod false iZ dw))))) (.slc false cF (aB dw) .nil)) gE ff))))) (.expr (.meth .append ij (aB (zt (vO br bR (.bin .add false (.slc false cF .nil (aB gN)) (zt (aB (.bi .tuple false (aB (.comp false (.var 14) (.seq (zx cF gN)) .nil (zt (aO (aN cL) (.int 7))))))))) gE ff))))) (bX (ek ff) (bp (.expr (.meth .append ij (aB (zt (vO br bR cF gE (.bin .add false (zt (aB (zx (zx aV (.bin .mod false iZ IB)) cn))) (.slc false ff (aB bq) .nil))))))))) (zr (zx ij (.bin .mod false bk (.bi .len false (aB ij))))))))))))))def rP:Fn:=dy "Lbent Lprogram_here Lfive Lcell_here Lplace Lmany Lrow_here Lat Lfunction_here Lfar Lnone Lsome Lmany_of Lother" 3 15 (cB)def cW:SL:=.cons (.asgT [2,3,4,5,6] bn) (.cons (bX (om (pF (yc (zc 61 (aO aV bk)) cn) (yc (zx bk (.neg bq)) cn) (yc br cn) (Bk (.bin .add false (zx bk (.neg bq)) br) (zc 61 (aO aV bk))))) (bp (zr (.list false (aB (zt (aB (aN gu)))))))) (.cons (ar 7 bk) (.cons (ar 8 aV) (.cons (bX (ek gE) (Bj (bX (om (aO (yc cF cn) (Bk cF (zx bk cn)))) (bp (zr (.list false (aB (zt (aB (aN gu)))))))) (bX (ja (zx gE cn) (.comp false (.var 11) (.seq aV) .nil (zx (.var 11) cn))) (bp (zr (.list false (aB (zt (aB (aN kX)))))))) (ar 7 (.bin .add false (zt (aB (.bin .add false (zx bk cn) bq))) (.slc false bk (aB bq) .nil))) (ar 8 (.bin .add false (.bin .add false (.slc false aV .nil (aB cF)) (zt (aB gE))) (.slc false aV (aB cF) .nil))))) (Bh (ar 9 (.comp false (.var 12) (.seq (.slc false iZ .nil (aB (zx ff cn)))) (aB (fg (js (dI (zx bR cn) (aN bA)) (dI (zx oj cn) (zx bR dw)) (dI (.bi .len false (aB (zx oj bq))) (.bi .len false (aB (zx bR gN))))))) oj)) (bX (dI Bg vN) (bp (zr (.list false (aB (zt (aB (aN bA)))))))) (ar 8 (zc 46 (pF iZ ff br (zt (aB bR))))) (ar 10 (zc 51 (js iZ ff bR))) (bX (uf ij vN) (bp (zr (.comp false (.tup [13,14]) (.seq ij) .nil (zt (js (aN eG) (.var 13) (.var 14))))))) (bX (uf (zc 53 (js iZ ff bR)) aV) (bp (zr (.list false (aB (zt (aB (aN gR)))))))) (zr (.list false (aO iZ ff))))))))def oK:Fn:=dy "Ldue Lprogram_here Lfive Lplace Lmany Lrow_here Lat Lfunction_here Lthere Lfound Lsome Lpairs_here" 2 15 (cW)def xU:SL:=.cons (ar 1 (zc 63 (aO aV (zc 36 (aO aV (.int 5)))))) (.cons (bX (CU bn) (bp (zr vS))) (.cons (.asgT [2,3] bn) (Bh (bX (dI (.bin .mod false (.bin .fdiv false (zc 25 (aO aV cn)) gN) dw) bq) (bp (ar 3 (zc 64 (js bk br (zc 25 (aO aV CM))))))) (ar 4 (zc 65 (aO bk br))) (ar 5 (zc 58 (aO bk br))) (bX (.bi (.isinst .str) false (aB (zx (zx bR cn) cn))) (bp (zr (uf (.comp false (.var 8) (.seq bR) (aB (zc 57 (aO cF iZ))) iZ) vN)))) (bX (om (aO (.not (.bi (.isinst .list) false (aB cF))) (.not (zc 57 (aO (zx cF cn) (zx bR cn)))))) (bp (zr (.bool false)))) (.asgT [6,7] (zc 24 (aO (zx cF cn) (zx bR bq)))) (zr (fg (aO (zc 57 (aO gE bk)) (zc 57 (aO (.slc false ff .nil (aB gN)) (.slc false br .nil (aB gN))))))))))def f_law:Fn:=dy "law Lscript Lmade Lprogram_here Lfive Ldue_here Lfound Ltold_here Lback" 1 9 (xU)def y0:List Fn:=[dy "gather term found" 2 2 (bp (.ite (dI vR (aN bz)) (bp (bX (gM pC bn) (bp (.expr (.meth .append bn (aB pC)))))) (bp (bX (uf vR (aN cL)) (ue (.expr (zc 0 (aO pC bn))) (.expr (zc 0 (aO (zx aV dw) bn)))))))),dy "names_in term found" 1 2 (qk (ar 1 (.list true .nil)) (.expr (zc 0 pA)) (zr (.freeze bn))),dy "own_terms row" 1 1 (Bj (bX (dI vR (aN iu)) (bp (zr (.list false (aB (zx aV dw)))))) (bX (om (aO (dI vR (aN mt)) (dI vR (aN jE)))) (bp (zr (.list false (aB pC))))) (bX (dI vR (aN bA)) (bp (zr (.bi .list false (aB (zx aV gN)))))) (zr vN)),dy "own_names row found term name" 1 4 (qk (ar 1 .dict0) (gO 2 (.seq (zc 2 (aB aV))) ma) (zr (.bi .list false (aB bn)))),dy "own_set row" 1 1 (LY),dy "has_rows row" 1 1 (bp (zr (om (aO (dI vR (aN jE)) (dI vR (aN dq)))))),dy "rows_within row" 1 1 (ue (bX (zc 5 (aB aV)) (bp (zr (zx aV dw)))) (zr (zt .nil))),dy "walked at rows found number row" 2 5 (qk (ar 2 (.list true .nil)) (.forr (.tup [3,4]) (.enum bn) mB) (zr (.freeze bk))),dy "surely_in rows found row" 1 3 (qk (ar 1 .dict0) (gO 2 (.seq aV) fL) (zr bn)),dy "first_in rows found known row names name" 1 6 (Bj (ar 1 .dict0) (ar 2 .dict0) (gO 3 (.seq aV) cP) (zr bn)),dy "tuple_at program place rows number" 2 4 (Bj (bX (om (aO (yc CT dw) (.not (.cmp2 .le .lt cn qj IB)))) (bp (.raise 1 (aB (aN lX))))) (ar 2 (zx (zx aV qj) dw)) (gO 3 (.seq Jq) jM) (zr bk)),dy "row_at program place rows" 2 3 (qk (CW 2 10 pA) (bX (.not (.cmp2 .le .lt cn vT IC)) (bp (.raise 1 (aB (aN ⟨#[110,111,32,114,111,119,32,115,116,97,110,100,115,32,116,104,101,114,101]⟩))))) (zr (zx bk vT))),dy "needed program place function rows names depth behind sure row" 2 10 (NU (.calls .drop 11 pA) (ar 2 (zx aV qj)) (ar 3 sC) (ar 4 (zc 1 (aB (zx bk gN)))) (gO 5 (.range2 bq CT) jO) (zr (.bi .sortedSet false (aB bR)))),dy "with_rows_in rows path many news at row" 4 6 (Bj (ar 4 qj) OK (ar 5 (zx aV bR)) (zr (.bin .add false (.bin .add false CR (zt (aB (zt (js (zx cF cn) (zx cF bq) (zc 13 (pF (zx cF dw) Jp bk br))))))) Js))),dy "with_rows program place many news name parameters rows result function" 4 9 (qk (.asgT [4,5,6,7] (zx aV qj)) (ar 8 (zt (pF bR cF (zc 13 (pF gE Jp bk br)) ff))) (zr (.bin .add false (.bin .add false (.slc false aV .nil (aB qj)) (zt (aB iZ))) (.slc false aV (aB (.bin .add false qj bq)) .nil)))),dy "number_of program name number function" 2 4 (ue (.forr (.tup [2,3]) (.enum aV) dM) (zr .none)),dy "numbers_set row function" 2 4 (bp (zr (.comp false (.tup [2,3]) (.enum (zx bn bq)) (aB (uf (zx (zx aV gN) bk) (zt (aO (aN bz) br)))) bk))),dy "rows_put row function news" 2 4 (qk (ar 2 (.bin .add false (.bi .tuple false (aB (.comp false (.var 3) (.seq (zc 16 pA)) .nil (zt (js (aN iu) (zx (zx bn bq) br) (zx (zx aV gN) br)))))) (zx bn dw))) OL (zr bk)),dy "term_clash place row function k other" 3 5 (ue (gO 3 (.seq (zc 16 (aO bn bk))) kA) (zr .none)),dy "bare_clash program place number parameters rows result sure names bare spot row" 3 14 (Bh (.asgT [3,4,5] (.slc false (zx aV bk) (aB bq) .nil)) (ar 6 (zc 8 (aB bR))) (ar 7 (.bin .add false (.bi .list false (aB (zc 9 (aB bR)))) (.comp false (.var 11) (.seq (zc 1 (aB cF))) (aB (gM (.var 11) gE)) (.var 11)))) (ar 8 (.comp false (.var 12) (.seq ff) (aB (gM oj br)) oj)) (bX (dI iZ vN) (bp (zr .none))) (.forr (.tup [9,10]) (.seq (zc 7 (aO (zt (aB bk)) bR))) g7) (zr (zt (aO (zt (aO bk (.bi .len false (aB bR)))) bn)))),dy "setters place row number function found k spot one" 4 8 (Jt (ar 4 .dict0) (gO 5 (.seq (zc 16 (aO bn br))) ph) (.forr (.tup [6,7]) (.seq (zc 7 (aO (zt (aB bk)) (zx br dw)))) kB) (.expr (.meth .pop bR (aO (zx bn bq) .none))) (zr bR)),dy "reader program place name rows result spots spot" 3 9 (Jt (.asgT [3,4] (.slc false (zx aV qj) (aB dw) .nil)) (ar 5 (.comp true (.tup [7,8]) (.seq (zc 7 (aO (zt (aB qj)) br))) (aB (ja bk (zc 3 (aB iZ)))) ff)) (bX (ja bk (zc 1 (aB bR))) (bp (.expr (.meth .append cF (aB (zt (aO qj (.bi .len false (aB br))))))))) (gO 6 (.seq cF) jN) (zr (zx cF cn))),dy "lost_clash program place row number found name" 4 6 (qk (ar 4 (zc 20 (pF bn bk br (zx aV br)))) (gO 5 (.seq (zc 12 pA)) gY) (zr .none)),dy "is_called program name function spot row" 2 5 (ue (gO 2 (.seq aV) me) (zr (.bool false))),dy "put program place row number function clash news after" 2 8 (.cons (CW 2 11 pA) (.cons (bX (uf (zx bk cn) (aN bA)) (bp (.raise 4 (aB (aN wo))))) (.cons (ar 3 (zc 15 (aO aV sC))) (.cons (ar 4 (zx aV br)) (.cons (ar 5 (zc 18 (js bn bk bR))) (.cons (bX (CU cF) (bp (ar 5 (zc 19 (js aV bn br))))) (Bh (bX (CU cF) (bp (CW 5 22 (pF aV bn bk br)))) (bX (ek cF) (bp (.raise 6 (aO (zx cF cn) (zx cF bq))))) (ar 6 (zc 17 (aO bk bR))) (ar 7 (zc 14 (pF aV bn bq gE))) (bX (zc 23 (aO ff sC)) (bp (zr (zt (aO ff (zt (vO bn (.bi .len false (aB gE)) bk br .none))))))) (ar 7 (.bin .add false (.slc false ff .nil (aB br)) (.slc false ff (aB (.bin .add false br bq)) .nil))) (zr (zt (aO ff (zt (vO (.bin .add false (zt (aB (.bin .sub false qj bq))) Jp) (.bi .len false (aB gE)) bk br bR)))))))))))),dy "Lcell Lscript Lk Lcell_here Lmark" 2 4 sm,dy "Lmixed Lcell_here Lk Lmark" 2 3 (ue (ar 2 (.bin .mod false (.bin .add false (.bin .mul false aV (.int 48271)) (.bin .mul false (.bin .add false bn bq) (.int 1299721))) (.int 2147483647))) (zr (.bin .mod false (.bin .mul false bk (.bin .add false (.bin .mod false (.bin .fdiv false bk (.int 7)) (.int 65536)) gN)) (.int 2147483647)))),dy "Lwords Lcell_here Lmany Lletters Lbase Lat" 2 7 (Jt (ar 2 (aN az)) (ar 3 (.bin .mul false (zx bk (.bin .mod false aV (.int 26))) (.bin .add false bq (.bin .mod false (.bin .fdiv false aV (.int 26)) (.int 8))))) (ar 4 (.bin .mod false (.bin .fdiv false aV (.int 208)) (.bi .len false (aB br)))) (bX (dI (.bin .mod false (.bin .fdiv false aV (.int 1664)) gN) bq) (bp (zr (.comp false (.var 5) (.range bn) .nil (.bin .mul false (zx bk (.bin .mod false aV (.int 26))) (.bin .add false bq cF)))))) (zr (.comp false (.var 6) (.range bn) .nil (.bin .add false (.bin .add false (.slc false br .nil (aB bR)) (zx bk (.bin .mod false (.bin .add false (.bin .fdiv false aV (.int 4992)) (.bin .mul false (.int 5) gE)) (.int 26)))) (.slc false br (aB (.bin .add false bR bq)) .nil))))),dy "Lterm Lcell_here Lwords_here Ldeep Lkind_here Lword" 3 5 (NU (ar 3 (.bin .mod false aV CV)) (bX (dI br cn) (bp (zr (zt (aO (aN cL) (.bin .mod false CQ gN)))))) (bX (dI br bq) (bp (zr (zt (aO (aN cL) (.bin .mod false CQ (.int 1000003))))))) (bX (om (aO (yc br CM) (dI bk cn))) (bp (zr (zt (aO (aN bz) (zx bn (.bin .mod false CQ CT))))))) (ar 4 (zx (.list false (js (aN Ab) (aN uB) (aN pZ))) (.bin .mod false CQ gN))) (zr (zt (js bR (zc 28 (js (zc 26 (aO aV bq)) bn (.bin .sub false bk bq))) (zc 28 (js (zc 26 (aO aV dw)) bn (.bin .sub false bk bq))))))),dy "Lgiven Lcell_here Lwords_here Lname" 3 3 (ue (bX (dI (.bin .mod false aV dw) cn) (bp (zr (zt (aO (aN bz) bk))))) (zr (zc 28 (js (.bin .fdiv false aV dw) bn bq)))),dy "Lcall Lcell_here Lwords_here Lheads Lhead Lterms Ltarget_here" 3 7 (Bj (ar 3 (zx bk (.bin .mod false (.bin .fdiv false aV (.int 7)) IC))) (ar 4 (.comp false (.var 6) (.range (.bi .len false (aB (zx br bq)))) .nil (zc 29 (js (zc 26 (aO aV (.bin .add false (.int 10) gE))) bn (zx (zx br bq) gE))))) (ar 5 (.ite (dI (.bin .mod false aV gN) cn) .none (zx bn (.bin .mod false (.bin .fdiv false aV (.int 49)) CT)))) (zr (zt (pF (aN bA) cF (zx br cn) (.bi .tuple false (aB bR)))))),dy "Lrow Lcell_here Lwords_here Lheads Ldeep Lkind_here Lrest Lword Lfew Lrows_here Lcount" 4 10 (.cons (ar 4 (.bin .mod false aV (.int 9))) (.cons (ar 5 (zc 26 (aO aV gN))) (Bh (ar 6 (zx bn (.bin .mod false (.bin .fdiv false aV (.int 9)) CT))) (ar 7 (.slc false bk .nil (aB (.bin .add false bq (.bi .int false (aB (dI (.bin .mod false (.bin .fdiv false aV (.int 3645)) (.int 8)) bq))))))) (bX (om (aO (dI bR dw) (dI bR (.int 8)))) (bp (zr (zt (aO (aN mt) (zc 28 (js cF bn dw))))))) (bX (fg (js (yc dw bR) (yc bR CV) (uf bk vN))) (bp (zr (zc 30 (js cF bn bk))))) (bX (fg (aO (dI bR CV) (Bk br cn))) (ue (ar 8 L4) (zr (zt (js (aN jE) (zc 28 (js (zc 26 (aO aV CM)) bn bq)) iZ))))) (bX (fg (aO (dI bR (.int 7)) (Bk br cn))) (qk (ar 9 (zx (.list false (pF dw bq dw cn)) (.bin .mod false (.bin .fdiv false aV (.int 27)) CM))) (bX (fg (aO (dI bk vN) (dI br dw))) (bp (ar 9 (zx (.list false (vO dw gN bq (.bin .mod false (.bin .fdiv false aV (.int 135)) (.int 10)) cn)) (.bin .mod false (.bin .fdiv false aV (.int 27)) (.int 5)))))) (zr (zt (js (aN dq) Bg L4))))) (zr (zt (js (aN iu) gE (zc 28 (js cF bn (.bin .add false bq (.bin .mod false bR dw)))))))))),dy "Lrows Lcell_here Lwords_here Lheads Ldeep Lmany" 5 6 (bp (zr (.bi .tuple false (aB (.comp false (.var 5) (.range bR) .nil (zc 31 (pF (zc 26 (aO aV (.bin .add false (.int 20) cF))) bn bk br))))))),dy "Llooped Lprogram_here Lcell_here Lname Lnames_here Lrows_here Lresult Lk" 2 7 (Bj (bX (om (aO (dI (.bin .mod false bn dw) cn) (dI (zx (zx aV (.neg bq)) dw) (zt .nil)))) (bp (zr aV))) (.asgT [2,3,4,5] (zx aV (.neg bq))) (bX (dI (.bin .mod false (.bin .fdiv false bn CM) CM) bq) (bp (gO 6 (.range CV) kF))) (zr (.bin .add false (.slc false aV .nil (aB (.neg bq))) (zt (aB (zt (pF bk br (zt (aB (zt (js (aN dq) (.bin .add false dw (.bin .mod false (.bin .fdiv false bn dw) dw)) bR)))) cF))))))),dy "Lfunction Lcell_here Lname Lwords_here Lheads Lfirst Lnames_here Lmany Lrows_here" 4 9 (Bh (ar 4 (.bin .mod false CQ IC)) (ar 5 (.bi .tuple false (aB (.comp false (.var 8) (.range (zx (.list false (NL cn bq dw dw gN CM)) (.bin .mod false aV CV))) .nil (zx bk (.bin .mod false (.bin .add false bR (.bin .mul false dw iZ)) IC)))))) (ar 6 (zx (.list false (NL gN CM dw (.int 5) cn CV)) (.bin .mod false (.bin .fdiv false aV (.int 30)) CV))) (bX (dI (.bin .mod false (.bin .fdiv false aV (.int 180)) (.int 12)) bq) (bp (ar 6 (.bin .mod false (.bin .fdiv false aV (.int 2160)) (.int 30))))) (bX (Bk gE CV) (bp (ar 3 vN))) (ar 7 (zc 32 (vO (zc 26 (aO aV (.int 5))) bk br (.bin .sub false dw (.bi .int false (aB (Bk gE CV)))) gE))) (zr (zt (pF bn cF ff (zc 28 (js (zc 26 (aO aV CV)) bk bq)))))),dy "Lvariables Lscript Lat" 2 2 (bp (zr (zc 27 (aO (zc 25 pA) (.bin .add false (.int 5) (.bin .mul false dw (.bi .int false (aB (dI (.bin .mod false (.bin .fdiv false LX (.int 512)) (.int 8)) bq))))))))),dy "Lprogram Lscript Lat Lwords_here Lnames_here Lprogram_here Lcount Lk Lfunction_here" 2 8 (Bh (ar 2 (zc 35 pA)) (ar 3 (zc 27 (aO (zc 25 (aO aV (.bin .sub false (.bin .add false bn bq) (.bi .int false (aB (dI (.bin .mod false (zc 25 (aO aV (.bin .add false bn bq))) (.int 8)) gN)))))) (.int 8)))) (ar 4 (zt .nil)) (ar 5 (.bin .add false bq (.bin .mod false (.bin .add false LX dw) CM))) (bX (dI (.bin .mod false (.bin .fdiv false LX (.int 64)) (.int 8)) bq) (bp (ar 5 (.bin .add false cF CM)))) (gO 6 (.range cF) cU) (zr (zc 33 (aO bR (.bin .fdiv false LX CM))))),dy "Lnames Lterm_here" 1 1 (qk (bX (dI vR (aN bz)) (bp (zr (.list false (aB pC))))) (bX (dI vR (aN cL)) (bp (zr vN))) (zr (.bin .add false (zc 37 (aB pC)) (zc 37 (aB (zx aV dw)))))),dy "Lown Lrow_here Lterms Lfound Lterm_here" 1 4 (Bh (bX (dI vR (aN dq)) (bp (zr vN))) (ar 1 (.list false (aB pC))) (bX (dI vR (aN iu)) (bp (ar 1 (.list false (aB (zx aV dw)))))) (bX (dI vR (aN bA)) (bp (ar 1 (.bi .list false (aB (zx aV gN)))))) (ar 2 vN) (gO 3 (.seq bn) kE) (zr bk)),dy "Ltarget Lrow_here" 1 1 (LY),dy "Lblock Lrow_here" 1 1 (ue (bX (om (aO (dI vR (aN jE)) (dI vR (aN dq)))) (bp (zr (zx aV dw)))) (zr (zt .nil))),dy "Lplaces Lplace Lrows_here Lfound Lat" 2 4 (qk (ar 2 (.list true .nil)) (gO 3 (.range CT) gZ) (zr (.freeze bk))),dy "Lscan Lrows_here Lname Lread Lrow_here Ltold_here" 2 5 (qk (ar 2 (.bool false)) (gO 3 (.seq aV) gy) (zr (zt (aO bk vS)))),dy "Lneeded Lprogram_here Lplace Lname Lfunction_here Lrows_here Llater Lat Ltold_here Lrow_here" 3 9 (NU (ar 3 (zx aV qj)) (ar 4 (zx br dw)) (ar 5 (ja bk (zc 37 (aB (zx br gN))))) (gO 6 (.seq Jq) g6) (ar 7 (zc 42 (aO (.slc false bR (aB (.bin .add false vT bq)) .nil) bk))) (zr (om (aO (zx ff cn) (fg (aO (zx ff bq) cF)))))),dy "Lall Lprogram_here Lfound Lnumber_here" 1 3 (qk (ar 1 vN) (gO 2 (.range IB) kG) (zr bn)),dy "Lwithin Lrows_here Lsteps Lmany Lothers Lat Lrow_here Linner" 4 7 (Jt (ar 4 qj) OK (ar 5 (zx aV bR)) (ar 6 (zc 45 (pF (zx cF dw) Jp bk br))) (zr (.bin .add false (.bin .add false CR (zt (aB (zt (js (zx cF cn) (zx cF bq) gE))))) Js))),dy "Lwith Lprogram_here Lplace Lmany Lothers Lat Lfunction_here Lrows_here Lmade" 4 8 (Jt (ar 4 qj) (ar 5 (zx aV bR)) (ar 6 (zc 45 (pF (zx cF dw) Jp bk br))) (ar 7 (zt (pF (zx cF cn) (zx cF bq) gE (zx cF gN)))) (zr (.bin .add false (.bin .add false CR (zt (aB ff))) Js))),dy "Lreaders Lprogram_here Lnumber_here Lfunction_here Lfound" 2 6 (qk (ar 2 (zx aV bn)) (ar 3 (.comp false (.tup [4,5]) (.seq (zc 41 (aO (zt (aB bn)) sC))) .nil (zt (aO bR (zc 38 (aB cF)))))) (zr (.bin .add false br (.list false (aB (zt (aO (zt (aO bn (.bi .len false (aB sC)))) (zc 37 (aB (zx bk gN)))))))))),dy "Lnumber Lprogram_here Lname" 2 3 (bp (zr (.meth .index (.comp false (.var 2) (.seq aV) .nil (zx bk cn)) (aB bn)))),dy "Lkept Lrow_here Lfunction_here" 2 3 (bp (zr (.comp false (.var 2) (.range (.bi .len false (aB (zx aV gN)))) (aB (uf (zx (zx aV gN) bk) (zt (aO (aN bz) (zx (zx bn bq) bk))))) bk))),dy "Lbare Lfunction_here Lname Ltold_here" 2 3 (ue (ar 2 (zc 42 (aO (zx aV dw) bn))) (zr (fg (aO (gM bn pC) (om (aO (zx bk cn) (fg (aO (zx bk bq) (ja bn (zc 37 (aB (zx aV gN)))))))))))),pp,tX,dy "Lput Lprogram_here Lplace Lrow_here Lat Lfound" 3 6 (Bj (ar 3 (zc 48 (aO aV sC))) (ar 4 (zc 46 (pF aV bn bq (zc 60 (aO bk (zx aV br)))))) (bX (uf (.comp false (.var 5) (.seq (zc 44 (aB bR))) (aB (fg (aO (dI (zx (zx cF bq) cn) (aN bA)) (dI (zx (zx cF bq) dw) sC)))) cF) vN) (bp (zr bR))) (zr (.bin .add false (.slc false bR .nil (aB br)) (.slc false bR (aB (.bin .add false br bq)) .nil)))),rQ,dy "setters_in place rows found k row spot where one" 2 8 (qk (ar 2 .dict0) (.forr (.tup [3,4]) (.enum bn) gX) (zr bk)),fD,dy "Lalike Lfound Ldue_here" 2 3 (qk (bX (.bi (.isinst (.tuple ())) false (aB bn)) (ue (bX (om (aO (.not (.bi (.isinst (.tuple ())) false (aB aV))) (uf IB CT))) (bp (zr (.bool false)))) (zr (.not (.comp false (.var 2) (.range CT) (aB (.not (zc 57 (aO (zx aV bk) (zx bn bk))))) bk))))) (bX (om (aO (CU bn) (.bi (.isinst .str) false (aB bn)))) (bp (zr (fg (aO (dI aV bn) (dI (.bi (.isinst .str) false (aB aV)) (.bi (.isinst .str) false (aB bn)))))))) (zr (fg (js (.bi (.isinst .int) false (aB aV)) (.not (.bi (.isinst .bool) false (aB aV))) (dI aV bn))))),jQ,dX,dy "Lrows_of Lrow_here Lfunction_here Lrows_here" 2 4 (qk (ar 2 (.bin .add false (.bi .tuple false (aB (.comp false (.var 3) (.seq (zc 49 pA)) .nil (zt (js (aN iu) (zx (zx bn bq) br) (zx (zx aV gN) br)))))) (zx bn dw))) OL (zr bk)),dy "Lleft Lprogram_here Lplace Lrows_here Lat" 2 4 (Bj (bX (om (aO (yc CT dw) (.not (.cmp2 .le .lt cn qj IB)))) (bp (zr (.neg bq)))) (ar 2 (zx (zx aV qj) dw)) (gO 3 (.seq Jq) jP) (zr IC)),dy "Lwritten Lscript Lprogram_here Lpairs_here Lplace Lrow_here Lrows_here" 3 6 (qk (.asgT [3,4] Jr) (ar 5 (zc 60 (aO bR (zx bn (zc 48 (aO bn (zx bR dw))))))) (zr (zt (aO (zc 46 (pF bn br cn cF)) (zt (vO br (.bi .len false (aB cF)) bR (.bin .sub false (.bin .mod false (zc 25 (aO aV dw)) (.bin (.pow ()) false (.int 10) (.int 20))) (.int 9)) .none)))))),dy "Lchanged Lscript Lprogram_here Lpairs_here Lplace Lname Lmany Lmade" 2 10 cX,rP,oK,f_law]noncomputable def Nb:Nat->Option PyData
 |2=>some (.int 8)
 |1=>some (.str ⟨#[97,98,99,100,101,102,103,104,105,106,107,108,109,110,111,112,113,114,115,116,117,118,119,120,121,122]⟩)
 |_=>(none)def prog:Prog:={ G:=Nb,P:=λn=>y0[n]? }noncomputable abbrev pc(d i:Nat)(a:List V)(U:ac)(v:V):Prop:=aj prog d i a U=.ok v (U)noncomputable def iJ(l:List Int)(k:Nat):Int:=(l[k]?).getD 0
noncomputable def Eb(c k:Int):Int:=(c % 2147483629+7919 * (k+1)) * 48271 % 2147483647
noncomputable def Ec(m:Int):Int:=m * m % 2147483629 * 69621 % 2147483647
def bG(l:List Int)(k:Nat):Int:=(iJ l k / 2147483629 * 2147483647+Ec (Eb (iJ l k) k)) * 2147483629+Ec (Eb (iJ l k) k) * Ec (Eb (iJ l k) k) % 2147483629
theorem o0(h:n<=d):∃e,d=e+n:=⟨d - n,(Nat.sub_add_cancel h).symm⟩theorem jI(d:Nat){a b:Nat}(h:a < b):a < d+b:=Qr h (P7 b d)theorem lG(e:Nat):((e+1:Nat):Int) - 1=(e:Int):=Sy (e:Int) 1
variable {p:Prop}theorem dT[Decidable p](h:p):some (decide p)=some true:=congrArg some (decide_eq_true h)theorem dF[Decidable p](h:¬ p):some (decide p)=some false:=congrArg some (decide_eq_false h)abbrev same(U:ac):U.take U.length=U:=List.take_length
theorem bY(d:Nat)(l:List Int)(k:Nat)(U:ac):pc (d+1) 25 [al (l.map .int),ak k] U (ak (bG l k)):=by
 have first:af prog.G (aj prog d) (.ite (.cmp .lt (.var 1) (.bi .len false (.cons (.var 0) (.nil)))) (.idx (.var 0) (.var 1)) (.int 0)) [al (l.map .int),ak k,.un,.un] U=.ok (ak (iJ l k)) U:=by
   by_cases h:k < l.length
   . exact Mb (Gk (cq rfl rfl rfl) (decide_eq_true (by rw[Pa];exact Qp.mpr h))) (bZ rfl rfl (by rw[jn _ (Qg k)];simp[iJ,h]))
   . refine Mc (Gk (cq rfl rfl rfl) (decide_eq_false (by rw[Pa];exact λq=>h (Qp.mp q)))) ?_;simp only[iJ,Rf (QD h)];rfl
 exact cI rfl rfl (aT (kh first) ((ch prog.G (aj prog d) (tl sm) [al (l.map .int),ak k,ak (iJ l k),.un] U 26960 (LR _ _ (by decide)) (Ob _ _ (by decide) (by decide)) (LR _ _ (by decide)) (LR _ _ (by decide)) ((λ(x:Int)=>LR false U (by decide)) _) (Ob _ _ (by decide) (by decide)))))theorem lF(d:Nat)(l:List Int)(U:ac)(k:Nat)(i:Int)(hi:i=(k:Int)):pc (d+1) 25 [al (l.map .int),ak i] U (ak (bG l k)):=by subst hi;exact bY d l k (U)noncomputable def j4(c k:Int):Int:=(c * 48271+(k+1) * 1299721) % 2147483647 * ((c * 48271+(k+1) * 1299721) % 2147483647 / 7 % 65536+3) % 2147483647
theorem d4(d:Nat)(c k:Int)(U:ac):pc (d+1) 26 [ak c,ak k] U (ak (j4 c k)):=
 (aX prog 26 d [ak c,ak k] U rfl 261 (LR _ _ (by decide)) (LR _ _ (by decide)) (Ob _ _ (by decide) (by decide)) (same U))theorem wO(h:0 < d)(c k:Int)(U:ac):pc d 26 [ak c,ak k] U (ak (j4 c k)):=by obtain⟨e,rfl⟩:∃e,d=e+1:=o0 h;exact d4 e c k U
inductive Tm where
 |num (i:Int)
 |name (x:Str)
 |op (k:Nat) (a b:Tm)noncomputable def Tm.ctorIdx(t:Tm):Nat:=by cases (t);exact 0;exact 1;exact 2
def yE:Nat->Str
 |0=>Ab
 |1=>uB
 |_=>(pZ)def a9:Tm->PyData
 |.num i=>.tuple [.str cL,.int i]
 |.name x=>.tuple [.str bz,.str x]
 |.op k a b=>.tuple [.str (yE k),a9 a,a9 b]noncomputable def ht:Tm->Nat
 |.op _ a b=>max (ht a) (ht b)+1
 |_=>0
theorem tD(k:Nat):yE k=Ab\/yE k=uB\/yE k=pZ:=match k with
 |0=>.inl rfl
 |1=>.inr (.inl rfl)
 |_+2=>.inr (.inr rfl)variable {c:Cell}theorem z9(h:U[n]?=some c):(U.set n c')[n]?=some c':=by have:=(Pz.mp h).1;simp[this]
theorem wj(hc:U[n]?=some c):U.set n c=U:=by
 apply SE;intro k;by_cases hk:n=k
 . subst hk;rw[z9 hc,hc]
 . simp[hk]theorem aK(U:ac)(c:Cell):(U++[c])[U.length]?=some c:=by simp
theorem fU(U:ac)(c c':Cell):(U++[c]).set U.length c'=U++[c']:=by simp
theorem lv(U:ac)(l:List PyData):K7 (.loc U.length) (U++[.lst l])=.ok (al l) (U++[.gone]):=by rw[K6 (aK _ _),fU]theorem z0(n:Nat)(c:Cell):(U.set n c).take U.length=U.set n c:=RB (by simp)variable {i:Int}
theorem Ek(h0:0<=i)(h:i < 26)(U:ac):cK (aA az) (ak i) U=some (aA (aD [97+i.toNat])):=by
 have hl:(aG az).length=26:=by decide
 have ha:∀n,n < 26->(aG az)[n]?=some (97+n):=by decide
 rw[Hs,index,hl,if_pos h0,if_pos (show i < ((26:Nat):Int) from h)];show ((aG az)[i.toNat]?).map _=_;rw[ha _ ((Sl h0).mpr h)];(rfl)theorem eB(l:List Nat):aG (aD l)=l:=by simp[aG,aD]theorem vn(l:List Nat):(aD l).cps.size=l.length:=by simp[aD]theorem Ag(a:Nat):∀n:Nat,(List.replicate n [a]).flatten=List.replicate n a
 |0=>rfl
 |n+1=>by rw[SQ,List.flatten_cons,Ag a n];(rfl)theorem Jh(a:Nat){n:Int}(h0:0<=n)(h:n<=1000)(m:Bool)(U:ac):dj .mul m (aA (aD [a])) (ak n) U=.ok (aA (aD (List.replicate n.toNat a))) U:=by rw[Ly ⟨h0,h,by rw[vn];simp⟩,eB,Ag]theorem tm(l:List B)(lo hi:Option Int):(aC l lo hi).length<=l.length:=by unfold aC;rw[Ql,Qw];exact iv (RM _ _) (Tf _ _)theorem tI{g:Nat->Str}(h:∀i j,i < n->j < n->g i=g j->i=j):((List.range n).map g).Nodup:=by rw[List.Nodup,List.pairwise_map];refine List.Pairwise.imp_of_mem (λ{a b} ha hb hne=>?_) (List.nodup_range);exact λe=>hne (h a b (Rc.mp ha) (Rc.mp hb) e)theorem uR(g:Nat->Str)(n:Nat):(List.range n).map (λk=>PyData.str (g k))=((List.range n).map g).map .str:=by rw[Qv];(rfl)theorem p8:(0:Int) < 8:=by decide
theorem p4:(0:Int) < 4:=by decide
theorem gw:cO none=some none:=(rfl)theorem fu(i:Int):cO (some (ak i))=some (some i):=(rfl)theorem E3:∀i j:Fin 26,(5 * i.val) % 26=(5 * j.val) % 26->i=j:=by decide
theorem G8(m:Int){i:Nat}(hi:i < 26)(hj:j < 26)(h:((m+5 * (i:Int)) % 26).toNat=((m+5 * (j:Int)) % 26).toNat):i=j:=by
 have h3:(m+5 * (i:Int)) % 26=(m+5 * (j:Int)) % 26:=by rw[<- Rb (RZ (m+5 * (i:Int)) (by decide:(26:Int)≠0)),<- Rb (RZ (m+5 * (j:Int)) (by decide:(26:Int)≠0)),h]
 have h4:((5 * i:Nat):Int) % ((26:Nat):Int)=((5 * j:Nat):Int) % ((26:Nat):Int):=Int.emod_add_cancel_left.mp h3;rw[<- Int.natCast_emod,<- Int.natCast_emod]at h4;exact congrArg Fin.val (E3 ⟨i,hi⟩ ⟨j,hj⟩ (Sz.mp h4))def IF(base:List Nat)(at' m:Int):Str:=aD (aC base none (some at')++[97+(m % 26).toNat]++aC base (some (at'+1)) none)
theorem kN(n k:Nat):jq n (k:Int)=min k n:=by
 unfold jq;rw[if_neg (RG.mpr (Qg k))];rcases TX k n with h|h
 . rw[SR (QV.mpr h),Sh (Qg _),Qs,Qm h]
 . rw[Int.min_eq_right (QV.mpr h),Sh (Qg _),Qs,Tn h]theorem qA(l:List B)(k:Nat):aC l none (some (k:Int))=l.take k:=by show (l.drop 0).take (jq l.length k - 0)=_;rw[kN,List.drop_zero,Nat.sub_zero,TB,Nat.min_assoc,TY]
theorem mr(l:List B)(k:Nat):aC l (some (k:Int)) none=l.drop k:=by
 show (l.drop (jq l.length k)).take (l.length - jq l.length k)=_;rw[kN,RB (Qk Qw)];rcases TX k l.length with h|h
 . rw[Qm h]
 . rw[Tn h,Si,Tr h]
theorem mP(c many:Int)(hm:0<=many/\many<=26)(d:Nat)(U:ac):∃ws:List Str,A3 (ws.length=many.toNat) (ws.Nodup) (∀(d:Nat) (U:ac),pc (d+1) 27 [ak c,ak many] U (al (ws.map .str))):=by
 have iy:∀σ',cK (aA az) (ak (c % 26)) σ'=some (aA (aD [97+(c % 26).toNat])):=λσ'=>Ek (cQ c (by decide)).1 (cQ c (by decide)).2 σ';have hn:=cQ (c / 26) p8;have ib:=λU=>Jh (97+(c % 26).toNat) (Rv (by decide) hn.1) (QL (SU (R3 hn.2) 1) (by decide)) false U;generalize hbase:List.replicate (1+c / 26 % 8).toNat (97+(c % 26).toNat)=base at ib;have hbl:0 < (((aG (aD base)).length:Nat):Int):=by rw[eB,<- hbase,SI,Rb (Rv (by decide) hn.1)];exact Sr (by decide) (R7 hn.1)
 have hbu:base.length<=8:=by rw[<- hbase,SI];exact Rg.mpr (by rw[S3];exact hn.2)
 have hat:=cQ (c / 208) hbl;rw[eB]at hat;have im:∀U,dj .mod false (ak (c / 208)) (ak ((aG (aD base)).length:Int)) U=.ok (ak (c / 208 % (base.length:Int))) U:=λU=>by rw[ee _ _ hbl,eB]
 generalize c / 208 % (base.length:Int)=at' at im hat;by_cases hk:c / 1664 % 3=1
 . refine⟨(List.range many.toNat).map λ(k:Nat)=>aD (List.replicate (1+(k:Int)).toNat (97+(c % 26).toNat)),by simp,tI λi j _ _ e=>?_,λd U=>?_⟩
   . have:=congrArg (λx=>(aG x).length) e;simp only[eB,SI]at this;lia
   . rw[<- uR];exact(aX prog 27 d [ak c,ak many] U rfl 4386 (iy _) (ib _) (im _) (dT hk) (vW _ rfl ⟨hm.1,QL hm.2 (by decide)⟩ λk hk=>jX (bZ rfl rfl (iy _)) rfl (Jh _ (by lia) (by lia) _ _)) (same U))
 . refine⟨(List.range many.toNat).map λ(k:Nat)=>IF base at' (c / 4992+5 * (k:Int)),by simp,tI λi j hi hj e=>?_,λd U=>?_⟩
   . have:=congrArg aG e;simp only[IF,eB]at this;have:=List.append_cancel_left (List.append_cancel_right this);simp only[List.cons.injEq,and_true]at this;exact G8 (c / 4992) (Qr hi (Rg.mpr hm.2)) (Qr hj (Rg.mpr hm.2)) (Nat.add_left_cancel this)
   . have s1:=tm base none (some at');have s2:=tm base (some (at'+1)) none;have cat:∀(a b:List Nat) (m:Bool) (J:ac),a.length+b.length<=100->dj .add m (aA (aD a)) (aA (aD b)) J=.ok (aA (aD (a++b))) J:=λa b m J h=>by rw[Nz (by rw[vn,vn];unfold LIM;lia),eB,eB]
     rw[<- uR];exact(aX prog 27 d [ak c,ak many] U rfl 4386 (iy _) (ib _) (im _) (dF hk) (vW _ rfl ⟨hm.1,QL hm.2 (by decide)⟩ λk hk=>jX (jX (qp rfl rfl rfl ((λm J=>by rw[zY _ _ gw (fu _),eB]:∀m J,gq m (aA (aD base)) none (some (ak at')) J=.ok (aA (aD (aC base none (some at')))) J) _ _)) (bZ rfl rfl (Ek (cQ _ (by decide)).1 (cQ _ (by decide)).2 _)) (cat _ _ _ _ (by rw[QQ];lia))) (qp rfl rfl rfl ((λm J=>by rw[zY _ _ (fu _) gw,eB]:∀m J,gq m (aA (aD base)) (some (ak (at'+1))) none J=.ok (aA (aD (aC base (some (at'+1)) none))) J) _ _)) (cat _ _ _ _ (by rw[PA,QQ];lia))) (same U))variable {ws:List Str}theorem Gh(h0:0<=i)(h:i < ws.length)(U:ac):∃w:Str,w∈ws/\cK (al (ws.map .str)) (ak i) U=some (aA w):=by have:i.toNat < ws.length:=(Sl h0).mpr h;exact⟨ws[i.toNat],Rn _,by rw[jn _ h0];simp[this]⟩
theorem j7(hw:0 < ws.length)(x:Int)(U:ac):0 < (((ws.map PyData.str).length:Nat):Int)/\∃w:Str,w∈ws/\cK (al (ws.map .str)) (ak (x % ((ws.map PyData.str).length:Int))) U=some (aA w):=by
 have hwl:0 < (((ws.map PyData.str).length:Nat):Int):=by rw[Pa];exact Qp.mpr hw
 have:=cQ x hwl;exact⟨hwl,Gh this.1 (by rw[Pa]at this ⊢;exact this.2) U⟩
theorem Mx(x:Int)(U:ac):∃k:Nat,cK (al [.str Ab,.str uB,.str pZ]) (ak (x % 3)) U=some (aA (yE k)):=by
 have h0:=cQ x (show (0:Int) < 3 by decide);have h2:(x % 3).toNat < 3:=(Sl h0.1).mpr h0.2;rw[jn _ h0.1];generalize (x % 3).toNat=n at h2;exact⟨n,match n,h2 with
   |0,_=>rfl
   |1,_=>rfl
   |2,_=>rfl⟩noncomputable def cJ:Tm->List Str
 |.num _=>[]
 |.name x=>[x]
 |.op _ a b=>cJ a++cJ (b)def T1(ws:List Str)(deep:Nat)(t:Tm):Prop:=(∀x∈cJ t,x∈ws)/\ht t<=deep
theorem oQ(ws:List Str)(deep:Nat)(i:Int):T1 ws deep (.num i):=⟨λ_ h=>(by cases h),PR _⟩theorem oh(deep:Nat)(h:x∈ws):T1 ws deep (.name x):=⟨λ_ q=>PL.mp q▸h,PR _⟩def zL(ws:List Str)(deep:Nat):Prop:=∀(d:Nat) (c:Int) (U:ac),deep+1 < d->∃t,T1 ws deep t/\pc d 28 [.d (.int c),.d (.list (ws.map .str)),.d (.int deep)] U (.d (a9 t))variable {deep:Nat}
theorem zT(hw:0 < ws.length)(H:∀e,deep=e+1->zL ws e):zL ws deep:=by
 intro d c U hd;obtain⟨d,rfl⟩:∃e,d=e+1:=o0 (iv (P7 1 _) hd);obtain⟨hwl,w,hwm,iw⟩:=j7 hw (c / 6) U;have R:=λ(D:Int)=>aX prog 28 d [ak c,al (ws.map .str),ak D] U rfl;by_cases h0:c % 6=0
 . exact⟨.num (c / 6 % 3),oQ ..,(R deep 4 (dT h0) (same U))⟩
 by_cases h1:c % 6=1
 . exact⟨.num (c / 6 % 1000003),oQ ..,(R deep 20 (dF h0) (dT h1) (same U))⟩
 by_cases h4:c % 6 < 4
 . exact⟨.name w,oh _ hwm,(R deep 6548 (dF h0) (dF h1) (dT h4) (dT h4) (ee _ _ hwl) iw (same U))⟩
 cases deep with
 |zero=>exact⟨.name w,oh _ hwm,(R 0 12436 (dF h0) (dF h1) (dF h4) (ee _ _ hwl) iw (same U))⟩
 |succ deep=>obtain⟨k,hk⟩:=Mx (c / 6) U;have hd:=RV hd;obtain⟨a,ha,ea⟩:=H deep rfl d (j4 c 1) U hd;obtain⟨b,hb,eb⟩:=H deep rfl d (j4 c 2) U hd;have hD:((deep+1:Nat):Int)≠0:=λq=>absurd (Sz.mp q) (Tl deep);have hd0:0 < d:=Qr (Ru _) (Qd hd);rw[<- lG deep]at ea eb;generalize ((deep+1:Nat):Int)=D at *;exact⟨.op k a b,⟨λx hx=>(PQ.mp hx).elim (ha.1 x) (hb.1 x),PN (QC.mpr ⟨ha.2,hb.2⟩)⟩,(R D 4756 (dF h0) (dF h1) (dF h4) (dF hD) hk (wO hd0 c 1 U) ea (wO hd0 c 2 U) eb (same U))⟩
theorem ed(ws:List Str)(hw:0 < ws.length):∀deep,zL ws deep
 |0=>zT hw λe h=>by injection h
 |n+1=>zT hw λe h=>by injection h with e;subst e;exact ed ws hw (n)theorem uN:∀t:Tm,(cJ t).length<=2 ^ ht t
 |.num _=>PR _
 |.name _=>P9 _
 |.op _ a b=>by show (cJ a++cJ b).length<=2 ^ (max (ht a) (ht b)+1);rw[PA,Nat.pow_succ,Nat.mul_two];exact Qb (iv (uN a) (SK (by decide) (RA ..))) (iv (uN b) (SK (by decide) (Ro ..)))noncomputable def iq(L:List Str)(x:Str):List Str:=if x∈L then L else L++[x]
theorem FU(L:List Str)(x:Str):(iq L x).length<=L.length+1:=by
 unfold iq;by_cases h:x∈L
 . rw[if_pos h];exact Sj _
 . rw[if_neg h,PA];exact P9 _
theorem FT(L:List Str)(x y:Str):y∈iq L x↔y∈L\/y=x:=by
 unfold iq;by_cases h:x∈L
 . rw[if_pos h];exact⟨.inl,λq=>q.elim id λe=>e▸h⟩
 . rw[if_neg h,PQ,PL]def xg:Tm->List Str->List Str
 |.num _,L=>L
 |.name x,L=>iq L x
 |.op _ a b,L=>xg b (xg a L)theorem uQ{a b:Nat}(h:max a b+1 < d+1):a < d/\b < d:=⟨P6 (RA _ _) (RV h),P6 (Ro _ _) (RV h)⟩theorem rK:∀(t:Tm) (L:List Str),(xg t L).length<=L.length+(cJ t).length
 |.num _=>@λL=>P9 _
 |.name x=>@λL=>FU L x
 |.op _ a b=>@λL=>by show _<=L.length+(cJ a++cJ b).length;rw[PA,<- Qo];exact iv (rK b (xg a L)) (PJ (rK a L) _)
theorem vD(L:List Str)(x:Str):((L.map PyData.str).any λy=>y.eqv (.str x))=decide (x∈L):=by
 induction L with
 |nil=>rfl
 |cons y L ih=>
   rw[Qq,RJ,ih,HV];by_cases h:y=x
   . rw[h,decide_eq_true rfl,decide_eq_true (PF ..)];rfl
   . rw[decide_eq_false h,SM];exact decide_eq_decide.mpr ⟨λq=>PD _ q,λq=>(PM.mp q).resolve_left (Ne.symm h)⟩theorem eR(L:List Str)(x:Str)(U:ac):bC .isIn (aA x) (al (L.map .str)) U=some (decide (x∈L)):=by rw[Ox,Hr,vD]variable {L:List Str}theorem Pn(h:U[n]?=some (.lst (L.map .str)))(x:Str):bC .notIn (aA x) (.loc n) U=some (!decide (x∈L)):=by rw[AY,KO x h,vD];(rfl)theorem An(k:Nat):decide (yE k=cL)=false:=by rcases tD k with h|h|h<;>exact h▸rfl<;>decide
theorem wF(k:Nat):decide (yE k=bz)=false:=by rcases tD k with h|h|h<;>exact h▸rfl<;>decide
theorem FJ(h:U[n]?=some (.lst l))(hl:l.length<=900000)(x:PyData):x9 .append (.loc n) U [.d x] U=.ok (.d .none) (U.set n (.lst (l++[x]))):=by unfold x9;rw[wR h];exact LE h (P6 hl (by decide)) (x)variable {b:Bool}theorem nT(h:b=false):some (!b)=some true:=congrArg (λb=>some (!b)) (h)theorem nF(h:b=true):some (!b)=some false:=congrArg (λb=>some (!b)) (h)theorem bT(h:b=true):some b=some true:=congrArg some (h)theorem bF(h:b=false):some b=some false:=congrArg some h
theorem kQ(n:Nat):∀(t:Tm) (d:Nat) (U:ac) (L:List Str),ht t < d->U[n]?=some (.lst (L.map .str))->L.length+(cJ t).length<=1000->aj prog d 0 [.d (a9 t),.loc n] U=.ok (.d .none) (U.set n (.lst ((xg t L).map .str)))
 |.num i,0=>@λ_ _ hd _ _=>by cases hd
 |.name i,0=>@λ_ _ hd _ _=>by cases hd
 |.op ..,0=>@λ_ _ hd _ _=>by cases hd
 |.num i,d+1=>@λU L hd hc hl=>by show _=Res.ok (V.d .none) (U.set n (.lst (L.map .str)));rw[wj hc];exact((wu prog 0 d [.d (a9 (.num i)),.loc n] U rfl 0)).trans (nA _ (same U))
 |.name x,d+1=>@λU L hd hc hl=>by
   have ck:=Pn hc x;refine(?_:_=Res.ok (V.d .none) (U.set n (.lst ((iq L x).map .str))));unfold iq;by_cases hx:x∈L
   . rw[if_pos hx,wj hc];rw[decide_eq_true hx]at ck;exact((wu prog 0 d [.d (a9 (.name x)),.loc n] U rfl 16 ck)).trans (nA _ (same U))
   . rw[if_neg hx,PP];rw[decide_eq_false hx]at ck;exact((wu prog 0 d [.d (a9 (.name x)),.loc n] U rfl 16 ck (FJ hc (by rw[Pa];exact iv (QZ hl) (by decide)) _))).trans (nA _ (z0 _ _))
 |.op k a b,d+1=>@λU L hd hc hl=>by have hl:L.length+(cJ a++cJ b).length<=1000:=hl;rw[PA,<- Qo]at hl;have h2:=kQ n b d _ (xg a L) (uQ hd).2 (z9 hc) (iv (PJ (rK a L) _) hl);rw[List.set_set]at h2;exact((wu prog 0 d [.d (a9 (.op k a b)),.loc n] U rfl 36 (bF (wF k)) (nT (An k)) (kQ n a d U L (uQ hd).1 hc (iv (PU _ _) hl)) h2)).trans (nA _ (z0 _ _))def lO(ws:List Str)(t:Tm):Prop:=T1 ws 2 (t)variable {t:Tm}theorem uL(h:lO ws t):(cJ t).length<=4:=iv (uN t) (SK (by decide) h.2)theorem mx(hd:deep<=2)(h:T1 ws deep t):lO ws t:=⟨h.1,iv h.2 hd⟩
structure St(Uc:List Str)(P:Str->Prop):Prop where
 nd:Uc.Nodup
 mem:∀x,x∈Uc↔P x
variable {Uc:List Str}theorem St.few{P:Str->Prop}(h:St Uc P)(w7:ws.length<=8)(hp:∀x,P x->x∈ws):Uc.length<=8:=iv (h.nd.length_le_of_subset λx hx=>hp x ((h.mem x).mp hx)) w7
theorem St.add{P:Str->Prop}(h:St Uc P)(y:Str):St (iq Uc y) λx=>P x\/x=y:=by
 refine⟨?_,λx=>by rw[FT,h.mem x]⟩;unfold iq;by_cases q:y∈Uc
 . rw[if_pos q];exact h.nd
 . rw[if_neg q];exact RF.mpr ⟨h.nd,Th _ y,λa ha b hb e=>q (PL.mp hb▸e▸ha)⟩theorem St.nil:St [] λ_=>False:=⟨SG,λx=>⟨(λh=>by cases h),False.elim⟩⟩theorem St.of{P Q:Str->Prop}(h:St Uc P)(e:∀x,P x↔Q x):St Uc Q:=⟨h.nd,λx=>(h.mem x).trans (e x)⟩
theorem vf:∀(t:Tm) {L:List Str} {P:Str->Prop},St L P->St (xg t L) λx=>P x\/x∈cJ t
 |.num _,L,P,h=>h.of λx=>⟨.inl,λq=>q.elim id λq=>by cases q⟩
 |.name y,L,P,h=>(h.add y).of λx=>or_congr Iff.rfl PL.symm
 |.op _ a b,L,P,h=>(vf b (vf a h)).of λx=>by show _↔P x\/x∈cJ a++cJ b;rw[PQ,or_assoc]theorem dQ(h:lO ws t)(d:Nat)(U:ac):∃L:List Str,St L (·∈cJ t)/\pc (d+4) 1 [.d (a9 t)] U (al (L.map .str)):=by have e:=kQ U.length t (d+3) (U++[.lst []]) [] (P6 h.2 (jI d (by decide))) (aK _ _) (by rw[Q6,Ri];exact iv (uL h) (by decide));rw[fU]at e;exact⟨xg t [],(vf t St.nil).of λx=>⟨λq=>q.resolve_left id,.inr⟩,(aX prog 1 (d+3) [.d (a9 t)] U rfl 0 e (lv _ _) (cG _ _))⟩theorem kS{a b:List PyData}(h:a.length+b.length<=100000)(U:ac):dj .add false (al a) (al b) U=.ok (al (a++b)) U:=LA (iv h (by decide)) _ (_)theorem ie{a b:List PyData}(h:a.length+b.length<=100000)(U:ac):dj .add false (ah a) (ah b) U=.ok (ah (a++b)) U:=Lz (iv h (by decide)) _ _
theorem mQ:∀(t:Tm) (d:Nat) (U:ac),ht t < d->(cJ t).length<=1000->pc d 37 [.d (a9 t)] U (al ((cJ t).map .str))
 |.num i,0=>@λ_ hd _=>by cases hd
 |.name i,0=>@λ_ hd _=>by cases hd
 |.op ..,0=>@λ_ hd _=>by cases hd
 |.num i,d+1=>@λU hd hl=>(aX prog 37 d [.d (a9 (.num i))] U rfl 0 (same U))
 |.name x,d+1=>@λU hd hl=>(aX prog 37 d [.d (a9 (.name x))] U rfl 0 (same U))
 |.op k a b,d+1=>@λU hd hl=>by have hl:(cJ a++cJ b).length<=1000:=hl;rw[PA]at hl;rw[show cJ (.op k a b)=cJ a++cJ b from rfl,PP];exact(aX prog 37 d [.d (a9 (.op k a b))] U rfl 292 (bF (wF k)) (bF (An k)) (mQ a d U (uQ hd).1 (iv (PU _ _) hl)) (mQ b d U (uQ hd).2 (iv (P7 _ _) hl)) (kS (by rw[Pa,Pa];exact iv hl (by decide)) _) (same U))theorem lI(h:lO ws t)(d:Nat)(U:ac):pc (d+3) 37 [.d (a9 t)] U (al ((cJ t).map .str)):=mQ t (d+3) U (P6 h.2 (jI d (by decide))) (iv (uL h) (by decide))
mutual
inductive Rw where
 |set (x:Str) (t:Tm)
 |tell (t:Tm)
 |call (o:Option Str) (f:Str) (ts:List Tm)
 |whn (t:Tm) (b:RL)
 |aga (n:Int) (b:RL)
inductive RL where
 |nil
 |cons (r:Rw) (b:RL)
end
noncomputable def Rw.ctorIdx(t:Rw):Nat:=by cases (t);exact 0;exact 1;exact 2;exact 3;exact 4
noncomputable def RL.ctorIdx(t:RL):Nat:=by cases (t);exact 0;exact 1
noncomputable def fX:Option Str->PyData
 |none=>.none
 |some x=>.str x
mutual
def aI:Rw->PyData
 |.set x t=>.tuple [.str iu,.str x,a9 t]
 |.tell t=>.tuple [.str mt,a9 t]
 |.call o f ts=>.tuple [.str bA,fX o,.str f,.tuple (ts.map a9)]
 |.whn t b=>.tuple [.str jE,a9 t,.tuple (am b)]
 |.aga n b=>.tuple [.str dq,.int n,.tuple (am b)]def am:RL->List PyData
 |.nil=>[]
 |.cons r b=>aI r::am b
end
mutual
def hR:Rw->Nat
 |.whn _ b=>hL b+1
 |.aga _ b=>hL b+1
 |_=>0
def hL:RL->Nat
 |.nil=>0
 |.cons r b=>max (hR r) (hL b)
end
mutual
def nR:Rw->Nat
 |.whn _ b=>nL b+1
 |.aga _ b=>nL b+1
 |_=>1
def nL:RL->Nat
 |.nil=>0
 |.cons r b=>nR r+nL b
end
mutual
def l9(ws:List Str)(cs:SC):Rw->Prop
 |.set x t=>x∈ws/\lO ws t
 |.tell t=>lO ws t
 |.call o f ts=>(∀x,o=some x->x∈ws)/\(∀t∈ts,lO ws t)/\ts.length<=7/\(f,ts.length)∈cs
 |.whn t b=>lO ws t/\fH ws cs b
 |.aga _ b=>fH ws cs (b)def fH(ws:List Str)(cs:SC):RL->Prop
 |.nil=>True
 |.cons r b=>l9 ws cs r/\fH ws cs b
end
noncomputable def jH:List Rw->RL
 |[]=>.nil
 |r::l=>.cons r (jH l)theorem jA:∀l:List Rw,am (jH l)=l.map aI
 |[]=>rfl
 |r::l=>congrArg (aI r::·) (jA l)variable {cs:SC}theorem my:∀l:List Rw,(∀r∈l,l9 ws cs r)->fH ws cs (jH l)
 |[]=>@λ_=>trivial
 |r::l=>@λh=>⟨h r (PF ..),my l λx hx=>h x (PD _ hx)⟩theorem rI:∀l:List Rw,(∀r∈l,hR r<=n)->hL (jH l)<=n
 |[]=>@λ_=>PR _
 |r::l=>@λh=>QC.mpr ⟨h r (PF ..),rI l λx hx=>h x (PD _ hx)⟩theorem IX:∀l:List Rw,(∀r∈l,nR r<=n)->nL (jH l)<=l.length * n
 |[]=>@λ_=>PR _
 |r::l=>@λh=>by show nR r+nL (jH l)<=(l.length+1) * n;rw[S4,Qu];exact Qb (IX l λx hx=>h x (PD _ hx)) (h r (PF ..))
structure Fd where
 nm:Str
 ps:List Str
 rs:RL
 t:Tm
def ao(f:Fd):PyData:=.tuple [.str f.nm,.tuple (f.ps.map .str),.tuple (am f.rs),a9 f.t]noncomputable def f8(f:Fd):Str×Nat:=(f.nm,f.ps.length)def Ke(ws:List Str)(cs:SC)(f:Fd):Prop:=(∀x∈f.ps,x∈ws)/\f.ps.length<=7/\f8 f∈cs
structure okF(ws:List Str)(cs:SC)(f:Fd):Prop where
 ps:∀x∈f.ps,x∈ws
 p4:f.ps.length<=7
 rs:fH ws cs f.rs
 h9:hL f.rs<=18
 n4:nL f.rs<=820
 t:lO ws f.t
theorem gp(m:Bool)(x:List PyData){l h:Option Int}(hl:cO lo=some l)(hh:cO hi=some h)(U:ac):gq m (ah x) lo hi U=.ok (ah (aC x l h)) U:=by unfold gq;rw[hl,hh];(rfl)theorem tj{Y:Type}(f:B->Y)(l:List B)(lo hi:Option Int):aC (l.map f) lo hi=(aC l lo hi).map f:=by unfold aC;rw[Pa,Q7,Re]theorem Bz{l:List B}{lo hi:Option Int}{x:B}(h:x∈aC l lo hi):x∈l:=QF (P8 h)theorem nJ(l:List PyData)(U:ac):bC .eq (al l) (al []) U=some l.isEmpty:=by show No (.list l) (.list [])=_;rw[nK (iv (RM _ _) (by decide))];cases l<;>rfl
theorem KQ(h0:0<=i)(h:i < l.length)(U:ac):∃x,x∈l/\cK (al l) (ak i) U=some (.d x):=by have:i.toNat < l.length:=(Sl h0).mpr h;exact⟨l[i.toNat],Rn _,by rw[jn _ h0,PB this];rfl⟩
theorem lr(φ:B->PyData){l:List B}(h:0 < l.length)(x:Int):0 < (((l.map φ).length:Nat):Int)/\∃a,a∈l/\∀U,cK (al (l.map φ)) (ak (x % ((l.map φ).length:Int))) U=some (.d (φ a)):=by
 have hl:0 < (((l.map φ).length:Nat):Int):=by rw[Pa];exact Qp.mpr h
 have b:=cQ x hl;have:(x % ((l.map φ).length:Int)).toNat < l.length:=Nat.lt_of_lt_of_eq ((Sl b.1).mpr b.2) (Pa φ);exact⟨hl,l[(x % ((l.map φ).length:Int)).toNat],Rn _,λU=>by rw[jn _ b.1,Qc,PB this];rfl⟩
theorem Gy(a0:B){p:Nat->Prop}{Q:Nat->B->Prop}(h:∀k,p k->∃r,Q k r):∃g:Nat->B,∀k,p k->Q k (g k):=by
 classical exact⟨λk=>if hk:p k then Classical.choose (h k hk) else a0,λk hk=>by refine(?_:Q k (if hk:p k then Classical.choose (h k hk) else a0));rw[dif_pos hk];exact Classical.choose_spec (h k hk)⟩
theorem zv(hw:0 < ws.length)(hx:x∈ws)(c:Int)(d:Nat)(U:ac):∃t,lO ws t/\pc (d+4) 29 [ak c,al (ws.map .str),aA x] U (.d (a9 t)):=by
 by_cases h:c % 2=0
 . exact⟨.name x,oh _ hx,(aX prog 29 (d+3) [ak c,al (ws.map .str),aA x] U rfl 4 (dT h) (same U))⟩
 . obtain⟨t,h1,h2⟩:=ed ws hw 1 (d+3) (c / 2) U (jI d (by decide));exact⟨t,mx (by decide) h1,(aX prog 29 (d+3) [ak c,al (ws.map .str),aA x] U rfl 4 (dF h) h2 (same U))⟩variable {fs:List Fd}
theorem Cn(hw:0 < ws.length)(hf:0 < fs.length)(hok:∀f∈fs,Ke ws cs f)(c:Int)(d:Nat)(U:ac):∃r,(l9 ws cs r/\hR r=0/\nR r=1)/\pc (d+6) 30 [ak c,al (ws.map .str),al (fs.map ao)] U (.d (aI r)):=by
 refine kk λUc k=>?_;obtain⟨hfl,f,hf1,ih⟩:=lr ao hf (c / 7);have ih:=ih U;have of:=hok f hf1;obtain⟨hwl,w,hwm,iw⟩:=j7 hw (c / 49) U;have hsk:∀k:Nat,k < f.ps.length->∃t,lO ws t/\pc (d+5) 29 [ak (j4 c (10+k)),al (ws.map .str),aA ((f.ps[k]?).getD bz)] (U++[.busy]) (.d (a9 t)):=λk hk=>zv hw (of.1 _ (by rw[PB hk];exact Rn _)) _ (d+1) _
 obtain⟨g,hg⟩:=Gy (.num 0) hsk;have hlen:(f.ps.map PyData.str).length=f.ps.length:=Pa _;have comp:=vW (G:=prog.G) (i:=6) (eb:=.bi .len false (.cons (.idx (.var 3) (.int 1)) (.nil))) (e:=.call 29 (.cons (.call 26 (.cons (.var 0) (.cons (.bin .add false (.int 10) (.var 6)) (.nil)))) (.cons (.var 1) (.cons (.idx (.idx (.var 3) (.int 1)) (.var 6)) (.nil)))))
   (K:=(F7 (ak c) (al (ws.map .str)) (al (fs.map ao)) (.d (ao f)) .un .un .un)) (λk=>a9 (g k)) rfl ⟨Qg _,by rw[hlen];exact QV.mpr (iv of.2.1 (by decide))⟩ (λk hk=>by rw[hlen,Qs]at hk;exact aM (d0 (aM rfl (d4 (d+4) c (10+k) _)) (d0 rfl (iB (bZ rfl rfl (by rw[df,Qc,PB hk];rfl))))) (by have:=(hg k hk).2;rw[PB hk]at this;exact this))
 rw[hlen,Qs]at comp;have okts:(∀t∈(List.range f.ps.length).map g,lO ws t)/\((List.range f.ps.length).map g).length=f.ps.length:=by refine⟨λt ht=>?_,by rw[Pa,Ra]⟩;obtain⟨k,hk,rfl⟩:=Qi.mp ht;exact(hg k (Rc.mp hk)).1
 have e:(List.range f.ps.length).map (λk=>a9 (g k))=((List.range f.ps.length).map g).map a9:=by rw[Qv];rfl
 rw[e]at comp;refine k ?_;generalize (List.range f.ps.length).map g=ts at comp okts;have okc:∀o:Option Str,(∀x,o=some x->x∈ws)->l9 ws cs (.call o f.nm ts):=λo ho=>⟨ho,okts.1,okts.2▸of.2.1,okts.2.symm▸of.2.2⟩;by_cases h3:c % 3=0
 . exact⟨.call none f.nm ts,⟨okc none (λx hx=>by injection hx),rfl,rfl⟩,(aX prog 30 (d+5) [ak c,al (ws.map .str),al (fs.map ao)] U rfl 76 (ee _ _ hfl) ih comp (dT h3) (same U))⟩
 . exact⟨.call (some w) f.nm ts,⟨okc (some w) (λx hx=>by injection hx with e;subst e;exact hwm),rfl,rfl⟩,(aX prog 30 (d+5) [ak c,al (ws.map .str),al (fs.map ao)] U rfl 1612 (ee _ _ hfl) ih comp (dF h3) (ee _ _ hwl) iw (same U))⟩noncomputable def KK:Nat->Nat
 |0=>1
 |n+1=>1+3 * KK (n)theorem LI:∀n,1<=KK n
 |0=>P9 _
 |n+1=>PU ..
def Jn(ws:List Str)(deep:Nat):Prop:=∀(cs:SC) (fs:List Fd) (c:Int) (d:Nat) (U:ac),(∀f∈fs,Ke ws cs f)->2 * deep+8<=d->∃r,(l9 ws cs r/\hR r<=deep/\nR r<=KK deep)/\
 pc d 31 [.d (.int c),.d (.list (ws.map .str)),.d (.list (fs.map ao)),.d (.int (deep:Int))] U (.d (aI r))
def zM(ws:List Str)(deep:Nat):Prop:=∀(cs:SC) (fs:List Fd) (c many:Int) (d:Nat) (U:ac),(∀f∈fs,Ke ws cs f)->0<=many/\many<=30->2 * deep+9<=d->∃rs,(fH ws cs rs/\hL rs<=deep/\nL rs<=many.toNat * KK deep)/\
 aj prog d 32 (F5 (.d (.int c)) (.d (.list (ws.map .str))) (.d (.list (fs.map ao))) (.d (.int (deep:Int))) (.d (.int many))) U=.ok (.d (.tuple (am rs))) U
theorem GV(h:(n:Int) > 0):∃e,n=e+1:=o0 (Qp.mp h)variable {x:Int}theorem Le(h:0<=x/\x < 3):0<=1+x/\1+x<=30:=⟨Rv (by decide) h.1,QL (SU (R3 h.2) 1) (by decide)⟩theorem Ao(h:0<=x/\x < 2):∃n:Nat,1+x=(n:Int)/\n<=2:=⟨(1+x).toNat,(Rb (Rv (by decide) h.1)).symm,Rg.mpr (by rw[S3];exact h.2)⟩
theorem oX(H:Jn ws deep):zM ws deep:=by
 intro cs fs c many d U hok hm hd;obtain⟨d,rfl⟩:∃e,d=e+2:=o0 (iv (P7 2 (2 * deep+7)) hd);have hsk:∀k:Nat,True->∃r,(l9 ws cs r/\hR r<=deep/\nR r<=KK deep)/\pc (d+1) 31 [ak (j4 c (20+k)),al (ws.map .str),al (fs.map ao),ak (deep:Int)] (U++[.busy]) (.d (aI r)):=λk _=>H cs fs _ (d+1) _ hok (RD hd)
 obtain⟨g,hg⟩:=Gy (.tell (.num 0)) hsk;refine⟨jH ((List.range many.toNat).map g),⟨my _ λr hr=>?_,rI _ λr hr=>?_,?_⟩,?_⟩
 . obtain⟨k,_,rfl⟩:=Qi.mp hr;exact(hg k trivial).1.1
 . obtain⟨k,_,rfl⟩:=Qi.mp hr;exact(hg k trivial).1.2.1
 . have:=IX ((List.range many.toNat).map g) λr hr=>by obtain⟨k,_,rfl⟩:=Qi.mp hr;exact(hg k trivial).1.2.2
   simpa using this
 . rw[jA,Qv];exact(aX prog 32 (d+1) (F5 (ak c) (al (ws.map .str)) (al (fs.map ao)) (ak (deep:Int)) (ak many)) U rfl 0 (vW (λk=>aI (g k)) rfl ⟨hm.1,QL hm.2 (by decide)⟩ λk hk=>aM (d0 (aM rfl (d4 d c (20+k) _)) rfl) (hg k trivial).2) (same U))variable {e:Nat}{rs:RL}theorem qE{c:Int}(hm:0<=c / 9 % 3/\c / 9 % 3 < 3)(h:nL rs<=(1+c / 9 % 3).toNat * KK e):nL rs+1<=1+3 * KK e:=by rw[Qu];exact Qe (iv h (Rq (KK e) (Rg.mpr (by rw[S3];exact hm.2)))) 1
theorem nv(l:List Int)(h0:0<=i)(h:i < l.length)(U:ac):∃n,n∈l/\cK (al (l.map .int)) (ak i) U=some (ak n):=by refine kk λUc k=>?_;obtain⟨x,hx,e⟩:=KQ (l:=l.map .int) h0 (by simpa using h) U;obtain⟨n,hn,rfl⟩:=Qi.mp hx;refine k ?_;exact⟨n,hn,e⟩theorem iA(l:List PyData)(U:ac):bC .ne (al l) (al []) U=some (!l.isEmpty):=by show (bC .eq (al l) (al []) U).map _=_;rw[nJ];rfl
set_option maxHeartbeats 999999 in
theorem DG(hw:0 < ws.length)(H:∀e,deep=e+1->zM ws e):Jn ws deep:=by
 intro cs fs c d U hok hd;obtain⟨d,rfl⟩:∃e,d=e+7:=o0 (iv (P7 7 (2 * deep+1)) hd);refine kk λUc kz=>?_;obtain⟨hwl,w,hwm,iw⟩:=j7 hw (c / 9) U;obtain⟨few,fok,few'⟩:∃few:List Fd,(∀f∈few,Ke ws cs f)/\gq false (al (fs.map ao)) none (some (ak (1+if decide (c / 3645 % 8=1) then 1 else 0))) U=.ok (al (few.map ao)) U:=
   ⟨aC fs none (some (1+if decide (c / 3645 % 8=1) then 1 else 0)),λf hf=>hok f (Bz hf),congrArg (λl=>Res.ok (al l) U) (tj ..)⟩
 have kp:=LI deep;have hm:=cQ (c / 9) (show (0:Int) < 3 by decide);have R:=λ(D:Int)=>aX prog 31 (d+6) [ak c,al (ws.map .str),al (fs.map ao),ak D] U rfl;have m3:=d4 (d+5) c 3 U;have bm:=ee (x:=c / 9) U false hwl;by_cases h1:c % 9=2
 . obtain⟨t,ht,et⟩:=ed ws hw 2 (d+6) (j4 c 3) U (jI d (by decide));exact kz ⟨.tell t,⟨mx (by decide) ht,PR _,kp⟩,(R deep 25624 m3 bm iw few' (dT h1) (dT h1) et (same U))⟩
 by_cases h1':c % 9=8
 . obtain⟨t,ht,et⟩:=ed ws hw 2 (d+6) (j4 c 3) U (jI d (by decide));exact kz ⟨.tell t,⟨mx (by decide) ht,PR _,kp⟩,(R deep 42008 m3 bm iw few' (dF h1) (dT h1') et (same U))⟩
 have k2:=λ(D:Int)=>lU (G:=prog.G) (cf:=aj prog (d+6)) (e:=.cmp .lt (.int 2) (.var 4)) (e':=.cmp .lt (.var 4) (.int 6)) (es:=.cons (.cmp .ne (.var 2) (.list false (.nil))) (.nil)) (K:=(IA (ak c) (al (ws.map .str)) (al (fs.map ao)) (ak D) (ak (c % 9)) (ak (j4 c 3)) (aA w) (al (few.map ao)) .un .un)) (cq rfl rfl rfl) λ_=>lU (cq rfl rfl rfl) λ_=>cN (cq rfl rfl (iA _ U));cases h2:(decide (2 < c % 9)&&(decide (c % 9 < 6)&&!(fs.map ao).isEmpty)) with
 |true=>
   have hf:0 < fs.length:=by
     clear kz hok few' k2 R;cases fs with
     |nil=>rw[RE,List.isEmpty_nil,Su,S9,S9]at h2;injection h2
     |cons _ _=>exact Ru _
   obtain⟨r,⟨h5,h6,h7⟩,er⟩:=Cn hw hf hok (j4 c 3) d U;exact kz ⟨r,⟨h5,h6▸PR _,h7▸kp⟩,(R deep 238616 m3 bm iw few' (dF h1) (dF h1') (k2 deep) (bT h2) er (same U))⟩
 |false=>
   by_cases hD:(deep:Int) > 0
   . obtain⟨e,rfl⟩:∃e,deep=e+1:=GV hD;obtain⟨rs,⟨a1,a2,a3⟩,ers⟩:=H e rfl cs few (j4 c 3) (1+c / 9 % 3) (d+6) U fok (Le hm) (RD hd);replace ers:=(lG e)▸ers;generalize ((e+1:Nat):Int)=D at *;by_cases h3:c % 9=6
     . obtain⟨t,ht,et⟩:=ed ws hw 1 (d+6) (j4 c 4) U (jI d (by decide));exact kz ⟨.whn t rs,⟨⟨mx (by decide) ht,a1⟩,PN a2,qE hm a3⟩,(R D 5481496 m3 bm iw few' (dF h1) (dF h1') (k2 D) (bF h2) (dT h3) (dT hD) ers (d4 (d+5) c 4 U) et (same U))⟩
     by_cases h4:c % 9=7
     . have b4:=cQ (c / 27) p4;have b5:=cQ (c / 27) (show (0:Int) < 5 by decide);obtain⟨n4,m4,i4⟩:=nv [2,1,2,0] b4.1 b4.2 U;obtain⟨n5,m5,i5⟩:=nv [2,3,1,c / 135 % 10,0] b5.1 b5.2 U;have k5:=lU (G:=prog.G) (cf:=aj prog (d+6)) (e:=.cmp .eq (.var 2) (.list false (.nil))) (e':=.cmp .eq (.var 3) (.int 2)) (K:=(IA (ak c) (al (ws.map .str)) (al (fs.map ao)) (ak D) (ak (c % 9)) (ak (j4 c 3)) (aA w) (al (few.map ao)) .un (ak n4))) (cq rfl rfl (nJ _ U)) λ_=>cN (cq rfl rfl rfl);cases h5:((fs.map ao).isEmpty&&decide (D=2)) with
       |true=>exact kz ⟨.aga n5 rs,⟨a1,PN a2,qE hm a3⟩,(R D 72564843544 m3 bm iw few' (dF h1) (dF h1') (k2 D) (bF h2) (dF h3) (dF h3) (dT h4) (dT hD) i4 k5 (bT h5) i5 ers (same U))⟩
       |false=>exact kz ⟨.aga n4 rs,⟨a1,PN a2,qE hm a3⟩,(R D 3845366808 m3 bm iw few' (dF h1) (dF h1') (k2 D) (bF h2) (dF h3) (dF h3) (dT h4) (dT hD) i4 k5 (bF h5) ers (same U))⟩
     obtain⟨n,hn,hn2⟩:∃n:Nat,1+c % 9 % 2=(n:Int)/\n<=2:=Ao (cQ (c % 9) (by decide));obtain⟨t,ht,et⟩:=ed ws hw n (d+6) (j4 c 3) U (P6 (PN hn2) (jI d (by decide)));replace et:=hn▸et;exact kz ⟨.set w t,⟨⟨hwm,mx hn2 ht⟩,PR _,kp⟩,(R D 53715992 m3 bm iw few' (dF h1) (dF h1') (k2 D) (bF h2) (dF h3) (dF h3) (dF h4) (dF h4) et (same U))⟩
   . obtain⟨n,hn,hn2⟩:∃n:Nat,1+c % 9 % 2=(n:Int)/\n<=2:=Ao (cQ (c % 9) (by decide));obtain⟨t,ht,et⟩:=ed ws hw n (d+6) (j4 c 3) U (P6 (PN hn2) (jI d (by decide)));rw[<- hn]at et;refine kz ⟨.set w t,⟨⟨hwm,mx hn2 ht⟩,PR _,kp⟩,?_⟩;by_cases h3:c % 9=6
     . have h4:¬ c % 9=7:=λq=>by rw[h3]at q;injection q with e;injection e with e;injection e with e;injection e with e;injection e with e;injection e with e;injection e with e;injection e
       exact(R deep 106144792 m3 bm iw few' (dF h1) (dF h1') (k2 deep) (bF h2) (dT h3) (dF hD) (dF h4) (dF h4) et (same U))
     by_cases h4:c % 9=7
     . exact(R deep 87270424 m3 bm iw few' (dF h1) (dF h1') (k2 deep) (bF h2) (dF h3) (dF h3) (dT h4) (dF hD) et (same U))
     exact(R deep 53715992 m3 bm iw few' (dF h1) (dF h1') (k2 deep) (bF h2) (dF h3) (dF h3) (dF h4) (dF h4) et (same U))
theorem Ae(hw:0 < ws.length):∀deep,zM ws deep
 |0=>oX (DG hw λe h=>by injection h)
 |n+1=>oX (DG hw λe h=>by injection h with e;subst e;exact Ae hw n)def LQ(ws:List Str)(cs:SC)(f:Fd):Prop:=okF ws cs f/\hL f.rs<=2/\nL f.rs<=390
theorem sS(hw:0 < ws.length)(hok:∀f∈fs,Ke ws cs f)(c:Int)(nm:Str)(d:Nat)(U:ac):∃f,(LQ ws cs f/\f.nm=nm)/\
   pc (d+16) 34 [ak c,aA nm,al (ws.map .str),al (fs.map ao)] U (.d (ao f)):=by
 have b6:=cQ c (show (0:Int) < 6 by decide);have b6':=cQ (c / 30) (show (0:Int) < 6 by decide);refine kk λUc kz=>?_;obtain⟨n0,hn0,i0⟩:=nv [0,1,2,2,3,4] b6.1 b6.2 U;obtain⟨n6,hn6,i6⟩:=nv [3,4,2,5,0,6] b6'.1 b6'.2 U;have b0:0<=n0/\n0<=7:=(by decide:∀x∈([0,1,2,2,3,4]:List Int),0<=x/\x<=7) n0 hn0;have b6:0<=n6/\n6<=6:=(by decide:∀x∈([3,4,2,5,0,6]:List Int),0<=x/\x<=6) n6 hn6;have hwl:=(j7 hw 0 U).1;obtain⟨g,hg⟩:=Gy bz (λk _=>(j7 hw _ _).2);obtain⟨t,ht,et⟩:=ed ws hw 1 (d+15) (j4 c 6) U (jI d (by decide));refine kz ?_;have okp:((List.range n0.toNat).map g).length<=7:=by rw[Pa,Ra];exact Rg.mpr b0.2
 have okw:∀x∈(List.range n0.toNat).map g,x∈ws:=λx hx=>by obtain⟨k,_,rfl⟩:=Qi.mp hx;exact(hg k trivial).1
 have cm:af prog.G (aj prog (d+15)) (.comp false (.var 8) (.range (.idx (.list false (.cons (.int 0) (.cons (.int 1) (.cons (.int 2) (.cons (.int 2) (.cons (.int 3) (.cons (.int 4) (.nil)))))))) (.bin .mod false (.var 0) (.int 6)))) .nil (.idx (.var 2) (.bin .mod false (.bin .add false (.var 4) (.bin .mul false (.int 2) (.var 8))) (.bi .len false (.cons (.var 2) (.nil)))))) (F9 (ak c) (aA nm) (al (ws.map .str)) (al (fs.map ao)) (ak (c / 6 % ((ws.map PyData.str).length:Int))) .un .un .un .un) U=.ok (al (((List.range n0.toNat).map g).map .str)) U:=by rw[<- uR];exact vW (λk=>.str (g k)) (bZ rfl rfl i0) ⟨b0.1,QL b0.2 (by decide)⟩ λk hk=>bZ rfl (jX rfl rfl (ee _ _ hwl)) (hg k trivial).2
 generalize (List.range n0.toNat).map g=ps at cm okp okw;have R:=aX prog 34 (d+15) [ak c,aA nm,al (ws.map .str),al (fs.map ao)] U rfl;have fin:∀(M:Int) (hs:List Fd) (deep:Nat),0<=M/\M<=30->(∀f∈hs,Ke ws cs f)->deep<=2->∃rs,aj prog (d+15) 32 (F5 (ak (j4 c 5)) (al (ws.map .str)) (al (hs.map ao)) (ak deep) (ak M)) U=.ok (ah (am rs)) U/\LQ ws cs ⟨nm,ps,rs,t⟩:=λM hs deep bM hok' hd2=>by obtain⟨rs,hrs,ers⟩:=Ae hw deep cs hs (j4 c 5) M (d+15) U hok' bM (iv (PJ (Q4 2 hd2) 9) (iv (by decide) (P7 15 d)));have hn:nL rs<=390:=iv hrs.2.2 (TN (Rg.mpr bM.2) ((by decide:∀n,n < 3->KK n<=13) deep (SF hd2)));exact⟨rs,ers,⟨okw,okp,hrs.1,iv hrs.2.1 (iv hd2 (by decide)),iv hn (by decide),mx (by decide) ht⟩,iv hrs.2.1 hd2,hn⟩
 have bl:=ee (x:=c / 6) U false hwl;have m5:=d4 (d+14) c 5 U;have m6:=d4 (d+14) c 6 U;have one:∀b:Bool,some (b:Bool)=some b:=λ_=>rfl;by_cases h1:c / 180 % 12=1
 . have bM:=cQ (c / 2160) (show (0:Int) < 30 by decide);by_cases h2:c / 2160 % 30 > 6
   . obtain⟨rs,e,ok⟩:=fin (c / 2160 % 30) [] 1 ⟨bM.1,R3 bM.2⟩ (λf hf=>by cases hf) (by decide);exact⟨_,⟨ok,rfl⟩,(R 83012 bl cm i6 (dT h1) (dT h2) m5 ((show xT .int false [.d (.bool (decide (c / 2160 % 30 > 6)))] U=.ok (ak 1) U by rw[decide_eq_true h2];rfl)) e m6 et (same U))⟩
   . obtain⟨rs,e,ok⟩:=fin (c / 2160 % 30) fs 2 ⟨bM.1,R3 bM.2⟩ hok (by decide);exact⟨_,⟨ok,rfl⟩,(R 83012 bl cm i6 (dT h1) (dF h2) m5 ((show xT .int false [.d (.bool (decide (c / 2160 % 30 > 6)))] U=.ok (ak 0) U by rw[decide_eq_false h2];rfl)) e m6 et (same U))⟩
 . have h2:¬ n6 > 6:=RG.mpr b6.2;obtain⟨rs,e,ok⟩:=fin n6 fs 2 ⟨b6.1,QL b6.2 (by decide)⟩ hok (by decide);exact⟨_,⟨ok,rfl⟩,(R 21572 bl cm i6 (dF h1) (dF h2) m5 ((show xT .int false [.d (.bool (decide (n6 > 6)))] U=.ok (ak 0) U by rw[decide_eq_false h2];rfl)) e m6 et (same U))⟩
theorem rZ(l:List Int)(a:Nat):∃ws:List Str,(5<=ws.length/\ws.length<=7)/\∀(d:Nat) (U:ac),pc (d+3) 35 [al (l.map .int),ak (a:Int)] U (al (ws.map .str)):=by
 generalize hM:(5+2 * (if decide (bG l (a+2) / 512 % 8=1) then 1 else 0):Int)=M;have bM:5<=M/\M<=7:=by rw[<- hM];cases decide (bG l (a+2) / 512 % 8=1)<;>decide
 obtain⟨ws,h1,_,h3⟩:=mP (bG l a) M ⟨QL (by decide) bM.1,QL bM.2 (by decide)⟩ 0 [];refine⟨ws,⟨h1▸Int.toNat_le_toNat bM.1,h1▸Int.toNat_le_toNat bM.2⟩,λd U=>?_⟩;have h3:=h3 (d+1) U;rw[<- hM]at h3;exact(aX prog 35 (d+2) [al (l.map .int),ak (a:Int)] U rfl 0 (bY (d+1) l a U) (lF (d+1) l U (a+2) _ rfl) h3 (same U))theorem Kn(n:Nat):(-1:Int)+((n+1:Nat):Int)=(n:Int):=by rw[S3];exact lG n
theorem xa(a:List PyData)(x:PyData)(U:ac):cK (ah (a++[x])) (ak (-1)) U=some (.d x):=by
 rw[AG];have e:(-1:Int)+((a++[x]).length:Int)=(a.length:Int):=by rw[PA,QQ];exact Kn _
 have:index (a++[x]).length (-1)=some a.length:=by unfold index;rw[if_neg (by decide),e,if_pos (Qg _)];rfl
 rw[this];show ((a++[x])[a.length]?).map V.d=_;rw[PW (P9 _),S5];rfl
theorem qB(a:List B)(x:B):aC (a++[x]) none (some (-1))=a:=by
 have e:(-1:Int)+((a++[x]).length:Int)=(a.length:Int):=by rw[PA,QQ];exact Kn _
 have h:jq (a++[x]).length (-1)=a.length:=by unfold jq;rw[if_pos (by decide),e,SR (QV.mpr (by rw[PA];exact PU ..)),Sh (Qg _)];rfl
 refine(?_:((a++[x]).drop 0).take (jq (a++[x]).length (-1) - 0)=a);rw[h];exact TD (rfl)theorem HX(l:List PyData)(U:ac):bC .eq (ah l) (ah []) U=some l.isEmpty:=by show No (.tuple l) (.tuple [])=_;rw[nK (iv (RM _ _) (by decide))];cases l<;>rfl
noncomputable def ye:List Nat->RL->RL
 |[],b=>b
 |k::ks,b=>ye ks (.cons (.whn (.num (1+(k:Int))) b) .nil)
theorem Bl(cf:Nat->List V->ac->Res V)(v0 v1 v2 v3 v5:V)(U:ac):∀(ks:List Nat) (b:RL) (v:V),∃v',ba (aL prog.G cf (.var 6) kF) (ks.map λ(k:Nat)=>PyData.int (k:Int)) (F7 v0 v1 v2 v3 (ah (am b)) v5 v) U=.ok (.next (F7 v0 v1 v2 v3 (ah (am (ye ks b))) v5 v')) U:=by
 intro xs_
 induction xs_ with
 |nil=>intro b v;exact⟨v,rfl⟩
 |cons k ks ih_=>intro b v;obtain⟨v',ih⟩:=ih_ (.cons (.whn (.num (1+(k:Int))) b) .nil) (ak (k:Int));exact⟨v',a6 (aP rfl) ih⟩
theorem Gf:∀(ks:List Nat) (b:RL),fH ws cs b->fH ws cs (ye ks b)/\hL (ye ks b)=hL b+ks.length/\nL (ye ks b)=nL b+ks.length:=by
 intro xs_
 induction xs_ with
 |nil=>intro b h;exact⟨h,rfl,rfl⟩
 |cons k ks ih_=>
   intro b h;obtain⟨h1,h2,h3⟩:=ih_ (.cons (.whn (.num (1+(k:Int))) b) .nil) ⟨⟨oQ ..,h⟩,trivial⟩;have e2:hL (.cons (.whn (.num (1+(k:Int))) b) .nil)=hL b+1:=Nat.max_eq_left (PR _);refine⟨h1,?_,?_⟩
   . show hL (ye ks _)=_;rw[h2,e2,PX,Qo,Qu 1]
   . show nL (ye ks _)=_;rw[h3,PX,Qu ks.length,<- Qo];(rfl)variable {f:Fd}
theorem xK(hf:LQ ws cs f)(hl:fs.length<=100)(c:Int)(d:Nat)(U:ac):∃f',(okF ws cs f'/\f8 f'=f8 f/\hL f'.rs<=9/\nL f'.rs<=400)/\pc (d+1) 33 [ah ((fs++[f]).map ao),ak c] U (ah ((fs++[f']).map ao)):=by
 have em:∀g,(fs++[g]).map ao=fs.map ao++[ao g]:=λg=>by rw[PP];rfl
 have il:=xa (fs.map ao) (ao f) U;rw[em];have R:=aX prog 33 d [ah (fs.map ao++[ao f]),ak c] U rfl;by_cases h1:c % 2=0
 . exact⟨f,⟨hf.1,rfl,iv hf.2.1 (by decide),iv hf.2.2 (by decide)⟩,by rw[em];exact(R 24 (dT h1) (dT h1) (same U))⟩
 have en:=HX (am f.rs) U;cases h2:(am f.rs).isEmpty with
 |true=>replace en:=h2▸en;exact⟨f,⟨hf.1,rfl,iv hf.2.1 (by decide),iv hf.2.2 (by decide)⟩,by rw[em];exact(R 88 (dF h1) il en (same U))⟩
 |false=>
   replace en:=h2▸en;have hlen:∀x:PyData,(fs.map ao).length+List.length [x]<=100000:=λx=>by rw[Pa,QQ];exact iv (PN hl) (by decide)
   have sl:gq false (ah (fs.map ao++[ao f])) none (some (ak (-1))) U=.ok (ah (fs.map ao)) U:=by rw[gp _ _ gw (fu _),qB]
   have hfin:∀b:RL,hL b<=8->hL (.cons (.aga (2+c / 2 % 2) b) .nil)<=9:=λb w2=>QC.mpr ⟨PN w2,PR _⟩;have fin:∀b:RL,fH ws cs b->hL b<=8->nL b<=396->okF ws cs ⟨f.nm,f.ps,.cons (.aga (2+c / 2 % 2) b) .nil,f.t⟩:=λb w1 w2 w3=>⟨hf.1.ps,hf.1.p4,⟨w1,trivial⟩,iv (hfin b w2) (by decide),iv (PN w3) (by decide),hf.1.t⟩
   by_cases h4:c / 4 % 4=1
   . refine(Bl (aj prog d) (ah (fs.map ao++[ao f])) (ak c) (aA f.nm) (ah (f.ps.map .str)) (.d (a9 f.t)) U (List.range 6) f.rs .un).elim λv' lp=>?_;obtain⟨w1,w2,w3⟩:=Gf (List.range 6) f.rs hf.1.rs;rw[Ra]at w2 w3;refine⟨_,⟨fin _ w1 (w2▸PJ hf.2.1 6) (w3▸PJ hf.2.2 6),rfl,hfin _ (w2▸PJ hf.2.1 6),iv (PN (w3▸PJ hf.2.2 6)) (by decide)⟩,?_⟩;rw[em];exact(R 143704 (dF h1) il en il (dT h4) (a7 (iC rfl (by decide)) lp) sl (ie (hlen _) _) (same U))
   . refine⟨_,⟨fin f.rs hf.1.rs (iv hf.2.1 (by decide)) (iv hf.2.2 (by decide)),rfl,hfin f.rs (iv hf.2.1 (by decide)),iv (PN hf.2.2) (by decide)⟩,?_⟩;rw[em];exact(R 143704 (dF h1) il en il (dF h4) sl (ie (hlen _) _) (same U))variable {cs':SC}
mutual
theorem DX(h:∀x∈cs,x∈cs'):∀r:Rw,l9 ws cs r->l9 ws cs' r
 |.set _ _=>@λq=>q
 |.tell _=>@λq=>q
 |.call _ _ _=>@λq=>⟨q.1,q.2.1,q.2.2.1,h _ q.2.2.2⟩
 |.whn _ b=>@λq=>⟨q.1,ji h b q.2⟩
 |.aga _ b=>@λq=>ji h b (q)theorem ji(h:∀x∈cs,x∈cs'):∀b:RL,fH ws cs b->fH ws cs' b
 |.nil=>@λ_=>trivial
 |.cons r b=>@λq=>⟨DX h r q.1,ji h b q.2⟩
end
theorem nf(h:∀x∈cs,x∈cs')(q:okF ws cs f):okF ws cs' f:={ q with rs:=ji h _ q.rs }noncomputable def bK(fs:List Fd):List Str:=fs.map (·.nm)def DZ(ws:List Str)(fs:List Fd):Prop:=∀(k:Nat) (f:Fd),fs[k]?=some f->LQ ws ((fs.take k).map f8) (f)variable {l:List B}{a:B}theorem rc{x:B}(h:x∈l++[a]):x∈l\/x=a:=(PQ.mp h).imp id PL.mp
theorem zX{x:B}(h:(l++[a])[k]?=some x):((l++[a]).take k=l.take k/\l[k]?=some x)\/((l++[a]).take k=l/\x=a):=by
 rcases SZ k l.length with q|q
 . exact .inl ⟨RP (Qd q),(P1 q).symm.trans h⟩
 . rw[PW q]at h;cases e:k - l.length with
   |zero=>rw[e]at h;have:k=l.length:=Rz (Tv e) q;exact .inr ⟨by rw[this,List.take_left],(Option.some.inj h).symm⟩
   |succ i=>rw[e]at h;injection h
theorem BQ(h:DZ ws fs)(hf:LQ ws (fs.map f8) f):DZ ws (fs++[f]):=λk g hg=>by
 rcases zX hg with⟨h1,h2⟩|⟨h1,h2⟩
 . rw[h1];exact h k g h2
 . rw[h1,h2];exact(hf)def NO(ws:List Str)(fs:List Fd):Prop:=∀(k:Nat) (f:Fd),fs[k]?=some f->okF ws ((fs.take k).map f8) f/\hL f.rs<=9/\nL f.rs<=400
theorem Hv(k:Nat):∀x∈(fs.take k).map f8,x∈fs.map f8:=λx hx=>by obtain⟨f,hf,rfl⟩:=Qi.mp hx;exact Qz (P8 hf)theorem w9{l:List Str}(h:k < l.length)(U:ac):cK (al (l.map .str)) (ak (k:Int)) U=some (.d (.str l[k])):=by rw[jn _ (Qg k)];show ((l.map PyData.str)[k]?).map V.d=_;rw[Qc,PB h];rfl
theorem BK{cJ:List Str}(hw:0 < ws.length)(hn:cJ.length=8)(l:List Int)(a:Nat)(hok:DZ ws fs)(hk:fs.length < 8)(d:Nat)(v5 v6 v7:V)(U:ac) :
   X2 λ(f:Fd) (v7':V)=>(LQ ws (fs.map f8) f/\some f.nm=cJ[fs.length]?)/\
     aL prog.G (aj prog (d+16)) (.var 6) cU (.int (fs.length:Int)) (F8 (al (l.map .int)) (ak (a:Int)) (al (ws.map .str)) (al (cJ.map .str)) (ah (fs.map ao)) v5 v6 v7) U =
     .ok (.next (F8 (al (l.map .int)) (ak (a:Int)) (al (ws.map .str)) (al (cJ.map .str)) (ah ((fs++[f]).map ao)) v5 (ak (fs.length:Int)) v7')) U:=by
 have h8:fs.length < cJ.length:=hn▸hk;have h0:0 < cJ.length:=hn▸(by decide)
 have ck:=lF (d+15) l U (a+3+fs.length) ((a:Int)+3+(fs.length:Int)) rfl;have c4:=lF (d+15) l U (a+2) ((a:Int)+2) rfl;have hokh:∀f∈fs.take 3,Ke ws (fs.map f8) f:=λf hf=>by have hf:=P8 hf;obtain⟨k,hk⟩:=Q0 hf;exact⟨(hok k f hk).1.ps,(hok k f hk).1.p4,Qz hf⟩
 refine kk λUc k=>?_;obtain⟨f,⟨okf,nmf⟩,ef⟩:=sS hw hokh (bG l (a+3+fs.length)) cJ[fs.length] d U;refine k ?_;have sl:gq false (ah (fs.map ao)) none (some (ak 3)) U=.ok (ah ((fs.take 3).map ao)) U:=by rw[gp _ _ gw (fu _),tj];exact congrArg (λx=>Res.ok (ah (x.map ao)) U) (qA fs 3)
 have ad:∀g:Fd,dj .add false (ah (fs.map ao)) (ah [ao g]) U=.ok (ah ((fs++[g]).map ao)) U:=λg=>by rw[PP];exact ie (by rw[Pa,QQ];exact iv hk (by decide)) U
 have R:=ch prog.G (aj prog (d+16)) cU (F8 (al (l.map .int)) (ak (a:Int)) (al (ws.map .str)) (al (cJ.map .str)) (ah (fs.map ao)) v5 (ak (fs.length:Int)) v7) U;have i1:=w9 h8 U;have nof:some f.nm=cJ[fs.length]?:=by rw[nmf];exact(PB h8).symm
 by_cases hz:(fs.length:Int)=0
 . by_cases h:bG l (a+2) / 4096 % 8=1
   . refine⟨⟨cJ[0],[],.nil,f.t⟩,.d (ao ⟨cJ[0],[],.nil,f.t⟩),⟨⟨⟨(λx hx=>by cases hx),PR _,trivial,PR _,PR _,okf.1.t⟩,PR _,PR _⟩,?_⟩,aP ?_⟩
     . rw[(Sz.mp hz)];exact(PB h0).symm
     . exact(R 45196 ck i1 sl ef (dT hz) c4 (dT h) (w9 h0 U) (ad ⟨cJ[0],[],.nil,f.t⟩))
   . exact⟨f,.d (ao f),⟨okf,nof⟩,aP ((R 12428 ck i1 sl ef (dT hz) c4 (dF h) (ad f)))⟩
 . exact⟨f,.d (ao f),⟨okf,nof⟩,aP ((R 908 ck i1 sl ef (dF hz) (dF hz) (ad f)))⟩def O6(l:List Int)(a:Nat)(ws cJ:List Str)(U:ac)(N:Nat)(v5:V):List Nat->Fm->ac->Prop:=λrest K J=>X3 λ(fs:List Fd) (v6:V) (v7:V)=>A6 (rest=List.range' fs.length (N - fs.length)) (fs.length<=N) (DZ ws fs) (bK fs=cJ.take fs.length) (K=(F8 (.d (.list (l.map .int))) (.d (.int (a:Int))) (.d (.list (ws.map .str))) (.d (.list (cJ.map .str))) (.d (.tuple (fs.map ao))) v5 v6 v7)) (J=U)theorem wf{N:Nat}(h:m < N):N - m=(N - (m+1))+1:=by rw[Nat.sub_add_eq,Nat.sub_add_cancel (Nat.sub_pos_of_lt h)]
theorem BL{cJ:List Str}(hw:0 < ws.length)(hn:cJ.length=8)(l:List Int)(a d N:Nat)(hN:N<=8)(v5:V)(U:ac):X2 λρ' τ'=>ba (aL prog.G (aj prog (d+16)) (.var 6) cU) ((List.range N).map λ(k:Nat)=>PyData.int (k:Int)) (F8 (al (l.map .int)) (ak (a:Int)) (al (ws.map .str)) (al (cJ.map .str)) (ah []) v5 .un .un) U=.ok (.next ρ') τ'/\O6 l a ws cJ U N v5 [] ρ' τ':=by
 refine Eh (λ(k:Nat)=>PyData.int (k:Int)) (O6 l a ws cJ U N v5) ?_ (List.range N) _ _ ⟨[],.un,.un,by rw[R9];rfl,PR _,(λk f h=>by rw[List.getElem?_nil]at h;injection h),rfl,rfl,rfl⟩
 rintro x xs K J ⟨fs,v6,v7,h1,h2,h3,h4,rfl,rfl⟩
 have hlt:fs.length < N:=by
   rcases SZ fs.length N with h|h
   . exact h
   . rw[TF h]at h1;injection h1
 rw[wf hlt,To]at h1;injection h1 with hx hxs;subst hx;have h8:=Qr hlt hN;obtain⟨f,v7',⟨a1,a2⟩,e⟩:=BK hw hn l a h3 h8 d v5 v6 v7 J;have el:(fs++[f]).length=fs.length+1:=PA;refine⟨_,_,e,fs++[f],ak (fs.length:Int),v7',by rw[el,hxs],by rw[el];exact hlt,BQ h3 a1,?_,rfl,rfl⟩;have en:bK (fs++[f])=bK fs++[f.nm]:=PP;have h8:fs.length < cJ.length:=hn▸h8;rw[PB h8]at a2;rw[en,el,h4,Option.some.inj a2,List.take_succ_eq_append_getElem h8]variable {f':Fd}{hs:List Fd}
theorem DY{g:Fd}(h:DZ ws (hs++[g]))(hf:okF ws (hs.map f8) f')(h4:hL f'.rs<=9/\nL f'.rs<=400):NO ws (hs++[f']):=by
 intro k f q;rcases zX q with⟨h1,h2⟩|⟨h1,h2⟩
 . have q:=h k f ((P1 (Pz.mp h2).1).trans h2);rw[h1];rw[RP (Qd (Pz.mp h2).1)]at q;exact⟨q.1,iv q.2.1 (by decide),iv q.2.2 (by decide)⟩
 . rw[h1,h2];exact⟨hf,h4⟩theorem OS(h:0<=x)(h4:x < 4):1<=(1+x+4).toNat/\(1+x+4).toNat<=8:=by obtain⟨n,rfl⟩:=QS h;exact⟨P7 1 (1+n+3),PJ (Qe (R6 (Qp.mp h4)) 1) 4⟩
theorem OU(h:0<=x)(h4:x < 4):1<=(1+x).toNat/\(1+x).toNat<=8:=
 ⟨(Int.le_toNat (R7 h |> QL (by decide))).mpr (R7 h),iv (Rg.mpr (SU (R3 h4) 1)) (by decide)⟩
theorem vv(l:List Int)(a d:Nat)(U:ac):X2 λ(ws:List Str) (fs:List Fd)=>(ws.length<=7/\0 < fs.length/\fs.length<=8/\NO ws fs/\(bK fs).Nodup)/\pc (d+17) 36 [al (l.map .int),ak (a:Int)] U (ah (fs.map ao)):=by
 refine kk λUc kz=>?_;obtain⟨ws,hw,hv⟩:=rZ l a;have c3:=lF (d+15) l U (a+1) ((a:Int)+1) rfl;have c4:=lF (d+15) l U (a+2) ((a:Int)+2) rfl;obtain⟨k,hk⟩:∃k:Nat,((a:Int)+1 - (if decide (bG l (a+1) % 8=3) then 1 else 0):Int)=(k:Int):=by
   cases decide (bG l (a+1) % 8=3) with
   |true=>exact⟨a,Sy _ 1⟩
   |false=>exact⟨a+1,TU _⟩
 obtain⟨cJ,hn,hnd,h3⟩:=mP (bG l k) 8 (by decide) 0 [];have ck:=lF (d+15) l U k _ hk;have bm:=cQ (bG l (a+2)+2) p4;have R:=aX prog 36 (d+16) [al (l.map .int),ak (a:Int)] U rfl;have main:∀N:Nat,1<=N->N<=8->X4 λ(fs:List Fd) (fs':List Fd) (v6:V) (v7:V)=>A3 ((0 < fs'.length/\fs'.length<=8/\NO ws fs'/\(bK fs').Nodup)) (exec prog.G (aj prog (d+16)) (.forr (.var 6) (.range (.var 5)) cU) (F8 (al (l.map .int)) (ak (a:Int)) (al (ws.map .str)) (al (cJ.map .str)) (ah []) (ak (N:Int)) .un .un) U=.ok (.next (F8 (al (l.map .int)) (ak (a:Int)) (al (ws.map .str)) (al (cJ.map .str)) (ah (fs.map ao)) (ak (N:Int)) v6 v7)) U) (pc (d+16) 33 [ah (fs.map ao),ak (bG l (a+2) / 4)] U (ah (fs'.map ao))):=λN hN1 hN8=>by
   refine kk λUc k=>?_;clear kz c4 c3 ck R;obtain⟨ρ',τ',lp,fs,v6,v7,h1,h2,h3,h4,rfl,rfl⟩:=BL (Qr (by decide) hw.1) hn l a d N hN8 (ak (N:Int)) U;have hlen:fs.length=N:=by
     rcases SZ fs.length N with h|h
     . rw[wf h,To]at h1;injection h1
     . exact Rz h2 h
   have hne:fs≠[]:=λh=>by replace hN1:=h▸hlen▸hN1;cases hN1
   clear h1;obtain⟨hs,g,rfl⟩:X2 λhs g=>fs=hs++[g]:=⟨fs.dropLast,fs.getLast hne,(List.dropLast_concat_getLast hne).symm⟩
   have hlen:hs.length+1=N:=by rw[<- hlen,PA];rfl
   obtain⟨f',⟨hf',hf2,hf4⟩,ef⟩:=xK (fs:=hs) (cs:=hs.map f8) (by have:=h3 hs.length g (by rw[PW (P9 _),S5];rfl);rw[List.take_left]at this;exact this) (by rw[<- hlen]at hN8;exact iv (QZ hN8) (by decide)) (bG l (a+2) / 4) (d+15) τ';rw[<- fk]at lp;refine k ?_;refine⟨hs++[g],hs++[f'],v6,v7,⟨by rw[PA];exact Ru _,by rw[PA];exact hlen▸hN8,DY h3 hf' hf4,?_⟩,a7 (iC rfl ⟨QL (by decide) (Qg N),QV.mpr (iv hN8 (by decide))⟩) lp,ef⟩;have:bK (hs++[f'])=bK (hs++[g]):=by unfold bK;rw[PP,PP,RX,RX];exact congrArg (λx=>hs.map (·.nm)++[x]) (congrArg Prod.fst hf2)
   rw[this,h4];exact(R5 _ _).nodup hnd
 have w:=hw.2;by_cases h:bG l (a+2) / 64 % 8=1
 . obtain⟨N,hN,hN1,hN8⟩:∃N:Nat,A3 (1+(bG l (a+2)+2) % 4+4=(N:Int)) (1<=N) (N<=8):=⟨_,(Rb (Rv (Rv (by decide) bm.1) (by decide))).symm,(OS bm.1 bm.2).1,(OS bm.1 bm.2).2⟩
   obtain⟨fs,fs',v6,v7,ok,e1,e2⟩:=main N hN1 hN8;rw[<- hN]at e1;exact kz (⟨ws,fs',⟨w,ok⟩,(R 16384 (hv (d+13) U) c3 ck (h3 (d+15) U) c4 c4 (dT h) e1 c4 e2 (same U))⟩)
 . obtain⟨N,hN,hN1,hN8⟩:∃N:Nat,A3 (1+(bG l (a+2)+2) % 4=(N:Int)) (1<=N) (N<=8):=⟨_,(Rb (Rv (by decide) bm.1)).symm,(OU bm.1 bm.2).1,(OU bm.1 bm.2).2⟩
   obtain⟨fs,fs',v6,v7,ok,e1,e2⟩:=main N hN1 hN8;rw[<- hN]at e1;exact kz (⟨ws,fs',⟨w,ok⟩,(R 16384 (hv (d+13) U) c3 ck (h3 (d+15) U) c4 c4 (dF h) e1 c4 e2 (same U))⟩)noncomputable def lst:RL->List Rw
 |.nil=>[]
 |.cons r b=>r::lst (b)theorem c8:∀b:RL,am b=(lst b).map aI
 |.nil=>rfl
 |.cons r b=>congrArg (aI r::·) (c8 b)theorem uS:∀l:List Rw,lst (jH l)=l
 |[]=>rfl
 |r::l=>congrArg (r::·) (uS l)theorem yL:∀b:RL,jH (lst b)=b
 |.nil=>rfl
 |.cons r b=>congrArg (RL.cons r) (yL b)variable {b:RL}{r:Rw}theorem re{Q:Rw->Prop}(h1:Q r)(h2:∀x∈lst b,Q x):∀x∈lst (.cons r b),Q x:=λx hx=>(PM.mp hx).elim (λe=>e▸h1) (h2 x)
theorem bS:∀{b:RL},fH ws cs b->∀r∈lst b,l9 ws cs r
 |.nil=>@λ_ r hr=>by cases hr
 |.cons r b=>@λh x hx=>re h.1 (bS h.2) x hx
theorem cp:∀{b:RL},∀r∈lst b,hR r<=hL b
 |.nil=>@λr hr=>by cases hr
 |.cons r b=>@λx hx=>re (RA ..) (λx hx=>iv (cp x hx) (Ro ..)) x hx
theorem D8:∀{b:RL},∀r∈lst b,nR r<=nL b
 |.nil=>@λr hr=>by cases hr
 |.cons r b=>@λx hx=>re (PU ..) (λx hx=>iv (D8 x hx) (P7 ..)) x (hx)noncomputable def dH:Rw->RL
 |.whn _ b=>b
 |.aga _ b=>b
 |_=>.nil
theorem ic(h:l9 ws cs r):fH ws cs (dH r):=by
 cases r with
 |whn t b=>exact h.2
 |aga n b=>exact h
 |_=>(trivial)theorem A0(r:Rw):nL (dH r)+1=nR r:=by cases r<;>rfl
theorem zC(h:r∈lst b)(hn:nL b<=n):nL (dH r)<=n:=iv (QZ (iv (Qk (A0 r)) (D8 r h))) (hn)variable {h:Nat}
theorem py(hh:hR r<=h+1):hL (dH r)<=h:=by
 cases r with
 |whn t b=>exact RD hh
 |aga n b=>exact RD hh
 |_=>exact PR _
theorem nQ(h:hR r<=0):dH r=.nil:=by
 cases r with
 |whn t b=>cases h
 |aga n b=>cases h
 |_=>(rfl)noncomputable def jB:Rw->List Tm
 |.set _ t=>[t]
 |.tell t=>[t]
 |.call _ _ ts=>ts
 |.whn t _=>[t]
 |.aga _ _=>[]def own(r:Rw):List Str:=(jB r).flatMap (cJ)noncomputable def Ga:Rw->Option Str
 |.set x _=>some x
 |.call o _ _=>o
 |_=>none
theorem qt(h:l9 ws cs r):(∀t∈jB r,lO ws t)/\(jB r).length<=7:=by
 have one:∀t,lO ws t->(∀u∈[t],lO ws u)/\[t].length<=7:=λt h=>⟨λu hu=>PL.mp hu▸h,P7 1 6⟩;cases r with
 |set x t=>exact one t h.2
 |tell t=>exact one t h
 |call o f ts=>exact⟨h.2.1,h.2.2.1⟩
 |whn t b=>exact one t h.1
 |aga n b=>exact⟨(λu hu=>by cases hu),PR _⟩variable {x:Str}theorem oE(h:l9 ws cs r)(hx:x∈own r):x∈ws:=by obtain⟨t,ht,q⟩:=Rp.mp hx;exact((qt h).1 t ht).1 x q
theorem JF(h:l9 ws cs r)(hx:Ga r=some x):x∈ws:=by
 cases r with
 |set y t=>injection hx with e;subst e;exact h.1
 |call o f ts=>exact h.1 x hx
 |_=>injection hx
theorem sf(r:Rw)(d:Nat)(U:ac):pc (d+1) 40 [.d (aI r)] U (ah (am (dH r))):=cI rfl rfl (by cases r<;>rfl)theorem pv(r:Rw)(d:Nat)(U:ac):pc (d+1) 39 [.d (aI r)] U (.d (fX (Ga r))):=cI rfl rfl (by cases r<;>rfl)theorem jT(r:Rw)(d:Nat)(U:ac):pc (d+1) 4 [.d (aI r)] U (.d (fX (Ga r))):=cI rfl rfl (by cases r<;>rfl)theorem r8(r:Rw)(d:Nat)(U:ac):pc (d+1) 2 [.d (aI r)] U (al ((jB r).map a9)):=cI rfl rfl (by cases r<;>rfl)noncomputable def sJ:Rw->Bool
 |.whn _ _=>true
 |.aga _ _=>true
 |_=>(false)theorem ml(r:Rw)(d:Nat)(U:ac):pc (d+1) 5 [.d (aI r)] U (.d (.bool (sJ r))):=cI rfl rfl (by cases r<;>rfl)theorem pr(r:Rw)(d:Nat)(U:ac):pc (d+2) 6 [.d (aI r)] U (ah (am (dH r))):=by have e:=ml r d U;have R:=aX prog 6 (d+1) [.d (aI r)] U rfl;cases r<;>exact(R 0 e (same U))
theorem DS(d:Nat)(v0 v1:V)(U:ac):∀(ts:List Tm) (acc:List Str) (v3:V),(∀t∈ts,lO ws t)->acc.length+ts.length * 4<=1000->∃v3',ba (aL prog.G (aj prog (d+3)) (.var 3) kE) (ts.map a9) [v0,v1,al (acc.map .str),v3] U=.ok (.next [v0,v1,al ((acc++ts.flatMap cJ).map .str),v3']) U:=by
 intro xs_
 induction xs_ with
 |nil=>intro acc v3 _ _;exact⟨v3,by rw[List.flatMap_nil,P4];rfl⟩
 |cons t ts ih_=>
   intro acc v3 h hl;have ht:=h t (PF ..);have hl:(acc++cJ t).length+ts.length * 4<=1000:=by rw[PX,S4,Qu _ 4,<- Qo]at hl;rw[PA];exact iv (PJ (Qe (uL ht) _) _) hl
   refine(ih_ (acc++cJ t) (.d (a9 t)) (λu hu=>h u (PD _ hu)) hl).elim λv3' ih=>?_;have ad:=kS (a:=acc.map .str) (b:=(cJ t).map .str) (by rw[Pa,Pa,<- PA];exact iv (QM hl) (by decide)) U;rw[<- PP]at ad;refine⟨v3',a6 (aP ((ch prog.G (aj prog (d+3)) kE [v0,v1,al (acc.map .str),.d (a9 t)] U 1 (lI ht d U) ad))) ?_⟩;rw[RH,<- PT];exact ih
theorem xJ(h:l9 ws cs r)(d:Nat)(U:ac):pc (d+4) 38 [.d (aI r)] U (al ((own r).map .str)):=by
 refine(qt h).elim λt1 t2=>?_;obtain⟨v',lp⟩:=DS d (.d (aI r)) (al ((jB r).map a9)) U (jB r) [] .un t1 (by rw[Q6,Ri];exact iv (Rq 4 t2) (by decide));have lp:=a7 (it:=.seq (.var 1)) (aZ rfl rfl) lp;have R:=aX prog 38 (d+3) [.d (aI r)] U rfl;clear t2 h t1;cases r with
 |aga n b=>exact cI rfl rfl rfl
 |set _ _=>exact(R 0 lp (same U))
 |tell _=>exact(R 0 lp (same U))
 |call _ _ _=>exact(R 0 lp (same U))
 |whn _ _=>exact(R 0 lp (same U))noncomputable def dk(L:List Str):List (Str×PyData):=L.map λk=>(k,.bool true)
theorem Lq(L:List Str)(k:Str):(dk L).any (λx=>decide (x.1=k))=decide (k∈L):=by
 induction L with
 |nil=>rfl
 |cons y L ih=>
   show (decide (y=k)||(dk L).any (λx=>decide (x.1=k)))=_;rw[ih];by_cases h:y=k
   . rw[h,decide_eq_true rfl,decide_eq_true (PF ..)];rfl
   . rw[decide_eq_false h,SM];exact decide_eq_decide.mpr ⟨λq=>PD _ q,λq=>(PM.mp q).resolve_left (Ne.symm h)⟩
theorem Ak(L:List Str)(k:Str):eZ k (.bool true) (dk L)=dk (iq L k):=by
 unfold eZ iq;rw[Lq];by_cases h:k∈L
 . rw[if_pos (decide_eq_true h),if_pos h];unfold dk;rw[Qv];refine Ry λy _=>?_;refine(?_:(if y=k then (y,PyData.bool true) else (y,PyData.bool true))=_);exact ite_self _
 . rw[if_neg λq=>h (of_decide_eq_true q),if_neg h];unfold dk;rw[PP];(rfl)theorem zf(L:List Str):(dk L).length=L.length:=Pa _
theorem eO{m:Bool}(h:U[n]?=some (.dct (dk L))):xT .list m [.loc n] U=bh m (L.map .str) U:=by refine(?_:oc (iF U (.loc n)) (λkvs=>bh m (kvs.map λx=>.str x.1) U) .bad=_);rw[gJ h];exact congrArg (bh m · U) (Qv)theorem g0(U:ac)(a:Cell)(g:List Cell):(U++a::g)[U.length]?=some a:=by rw[PW (P9 _),S5];(rfl)theorem st0(U:ac)(a a':Cell)(g:List Cell):(U++a::g).set U.length a'=U++a'::g:=by rw[TG _ _ (P9 _),S5];(rfl)variable {e:E}{g:List Cell}{F:List Str}{cf:Nat->List V->ac->Res V}theorem yp{o i:E}{k:Str}(h1:af prog.G cf e K (U++.dct (dk F)::g)=.ok (.d (.bool true)) (U++.dct (dk F)::g))(h2:af prog.G cf o K (U++.dct (dk F)::g)=.ok (.loc U.length) (U++.dct (dk F)::g))(h3:af prog.G cf i K (U++.dct (dk F)::g)=.ok (aA k) (U++.dct (dk F)::g))(hl:F.length<=8):exec prog.G cf (.put o i e) K (U++.dct (dk F)::g)=.ok (.next K) (U++.dct (dk (iq F k))::g):=by refine(IO h1 h2 h3 (g0 _ _ _) (by rw[zf];exact P6 hl (by decide))).trans ?_;rw[st0,Ak]
theorem DK(w7:ws.length<=8)(cf:Nat->List V->ac->Res V)(v0 v2:V)(U:ac):∀(ns F:List Str) (P:Str->Prop) (v3:V),(∀x∈ns,x∈ws)->(∀x,P x->x∈ws)->St F P->X2 λF' v3'=>St F' (λx=>P x\/x∈ns)/\ba (aL prog.G cf (.var 3) mc) (ns.map .str) [v0,.loc U.length,v2,v3] (U++[.dct (dk F)])=.ok (.next [v0,.loc U.length,v2,v3']) (U++[.dct (dk F')]):=by
 intro xs_
 induction xs_ with
 |nil=>intro F P v3 _ _ h;exact⟨F,v3,h.of λx=>⟨.inl,λq=>q.elim id λq=>by cases q⟩,rfl⟩
 |cons y ns ih_=>intro F P v3 hn hp h;obtain⟨F',v3',h',e⟩:=ih_ (iq F y) _ (aA y) (λx hx=>hn x (PD _ hx)) (λx q=>q.elim (hp x) λe=>e▸hn y (PF ..)) (h.add y);exact⟨F',v3',h'.of λx=>by rw[or_assoc,PM],a6 (aP (aT (yp rfl rfl rfl (h.few w7 hp)) rfl)) e⟩
theorem yK(w7:ws.length<=8)(d:Nat)(v0:V)(U:ac):∀(ts:List Tm) (F:List Str) (P:Str->Prop) (v2 v3:V),(∀t∈ts,lO ws t)->(∀x,P x->x∈ws)->St F P->X3 λF' v2' v3'=>St F' (λx=>P x\/x∈ts.flatMap cJ)/\ba (aL prog.G (aj prog (d+4)) (.var 2) ma) (ts.map a9) [v0,.loc U.length,v2,v3] (U++[.dct (dk F)])=.ok (.next [v0,.loc U.length,v2',v3']) (U++[.dct (dk F')]):=by
 intro xs_
 induction xs_ with
 |nil=>intro F P v2 v3 _ _ h;exact⟨F,v2,v3,h.of λx=>⟨.inl,λq=>q.elim id λq=>by cases q⟩,rfl⟩
 |cons t ts ih_=>intro F P v2 v3 hn hp h;have ht:=hn t (PF ..);refine kk λUc k=>?_;obtain⟨L,hL,e⟩:=dQ ht d (U++[.dct (dk F)]);obtain⟨LK,C2,bj,lp⟩:=DK w7 (aj prog (d+4)) v0 (.d (a9 t)) U L F P v3 (λx hx=>ht.1 x ((hL.mem x).mp hx)) hp h;obtain⟨F',v2',v3',h',ih⟩:=ih_ LK _ (.d (a9 t)) C2 (λu hu=>hn u (PD _ hu)) (λx q=>q.elim (hp x) λq=>ht.1 x ((hL.mem x).mp q)) bj;refine k ?_;exact⟨F',v2',v3',h'.of λx=>by rw[or_assoc,RH,PQ,hL.mem x],a6 (aP (aT (a7 (aZ (aM rfl e) rfl) lp) rfl)) ih⟩theorem hZ(w7:ws.length<=8)(h:l9 ws cs r)(d:Nat)(U:ac):∃L:List Str,St L (·∈own r)/\pc (d+5) 3 [.d (aI r)] U (al (L.map .str)):=by obtain⟨F,v2',v3',hF,lp⟩:=yK w7 d (.d (aI r)) U (jB r) [] _ .un .un (qt h).1 (λ_ q=>q.elim) St.nil;exact⟨F,hF.of λx=>⟨λq=>q.resolve_left id,.inr⟩,(aX prog 3 (d+4) [.d (aI r)] U rfl 1 (a7 (aZ (aM rfl (r8 r (d+3) _)) rfl) lp) (eO (aK _ _)) (cG _ _))⟩
mutual
def Bv(x:Str):Rw->Bool
 |.set y _=>decide (y=x)
 |.call o _ _=>decide (o=some x)
 |.aga n b=>decide (n > 0)&&gP x b
 |.tell _=>false
 |.whn _ _=>(false)def gP(x:Str):RL->Bool
 |.nil=>false
 |.cons r b=>Bv x r||gP x b
end
mutual
def yb(x:Str):Rw->Bool
 |.set y t=>decide (x∈own (.set y t))
 |.tell t=>decide (x∈own (.tell t))
 |.call o f ts=>decide (x∈own (.call o f ts))
 |.whn t b=>decide (x∈own (.whn t b))||dv x b
 |.aga n b=>decide (n > 0)&&dv x (b)def dv(x:Str):RL->Bool
 |.nil=>false
 |.cons r b=>yb x r||(!Bv x r&&dv x b)
end
theorem HL(x:Str)(t:Tm)(b:RL):yb x (.whn t b)=(decide (x∈own (.whn t b))||dv x b):=(rfl)theorem AO(x:Str)(n:Int)(b:RL):yb x (.aga n b)=(decide (n > 0)&&dv x b):=rfl
mutual
theorem ut(x:Str):∀r:Rw,l9 ws cs r->Bv x r=true->x∈ws
 |.set y _,h,q=>of_decide_eq_true q▸h.1
 |.call o _ _,h,q=>h.1 x (of_decide_eq_true q)
 |.aga _ b,h,q=>uu x b h (PI.mp q).2
theorem uu(x:Str):∀b:RL,fH ws cs b->gP x b=true->x∈ws
 |.cons r b,h,q=>(Qa.mp q).elim (ut x r h.1) (uu x b h.2)
end
mutual
theorem EW(x:Str):∀r:Rw,l9 ws cs r->yb x r=true->x∈ws
 |.set _ _=>@λh q=>oE h (of_decide_eq_true q)
 |.tell _=>@λh q=>oE h (of_decide_eq_true q)
 |.call _ _ _=>@λh q=>oE h (of_decide_eq_true q)
 |.whn t b=>@λh q=>(Qa.mp q).elim (λq=>oE h (of_decide_eq_true q)) (du x b h.2)
 |.aga _ b=>@λh q=>du x b h (PI.mp q).2
theorem du(x:Str):∀b:RL,fH ws cs b->dv x b=true->x∈ws
 |.cons r b,h,q=>(Qa.mp q).elim (EW x r h.1) λq=>du x b h.2 (PI.mp q).2
end
noncomputable def j0(a b:Bool):PyData:=.tuple [.bool a,.bool b]
theorem J8(o:Option Str)(x:Str)(U:ac):bC .eq (.d (fX o)) (aA x) U=some (decide (o=some x)):=by
 cases o with
 |none=>rw[decide_eq_false (λh=>by injection h)];rfl
 |some y=>show bC .eq (aA y) (aA x) U=_;rw[xN];exact congrArg some (decide_eq_decide.mpr Option.some_inj.symm)noncomputable def jY(s:Bool)(a b:Res Out):Res Out:=match s with
 |true=>a
 |false=>b
theorem BB(hr:l9 ws cs r)(x:Str)(d:Nat)(v0:V)(U:ac)(H:pc (d+4) 42 [ah (am (dH r)),aA x] U (.d (j0 (dv x (dH r)) (!gP x (dH r)))))(rd:Bool)(v3 v4:V) :
   ∃v4',aL prog.G (aj prog (d+4)) (.var 3) gy (aI r) (F5 v0 (aA x) (.d (.bool rd)) v3 v4) U=jY (Bv x r) (.ok (.ret (.d (j0 (rd||yb x r) false))) U) (.ok (.next (F5 v0 (aA x) (.d (.bool (rd||yb x r))) (.d (aI r)) v4')) U):=by
 have s1:=C1 (G:=prog.G) (e:=.var 2) (e':=.cmp .isIn (.var 1) (.call 38 (.cons (.var 3) .nil))) (K:=(F5 v0 (aA x) (.d (.bool rd)) (.d (aI r)) v4)) rfl λ_=>cN (cq rfl (aM rfl (xJ hr d U)) (eR _ _ _));have R:=ch prog.G (aj prog (d+4)) gy (F5 v0 (aA x) (.d (.bool rd)) (.d (aI r)) v4) U;have tg:=pv r (d+3) U;have te:=J8 (Ga r) x U;have s2:=λb (v:V)=>C1 (G:=prog.G) (cf:=aj prog (d+4)) (e:=.var 2) (e':=.idx (.var 4) (.int 0)) (K:=(F5 v0 (aA x) (.d (.bool (rd||decide (x∈own r)))) (.d (aI r)) (.d (j0 b (!gP x (dH r)))))) (U:=U) rfl λ_=>cN rfl;clear hr;cases r with
 |set y t=>
   show ∃_,_=jY (decide (y=x)) _ _;by_cases h:y=x
   . rw[decide_eq_true h];exact⟨v4,aP ((R 3073 s1 tg te (dT (congrArg some h))))⟩
   . rw[decide_eq_false h];exact⟨v4,aP ((R 3073 s1 tg te (dF λq=>h (Option.some.inj q))))⟩
 |tell t=>exact⟨v4,aP ((R 1 s1 tg))⟩
 |call o f ts=>
   show ∃_,_=jY (decide (o=some x)) _ _;by_cases h:o=some x
   . rw[decide_eq_true h];exact⟨v4,aP ((R 3073 s1 tg te (dT h)))⟩
   . rw[decide_eq_false h];exact⟨v4,aP ((R 3073 s1 tg te (dF h)))⟩
 |whn t b=>have e:(rd||yb x (.whn t b))=((rd||decide (x∈own (.whn t b)))||dv x b):=(Bool.or_assoc ..).symm;exact e▸⟨_,aP ((R 129 s1 H (s2 _ .un) tg))⟩
 |aga n b=>
   have e:(rd||decide (x∈own (.aga n b)))=rd:=Rs rd;refine(?_:∃_,_=jY (decide (n > 0)&&gP x b) (.ok (.ret (.d (j0 (rd||(decide (n > 0)&&dv x b)) false))) U) (.ok (.next (F5 v0 (aA x) (.d (.bool (rd||(decide (n > 0)&&dv x b)))) _ _)) U));rw[e]at s1 s2;by_cases h:n > 0
   . rw[decide_eq_true h,RK,RK];cases h2:gP x b with
     |true=>exact⟨v4,aP ((R 534529 s1 (dT h) H (s2 _ .un) (nT (congrArg (!·) h2))))⟩
     |false=>exact⟨_,aP ((R 534529 s1 (dT h) H (s2 _ .un) (nF (congrArg (!·) h2)) tg))⟩
   . rw[decide_eq_false h,RR,RR,Rs];exact⟨v4,aP ((R 2049 s1 (dF h) tg))⟩
theorem tw(x:Str)(d:Nat)(v0:V)(U:ac):∀(b:RL),fH ws cs b->(∀r∈lst b,pc (d+4) 42 [ah (am (dH r)),aA x] U (.d (j0 (dv x (dH r)) (!gP x (dH r)))))->∀(rd:Bool) (v3 v4:V),
   X2 λv3' v4'=>ba (aL prog.G (aj prog (d+4)) (.var 3) gy) (am b) (F5 v0 (aA x) (.d (.bool rd)) v3 v4) U=jY (gP x b) (.ok (.ret (.d (j0 (rd||dv x b) false))) U) (.ok (.next (F5 v0 (aA x) (.d (.bool (rd||dv x b))) v3' v4')) U)
 |.nil=>@λ_ _ rd v3 v4=>⟨v3,v4,by rw[show dv x .nil=false from rfl,Rs];rfl⟩
 |.cons r b=>@λh H rd v3 v4=>by
   obtain⟨vX,e⟩:=BB h.1 x d v0 U (H r (PF ..)) rd v3 v4;obtain⟨v3',v4',ih⟩:=tw x d v0 U b h.2 (λq hq=>H q (PD _ hq)) (rd||yb x r) (.d (aI r)) vX;refine⟨v3',v4',?_⟩;refine(show gP x (.cons r b)=(Bv x r||gP x b) from rfl)▸(show dv x (.cons r b)=(yb x r||(!Bv x r&&dv x b)) from rfl)▸?_;cases hs:Bv x r with
   |true=>rw[hs]at e;rw[Su,RR,Rs];exact jJ e
   |false=>rw[hs]at e;rw[Bool.not_false,RK,<- Bool.or_assoc];exact a6 e ih
theorem lH(x:Str):∀(h:Nat) (b:RL) (d:Nat) (U:ac),fH ws cs b->hL b<=h->pc (d+h+5) 42 [ah (am b),aA x] U (.d (j0 (dv x b) (!gP x b))):=by
 have fin:∀(b:RL) (d:Nat) (U:ac),fH ws cs b->(∀r∈lst b,pc (d+4) 42 [ah (am (dH r)),aA x] U (.d (j0 (dv x (dH r)) (!gP x (dH r)))))->pc (d+5) 42 [ah (am b),aA x] U (.d (j0 (dv x b) (!gP x b))):=λb d U ok H=>by
   obtain⟨v3',v4',e⟩:=tw x d (ah (am b)) U b ok H false .un .un;have R:=aX prog 42 (d+4) [ah (am b),aA x] U rfl;cases h2:gP x b with
   |true=>rw[h2]at e;exact(R 0 (a7 (aZ rfl rfl) e) (same U))
   |false=>rw[h2]at e;exact(R 0 (a7 (aZ rfl rfl) e) (same U))
 intro h
 induction h with
 |zero=>exact λb d U ok hh=>fin b d U ok λr hr=>by rw[nQ (iv (cp r hr) hh)];exact(λd U=>cI rfl rfl rfl) d U
 |succ h ih=>exact λb d U ok hh=>fin b (d+h+1) U ok λr hr=>ih (dH r) d U (ic (bS ok r hr)) (py (iv (cp r hr) hh))
theorem zW:∀(M:List Str) {F:List Str} {P:Str->Prop},St F P->St (M.foldl iq F) λx=>P x\/x∈M:=by
 intro xs_
 induction xs_ with
 |nil=>intro F P h;exact h.of λx=>⟨.inl,λq=>q.elim id λq=>by cases q⟩
 |cons y M ih_=>intro F P h;exact(ih_ (h.add y)).of λx=>by rw[or_assoc,PM]
theorem BJ:∀(M L:List Str),eH (dk L) (dk M)=dk (M.foldl iq L):=by
 intro xs_
 induction xs_ with
 |nil=>intro L;exact rfl
 |cons x M ih_=>intro L;have e:eH (dk L) (dk (x::M))=eH (eZ x (.bool true) (dk L)) (dk M):=rfl;rw[e,Ak,ih_,Ts]
theorem II{S:List Str}(hn:J[n]?=some (.dct (dk F)))(h1:F.length<=8)(h2:S.length<=8):x9 .update (.loc n) J [.loc J.length] (J++[.dct (dk S)])=.ok (.d .none) ((J.set n (.dct (dk (S.foldl iq F))))++[.dct (dk S)]):=by
 have hlt:=(Pz.mp hn).1;have e:sI .update J (.loc n)=true:=by show (iF J (.loc n)).isSome=true;rw[gJ hn];rfl
 unfold x9;rw[e];show Gb .update (.loc n) [.loc J.length] (J++[.dct (dk S)])=_;rw[Bo (by rw[P1 hlt];exact hn) (aK _ _) (QE hlt) (by rw[zf,zf];exact iv (Qb h1 h2) (by decide)),BJ,List.set_append_left _ _ hlt]theorem OA(U g:ac)(a c:Cell):(U++a::g)++[c]=U++a::(g++[c]):=PT ..
def ig(b:RL)(d:Nat):Prop:=∀U,∃S,St S (λx=>gP x b=true)/\aj prog d 8 [.d (.tuple (am b))] U=.ok (.loc U.length) (U++[.dct (dk S)])
theorem Bu(w7:ws.length<=8)(d:Nat)(v0:V)(U:ac){P:Str->Prop}(h:St F P)(hp:∀x,P x->x∈ws)(g:List Cell)(r:Rw)(ok:l9 ws cs r)(H:ig (dH r) (d+1))(v2:V) :
   X2 λF' g'=>St F' (λx=>P x\/Bv x r=true)/\aL prog.G (aj prog (d+1)) (.var 2) fL (aI r) [v0,.loc U.length,v2] (U++.dct (dk F)::g)=.ok (.next [v0,.loc U.length,.d (aI r)]) (U++.dct (dk F')::g'):=by
 have e:=jT r d (U++.dct (dk F)::g);have R:=ch prog.G (aj prog (d+1)) fL [v0,.loc U.length,.d (aI r)] (U++.dct (dk F)::g);have no:St F λx=>P x\/false=true:=h.of λx=>⟨.inl,λq=>q.elim id λq=>by injection q⟩;have some1:∀y,St (iq F y) λx=>P x\/decide (y=x)=true:=λy=>(h.add y).of λx=>or_congr Iff.rfl ⟨λq=>decide_eq_true q.symm,λq=>(of_decide_eq_true q).symm⟩;have pt:=λy (h:Ga r=some y)=>yp (K:=[v0,.loc U.length,.d (aI r)]) (o:=.var 1) (i:=.call 4 (.cons (.var 2) .nil)) (e:=.bool true) rfl rfl (aM rfl (by rw[h]at e;exact e)) (St.few ‹_› w7 hp);cases r with
 |set y t=>exact⟨_,g,some1 y,aP ((R 0 e (pt y rfl)))⟩
 |tell t=>exact⟨F,g,no,aP ((R 0 e))⟩
 |whn t b=>exact⟨F,g,no,aP ((R 0 e))⟩
 |call o f ts=>
   clear H ok;cases o with
   |none=>exact⟨F,g,no,aP ((R 0 e))⟩
   |some y=>exact⟨_,g,(some1 y).of λx=>or_congr Iff.rfl (by show _↔decide (some y=some x)=true;rw[decide_eq_true_iff,decide_eq_true_iff,Option.some_inj]),aP ((R 0 e (pt y rfl)))⟩
 |aga n b=>
   refine(?_:X2 λF' g'=>St F' (λx=>P x\/(decide (n > 0)&&gP x b)=true)/\_);by_cases q:n > 0
   . obtain⟨S,hS,eS⟩:=H (U++.dct (dk F)::g);have u:=II (g0 U (.dct (dk F)) g) (h.few w7 hp) (hS.few w7 λx=>uu x b ok);rw[st0,OA U g (.dct (dk (S.foldl iq F)))]at u;refine⟨S.foldl iq F,g++[.dct (dk S)],(zW S h).of λx=>?_,aP ((R 256 e (dT q) eS u))⟩;rw[decide_eq_true q,RK,hS.mem x];rfl
   . rw[decide_eq_false q];exact⟨F,g,no,aP ((R 256 e (dF q)))⟩
theorem sZ(w7:ws.length<=8)(d:Nat)(v0:V)(U:ac):∀(b:RL) {F:List Str} {P:Str->Prop} (g:List Cell) (v2:V),St F P->(∀x,P x->x∈ws)->fH ws cs b->(∀r∈lst b,ig (dH r) (d+1))->
   X3 λF' g' v2'=>St F' (λx=>P x\/gP x b=true)/\ba (aL prog.G (aj prog (d+1)) (.var 2) fL) (am b) [v0,.loc U.length,v2] (U++.dct (dk F)::g)=.ok (.next [v0,.loc U.length,v2']) (U++.dct (dk F')::g')
 |.nil,F,P,g,v2,h,_,_,_=>⟨F,g,v2,h.of λx=>⟨.inl,λq=>q.elim id λq=>by injection q⟩,rfl⟩
 |.cons r b,F,P,g,v2,h,hp,ok,H=>by refine kk λUc k=>?_;obtain⟨LK,EF,bj,e⟩:=Bu w7 d v0 U h hp g r ok.1 (H r (PF ..)) v2;obtain⟨F',g',v2',h',ih⟩:=sZ w7 d v0 U b EF (.d (aI r)) bj (λx q=>q.elim (hp x) (ut x r ok.1)) ok.2 λq hq=>H q (PD _ hq);refine k ?_;exact⟨F',g',v2',h'.of λx=>by rw[or_assoc,<- Qa];rfl,a6 e ih⟩
theorem xH(w7:ws.length<=8):∀(h:Nat) (b:RL) (d:Nat),fH ws cs b->hL b<=h->ig b (d+h+2):=by
 have fin:∀(b:RL) (d:Nat),fH ws cs b->(∀r∈lst b,ig (dH r) (d+1))->ig b (d+2):=λb d ok H U=>by obtain⟨F,g',v2',h,e⟩:=sZ w7 d (ah (am b)) U b [] .un St.nil (λ_ q=>q.elim) ok H;exact⟨F,h.of λx=>⟨λq=>q.resolve_left id,.inr⟩,Fx (g:=[]) (g':=g') rfl rfl (aT (kh rfl) (aT (a7 (aZ rfl rfl) e) (lZ (Dt rfl)))) rfl (.inr ⟨_,rfl⟩)⟩
 intro h
 induction h with
 |zero=>exact λb d ok hh=>fin b d ok λr hr=>by rw[nQ (iv (cp r hr) hh)];exact(λd U=>⟨[],St.nil.of λx=>⟨False.elim,λq=>by injection q⟩,Fx (g:=[]) (g':=[]) rfl rfl rfl rfl (.inr ⟨_,rfl⟩)⟩:∀d,ig .nil (d+1)) d
 |succ h ih=>exact λb d ok hh=>fin b (d+h+1) ok λr hr=>ih (dH r) d (ic (bS ok r hr)) (py (iv (cp r hr) hh))
theorem H8(L:List Str)(x:Str):((dk L).lookup x).isSome=decide (x∈L):=by
 induction L with
 |nil=>rfl
 |cons y L ih=>
   show (List.lookup x ((y,PyData.bool true)::dk L)).isSome=_;rw[P2];by_cases h:x=y
   . rw[h,beq_self_eq_true,decide_eq_true (PF ..)];rfl
   . rw[beq_false_of_ne h];exact ih.trans (decide_eq_decide.mpr ⟨λq=>PD _ q,λq=>(PM.mp q).resolve_left h⟩)
theorem Hn(h:U[n]?=some (.dct (dk L)))(x:Str):bC .isIn (aA x) (.loc n) U=some (decide (x∈L)):=by
 have e:aQ U (.loc n)=none:=by show U[n]?.bind Ku=_;rw[h];rfl
 refine(?_:oc (aQ U (.loc n)) (λl=>w0 (.str x) l) (oc (iF U (.loc n)) (λkvs=>some (kvs.lookup x).isSome) none)=_);rw[e,gJ h];exact congrArg some (H8 L x)theorem nh(h:U[n]?=some (.dct (dk L)))(x:Str):bC .notIn (aA x) (.loc n) U=some (!decide (x∈L)):=by show (bC .isIn (aA x) (.loc n) U).map _=_;rw[Hn h];(rfl)theorem g1(U:ac)(a b:Cell)(g:List Cell):(U++a::b::g)[U.length+1]?=some b:=by rw[PW (PU _ 1),Rt];(rfl)theorem Pe(U:ac)(a b b':Cell)(g:List Cell):(U++a::b::g).set (U.length+1) b'=U++a::b'::g:=by rw[TG _ _ (PU _ 1),Rt];rfl
theorem HO(w7:ws.length<=8)(cf:Nat->List V->ac->Res V)(v0 v3 v4:V)(U:ac)(Uc:List Str)(g:List Cell)(hm:m=U.length+1):∀(ns:List Str) {F:List Str} {P:Str->Prop} (v5:V),(∀x∈ns,x∈ws)->(∀x,P x->x∈ws)->St F P->X2 λF' v5'=>St F' (λx=>P x\/(x∈ns/\x∉Uc))/\ba (aL prog.G cf (.var 5) gz) (ns.map .str) (F6 v0 (.loc U.length) (.loc m) v3 v4 v5) (U++.dct (dk F)::.dct (dk Uc)::g)=.ok (.next (F6 v0 (.loc U.length) (.loc m) v3 v4 v5')) (U++.dct (dk F')::.dct (dk Uc)::g):=by
 intro xs_
 induction xs_ with
 |nil=>intro F P v5 _ _ h;exact⟨F,v5,h.of λx=>⟨.inl,λq=>q.elim id λq=>by cases q.1⟩,rfl⟩
 |cons y ns ih_=>
   intro F P v5 hn hp h;have hy:=hn y (PF ..);have hn:=λx hx=>hn x (PD _ hx);have ck:=nh (U:=U++.dct (dk F)::.dct (dk Uc)::g) (by exact hm▸g1 ..) y;by_cases q:y∈Uc
   . rw[decide_eq_true q]at ck;obtain⟨F',v5',h',e⟩:=ih_ (aA y) hn hp h;refine⟨F',v5',h'.of λx=>or_congr Iff.rfl ⟨λz=>⟨PD _ z.1,z.2⟩,λz=>⟨(PM.mp z.1).resolve_left λe=>z.2 (e▸q),z.2⟩⟩,a6 (aP ?_) e⟩;exact(ch prog.G cf gz (F6 v0 (.loc U.length) (.loc m) v3 v4 (aA y)) (U++.dct (dk F)::.dct (dk Uc)::g) 1 ck)
   . rw[decide_eq_false q]at ck;obtain⟨F',v5',h',e⟩:=ih_ (aA y) hn (λx z=>z.elim (hp x) λe=>e▸hy) (h.add y);refine⟨F',v5',h'.of λx=>?_,a6 (aP ?_) e⟩
     . rw[or_assoc,PM,or_and_right];exact or_congr Iff.rfl (or_congr ⟨λe=>⟨e,e▸q⟩,And.left⟩ Iff.rfl)
     . exact(ch prog.G cf gz (F6 v0 (.loc U.length) (.loc m) v3 v4 (aA y)) (U++.dct (dk F)::.dct (dk Uc)::g) 1 ck (yp rfl rfl rfl (h.few w7 hp)))def lK(b:RL)(d:Nat):Prop:=∀U,∃S,St S (λx=>dv x b=true)/\aj prog d 9 [.d (.tuple (am b))] U=.ok (.loc U.length) (U++[.dct (dk S)])
theorem y6(w7:ws.length<=8)(d:Nat)(v0:V)(U:ac){P Q:Str->Prop}(hF:St F P)(hp:∀x,P x->x∈ws)(hK:St Uc Q)(hq:∀x,Q x->x∈ws)(g:List Cell)(hm:m=U.length+1)(r:Rw)(ok:l9 ws cs r)(HS:ig (.cons r .nil) (d+5))(H:lK (dH r) (d+5))(v3 v4 v5:V) :
   X5 λF' K' g' v4' v5'=>A3 (St F' (λx=>P x\/(yb x r=true/\¬ Q x))) (St K' (λx=>Q x\/Bv x r=true)) (aL prog.G (aj prog (d+5)) (.var 3) cP (aI r) (F6 v0 (.loc U.length) (.loc m) v3 v4 v5) (U++.dct (dk F)::.dct (dk Uc)::g)=.ok (.next (F6 v0 (.loc U.length) (.loc m) (.d (aI r)) v4' v5')) (U++.dct (dk F')::.dct (dk K')::g')):=by
 obtain⟨L,hL,eL⟩:=hZ w7 ok d (U++.dct (dk F)::.dct (dk Uc)::g)
 -- the names are found: what follows
 have tail:∀(N:List Str) (g:List Cell),(∀x∈N,x∈ws)->X4 λF' K' g' v5'=>A3 (St F' (λx=>P x\/(x∈N/\¬ Q x))) (St K' (λx=>Q x\/Bv x r=true)) (∀{q:Res Out},q=.ok (.next (F6 v0 (.loc U.length) (.loc m) (.d (aI r)) (al (N.map .str)) v5')) (U++.dct (dk F')::.dct (dk K')::g')->execs prog.G (aj prog (d+5)) (tl (tl cP)) (F6 v0 (.loc U.length) (.loc m) (.d (aI r)) (al (N.map .str)) v5) (U++.dct (dk F)::.dct (dk Uc)::g)=q):=λN g hN=>by
   obtain⟨F',v5',h',e⟩:=HO w7 (aj prog (d+5)) v0 (.d (aI r)) (al (N.map .str)) U Uc g hm N v5 hN hp hF;obtain⟨S,hS,eS⟩:=HS (U++.dct (dk F')::.dct (dk Uc)::g);have hS:=hS.of λx=>by show (Bv x r||false)=true↔_;rw[Rs]
   have u:=II (J:=U++.dct (dk F')::.dct (dk Uc)::g) (n:=m) (by rw[hm];exact g1 ..) (hK.few w7 hq) (hS.few w7 λx=>ut x r ok);have es:(U++Cell.dct (dk F')::.dct (dk Uc)::g).set m (.dct (dk (S.foldl iq Uc)))++[.dct (dk S)]=U++.dct (dk F')::.dct (dk (S.foldl iq Uc))::(g++[.dct (dk S)]):=by rw[hm,Pe];exact PT ..
   rw[es]at u;refine⟨F',S.foldl iq Uc,g++[.dct (dk S)],v5',h'.of λx=>by rw[hK.mem x],(zW S hK).of λx=>by rw[hS.mem x],λ{q} hq=>?_⟩;rw[hq];exact(ch prog.G (aj prog (d+5)) (tl (tl cP)) (F6 v0 (.loc U.length) (.loc m) (.d (aI r)) (al (N.map .str)) v5) (U++.dct (dk F)::.dct (dk Uc)::g) 0 (a7 (aZ rfl rfl) e) eS u)
 have lw:∀x∈L,x∈ws:=λx hx=>oE ok ((hL.mem x).mp hx)
 -- with the names within,if they count
 have within:X2 λ(N:List Str) (g':List Cell)=>A3 ((∀x,x∈N↔yb x r=true)) ((∀x∈N,x∈ws)) (∀{q:Res Out},execs prog.G (aj prog (d+5)) (tl (tl cP)) (F6 v0 (.loc U.length) (.loc m) (.d (aI r)) (al (N.map .str)) v5) (U++.dct (dk F)::.dct (dk Uc)::g')=q->execs prog.G (aj prog (d+5)) (tl cP) (F6 v0 (.loc U.length) (.loc m) (.d (aI r)) (al (L.map .str)) v5) (U++.dct (dk F)::.dct (dk Uc)::g)=q):=by
   clear tail HS;have plain:(∀x,yb x r=decide (x∈own r))->∀x,x∈L↔yb x r=true:=λh x=>by rw[h x,hL.mem x,decide_eq_true_iff]
   have both:∃M:List Str,A4 ((∀x,x∈M↔dv x (dH r)=true)) ((fH ws cs (dH r))) (M.length<=8) (∃J,A4 (aj prog (d+5) 9 [ah (am (dH r))] (U++.dct (dk F)::.dct (dk Uc)::g)=.ok (.loc (U++.dct (dk F)::.dct (dk Uc)::g).length) J) (J=U++.dct (dk F)::.dct (dk Uc)::(g++[Cell.dct (dk M)])) (xT .list false [.loc (U++.dct (dk F)::.dct (dk Uc)::g).length] J=.ok (al (M.map .str)) J) (dj .add false (al (L.map .str)) (al (M.map .str)) J=.ok (al ((L++M).map .str)) J)):=by refine(H (U++.dct (dk F)::.dct (dk Uc)::g)).elim λM q9=>?_;have hM:=q9.1;have m7:=hM.few w7 λx=>du x _ (ic ok);refine⟨M,hM.mem,ic ok,m7,_,q9.2,PT ..,eO (aK _ _),?_⟩;rw[PP];exact kS (by rw[Pa,Pa];exact iv (Qb (hL.few w7 λx=>oE ok) m7) (by decide)) _
   clear H eL;clear ok;cases r with
   |set y t=>exact⟨L,g,plain λ_=>rfl,lw,λh=>uG rfl h⟩
   |tell t=>exact⟨L,g,plain λ_=>rfl,lw,λh=>uG rfl h⟩
   |call o f ts=>exact⟨L,g,plain λ_=>rfl,lw,λh=>uG rfl h⟩
   |whn t b=>refine kk λUc k=>?_;obtain⟨M,hM,okb,m7,J,e1,rfl,e3,e4⟩:=both;refine k ?_;refine⟨L++M,g++[Cell.dct (dk M)],λx=>?_,λx hx=>(PQ.mp hx).elim (lw x) λq=>du x _ okb ((hM x).mp q),λ{q} h=>aT (IP rfl (aT (kh (jX rfl (JC (iB (au e1 rfl)) e3) e4)) rfl)) h⟩;rw[PQ,hM x,hL.mem x,HL,Qa,decide_eq_true_iff];rfl
   |aga n b=>
     have nown:∀x,¬ x∈L:=λx hx=>by cases (hL.mem x).mp hx
     by_cases h:n > 0
     . refine kk λUc k=>?_;obtain⟨M,hM,okb,m7,J,e1,rfl,e3,e4⟩:=both;refine k ?_;refine⟨L++M,g++[Cell.dct (dk M)],λx=>?_,λx hx=>(PQ.mp hx).elim (lw x) λq=>du x _ okb ((hM x).mp q),λ{q} z=>aT (IP (C0 rfl (cN (qq rfl (cN (Gk (cq rfl rfl rfl) (decide_eq_true h)))))) (aT (kh (jX rfl (JC (iB (au e1 rfl)) e3) e4)) rfl)) z⟩;rw[PQ,hM x,AO,decide_eq_true h,RK];exact⟨λq=>q.resolve_left (nown x),.inr⟩
     . refine⟨L,g,λx=>?_,lw,λz=>uG (C0 rfl (cN (qq rfl (cN (Gk (cq rfl rfl rfl) (decide_eq_false h)))))) z⟩;rw[AO,decide_eq_false h,RR];exact⟨λq=>(nown x q).elim,λq=>by injection q⟩
 refine kk λUc k=>?_;obtain⟨N,g',hN,hw,e1⟩:=within;obtain⟨F',K',g'',v5',h1,h2,e2⟩:=tail N g' hw;refine k ?_;exact⟨F',K',g'',_,v5',h1.of λx=>by rw[hN x],h2,aP (aT (kh (aM rfl eL)) (e1 (e2 rfl)))⟩
theorem rO(w7:ws.length<=8)(d:Nat)(v0:V)(U:ac)(hm:m=U.length+1):∀(b:RL) {F Uc:List Str} {P Q:Str->Prop} (g:List Cell) (v3 v4 v5:V),St F P->(∀x,P x->x∈ws)->St Uc Q->(∀x,Q x->x∈ws)->fH ws cs b->(∀r∈lst b,ig (.cons r .nil) (d+5))->(∀r∈lst b,lK (dH r) (d+5))->
   X6 λF' c g' v3' v4' v5'=>St F' (λx=>P x\/(dv x b=true/\¬ Q x))/\ba (aL prog.G (aj prog (d+5)) (.var 3) cP) (am b) (F6 v0 (.loc U.length) (.loc m) v3 v4 v5) (U++.dct (dk F)::.dct (dk Uc)::g)=.ok (.next (F6 v0 (.loc U.length) (.loc m) v3' v4' v5')) (U++.dct (dk F')::c::g')
 |.nil,F,Uc,P,Q,g,v3,v4,v5,h,_,_,_,_,_,_=>⟨F,_,g,v3,v4,v5,h.of λx=>⟨.inl,λq=>q.elim id λq=>by cases q.1⟩,rfl⟩
 |.cons r b,F,Uc,P,Q,g,v3,v4,v5,hF,hp,hK,hq,ok,HS,H=>by refine kk λUc k=>?_;obtain⟨LK,Px,EF,vX,Mi,bj,Kz,e⟩:=y6 w7 d v0 U hF hp hK hq g hm r ok.1 (HS r (PF ..)) (H r (PF ..)) v3 v4 v5;obtain⟨F',c,g',v3',v4',v5',h',ih⟩:=rO w7 d v0 U hm b EF (.d (aI r)) vX Mi bj (λx q=>q.elim (hp x) λq=>EW x r ok.1 q.1) Kz (λx q=>q.elim (hq x) (ut x r ok.1)) ok.2 (λq hq=>HS q (PD _ hq)) λq hq=>H q (PD _ hq);refine k ?_;refine⟨F',c,g',v3',v4',v5',h'.of λx=>?_,a6 e ih⟩;show _↔P x\/((yb x r||(!Bv x r&&dv x b))=true/\¬ Q x);rw[or_assoc];refine or_congr Iff.rfl ?_;cases yb x r<;>cases Bv x r<;>cases dv x b<;>simp
variable {l:List (Str×PyData)}
theorem nB(h1:J.take U.length=U)(h2:J[U.length]?=some (.dct l)):nG U.length (.ret (.loc U.length)) J=.ok (.loc U.length) (U++[.dct l]):=by
 show (if U.length < U.length then _ else match J[U.length]? with
   |some (.lst l)=>Res.ok (V.loc U.length) (J.take U.length++[Cell.lst l])
   |some (.dct l)=>.ok (.loc U.length) (J.take U.length++[Cell.dct l])
   |_=>.bad)=_
 rw[if_neg (Rr _),h2,h1]theorem cS(U g:ac):(U++g).take U.length=U:=TD rfl
theorem ur(w7:ws.length<=8)(ok:fH ws cs b){D:Nat}(h:hL b+2<=D):ig b D:=by obtain⟨d,rfl⟩:=o0 h;exact xH w7 (hL b) b d ok (P9 _)theorem we(w7:ws.length<=8){b:RL}(ok:fH ws cs b)(hr:r∈lst b){D:Nat}(hh:hL b<=h)(hD:h+2<=D):ig (.cons r .nil) D:=ur (b:=.cons r .nil) w7 ⟨bS ok r hr,trivial⟩ (iv (PJ (QC.mpr ⟨iv (cp r hr) hh,PR _⟩) 2) hD)
theorem jU(w7:ws.length<=8):∀(h:Nat) (b:RL) (d:Nat),fH ws cs b->hL b<=h->lK b (d+h+6):=by
 have fin:∀(b:RL) (d:Nat),fH ws cs b->(∀r∈lst b,ig (.cons r .nil) (d+5))->(∀r∈lst b,lK (dH r) (d+5))->lK b (d+6):=λb d ok HS H U=>by
   obtain⟨F,c,g',v3',v4',v5',h,e⟩:=rO w7 d (ah (am b)) U (m:=(U++[Cell.dct []]).length) PA b [] .un .un .un St.nil (λ_ q=>q.elim) St.nil (λ_ q=>q.elim) ok HS H;have ea:U++Cell.dct (dk [])::.dct (dk [])::[]=(U++[.dct []])++[.dct []]:=by rw[PT];rfl
   rw[ea]at e;exact⟨F,h.of λx=>⟨λq=>(q.resolve_left id).1,λq=>.inr ⟨q,id⟩⟩,((wu prog 9 (d+5) [ah (am b)] U rfl 0 (a7 (aZ rfl rfl) e))).trans (nB (cS ..) (g0 ..))⟩
 intro h
 induction h with
 |zero=>exact λb d ok hh=>fin b d ok (λr hr=>we w7 ok hr hh (iv (by decide) (P7 5 d))) λr hr=>by rw[nQ (iv (cp r hr) hh)];exact(λd U=>⟨[],St.nil.of λx=>⟨False.elim,λq=>by injection q⟩,((wu prog 9 d [ah (am .nil)] U rfl 0 (a7 (aZ rfl rfl) rfl))).trans (nB (by rw[PT];exact cS ..) (by rw[PT];exact g0 ..))⟩:∀d,lK .nil (d+1)) (d+4)
 |succ h ih=>exact λb d ok hh=>fin b (d+h+1) ok (λr hr=>we w7 ok hr hh (by rw[Qo d,Qo d];exact iv (Qe (by decide) _) (P7 _ d))) λr hr=>ih (dH r) d (ic (bS ok r hr)) (py (iv (cp r hr) hh))noncomputable def nI(k:Nat):PyData:=.int (k:Int)def pD(p:List Nat):PyData:=.tuple (p.map nI)def aR(p:List Nat×Rw):PyData:=.tuple [pD p.1,aI p.2]
mutual
def vP(pl:List Nat):Rw->List (List Nat×Rw)
 |.whn _ b=>jt pl 0 b
 |.aga _ b=>jt pl 0 b
 |.set _ _=>[]
 |.tell _=>[]
 |.call _ _ _=>[]def jt(pl:List Nat)(k:Nat):RL->List (List Nat×Rw)
 |.nil=>[]
 |.cons r b=>(pl++[k],r)::(vP (pl++[k]) r++jt pl (k+1) b)
end
theorem uJ(pl:List Nat)(k:Nat):jt pl k .nil=[]:=(rfl)theorem uI(pl:List Nat)(r:Rw):vP pl r=jt pl 0 (dH r):=by cases r<;>rfl
mutual
theorem p7(pl:List Nat):∀r:Rw,(vP pl r).length+1=nR r
 |.whn _ b=>congrArg (·+1) (eI pl 0 b)
 |.aga _ b=>congrArg (·+1) (eI pl 0 b)
 |.set _ _=>rfl
 |.tell _=>rfl
 |.call _ _ _=>(rfl)theorem eI(pl:List Nat)(k:Nat):∀b:RL,(jt pl k b).length=nL b
 |.nil=>rfl
 |.cons r b=>by show (vP (pl++[k]) r++jt pl (k+1) b).length+1=nR r+nL b;rw[PA,eI pl (k+1) b,<- p7 (pl++[k]) r,QP]
end
theorem pR{pl:List Nat}(h:pl.length<=100)(k:Nat)(U:ac):dj .add false (.d (pD pl)) (ah [.int (k:Int)]) U=.ok (.d (pD (pl++[k]))) U:=by unfold pD;rw[PP];exact ie (by rw[Pa];exact iv (PN h) (by decide)) (U)theorem O5(L M N:List B)(x:B):(L++[x]++M)++N=L++x::(M++N):=by rw[PT,PT];(rfl)variable {l:List PyData}theorem mR(hl:l.length<=900000)(x:PyData):x9 .append (.loc U.length) (U++[.lst l]) [.d x] (U++[.lst l])=.ok (.d .none) (U++[.lst (l++[x])]):=by rw[FJ (aK _ _) hl,fU]theorem Lf{y:List PyData}(hl:l.length+y.length<=100000):x9 .extend (.loc U.length) (U++[.lst l]) [al y] (U++[.lst l])=.ok (.d .none) (U++[.lst (l++y)]):=by have e:sI .extend (U++[.lst l]) (.loc U.length)=true:=wR (aK _ _);unfold x9;rw[e];show Gb .extend (.loc U.length) [al y] (U++[.lst l])=_;rw[Ca (aK _ _) rfl (iv hl (by decide)),fU]
theorem Al{a:Nat}(pl:List Nat)(k:Nat)(r:Rw)(b:RL)(h:a+nL (.cons r b)<=n):a<=n/\a+1+(vP (pl++[k]) r).length+nL b<=n:=by
 have e:a+1+(vP (pl++[k]) r).length+nL b=a+nL (.cons r b):=by show _=a+(nR r+nL b);rw[<- p7 (pl++[k]) r,Qo a,Qu 1,Qo]
 exact⟨iv (PU _ _) h,e▸h⟩def kT(f:Nat)(b:RL)(pl:List Nat)(d:Nat):Prop:=∀U,pc d f [.d (pD pl),.d (.tuple (am b))] U (.d (.list ((jt pl 0 b).map aR)))
theorem sW{pl:List Nat}(hpl:pl.length<=100)(d:Nat)(v1:V)(U:ac):∀(b:RL) (k:Nat) (L:List PyData) (v3 v4:V),L.length+nL b<=9000->(∀r∈lst b,∀k,kT 7 (dH r) (pl++[k]) (d+2))->
   X2 λv3' v4'=>ba (aL prog.G (aj prog (d+2)) (.tup [3,4]) mB) (((am b).zipIdx k).map λp=>.tuple [.int p.2,p.1]) (F5 (.d (pD pl)) v1 (.loc U.length) v3 v4) (U++[.lst L])=.ok (.next (F5 (.d (pD pl)) v1 (.loc U.length) v3' v4')) (U++[.lst (L++(jt pl k b).map aR)])
 |.nil=>@λk L v3 v4 _ _=>⟨v3,v4,by rw[uJ,RE,P4];rfl⟩
 |.cons r b=>@λk L v3 v4 hl IH=>by
   obtain⟨h1,h2⟩:=Al pl k r b hl;have hl2:(L++[aR (pl++[k],r)]++(vP (pl++[k]) r).map aR).length+nL b<=9000:=by rw[PA,PA,Pa];exact h2
   obtain⟨v3',v4',ih⟩:=sW hpl d v1 U b (k+1) (L++[aR (pl++[k],r)]++(vP (pl++[k]) r).map aR) (.d (nI k)) (.d (aI r)) hl2 λx hx=>IH x (PD _ hx);have w:=IH r (PF ..) k (U++[.lst (L++[aR (pl++[k],r)])]);rw[<- uI]at w;rw[O5,<- PP]at ih;exact⟨v3',v4',a6 (d8 rfl ((ch prog.G (aj prog (d+2)) mB (F5 (.d (pD pl)) v1 (.loc U.length) (ak (k:Int)) (.d (aI r))) (U++[Cell.lst L]) 3 (pR hpl k _) (mR (iv h1 (by decide)) _) (pR hpl k _) (pr r d _) w (Lf (by rw[<- PA];exact iv (QM hl2) (by decide)))))) ih⟩theorem Gj{pl:List Nat}(hpl:pl.length<=100)(d:Nat)(hn:nL b<=9000)(IH:∀r∈lst b,∀k,kT 7 (dH r) (pl++[k]) (d+2)):kT 7 b pl (d+3):=λU=>by obtain⟨v3',v4',lp⟩:=sW hpl d (ah (am b)) U b 0 [] .un .un (by rw[Q6,Ri];exact hn) IH;exact(aX prog 7 (d+2) [.d (pD pl),ah (am b)] U rfl 0 (a7 (oH rfl) lp) (lv _ _) (cG _ _))
theorem oP{F:RL->List Nat->Nat->Prop}{c:Nat}(h0:∀pl d,F .nil pl (d+c))(h:∀(b:RL) (pl:List Nat) (d:Nat),pl.length<=100->nL b<=9000->(∀r∈lst b,∀k,F (dH r) (pl++[k]) (d+c))->F b pl (d+c+1)):∀(n:Nat) (b:RL) (pl:List Nat) (d:Nat),hL b<=n->nL b<=9000->pl.length+n<=100->F b pl (d+n+c+1)
 |0=>@λb pl d hh hn hp=>h b pl d hp hn λr hr k=>by rw[nQ (iv (cp r hr) hh)];exact h0 _ d
 |n+1=>@λb pl d hh hn hp=>h b pl (d+n+1) (iv (PU _ _) hp) hn λr hr k=>by have:=oP h0 h n (dH r) (pl++[k]) d (py (iv (cp r hr) hh)) (zC hr hn) (by rw[PA,Qo,Qu _ n];exact hp);rw[QP (d+n) 1 c];exact(this)theorem gb:∀(n:Nat) (b:RL) (pl:List Nat) (d:Nat),hL b<=n->nL b<=9000->pl.length+n<=100->kT 7 b pl (d+n+3):=oP (λpl d U=>(aX prog 7 (d+1) [.d (pD pl),ah (am .nil)] U rfl 0 (a7 (oH rfl) rfl) (lv _ _) (cG _ _))) λb pl d hp hn H=>Gj hp d hn (H)theorem LB{x:List PyData}(h:U[n]?=some (.lst x))(y:List PyData)(hl:x.length+y.length<=100000):dj .add true (.loc n) (al y) U=.ok (.loc U.length) (U++[.lst (x++y)]):=by show b2 (aQ U (.loc n)) (some y) (λx y=>if x.length+y.length<=LIM then bh true (x++y) U else .bad) .bad=_;rw[gV h];exact if_pos (iv hl (by decide))
theorem kL{l0 l:List B}(h:l0.drop k=a::l):l0[k]?=some a/\l0.drop (k+1)=l:=by
 constructor
 . have:=congrArg (λl=>l[0]?) h;rw[RY,Nat.add_zero]at this;exact this
 . rw[<- List.drop_drop,h];rfl
theorem o1{pl:List Nat}(hpl:pl.length<=100)(d:Nat)(b0:RL)(U:ac):∀(b:RL) (k:Nat) (L:List PyData) (g:ac) (v3:V),(am b0).drop k=am b->L.length+nL b<=9000->(∀r∈lst b,∀k,kT 41 (dH r) (pl++[k]) (d+1))->
   X2 λg' v3'=>ba (aL prog.G (aj prog (d+1)) (.var 3) gZ) ((List.range' k (am b).length).map λ(k:Nat)=>PyData.int (k:Int)) [.d (pD pl),ah (am b0),.loc (U++g).length,v3] ((U++g)++[.lst L])=.ok (.next [.d (pD pl),ah (am b0),.loc (U++g').length,v3']) ((U++g')++[.lst (L++(jt pl k b).map aR)])
 |.nil=>@λk L g v3 _ _ _=>⟨g,v3,by rw[uJ,RE,P4];rfl⟩
 |.cons r b=>@λk L g v3 hd hl IH=>by
   have q9:=Al pl k r b hl;have h1:=q9.1;have hl2:(L++[aR (pl++[k],r)]++(vP (pl++[k]) r).map aR).length+nL b<=9000:=by rw[PA,PA,Pa];exact q9.2
   have q9:=kL hd;have hk:=q9.1;have hI:∀J:ac,cK (ah (am b0)) (ak (k:Int)) J=some (.d (aI r)):=λJ=>by rw[df,hk];rfl
   obtain⟨g',v3',ih⟩:=o1 hpl d b0 U b (k+1) (L++[aR (pl++[k],r)]++(vP (pl++[k]) r).map aR) (g++[.lst (L++[aR (pl++[k],r)])]) (ak (k:Int)) q9.2 hl2 λx hx=>IH x (PD _ hx);have w:=IH r (PF ..) k ((U++g)++[.lst (L++[aR (pl++[k],r)])]);rw[<- uI]at w;rw[O5,<- PP,<- PT]at ih;exact⟨g',v3',a6 (aP ((ch prog.G (aj prog (d+1)) gZ [.d (pD pl),ah (am b0),.loc (U++g).length,ak (k:Int)] ((U++g)++[Cell.lst L]) 31 (pR hpl k _) (hI _) (mR (iv h1 (by decide)) _) (pR hpl k _) (hI _) (sf r d _) w (LB (aK (U++g) (.lst (L++[aR (pl++[k],r)]))) ((vP (pl++[k]) r).map aR) (by rw[<- PA];exact iv (QM hl2) (by decide)))))) ih⟩theorem gS:∀b:RL,(am b).length<=nL b
 |.nil=>P9 _
 |.cons r b=>by show (am b).length+1<=nR r+nL b;rw[Qu,<- A0 r];exact Qb (P7 ..) (gS b)theorem qF(h:n<=9000):-100000<=(n:Int)/\(n:Int)<=100000:=⟨QL (by decide) (Qg n),QV.mpr (iv h (by decide))⟩theorem BN{pl:List Nat}(hpl:pl.length<=100)(d:Nat)(hn:nL b<=9000)(IH:∀r∈lst b,∀k,kT 41 (dH r) (pl++[k]) (d+1)):kT 41 b pl (d+2):=λU=>by obtain⟨g',v3',lp⟩:=o1 hpl d b U b 0 [] [] .un rfl (by rw[Q6,Ri];exact hn) IH;rw[P4,<- R9,<- fk]at lp;exact(aX prog 41 (d+1) [.d (pD pl),ah (am b)] U rfl 0 (a7 (iC rfl (qF (iv (gS b) hn))) lp) (lv _ _) (by rw[PT];exact cS ..))theorem kO:∀(n:Nat) (b:RL) (pl:List Nat) (d:Nat),hL b<=n->nL b<=9000->pl.length+n<=100->kT 41 b pl (d+n+2):=oP (λpl d U=>(aX prog 41 d [.d (pD pl),ah (am .nil)] U rfl 0 (a7 (iC rfl (by decide)) rfl) (lv _ _) (cG _ _))) λb pl d hp hn H=>BN hp d hn (H)noncomputable def pI(a:Int)(ms:List Int)(z:Int):PyData:=.tuple (.int a::(ms.map PyData.int++[.int z]))noncomputable def gi{B:Type}(l:List B)(i:Int):Option B:=if 0<=i then l[i.toNat]? else none
theorem g9(l:List B)(k:Nat):gi l (k:Int)=l[k]?:=if_pos (Qg k)variable {l:List B}
theorem AJ(hn:l.length=n):(0<=i/\i < (n:Int))↔(gi l i).isSome=true:=by
 subst hn;unfold gi;by_cases h:0<=i
 . obtain⟨k,rfl⟩:=QS h;rw[if_pos h];show (0<=(k:Int)/\(k:Int) < (l.length:Int))↔(l[k]?).isSome=true;rw[Qh];exact⟨λq=>⟨_,PB (Qp.mp q.2)⟩,λ⟨a,q⟩=>⟨h,Qp.mpr (Pz.mp q).1⟩⟩
 . rw[if_neg h];exact⟨λq=>(h q.1).elim,λq=>by injection q⟩variable {G:Nat->Option PyData}
theorem CZ{a b:E}{n:Int}(h1:af G cf a K U=.ok (ak i) U)(h2:af G cf b K U=.ok (ak n) U):af G cf (.cmp2 .le .lt (.int 0) a b) K U=.ok (.d (.bool (decide (0<=i/\i < n)))) U:=by
 rw[vj];refine au rfl (au h1 (au rfl ?_));by_cases h:0<=i
 . rw[decide_eq_true h];refine(au h2 rfl:_=Res.ok (V.d (.bool (decide (i < n)))) U).trans ?_;rw[decide_eq_decide.mpr (show (i < n)↔(0<=i/\i < n) from ⟨λq=>⟨h,q⟩,And.right⟩)]
 . rw[decide_eq_false h];show Res.ok (V.d (.bool false)) U=_;rw[decide_eq_false λq=>h q.1]
theorem Bn{a b:E}(hn:l.length=n)(h1:af G cf a K U=.ok (ak i) U)(h2:af G cf b K U=.ok (ak n) U):af G cf (.cmp2 .le .lt (.int 0) a b) K U=.ok (.d (.bool (gi l i).isSome)) U:=by
 rw[CZ h1 h2];cases hs:(gi l i).isSome with
 |true=>rw[decide_eq_true ((AJ hn).mpr hs)]
 |false=>rw[decide_eq_false λq=>by rw[(AJ hn).mp q]at hs;injection hs]theorem bB(b:RL):(lst b).length=(am b).length:=by rw[c8,Pa]
theorem jo(h:gi (lst b) i=some r)(U:ac):cK (ah (am b)) (ak i) U=some (.d (aI r)):=by
 unfold gi at h;by_cases q:0<=i
 . obtain⟨k,rfl⟩:=QS q;rw[if_pos q]at h;have h:(lst b)[k]?=some r:=h;show cK _ (ak (k:Int)) U=_;rw[df,c8,Qc,h];rfl
 . rw[if_neg q]at h;injection h
theorem bE(h:fs[j]?=some f)(U:ac):cK (ah (fs.map ao)) (ak (j:Int)) U=some (.d (ao f)):=by rw[df,Qc,h];(rfl)theorem vz(h:sJ r=true)(U:ac):cK (.d (aI r)) (ak 2) U=some (ah (am (dH r))):=by cases r<;>first|rfl|injection h
theorem lg(a:Int)(ms:List Int)(z:Int)(U:ac):cK (.d (pI a ms z)) (ak (-1)) U=some (ak z):=xa (.int a::ms.map PyData.int) (.int z) U
theorem By(a:B)(l:List B)(x:B):aC (a::(l++[x])) (some 1) (some (-1))=l:=by
 have e:(-1:Int)+((a::(l++[x])).length:Int)=((l.length+1:Nat):Int):=by rw[PX,PA,QQ];exact Kn _
 have h:jq (a::(l++[x])).length (-1)=l.length+1:=by unfold jq;rw[if_pos (by decide),e,SR (QV.mpr (by rw[PX,PA];exact PU ..)),Sh (Qg _)];rfl
 refine(?_:((a::(l++[x])).drop (jq (a::(l++[x])).length ((1:Nat):Int))).take (jq (a::(l++[x])).length (-1) - jq (a::(l++[x])).length ((1:Nat):Int))=l);rw[h,kN,Qm (by rw[PX];exact P7 ..),Nat.add_sub_cancel];exact TD (rfl)theorem yz(a:Int)(ms:List Int)(z:Int)(U:ac):gq false (.d (pI a ms z)) (some (ak 1)) (some (ak (-1))) U=.ok (ah (ms.map PyData.int)) U:=by unfold pI;rw[gp _ _ (fu _) (fu _),By]theorem ld(a:Int)(ms:List Int)(z:Int):¬ (((PyData.int a::(ms.map PyData.int++[.int z])).length:Nat):Int) < 2:=λq=>by rw[PX,PA]at q;exact absurd (Qp.mp q) (SN.mpr (P7 2 _))def j2(b:RL):List Int->Option RL
 |[]=>some b
 |i::is=>match gi (lst b) i with
   |some r=>match sJ r with
     |true=>j2 (dH r) is
     |false=>none
   |none=>(none)theorem uh(b:RL)(i:Int)(is:List Int):j2 b (i::is)=(match gi (lst b) i with|some r=>(match sJ r with|true=>j2 (dH r) is|false=>none) | none=>none):=(rfl)theorem ug(h:gi (lst b) i=none)(is:List Int):j2 b (i::is)=none:=by rw[uh,h]theorem on(h:gi (lst b) i=some r)(hb:sJ r=false)(is:List Int):j2 b (i::is)=none:=by rw[uh,h];show (match sJ r with|true=>_|false=>_)=_;rw[hb]theorem pU(h:gi (lst b) i=some r)(hb:sJ r=true)(is:List Int):j2 b (i::is)=j2 (dH r) is:=by rw[uh,h];show (match sJ r with|true=>_|false=>_)=_;rw[hb]noncomputable def Pv(o:Option RL)(f:RL->Fm)(U:ac):Res Out:=match o with
 |some c=>.ok (.next (f c)) U
 |none=>.ok (.exc 1 []) (U)def O4(o:Option RL):V:=match o with
 |some c=>.d (.tuple (am c))
 |none=>.exc 1 []theorem km(a:Int)(ms:List Int)(z:Int)(U:ac):cK (.d (pI a ms z)) (ak 0) U=some (ak a):=df ..
theorem Ik(d:Nat)(v0 v1:V)(U:ac):∀(ms:List Int) (b:RL) (v3:V),∃v3',ba (aL prog.G (aj prog (d+1)) (.var 3) jM) (ms.map PyData.int) [v0,v1,ah (am b),v3] U=Pv (j2 b ms) (λc=>[v0,v1,ah (am c),v3']) U:=by
 intro xs_
 induction xs_ with
 |nil=>intro b v3;exact⟨v3,rfl⟩
 |cons i is ih_=>
   intro b v3;have c1:=Bn (G:=prog.G) (cf:=aj prog (d+1)) (a:=.var 3) (b:=.bi .len false (.cons (.var 2) .nil)) (K:=[v0,v1,ah (am b),ak i]) (U:=U) (bB b) rfl rfl;have R:=ch prog.G (aj prog (d+1)) jM [v0,v1,ah (am b),ak i] U;cases hr:gi (lst b) i with
   |none=>rw[hr]at c1;rw[ug hr];exact⟨.un,Eg (aP ((R 0 c1)))⟩
   |some r=>
     replace c1:=hr▸c1;have gr:=jo hr U;have hh:=ml r d U;cases hb:sJ r with
     |false=>rw[hb]at hh;rw[on hr hb];exact⟨.un,Eg (aP ((R 4 c1 gr hh)))⟩
     |true=>rw[hb]at hh;rw[pU hr hb];refine(ih_ (dH r) (ak i)).elim λv3' ih=>?_;exact⟨v3',a6 (aP ((R 52 c1 gr hh gr (vz hb U)))) ih⟩
theorem ka(hj:fs[j]?=some f)(ms:List Int)(z:Int)(d:Nat)(U:ac):pc (d+2) 10 [ah (fs.map ao),.d (pI (j:Int) ms z)] U (O4 (j2 f.rs ms)):=by
 refine(Ik d (ah (fs.map ao)) (.d (pI (j:Int) ms z)) U ms f.rs .un).elim λv3' lp=>?_;have c0:=Bn (G:=prog.G) (cf:=aj prog (d+1)) (a:=.idx (.var 1) (.int 0)) (b:=.bi .len false (.cons (.var 0) .nil)) (K:=[ah (fs.map ao),.d (pI (j:Int) ms z),.un,.un]) (U:=U) (Pa _).symm (bZ rfl rfl (km ..)) rfl;rw[g9,hj]at c0;have R:=aX prog 10 (d+1) [ah (fs.map ao),.d (pI (j:Int) ms z)] U rfl;have gf:=bE hj U;have it:=aZ (qp (G:=prog.G) (cf:=aj prog (d+1)) (a:=.var 1) (lo:=.cons (.int 1) .nil) (hi:=.cons (.neg (.int 1)) .nil) (K:=[ah (fs.map ao),.d (pI (j:Int) ms z),ah (am f.rs),.un]) rfl rfl rfl (yz (j:Int) ms z U)) rfl;cases hw:j2 f.rs ms with
 |some c=>rw[hw]at lp;exact(R 104 (dF (ld _ _ _)) c0 (km (j:Int) ms z U) gf (a7 it lp) (same U))
 |none=>replace lp:=hw▸lp;exact(R 104 (dF (ld _ _ _)) c0 (km (j:Int) ms z U) gf (a7 it lp) (same U))theorem uk{a:Int}(ha:gi fs a=none)(ms:List Int)(z:Int)(d:Nat)(U:ac):pc (d+2) 10 [ah (fs.map ao),.d (pI a ms z)] U (.exc 1 []):=by have c0:=Bn (G:=prog.G) (cf:=aj prog (d+1)) (a:=.idx (.var 1) (.int 0)) (b:=.bi .len false (.cons (.var 0) .nil)) (K:=[ah (fs.map ao),.d (pI a ms z),.un,.un]) (U:=U) (Pa _).symm (bZ rfl rfl (km ..)) rfl;rw[ha]at c0;exact(aX prog 10 (d+1) [ah (fs.map ao),.d (pI a ms z)] U rfl 8 (dF (ld _ _ _)) c0 (same U))def N5:Option Rw->V
 |some r=>.d (aI r)
 |none=>.exc 1 []variable {z:Int}{ms:List Int}{v:PyData}{c:RL}
theorem BE{a:Int}(d:Nat)(U:ac)(h:pc (d+2) 10 [.d v,.d (pI a ms z)] U (ah (am c))):pc (d+3) 11 [.d v,.d (pI a ms z)] U (N5 (gi (lst c) z)):=by
 have c0:=Bn (G:=prog.G) (cf:=aj prog (d+2)) (a:=.idx (.var 1) (.neg (.int 1))) (b:=.bi .len false (.cons (.var 2) .nil)) (K:=[.d v,.d (pI a ms z),ah (am c)]) (bB c) (bZ rfl rfl (lg a ms z U)) rfl;have R:=aX prog 11 (d+2) [.d v,.d (pI a ms z)] U rfl;cases hz:gi (lst c) z with
 |none=>rw[hz]at c0;exact(R 0 h c0 (same U))
 |some r=>rw[hz]at c0;exact(R 6 h c0 (lg a ms z U) (jo hz U) (same U))
inductive Pth:RL->List Nat->RL->Prop
 |nil (b:RL):Pth b [] b
 |cons {b c:RL} {r:Rw} {k:Nat} {ks:List Nat}:(lst b)[k]?=some r->sJ r=true->Pth (dH r) ks c->Pth b (k::ks) c
noncomputable def iN(p:List Nat):List Int:=p.map λ(k:Nat)=>(k:Int)noncomputable def aJ(j:Nat)(pre:List Nat)(z:Nat):List Nat:=j::(pre++[z])theorem l6(j:Nat)(pre:List Nat)(z:Nat):pD (aJ j pre z)=pI (j:Int) (iN pre) (z:Int):=by unfold pD aJ pI iN;rw[Qq,PP,Qv];(rfl)variable {pre:List Nat}
theorem qm(h:Pth b pre c):j2 b (iN pre)=some c:=by
 induction h with
 |nil b=>rfl
 |@cons b c r k ks hk hb _ ih=>exact(pU ((g9 _ k).trans hk) hb (iN ks)).trans (ih)variable {z:Nat}theorem iK(hj:fs[j]?=some f)(hp:Pth f.rs pre c)(hz:(lst c)[z]?=some r)(d:Nat)(U:ac):pc (d+3) 11 [ah (fs.map ao),.d (pD (aJ j pre z))] U (.d (aI r)):=by have e:=ka hj (iN pre) (z:Int) d U;rw[qm hp]at e;unfold pc;rw[l6,BE d U e,g9,hz];rfl
mutual
theorem DO(pl:List Nat):∀(r:Rw) (p:List Nat×Rw),p∈vP pl r->sJ r=true/\X3 λ(pre:List Nat) (z:Nat) (c:RL)=>A3 (p.1=pl++(pre++[z])) (Pth (dH r) pre c) ((lst c)[z]?=some p.2)
 |.whn t b=>@λp hp=>⟨rfl,kj pl b b 0 rfl p hp⟩
 |.aga n b=>@λp hp=>⟨rfl,kj pl b b 0 rfl p hp⟩
 |.set _ _=>@λp hp=>by cases hp
 |.tell _=>@λp hp=>by cases hp
 |.call _ _ _=>@λp hp=>by cases hp
theorem kj(pl:List Nat)(b0:RL):∀(b:RL) (k:Nat),(lst b0).drop k=lst b->∀p∈jt pl k b,X3 λ(pre:List Nat) (z:Nat) (c:RL)=>A3 (p.1=pl++(pre++[z])) (Pth b0 pre c) ((lst c)[z]?=some p.2)
 |.nil=>@λk _ p hp=>by cases hp
 |.cons r b=>@λk hd p hp=>by
   obtain⟨g,hd'⟩:=kL hd;rcases PM.mp hp with rfl|hp
   . exact⟨[],k,b0,rfl,.nil b0,g⟩
   . rcases PQ.mp hp with hp|hp
     . obtain⟨hb,pre,z,c,e,h1,h2⟩:=DO _ r p hp;exact⟨k::pre,z,c,by rw[e,PT];rfl,.cons g hb h1,h2⟩
     . exact kj pl b0 b (k+1) hd' p hp
end
theorem gv(h:Pth b pre c):pre.length<=hL b:=by
 induction h with
 |nil b=>exact PR _
 |@cons b c r k ks hk hb _ ih=>
   have h2:hL (dH r)+1=hR r:=by cases r<;>first|rfl|injection hb
   exact iv (PN ih) (iv (Qk h2) (cp r (PC hk)))def bQ(n:Nat)(b:RL):RL:=jH ((lst b).drop n)theorem vk(h:fH ws cs b):fH ws cs (bQ n b):=my _ λr hr=>bS h r (QF hr)theorem vm(h:hL b<=m):hL (bQ n b)<=m:=rI _ λr hr=>iv (cp r (QF hr)) h
theorem fj(b:RL)(k:Nat)(U:ac):gq false (ah (am b)) (some (ak ((k:Int)+1))) none U=.ok (ah (am (bQ (k+1) b))) U:=by
 have e:am (bQ (k+1) b)=(am b).drop (k+1):=by unfold bQ;rw[jA,c8,Re]
 rw[gp _ _ (fu _) gw,e];exact congrArg (λx=>Res.ok (ah x) U) (mr (am b) (k+1))def lN(x:Str)(Ud:RL)(l:Bool):Bool:=dv x Ud||(!gP x Ud&&l)def Li(x:Str)(r:Rw)(l:Bool):Bool:=match r with
 |.aga n b=>l||(decide (n > 1)&&dv x b)
 |_=>(l)def uW(x:Str):RL->List Nat->Nat->Bool->Bool
 |b,[],z,l=>lN x (bQ (z+1) b) l
 |b,k::ks,z,l=>match (lst b)[k]? with
   |some r=>uW x (dH r) ks z (Li x r (lN x (bQ (k+1) b) l))
   |none=>(l)theorem Ep(x:Str)(b:RL)(k:Nat)(ks:List Nat)(z:Nat)(l:Bool):uW x b (k::ks) z l=(match (lst b)[k]? with|some r=>uW x (dH r) ks z (Li x r (lN x (bQ (k+1) b) l)) | none=>l):=(rfl)theorem rB(h:(lst b)[k]?=some r)(ks:List Nat)(z:Nat)(l:Bool):uW x b (k::ks) z l=uW x (dH r) ks z (Li x r (lN x (bQ (k+1) b) l)):=by rw[Ep,h]variable {i:Nat}
theorem IG{Ud:RL}{l:Bool}(h1:af prog.G cf (.var i) K U=.ok (.d (j0 (dv x Ud) (!gP x Ud))) U)(h2:af prog.G cf (.var 5) K U=.ok (.d (.bool l)) U):af prog.G cf (.bop false (.cons (.idx (.var i) (.int 0)) (.cons (.bop true (.cons (.idx (.var i) (.int 1)) (.cons (.var 5) .nil))) .nil))) K U=.ok (.d (.bool (lN x Ud l))) U:=
 C1 (bZ h1 rfl rfl) λ_=>cN (lU (bZ h1 rfl rfl) λ_=>cN h2)
theorem Hi(d:Nat)(x:Str)(v0 v1 v3:V)(U:ac):∀(pre:List Nat) (b c:RL) (l:Bool) (v6 v7 v8:V),Pth b pre c->fH ws cs b->hL b<=18->X4 λl' v6' v7' v8'=>A4 (ba (aL prog.G (aj prog (d+23)) (.var 6) g6) ((iN pre).map PyData.int) (F9 v0 v1 (aA x) v3 (ah (am b)) (.d (.bool l)) v6 v7 v8) U=.ok (.next (F9 v0 v1 (aA x) v3 (ah (am c)) (.d (.bool l')) v6' v7' v8')) U) ((∀z,uW x b pre z l=uW x c [] z l')) (fH ws cs c) (hL c<=18):=by
 intro xs_
 induction xs_ with
 |nil=>intro b c l v6 v7 v8 h ok h9;cases h;exact⟨l,v6,v7,v8,rfl,λz=>rfl,ok,h9⟩
 |cons k ks ih_=>
   intro b c l v6 v7 v8 h ok h9;cases h with
   |@cons _ _ r _ _ hk hb hp=>
   have hr:=PC hk;have okr:=bS ok r hr;have h8:hL (dH r)<=18:=py (iv (iv (cp r hr) h9) (by decide));obtain⟨l',v6',v7',v8',ih,h2,h3,h4⟩:=ih_ (dH r) c (Li x r (lN x (bQ (k+1) b) l)) (ak (k:Int)) (.d (j0 (dv x (bQ (k+1) b)) (!gP x (bQ (k+1) b)))) (.d (aI r)) hp (ic okr) h8;have sc:=lH x 18 (bQ (k+1) b) d U (vk ok) (vm h9);have sc2:=lH x 18 (dH r) d U (ic okr) h8;have gr:=jo ((g9 _ k).trans hk) U;have sl:=fj b k U;have R:=ch prog.G (aj prog (d+23)) g6 (F9 v0 v1 (aA x) v3 (ah (am b)) (.d (.bool l)) (ak (k:Int)) v7 v8) U;have vo:=IG (cf:=aj prog (d+23)) (K:=(F9 v0 v1 (aA x) v3 (ah (am b)) (.d (.bool l)) (ak (k:Int)) (.d (j0 (dv x (bQ (k+1) b)) (!gP x (bQ (k+1) b)))) v8)) (U:=U) (i:=7) rfl rfl;refine⟨l',v6',v7',v8',a6 (aP ?_) ih,λz=>by rw[rB hk,h2 z],h3,h4⟩;clear ih;clear h2;clear hr okr h8 hp hk;cases r with
   |whn t b'=>exact(R 14 sl sc vo gr)
   |aga n b'=>
     have e:Li x (.aga n b') (lN x (bQ (k+1) b) l)=(lN x (bQ (k+1) b) l||(decide (n > 1)&&dv x b')):=rfl;rw[e];by_cases h:n > 1
     . rw[decide_eq_true h,RK];exact(R 6158 sl sc vo gr (dT h) (C1 rfl λ_=>cN (bZ (aM rfl sc2) rfl rfl)))
     . rw[decide_eq_false h,RR,Rs];exact(R 2062 sl sc vo gr (dF h))
   |set _ _=>injection hb
   |tell _=>injection hb
   |call _ _ _=>injection hb
theorem vw(hj:fs[j]?=some f)(of:okF ws cs f)(hp:Pth f.rs pre c)(x:Str)(d:Nat)(U:ac):pc (d+24) 43 [ah (fs.map ao),.d (pD (aJ j pre z)),aA x] U (.d (.bool (uW x f.rs pre z (decide (x∈cJ f.t))))):=by obtain⟨l',v6',v7',v8',lp,h2,h3,h4⟩:=Hi d x (ah (fs.map ao)) (.d (pI (j:Int) (iN pre) (z:Int))) (.d (ao f)) U pre f.rs c (decide (x∈cJ f.t)) .un .un .un hp of.rs of.h9;rw[h2 z,l6];have sc:=lH x 18 (bQ (z+1) c) d U (vk h3) (vm h4);exact(aX prog 43 (d+23) [ah (fs.map ao),.d (pI (j:Int) (iN pre) (z:Int)),aA x] U rfl 435 (km ..) (bE hj U) (lI of.t (d+20) U) (eR ..) (a7 (aZ (qp (G:=prog.G) (cf:=aj prog (d+23)) (m:=false) (a:=.var 1) (lo:=.cons (.int 1) .nil) (hi:=.cons (.neg (.int 1)) .nil) (K:=(F9 (ah (fs.map ao)) (.d (pI (j:Int) (iN pre) (z:Int))) (aA x) (.d (ao f)) (ah (am f.rs)) (.d (.bool (decide (x∈cJ f.t)))) .un .un .un)) rfl rfl rfl (yz (j:Int) (iN pre) (z:Int) U)) rfl) lp) (lg ..) ((fj c z U)) sc (IG rfl rfl) (same U))
structure Nm(ws N:List Str)(P:Str->Bool)(n:Nat):Prop where
 mem:∀x,x∈N↔P x=true
 inw:∀x∈N,x∈ws
 len:N.length<=n
theorem dp(Q:List Nat)(h:Q[m]?=some k)(U:ac):cK (.d (pD Q)) (ak (m:Int)) U=some (ak (k:Int)):=by unfold pD;rw[df,Qc,h];(rfl)theorem vZ(J:ac)(a b c:Cell):((J++[a])++[b]++[c])[J.length]?=some a:=by rw[PT,PT];exact g0 ..
variable {N:List Str}
theorem Av(w7:ws.length<=8)(d:Nat)(v0 v2:V){Q:List Nat}(hm:Q[m]?=some k){b:RL}(hk:(lst b)[k]?=some r)(ok:fH ws cs b)(h9:hL b<=18){P:Str->Bool}(hN:Nm ws N P n)(h1:n<=1000)(v5 v6 v7 v8 v9:V)(J:ac)(more:Bool)(hmore:decide ((m:Int) < ((Q.map nI).length:Int) - 1)=more)(hb:more=true->sJ r=true) :
   X4 λN' g v6' v7'=>Nm ws N' (λx=>bif more then Li x r (lN x (bQ (k+1) b) (P x)) else lN x (bQ (k+1) b) (P x)) (n+16)/\aL prog.G (aj prog (d+25)) (.var 5) jO (.int (m:Int)) (IA v0 (.d (pD Q)) v2 (ah (am b)) (al (N.map .str)) v5 v6 v7 v8 v9) J=.ok (.next (IA v0 (.d (pD Q)) v2 (ah (am (bif more then dH r else b))) (al (N'.map .str)) (ak (m:Int)) v6' v7' (.d (aI r)) v9)) (J++g):=by
 have x8:fH ws cs (bQ (k+1) b):=vk ok;obtain⟨S,hS,eS⟩:=ur w7 x8 (iv (PJ (vm h9) 2) (iv (by decide) (P7 25 d))) J;refine(jU w7 18 _ (d+1) x8 (vm h9) (J++[.dct (dk S)])).elim λF q9=>?_;have hF:=q9.1;have eF:=q9.2;have fw:=λx (q:x∈F)=>du x _ x8 ((hF.mem x).mp q);have c:=fi (G:=prog.G) (cf:=aj prog (d+25)) (i:=9) (it:=.seq (.var 4)) (c:=.cmp .notIn (.var 9) (.var 7)) (e:=.var 9) (K:=(IA v0 (.d (pD Q)) v2 (ah (am b)) (al (N.map .str)) (ak (m:Int)) (ah (am (bQ (k+1) b))) (.loc J.length) v8 v9)) (U:=(J++[Cell.dct (dk S)])++[Cell.dct (dk F)]) PyData.str PyData.str (λx=>!decide (x∈S)) (aZ rfl rfl) (λp hp=>cq rfl rfl (nh (vZ ..) p)) (λp hp _=>rfl);have l1:F.length+(N.filter λx=>!decide (x∈S)).length<=n+8:=by rw[Qu];exact Qb (iv (Rh ..) hN.len) (hF.few w7 λx=>du x _ x8)
 have ad:=kS (a:=F.map PyData.str) (b:=(N.filter λx=>!decide (x∈S)).map .str) (by rw[Pa,Pa];exact iv l1 (iv (PJ h1 8) (by decide))) ((J++[Cell.dct (dk S)])++[Cell.dct (dk F)]);replace ad:=PP▸ad;have hN1:Nm ws (F++N.filter λx=>!decide (x∈S)) (λx=>lN x (bQ (k+1) b) (P x)) (n+8):=by refine⟨λx=>?_,λx hx=>(PQ.mp hx).elim (fw x) λq=>hN.inw x (QO.mp q).1,by rw[PA];exact l1⟩;unfold lN;rw[PQ,QO,hF.mem x,hN.mem x,Qa,PI,QB,QB,decide_eq_false_iff_not,hS.mem x,Bool.not_eq_true];exact or_congr Iff.rfl and_comm
 generalize F++(N.filter λx=>!decide (x∈S))=N1 at ad hN1;have R:=ch prog.G (aj prog (d+25)) jO (IA v0 (.d (pD Q)) v2 (ah (am b)) (al (N.map .str)) (ak (m:Int)) v6 v7 v8 v9) J;have gr:=λU=>jo ((g9 _ k).trans hk) U;have hq:=λU=>dp Q hm U;have as2:(J++[Cell.dct (dk S)])++[Cell.dct (dk F)]=J++[Cell.dct (dk S),Cell.dct (dk F)]:=PT ..;have up:Nm ws N1 (λx=>lN x (bQ (k+1) b) (P x)) (n+16):={ hN1 with len:=iv hN1.len (Qe (by decide) n) }
 cases more with
 |false=>refine⟨N1,[.dct (dk S),.dct (dk F)],ah (am (bQ (k+1) b)),.loc J.length,up,aP ?_⟩;exact as2▸(R 1149 (hq _) ((fj b k J)) eS eF (eO (aK _ _)) c ad (hq _) (gr _) (bF hmore))
 |true=>
   cases r with
   |whn t b'=>refine⟨N1,[.dct (dk S),.dct (dk F)],ah (am (bQ (k+1) b)),.loc J.length,up,aP ?_⟩;exact as2▸(R 1149 (hq _) ((fj b k J)) eS eF (eO (aK _ _)) c ad (hq _) (gr _) (bT hmore))
   |aga i b'=>
     have okr:=bS ok _ (PC hk);by_cases h:i > 1
     . obtain⟨M,hM,eM⟩:=jU w7 18 b' (d+1) okr (py (iv (iv (cp _ (PC hk)) h9) (by decide))) ((J++[Cell.dct (dk S)])++[Cell.dct (dk F)]);have m7:=hM.few w7 λx=>du x _ okr;have ad2:=kS (a:=N1.map PyData.str) (b:=M.map .str) (by rw[Pa,Pa];exact iv (Qb hN1.len m7) (iv (PJ h1 16) (by decide))) ((J++[Cell.dct (dk S)])++[Cell.dct (dk F)]++[Cell.dct (dk M)]);rw[<- PP]at ad2;have as3:(J++[Cell.dct (dk S)])++[Cell.dct (dk F)]++[Cell.dct (dk M)]=J++[Cell.dct (dk S),Cell.dct (dk F),Cell.dct (dk M)]:=by rw[PT,PT];rfl
       refine⟨N1++M,[.dct (dk S),.dct (dk F),.dct (dk M)],ah (am (bQ (k+1) b)),.loc J.length,⟨λx=>?_,λx hx=>(PQ.mp hx).elim (hN1.inw x) λq=>du x _ okr ((hM.mem x).mp q),by rw[PA];exact(Qb hN1.len m7:_<=n+8+8)⟩,aP ?_⟩
       . show _↔(lN x (bQ (k+1) b) (P x)||(decide (i > 1)&&dv x b'))=true;rw[PQ,hN1.mem x,hM.mem x,decide_eq_true h,RK,Qa]
       . exact as3▸(R 1836157 (hq _) ((fj b k J)) eS eF (eO (aK _ _)) c ad (hq _) (gr _) (bT hmore) (dT h) eM (eO (aK _ _)) ad2)
     . refine⟨N1,[.dct (dk S),.dct (dk F)],ah (am (bQ (k+1) b)),.loc J.length,{ up with mem:=λx=>?_ },aP ?_⟩
       . show _↔(lN x (bQ (k+1) b) (P x)||(decide (i > 1)&&dv x b'))=true;rw[hN1.mem x,decide_eq_false h,RR,Rs]
       . exact as2▸(R 263293 (hq _) ((fj b k J)) eS eF (eO (aK _ _)) c ad (hq _) (gr _) (bT hmore) (dF h))
   |set _ _=>cases hb rfl
   |tell _=>cases hb rfl
   |call _ _ _=>cases hb (rfl)theorem Ky(h:n - m=1):¬ ((m:Int) < (n:Int) - 1):=λq=>Sk (Nat.lt_sub_of_add_lt ((Qu 1 m).symm▸Qp.mp (Int.add_lt_of_lt_sub_right q):1+m < n)) (h)theorem Kx(h:n - m=k+1+1):(m:Int) < (n:Int) - 1:=Int.lt_sub_right_of_add_lt (Qp.mpr (Nat.add_lt_of_lt_sub' (h▸Nat.succ_lt_succ (Ru k):1 < n - m)))
theorem G7(w7:ws.length<=8)(d:Nat)(v0 v2 v9:V)(Q:List Nat)(z:Nat)(rz:Rw)(U:ac):∀(pre:List Nat) (b c:RL) (N:List Str) (P:Str->Bool) (n:Nat) (g:ac) (m:Nat) (v5 v6 v7 v8:V),Pth b pre c->(lst c)[z]?=some rz->Q.drop m=pre++[z]->fH ws cs b->hL b<=18->Nm ws N P n->n+16 * pre.length<=1000->
   X3 λN' g' v3'=>X4 λv5' v6' v7' v8'=>Nm ws N' (λx=>uW x b pre z (P x)) (n+16 * pre.length+16)/\ba (aL prog.G (aj prog (d+25)) (.var 5) jO) ((List.range' m (pre.length+1)).map nI) (IA v0 (.d (pD Q)) v2 (ah (am b)) (al (N.map .str)) v5 v6 v7 v8 v9) (U++g)=.ok (.next (IA v0 (.d (pD Q)) v2 v3' (al (N'.map .str)) v5' v6' v7' v8' v9)) (U++g'):=by
 intro xs_
 induction xs_ with
 |nil=>
   intro b c N P n g m v5 v6 v7 v8 hp hz hq ok h9 hN hl;refine kk λUc k=>?_;cases hp;obtain⟨q1,q2⟩:=kL hq;have q3:¬ ((m:Int) < ((Q.map nI).length:Int) - 1):=by have:=congrArg List.length hq;rw[Qw]at this;rw[Pa];exact Ky this
   obtain⟨N',g',v6',v7',h,e⟩:=Av w7 d v0 v2 q1 hz ok h9 hN hl v5 v6 v7 v8 v9 (U++g) false (decide_eq_false q3) (λq=>by injection q);rw[PT]at e;refine k ?_;exact⟨N',g++g',_,_,v6',v7',_,h,a6 e rfl⟩
 |cons k ks ih_=>
   intro b c N P n g m v5 v6 v7 v8 hp hz hq ok h9 hN hl;cases hp with
   |@cons _ _ r _ _ hk hb hp=>
   refine kk λUc k=>?_;obtain⟨q1,q2⟩:=kL hq;have q3:(m:Int) < ((Q.map nI).length:Int) - 1:=by have:=congrArg List.length hq;rw[Qw,PA,PX]at this;rw[Pa];exact Kx this
   have hr:=PC hk;rw[PX,Nat.mul_succ,Qu (16 * ks.length),<- Qo]at hl;obtain⟨OG,EF,Mh,Mg,h,e⟩:=Av w7 d v0 v2 q1 hk ok h9 hN (iv (PU _ _) (iv (PU _ _) hl)) v5 v6 v7 v8 v9 (U++g) true (decide_eq_true q3) (λ_=>hb);obtain⟨N',g',v3',v5',v6',v7',v8',h',ih⟩:=ih_ (dH r) c OG _ (n+16) (g++EF) (m+1) (ak (m:Int)) Mh Mg (.d (aI r)) hp hz q2 (ic (bS ok r hr)) (py (iv (iv (cp r hr) h9) (by decide))) h hl;rw[<- PT]at ih;refine k ?_;refine⟨N',g',v3',v5',v6',v7',v8',⟨λx=>?_,h'.inw,?_⟩,?_⟩
   . rw[rB hk];exact h'.mem x
   . rw[PX,Nat.mul_succ,Qu (16 * ks.length),<- Qo];exact h'.len
   . rw[PX,To];exact a6 e (ih)theorem pV:∀L:List Str,iP (L.map .str)=some L
 |[]=>rfl
 |x::L=>by show (iP (L.map .str)).map (x::·)=_;rw[pV L];(rfl)theorem xx(y:Str)(l:List Str):cM (y::l)=if y∈l then cM l else y::cM l:=(rfl)theorem wZ(x y:Str)(r:List Str):iV x (y::r)=if lV y x then y::iV x r else x::y::r:=rfl
theorem bJ(x:Str):∀l:List Str,x∈cM l↔x∈l
 |[]=>Iff.rfl
 |y::l=>by
   rw[xx];by_cases h:y∈l
   . rw[if_pos h,bJ x l,PM];exact⟨.inr,λq=>q.elim (λe=>e▸h) id⟩
   . rw[if_neg h,PM,bJ x l,PM]
theorem cw:∀l:List Str,(cM l).Nodup
 |[]=>SG
 |y::l=>by
   rw[xx];by_cases h:y∈l
   . rw[if_pos h];exact cw l
   . rw[if_neg h];exact QW.mpr ⟨λq=>h ((bJ y l).mp q),cw l⟩
theorem Aw(x y:Str):∀l:List Str,x∈iV y l↔x=y\/x∈l
 |[]=>PM
 |a::l=>by
   rw[wZ];cases lV a y with
   |true=>rw[if_pos rfl,PM,Aw x y l,PM];exact or_left_comm
   |false=>rw[if_neg PY,PM]theorem qZ(x:Str):∀l:List Str,x∈cu l↔x∈l
 |[]=>Iff.rfl
 |y::l=>(Aw x y _).trans (by rw[qZ x l,PM])theorem BF(n:Nat):b8 1 ((n+1:Nat):Int)=(List.range' 1 n).map nI:=by unfold b8;rw[Tg,Qv,show (((n+1:Nat):Int) - 1).toNat=n from congrArg Int.toNat (lG n)];refine Ry λk _=>?_;show PyData.int (1+(k:Int))=.int ((1+k:Nat):Int);rw[RI];rfl
theorem pw(w7:ws.length<=8)(hj:fs[j]?=some f)(of:okF ws cs f)(hp:Pth f.rs pre c)(hz:(lst c)[z]?=some r)(d:Nat)(U:ac):∃L:List Str,(∀x,x∈L↔uW x f.rs pre z (decide (x∈cJ f.t))=true)/\pc (d+26) 12 [ah (fs.map ao),.d (pD (aJ j pre z))] U (al (L.map .str)):=by
 refine kk λUc k=>?_;obtain⟨N0,h0,e0⟩:=dQ of.t (d+21) U;have hl:=iv (gv hp) of.h9;have hb:8+16 * pre.length<=296:=Qe (Q4 16 hl) 8;obtain⟨N,g',v3',v5',v6',v7',v8',hN,lp⟩:=G7 w7 d (ah (fs.map ao)) (.d (ao f)) .un (aJ j pre z) z r U pre f.rs c N0 _ 8 [] 1 .un .un .un .un hp hz rfl of.rs of.h9 (⟨λx=>by rw[h0.mem x,decide_eq_true_iff],λx hx=>of.t.1 x ((h0.mem x).mp hx),h0.few w7 of.t.1⟩:Nm ws N0 (λx=>decide (x∈cJ f.t)) 8) (iv hb (by decide));rw[P4,<- BF]at lp;have so:xT .sortedSet false [al (N.map .str)] (U++g')=.ok (al ((cu (cM N)).map .str)) (U++g'):=by show oc (iP (N.map .str)) (λl=>if l.length < 2000/\(cM l).length < 64 then bh false ((cu (cM l)).map .str) (U++g') else .bad) .bad=_;rw[pV];exact if_pos ⟨P6 (iv hN.len (PJ hb 16)) (by decide),(P6 (iv ((cw N).length_le_of_subset λx hx=>hN.inw x ((bJ x N).mp hx)) w7) (by decide))⟩
 have ln:(aJ j pre z).map nI=(aJ j pre z).map nI:=rfl;have le:((aJ j pre z).map nI).length=pre.length+1+1:=by rw[Pa];exact congrArg (·+1) PA
 rw[<- le]at lp;refine k ?_;refine⟨cu (cM N),λx=>by rw[qZ,bJ,hN.mem x],?_⟩;exact(aX prog 12 (d+25) [ah (fs.map ao),.d (pD (aJ j pre z))] U rfl 19 (iK hj hp hz (d+22) U) (dp (aJ j pre z) rfl U) (bE hj U) e0 (a7 (rG rfl rfl (⟨by decide,qF (by rw[le];exact iv (PJ hl 2) (by decide))⟩)) lp) so (cS ..))theorem dY(l:List PyData)(k:Nat)(U:ac):gq false (ah l) none (some (ak (k:Int))) U=.ok (ah (l.take k)) U:=by rw[gp _ _ gw (fu _),qA]theorem yl(l:List PyData)(k m:Nat)(U:ac):gq false (ah l) (some (ak ((k:Int)+(m:Int)))) none U=.ok (ah (l.drop (k+m))) U:=by rw[gp _ _ (fu _) gw];exact congrArg (λx=>Res.ok (ah x) U) (mr l (k+m))theorem jC(l:List PyData)(k:Nat)(U:ac):gq false (ah l) (some (ak ((k:Int)+1))) none U=.ok (ah (l.drop (k+1))) U:=yl l k 1 (U)theorem iQ(k:Nat)(p:List Nat)(U:ac):gq false (.d (pD (k::p))) (some (ak 1)) none U=.ok (.d (pD p)) U:=jC ((k::p).map nI) 0 (U)theorem bI(k:Nat)(p:List Nat)(U:ac):cK (.d (pD (k::p))) (ak 0) U=some (ak (k:Int)):=df (k:=0) ..
noncomputable def ik{B:Type}(m:Nat)(l:List B)(k:Nat)(news:List B):List B:=l.take k++news++l.drop (k+m)noncomputable abbrev ci{B:Type}(l:List B)(k:Nat)(news:List B):List B:=ik 1 l k (news)theorem wv{Y:Type}(φ:B->Y)(m:Nat)(l:List B)(k:Nat)(news:List B):(ik m l k news).map φ=ik m (l.map φ) k (news.map φ):=by unfold ik;rw[PP,PP,Q7,Re]theorem ww{Y:Type}(φ:B->Y)(l:List B)(k:Nat)(news:List B):(ci l k news).map φ=ci (l.map φ) k (news.map φ):=wv φ 1 l k news
theorem AT(m:Nat)(l:List B)(k:Nat):(l.take k).length+(l.drop (k+m)).length<=l.length:=by have h:=congrArg List.length (QJ k l);rw[PA]at h;exact iv (Qe (by rw[Qw,Qw];exact Nat.sub_le_sub_left (PU k m) _) _) (Qk h)theorem H9(l:List B)(k:Nat):(l.take k).length+(l.drop (k+1)).length<=l.length:=AT 1 l k
theorem qG{l news:List PyData}(h:l.length+news.length<=90000)(m k:Nat)(U:ac):dj .add false (ah (l.take k)) (ah news) U=.ok (ah (l.take k++news)) U/\dj .add false (ah (l.take k++news)) (ah (l.drop (k+m))) U=.ok (ah (ik m l k news)) U:=by
 refine⟨ie (iv (iv (PJ (TL ..) _) h) (by decide)) U,ie ?_ U⟩;have h2:(l.take k++news).length+(l.drop (k+m)).length<=(l.length+news.length)+0:=by rw[PA,QP];exact PJ (AT m l k) _
 exact iv h2 (iv h (by decide))noncomputable def sF:Rw->RL->Rw
 |.whn t _,b=>.whn t b
 |.aga n _,b=>.aga n b
 |r,_=>(r)def cE(m:Nat)(news:RL)(z:Nat):RL->List Nat->RL
 |b,[]=>jH (ik m (lst b) z (lst news))
 |b,k::ks=>match (lst b)[k]? with
   |some r=>jH (ci (lst b) k [sF r (cE m news z (dH r) ks)])
   |none=>(b)noncomputable abbrev ON(news:RL)(z:Nat)(b:RL)(pre:List Nat):RL:=cE 1 news z b (pre)theorem jd(m:Nat)(news:RL)(z:Nat)(b:RL):cE m news z b []=jH (ik m (lst b) z (lst news)):=(rfl)theorem CX(m:Nat)(news:RL)(z:Nat)(b:RL)(k:Nat)(ks:List Nat):cE m news z b (k::ks)=(match (lst b)[k]? with|some r=>jH (ci (lst b) k [sF r (cE m news z (dH r) ks)]) | none=>b):=(rfl)theorem jv(h:(lst b)[k]?=some r)(m:Nat)(news:RL)(z:Nat)(ks:List Nat):cE m news z b (k::ks)=jH (ci (lst b) k [sF r (cE m news z (dH r) ks)]):=by rw[CX,h]theorem oy(m:Nat)(b:RL)(k:Nat)(news:List Rw):am (jH (ik m (lst b) k news))=ik m (am b) k (news.map aI):=by rw[jA,wv,<- c8]def vE(f m:Nat)(news:RL)(z:Nat)(b:RL)(pre:List Nat)(d:Nat):Prop:=∀U,pc d f [.d (.tuple (am b)),.d (pD (pre++[z])),.d (.int (m:Int)),.d (.tuple (am news))] U (.d (.tuple (am (cE m news z b pre))))theorem mX(pre:List Nat)(k z:Nat):¬ (((k::(pre++[z])).map nI).length:Int)=1:=λq=>by rw[Pa,PX,PA]at q;exact absurd (Nat.succ.inj (Sz.mp q)) (Tl pre.length)theorem En(h:nL b<=9000)(hn:n<=9000):(am b).length+n<=90000:=iv (Qb (iv (gS b) h) hn) (by decide)
theorem Gi(m:Nat){news:RL}(hn:nL news<=9000)(z:Nat):∀(pre:List Nat) (b:RL) (d:Nat),Pth b pre c->nL b<=9000->vE 13 m news z b pre (d+pre.length+1)/\vE 45 m news z b pre (d+pre.length+1):=by
 intro xs_
 induction xs_ with
 |nil=>
   intro b d _ h;have ra:=λU=>qG (En h (iv (gS news) hn)) m z U;have e:am (cE m news z b [])=ik m (am b) z (am news):=by rw[jd,oy,<- c8]
   unfold vE;exact e▸(⟨λU=>(aX prog 13 d [ah (am b),.d (pD [z]),ak (m:Int),ah (am news)] U rfl 432 ((dY ..)) ((ra U).1) ((yl ..)) ((ra U).2) (same U)),
     λU=>(aX prog 45 d [ah (am b),.d (pD [z]),ak (m:Int),ah (am news)] U rfl 432 ((dY ..)) ((ra U).1) ((yl ..)) ((ra U).2) (same U))⟩)
 |cons k ks ih_=>
   intro b d hp h;cases hp with
   |@cons _ _ r _ _ hk hb hp=>
   obtain⟨i1,i2⟩:=ih_ (dH r) d hp (zC (PC hk) h);have ra:=λx U=>qG (news:=[x]) (En h (P5 rfl)) 1 k U;have e:am (cE m news z b (k::ks))=ci (am b) k [aI (sF r (cE m news z (dH r) ks))]:=by rw[jv hk];exact oy ..
   have gr:=λU=>jo ((g9 _ k).trans hk) U;unfold vE;refine e▸?_;clear e;have R:=λU=>aX prog 13 (d+ks.length+1) [ah (am b),.d (pD (k::(ks++[z]))),ak (m:Int),ah (am news)] U rfl;have R':=λU=>aX prog 45 (d+ks.length+1) [ah (am b),.d (pD (k::(ks++[z]))),ak (m:Int),ah (am news)] U rfl;cases r with
   |whn t b'=>exact⟨λU=>(R U 13881 (bI ..) (dF (mX ks k z)) (gr U) ((dY ..)) ((iQ ..)) (i1 U) ((ra _ U).1) ((jC ..)) ((ra _ U).2) (same U)),λU=>(R' U 13529 (bI ..) (dF (mX ks k z)) (gr U) ((iQ ..)) (i2 U) ((dY ..)) ((ra _ U).1) ((jC ..)) ((ra _ U).2) (same U))⟩
   |aga n b'=>exact⟨λU=>(R U 13881 (bI ..) (dF (mX ks k z)) (gr U) ((dY ..)) ((iQ ..)) (i1 U) ((ra _ U).1) ((jC ..)) ((ra _ U).2) (same U)),λU=>(R' U 13529 (bI ..) (dF (mX ks k z)) (gr U) ((iQ ..)) (i2 U) ((dY ..)) ((ra _ U).1) ((jC ..)) ((ra _ U).2) (same U))⟩
   |set _ _=>injection hb
   |tell _=>injection hb
   |call _ _ _=>injection hb
def bL(m:Nat)(news:RL)(pre:List Nat)(z:Nat)(f:Fd):Fd:={ f with rs:=cE m news z f.rs pre }
theorem gK(m:Nat){news:RL}(hn:nL news<=9000)(hj:fs[j]?=some f)(h8:fs.length<=9)(hp:Pth f.rs pre c)(hf:nL f.rs<=9000)(h9:hL f.rs<=18)(d:Nat)(U:ac):pc (d+20) 14 [ah (fs.map ao),.d (pD (aJ j pre z)),ak (m:Int),ah (am news)] U (ah ((ci fs j [bL m news pre z f]).map ao))/\
   pc (d+20) 46 [ah (fs.map ao),.d (pD (aJ j pre z)),ak (m:Int),ah (am news)] U (ah ((ci fs j [bL m news pre z f]).map ao)):=by
 refine kk λUc k=>?_;obtain⟨e,he⟩:=o0 (iv (gv hp) h9);obtain⟨i1,i2⟩:=Gi m hn z pre f.rs (d+e) hp hf;refine k ?_;have h10:d+e+pre.length+1=d+19:=by rw[Qo d e,<- he]
 rw[h10]at i1 i2;have ra:=qG (l:=fs.map ao) (news:=[ao (bL m news pre z f)]) (by rw[Pa];exact iv (PJ h8 1) (by decide)) 1 j U;rw[ww];have gf:=bE hj U;exact⟨(aX prog 14 (d+19) [ah (fs.map ao),.d (pD (aJ j pre z)),ak (m:Int),ah (am news)] U rfl 895 (bI ..) gf ((iQ ..)) (i1 U) (bI ..) ((dY ..)) ra.1 (bI ..) ((jC ..)) ra.2 (same U)),
   (aX prog 46 (d+19) [ah (fs.map ao),.d (pD (aJ j pre z)),ak (m:Int),ah (am news)] U rfl 3467 (bI ..) gf ((iQ ..)) (i2 U) ((dY ..)) ra.1 ((jC ..)) ra.2 (same U))⟩
theorem D4(cf:Nat->List V->ac->Res V)(x:Str)(v0:V)(U:ac):∀(fs:List Fd) (k:Nat) (v2 v3:V),x∈bK fs->ba (aL prog.G cf (.tup [2,3]) dM) (((fs.map ao).zipIdx k).map λp=>.tuple [.int p.2,p.1]) [v0,aA x,v2,v3] U=.ok (.ret (ak ((k+(bK fs).idxOf x:Nat):Int))) U:=by
 intro xs_
 induction xs_ with
 |nil=>intro k v2 v3 h;cases h
 |cons f fs ih_=>
   intro k v2 v3 h;have R:=ch prog.G cf dM [v0,aA x,ak (k:Int),.d (ao f)] U;have e:bK (f::fs)=f.nm::bK fs:=rfl;rw[e]at h ⊢;by_cases q:f.nm=x
   . rw[q,TM];exact jJ (d8 rfl ((R 4 (dT q))))
   . rw[List.idxOf_cons,beq_false_of_ne q,cond_false,Qu ((bK fs).idxOf x),<- Qo];exact a6 (d8 rfl ((R 4 (dF q)))) (ih_ (k+1) (ak (k:Int)) (.d (ao f)) ((PM.mp h).resolve_left (Ne.symm q)))theorem di(h:x∈bK fs)(d:Nat)(U:ac):pc (d+1) 15 [ah (fs.map ao),aA x] U (ak ((bK fs).idxOf x:Nat)):=by have lp:=D4 (aj prog d) x (ah (fs.map ao)) U fs 0 .un .un h;rw[Ri]at lp;exact(aX prog 15 d [ah (fs.map ao),aA x] U rfl 0 (a7 (oH rfl) lp) (same U))theorem yW(h:x∈L)(U:ac):x9 .index (al (L.map .str)) U [aA x] U=.ok (ak (L.idxOf x:Nat)) U:=by show b2 (j3 (aA x)) (iP (L.map .str)) (λx l=>if l.idxOf x < l.length then Res.ok (ak (l.idxOf x:Nat)) U else .bad) .bad=_;rw[pV];exact if_pos (Rk.mpr h)
theorem kP(h:x∈bK fs)(d:Nat)(U:ac):pc (d+1) 48 [ah (fs.map ao),aA x] U (ak ((bK fs).idxOf x:Nat)):=by
 have c:=lT (G:=prog.G) (cf:=aj prog d) (i:=2) (it:=.seq (.var 0)) (e:=.idx (.var 2) (.int 0)) (K:=[ah (fs.map ao),aA x,.un]) (U:=U) ao (λf=>.str f.nm) (aZ rfl rfl) λf _=>rfl;have e:fs.map (λf=>PyData.str f.nm)=(bK fs).map .str:=by unfold bK;rw[Qv];rfl
 rw[e]at c;exact(aX prog 48 d [ah (fs.map ao),aA x] U rfl 0 c (yW h U) (same U))def rC(ts:List Tm)(ps:List Str)(k:Nat):Bool:=match ts[k]?,ps[k]? with
 |some t,some p=>!(a9 t).eqv (a9 (.name p))
 |_,_=>(false)def dP(ts:List Tm)(ps:List Str):List Nat:=(List.range ts.length).filter (rC ts ps)theorem qd(t:Tm)(p:Str)(U:ac):bC .ne (.d (a9 t)) (ah [.str bz,.str p]) U=some (!(a9 t).eqv (a9 (.name p))):=by show (No (a9 t) (.tuple [.str bz,.str p])).map _=_;rw[nK (iv (RM _ _) (P5 rfl))];(rfl)variable {ts:List Tm}theorem lq(hl:ts.length=ps.length)(hk:k < ts.length):X2 λt p=>A3 (ts[k]?=some t) (ps[k]?=some p) (rC ts ps k=!(a9 t).eqv (a9 (.name p))):=by have h1:ts[k]?=some ts[k]:=PB hk;have h2:ps[k]?=some (ps[k]'(hl▸hk)):=PB (hl▸hk);exact⟨_,_,h1,h2,by unfold rC;rw[h1,h2]⟩theorem oG(h:ts[k]?=some t)(U:ac):cK (ah (ts.map a9)) (ak (k:Int)) U=some (.d (a9 t)):=by rw[df,Qc,h];(rfl)theorem mG{p:Str}(h:ps[k]?=some p)(U:ac):cK (ah (ps.map .str)) (ak (k:Int)) U=some (aA p):=by rw[df,Qc,h];(rfl)variable {l:List Nat}{ds:List PyData}
theorem AZ{c:E}{b:Bool}(hl:l.length=ds.length)(hc:af G cf c (b7 l ds K) U=.ok (.d (.bool b)) U)(h:b=true->af G cf e (b7 l ds K) U=.ok (.d y) U):jS G cf (.tup l) (.cons c .nil) e K (.tuple ds) U=.ok (if b then some y else none) U:=by
 have eb:fe (.tup l) (.tuple ds) K=some (b7 l ds K):=if_pos hl;unfold jS;rw[eb];show (dD G cf (.cons c .nil) (b7 l ds K) U).bind _=_;rw[Ap hc,tA];cases b with
 |true=>show (af G cf e (b7 l ds K) U).bind _=_;rw[h rfl];rfl
 |false=>(rfl)variable {g:Fd}{o:Option Str}{fn:Str}
theorem fE(hl:ts.length=g.ps.length)(d:Nat)(U:ac):pc (d+1) 16 [.d (aI (.call o fn ts)),.d (ao g)] U (al ((dP ts g.ps).map nI)):=by
 have c:=mo (G:=prog.G) (cf:=aj prog d) (m:=false) (t:=.tup [2,3]) (it:=.enum (.idx (.var 1) (.int 1))) (c:=.cons (.cmp .ne (.idx (.idx (.var 0) (.int 3)) (.var 2)) (.tup (.cons (.str bz) (.cons (.var 3) .nil)))) .nil) (e:=.var 2) (K:=[.d (aI (.call o fn ts)),.d (ao g),.un,.un]) (U:=U) (oH rfl) (iG (λp:PyData×Nat=>.tuple [.int p.2,p.1]) (λp=>if rC ts g.ps p.2 then some (nI p.2) else none) ((g.ps.map PyData.str).zipIdx) λp hp=>by
   have hk:=List.mem_zipIdx hp;obtain⟨t,q,h1,h2,h3⟩:=lq hl (by rw[hl];have:=hk.2.1;rw[Pa,Ri]at this;exact this);have e:p.1=.str q:=by
     have:=hk.2.2;have h4:(g.ps.map PyData.str)[p.2]?=some (.str q):=by rw[Qc,h2];rfl
     rw[this];exact Option.some.inj ((PB _).symm.trans h4)
   rw[e,h3];exact AZ rfl (cq (bZ rfl rfl (oG h1 _)) rfl (qd ..)) λ_=>rfl)
 have e:(((g.ps.map PyData.str).zipIdx).filterMap λp=>if rC ts g.ps p.2 then some (nI p.2) else none)=(dP ts g.ps).map nI:=by
   rw[E4 (λp:PyData×Nat=>rC ts g.ps p.2) (λp=>nI p.2)];have h1:((g.ps.map PyData.str).zipIdx).map (·.2)=List.range ts.length:=by rw[List.zipIdx_map_snd,Pa,hl,R9]
   unfold dP;rw[<- h1,List.filter_map,Qv];rfl
 rw[e]at c;exact(aX prog 16 d [.d (aI (.call o fn ts)),.d (ao g)] U rfl 0 c (same U))
theorem t8(hl:ts.length=g.ps.length)(h4:ts.length<=7)(d:Nat)(U:ac):pc (d+1) 49 [.d (aI (.call o fn ts)),.d (ao g)] U (al ((dP ts g.ps).map nI)):=by
 have hI:=iC (G:=prog.G) (cf:=aj prog d) (e:=.bi .len false (.cons (.idx (.var 0) (.int 3)) .nil)) (K:=[.d (aI (.call o fn ts)),.d (ao g),.un]) (U:=U) rfl (qF (by rw[Pa];exact iv h4 (by decide)));rw[Pa,fk]at hI;have c:=fi (i:=2) (c:=.cmp .ne (.idx (.idx (.var 0) (.int 3)) (.var 2)) (.tup (.cons (.str bz) (.cons (.idx (.idx (.var 1) (.int 1)) (.var 2)) .nil)))) (e:=.var 2) (λ(k:Nat)=>PyData.int (k:Int)) nI (rC ts g.ps) hI (λk hk=>by obtain⟨t,p,h1,h2,h3⟩:=lq hl (Rc.mp hk);rw[h3];exact cq (bZ rfl rfl (oG h1 _)) (sX (d0 rfl (iB (bZ rfl rfl (mG h2 _)))) rfl) (qd ..)) λk _ _=>rfl
 exact(aX prog 49 d [.d (aI (.call o fn ts)),.d (ao g)] U rfl 0 c (same U))noncomputable def lM(ts:List Tm)(ps:List Str)(k:Nat):Rw:=match ts[k]?,ps[k]? with
 |some t,some p=>.set p t
 |_,_=>.tell (.num 0)def tM(o:Option Str)(t:Tm):List Rw:=match o with
 |some y=>if (a9 t).eqv (a9 (.name y)) then [] else [.set y t]
 |none=>[]theorem nk{y:Str}(h:(a9 t).eqv (a9 (.name y))=true):tM (some y) t=[]:=if_pos (h)theorem nq{y:Str}(h:(a9 t).eqv (a9 (.name y))=false):tM (some y) t=[.set y t]:=if_neg (by rw[h];exact PY)def aS(o:Option Str)(ts:List Tm)(g:Fd):RL:=jH ((dP ts g.ps).map (lM ts g.ps)++lst g.rs++tM o g.t)theorem lm(h:k∈dP ts ps):k < ts.length:=Rc.mp (QO.mp h).1
theorem fZ(ts:List Tm)(ps:List Str):(dP ts ps).length<=ts.length:=iv (Rh ..) (Qk Ra)
theorem tn{a b:Nat}(hl:ts.length=g.ps.length)(h1:af prog.G cf e K U=.ok (al ((dP ts g.ps).map nI)) U)(ha:∀k U,af prog.G cf (.var a) (K.set i (.d (nI k))) U=.ok (.d (ao g)) U)(hb:∀k U,af prog.G cf (.var b) (K.set i (.d (nI k))) U=.ok (.d (aI (.call o fn ts))) U)(hi:∀k U,af prog.G cf (.var i) (K.set i (.d (nI k))) U=.ok (.d (nI k)) U) :
   af prog.G cf (.comp false (.var i) (.seq e) .nil (.tup (.cons (.str iu) (.cons (.idx (.idx (.var a) (.int 1)) (.var i)) (.cons (.idx (.idx (.var b) (.int 3)) (.var i)) .nil))))) K U=.ok (al (((dP ts g.ps).map (lM ts g.ps)).map aI)) U:=by
 rw[Qv];exact lT nI (λk=>aI (lM ts g.ps k)) (aZ h1 rfl) λk hk=>by
   obtain⟨t,p,h1,h2,h3⟩:=lq hl (lm hk);have e:lM ts g.ps k=.set p t:=by unfold lM;rw[h1,h2]
   rw[e];exact sX (d0 rfl (d0 (bZ (bZ (ha k _) rfl rfl) (hi k _) (mG h2 _)) (iB (bZ (bZ (hb k _) rfl rfl) (hi k _) (oG h1 _))))) (rfl)theorem sY(o:Option Str)(ts:List Tm)(g:Fd):am (aS o ts g)=(((dP ts g.ps).map (lM ts g.ps)).map aI++am g.rs)++(tM o g.t).map aI:=by unfold aS;rw[jA,PP,PP,<- c8]
theorem wM(h4:ts.length<=7)(hn:nL g.rs<=820)(U:ac):dj .add false (ah (((dP ts g.ps).map (lM ts g.ps)).map aI)) (ah (am g.rs)) U=.ok (ah (((dP ts g.ps).map (lM ts g.ps)).map aI++am g.rs)) U/\∀x,dj .add false (ah (((dP ts g.ps).map (lM ts g.ps)).map aI++am g.rs)) (ah [x]) U=.ok (ah ((((dP ts g.ps).map (lM ts g.ps)).map aI++am g.rs)++[x])) U:=by
 have h:(((dP ts g.ps).map (lM ts g.ps)).map aI).length+(am g.rs).length<=827:=by rw[Pa,Pa];exact Qb (iv (fZ ..) h4) (iv (gS _) hn)
 exact⟨ie (iv h (by decide)) U,λx=>ie (by rw[PA];exact iv (PN h) (by decide)) U⟩
theorem sR(hl:ts.length=g.ps.length)(h4:ts.length<=7)(hn:nL g.rs<=820)(d:Nat)(U:ac):pc (d+2) 17 [.d (aI (.call o fn ts)),.d (ao g)] U (ah (am (aS o ts g))):=by
 have c:=tn (K:=[.d (aI (.call o fn ts)),.d (ao g),.un,.un]) (i:=3) (a:=1) (b:=0) (e:=.call 16 (.cons (.var 0) (.cons (.var 1) .nil))) hl (aM rfl (fE hl d U)) (λ_ _=>rfl) (λ_ _=>rfl) (λ_ _=>rfl);obtain⟨a1,a2⟩:=wM h4 hn U;have R:=aX prog 17 (d+1) [.d (aI (.call o fn ts)),.d (ao g)] U rfl;rw[sY];cases o with
 |none=>refine(?_:_=Res.ok (ah (_++[])) U);rw[P4];exact(R 4 c a1 (same U))
 |some y=>
   have ne:=qd g.t y U;cases h:(a9 g.t).eqv (a9 (.name y)) with
   |true=>rw[h]at ne;rw[nk h,RE,P4];exact(R 516 c a1 ne (same U))
   |false=>rw[h]at ne;rw[nq h];exact(R 8708 c a1 ne (a2 _) (same U))noncomputable def uZ(x:Str):Rw->Bool
 |.call _ f _=>decide (f=x)
 |_=>false
mutual
def zI:Rw->List Rw
 |.whn _ b=>jr b
 |.aga _ b=>jr b
 |.set _ _=>[]
 |.tell _=>[]
 |.call _ _ _=>[]def jr:RL->List Rw
 |.nil=>[]
 |.cons r b=>r::(zI r++jr b)
end
mutual
theorem GW(pl:List Nat):∀r:Rw,(vP pl r).map (·.2)=zI r
 |.whn _ b=>kZ pl 0 b
 |.aga _ b=>kZ pl 0 b
 |.set _ _=>rfl
 |.tell _=>rfl
 |.call _ _ _=>rfl
theorem kZ(pl:List Nat)(k:Nat):∀b:RL,(jt pl k b).map (·.2)=jr b
 |.nil=>rfl
 |.cons r b=>by
   show r::(vP (pl++[k]) r++jt pl (k+1) b).map (·.2)=r::(zI r++jr b)
   rw[PP,GW (pl++[k]) r,kZ pl (k+1) b]
end
def bU(x:Str)(fs:List Fd):Bool:=fs.any λf=>(jr f.rs).any (uZ x)
theorem Ih(Ud:SL)(hB:Ud=dO)(cf:Nat->List V->ac->Res V)(x:Str)(v0 v2:V)(U:ac):∀(L:List (List Nat×Rw)) (v3 v4:V),X2 λv3' v4'=>ba (aL prog.G cf (.tup [3,4]) Ud) (L.map aR) (F5 v0 (aA x) v2 v3 v4) U=jY ((L.map (·.2)).any (uZ x)) (.ok (.ret (.d (.bool true))) U) (.ok (.next (F5 v0 (aA x) v2 v3' v4')) U):=by
 intro xs_
 induction xs_ with
 |nil=>intro v3 v4;exact⟨v3,v4,rfl⟩
 |cons p L ih_=>
   intro v3 v4;obtain⟨v3',v4',ih⟩:=ih_ (.d (pD p.1)) (.d (aI p.2));have st:aL prog.G cf (.tup [3,4]) Ud (aR p) (F5 v0 (aA x) v2 v3 v4) U=jY (uZ x p.2) (.ok (.ret (.d (.bool true))) U) (.ok (.next (F5 v0 (aA x) v2 (.d (pD p.1)) (.d (aI p.2)))) U):=by
     clear ih;obtain⟨q,r⟩:=p;refine d8 rfl ?_;have R:=ch prog.G cf dO (F5 v0 (aA x) v2 (.d (pD q)) (.d (aI r))) U;have go:execs prog.G cf dO (F5 v0 (aA x) v2 (.d (pD q)) (.d (aI r))) U=jY (uZ x r) (.ok (.ret (.d (.bool true))) U) (.ok (.next (F5 v0 (aA x) v2 (.d (pD q)) (.d (aI r)))) U):=by
       cases r with
       |call o f ts=>
         show _=jY (decide (f=x)) _ _;by_cases h:f=x
         . rw[decide_eq_true h];exact(R 64 (dT h))
         . rw[decide_eq_false h];exact(R 64 (dF h))
       |set _ _=>exact(R 0)
       |tell _=>exact(R 0)
       |whn _ _=>exact(R 0)
       |aga _ _=>exact(R 0)
     rw[hB];exact go
   refine⟨v3',v4',?_⟩;refine(?_:_=jY (uZ x p.2||(L.map (·.2)).any (uZ x)) _ _);cases h:uZ x p.2 with
   |true=>rw[h]at st;exact jJ st
   |false=>rw[h]at st;exact a6 st ih
theorem Ht(d:Nat)(x:Str)(v0:V)(U:ac):∀(fs:List Fd) (v2 v3 v4:V),(∀f∈fs,hL f.rs<=36/\nL f.rs<=9000)->X3 λv2' v3' v4'=>ba (aL prog.G (aj prog (d+39)) (.var 2) me) (fs.map ao) (F5 v0 (aA x) v2 v3 v4) U=jY (bU x fs) (.ok (.ret (.d (.bool true))) U) (.ok (.next (F5 v0 (aA x) v2' v3' v4')) U):=by
 intro xs_
 induction xs_ with
 |nil=>intro v2 v3 v4 _;exact⟨v2,v3,v4,rfl⟩
 |cons f fs ih_=>
   intro v2 v3 v4 h;refine kk λUc k=>?_;obtain⟨h1,h2⟩:=h f (PF ..);obtain⟨C2,vX,lp⟩:=Ih dO rfl (aj prog (d+39)) x v0 (.d (ao f)) U (jt [] 0 f.rs) v3 v4;rw[kZ]at lp;obtain⟨v2',v3',v4',ih⟩:=ih_ (.d (ao f)) C2 vX λg hg=>h g (PD _ hg);refine k ?_;have it:=aZ (G:=prog.G) (e:=.call 7 (.cons (.tup .nil) (.cons (.idx (.var 2) (.int 2)) .nil))) (K:=(F5 v0 (aA x) (.d (ao f)) v3 v4)) (aM rfl (gb 36 f.rs [] d h1 h2 (by decide) U)) rfl;refine⟨v2',v3',v4',?_⟩;refine(?_:_=jY ((jr f.rs).any (uZ x)||bU x fs) _ _);cases q:(jr f.rs).any (uZ x) with
   |true=>rw[q]at lp;exact jJ (aP (lZ (a7 it lp)))
   |false=>rw[q]at lp;exact a6 (aP (aT (a7 it lp) rfl)) ih
theorem sd(h:∀f∈fs,hL f.rs<=36/\nL f.rs<=9000)(x:Str)(d:Nat)(U:ac):pc (d+40) 23 [ah (fs.map ao),aA x] U (.d (.bool (bU x fs))):=by
 obtain⟨v2',v3',v4',lp⟩:=Ht d x (ah (fs.map ao)) U fs .un .un .un h;cases q:bU x fs with
 |true=>rw[q]at lp;exact(aX prog 23 (d+39) [ah (fs.map ao),aA x] U rfl 0 (a7 (aZ rfl rfl) lp) (same U))
 |false=>rw[q]at lp;exact(aX prog 23 (d+39) [ah (fs.map ao),aA x] U rfl 0 (a7 (aZ rfl rfl) lp) (same U))variable {f:PyData->Fm->ac->Res Out}
theorem ky(φ:B->PyData)(Fr:Fm->Prop)(C:B->Prop)(val:B->V->Prop)(U:ac):∀(xs:List B) (K:Fm),(∀x∈xs,∀K,Fr K->(∃ρ',A3 (Fr ρ') (¬ C x) (f (φ x) K U=.ok (.next ρ') U))\/∃v,A3 (C x) (val x v) (f (φ x) K U=.ok (.ret v) U))->Fr K->
   (∃ρ',A3 (Fr ρ') ((∀x∈xs,¬ C x)) (ba f (xs.map φ) K U=.ok (.next ρ') U))\/X2 λx v=>A4 (x∈xs) (C x) (val x v) (ba f (xs.map φ) K U=.ok (.ret v) U):=by
 intro xs_
 induction xs_ with
 |nil=>intro K _ h;exact .inl ⟨K,h,(λx hx=>by cases hx),rfl⟩
 |cons x xs ih_=>
   intro K H h;rcases H x (PF ..) K h with⟨bV,bj,n,e⟩|⟨v,c,q,e⟩
   . rcases ih_ bV (λy hy=>H y (PD _ hy)) bj with⟨qi,gg,m,lQ⟩|⟨y,v,hy,c,q,lQ⟩
     . exact .inl ⟨qi,gg,λy hy=>(PM.mp hy).elim (λe=>e▸n) (m y),a6 e lQ⟩
     . exact .inr ⟨y,v,PD _ hy,c,q,a6 e lQ⟩
   . exact .inr ⟨x,v,PF ..,c,q,jJ e⟩
theorem hW{Y:Type}(φ:B->PyData)(D:Y->PyData)(Fr:Fm->Prop)(g:B->List Y)(w:Nat)(U:ac):∀(xs:List B) (K:Fm) (L:List Y),(∀x∈xs,(g x).length<=w/\∀K L,Fr K->L.length+w<=900000->∃ρ',Fr ρ'/\f (φ x) K (U++[.lst (L.map D)])=.ok (.next ρ') (U++[.lst ((L++g x).map D)]))->Fr K->L.length+xs.length * w<=900000->∃ρ',Fr ρ'/\ba f (xs.map φ) K (U++[.lst (L.map D)])=.ok (.next ρ') (U++[.lst ((L++xs.flatMap g).map D)]):=by
 intro xs_
 induction xs_ with
 |nil=>intro K L _ h _;exact⟨K,h,by rw[List.flatMap_nil,P4];rfl⟩
 |cons x xs ih_=>intro K L H h hl;refine kk λUc k=>?_;rw[PX,S4,Qu _ w,<- Qo]at hl;obtain⟨hw,hx⟩:=H x (PF ..);obtain⟨bV,bj,e⟩:=hx K L h (QM hl);obtain⟨qi,gg,lQ⟩:=ih_ bV (L++g x) (λy hy=>H y (PD _ hy)) bj (by rw[PA];exact iv (PJ (Qe hw _) _) hl);rw[PT,<- RH]at lQ;refine k ?_;exact⟨qi,gg,a6 e lQ⟩def dZ(j:Nat)(f:Fd):List (List Nat×List Str):=(jt [j] 0 f.rs).map (λp=>(p.1,own p.2))++[([j,(am f.rs).length],cJ f.t)]def LO(q:List Nat×List Str):PyData:=.tuple [pD q.1,.list (q.2.map .str)]theorem zB(hl:l.length=ds.length)(h:af G cf e (b7 l ds K) U=.ok (.d y) U):jS G cf (.tup l) .nil e K (.tuple ds) U=.ok (some y) U:=by have eb:fe (.tup l) (.tuple ds) K=some (b7 l ds K):=if_pos hl;unfold jS;rw[eb];show (af G cf e (b7 l ds K) U).bind _=_;rw[h];rfl
mutual
theorem J2(pl:List Nat):∀r:Rw,l9 ws cs r->∀p∈vP pl r,l9 ws cs p.2
 |.set _ _=>@λ_ _ hp=>absurd hp QG
 |.tell _=>@λ_ _ hp=>absurd hp QG
 |.call _ _ _=>@λ_ _ hp=>absurd hp QG
 |.whn _ b=>@λh p hp=>mw pl 0 b h.2 p hp
 |.aga _ b=>@λh p hp=>mw pl 0 b h p hp
theorem mw(pl:List Nat)(k:Nat):∀b:RL,fH ws cs b->∀p∈jt pl k b,l9 ws cs p.2
 |.nil=>@λ_ _ hp=>absurd hp QG
 |.cons r b=>@λh p hp=>by
   rcases PM.mp hp with e|hp
   . rw[e];exact h.1
   . exact(PQ.mp hp).elim (J2 _ r h.1 p) (mw pl (k+1) b h.2 p)
end
theorem uE{f:Fd}(of:okF ws cs f)(j:Nat):(dZ j f).length<=821:=by unfold dZ;rw[PA,Pa,eI];exact PN of.n4
theorem nN{f:Fd}(hj:fs[j]?=some f)(of:okF ws cs f)(d:Nat)(U:ac):pc (d+21) 47 [ah (fs.map ao),ak (j:Int)] U (al ((dZ j f).map LO)):=by
 have c:=mo (G:=prog.G) (m:=false) (t:=.tup [4,5]) (it:=.seq (.call 41 (.cons (.tup (.cons (.var 1) .nil)) (.cons (.idx (.var 2) (.int 2)) .nil)))) (e:=.tup (.cons (.var 4) (.cons (.call 38 (.cons (.var 5) .nil)) .nil))) (K:=(F6 (ah (fs.map ao)) (ak (j:Int)) (.d (ao f)) .un .un .un)) (aZ (aM rfl (kO 18 f.rs [j] d of.h9 (iv of.n4 (by decide)) (P7 19 81) U)) rfl) (iG aR (λp=>some (LO (p.1,own p.2))) (jt [j] 0 f.rs) λp hp=>zB rfl (sX (d0 rfl (iB (aM rfl (xJ (mw [j] 0 f.rs of.rs p hp) (d+16) _)))) rfl));rw[RS]at c;have e:(dZ j f).map LO=(jt [j] 0 f.rs).map (λp=>LO (p.1,own p.2))++[.tuple [.tuple [.int (j:Int),.int (am f.rs).length],.list ((cJ f.t).map .str)]]:=by unfold dZ;rw[PP,Qv];rfl
 rw[e];exact(aX prog 47 (d+20) [ah (fs.map ao),ak (j:Int)] U rfl 17 (bE hj U) c (lI of.t (d+17) U) (kS (by rw[Pa,eI];exact iv (PN of.n4) (by decide)) _) (same U))def mn(f:Fd)(x:Str):Bool:=!decide (x∈f.ps)&&(dv x f.rs||(!gP x f.rs&&decide (x∈cJ f.t)))theorem tF(L:List Str)(x:Str)(U:ac):bC .notIn (aA x) (ah (L.map .str)) U=some (!decide (x∈L)):=by rw[AY,KM,vD];(rfl)theorem Cp{f:Fd}(of:okF ws cs f)(x:Str)(d:Nat)(U:ac):pc (d+24) 50 [.d (ao f),aA x] U (.d (.bool (mn f x))):=by exact(aX prog 50 (d+23) [.d (ao f),aA x] U rfl 2 (lH x 18 f.rs d U of.rs of.h9) (lU (cq rfl rfl (tF ..)) λ_=>cN (C1 rfl λ_=>cN (lU rfl λ_=>cN (cq rfl (aM rfl (lI of.t (d+20) U)) (eR ..))))) (same U))def TC(ts:List Tm)(ps:List Str)(k o:Nat):Prop:=X2 λp t=>A3 (ps[k]?=some p) (ts[o]?=some t) (p∈cJ t)def iX(p:List Nat×List Nat):PyData:=.tuple [pD p.1,pD p.2]theorem qK(k n:Nat):b8 ((k:Int)+1) (n:Int)=(List.range' (k+1) (n - (k+1))).map nI:=by unfold b8;have e:((n:Int) - ((k:Int)+1)).toNat=n - (k+1):=Int.toNat_sub n (k+1);rw[Tg,Qv,e];refine Ry λi _=>?_;show PyData.int ((k:Int)+1+(i:Int))=.int ((k+1+i:Nat):Int);rw[RI];rfl
theorem gT{o:Nat}:o∈List.range' (k+1) (n - (k+1))↔k < o/\o < n:=by
 rw[List.mem_range'_1];refine⟨λh=>⟨h.1,?_⟩,λh=>⟨h.1,?_⟩⟩
 . by_cases q:k+1<=n
   . rw[QX q]at h;exact h.2
   . rw[TF (Qd (Nat.lt_of_not_le q))]at h;exact absurd (P6 h.1 h.2) (Rr _)
 . rw[QX (Qd (P6 h.1 h.2))];exact(h.2)theorem Af(hk:k < n)(h4:n<=7):(-100000<=(k:Int)+1/\(k:Int)+1<=100000)/\(-100000<=(n:Int)/\(n:Int)<=100000):=⟨⟨QL (by decide:(-100000:Int)<=0) (Rv (Qg k) (by decide)),QL (Int.add_le_add_right (QV.mpr (Qd (Qr hk h4))) 1) (by decide)⟩,QL (by decide:(-100000:Int)<=0) (Qg n),QL (QV.mpr h4) (by decide)⟩
theorem pN{pl:List Nat}(hpl:pl.length<=100)(hl:ts.length=g.ps.length)(h4:ts.length<=7)(ok:∀t∈ts,lO ws t)(d:Nat)(U:ac):∃v,pc (d+5) 18 [.d (pD pl),.d (aI (.call o fn ts)),.d (ao g)] U (.d v)/\((v=.none/\∀k∈dP ts g.ps,∀i,k < i->i < ts.length->¬ TC ts g.ps k i)\/X2 λk i=>A5 (k∈dP ts g.ps) (k < i) (i < ts.length) (TC ts g.ps k i) (v=iX (pl++[k],pl++[i]))):=by
 have inner:=λk (hk:k∈dP ts g.ps) (v3 v4:V)=>ky (f:=aL prog.G (aj prog (d+4)) (.var 4) gW) nI (λK=>∃v4,K=(F5 (.d (pD pl)) (.d (aI (.call o fn ts))) (.d (ao g)) (.d (nI k)) v4)) (TC ts g.ps k) (λi v=>v=.d (iX (pl++[k],pl++[i]))) U (List.range' (k+1) (ts.length - (k+1))) (F5 (.d (pD pl)) (.d (aI (.call o fn ts))) (.d (ao g)) (.d (nI k)) v4) (by
   rintro i hi _ ⟨v4,rfl⟩
   refine kk λUc kz=>?_;obtain⟨hki,hin⟩:=gT.mp hi;obtain⟨p,hp⟩:=(λk hk=>⟨_,PB (hl▸hk)⟩:∀k,k < ts.length->∃p,g.ps[k]?=some p) k (Tx hki hin);obtain⟨t,ht,okt⟩:=(λk hk=>⟨_,PB hk,ok _ (Rn _)⟩:∀k,k < ts.length->∃t,ts[k]?=some t/\lO ws t) i hin;obtain⟨L,hL,e⟩:=dQ okt d U;have R:=ch prog.G (aj prog (d+4)) gW (F5 (.d (pD pl)) (.d (aI (.call o fn ts))) (.d (ao g)) (.d (nI k)) (.d (nI i))) U;have ip:=mG hp U;have it:=oG ht U;have ins:=eR L p U;by_cases q:p∈L
   . exact kz (.inr ⟨_,⟨p,t,hp,ht,(hL.mem p).mp q⟩,rfl,aP ((R 250 ip it e ins (dT q) (pR hpl k U) (pR hpl i U)))⟩)
   . refine kz (.inl ⟨_,⟨.d (nI i),rfl⟩,λ⟨p',t',h1,h2,h3⟩=>q ?_,aP ((R 58 ip it e ins (dF q)))⟩);rw[hp]at h1;rw[ht]at h2;injection h1 with e;subst e;injection h2 with e;subst e;exact(hL.mem p).mpr h3) ⟨v4,rfl⟩
 have outer:=ky (f:=aL prog.G (aj prog (d+4)) (.var 3) kA) nI (λK=>X2 λv3 v4=>K=(F5 (.d (pD pl)) (.d (aI (.call o fn ts))) (.d (ao g)) v3 v4)) (λk=>∃i,i∈List.range' (k+1) (ts.length - (k+1))/\TC ts g.ps k i) (λk v=>∃i,A3 (i∈List.range' (k+1) (ts.length - (k+1))) (TC ts g.ps k i) (v=.d (iX (pl++[k],pl++[i])))) U (dP ts g.ps) (F5 (.d (pD pl)) (.d (aI (.call o fn ts))) (.d (ao g)) .un .un) (by
   rintro k hk _ ⟨v3,v4,rfl⟩
   have it:=rG (G:=prog.G) (cf:=aj prog (d+4)) (e:=.bin .add false (.var 3) (.int 1)) (e':=.bi .len false (.cons (.idx (.var 1) (.int 3)) .nil)) (K:=(F5 (.d (pD pl)) (.d (aI (.call o fn ts))) (.d (ao g)) (.d (nI k)) v4)) (U:=U) rfl rfl (by rw[Pa];exact Af (lm hk) h4);rw[Pa,qK]at it;rcases inner k hk v3 v4 with⟨_,⟨v4',rfl⟩,n,e⟩|⟨i,v,hi,c,rfl,e⟩
   . exact .inl ⟨_,⟨.d (nI k),v4',rfl⟩,λ⟨i,hi,c⟩=>n i hi c,aP (aT (a7 it e) rfl)⟩
   . exact .inr ⟨_,⟨i,hi,c⟩,⟨i,hi,c,rfl⟩,aP (lZ (a7 it e))⟩) ⟨.un,.un,rfl⟩
 have it:=aZ (G:=prog.G) (e:=.call 16 (.cons (.var 1) (.cons (.var 2) .nil))) (K:=(F5 (.d (pD pl)) (.d (aI (.call o fn ts))) (.d (ao g)) .un .un)) (aM rfl (fE hl (d+3) U)) rfl;have R:=aX prog 18 (d+4) [.d (pD pl),.d (aI (.call o fn ts)),.d (ao g)] U rfl;rcases outer with⟨_,⟨v3,v4,rfl⟩,n,e⟩|⟨k,v,hk,c,⟨i,hi,c',rfl⟩,e⟩
 . exact⟨.none,(R 0 (a7 it e) (same U)),.inl ⟨rfl,λk hk i h1 h2 c=>n k hk ⟨i,gT.mpr ⟨h1,h2⟩,c⟩⟩⟩
 . exact⟨_,(R 0 (a7 it e) (same U)),.inr ⟨k,i,hk,(gT.mp hi).1,(gT.mp hi).2,c',rfl⟩⟩theorem sh(b:B->Bool):∀L:List B,c7 (L.map λx=>.bool (b x))=some (L.map b)
 |[]=>rfl
 |x::L=>by show (c7 (L.map λx=>.bool (b x))).map (b x::·)=_;rw[sh b L];(rfl)theorem CD(b:B->Bool)(L:List B)(U:ac):xT .any false [al (L.map λx=>.bool (b x))] U=.ok (.d (.bool (L.any b))) U:=by show oc (c7 (L.map λx=>.bool (b x))) (λl=>Res.ok (V.d (.bool (l.any id))) U) .bad=_;rw[sh];show Res.ok (V.d (.bool ((L.map b).any id))) U=_;rw[Tt];rfl
mutual
theorem EV(x:Str):∀r:Rw,yb x r=true->x∈own r\/∃q∈zI r,x∈own q
 |.set _ _=>@λh=>.inl (of_decide_eq_true h)
 |.tell _=>@λh=>.inl (of_decide_eq_true h)
 |.call _ _ _=>@λh=>.inl (of_decide_eq_true h)
 |.whn _ b=>@λh=>(Qa.mp h).imp of_decide_eq_true (gH x b)
 |.aga _ b=>@λh=>.inr (gH x b (PI.mp h).2)
theorem gH(x:Str):∀b:RL,dv x b=true->∃q∈jr b,x∈own q
 |.cons r b,h=>by
   rcases Qa.mp h with h|h
   . rcases EV x r h with h|⟨q,hq,h⟩
     . exact⟨r,PF ..,h⟩
     . exact⟨q,PD _ (Q1 _ hq),h⟩
   . obtain⟨q,hq,h⟩:=gH x b (PI.mp h).2;exact⟨q,PD _ (QH _ hq),h⟩
end
theorem FK(h:r∈jr b)(pl:List Nat)(k:Nat):∃p∈jt pl k b,p.2=r:=by rw[<- kZ pl k b]at h;exact Qi.mp (h)def Bf(g:Fd)(q:List Nat×List Str):Prop:=∃x∈q.2,mn g x=true
theorem pQ(w7:ws.length<=8)(hn:fs[n]?=some g)(og:okF ws cs g)(pl:List Nat)(d:Nat)(U:ac):∃v,pc (d+26) 19 [ah (fs.map ao),.d (pD pl),ak (n:Int)] U (.d v)/\((v=.none/\∀x,mn g x=false)\/∃q∈dZ n g,Bf g q/\v=iX (q.1,pl)):=by
 refine kk λUc k=>?_;obtain⟨S,hS,eS⟩:=ur w7 og.rs (iv (PJ og.h9 2) (iv (by decide) (P7 25 d))) U;obtain⟨F,hF,eF⟩:=jU w7 18 _ (d+1) og.rs og.h9 (U++[.dct (dk S)]);obtain⟨N,hN,eN⟩:=dQ og.t (d+21) ((U++[.dct (dk S)])++[.dct (dk F)]);refine k ?_;generalize hτ:(U++[Cell.dct (dk S)])++[Cell.dct (dk F)]=J at eF eN;have ht:(J++[Cell.busy])[U.length]?=some (.dct (dk S)):=by exact hτ▸vZ ..
 have hf:J[(U++[Cell.dct (dk S)]).length]?=some (.dct (dk F)):=by rw[<- hτ];exact aK ..
 have hb:J.take U.length=U:=by rw[<- hτ,PT];exact cS ..
 have c1:=fi (G:=prog.G) (i:=11) (it:=.seq (.call 1 (.cons (.var 5) .nil))) (c:=.cmp .notIn (.var 11) (.var 6)) (e:=.var 11) (K:=(LL (ah (fs.map ao)) (.d (pD pl)) (ak (n:Int)) (ah (g.ps.map .str)) (ah (am g.rs)) (.d (a9 g.t)) (.loc U.length) .un .un .un .un .un .un .un)) PyData.str PyData.str (λx=>!decide (x∈S)) (aZ (aM rfl eN) rfl) (λp hp=>cq rfl rfl (nh ht p)) (λp hp _=>rfl);have ad:=kS (a:=F.map PyData.str) (b:=(N.filter λx=>!decide (x∈S)).map .str) (by rw[Pa,Pa];exact iv (Qb (hF.few w7 λx=>du x _ og.rs) (iv (Rh ..) (hN.few w7 og.t.1))) (by decide)) J;replace ad:=PP▸ad;have hM:∀x,x∈(F++N.filter λx=>!decide (x∈S)).filter (λx=>!decide (x∈g.ps))↔mn g x=true:=λx=>by unfold mn;rw[QO,PQ,QO,hF.mem x,hN.mem x,PI,Qa,PI,QB,QB,QB,decide_eq_false_iff_not,decide_eq_false_iff_not,hS.mem x,Bool.not_eq_true,decide_eq_true_iff];exact and_comm.trans (and_congr Iff.rfl (or_congr Iff.rfl and_comm))
 have c2:=λ(M:List Str)=>fi (G:=prog.G) (cf:=aj prog (d+25)) (i:=12) (it:=.seq (.var 7)) (c:=.cmp .notIn (.var 12) (.var 3)) (e:=.var 12) (K:=(LL (ah (fs.map ao)) (.d (pD pl)) (ak (n:Int)) (ah (g.ps.map .str)) (ah (am g.rs)) (.d (a9 g.t)) (.loc U.length) (al (M.map .str)) .un .un .un .un .un .un)) (U:=J) PyData.str PyData.str (λx=>!decide (x∈g.ps)) (aZ rfl rfl) (λp hp=>cq rfl rfl (tF ..)) (λp hp _=>rfl);have c2:=c2 (F++N.filter λx=>!decide (x∈S));generalize hB:(F++N.filter λx=>!decide (x∈S)).filter (λx=>!decide (x∈g.ps))=Ud at hM c2;generalize F++(N.filter λx=>!decide (x∈S))=M at ad c2;have R:=aX prog 19 (d+25) [ah (fs.map ao),.d (pD pl),ak (n:Int)] U rfl;have en:=nJ (Ud.map PyData.str) J;rw[QY]at en;cases hE:Ud.isEmpty with
 |true=>
   replace en:=hE▸en;refine⟨.none,(R 29 (bE hn U) eS eF (eO hf) c1 ad c2 en hb),.inl ⟨rfl,λx=>?_⟩⟩;cases q:mn g x with
   |false=>rfl
   |true=>replace hM:=(RO.mp hE)▸hM;cases (hM x).mpr q
 |false=>
   replace en:=hE▸en;have lp:=ky (f:=aL prog.G (aj prog (d+25)) (.tup [9,10]) g7) aR (λK=>X2 λv9 v10=>K=(LL (ah (fs.map ao)) (.d (pD pl)) (ak (n:Int)) (ah (g.ps.map .str)) (ah (am g.rs)) (.d (a9 g.t)) (.loc U.length) (al (M.map .str)) (al (Ud.map .str)) v9 v10 .un .un .un)) (λp=>Bf g (p.1,own p.2)) (λp v=>v=.d (iX (p.1,pl))) J (jt [n] 0 g.rs) (LL (ah (fs.map ao)) (.d (pD pl)) (ak (n:Int)) (ah (g.ps.map .str)) (ah (am g.rs)) (.d (a9 g.t)) (.loc U.length) (al (M.map .str)) (al (Ud.map .str)) .un .un .un .un .un) (by
     rintro p hp _ ⟨v9,v10,rfl⟩
     obtain⟨L,hL,eL⟩:=hZ w7 (mw [n] 0 g.rs og.rs p hp) (d+20) J;have c3:=lT (G:=prog.G) (i:=13) (it:=.seq (.call 3 (.cons (.var 10) .nil))) (e:=.cmp .isIn (.var 13) (.var 8)) (K:=(LL (ah (fs.map ao)) (.d (pD pl)) (ak (n:Int)) (ah (g.ps.map .str)) (ah (am g.rs)) (.d (a9 g.t)) (.loc U.length) (al (M.map .str)) (al (Ud.map .str)) (.d (pD p.1)) (.d (aI p.2)) .un .un .un)) PyData.str (λx=>.bool (decide (x∈Ud))) (aZ (aM rfl eL) rfl) λx _=>cq rfl rfl (eR ..);have R:=ch prog.G (aj prog (d+25)) g7 (LL (ah (fs.map ao)) (.d (pD pl)) (ak (n:Int)) (ah (g.ps.map .str)) (ah (am g.rs)) (.d (a9 g.t)) (.loc U.length) (al (M.map .str)) (al (Ud.map .str)) (.d (pD p.1)) (.d (aI p.2)) .un .un .un) J;have an:=CD (λx=>decide (x∈Ud)) L J;have iff:(L.any λx=>decide (x∈Ud))=true↔Bf g (p.1,own p.2):=by rw[Sg];exact exists_congr λx=>and_congr (hL.mem x) (decide_eq_true_iff.trans (hM x))
     cases q:L.any λx=>decide (x∈Ud) with
     |true=>exact .inr ⟨_,iff.mp q,rfl,d8 rfl ((R 3 c3 an (bT q)))⟩
     |false=>exact .inl ⟨_,⟨_,_,rfl⟩,λc=>PY (q.symm.trans (iff.mpr c)),d8 rfl ((R 3 c3 an (bF q)))⟩) ⟨.un,.un,rfl⟩
   have it:=aZ (G:=prog.G) (e:=.call 7 (.cons (.tup (.cons (.var 2) .nil)) (.cons (.var 4) .nil))) (K:=(LL (ah (fs.map ao)) (.d (pD pl)) (ak (n:Int)) (ah (g.ps.map .str)) (ah (am g.rs)) (.d (a9 g.t)) (.loc U.length) (al (M.map .str)) (al (Ud.map .str)) .un .un .un .un .un)) (aM rfl (gb 18 g.rs [n] (d+4) og.h9 (iv og.n4 (by decide)) (P7 19 81) J)) rfl;rcases lp with⟨_,⟨v9,v10,rfl⟩,no,e⟩|⟨p,v,hp,c,rfl,e⟩
   . refine⟨_,(R 29 (bE hn U) eS eF (eO hf) c1 ad c2 en (a7 it e) hb),.inr ⟨([n,(am g.rs).length],cJ g.t),QH _ (PL.mpr rfl),?_,rfl⟩⟩;clear e;clear it;clear c2;obtain⟨x,hx⟩:∃x,x∈Ud:=by
       clear en hM;cases Ud with
       |nil=>injection hE
       |cons x _=>exact⟨x,PF ..⟩
     have q:=(hM x).mp hx;rcases Qa.mp (PI.mp q).2 with h|h
     . refine kk λUc k=>?_;obtain⟨r,hr,hx⟩:=gH x g.rs h;obtain⟨p,hp,rfl⟩:=FK hr [n] 0;refine k ?_;exact(no p hp ⟨x,hx,q⟩).elim
     . exact⟨x,of_decide_eq_true (PI.mp h).2,q⟩
   . exact⟨_,(R 29 (bE hn U) eS eF (eO hf) c1 ad c2 en (a7 it e) hb),.inr ⟨(p.1,own p.2),Q1 _ (Qz hp),c,rfl⟩⟩
theorem wT:∀(p q:List Nat),∃b,He (p.map nI) (q.map nI)=some b
 |[],[]=>⟨_,rfl⟩
 |[],_::_=>⟨_,rfl⟩
 |_::_,[]=>⟨_,rfl⟩
 |a::p,b::q=>by
   show ∃c,(if (a:Int)=(b:Int) then He (p.map nI) (q.map nI) else some (decide ((a:Int) < (b:Int))))=some c;by_cases h:(a:Int)=(b:Int)
   . rw[if_pos h];exact wT p q
   . rw[if_neg h];exact⟨_,rfl⟩variable {l:List PyData}theorem M4(h:af G cf e K U=.ok (.loc n) aa)(hc:aa[n]?=some (.lst l)):cA G cf (.seq e) K U=.ok ⟨l,l,some n⟩ aa:=au h (by rw[DT hc];rfl)theorem JM{t:Tgt}{b:SL}{o:Out}(hI:cA G cf it K U=.ok ⟨l,l,some n⟩ aa)(hl:ba (aL G cf t b) l K (aa.set n .busy)=.ok o ae):exec G cf (.forr t it b) K U=.ok o (ae.set n (.lst l)):=au hI (au hl rfl)noncomputable def pK(x:Str)(q:List Nat×List Str):Bool:=decide (x∈q.2)
theorem xI(w7:ws.length<=8){f:Fd}(hj:fs[j]?=some f)(of:okF ws cs f)(hx:∃q∈dZ j f,x∈q.2)(p:List Nat)(d:Nat)(U:ac):∃q∈dZ j f,x∈q.2/\pc (d+22) 21 [ah (fs.map ao),.d (pD (j::p)),aA x] U (.d (pD q.1)):=by
 obtain⟨N,hN,eN⟩:=dQ of.t (d+17) (U++[.lst (((jt [j] 0 f.rs).filter λp=>decide (x∈own p.2)).map λp=>pD p.1)]);have c:=mo (G:=prog.G) (cf:=aj prog (d+21)) (m:=true) (t:=.tup [7,8]) (it:=.seq (.call 7 (.cons (.tup (.cons (.idx (.var 1) (.int 0)) .nil)) (.cons (.var 3) .nil)))) (c:=.cons (.cmp .isIn (.var 2) (.call 3 (.cons (.var 8) .nil))) .nil) (e:=.var 7) (K:=(F9 (ah (fs.map ao)) (.d (pD (j::p))) (aA x) (ah (am f.rs)) (.d (a9 f.t)) .un .un .un .un)) (aZ (aM (d0 (sX (iB (bZ rfl rfl (bI ..))) rfl) rfl) (gb 18 f.rs [j] d of.h9 (iv of.n4 (by decide)) (P7 19 81) U)) rfl) (iG aR (λp=>if decide (x∈own p.2) then some (pD p.1) else none) (jt [j] 0 f.rs) λp hp=>by refine(hZ w7 (mw [j] 0 f.rs of.rs p hp) (d+16) (U++[.busy])).elim λL q9=>?_;have eL:=q9.2;exact AZ rfl (cq rfl (aM rfl eL) (by rw[eR];exact congrArg some (decide_eq_decide.mpr (q9.1.mem x)))) λ_=>rfl)
 rw[E4 (λp:List Nat×Rw=>decide (x∈own p.2)) (λp=>pD p.1)]at c;have R:=aX prog 21 (d+21) [ah (fs.map ao),.d (pD (j::p)),aA x] U rfl;have ins:=eR N x (U++[.lst (((jt [j] 0 f.rs).filter λp=>decide (x∈own p.2)).map λp=>pD p.1)]);have eL:∀b:Bool,decide (x∈cJ f.t)=b->((dZ j f).filter (pK x)).map (·.1)=((jt [j] 0 f.rs).filter λp=>decide (x∈own p.2)).map (·.1)++(bif b then [[j,(am f.rs).length]] else []):=λb hb=>by unfold dZ;rw[List.filter_append,PP,List.filter_map,Qv];have h2:pK x ([j,(am f.rs).length],cJ f.t)=b:=hb;rw[Tp,h2];clear hb h2;cases (b)<;>rfl
 have sub:∀q∈((dZ j f).filter (pK x)).map (·.1),∃r∈dZ j f,x∈r.2/\q=r.1:=λq hq=>by obtain⟨r,hr,rfl⟩:=Qi.mp hq;exact⟨r,(QO.mp hr).1,of_decide_eq_true (QO.mp hr).2,rfl⟩
 have ne:((dZ j f).filter (pK x)).map (·.1)≠[]:=λh=>by obtain⟨q,hq,hx⟩:=hx;have:q.1∈((dZ j f).filter (pK x)).map (·.1):=Qz (QO.mpr ⟨hq,decide_eq_true hx⟩);replace this:=h▸this;cases this
 have lL:(((jt [j] 0 f.rs).filter λp=>decide (x∈own p.2)).map λp=>pD p.1).length<=820:=by rw[Pa];exact iv (Rh ..) (by rw[eI];exact of.n4)
 have mp:((jt [j] 0 f.rs).filter λp=>decide (x∈own p.2)).map (λp=>pD p.1)=(((jt [j] 0 f.rs).filter λp=>decide (x∈own p.2)).map (·.1)).map pD:=by rw[Qv];rfl
 generalize hA:((jt [j] 0 f.rs).filter λp=>decide (x∈own p.2)).map (·.1)=A at eL mp;rw[mp]at c eN ins lL;generalize hQ:((dZ j f).filter (pK x)).map (·.1)=Q at eL sub ne;have lp:=ky (f:=aL prog.G (aj prog (d+21)) (.var 6) jN) pD (λK=>∃v6,K=(F9 (ah (fs.map ao)) (.d (pD (j::p))) (aA x) (ah (am f.rs)) (.d (a9 f.t)) (.loc U.length) v6 .un .un)) (λq=>He ((j::p).map nI) (q.map nI)=some true) (λq v=>v=.d (pD q)) (U++[.busy]) Q (F9 (ah (fs.map ao)) (.d (pD (j::p))) (aA x) (ah (am f.rs)) (.d (a9 f.t)) (.loc U.length) .un .un .un) (by
   rintro q hq _ ⟨v6,rfl⟩
   obtain⟨b,hb⟩:=wT (j::p) q;have R:=ch prog.G (aj prog (d+21)) jN (F9 (ah (fs.map ao)) (.d (pD (j::p))) (aA x) (ah (am f.rs)) (.d (a9 f.t)) (.loc U.length) (.d (pD q)) .un .un) (U++[Cell.busy]);cases b with
   |true=>exact .inr ⟨_,hb,rfl,aP ((R 1 hb))⟩
   |false=>exact .inl ⟨_,⟨_,rfl⟩,(λh=>by rw[hb]at h;(injection h with e;injection e)),aP ((R 1 hb))⟩) ⟨.un,rfl⟩
 have lp':=λo (h:ba (aL prog.G (aj prog (d+21)) (.var 6) jN) (Q.map pD) (F9 (ah (fs.map ao)) (.d (pD (j::p))) (aA x) (ah (am f.rs)) (.d (a9 f.t)) (.loc U.length) .un .un .un) (U++[.busy])=.ok o (U++[.busy]))=>JM (it:=.seq (.var 5)) (M4 rfl (aK _ _)) (by rw[fU];exact h);rw[fU]at lp';clear mp hA hQ;obtain⟨q0,Q',rfl⟩:X2 λq0 Q'=>Q=q0::Q':=by
   clear lp' sub lp;cases Q with
   |nil=>exact(ne rfl).elim
   |cons a b=>exact⟨a,b,rfl⟩
 have i0:cK (.loc U.length) (ak 0) (U++[.lst ((q0::Q').map pD)])=some (.d (pD q0)):=by show oc (aQ (U++[.lst ((q0::Q').map pD)]) (.loc U.length)) (λl=>if (0:Int)<=0 then (l[(0:Int).toNat]?).map V.d else none) none=_;rw[gV (aK _ _)];rfl
 cases hb:decide (x∈cJ f.t) with
 |true=>
   have eL:=eL true hb;have ap:=mR (U:=U) (iv lL (by decide)) (pD [j,(am f.rs).length]);have e2:A.map pD++[pD [j,(am f.rs).length]]=(q0::Q').map pD:=by rw[eL,PP];rfl
   replace ap:=e2▸ap;have q:x∈N:=(hN.mem x).mpr (of_decide_eq_true hb);clear ne e2 eL;rcases lp with⟨_,⟨v6,rfl⟩,no,e⟩|⟨q1,v,hq,_,rfl,e⟩
   . refine kk λUc k=>?_;clear no;obtain⟨r,h1,h2,rfl⟩:=sub q0 (PF ..);refine k ?_;exact⟨r,h1,h2,(R 187 (bI ..) (bE hj U) c eN ins (dT q) (bI ..) ap (lp' _ e) i0 (cG ..))⟩
   . obtain⟨r,h1,h2,rfl⟩:=sub q1 hq;exact⟨r,h1,h2,(R 59 (bI ..) (bE hj U) c eN ins (dT q) (bI ..) ap (lp' _ e) (cG ..))⟩
 |false=>
   have eL:=eL false hb;rw[cond_false,P4]at eL;subst eL;clear eL;have q:¬ x∈N:=λq=>of_decide_eq_false hb ((hN.mem x).mp q);rcases lp with⟨_,⟨v6,rfl⟩,no,e⟩|⟨q1,v,hq,_,rfl,e⟩
   . obtain⟨r,h1,h2,rfl⟩:=sub q0 (PF ..);exact⟨r,h1,h2,(R 59 (bI ..) (bE hj U) c eN ins (dF q) (lp' _ e) i0 (cG ..))⟩
   . refine kk λUc k=>?_;obtain⟨r,h1,h2,rfl⟩:=sub q1 hq;refine k ?_;exact⟨r,h1,h2,(R 27 (bI ..) (bE hj U) c eN ins (dF q) (lp' _ e) (cG ..))⟩
theorem tB(k:Str)(v:PyData)(x:Str):∀kvs:List (Str×PyData),(eZ k v kvs).lookup x=if x=k then some v else kvs.lookup x:=by
 have rep:∀kvs:List (Str×PyData),(kvs.map λy=>if y.1=k then (y.1,v) else y).lookup x=if x=k then (if kvs.any (λy=>decide (y.1=k)) then some v else none) else kvs.lookup x:=λkvs=>by
   induction kvs with
   |nil=>exact(ite_self _).symm
   |cons a l ih=>
     obtain⟨y,w⟩:=a;rw[Qq];by_cases h:y=k
     . rw[if_pos h,P2,ih,RJ,decide_eq_true h,Bool.true_or,if_pos rfl,P2,h];by_cases q:x=k
       . rw[if_pos q,if_pos q,beq_iff_eq.mpr q]
       . rw[if_neg q,if_neg q,beq_false_of_ne q]
     . rw[if_neg h,P2,ih,RJ,decide_eq_false h,SM,P2];by_cases q:x=k
       . rw[if_pos q,if_pos q,beq_false_of_ne λe=>h (e.symm.trans q)]
       . rw[if_neg q,if_neg q]
 have no:∀kvs:List (Str×PyData),kvs.any (λy=>decide (y.1=k))=false->kvs.lookup k=none:=λkvs h=>by
   induction kvs with
   |nil=>rfl
   |cons a l ih=>obtain⟨y,w⟩:=a;rw[RJ,R8]at h;rw[P2,beq_false_of_ne λe=>of_decide_eq_false h.1 e.symm];exact ih h.2
 intro kvs;unfold eZ;cases h:kvs.any λy=>decide (y.1=k) with
 |true=>rw[if_pos rfl,rep,h,if_pos rfl]
 |false=>
   rw[if_neg PY,List.lookup_append,P2];by_cases q:x=k
   . rw[if_pos q,q,no kvs h,beq_self_eq_true];rfl
   . rw[if_neg q,beq_false_of_ne q];exact Option.or_none
theorem ly(k x:Str):∀kvs:List (Str×PyData),(kvs.filter λy=>!decide (y.1=k)).lookup x=if x=k then none else kvs.lookup x
 |[]=>(ite_self _).symm
 |(y,w)::l=>by
   rw[Tp];by_cases h:y=k
   . rw[decide_eq_true h,Su,if_neg PY,ly k x l,P2];by_cases q:x=k
     . rw[if_pos q,if_pos q]
     . rw[if_neg q,if_neg q,beq_false_of_ne λe=>q (e.trans h)]
   . rw[decide_eq_false h,Bool.not_false,if_pos rfl,P2,ly k x l,P2];by_cases q:x=k
     . rw[if_pos q,if_pos q,beq_false_of_ne λe=>h (e.symm.trans q)]
     . rw[if_neg q,if_neg q]
theorem DM(k:Str)(v:PyData)(kvs:List (Str×PyData)):(eZ k v kvs).length<=kvs.length+1:=by
 unfold eZ;cases kvs.any λx=>decide (x.1=k) with
 |true=>rw[if_pos rfl,Pa];exact Sj _
 |false=>rw[if_neg PY,PA];exact P9 (_)abbrev Iz:=List (List Nat×Option Str)
structure Dm(kvs:List (Str×PyData))(G:Iz):Prop where
 some:∀x v,kvs.lookup x=some v->∃q,v=pD q/\(q,Option.some x)∈G
 none:∀x,kvs.lookup x=none->∀q,(q,Option.some x)∉G
 len:kvs.length<=G.length
variable {kvs:List (Str×PyData)}
theorem Dm.put{G:Iz}(h:Dm kvs G)(k:Str)(q:List Nat):Dm (eZ k (pD q) kvs) (G++[(q,Option.some k)]):=by
 refine⟨λx v e=>?_,λx e p m=>?_,by exact PA▸iv (DM ..) (PN h.len)⟩
 . rw[tB]at e;by_cases c:x=k
   . rw[if_pos c]at e;exact⟨q,(Option.some.inj e).symm,c▸QH _ (PL.mpr rfl)⟩
   . rw[if_neg c]at e;obtain⟨p,h1,h2⟩:=h.some x v e;exact⟨p,h1,Q1 _ h2⟩
 . rw[tB]at e;by_cases c:x=k
   . rw[if_pos c]at e;injection e
   . rw[if_neg c]at e;rcases rc m with m|m
     . exact h.none x e p m
     . exact c (Option.some.inj (congrArg Prod.snd m))
theorem Dm.skip{G:Iz}(h:Dm kvs G)(q:List Nat)(o:Option Str)(ho:∀x,o=Option.some x->(kvs.lookup x).isSome=true):Dm kvs (G++[(q,o)]):=by
 refine⟨λx v e=>?_,λx e p m=>?_,by rw[PA];exact iv h.len (PU _ _)⟩
 . obtain⟨p,h1,h2⟩:=h.some x v e;exact⟨p,h1,Q1 _ h2⟩
 . rcases rc m with m|m
   . exact h.none x e p m
   . have:=ho x (congrArg Prod.snd m).symm;rw[e]at this;injection this
theorem yq{o i:E}{k:Str}{x:PyData}(h1:af prog.G cf e K (U++[.dct kvs])=.ok (.d x) (U++[.dct kvs]))(h2:af prog.G cf o K (U++[.dct kvs])=.ok (.loc U.length) (U++[.dct kvs]))(h3:af prog.G cf i K (U++[.dct kvs])=.ok (aA k) (U++[.dct kvs]))(hl:kvs.length<=9000):exec prog.G cf (.put o i e) K (U++[.dct kvs])=.ok (.next K) (U++[.dct (eZ k x kvs)]):=by refine(IO h1 h2 h3 (aK _ _) (P6 hl (by decide))).trans ?_;rw[fU]
theorem oM(φ:B->PyData)(Fr:Fm->Prop)(γ:B->List Nat×Option Str)(U:ac):∀(xs:List B) (K:Fm) (kvs:List (Str×PyData)) (G:Iz),(∀x∈xs,∀K kvs G,Fr K->Dm kvs G->G.length<=9000->X2 λρ' kvs'=>A3 (Fr ρ') (Dm kvs' (G++[γ x])) (f (φ x) K (U++[.dct kvs])=.ok (.next ρ') (U++[.dct kvs'])))->Fr K->Dm kvs G->G.length+xs.length<=9000->X2 λρ' kvs'=>A3 (Fr ρ') (Dm kvs' (G++xs.map γ)) (ba f (xs.map φ) K (U++[.dct kvs])=.ok (.next ρ') (U++[.dct kvs'])):=by
 intro xs_
 induction xs_ with
 |nil=>intro K kvs G _ h hd _;exact⟨K,kvs,h,by rw[RE,P4];exact hd,rfl⟩
 |cons x xs ih_=>intro K kvs G H h hd hl;refine kk λUc k=>?_;rw[PX,Qu xs.length,<- Qo]at hl;obtain⟨bV,Kz,bj,Oj,e⟩:=H x (PF ..) K kvs G h hd (iv (PU _ _) (iv (PU _ _) hl));obtain⟨qi,Hm,gg,Nq,lQ⟩:=ih_ bV Kz (G++[γ x]) (λy hy=>H y (PD _ hy)) bj Oj (by rw[PA];exact hl);rw[PT]at Nq;refine k ?_;exact⟨qi,Hm,gg,Nq,a6 e lQ⟩noncomputable def Gc(pl:List Nat)(g:Fd)(k:Nat):List Nat×Option Str:=(pl++[k],g.ps[k]?)def EG(p:List Nat×Rw):List Nat×Option Str:=(p.1,Ga p.2)def tS(pl:List Nat)(n:Nat)(ts:List Tm)(g:Fd):Iz:=(dP ts g.ps).map (Gc pl g)++(jt [n] 0 g.rs).map EG
theorem yU(h:U[n]?=some (.dct kvs))(x:Str):bC .isIn (aA x) (.loc n) U=some (kvs.lookup x).isSome:=by
 have e:aQ U (.loc n)=none:=by show U[n]?.bind Ku=_;rw[h];rfl
 refine(?_:oc (aQ U (.loc n)) (λl=>w0 (.str x) l) (oc (iF U (.loc n)) (λkvs=>some (kvs.lookup x).isSome) none)=_);rw[e,gJ h];(rfl)theorem Aq(h:U[n]?=some (.dct kvs))(x:Str):bC .notIn (aA x) (.loc n) U=some (!(kvs.lookup x).isSome):=by show (bC .isIn (aA x) (.loc n) U).map _=_;rw[yU h];rfl
structure Sets(kvs:List (Str×PyData))(G:Iz)(o:Option Str):Prop where
 some:∀x v,kvs.lookup x=some v->(∃q,v=pD q/\(q,Option.some x)∈G)/\o≠Option.some x
 none:∀x,kvs.lookup x=none->(∀q,(q,Option.some x)∉G)\/o=Option.some x
set_option maxHeartbeats 2000000 in
theorem vt{pl:List Nat}(hpl:pl.length<=100)(hl:ts.length=g.ps.length)(h4:ts.length<=7)(og:okF ws cs g)(n d:Nat)(U:ac):∃kvs,Sets kvs (tS pl n ts g) o/\aj prog (d+22) 20 [.d (pD pl),.d (aI (.call o fn ts)),ak (n:Int),.d (ao g)] U=.ok (.loc U.length) (U++[.dct kvs]):=by
 refine kk λUc k=>?_;obtain⟨_,k1,⟨v5,rfl⟩,d1,e1⟩:=oM (f:=aL prog.G (aj prog (d+21)) (.var 5) ph) nI (λK=>∃v5,K=(F8 (.d (pD pl)) (.d (aI (.call o fn ts))) (ak (n:Int)) (.d (ao g)) (.loc U.length) v5 .un .un)) (Gc pl g) U (dP ts g.ps) (F8 (.d (pD pl)) (.d (aI (.call o fn ts))) (ak (n:Int)) (.d (ao g)) (.loc U.length) .un .un .un) [] [] (by
   rintro k hk _ kvs G ⟨v5,rfl⟩ hd hG
   obtain⟨t,p,h1,h2,h3⟩:=lq hl (lm hk);have e:Gc pl g k=(pl++[k],some p):=by unfold Gc;exact congrArg _ h2
   rw[e];exact⟨_,_,⟨.d (nI k),rfl⟩,hd.put p (pl++[k]),aP (aT (yq (jX rfl rfl (pR hpl k _)) rfl (bZ rfl rfl (mG h2 _)) (iv hd.len hG)) rfl)⟩) ⟨.un,rfl⟩ ⟨(λx v h=>by injection h),(λx _ q h=>by cases h),P9 _⟩ (by rw[Q6,Ri];exact iv (fZ ..) (iv h4 (by decide)))
 obtain⟨_,k2,⟨v6,v7,rfl⟩,d2,e2⟩:=oM (f:=aL prog.G (aj prog (d+21)) (.tup [6,7]) kB) aR (λK=>X2 λv6 v7=>K=(F8 (.d (pD pl)) (.d (aI (.call o fn ts))) (ak (n:Int)) (.d (ao g)) (.loc U.length) v5 v6 v7)) EG U (jt [n] 0 g.rs) (F8 (.d (pD pl)) (.d (aI (.call o fn ts))) (ak (n:Int)) (.d (ao g)) (.loc U.length) v5 .un .un) k1 _ (by
   rintro⟨q,r⟩ hp _ kvs G ⟨v6,v7,rfl⟩ hd hG
   have eo:=jT r (d+20) (U++[.dct kvs]);have R:=ch prog.G (aj prog (d+21)) kB (F8 (.d (pD pl)) (.d (aI (.call o fn ts))) (ak (n:Int)) (.d (ao g)) (.loc U.length) v5 (.d (pD q)) (.d (aI r))) (U++[Cell.dct kvs]);refine(?_:X2 λρ' kvs'=>A3 (_) (Dm kvs' (G++[(q,Ga r)])) (_));cases ht:Ga r with
   |none=>rw[ht]at eo;exact⟨_,kvs,⟨.d (pD q),.d (aI r),rfl⟩,hd.skip q none (λx h=>by injection h),d8 rfl ((R 0 eo))⟩
   |some y=>
     rw[ht]at eo;have ni:=Aq (aK U (.dct kvs)) y;cases hi:(kvs.lookup y).isSome with
     |true=>rw[hi]at ni;exact⟨_,kvs,⟨.d (pD q),.d (aI r),rfl⟩,hd.skip q (some y) (λx h=>by injection h with e;subst e;exact hi),d8 rfl ((R 8 eo eo ni))⟩
     |false=>rw[hi]at ni;exact⟨_,_,⟨.d (pD q),.d (aI r),rfl⟩,hd.put y q,d8 rfl ((R 8 eo eo ni (yq rfl rfl (aM rfl eo) (iv hd.len hG))))⟩) ⟨.un,.un,rfl⟩ d1 (by rw[SV,Pa,eI];exact iv (Qb (iv (fZ ..) h4) og.n4) (by decide))
 have it1:=aZ (G:=prog.G) (e:=.call 16 (.cons (.var 1) (.cons (.var 3) .nil))) (K:=(F8 (.d (pD pl)) (.d (aI (.call o fn ts))) (ak (n:Int)) (.d (ao g)) (.loc U.length) .un .un .un)) (aM rfl (fE hl (d+20) (U++[Cell.dct []]))) rfl;have it2:=aZ (G:=prog.G) (e:=.call 7 (.cons (.tup (.cons (.var 2) .nil)) (.cons (.idx (.var 3) (.int 2)) .nil))) (K:=(F8 (.d (pD pl)) (.d (aI (.call o fn ts))) (ak (n:Int)) (.d (ao g)) (.loc U.length) v5 .un .un)) (aM rfl (gb 18 g.rs [n] d og.h9 (iv og.n4 (by decide)) (P7 19 81) (U++[Cell.dct k1]))) rfl;have R:=wu prog 20 (d+21) [.d (pD pl),.d (aI (.call o fn ts)),ak (n:Int),.d (ao g)] U rfl;have mk:sI .pop (U++[.dct k2]) (.loc U.length)=true:=by show (iF (U++[.dct k2]) (.loc U.length)).isSome=true;rw[gJ (aK _ _)];rfl
 have hk:hY (U++[.dct k2]) U.length=some k2:=kM (aK _ _);have ex:=λl=>nB (J:=U++[.dct l]) (cS ..) (aK ..);rw[SV]at d2;refine k ?_;cases o with
 |none=>
   have pop:x9 .pop (.loc U.length) (U++[.dct k2]) [.d .none,.d .none] (U++[.dct k2])=.ok (.d .none) (U++[.dct k2]):=by unfold x9;rw[mk,if_pos rfl];show oc (hY (U++[.dct k2]) U.length) (λkvs=>Res.ok (V.d .none) (U++[.dct k2])) .bad=_;rw[hk];rfl
   exact⟨k2,⟨λx v e=>⟨d2.some x v e,λq=>by injection q⟩,λx e=>.inl (d2.none x e)⟩,((R 0 (a7 it1 e1) (a7 it2 e2) pop)).trans (ex k2)⟩
 |some y=>
   have pop:x9 .pop (.loc U.length) (U++[.dct k2]) [aA y,.d .none] (U++[.dct k2])=.ok (.d ((k2.lookup y).getD .none)) (U++[.dct (k2.filter λx=>!decide (x.1=y))]):=by unfold x9;rw[mk,if_pos rfl];show oc (hY (U++[.dct k2]) U.length) (λkvs=>Res.ok (V.d ((kvs.lookup y).getD .none)) ((U++[Cell.dct k2]).set U.length (Cell.dct (kvs.filter λx=>!decide (x.1=y))))) .bad=_;exact hk▸congrArg (Res.ok _) (fU ..)
   refine⟨k2.filter λx=>!decide (x.1=y),⟨λx v e=>?_,λx e=>?_⟩,((R 0 (a7 it1 e1) (a7 it2 e2) pop)).trans (ex _)⟩
   . rw[ly]at e;by_cases c:x=y
     . rw[if_pos c]at e;injection e
     . rw[if_neg c]at e;exact⟨d2.some x v e,λq=>c (Option.some.inj q).symm⟩
   . rw[ly]at e;by_cases c:x=y
     . exact .inr (congrArg some c.symm)
     . rw[if_neg c]at e;exact .inl (d2.none x e)def DH(x:Str)(b:RL):Prop:=∃q∈jr b,x∈own q
theorem Bb(h:r∈lst b):∀q∈jr (dH r),q∈jr b:=by
 have e:∀r:Rw,zI r=jr (dH r):=λr=>by cases r<;>rfl
 induction b using RL.rec (motive_1:=λ_=>True) with
 |nil=>cases h
 |cons a c _ ih=>
   intro q hq;rcases PM.mp h with rfl|h
   . exact PD _ (Q1 _ (e r▸hq))
   . exact PD _ (QH _ (ih h q hq))
 |_=>trivial
theorem xY{q:Rw}:∀(n:Nat) (b:RL),q∈jr (bQ n b)->q∈jr b
 |0,b=>@λh=>by unfold bQ at h;rw[List.drop_zero,yL]at h;exact h
 |n+1,.nil=>@λh=>h
 |n+1,.cons r b=>@λh=>PD _ (QH _ (xY n b h))
theorem wG{l:Bool}(h:lN x (bQ n b) l=true):l=true\/DH x b:=by
 rcases Qa.mp h with h|h
 . obtain⟨q,hq,hx⟩:=gH x _ h;exact .inr ⟨q,xY n b hq,hx⟩
 . exact .inl (PI.mp h).2
theorem E7(hr:r∈lst b){l:Bool}(h:Li x r l=true):l=true\/DH x b:=by
 cases r with
 |aga n c=>
   rcases Qa.mp h with h|h
   . exact .inl h
   . obtain⟨q,hq,hx⟩:=gH x _ (PI.mp h).2;exact .inr ⟨q,Bb hr q hq,hx⟩
 |_=>exact .inl h
theorem Eo(z:Nat):∀(pre:List Nat) (b:RL) (l:Bool),uW x b pre z l=true->l=true\/DH x b:=by
 intro xs_
 induction xs_ with
 |nil=>intro b l h;exact wG h
 |cons k ks ih_=>
   intro b l h;cases hk:(lst b)[k]? with
   |none=>rw[Ep,hk]at h;exact .inl h
   |some r=>
     rw[rB hk]at h;have hr:=PC hk;rcases ih_ _ _ h with h|⟨q,hq,hx⟩
     . exact(E7 hr h).elim wG .inr
     . exact .inr ⟨q,Bb hr q hq,hx⟩variable {f:Fd}
theorem Kw(h:uW x f.rs pre z (decide (x∈cJ f.t))=true)(j:Nat):∃q∈dZ j f,x∈q.2:=by
 rcases Eo z pre f.rs _ h with h|⟨r,hr,hx⟩
 . exact⟨_,QH _ (PL.mpr rfl),of_decide_eq_true h⟩
 . obtain⟨p,hp,rfl⟩:=FK hr [j] 0;exact⟨(p.1,own p.2),Q1 _ (Qz hp),hx⟩def Be(G:Iz)(o:Option Str)(f:Fd)(pre:List Nat)(z:Nat)(q:List Nat)(x:Str):Prop:=(q,some x)∈G/\o≠some x/\uW x f.rs pre z (decide (x∈cJ f.t))=true
theorem u9(h:U[n]?=some (.dct kvs))(hx:kvs.lookup x=some v):cK (.loc n) (aA x) U=some (.d v):=by show b2 (some x) (iF U (.loc n)) (λk kvs=>(kvs.lookup k).map V.d) none=_;rw[gJ h];show (kvs.lookup x).map V.d=_;rw[hx];rfl
theorem Cm(w7:ws.length<=8){f:Fd}{o:Option Str}{fn:Str}(hj:fs[j]?=some f)(of:okF ws cs f)(hp:Pth f.rs pre c)(hz:(lst c)[z]?=some (.call o fn ts))(hn:fs[n]?=some g)(og:okF ws cs g)(hl:ts.length=g.ps.length)(h4:ts.length<=7)(d:Nat)(U:ac):∃v,pc (d+27) 22 [ah (fs.map ao),.d (pD (aJ j pre z)),.d (aI (.call o fn ts)),ak (n:Int)] U (.d v)/\((v=.none/\∀q x,¬ Be (tS (aJ j pre z) n ts g) o f pre z q x)\/X3 λq x r=>A4 (Be (tS (aJ j pre z) n ts g) o f pre z q x) (r∈dZ j f) (x∈r.2) (v=iX (q,r.1))):=by
 have h100:(aJ j pre z).length<=100:=by show (pre++[z]).length+1<=100;rw[PA];exact iv (PJ (iv (gv hp) of.h9) 2) (by decide)
 refine(vt (o:=o) (fn:=fn) h100 hl h4 og n (d+4) U).elim λkvs q9=>?_;have hs:=q9.1;have es:=q9.2;refine(pw w7 hj of hp hz d (U++[.dct kvs])).elim λL q9=>?_;have hL:=q9.1;have it:=aZ (G:=prog.G) (cf:=aj prog (d+26)) (e:=.call 12 (.cons (.var 0) (.cons (.var 1) .nil))) (K:=(F6 (ah (fs.map ao)) (.d (pD (aJ j pre z))) (.d (aI (.call o fn ts))) (ak (n:Int)) (.loc U.length) .un)) (aM rfl q9.2) rfl;have R:=aX prog 22 (d+26) [ah (fs.map ao),.d (pD (aJ j pre z)),.d (aI (.call o fn ts)),ak (n:Int)] U rfl;have lp:=ky (f:=aL prog.G (aj prog (d+26)) (.var 5) gY) PyData.str (λK=>∃v5,K=(F6 (ah (fs.map ao)) (.d (pD (aJ j pre z))) (.d (aI (.call o fn ts))) (ak (n:Int)) (.loc U.length) v5)) (λx=>(kvs.lookup x).isSome=true) (λx v=>X2 λq r=>A4 (Be (tS (aJ j pre z) n ts g) o f pre z q x) (r∈dZ j f) (x∈r.2) (v=.d (iX (q,r.1)))) (U++[.dct kvs]) L (F6 (ah (fs.map ao)) (.d (pD (aJ j pre z))) (.d (aI (.call o fn ts))) (ak (n:Int)) (.loc U.length) .un) (by
   rintro x hx _ ⟨v5,rfl⟩
   have ii:=yU (aK U (.dct kvs)) x;have R:=ch prog.G (aj prog (d+26)) gY (F6 (ah (fs.map ao)) (.d (pD (aJ j pre z))) (.d (aI (.call o fn ts))) (ak (n:Int)) (.loc U.length) (aA x)) (U++[Cell.dct kvs]);cases hk:kvs.lookup x with
   |none=>rw[hk]at ii;exact .inl ⟨_,⟨_,rfl⟩,PY,aP ((R 1 ii))⟩
   |some v=>refine kk λUc k=>?_;rw[hk]at ii;obtain⟨⟨q,rfl,hq⟩,ho⟩:=hs.some x v hk;have hn:=(hL x).mp hx;obtain⟨r,h1,h2,er⟩:=xI w7 hj of (Kw hn j) (pre++[z]) (d+4) (U++[.dct kvs]);refine k ?_;exact .inr ⟨_,rfl,⟨q,r,⟨hq,ho,hn⟩,h1,h2,rfl⟩,aP ((R 5 ii (u9 (aK ..) hk) er))⟩) ⟨.un,rfl⟩
 refine kk λUc kz=>?_;rcases lp with⟨_,⟨v5,rfl⟩,no,e⟩|⟨x,v,hx,_,⟨q,r,h1,h2,h3,rfl⟩,e⟩
 . refine kz ⟨.none,(R 1 (bE hn U) es (a7 it e) (cS ..)),.inl ⟨rfl,λq x ⟨a,b,c⟩=>?_⟩⟩;have:=no x ((hL x).mpr c);cases hk:kvs.lookup x with
   |none=>exact(hs.none x hk).elim (λh=>h q a) b
   |some v=>rw[hk]at this;exact this rfl
 . exact kz (⟨_,(R 1 (bE hn U) es (a7 it e) (cS ..)),.inr ⟨q,x,r,h1,h2,h3,rfl⟩⟩)theorem mz:∀l:List Rw,nL (jH l)=(l.map nR).sum
 |[]=>rfl
 |r::l=>congrArg (nR r+·) (mz l)theorem nj(b:RL):nL b=((lst b).map nR).sum:=by rw[<- mz,yL]theorem Pw(a n d r:Nat):a+n+d+r=a+(r+d)+n:=by rw[QP a n d,QP (a+d) n r,Qo a d r,Qu d r]
theorem qu(m:Nat)(l:List Rw)(k:Nat)(news:List Rw):((ik m l k news).map nR).sum+(((l.drop k).take m).map nR).sum=(l.map nR).sum+(news.map nR).sum:=by
 have e:l=l.take k++((l.drop k).take m++l.drop (k+m)):=by rw[<- List.drop_drop,QJ,QJ]
 have e2:(l.map nR).sum=((l.take k).map nR).sum+((((l.drop k).take m).map nR).sum+((l.drop (k+m)).map nR).sum):=by
   conv=>lhs;rw[e]
   rw[PP,PP,R4,R4]
 unfold ik;rw[PP,PP,R4,R4,e2];exact Pw ..
variable {l:List B}theorem Da{r:B}(h:l[k]?=some r):(l.drop k).take 1=[r]:=by rw[QT ((Pz.mp h).1),(Pz.mp h).2];(rfl)def gA(z m:Nat)(c:RL):RL:=jH (((lst c).drop z).take m)theorem JI(h:sJ r=true)(b:RL):nR (sF r b)=nL b+1:=by cases r<;>first|rfl|injection h
theorem qh(h:sJ r=true)(b:RL):dH (sF r b)=b/\sJ (sF r b)=true:=by cases r<;>first|exact⟨rfl,rfl⟩|injection h
theorem JJ(h:sJ r=true)(b:RL):hR (sF r b)=hL b+1:=by cases r<;>first|rfl|injection h
theorem Fz(h:sJ r=true):hL (dH r)+1=hR r:=by cases r<;>first|rfl|injection h
theorem GA(h:l9 ws cs r)(hb:fH ws cs b):l9 ws cs (sF r b):=by
 cases r with
 |whn t _=>exact⟨h.1,hb⟩
 |aga n _=>exact hb
 |set _ _=>exact h
 |tell _=>exact h
 |call _ _ _=>exact h
theorem eK{news:List B}{x:B}(h:x∈ik m l k news):x∈l\/x∈news:=by
 rcases PQ.mp h with h|h
 . exact(PQ.mp h).imp P8 id
 . exact .inl (QF h)
theorem fV(m:Nat)(h:k<=l.length)(x:B):(ik m l k [x])[k]?=some x:=by
 unfold ik;have hk:(l.take k).length=k:=by rw[Ql];exact Qm h
 rw[PT,PW (Qk hk),hk,S5];(rfl)variable {news:RL}
theorem jc(m:Nat)(z:Nat)(hp:Pth b pre c):A3 (fH ws cs b->fH ws cs news->fH ws cs (cE m news z b pre)) (hL (cE m news z b pre)<=hL b+hL news) (nL (cE m news z b pre)+nL (gA z m c)=nL b+nL news):=by
 induction hp with
 |nil b=>refine⟨λh1 h2=>my _ λq hq=>(eK hq).elim (bS h1 q) (bS h2 q),rI _ λq hq=>(eK hq).elim (λh=>iv (cp q h) (PU ..)) λh=>iv (cp q h) (P7 ..),?_⟩;unfold gA;rw[jd,mz,mz,qu,<- nj,<- nj]
 |@cons b c q k ks hk hb hp ih=>
   obtain⟨i1,i2,i3⟩:=ih;have hq:=PC hk;rw[jv hk];refine⟨λh1 h2=>my _ λx hx=>?_,rI _ λx hx=>?_,?_⟩
   . rcases eK hx with hx|hx
     . exact bS h1 x hx
     . rw[PL.mp hx];exact GA (bS h1 q hq) (i1 (ic (bS h1 q hq)) h2)
   . rcases eK hx with hx|hx
     . exact iv (cp x hx) (PU ..)
     . rw[PL.mp hx,JJ hb];refine iv (PN i2) ?_;rw[<- Nat.succ_add];exact PJ (iv (Qk (Fz hb)) (cp q hq)) _
   . have h1:=qu 1 (lst b) k [sF q (cE m news z (dH q) ks)];rw[Da hk,RX,List.sum_singleton,RX,List.sum_singleton,JI hb,<- A0 q]at h1
     rw[mz,nj b];lia
variable {r':Rw}
theorem wz(m:Nat)(z:Nat)(hz:z<=(lst c).length)(hp:Pth b pre c):Pth (cE m (.cons r' .nil) z b pre) pre (cE m (.cons r' .nil) z c [])/\(lst (cE m (.cons r' .nil) z c []))[z]?=some r':=by
 refine⟨?_,by rw[jd,uS];exact fV m hz r'⟩
 induction hp with
 |nil b=>exact .nil _
 |@cons b c q k ks hk hb hp ih=>rw[jv hk];exact .cons (by rw[uS];exact fV 1 (Qd (Pz.mp hk).1) _) (qh hb _).2 (by rw[(qh hb _).1];exact ih hz)noncomputable def io(fs:List Fd)(n:Nat):List Fd:=fs.take n++fs.drop (n+1)def NF(ts:List Tm)(g:Fd)(pl a b:List Nat):Prop:=X2 λk i=>A6 (k∈dP ts g.ps) (k < i) (i < ts.length) (TC ts g.ps k i) (a=pl++[k]) (b=pl++[i])
def Cl(j n:Nat)(f g:Fd)(pre:List Nat)(z:Nat)(o:Option Str)(ts:List Tm)(a b:List Nat):Prop:=
 NF ts g (aJ j pre z) a b\/(∃q∈dZ n g,Bf g q/\a=q.1/\b=aJ j pre z)\/X2 λx r=>A4 (Be (tS (aJ j pre z) n ts g) o f pre z a x) (r∈dZ j f) (x∈r.2) (b=r.1)
def uH(fs:List Fd)(j n:Nat)(f g:Fd)(pre:List Nat)(z:Nat)(o:Option Str)(fn:Str)(ts:List Tm):PyData:=
 bif bU fn (ci fs j [bL 1 (aS o ts g) pre z f]) then .tuple [.tuple ((ci fs j [bL 1 (aS o ts g) pre z f]).map ao),.tuple [pD (aJ j pre z),.int (am (aS o ts g)).length,aI (.call o fn ts),.int (n:Int),.none]]
 else .tuple [.tuple ((io (ci fs j [bL 1 (aS o ts g) pre z f]) n).map ao),.tuple [.tuple (.int ((j:Int) - 1)::(pre++[z]).map nI),.int (am (aS o ts g)).length,aI (.call o fn ts),.int (n:Int),ao g]]
structure At(ws:List Str)(cs:SC)(fs:List Fd)(j n:Nat)(f g:Fd)(pre:List Nat)(z:Nat)(c:RL)(o:Option Str)(fn:Str)(ts:List Tm):Prop where
 w7:ws.length<=8
 h8:fs.length<=9
 all:∀f∈fs,okF ws cs f
 hj:fs[j]?=some f
 hp:Pth f.rs pre c
 hz:(lst c)[z]?=some (.call o fn ts)
 hn:fs[n]?=some g
 num:n=(bK fs).idxOf fn
 mem:fn∈bK fs
 nm:g.nm=fn
 hl:ts.length=g.ps.length
 h4:ts.length<=7
 ok:∀t∈ts,lO ws t
theorem At.of(h:At ws cs fs j n f g pre z c o fn ts):okF ws cs f:=h.all f (PC h.hj)theorem At.og(h:At ws cs fs j n f g pre z c o fn ts):okF ws cs g:=h.all g (PC h.hn)theorem At.pl(h:At ws cs fs j n f g pre z c o fn ts):(aJ j pre z).length<=20:=by show (pre++[z]).length+1<=20;rw[PA];exact PJ (iv (gv h.hp) h.of.h9) 2
theorem qW(o:Option Str)(ts:List Tm)(g:Fd):nL (aS o ts g)<=ts.length+nL g.rs+1/\hL (aS o ts g)<=hL g.rs:=by
 have k1:∀k,hR (lM ts g.ps k)=0/\nR (lM ts g.ps k)=1:=λk=>by
   unfold lM;cases ts[k]? with
   |none=>exact⟨rfl,rfl⟩
   |some t=>cases g.ps[k]?<;>exact⟨rfl,rfl⟩
 have l1:∀r∈tM o g.t,hR r=0/\nR r=1:=λr hr=>by
   cases o with
   |none=>cases hr
   |some y=>
     cases q:(a9 g.t).eqv (a9 (.name y)) with
     |true=>replace hr:=(nk q)▸hr;cases hr
     |false=>rw[nq q]at hr;exact(PL.mp hr)▸⟨rfl,rfl⟩
 have l2:(tM o g.t).length<=1:=by
   clear l1;cases o with
   |none=>exact PR _
   |some y=>
     cases q:(a9 g.t).eqv (a9 (.name y)) with
     |true=>rw[nk q];exact PR _
     |false=>rw[nq q];exact P9 _
 have s1:∀l:List Rw,(∀r∈l,nR r=1)->(l.map nR).sum=l.length:=λl=>by
   induction l with
   |nil=>exact λ_=>rfl
   |cons r l ih=>exact λh=>by rw[Qq,List.sum_cons,h r (PF ..),ih λx hx=>h x (PD _ hx),Qu];rfl
 refine⟨?_,rI _ λr hr=>?_⟩
 . unfold aS;rw[mz,PP,PP,R4,R4,<- nj,s1 _ λr hr=>(l1 r hr).2,s1 _ λr hr=>by obtain⟨k,_,rfl⟩:=Qi.mp hr;exact(k1 k).2,Pa];exact Qb (PJ (fZ ts g.ps) _) l2
 . rcases PQ.mp hr with hr|hr
   . rcases PQ.mp hr with hr|hr
     . obtain⟨k,_,e9⟩:=Qi.mp hr;refine e9▸?_;rw[(k1 k).1];exact PR _
     . exact cp r hr
   . rw[(l1 r hr).1];exact PR _
theorem gG(h:At ws cs fs j n f g pre z c o fn ts):nL (aS o ts g)<=828/\hL (aS o ts g)<=18:=
 ⟨iv (qW o ts g).1 (PN (Qb h.h4 h.og.n4)),iv (qW o ts g).2 h.og.h9⟩
theorem At.after(h:At ws cs fs j n f g pre z c o fn ts):∀q∈ci fs j [bL 1 (aS o ts g) pre z f],hL q.rs<=36/\nL q.rs<=9000:=λq hq=>by
 refine(gG h).elim λn1 n2=>?_;rcases eK hq with hq|hq
 . exact⟨iv (h.all q hq).h9 (by decide),iv (h.all q hq).n4 (by decide)⟩
 . obtain⟨_,w2,w3⟩:=jc (ws:=ws) (cs:=cs) 1 (news:=aS o ts g) z h.hp;rw[PL.mp hq];exact⟨iv w2 (Qb h.of.h9 n2),iv (iv (PU _ _) (Qk w3)) (iv (Qb h.of.n4 n1) (by decide))⟩
theorem dK(x:B)(hk:k < l.length):(ci l k [x]).length=l.length:=by
 delta ci ik
 rw[PA,PA,Ql,Qw,Qm (Qd hk)];exact QX (hk)theorem At.len(h:At ws cs fs j n f g pre z c o fn ts)(x:Fd):(ci fs j [x]).length<=9:=iv (Qk (dK x (Pz.mp h.hj).1)) (h.h8)theorem AV{l:List PyData}(h:l.length<=9)(k:Nat)(U:ac):dj .add false (ah (l.take k)) (ah (l.drop (k+1))) U=.ok (ah (l.take k++l.drop (k+1))) U:=ie (iv (H9 l k) (iv h (by decide))) U
set_option maxHeartbeats 4000000 in
theorem r0(h:At ws cs fs j n f g pre z c o fn ts)(d:Nat)(U:ac):(X2 λa b=>Cl j n f g pre z o ts a b/\pc (d+41) 24 [ah (fs.map ao),.d (pD (aJ j pre z))] U (.exc 6 [pD a,pD b]))\/((∀a b,¬ Cl j n f g pre z o ts a b)/\pc (d+41) 24 [ah (fs.map ao),.d (pD (aJ j pre z))] U (.d (uH fs j n f g pre z o fn ts))):=by
 have R:=aX prog 24 (d+40) [ah (fs.map ao),.d (pD (aJ j pre z))] U rfl;have e1:=iK h.hj h.hp h.hz (d+37) U;have e2:=di h.mem (d+39) U;replace e2:=h.num▸e2;have e3:=bE h.hn U;refine kk λUc kz=>?_;obtain⟨v1,t1,q1⟩:=pN (o:=o) (fn:=fn) (iv h.pl (by decide)) h.hl h.h4 h.ok (d+35) U;rcases q1 with⟨rfl,no1⟩|⟨k,i,a1,a2,a3,a4,rfl⟩
 . obtain⟨v2,t2,q2⟩:=pQ h.w7 h.hn h.og (aJ j pre z) (d+14) U;rcases q2 with⟨rfl,no2⟩|⟨q,hq,hb,rfl⟩
   . obtain⟨v3,t3,q3⟩:=Cm h.w7 h.hj h.of h.hp h.hz h.hn h.og h.hl h.h4 (d+13) U;rcases q3 with⟨rfl,no3⟩|⟨q,x,r,b1,b2,b3,rfl⟩
     . refine kz (.inr ⟨λa b q=>?_,?_⟩)
       . rcases q with⟨k,i,a1,a2,a3,a4,_,_⟩|⟨q,_,⟨x,_,hx⟩,_,_⟩|⟨x,r,b1,_⟩
         . exact no1 k a1 i a2 a3 a4
         . rw[no2 x]at hx;injection hx
         . exact no3 a x b1
       . have e4:=sR (o:=o) (fn:=fn) h.hl h.h4 h.og.n4 (d+38) U;have e5:=(gK 1 (news:=aS o ts g) (iv ((gG h).1) (by decide)) h.hj h.h8 h.hp (iv h.of.n4 (by decide)) h.of.h9 (z:=z) (d+20) U).1;have e6:=sd h.after fn d U;unfold uH;cases hc:bU fn (ci fs j [bL 1 (aS o ts g) pre z f]) with
         |true=>rw[hc]at e6;exact(R 16 e1 e2 e3 t1 t2 t3 e4 e5 e6 (same U))
         |false=>
           rw[hc]at e6;have l8:((ci fs j [bL 1 (aS o ts g) pre z f]).map ao).length<=9:=by rw[Pa];exact h.len _
           have e7:(io (ci fs j [bL 1 (aS o ts g) pre z f]) n).map ao=((ci fs j [bL 1 (aS o ts g) pre z f]).map ao).take n++((ci fs j [bL 1 (aS o ts g) pre z f]).map ao).drop (n+1):=by unfold io;rw[PP,Q7,Re]
           rw[e7];exact(R 1810448 e1 e2 e3 t1 t2 t3 e4 e5 e6 ((dY ..)) ((jC ..)) (AV l8 n U) (bI ..) ((iQ ..)) (ie (by rw[Pa];exact iv (Qe (iv (Sj _) h.pl) 1) (by decide)) U) (same U))
     . exact kz (.inl ⟨q,r.1,.inr (.inr ⟨x,r,b1,b2,b3,rfl⟩),(R 16 e1 e2 e3 t1 t2 t3 (same U))⟩)
   . exact kz (.inl ⟨q.1,aJ j pre z,.inr (.inl ⟨q,hq,hb,rfl,rfl⟩),(R 16 e1 e2 e3 t1 t2 (same U))⟩)
 . exact kz (.inl ⟨_,_,.inl ⟨k,i,a1,a2,a3,a4,rfl,rfl⟩,(R 16 e1 e2 e3 t1 (same U))⟩)def Ml(ts:List Tm)(ps:List Str)(k i:Nat):Bool:=match ps[k]?,ts[i]? with
 |some p,some t=>decide (p∈cJ t)
 |_,_=>false
theorem zU(ts:List Tm)(ps:List Str)(k i:Nat):Ml ts ps k i=true↔TC ts ps k i:=by
 unfold Ml TC;cases ps[k]? with
 |none=>exact⟨λq=>(by injection q),λ⟨_,_,q,_,_⟩=>by injection q⟩
 |some p=>cases ts[i]? with
   |none=>exact⟨λq=>(by injection q),λ⟨_,_,_,q,_⟩=>by injection q⟩
   |some t=>exact⟨λq=>⟨p,t,rfl,rfl,of_decide_eq_true q⟩,λ⟨_,_,q1,q2,q3⟩=>by injection q1 with e;subst e;injection q2 with e;subst e;exact decide_eq_true q3⟩def ya(q:List Nat×Option Str):PyData:=.tuple [pD q.1,fX q.2]
theorem Ko(o:Option Str)(x:Str)(U:ac):bC .ne (aA x) (.d (fX o)) U=some (!decide (o=some x)):=by
 cases o with
 |none=>rw[decide_eq_false (λh=>by injection h)];rfl
 |some y=>show bC .ne (aA x) (aA y) U=_;rw[Nt];exact congrArg (λb=>some (!b)) (decide_eq_decide.mpr ⟨λe=>congrArg some e.symm,λe=>(Option.some.inj e).symm⟩)
theorem mI(b:B->Bool):∀l:List B,(!(l.filter b).isEmpty)=l.any b
 |[]=>rfl
 |x::l=>by
   rw[Tp,RJ];cases b x with
   |true=>rfl
   |false=>exact mI b (l)def FP(fs:List Fd)(pl:List Nat)(o:Option Str)(fn:Str)(ts:List Tm)(n:Nat)(g:Fd)(b:Nat)(v7 v8 v9 v10 v11 v12 v13:V):Fm:=(Py (.d (.tuple (fs.map ao))) (.d (pD pl)) (.d (aI (.call o fn ts))) (.d (.int (n:Int))) (.d (ao g)) (.d (.list ((dP ts g.ps).map nI))) (.loc b) v7 v8 v9 v10 v11 v12 v13 .un .un .un .un)def I6(ts:List Tm)(g:Fd)(pl:List Nat)(k i:Nat):List (List Nat×List Nat):=bif Ml ts g.ps k i then [(pl++[k],pl++[i])] else []
theorem lJ(b:Bool)(x:B):(bif b then [x] else []).length<=1:=by
 cases b with
 |true=>exact P9 _
 |false=>exact PR _
theorem J6(h:At ws cs fs j n f g pre z c o fn ts)(d:Nat)(U:ac)(v9 v10 v11 v12 v13:V):X2 λv7' v8'=>exec prog.G (aj prog (d+29)) (.forr (.var 7) (.seq (.var 5)) iT) (FP fs (aJ j pre z) o fn ts n g U.length .un .un v9 v10 v11 v12 v13) (U++[.lst (([]:List (List Nat×List Nat)).map iX)])=.ok (.next (FP fs (aJ j pre z) o fn ts n g U.length v7' v8' v9 v10 v11 v12 v13)) (U++[.lst (((dP ts g.ps).flatMap λk=>(List.range' (k+1) (ts.length - (k+1))).flatMap (I6 ts g (aJ j pre z) k)).map iX)]):=by
 have inner:=λk (hk:k∈dP ts g.ps) (v8:V) (L:List (List Nat×List Nat)) (hL:L.length+7<=900000)=>hW (f:=aL prog.G (aj prog (d+29)) (.var 8) iU) nI iX (λK=>∃v8,K=FP fs (aJ j pre z) o fn ts n g U.length (.d (nI k)) v8 v9 v10 v11 v12 v13) (I6 ts g (aJ j pre z) k) 1 U (List.range' (k+1) (ts.length - (k+1))) (FP fs (aJ j pre z) o fn ts n g U.length (.d (nI k)) v8 v9 v10 v11 v12 v13) L (λi hi=>⟨lJ _ _,by
   rintro _ L ⟨v8,rfl⟩ hL
   obtain⟨hki,hin⟩:=gT.mp hi;have hp:g.ps[k]?=some (g.ps[k]'(h.hl▸Tx hki hin)):=PB _;have ht:ts[i]?=some ts[i]:=PB hin;generalize g.ps[k]'(h.hl▸Tx hki hin)=p at hp;have okt:=h.ok ts[i] (Rn _);generalize ts[i]=t at ht okt;have e:Ml ts g.ps k i=decide (p∈cJ t):=by unfold Ml;rw[hp,ht]
   have R:=ch prog.G (aj prog (d+29)) iU (FP fs (aJ j pre z) o fn ts n g U.length (.d (nI k)) (.d (nI i)) v9 v10 v11 v12 v13) (U++[Cell.lst (L.map iX)]);have ins:=eR (cJ t) p (U++[Cell.lst (L.map iX)]);refine⟨_,⟨.d (nI i),rfl⟩,aP ?_⟩;unfold I6;rw[e];by_cases q:p∈cJ t
   . rw[decide_eq_true q,cond_true,PP];exact(R 250 (mG hp _) (oG ht _) (lI okt (d+26) _) ins (dT q) (pR (iv h.pl (by decide)) k _) (pR (iv h.pl (by decide)) i _) (mR (by rw[Pa];exact QM hL) _))
   . rw[decide_eq_false q,cond_false,P4];exact(R 58 (mG hp _) (oG ht _) (lI okt (d+26) _) ins (dF q))⟩) ⟨v8,rfl⟩ (iv (Qe (by rw[TP,S6];exact iv (Tf ..) h.h4) _) hL)
 refine kk λUc k=>?_;obtain⟨_,⟨v7',v8',rfl⟩,e⟩:=hW (f:=aL prog.G (aj prog (d+29)) (.var 7) iT) nI iX (λK=>X2 λv7 v8=>K=FP fs (aJ j pre z) o fn ts n g U.length v7 v8 v9 v10 v11 v12 v13) (λk=>(List.range' (k+1) (ts.length - (k+1))).flatMap (I6 ts g (aJ j pre z) k)) 7 U (dP ts g.ps) (FP fs (aJ j pre z) o fn ts n g U.length .un .un v9 v10 v11 v12 v13) [] (λk hk=>⟨by
   have:∀l:List Nat,(l.flatMap (I6 ts g (aJ j pre z) k)).length<=l.length:=λl=>by
     induction l with
     |nil=>exact P9 _
     |cons i l ih=>rw[RH,PA,PX,Qu];exact Qb ih (lJ _ _)
   exact iv (this _) (by rw[S6];exact iv (Tf ..) h.h4),by
   rintro _ L ⟨v7,v8,rfl⟩ hL
   obtain⟨_,⟨v8',rfl⟩,e⟩:=inner k hk v8 L hL;have it:=rG (G:=prog.G) (cf:=aj prog (d+29)) (e:=.bin .add false (.var 7) (.int 1)) (e':=.bi .len false (.cons (.idx (.var 2) (.int 3)) .nil)) (K:=FP fs (aJ j pre z) o fn ts n g U.length (.d (nI k)) v8 v9 v10 v11 v12 v13) (U:=U++[Cell.lst (L.map iX)]) rfl rfl (by rw[Pa];exact Af (lm hk) h.h4);rw[Pa,qK]at it;exact⟨_,⟨.d (nI k),v8',rfl⟩,aP (aT (a7 it e) rfl)⟩⟩) ⟨.un,.un,rfl⟩ (by rw[Q6,Ri];exact iv (Rq 7 (iv (fZ ..) h.h4)) (by decide))
 rw[SV]at e;refine k ?_;exact⟨v7',v8',a7 (aZ rfl rfl) e⟩def LS(g:Fd)(pl:List Nat)(q:List Nat×List Str):List (List Nat×List Nat):=bif q.2.any (mn g) then [(q.1,pl)] else []
theorem J5(h:At ws cs fs j n f g pre z c o fn ts)(d:Nat)(U:ac)(v7 v8 v11 v12 v13:V)(L0:List (List Nat×List Nat))(h0:L0.length<=1000):X2 λv9' v10'=>exec prog.G (aj prog (d+29)) (.forr (.tup [9,10]) (.seq (.call 47 (.cons (.var 0) (.cons (.var 3) .nil)))) fN) (FP fs (aJ j pre z) o fn ts n g U.length v7 v8 .un .un v11 v12 v13) (U++[.lst (L0.map iX)])=.ok (.next (FP fs (aJ j pre z) o fn ts n g U.length v7 v8 v9' v10' v11 v12 v13)) (U++[.lst ((L0++(dZ n g).flatMap (LS g (aJ j pre z))).map iX)]):=by
 refine kk λUc k=>?_;obtain⟨_,⟨v9',v10',rfl⟩,e⟩:=hW (f:=aL prog.G (aj prog (d+29)) (.tup [9,10]) fN) LO iX (λK=>X2 λv9 v10=>K=FP fs (aJ j pre z) o fn ts n g U.length v7 v8 v9 v10 v11 v12 v13) (LS g (aJ j pre z)) 1 U (dZ n g) (FP fs (aJ j pre z) o fn ts n g U.length v7 v8 .un .un v11 v12 v13) L0 (λq hq=>⟨lJ _ _,by
   rintro _ L ⟨v9,v10,rfl⟩ hL
   have cm:=fi (G:=prog.G) (i:=14) (it:=.seq (.var 10)) (c:=.call 50 (.cons (.var 4) (.cons (.var 14) .nil))) (e:=.var 14) (K:=FP fs (aJ j pre z) o fn ts n g U.length v7 v8 (.d (pD q.1)) (al (q.2.map .str)) v11 v12 v13) (U:=U++[Cell.lst (L.map iX)]) PyData.str PyData.str (mn g) (aZ rfl rfl) (λx _=>aM rfl (Cp h.og x (d+5) _)) λx _ _=>rfl;have nn:=iA ((q.2.filter (mn g)).map PyData.str) (U++[Cell.lst (L.map iX)]);rw[QY,mI]at nn;have R:=ch prog.G (aj prog (d+29)) fN (FP fs (aJ j pre z) o fn ts n g U.length v7 v8 (.d (pD q.1)) (al (q.2.map .str)) v11 v12 v13) (U++[Cell.lst (L.map iX)]);refine⟨_,⟨.d (pD q.1),al (q.2.map .str),rfl⟩,d8 rfl ?_⟩;unfold LS;cases hb:q.2.any (mn g) with
   |true=>rw[hb]at nn;rw[cond_true,PP];exact(R 1 cm nn (mR (by rw[Pa];exact QM hL) _))
   |false=>rw[hb]at nn;rw[cond_false,P4];exact(R 1 cm nn)⟩) ⟨.un,.un,rfl⟩ (iv (Qb h0 (by rw[TP];exact uE h.og n)) (by decide))
 refine k ?_;exact⟨v9',v10',a7 (aZ (aM rfl (nN h.hn h.og (d+8) _)) rfl) e⟩def I5(o:Option Str)(f:Fd)(j:Nat)(pre:List Nat)(z:Nat)(q:List Nat×Option Str):List (List Nat×List Nat):=match q.2 with
 |some x=>bif !decide (o=some x)&&uW x f.rs pre z (decide (x∈cJ f.t)) then (dZ j f).flatMap λr=>bif pK x r then [(q.1,r.1)] else [] else []
 |none=>[]theorem rM{Y:Type}(p:B->Bool)(φ:B->Y):∀l:List B,(l.flatMap λr=>bif p r then [φ r] else []).length<=l.length
 |[]=>P9 _
 |r::l=>by rw[RH,PA,PX,Qu];exact Qb (rM p φ l) (lJ _ _)
set_option maxHeartbeats 999999 in
theorem J4(h:At ws cs fs j n f g pre z c o fn ts)(d:Nat)(U:ac)(v7 v8 v9 v10:V)(L0:List (List Nat×List Nat))(h0:L0.length<=2000):∃ρ',exec prog.G (aj prog (d+29)) (.forr (.tup [9,12]) (.seq (.var 11)) fM) (FP fs (aJ j pre z) o fn ts n g U.length v7 v8 v9 v10 (al ((tS (aJ j pre z) n ts g).map ya)) .un .un) (U++[.lst (L0.map iX)])=.ok (.next ρ') (U++[.lst ((L0++(tS (aJ j pre z) n ts g).flatMap (I5 o f j pre z)).map iX)])/\ρ'[6]?=some (.loc U.length):=by
 have inner:=λ(q:List Nat) (x:Str) (v10 v13:V) (L:List (List Nat×List Nat)) (hL:L.length+821<=900000)=>hW (f:=aL prog.G (aj prog (d+29)) (.tup [13,10]) iS) LO iX (λK=>X2 λv10 v13=>K=FP fs (aJ j pre z) o fn ts n g U.length v7 v8 (.d (pD q)) v10 (al ((tS (aJ j pre z) n ts g).map ya)) (aA x) v13) (λr=>bif pK x r then [(q,r.1)] else []) 1 U (dZ j f) (FP fs (aJ j pre z) o fn ts n g U.length v7 v8 (.d (pD q)) v10 (al ((tS (aJ j pre z) n ts g).map ya)) (aA x) v13) L (λr hr=>⟨lJ _ _,by
   rintro _ L ⟨v10,v13,rfl⟩ hL
   have R:=ch prog.G (aj prog (d+29)) iS (FP fs (aJ j pre z) o fn ts n g U.length v7 v8 (.d (pD q)) (al (r.2.map .str)) (al ((tS (aJ j pre z) n ts g).map ya)) (aA x) (.d (pD r.1))) (U++[Cell.lst (L.map iX)]);have ins:=eR r.2 x (U++[Cell.lst (L.map iX)]);refine⟨_,⟨al (r.2.map .str),.d (pD r.1),rfl⟩,d8 rfl ?_⟩;unfold pK;by_cases q:x∈r.2
   . rw[decide_eq_true q,cond_true,PP];exact(R 3 ins (dT q) (mR (by rw[Pa];exact QM hL) _))
   . rw[decide_eq_false q,cond_false,P4];exact(R 3 ins (dF q))⟩) ⟨v10,v13,rfl⟩ (iv (Qe (by rw[TP];exact uE h.of j) _) hL)
 obtain⟨_,⟨v9',v10',v12',v13',rfl⟩,e⟩:=hW (f:=aL prog.G (aj prog (d+29)) (.tup [9,12]) fM) ya iX (λK=>X4 λv9 v10 v12 v13=>K=FP fs (aJ j pre z) o fn ts n g U.length v7 v8 v9 v10 (al ((tS (aJ j pre z) n ts g).map ya)) v12 v13) (I5 o f j pre z) 821 U (tS (aJ j pre z) n ts g) (FP fs (aJ j pre z) o fn ts n g U.length v7 v8 v9 v10 (al ((tS (aJ j pre z) n ts g).map ya)) .un .un) L0 (λq hq=>⟨by
   unfold I5;cases q.2 with
   |none=>exact PR _
   |some x=>
     show List.length (bif _ then _ else _)<=_;cases !decide (o=some x)&&uW x f.rs pre z (decide (x∈cJ f.t)) with
     |true=>exact iv (rM _ _ _) (uE h.of j)
     |false=>exact PR _,by
   rintro _ L ⟨v9,v10,v12,v13,rfl⟩ hL
   obtain⟨q,y⟩:=q;have R:=ch prog.G (aj prog (d+29)) fM (FP fs (aJ j pre z) o fn ts n g U.length v7 v8 (.d (pD q)) v10 (al ((tS (aJ j pre z) n ts g).map ya)) (.d (fX y)) v13) (U++[Cell.lst (L.map iX)]);cases y with
   |none=>refine⟨_,⟨.d (pD q),v10,.d .none,v13,rfl⟩,d8 rfl ?_⟩;show _=Res.ok _ (U++[.lst ((L++[]).map iX)]);rw[P4];exact(R 0)
   |some x=>
     have ne:=Ko o x (U++[Cell.lst (L.map iX)]);have nd:=vw (z:=z) h.hj h.of h.hp x (d+5) (U++[Cell.lst (L.map iX)]);by_cases ho:o=some x
     . rw[decide_eq_true ho]at ne;have e0:I5 o f j pre z (q,some x)=[]:=by show (bif !decide (o=some x)&&_ then _ else _)=_;rw[decide_eq_true ho];rfl
       rw[e0,P4];exact⟨_,⟨.d (pD q),v10,aA x,v13,rfl⟩,d8 rfl ((R 16 ne))⟩
     . rw[decide_eq_false ho]at ne;cases hl:uW x f.rs pre z (decide (x∈cJ f.t)) with
       |false=>
         rw[hl]at nd;have e0:I5 o f j pre z (q,some x)=[]:=by show (bif !decide (o=some x)&&_ then _ else _)=_;rw[hl,S9];rfl
         rw[e0,P4];exact⟨_,⟨.d (pD q),v10,aA x,v13,rfl⟩,d8 rfl ((R 16 ne nd))⟩
       |true=>
         rw[hl]at nd;have e0:I5 o f j pre z (q,some x)=(dZ j f).flatMap λr=>bif pK x r then [(q,r.1)] else []:=by show (bif !decide (o=some x)&&_ then _ else _)=_;rw[hl,decide_eq_false ho];rfl
         rw[e0];refine kk λUc k=>?_;obtain⟨_,⟨v10',v13',rfl⟩,e⟩:=inner q x v10 v13 L hL;refine k ?_;exact⟨_,⟨.d (pD q),v10',aA x,v13',rfl⟩,d8 rfl ((R 16 ne nd (a7 (aZ (aM (d0 rfl (iB (bZ rfl rfl (bI ..)))) (nN h.hj h.of (d+8) (U++[Cell.lst (L.map iX)]))) rfl) e)))⟩⟩) ⟨v9,v10,.un,.un,rfl⟩ (by
   have:(tS (aJ j pre z) n ts g).length<=827:=by unfold tS;rw[PA,Pa,Pa,eI];exact Qb (iv (fZ ..) h.h4) h.og.n4
   exact iv (Qb h0 (Rq 821 this)) (by decide))
 exact⟨_,a7 (aZ rfl rfl) e,rfl⟩
theorem lj{b:Bool}{x y:B}:y∈(bif b then [x] else [])↔b=true/\y=x:=by
 cases b with
 |true=>exact⟨λq=>⟨rfl,PL.mp q⟩,λq=>PL.mpr q.2⟩
 |false=>exact⟨λq=>(by cases q),λq=>by cases q.1⟩
theorem BO(h:At ws cs fs j n f g pre z c o fn ts)(a b:List Nat):(a,b)∈((dP ts g.ps).flatMap λk=>(List.range' (k+1) (ts.length - (k+1))).flatMap (I6 ts g (aJ j pre z) k))++(dZ n g).flatMap (LS g (aJ j pre z))++(tS (aJ j pre z) n ts g).flatMap (I5 o f j pre z)↔Cl j n f g pre z o ts a b:=by
 rw[PQ,PQ,or_assoc];refine or_congr ?_ (or_congr ?_ ?_)
 . rw[Rp];constructor
   . rintro⟨k,hk,q⟩
     replace q:=Rp.mp q;obtain⟨i,hi,q⟩:=q;obtain⟨q1,q2⟩:=lj.mp q;obtain⟨h1,h2⟩:=gT.mp hi;injection q2 with e f;subst e;subst f;exact⟨k,i,hk,h1,h2,(zU ..).mp q1,rfl,rfl⟩
   . rintro⟨k,i,hk,h1,h2,q,rfl,rfl⟩
     exact⟨k,hk,Rp.mpr ⟨i,gT.mpr ⟨h1,h2⟩,lj.mpr ⟨(zU ..).mpr q,rfl⟩⟩⟩
 . rw[Rp];constructor
   . rintro⟨q,hq,m⟩
     obtain⟨q1,q2⟩:=lj.mp m;injection q2 with e f;subst e;subst f;exact⟨q,hq,Sg.mp q1,rfl,rfl⟩
   . rintro⟨q,hq,hb,rfl,rfl⟩
     exact⟨q,hq,lj.mpr ⟨Sg.mpr hb,rfl⟩⟩
 . rw[Rp];constructor
   . rintro⟨⟨q,y⟩,hq,m⟩
     cases y with
     |none=>cases m
     |some x=>
       have m:(a,b)∈(bif !decide (o=some x)&&uW x f.rs pre z (decide (x∈cJ f.t)) then (dZ j f).flatMap (λr=>bif pK x r then [(q,r.1)] else []) else []):=m;cases hc:!decide (o=some x)&&uW x f.rs pre z (decide (x∈cJ f.t)) with
       |false=>rw[hc]at m;cases m
       |true=>rw[hc]at m;replace m:=Rp.mp m;obtain⟨r,hr,m⟩:=m;obtain⟨q1,q2⟩:=lj.mp m;clear m;injection q2 with e f;subst e;subst f;have hc:=PI.mp hc;exact⟨x,r,⟨hq,of_decide_eq_false (QB _▸hc.1),hc.2⟩,hr,of_decide_eq_true q1,rfl⟩
   . rintro⟨x,r,⟨hq,ho,hl⟩,hr,hx,rfl⟩
     refine⟨(a,some x),hq,?_⟩;show (a,r.1)∈(bif !decide (o=some x)&&uW x f.rs pre z (decide (x∈cJ f.t)) then (dZ j f).flatMap (λr=>bif pK x r then [(a,r.1)] else []) else []);rw[decide_eq_false ho,hl];exact Rp.mpr ⟨r,hr,lj.mpr ⟨decide_eq_true hx,rfl⟩⟩
theorem zs(h:At ws cs fs j n f g pre z c o fn ts)(d:Nat)(U:ac):∃Ls:List (List Nat×List Nat),(∀a b,(a,b)∈Ls↔Cl j n f g pre z o ts a b)/\pc (d+30) 51 [ah (fs.map ao),.d (pD (aJ j pre z)),.d (aI (.call o fn ts))] U (al (Ls.map iX)):=by
 have e1:=kP h.mem (d+28) U;rw[<- h.num]at e1;have e2:=bE h.hn U;have e3:=t8 (o:=o) (fn:=fn) h.hl h.h4 (d+28) U;obtain⟨v7,v8,l1⟩:=J6 h d U .un .un .un .un .un;have len1:((dP ts g.ps).flatMap λk=>(List.range' (k+1) (ts.length - (k+1))).flatMap (I6 ts g (aJ j pre z) k)).length<=49:=by
   have fl:∀(l:List Nat) (φ:Nat->List (List Nat×List Nat)) (w:Nat),(∀x∈l,(φ x).length<=w)->(l.flatMap φ).length<=l.length * w:=λl φ w=>by
     induction l with
     |nil=>exact λ_=>PR _
     |cons x l ih=>exact λhw=>by rw[RH,PA,PX,S4,Qu];exact Qb (ih λy hy=>hw y (PD _ hy)) (hw x (PF ..))
   exact iv (fl _ _ 7 λk _=>iv (fl _ _ 1 λi _=>lJ _ _) (by rw[TP,S6];exact iv (Tf ..) h.h4)) (Rq 7 (iv (fZ ..) h.h4))
 have mem:=BO h;generalize ((dP ts g.ps).flatMap λk=>(List.range' (k+1) (ts.length - (k+1))).flatMap (I6 ts g (aJ j pre z) k))=L1 at l1 len1 mem;obtain⟨v9,v10,l2⟩:=J5 h d U v7 v8 .un .un .un L1 (iv len1 (by decide));have len2:(L1++(dZ n g).flatMap (LS g (aJ j pre z))).length<=2000:=by rw[PA];exact iv (Qb len1 (iv (rM _ _ _) (uE h.og n))) (by decide)
 generalize (L1++(dZ n g).flatMap (LS g (aJ j pre z)))=L2 at l2 len2 mem;have c1:=lT (G:=prog.G) (cf:=aj prog (d+29)) (i:=15) (it:=.seq (.var 5)) (e:=.tup (.cons (.bin .add false (.var 1) (.tup (.cons (.var 15) .nil))) (.cons (.idx (.idx (.var 4) (.int 1)) (.var 15)) .nil))) (K:=FP fs (aJ j pre z) o fn ts n g U.length v7 v8 v9 v10 .un .un .un) (U:=U++[Cell.lst (L2.map iX)]) nI (λk=>ya (Gc (aJ j pre z) g k)) (aZ rfl rfl) λk hk=>by
   obtain⟨t,p,h1,h2,h3⟩:=lq h.hl (lm hk);have e:Gc (aJ j pre z) g k=(aJ j pre z++[k],some p):=by unfold Gc;rw[h2]
   rw[e];exact sX (d0 (jX rfl rfl (pR (iv h.pl (by decide)) k _)) (iB (bZ rfl rfl (mG h2 _)))) rfl
 have c2:=λ(v11:V)=>mo (G:=prog.G) (cf:=aj prog (d+29)) (m:=false) (t:=.tup [16,17]) (it:=.seq (.call 41 (.cons (.tup (.cons (.var 3) .nil)) (.cons (.idx (.var 4) (.int 2)) .nil)))) (c:=.nil) (e:=.tup (.cons (.var 16) (.cons (.call 39 (.cons (.var 17) .nil)) .nil))) (K:=FP fs (aJ j pre z) o fn ts n g U.length v7 v8 v9 v10 v11 .un .un) (U:=U++[Cell.lst (L2.map iX)]) (aa:=U++[Cell.lst (L2.map iX)]) (aZ (aM rfl (kO 18 g.rs [n] (d+9) h.og.h9 (iv h.og.n4 (by decide)) (P7 19 81) (U++[Cell.lst (L2.map iX)]))) rfl) (iG aR (λp=>some (ya (EG p))) (jt [n] 0 g.rs) λp _=>zB rfl (sX (d0 rfl (iB (aM rfl (pv p.2 (d+28) _)))) rfl));have c2:=c2 (al ((dP ts g.ps).map λk=>ya (Gc (aJ j pre z) g k)));rw[RS]at c2;have eg:(tS (aJ j pre z) n ts g).map ya=(dP ts g.ps).map (λk=>ya (Gc (aJ j pre z) g k))++(jt [n] 0 g.rs).map (λp=>ya (EG p)):=by unfold tS;rw[PP,Qv,Qv];rfl
 have ad:=kS (a:=(dP ts g.ps).map λk=>ya (Gc (aJ j pre z) g k)) (b:=(jt [n] 0 g.rs).map λp=>ya (EG p)) (by rw[Pa,Pa,eI];exact iv (Qb (iv (fZ ..) h.h4) h.og.n4) (by decide)) (U++[Cell.lst (L2.map iX)]);rw[<- eg]at ad;obtain⟨ρ',l3,h6⟩:=J4 h d U v7 v8 v9 v10 L2 len2;refine⟨_,mem,?_⟩;generalize L2++(tS (aJ j pre z) n ts g).flatMap (I5 o f j pre z)=L3 at l3;have fz:af prog.G (aj prog (d+29)) (.freeze (.var 6)) ρ' (U++[.lst (L3.map iX)])=.ok (al (L3.map iX)) (U++[.gone]):=by refine Md ?_ (lv _ _);rw[Fh,h6];rfl
 exact oO (fn:=pp) (d:=d+29) rfl rfl (aT (kh (aM rfl e1)) (aT (kh (bZ rfl rfl e2)) (aT (kh (aM rfl e3)) (aT (kh rfl) (aT l1 (aT l2 (aT (kh c1) (aT (kh (jX rfl c2 ad)) (aT l3 (lZ (Dt fz))))))))))) (cG ..)def AL(d:Nat)(x y:PyData)(b:Bool):Prop:=∀U,pc d 57 [.d x,.d y] U (.d (.bool b))
theorem FM(s:Str)(d:Nat):AL (d+1) (.str s) (.str s) true:=λU=>by
 have e:bC .eq (aA s) (aA s) U=some true:=by rw[xN,decide_eq_true rfl]
 exact(aX prog 57 d [aA s,aA s] U rfl 512 e (same U))theorem FN(i k:Int)(d:Nat):AL (d+1) (.int i) (.int k) (decide (i=k)):=λU=>(aX prog 57 d [ak i,ak k] U rfl 0 (same U))theorem Io(d:Nat):AL (d+1) .none .none true:=λU=>(aX prog 57 d [.d .none,.d .none] U rfl 0 (same U))variable {xs ys:List PyData}
theorem zJ(hx:ys.length<=9000)(H:∀(k:Nat) x y,xs[k]?=some x->ys[k]?=some y->∃b,AL d x y b):∃b,AL (d+1) (.tuple xs) (.tuple ys) b/\(xs.length=ys.length->(∀(k:Nat) x y,xs[k]?=some x->ys[k]?=some y->AL d x y true)->b=true):=by
 by_cases hl:xs.length=ys.length
 . obtain⟨g,hg⟩:∃g:Nat->Bool,∀k,k < ys.length->∀x y,xs[k]?=some x->ys[k]?=some y->AL d x y (g k):=by
     have:=Gy true (p:=λk=>k < ys.length) (Q:=λk b=>∀x y,xs[k]?=some x->ys[k]?=some y->AL d x y b) λk hk=>by obtain⟨b,hb⟩:=H k xs[k] ys[k] (PB (hl▸hk)) (PB hk);exact⟨b,λx y h1 h2=>by rw[PB (hl▸hk)]at h1;rw[PB hk]at h2;injection h1 with e;subst e;injection h2 with e;subst e;exact hb⟩
     exact this
   refine⟨((List.range ys.length).filter λk=>!g k).isEmpty,λU=>?_,λ_ h=>?_⟩
   . have hI:=iC (G:=prog.G) (cf:=aj prog d) (K:=[ah xs,ah ys,.un]) (U:=U) (aa:=U) (e:=.bi .len false (.cons (.var 1) (.nil))) (b:=(ys.length:Int)) rfl (qF hx);rw[fk]at hI;have cm:=fi (i:=2) (c:=.not (.call 57 (.cons (.idx (.var 0) (.var 2)) (.cons (.idx (.var 1) (.var 2)) (.nil))))) (e:=.var 2) (λ(k:Nat)=>PyData.int (k:Int)) nI (λk=>!g k) hI (λk hk=>by have hk:=Rc.mp hk;have e1:xs[k]?=some (xs[k]'(hl▸hk)):=PB _;have e2:ys[k]?=some ys[k]:=PB hk;exact JA (aM (d0 (bZ rfl rfl (by rw[df,e1];rfl)) (iB (bZ rfl rfl (by rw[df,e2];rfl)))) (hg k hk _ _ e1 e2 _))) (λk hk q=>rfl)
     unfold pc;rw[((aX prog 57 d [ah xs,ah ys] U rfl 256 (nF (decide_eq_true (congrArg _ hl))) cm (same U)))];show Res.ok (V.d (.bool (!(!(((List.range ys.length).filter λk=>!g k).map nI).isEmpty)))) U=_;rw[Bool.not_not,QY]
   . rw[RO,RC];intro k hk q;have hk:=Rc.mp hk;have e1:xs[k]?=some (xs[k]'(hl▸hk)):=PB _;have e2:ys[k]?=some ys[k]:=PB hk;have a:=h k _ _ e1 e2 [];unfold pc at a;rw[hg k hk _ _ e1 e2 []]at a;injection a with a;injection a with a;injection a with a;rw[a]at q;injection q
 . exact⟨false,λU=>(aX prog 57 d [ah xs,ah ys] U rfl 256 (nT (decide_eq_false λq=>hl (Sz.mp q))) (same U)),λh=>(hl h).elim⟩def SA(n:Nat)(x:PyData):Prop:=∀d,AL (d+n+1) x x (true)variable {x:PyData}theorem SA.up(h:SA n x)(hm:n<=m):SA m x:=λd=>by obtain⟨e,rfl⟩:=o0 hm;rw[<- Qo];exact h (d+e)theorem dB(n:Nat)(s:Str):SA n (.str s):=λd=>FM s (d+n)theorem uA(n:Nat)(i:Int):SA n (.int i):=λd=>by have:=FN i i (d+n);rw[decide_eq_true rfl]at this;exact(this)theorem GB(n:Nat):SA n .none:=λd=>Io (d+n)variable {l:List PyData}
theorem kg(hl:l.length<=9000)(h:∀y∈l,SA n y):SA (n+1) (.tuple l):=λd=>by
 have q:∀(k:Nat) x y,l[k]?=some x->l[k]?=some y->AL (d+n+1) x y true:=λk x y h1 h2=>by rw[h1]at h2;injection h2 with h2;subst h2;exact h x (PC h1) d
 obtain⟨b,h1,h2⟩:=zJ hl λk x y a b=>⟨true,q k x y a b⟩;rw[h2 rfl q]at h1;exact(h1)theorem sG(hx:SA n x)(h:∀y∈l,SA n y):∀y∈x::l,SA n y:=λy hy=>(PM.mp hy).elim (λe=>e▸hx) (h y)theorem GE:∀y∈([]:List PyData),SA n y:=λy hy=>by exact nomatch (hy)theorem JL{a b:PyData}(ha:SA n a)(hb:SA n b):SA (n+1) (.tuple [a,b]):=kg (P5 rfl) (sG ha (sG hb GE))theorem BC{a b c:PyData}(ha:SA n a)(hb:SA n b)(hc:SA n c):SA (n+1) (.tuple [a,b,c]):=kg (P5 rfl) (sG ha (sG hb (sG hc GE)))theorem Mn{a b c d:PyData}(ha:SA n a)(hb:SA n b)(hc:SA n c)(hd:SA n d):SA (n+1) (.tuple [a,b,c,d]):=kg (P5 rfl) (sG ha (sG hb (sG hc (sG hd GE))))theorem uz(φ:B->PyData){l:List B}(hl:l.length<=9000)(h:∀a∈l,SA n (φ a)):SA (n+1) (.tuple (l.map φ)):=kg (by rw[Pa];exact hl) λy hy=>by obtain⟨a,ha,rfl⟩:=Qi.mp hy;exact h a (ha)theorem JK:∀t:Tm,SA (ht t+1) (a9 t)
 |.num i=>JL (dB _ _) (uA _ _)
 |.name x=>JL (dB _ _) (dB _ _)
 |.op k a b=>BC (dB _ _) ((JK a).up (PN (RA ..))) ((JK b).up (PN (Ro ..)))theorem wm(h:lO ws t):SA 3 (a9 t):=(JK t).up (PN h.2)
theorem NZ(n:Nat)(o:Option Str):SA n (fX o):=by
 cases o with
 |none=>exact GB n
 |some x=>exact dB n (x)theorem K9(n:Nat)(h:m<=5):m<=n+5:=iv h (P7 5 n)
mutual
theorem Mm:∀r:Rw,l9 ws cs r->nR r<=9000->SA (2 * hR r+5) (aI r)
 |.set x t=>@λh _=>(BC (dB 3 _) (dB 3 _) (wm h.2)).up (K9 _ (by decide))
 |.tell t=>@λh _=>(JL (dB 3 _) (wm h)).up (K9 _ (by decide))
 |.whn t b=>@λh n=>BC (dB _ _) ((wm h.1).up (iv (by decide) (P7 6 _))) (kg (iv (gS b) (QZ n)) (GC b h.2 (QZ n)))
 |.aga k b=>@λh n=>BC (dB _ _) (uA _ _) (kg (iv (gS b) (QZ n)) (GC b h (QZ n)))
 |.call o f ts=>@λh _=>(Mn (dB 4 _) (NZ _ _) (dB _ _) (uz a9 (iv h.2.2.1 (by decide)) λt ht=>wm (h.2.1 t ht))).up (K9 _ (by decide))
theorem GC:∀b:RL,fH ws cs b->nL b<=9000->∀y∈am b,SA (2 * hL b+5) y
 |.nil=>@λ_ _ y hy=>by cases hy
 |.cons r b=>@λh n y hy=>by
   rcases PM.mp hy with rfl|hy
   . exact(Mm r h.1 (iv (PU ..) n)).up (PJ (Q4 2 (RA ..)) 5)
   . exact(GC b h.2 (iv (P7 ..) n) y hy).up (PJ (Q4 2 (Ro ..)) 5)
end
theorem N2(h1:f.ps.length<=7)(h2:fH ws cs f.rs)(h3:hL f.rs<=36)(h4:nL f.rs<=9000)(h5:lO ws f.t):SA 79 (ao f):=
 Mn (dB _ _) ((uz (n:=0) PyData.str (iv h1 (by decide)) λx _=>dB _ _).up (by decide)) ((kg (iv (gS f.rs) h4) (GC f.rs h2 h4)).up (PN (PJ (Q4 2 h3) 5))) ((wm h5).up (by decide))theorem Dq(p:List Nat)(h:p.length<=9000):SA 1 (pD p):=uz nI h λk _=>uA _ _
theorem KG(d:Nat)(U:ac):pc (d+1) 56 [.exc 1 []] U (aA gu):=cI (fn:=fD) rfl rfl (rfl)theorem KD(d:Nat)(U:ac):pc (d+1) 56 [.exc 4 []] U (aA bA):=cI (fn:=fD) rfl rfl (rfl)theorem KB(x y:PyData)(d:Nat)(U:ac):pc (d+1) 56 [.exc 6 [x,y]] U (aA eG):=cI (fn:=fD) rfl rfl (rfl)theorem EE{f:Nat}{a:Bool}(h:cf f [.exc k ds] U=.ok (.d x) U)(hk:a=true->k=6):ls cf (.tup i f a) k ds U=.ok (.ret (ah (x::if a then ds else []))) U:=by show ((cf f [.exc k ds] U).bind λv aa=>oc (bN v) (λx=>if a=true->k=6 then Res.ok (Out.ret (ah (x::if a then ds else []))) aa else .bad) .bad)=_;exact h▸if_pos (hk)theorem KF(d:Nat)(U:ac):pc (d+1) 56 [.exc 3 []] U (aA kX):=cI (fn:=fD) rfl rfl (rfl)theorem KC(d:Nat)(U:ac):pc (d+1) 56 [.exc 5 []] U (aA gR):=cI (fn:=fD) rfl rfl (rfl)variable {s:Str}
section
variable {P a b c e f:PyData}
theorem Gr(h:pc d 54 [.d P,.d a,.d b,.d c,.d e,.d f] U (.d x)):pc (d+1) 58 [.d P,ah [a,b,c,e,f]] U (al [x]):=
 cI (fn:=jQ) rfl rfl (lZ (Ds (lZ (uC rfl h rfl))))
theorem uo(hk:pc (d+1) 56 [.exc k []] U (aA s))(hx:∀q,ls (aj prog (d+1)) (.tup 2 56 false) k [] U=q->kI (aj prog (d+1)) [{ k:=6,h:=.tup 2 56 true },{ k:=0,h:=.tup 2 56 false }] k [] U=q)(h:pc (d+1) 54 [.d P,.d a,.d b,.d c,.d e,.d f] U (.exc k [])):pc (d+2) 58 [.d P,ah [a,b,c,e,f]] U (ah [.str s]):=
 cI (fn:=jQ) rfl rfl (lZ (yo (IS (uC rfl h rfl)) (hx _ (EE (i:=2) (a:=false) hk (λq=>by injection q)))))
theorem JE(h:pc (d+1) 54 [.d P,.d a,.d b,.d c,.d e,.d f] U (.exc 6 [x,y])):pc (d+2) 58 [.d P,ah [a,b,c,e,f]] U (ah [.str eG,x,y]):=
 cI (fn:=jQ) rfl rfl (lZ (yo (IS (uC rfl h rfl)) (EE (i:=2) (a:=true) (KB x y d U) (λ_=>rfl))))
end
def qN:Nat->List Fd->List (List Nat×Rw)
 |_,[]=>[]
 |k,f::fs=>jt [k] 0 f.rs++qN (k+1) (fs)noncomputable def t9:Rw->Bool
 |.call _ _ _=>true
 |_=>(false)theorem El{a w:Nat}(h:a+(n+1) * w<=m){b:Nat}(hb:b<=w):a+b<=m/\(a+b)+n * w<=m:=by rw[S4,Qu _ w,<- Qo]at h;exact⟨iv (Qe hb _) (QM h),iv (PJ (Qe hb _) _) h⟩
theorem FL(d:Nat)(fs0:List Fd)(U:ac):∀(fs:List Fd) (k:Nat) (L:List PyData) (v2:V),fs0.drop k=fs->(∀f∈fs,hL f.rs<=36/\nL f.rs<=9000)->L.length+fs.length * 9000<=90000->
   ∃v2',ba (aL prog.G (aj prog (d+38)) (.var 2) kG) ((List.range' k fs.length).map λ(k:Nat)=>PyData.int (k:Int)) [ah (fs0.map ao),al L,v2] U=.ok (.next [ah (fs0.map ao),al (L++(qN k fs).map aR),v2']) U:=by
 intro xs_
 induction xs_ with
 |nil=>intro k L v2 _ _ _;exact⟨v2,by rw[show qN k []=[] from rfl,RE,P4];rfl⟩
 |cons f fs ih_=>intro k L v2 hd hf hl;obtain⟨f9,f4⟩:=hf f (PF ..);obtain⟨hk,hd'⟩:=kL hd;obtain⟨h1,h2⟩:=El hl f4;obtain⟨v2',ih⟩:=ih_ (k+1) (L++(jt [k] 0 f.rs).map aR) (ak (k:Int)) hd' (λx hx=>hf x (PD _ hx)) (by rw[PA,Pa,eI];exact h2);rw[PT,<- PP]at ih;exact⟨v2',a6 (aP ((ch prog.G (aj prog (d+38)) kG [ah (fs0.map ao),al L,ak (k:Int)] U 5 (bE hk U) (kO 36 f.rs [k] d f9 (iv f4 (by decide)) (P7 37 63) U) (kS (by rw[Pa,eI];exact iv h1 (by decide)) U)))) ih⟩theorem sg(hf:∀f∈fs,hL f.rs<=36/\nL f.rs<=9000)(h8:fs.length<=9)(d:Nat)(U:ac):pc (d+39) 44 [ah (fs.map ao)] U (al ((qN 0 fs).map aR)):=by obtain⟨v2',lp⟩:=FL d fs U fs 0 [] .un rfl hf (by rw[Q6,Ri];exact iv (Rq 9000 h8) (by decide));have hl:(fs.map ao).length=fs.length:=Pa _;rw[SV,<- R9,<- fk,<- hl]at lp;exact(aX prog 44 (d+38) [ah (fs.map ao)] U rfl 0 (a7 (iC rfl (qF (by rw[hl];exact iv h8 (by decide)))) lp) (same U))
theorem J3:∀(fs:List Fd) (k:Nat) (p:List Nat×Rw),p∈qN k fs->X2 λj f=>fs[j]?=some f/\p∈jt [k+j] 0 f.rs:=by
 intro xs_
 induction xs_ with
 |nil=>intro k p h;cases h
 |cons f fs ih_=>
   intro k p h;rcases PQ.mp h with h|h
   . exact⟨0,f,rfl,h⟩
   . obtain⟨j,g,hj,hp⟩:=ih_ (k+1) p h;exact⟨j+1,g,hj,by rw[Qo,Qu 1]at hp;exact hp⟩variable {p:List Nat×Rw}theorem qM(h:p∈qN 0 fs):X5 λj f pre z c=>A4 (fs[j]?=some f) (p.1=aJ j pre z) (Pth f.rs pre c) ((lst c)[z]?=some p.2):=by refine kk λUc k=>?_;obtain⟨j,f,hj,hp⟩:=J3 fs 0 p h;rw[Ri]at hp;obtain⟨pre,z,c,e,h1,h2⟩:=kj _ f.rs f.rs 0 rfl p hp;refine k ?_;exact⟨j,f,pre,z,c,hj,e,h1,h2⟩
theorem nM{o:Option Str}{fn:Str}{g:Fd}(hl:ts.length=g.ps.length)(h4:ts.length<=7)(hn:nL g.rs<=820)(d:Nat)(U:ac):pc (d+2) 60 [.d (aI (.call o fn ts)),.d (ao g)] U (ah (am (aS o ts g))):=by
 have c:=tn (cf:=aj prog (d+1)) (K:=[.d (aI (.call o fn ts)),.d (ao g),.un,.un]) (U:=U) (i:=3) (a:=1) (b:=0) (e:=.call 49 (.cons (.var 0) (.cons (.var 1) .nil))) (o:=o) (fn:=fn) hl (aM rfl (t8 hl h4 d U)) (λ_ _=>rfl) (λ_ _=>rfl) (λ_ _=>rfl);obtain⟨a1,a2⟩:=wM (g:=g) h4 hn U;have R:=aX prog 60 (d+1) [.d (aI (.call o fn ts)),.d (ao g)] U rfl;rw[sY];cases o with
 |none=>refine(?_:_=Res.ok (ah (_++[])) U);rw[P4];exact(R 4 c a1 (same U))
 |some y=>
   have ne:=qd g.t y U;cases h:(a9 g.t).eqv (a9 (.name y)) with
   |true=>rw[h]at ne;rw[nk h,RE,P4];exact(R 516 c a1 ne (same U))
   |false=>rw[h]at ne;rw[nq h];exact(R 8708 c a1 ne (a2 _) (same U))
theorem Ba(x:Str):∀(fs:List Fd) (k:Nat),(qN k fs).any (λp=>uZ x p.2)=bU x fs
 |[],_=>rfl
 |f::fs,k=>by
   show (jt [k] 0 f.rs++qN (k+1) fs).any _=((jr f.rs).any (uZ x)||bU x fs)
   rw[List.any_append,Ba x fs,<- kZ [k] 0 f.rs,Tt];(rfl)def lR(fs:List Fd)(j:Nat)(f g:Fd)(pre:List Nat)(z:Nat)(o:Option Str)(ts:List Tm):List Fd:=ci fs j [bL 1 (aS o ts g) pre z f]
def mu(fs:List Fd)(j n:Nat)(f g:Fd)(pre:List Nat)(z:Nat)(o:Option Str)(fn:Str)(ts:List Tm):List Fd:=
 bif bU fn (lR fs j f g pre z o ts) then lR fs j f g pre z o ts else io (lR fs j f g pre z o ts) n
theorem vx(h:At ws cs fs j n f g pre z c o fn ts)(d:Nat)(U:ac):pc (d+40) 53 [ah (fs.map ao),.d (pD (aJ j pre z)),.d (aI (.call o fn ts))] U (ah ((mu fs j n f g pre z o fn ts).map ao)):=by
 have e1:=kP h.mem (d+38) U;rw[<- h.num]at e1;have e2:=bE h.hn U;have e3:=nM (o:=o) (fn:=fn) h.hl h.h4 h.og.n4 (d+37) U;have e5:=(gK 1 (news:=aS o ts g) (iv ((gG h).1) (by decide)) h.hj h.h8 h.hp (iv h.of.n4 (by decide)) h.of.h9 (z:=z) (d+19) U).2;have e6:=sg h.after (h.len _) d U;have R:=aX prog 53 (d+39) [ah (fs.map ao),.d (pD (aJ j pre z)),.d (aI (.call o fn ts))] U rfl;have l8:((ci fs j [bL 1 (aS o ts g) pre z f]).map ao).length<=9:=by rw[Pa];exact h.len _
 have ca:=AV l8 n U;refine(?_:_=Res.ok (ah (List.map ao (bif bU fn (ci fs j [bL 1 (aS o ts g) pre z f]) then ci fs j [bL 1 (aS o ts g) pre z f] else io (ci fs j [bL 1 (aS o ts g) pre z f]) n))) U);generalize ci fs j [bL 1 (aS o ts g) pre z f]=A at e5 e6 ca ⊢;have cm:=fi (G:=prog.G) (cf:=aj prog (d+39)) (i:=5) (it:=.seq (.call 44 (.cons (.var 4) .nil))) (c:=.bop true (.cons (.cmp .eq (.idx (.idx (.var 5) (.int 1)) (.int 0)) (.str bA)) (.cons (.cmp .eq (.idx (.idx (.var 5) (.int 1)) (.int 2)) (.idx (.var 2) (.int 2))) .nil))) (e:=.var 5) (K:=F6 (ah (fs.map ao)) (.d (pD (aJ j pre z))) (.d (aI (.call o fn ts))) (ak (n:Int)) (ah (A.map ao)) .un) (U:=U) (aa:=U) (base:=(qN 0 A).map aR) aR aR (λp=>uZ fn p.2) (ps:=qN 0 A) (aZ (aM rfl e6) rfl) (λp _=>by
   obtain⟨q,r⟩:=p;cases r with
   |call o' fn' ts'=>exact qq rfl (cN (cq rfl rfl (xN ..)))
   |set _ _=>exact jw rfl
   |tell _=>exact jw rfl
   |whn _ _=>exact jw rfl
   |aga _ _=>exact jw rfl) λp _ _=>rfl
 have nn:=iA (((qN 0 A).filter λp=>uZ fn p.2).map aR) U;rw[QY,mI,Ba]at nn;cases hc:bU fn A with
 |true=>replace nn:=hc▸nn;exact(R 6 e1 e2 e3 e5 cm nn (same U))
 |false=>
   rw[hc]at nn;show _=Res.ok (ah ((io A n).map ao)) U;have e7:(io A n).map ao=(A.map ao).take n++(A.map ao).drop (n+1):=by unfold io;rw[PP,Q7,Re]
   exact e7▸(R 214 e1 e2 e3 e5 cm nn ((dY ..)) ((jC ..)) ca (same U))noncomputable def Pj(o:Option RL)(f:RL->Fm)(U:ac):Res Out:=match o with
 |some c=>.ok (.next (f c)) U
 |none=>.ok (.ret (.d (.int (-1)))) (U)def Pl(o:Option RL):Int:=match o with
 |some c=>((am c).length:Int)
 |none=>-1
theorem BX(d:Nat)(v0 v1:V)(U:ac):∀(ms:List Int) (b:RL) (v3:V),∃v3',ba (aL prog.G (aj prog (d+1)) (.var 3) jP) (ms.map PyData.int) [v0,v1,ah (am b),v3] U=Pj (j2 b ms) (λc=>[v0,v1,ah (am c),v3']) U:=by
 intro xs_
 induction xs_ with
 |nil=>intro b v3;exact⟨v3,rfl⟩
 |cons i is ih_=>
   intro b v3;have c1:=Bn (G:=prog.G) (cf:=aj prog (d+1)) (a:=.var 3) (b:=.bi .len false (.cons (.var 2) .nil)) (K:=[v0,v1,ah (am b),ak i]) (U:=U) (bB b) rfl rfl;have R:=ch prog.G (aj prog (d+1)) jP [v0,v1,ah (am b),ak i] U;cases hr:gi (lst b) i with
   |none=>rw[hr]at c1;rw[ug hr];exact⟨.un,jJ (aP (R 0 c1))⟩
   |some r=>
     replace c1:=hr▸c1;have gr:=jo hr U;have hh:=sf r d U;cases hb:sJ r with
     |false=>
       rw[on hr hb];clear hh;cases r with
       |set _ _=>exact⟨.un,jJ (aP (R 4 c1 gr))⟩
       |tell _=>exact⟨.un,jJ (aP (R 4 c1 gr))⟩
       |call _ _ _=>exact⟨.un,jJ (aP (R 4 c1 gr))⟩
       |whn _ _=>injection hb
       |aga _ _=>injection hb
     |true=>
       rw[pU hr hb];refine(ih_ (dH r) (ak i)).elim λv3' ih=>?_;clear hr;cases r with
       |set _ _=>injection hb
       |tell _=>injection hb
       |call _ _ _=>injection hb
       |whn _ _=>exact⟨v3',a6 (aP (R 68 c1 gr gr hh)) ih⟩
       |aga _ _=>exact⟨v3',a6 (aP (R 68 c1 gr gr hh)) ih⟩def NA(fs:List Fd)(a:Int)(ms:List Int):Option RL:=match gi fs a with
 |some f=>j2 f.rs ms
 |none=>(none)variable {a:Int}theorem xV(h:gi fs a=some f)(ms:List Int):NA fs a ms=j2 f.rs ms:=by show (match gi fs a with|some f=>j2 f.rs ms|none=>none)=_;rw[h]theorem FG(h:gi fs a=none)(ms:List Int):NA fs a ms=none:=by show (match gi fs a with|some f=>j2 f.rs ms|none=>none)=_;rw[h]variable {i:Int}{l:List B}
theorem tT{x:B}(h:gi l i=some x):∃k:Nat,i=(k:Int)/\l[k]?=some x:=by
 by_cases q:0<=i
 . exact⟨i.toNat,(Rb q).symm,(if_pos q).symm.trans h⟩
 . exact absurd ((if_neg q).symm.trans h) nofun
theorem sV:∀{ms:List Int} {b c:RL},j2 b ms=some c->∃pre,ms=iN pre/\Pth b pre c
 |[],b,c,h=>⟨[],rfl,Option.some.inj h▸.nil b⟩
 |i::is,b,c,h=>by
   cases hr:gi (lst b) i with
   |none=>rw[ug hr]at h;injection h
   |some r=>
     cases hb:sJ r with
     |false=>rw[on hr hb]at h;injection h
     |true=>rw[pU hr hb]at h;obtain⟨pre,e,hp⟩:=sV h;obtain⟨k,rfl,hk⟩:=tT hr;exact⟨k::pre,congrArg ((k:Int)::·) e,.cons hk hb hp⟩
structure Spot(fs:List Fd)(x:PyData)(o:Option RL)(z:Int):Prop where
 tu:∀d U,pc (d+2) 10 [.d (.tuple (fs.map ao)),.d x] U (O4 o)
 lf:∀d U,pc (d+2) 61 [.d (.tuple (fs.map ao)),.d x] U (.d (.int (Pl o)))
 yes:∀c,o=some c->X3 λ(j:Nat) (f:Fd) (pre:List Nat)=>A3 (fs[j]?=some f) (Pth f.rs pre c) (x=pI (j:Int) (iN pre) z)
theorem qz{P:List PyData}(hP:P.length < 2)(z:Int):Spot fs (.tuple P) none z:=by
 refine⟨λd U=>?_,λd U=>?_,λc h=>by injection h⟩
 . exact(aX prog 10 (d+1) [ah (fs.map ao),ah P] U rfl 24 (dT (Qp.mpr hP)) (dT (Qp.mpr hP)) (same U))
 . exact(aX prog 61 (d+1) [ah (fs.map ao),ah P] U rfl 24 (dT (Qp.mpr hP)) (dT (Qp.mpr hP)) (same U))
theorem kW(fs:List Fd)(a:Int)(ms:List Int)(z:Int):Spot fs (pI a ms z) (NA fs a ms) z:=by
 have c0:=λd U=>Bn (G:=prog.G) (cf:=aj prog (d+1)) (a:=.idx (.var 1) (.int 0)) (b:=.bi .len false (.cons (.var 0) .nil)) (K:=[ah (fs.map ao),.d (pI a ms z),.un,.un]) (U:=U) (l:=fs) (i:=a) (Pa _).symm (bZ rfl rfl (km ..)) rfl;cases ha:gi fs a with
 |none=>rw[ha]at c0;rw[FG ha];exact⟨λd U=>uk ha ms z d U,λd U=>(aX prog 61 (d+1) [ah (fs.map ao),.d (pI a ms z)] U rfl 8 (dF (ld _ _ _)) (c0 d U) (same U)),λc h=>by injection h⟩
 |some f=>
   rw[ha]at c0;obtain⟨j,rfl,hj⟩:=tT ha;rw[xV ha];refine⟨λd U=>ka hj ms z d U,λd U=>?_,λc h=>?_⟩
   . obtain⟨v3',lp⟩:=BX d (ah (fs.map ao)) (.d (pI (j:Int) ms z)) U ms f.rs .un;have R:=aX prog 61 (d+1) [ah (fs.map ao),.d (pI (j:Int) ms z)] U rfl;have gf:=bE hj U;have it:=aZ (qp (G:=prog.G) (cf:=aj prog (d+1)) (m:=false) (a:=.var 1) (lo:=.cons (.int 1) .nil) (hi:=.cons (.neg (.int 1)) .nil) (K:=[ah (fs.map ao),.d (pI (j:Int) ms z),ah (am f.rs),.un]) rfl rfl rfl (yz (j:Int) ms z U)) rfl;cases hw:j2 f.rs ms with
     |some c=>rw[hw]at lp;exact(R 104 (dF (ld _ _ _)) (c0 d U) (km (j:Int) ms z U) gf (a7 it lp) (same U))
     |none=>replace lp:=hw▸lp;exact(R 104 (dF (ld _ _ _)) (c0 d U) (km (j:Int) ms z U) gf (a7 it lp) (same U))
   . clear c0;obtain⟨pre,rfl,hp⟩:=sV h;exact⟨j,f,pre,hj,hp,rfl⟩
structure okQ(H Ud:Nat)(ws:List Str)(fs:List Fd):Prop where
 w8:ws.length<=8
 ne:0 < fs.length
 n9:fs.length<=9
 nd:(bK fs).Nodup
 ok:∀f∈fs,okF ws (fs.map f8) f
 hB:∀f∈fs,hL f.rs<=H/\nL f.rs<=Ud
theorem J1(h:Pth b pre c):fH ws cs b->fH ws cs c:=by
 induction h with
 |nil b=>exact id
 |@cons b c r k ks hk hb hp ih=>exact λo=>ih (ic (bS o r (PC hk)))
theorem Lu(nd:(bK fs).Nodup)(hm:(fn,k)∈fs.map f8):∃g,A4 (fs[(bK fs).idxOf fn]?=some g) (g.nm=fn) (g.ps.length=k) (fn∈bK fs):=by
 obtain⟨g,hg,e⟩:=Qi.mp hm;obtain⟨e1,e2⟩:=Prod.mk.inj e;have hf:fn∈bK fs:=e1▸Qz (f:=λf:Fd=>f.nm) hg;obtain⟨i,hi⟩:=Q0 hg;have hn:=Rk.mpr hf;have h1:(bK fs)[i]?=some fn:=by unfold bK;rw[Qc,hi,<- e1];rfl
 have h2:(bK fs)[(bK fs).idxOf fn]?=some fn:=by rw[PB hn,S7]
 exact⟨g,by rw[((Tb hn nd).mp (h2.trans h1.symm))];exact hi,e1,e2,hf⟩
theorem Jm(p q:List Nat)(hq:q.length<=9000)(d:Nat):∃b,AL (d+2) (pD p) (pD q) b:=by
 obtain⟨b,h,_⟩:=zJ (d:=d+1) (xs:=p.map nI) (ys:=q.map nI) (by rw[Pa];exact hq) λk x y h1 h2=>by
   rw[Qc]at h1 h2;cases e1:p[k]? with
   |none=>rw[e1]at h1;injection h1
   |some a=>
     cases e2:q[k]? with
     |none=>rw[e2]at h2;injection h2
     |some a'=>rw[e1]at h1;rw[e2]at h2;injection h1 with e;subst e;injection h2 with e;subst e;exact⟨_,FN _ _ d⟩
 exact⟨b,h⟩
theorem FQ(a b a' b':List Nat)(h1:a'.length<=9000)(h2:b'.length<=9000)(d:Nat):∃q,AL (d+3) (.tuple [.str eG,pD a,pD b]) (.tuple [.str eG,pD a',pD b']) q:=by
 obtain⟨q,h,_⟩:=zJ (d:=d+2) (xs:=[.str eG,pD a,pD b]) (ys:=[.str eG,pD a',pD b']) (P5 rfl) λk x y e1 e2=>by
   match k,e1,e2 with
   |0,e1,e2=>injection e1 with e;subst e;injection e2 with e;subst e;exact⟨_,FM _ (d+1)⟩
   |1,e1,e2=>injection e1 with e;subst e;injection e2 with e;subst e;exact Jm a a' h1 d
   |2,e1,e2=>injection e1 with e;subst e;injection e2 with e;subst e;exact Jm b b' h2 d
 exact⟨q,h⟩theorem DP(h9:hL b<=18)(j:Nat)(h:p∈jt [j] 0 b):p.1.length<=20:=by obtain⟨pre,z,c,e,h1,_⟩:=kj _ b b 0 rfl p h;rw[e,PA,PA,Qu];exact PJ (PJ (iv (gv h1) h9) 1) 1
variable {Ud H:Nat}
theorem IR(of:okF ws cs f){q:List Nat×List Str}(h:q∈dZ j f):q.1.length<=20:=by
 rcases rc h with h|rfl
 . obtain⟨p,hp,rfl⟩:=Qi.mp h;exact DP of.h9 j hp
 . exact P7 2 18
theorem Cl.len(h:At ws cs fs j n f g pre z c o fn ts){a b:List Nat}(q:Cl j n f g pre z o ts a b):a.length<=21/\b.length<=21:=by
 have one:∀k:Nat,(aJ j pre z++[k]).length<=21:=λk=>by rw[PA];exact PN h.pl
 rcases q with⟨k,i,_,_,_,_,rfl,rfl⟩|⟨q,hq,_,rfl,rfl⟩|⟨x,r,hl,hr,_,rfl⟩
 . exact⟨one k,one i⟩
 . exact⟨iv (IR h.og hq) (by decide),iv h.pl (by decide)⟩
 . refine⟨?_,iv (IR h.of hr) (by decide)⟩;rcases PQ.mp hl.1 with m|m
   . obtain⟨k,_,e⟩:=Qi.mp m;have:a=aJ j pre z++[k]:=(congrArg Prod.fst e).symm;rw[this];exact one k
   . obtain⟨p,hp,e⟩:=Qi.mp m;have:a=p.1:=(congrArg Prod.fst e).symm;rw[this];exact iv (DP h.og.h9 n hp) (by decide)
theorem G6(h:At ws cs fs j n f g pre z c o fn ts)(ho:∀x,o=some x->x∈ws):fH ws cs (aS o ts g):=my _ λr hr=>by
 rcases PQ.mp hr with hr|hr
 . rcases PQ.mp hr with hr|hr
   . obtain⟨k,hk,e9⟩:=Qi.mp hr;refine e9▸?_;obtain⟨t,p,h1,h2,h3⟩:=lq h.hl (lm hk);have e:lM ts g.ps k=.set p t:=by unfold lM;rw[h1,h2]
     exact e▸⟨h.og.ps p (PC h2),h.ok t (PC h1)⟩
   . exact bS h.og.rs r hr
 . cases o with
   |none=>cases hr
   |some y=>
     cases q:(a9 g.t).eqv (a9 (.name y)) with
     |true=>replace hr:=(nk q)▸hr;cases hr
     |false=>rw[nq q]at hr;exact(PL.mp hr)▸⟨ho y rfl,h.og.t⟩theorem Aa(q:okQ H Ud ws fs)(hH:H<=36)(hB:Ud<=9000):SA 80 (.tuple (fs.map ao)):=uz ao (iv q.n9 (by decide)) λf hf=>N2 (q.ok f hf).p4 (q.ok f hf).rs (iv (q.hB f hf).1 hH) (iv (q.hB f hf).2 hB) (q.ok f hf).t
theorem eC(h:PyData.eqvAll (x::xs) (y::ys)=true):x.eqv y=true/\PyData.eqvAll xs ys=true:=PI.mp (h)variable {p:Prop}theorem eN(h:PyData.eqvAll (x::xs) (y::ys)=true)(hx:x.eqv y=false):p:=absurd (hx.symm.trans (eC h).1) (PY)theorem AQ(φ:B->PyData)(H:∀a b,(φ a).eqv (φ b)=true->φ a=φ b):∀l l':List B,PyData.eqvAll (l.map φ) (l'.map φ)=true->l.map φ=l'.map φ
 |[],[],_=>rfl
 |[],_::_,h=>nomatch h
 |_::_,[],h=>nomatch h
 |a::l,b::l',h=>by rw[Qq,Qq,H a b (eC h).1,AQ φ H l l' (eC h).2]theorem Jb{a b:Str}(h:(PyData.str a).eqv (.str b)=true):a=b:=eq_of_beq h
theorem O1{b:Int}(h:(PyData.int a).eqv (.int b)=true):a=b:=eq_of_beq (h)theorem HW(l l':List Str):PyData.eqvAll (l.map .str) (l'.map .str)=true->l.map PyData.str=l'.map .str:=AQ _ (λa b h=>congrArg PyData.str (Jb h)) l (l')theorem Lg:∀o o':Option Str,(fX o).eqv (fX o')=true->fX o=fX o'
 |none,none,_=>rfl
 |none,some _,h=>nomatch h
 |some _,none,h=>nomatch h
 |some _,some _,h=>congrArg PyData.str (Jb h)
theorem Lh:∀t t':Tm,(a9 t).eqv (a9 t')=true->a9 t=a9 t'
 |.num i,.num k,h=>by have h:PyData.eqvAll [.str cL,.int i] [.str cL,.int k]=true:=h;rw[O1 (eC (eC h).2).1]
 |.name i,.name k,h=>by have h:PyData.eqvAll [.str bz,.str i] [.str bz,.str k]=true:=h;rw[Jb (eC (eC h).2).1]
 |.op i a b,.op k a' b',h=>by have h:PyData.eqvAll [.str (yE i),a9 a,a9 b] [.str (yE k),a9 a',a9 b']=true:=h;show PyData.tuple [.str (yE i),a9 a,a9 b]=.tuple [.str (yE k),a9 a',a9 b'];rw[Jb (eC h).1,Lh a a' (eC (eC h).2).1,Lh b b' (eC (eC (eC h).2).2).1]
 |.num i,.name k,h=>eN (x:=.str cL) (y:=.str bz) (xs:=[.int i]) (ys:=[.str k]) h (by decide)
 |.name i,.num k,h=>eN (x:=.str bz) (y:=.str cL) (xs:=[.str i]) (ys:=[.int k]) h (by decide)
 |.num i,.op k a b,h=>absurd (eC (eC (x:=.str cL) (y:=.str (yE k)) (xs:=[.int i]) (ys:=[a9 a,a9 b]) h).2).2 PY
 |.name i,.op k a b,h=>absurd (eC (eC (x:=.str bz) (y:=.str (yE k)) (xs:=[.str i]) (ys:=[a9 a,a9 b]) h).2).2 PY
 |.op k a b,.num i,h=>absurd (eC (eC (x:=.str (yE k)) (y:=.str cL) (ys:=[.int i]) (xs:=[a9 a,a9 b]) h).2).2 PY
 |.op k a b,.name i,h=>absurd (eC (eC (x:=.str (yE k)) (y:=.str bz) (ys:=[.str i]) (xs:=[a9 a,a9 b]) h).2).2 (PY)noncomputable def NQ:Rw->Nat
 |.set _ _=>0
 |.tell _=>1
 |.call _ _ _=>2
 |.whn _ _=>3
 |.aga _ _=>4
def N8(k:Nat):Str:=([iu,mt,bA,jE,dq][k]?).getD (iu)theorem G4:∀a,a < 5->∀b,b < 5->N8 a=N8 b->a=b:=by decide
theorem ED(r:Rw):NQ r < 5:=by cases r<;>exact Qr (RN _) (P5 rfl)def Mj:Rw->List PyData
 |.set x t=>[.str x,a9 t]
 |.tell t=>[a9 t]
 |.call o f ts=>[fX o,.str f,.tuple (ts.map a9)]
 |.whn t b=>[a9 t,.tuple (am b)]
 |.aga n b=>[.int n,.tuple (am b)]theorem uq(r:Rw):aI r=.tuple (.str (N8 (NQ r))::Mj r):=by cases r<;>rfl
theorem ou(h:(aI r).eqv (aI r')=true):NQ r=NQ r'/\PyData.eqvAll (Mj r) (Mj r')=true:=by rw[uq,uq]at h;exact⟨G4 _ (ED r) _ (ED r') (Jb (eC h).1),(eC h).2⟩theorem wc(h:(aI r).eqv (aI r')=true)(e:Mj r=Mj r'):aI r=aI r':=by rw[uq,uq,(ou h).1,e]
mutual
theorem Ps:∀r r':Rw,(aI r).eqv (aI r')=true->aI r=aI r'
 |.set x t=>λr' h=>wc h (by
   obtain⟨h1,h2⟩:=ou h;cases r' with
   |set y u=>
     have h2:PyData.eqvAll [.str x,a9 t] [.str y,a9 u]=true:=h2;show [PyData.str x,a9 t]=[.str y,a9 u]
     rw[Jb (eC h2).1,Lh t u (eC (eC h2).2).1]
   |_=>exact nomatch h1)
 |.tell t=>λr' h=>wc h (by
   obtain⟨h1,h2⟩:=ou h;cases r' with
   |tell u=>
     have h2:PyData.eqvAll [a9 t] [a9 u]=true:=h2;show [a9 t]=[a9 u]
     rw[Lh t u (eC h2).1]
   |_=>exact nomatch h1)
 |.call o f ts=>λr' h=>wc h (by
   obtain⟨h1,h2⟩:=ou h;cases r' with
   |call o' f' ts'=>
     have h2:PyData.eqvAll [fX o,.str f,.tuple (ts.map a9)] [fX o',.str f',.tuple (ts'.map a9)]=true:=h2;show [fX o,PyData.str f,.tuple (ts.map a9)]=[fX o',.str f',.tuple (ts'.map a9)]
     rw[Lg o o' (eC h2).1,Jb (eC (eC h2).2).1,AQ a9 Lh ts ts' (eC (eC (eC h2).2).2).1]
   |_=>exact nomatch h1)
 |.whn t b=>λr' h=>wc h (by
   obtain⟨h1,h2⟩:=ou h;cases r' with
   |whn u b'=>
     have h2:PyData.eqvAll [a9 t,.tuple (am b)] [a9 u,.tuple (am b')]=true:=h2;show [a9 t,PyData.tuple (am b)]=[a9 u,.tuple (am b')]
     rw[Lh t u (eC h2).1,NR b b' (eC (eC h2).2).1]
   |_=>exact nomatch h1)
 |.aga n b=>λr' h=>wc h (by
   obtain⟨h1,h2⟩:=ou h;cases r' with
   |aga n' b'=>
     have h2:PyData.eqvAll [.int n,.tuple (am b)] [.int n',.tuple (am b')]=true:=h2;show [PyData.int n,.tuple (am b)]=[.int n',.tuple (am b')]
     rw[O1 (eC h2).1,NR b b' (eC (eC h2).2).1]
   |_=>exact nomatch h1)
theorem NR:∀b b':RL,PyData.eqvAll (am b) (am b')=true->am b=am b'
 |.nil=>λb' h=>by
   cases b' with
   |nil=>rfl
   |cons _ _=>exact nomatch h
 |.cons r b=>λb' h=>by
   cases b' with
   |nil=>exact nomatch h
   |cons r' b'=>have h:PyData.eqvAll (aI r::am b) (aI r'::am b')=true:=h;show aI r::am b=aI r'::am b';rw[Ps r r' (eC h).1,NR b b' (eC h).2]
end
theorem Pu(f f':Fd)(h:(ao f).eqv (ao f')=true):ao f=ao f':=by have h:PyData.eqvAll [.str f.nm,.tuple (f.ps.map .str),.tuple (am f.rs),a9 f.t] [.str f'.nm,.tuple (f'.ps.map .str),.tuple (am f'.rs),a9 f'.t]=true:=h;show PyData.tuple [.str f.nm,.tuple (f.ps.map .str),.tuple (am f.rs),a9 f.t]=.tuple [.str f'.nm,.tuple (f'.ps.map .str),.tuple (am f'.rs),a9 f'.t];rw[Jb (eC h).1,HW f.ps f'.ps (eC (eC h).2).1,NR f.rs f'.rs (eC (eC (eC h).2).2).1,Lh f.t f'.t (eC (eC (eC (eC h).2).2).2).1]theorem Pt(fs fs':List Fd)(h:(PyData.tuple (fs.map ao)).eqv (.tuple (fs'.map ao))=true):fs.map ao=fs'.map ao:=AQ ao Pu fs fs' h
theorem dA:∀{l:List PyData},(∀x∈l,x.depth<=n)->PyData.depthAll l<=n
 |[],_=>PR _
 |x::l,h=>QC.mpr ⟨h x (PF ..),dA λy hy=>h y (PD _ hy)⟩theorem Fq:∀t:Tm,(a9 t).depth<=ht t+1
 |.num _=>P9 1
 |.name _=>P9 1
 |.op _ a b=>PN (QC.mpr ⟨PR _,QC.mpr ⟨iv (Fq a) (PN (RA ..)),QC.mpr ⟨iv (Fq b) (PN (Ro ..)),PR _⟩⟩⟩)theorem dN(h:lO ws t)(hn:3<=n):(a9 t).depth<=n:=iv (Fq t) (iv (PN h.2) hn)theorem dS(o:Option Str):(fX o).depth=0:=by cases o<;>rfl
mutual
theorem dR:∀r:Rw,l9 ws cs r->(aI r).depth<=2 * hR r+5
 |.set _ t=>λh=>PN (QC.mpr ⟨PR _,QC.mpr ⟨PR _,QC.mpr ⟨dN h.2 (P5 rfl),PR _⟩⟩⟩)
 |.tell t=>λh=>PN (QC.mpr ⟨PR _,QC.mpr ⟨dN h (P5 rfl),PR _⟩⟩)
 |.call o f ts=>λh=>PN (QC.mpr ⟨PR _,QC.mpr ⟨dS o▸PR _,QC.mpr ⟨PR _,QC.mpr ⟨PN (dA λx hx=>by obtain⟨t,ht,rfl⟩:=Qi.mp hx;exact dN (h.2.1 t ht) (P5 rfl)),PR _⟩⟩⟩⟩)
 |.whn t b=>λh=>PN (QC.mpr ⟨PR _,QC.mpr ⟨dN h.1 (iv (by decide) (P7 4 _)),QC.mpr ⟨PN (dL b h.2),PR _⟩⟩⟩)
 |.aga n b=>λh=>PN (QC.mpr ⟨PR _,QC.mpr ⟨PR _,QC.mpr ⟨PN (dL b h),PR _⟩⟩⟩)theorem dL:∀b:RL,fH ws cs b->PyData.depthAll (am b)<=2 * hL b+5
 |.nil=>λ_=>PR _
 |.cons r b=>λh=>QC.mpr ⟨iv (dR r h.1) (PJ (Q4 2 (RA ..)) 5),iv (dL b h.2) (PJ (Q4 2 (Ro ..)) 5)⟩
end
theorem Nr(h:okF ws cs f):(ao f).depth<=43:=PN (QC.mpr ⟨PR _,QC.mpr ⟨PN (iv (dA (n:=0) λx hx=>by obtain⟨t,ht,rfl⟩:=Qi.mp hx;exact P9 _) (PR _)),QC.mpr ⟨PN (iv (dL f.rs h.rs) (PJ (Q4 2 h.h9) 5)),QC.mpr ⟨dN h.t (by decide),PR _⟩⟩⟩⟩)theorem Au(q:okQ H Ud ws fs)(x:PyData)(U:ac):bC .ne (.d x) (ah (fs.map ao)) U=some (!x.eqv (.tuple (fs.map ao))):=by show (if min x.depth (PyData.tuple (fs.map ao)).depth<=64 then some (x.eqv (.tuple (fs.map ao))) else none).map _=_;rw[if_pos (iv (RM ..) (iv (PN (dA λy hy=>by obtain⟨f,hf,rfl⟩:=Qi.mp hy;exact Nr (q.ok f hf)):_<=44) (by decide)):min x.depth (PyData.tuple (fs.map ao)).depth<=64)];(rfl)noncomputable def wH(r:Rw):RL:=.cons r .nil
theorem jg(hj:fs[j]?=some f){Y:Type}(φ:Fd->Y)(e:φ f'=φ f):(ci fs j [f']).map φ=fs.map φ:=by
 rw[ww,RX,e]
 delta ci ik
 have hk:j < (fs.map φ).length:=by rw[Pa];exact((Pz.mp hj).1)
 have e2:φ f=(fs.map φ)[j]:=by rw[List.getElem_map];exact congrArg φ (Pz.mp hj).2.symm
 rw[e2,PT,TH,List.getElem_cons_drop hk,QJ]
theorem qH{a x:B}(hj:j < l.length)(hk:l[k]?=some a)(ne:k≠j):(ci l j [x])[k]?=some a:=by
 delta ci ik
 have ht:(l.take j).length=j:=by rw[Ql];exact Qm (Qd hj)
 rw[PT];rcases Nat.lt_or_gt_of_ne ne with h|h
 . rw[P1 (by rw[ht];exact h),Q5 h];exact hk
 . rw[PW (by rw[ht];exact Qd h),ht];obtain⟨e,he⟩:=Tj h;have:k - j=e+1:=by rw[he,Qo,Rt]
   rw[this,TH,Tk,RY,QP,<- he];exact hk
theorem qV(nd:(bK fs).Nodup)(hn:fs[n]?=some g):n=(bK fs).idxOf g.nm:=by
 have h1:(bK fs)[n]?=some g.nm:=by unfold bK;rw[Qc,hn];rfl
 have h2:(bK fs)[(bK fs).idxOf g.nm]?=some g.nm:=by rw[PB (Rk.mpr (PC h1)),S7]
 exact(Tb (Pz.mp h1).1 nd).mp (h1.trans h2.symm)
structure Pc(H Ud:Nat)(ws:List Str)(fs:List Fd)(j n:Nat)(f g:Fd)(pre:List Nat)(z:Nat)(c:RL)(m:Nat)(o:Option Str)(ts:List Tm):Prop where
 q:okQ H Ud ws fs
 hH:H<=18
 hB:Ud<=810
 hj:fs[j]?=some f
 hp:Pth f.rs pre c
 hz:z+m<=(lst c).length
 hn:fs[n]?=some g
 lt:n < j
 hl:ts.length=g.ps.length
 ho:∀x,o=some x->x∈ws
 ok:∀t∈ts,lO ws t
def mF(m:Nat)(r:Rw)(pre:List Nat)(z:Nat)(f:Fd):Fd:=bL m (wH r) pre z (f)def ju(fs:List Fd)(j:Nat)(m:Nat)(r:Rw)(pre:List Nat)(z:Nat)(f:Fd):List Fd:=ci fs j [mF m r pre z f]
theorem Pc.row(h:Pc H Ud ws fs j n f g pre z c m o ts):l9 ws (fs.map f8) (.call o g.nm ts):=
 ⟨h.ho,h.ok,h.hl▸(h.q.ok g (PC h.hn)).p4,h.hl.symm▸Qz (f:=f8) (PC h.hn)⟩
theorem Pc.at(h:Pc H Ud ws fs j n f g pre z c m o ts):At ws (fs.map f8) (ju fs j m (.call o g.nm ts) pre z f) j n (mF m (.call o g.nm ts) pre z f) g pre z (cE m (wH (.call o g.nm ts)) z c []) o g.nm ts:=by
 have hlt:=(Pz.mp h.hj).1;have of:=h.q.ok f (PC h.hj);have en:bK (ju fs j m (.call o g.nm ts) pre z f)=bK fs:=jg h.hj (·.nm) rfl;obtain⟨p1,p2⟩:=wz m (r':=.call o g.nm ts) z (iv (PU ..) h.hz) h.hp;obtain⟨w1,w2,w3⟩:=jc (ws:=ws) (cs:=fs.map f8) m (news:=wH (.call o g.nm ts)) z h.hp;refine⟨h.q.w8,iv (Qk (dK _ hlt)) h.q.n9,λq hq=>?_,fV 1 (Qd hlt) _,p1,p2,qH hlt h.hn (QE h.lt),by rw[en];exact qV h.q.nd h.hn,by rw[en];exact Qz (f:=λf:Fd=>f.nm) (PC h.hn),rfl,h.hl,h.row.2.2.1,h.ok⟩;rcases eK hq with hq|hq
 . exact h.q.ok q hq
 . rw[PL.mp hq];exact⟨of.ps,of.p4,w1 of.rs ⟨h.row,trivial⟩,iv w2 of.h9,iv (iv (PU _ _) (Qk w3)) (iv (PJ (iv (h.q.hB f (PC h.hj)).2 h.hB) 1) (by decide)),of.t⟩
theorem Pc.prog(h:Pc H Ud ws fs j n f g pre z c m o ts):okQ 18 811 ws (ju fs j m (.call o g.nm ts) pre z f):=by
 have A:=h.at;have eh:(ju fs j m (.call o g.nm ts) pre z f).map f8=fs.map f8:=jg h.hj f8 rfl;have en:bK (ju fs j m (.call o g.nm ts) pre z f)=bK fs:=jg h.hj (·.nm) rfl;refine⟨h.q.w8,(dK _ ((Pz.mp h.hj).1))▸h.q.ne,A.h8,en▸h.q.nd,λq hq=>by refine eh▸?_;exact A.all q hq,λq hq=>⟨(A.all q hq).h9,?_⟩⟩;rcases eK hq with hq|hq
 . exact iv (iv (h.q.hB q hq).2 h.hB) (by decide)
 . obtain⟨w1,w2,w3⟩:=jc (ws:=ws) (cs:=fs.map f8) m (news:=wH (.call o g.nm ts)) z h.hp;exact(PL.mp hq)▸iv (iv (PU _ _) (Qk w3)) (PJ (iv (h.q.hB f (PC h.hj)).2 h.hB) 1)
theorem kY(m:Nat)(news:RL)(z:Nat)(hp:Pth b pre c):Pth (cE m news z b pre) pre (cE m news z c []):=by
 induction hp with
 |nil b=>exact .nil _
 |@cons b c q k ks hk hb hp ih=>rw[jv hk];exact .cons (by rw[uS];exact fV 1 (Qd (Pz.mp hk).1) _) (qh hb _).2 (by rw[(qh hb _).1];exact ih)theorem Gs(h:sJ r=true)(h':sJ r'=true)(e:aI r=aI r'):am (dH r)=am (dH r'):=by have e1:=vz h [];rw[e,vz h' []]at e1;injection e1 with e1;injection e1 with e1;injection e1 with e1;exact e1.symm
theorem DN(hp:Pth b pre c):∀{b' c':RL},Pth b' pre c'->am b=am b'->am c=am c':=by
 induction hp with
 |nil b=>intro b' c' hp' e;cases hp';exact e
 |@cons b c q k ks hk hb hp ih=>
   intro b' c' hp' e;cases hp' with
   |cons hk' hb' hp'=>refine ih hp' (Gs hb hb' ?_);rw[c8,c8]at e;have:=congrArg (·[k]?) e;simp only[Qc,hk,hk',Sv]at this;exact Option.some.inj this
theorem wW(h:k+m<=l.length)(news:List B):(ik m l k news).length+m=l.length+news.length:=by
 unfold ik;rw[PA,PA,Ql,Qw,Qm (iv (PU ..) h)]
 grind
theorem Od{a b c:Nat}(h1:a+m=c+1)(h2:b+1=a+n)(h3:b=d)(h4:c=d):m=n:=Nat.add_left_cancel (h1.trans ((congrArg (·+1) (h4.trans h3.symm)).trans h2))
theorem Ay(hp:Pth f.rs pre c)(hz:z+m<=(lst c).length)(r:Rw)(news:RL)(e:ao (bL 1 news pre z (mF m r pre z f))=ao f):(am news).length=m:=by
 have e:am (cE 1 news z (cE m (wH r) z f.rs pre) pre)=am f.rs:=by injection e with e;injection e with _ e;injection e with _ e;injection e with e _;injection e
 have q:=congrArg List.length (DN (kY 1 news z (kY m (wH r) z hp)) hp e);rw[jd,oy,jd,<- c8 news,jA]at q;have a1:=wW hz [r];have a2:=wW (l:=(ik m (lst c) z [r]).map aI) (m:=1) (k:=z) (by rw[Pa];exact(SW (iv (Qk (QP z 1 m)) (iv (PJ hz 1) (Qk a1.symm))))) (am news);rw[Pa]at a2;exact(Od a1 a2 q (bB c)).symm
theorem AU(h:n<=j)(hn:n<=fs.length):(io fs n)[j]?=fs[j+1]?:=by
 unfold io;have ht:(fs.take n).length=n:=by rw[Ql];exact Qm hn
 rw[PW (by rw[ht];exact h),ht,RY,QP,QX h]theorem Ax{fs':List Fd}(e:fs.map ao=fs'.map ao){a b:Fd}(ha:fs[k]?=some a)(hb:fs'[k]?=some b):ao a=ao b:=by have:=congrArg (·[k]?) e;simp only[Qc,ha,hb,Sv]at this;exact Option.some.inj (this)theorem xA(h:n < fs.length):(io fs n).length+1=fs.length:=by unfold io;rw[PA,Ql,Qw,Qm (Qd h)];omega
theorem CA(h:Pc H Ud ws fs j n f g pre z c m o ts)(e:(mu (ju fs j m (.call o g.nm ts) pre z f) j n (mF m (.call o g.nm ts) pre z f) g pre z o g.nm ts).map ao=fs.map ao):X2 λu v=>uH (ju fs j m (.call o g.nm ts) pre z f) j n (mF m (.call o g.nm ts) pre z f) g pre z o g.nm ts=.tuple [.tuple (fs.map ao),.tuple [pD (aJ j pre z),.int (m:Int),aI (.call o g.nm ts),u,v]]:=by
 have hlt:=(Pz.mp h.hj).1;have l1:(ju fs j m (.call o g.nm ts) pre z f).length=fs.length:=dK _ hlt;have l2:(lR (ju fs j m (.call o g.nm ts) pre z f) j (mF m (.call o g.nm ts) pre z f) g pre z o ts).length=fs.length:=(dK _ (l1.symm▸hlt)).trans l1;unfold mu at e
 refine(?_:X2 λu v=>(bif bU g.nm (lR (ju fs j m (.call o g.nm ts) pre z f) j (mF m (.call o g.nm ts) pre z f) g pre z o ts) then _ else _)=_);cases hc:bU g.nm (lR (ju fs j m (.call o g.nm ts) pre z f) j (mF m (.call o g.nm ts) pre z f) g pre z o ts) with
 |true=>rw[hc]at e;have e:(lR (ju fs j m (.call o g.nm ts) pre z f) j (mF m (.call o g.nm ts) pre z f) g pre z o ts).map ao=fs.map ao:=e;exact⟨_,_,by rw[(Ay h.hp h.hz (.call o g.nm ts) (aS o ts g) (Ax e (fV 1 (Qd (l1.symm▸hlt)) _) h.hj))];exact congrArg (λx=>PyData.tuple [.tuple x,.tuple [pD (aJ j pre z),.int (m:Int),aI (.call o g.nm ts),.int (n:Int),.none]]) e⟩
 |false=>rw[hc]at e;have e:(io (lR (ju fs j m (.call o g.nm ts) pre z f) j (mF m (.call o g.nm ts) pre z f) g pre z o ts) n).map ao=fs.map ao:=e;have q:=congrArg List.length e;rw[Pa,Pa]at q;have q2:=xA (l2.symm▸(Pz.mp h.hn).1);rw[q,l2]at q2;exact absurd q2 (Nat.succ_ne_self _)noncomputable def fC(fs:List Fd)(k:Nat)(g:Fd):List Fd:=fs.take k++g::fs.drop k
theorem Cz{g0:Fd}{a:Nat}(ha:a<=j)(hj:fs[j]?=some f)(h:Pc H Ud ws (fC fs a g0) (j+1) n f g pre z c m o ts)(e:(mu (ju (fC fs a g0) (j+1) m (.call o g.nm ts) pre z f) (j+1) n (mF m (.call o g.nm ts) pre z f) g pre z o g.nm ts).map ao=fs.map ao):X2 λu v=>uH (ju (fC fs a g0) (j+1) m (.call o g.nm ts) pre z f) (j+1) n (mF m (.call o g.nm ts) pre z f) g pre z o g.nm ts=.tuple [.tuple (fs.map ao),.tuple [pD (aJ j pre z),.int (m:Int),aI (.call o g.nm ts),u,v]]:=by
 have hlt:=(Pz.mp h.hj).1;have hja:a<=fs.length:=iv ha (Qd (Pz.mp hj).1);have l0:(fC fs a g0).length=fs.length+1:=by unfold fC;rw[PA,PX,Ql,Qw,Qm hja,<- Qo,QX hja]
 have l1:(ju (fC fs a g0) (j+1) m (.call o g.nm ts) pre z f).length=(fC fs a g0).length:=dK _ hlt;have l2:(lR (ju (fC fs a g0) (j+1) m (.call o g.nm ts) pre z f) (j+1) (mF m (.call o g.nm ts) pre z f) g pre z o ts).length=(fC fs a g0).length:=(dK _ (l1.symm▸hlt)).trans l1;unfold mu at e
 refine(?_:X2 λu v=>(bif bU g.nm (lR (ju (fC fs _ g0) (j+1) m (.call o g.nm ts) pre z f) (j+1) (mF m (.call o g.nm ts) pre z f) g pre z o ts) then _ else _)=_);cases hc:bU g.nm (lR (ju (fC fs a g0) (j+1) m (.call o g.nm ts) pre z f) (j+1) (mF m (.call o g.nm ts) pre z f) g pre z o ts) with
 |true=>rw[hc]at e;have e:(lR (ju (fC fs a g0) (j+1) m (.call o g.nm ts) pre z f) (j+1) (mF m (.call o g.nm ts) pre z f) g pre z o ts).map ao=fs.map ao:=e;have q:=congrArg List.length e;rw[Pa,Pa,l2,l0]at q;exact absurd q (Nat.succ_ne_self _)
 |false=>
   rw[hc]at e;have e:(io (lR (ju (fC fs a g0) (j+1) m (.call o g.nm ts) pre z f) (j+1) (mF m (.call o g.nm ts) pre z f) g pre z o ts) n).map ao=fs.map ao:=e;have ej:(((j+1:Nat):Int) - 1)=(j:Int):=by rw[RI];exact Sy ..
   refine⟨.int (n:Int),ao g,?_⟩;show PyData.tuple [.tuple ((io (lR (ju (fC fs a g0) (j+1) m (.call o g.nm ts) pre z f) (j+1) (mF m (.call o g.nm ts) pre z f) g pre z o ts) n).map ao),.tuple [.tuple (.int (((j+1:Nat):Int) - 1)::(pre++[z]).map nI),.int (am (aS o ts g)).length,aI (.call o g.nm ts),.int (n:Int),ao g]]=_;rw[(Ay h.hp h.hz (.call o g.nm ts) (aS o ts g) (Ax e ((AU (R6 h.lt) (Qd (l2.symm▸(Pz.mp h.hn).1))).trans (fV 1 (Qd (l1.symm▸hlt)) _)) hj)),e,ej];(rfl)noncomputable abbrev Gd(a b c d e f g h i j k l m n o:V):Fm:=[a,b,c,d,e,f,g,h,i,j,k,l,m,n,o]noncomputable def bP:Nat->SL->SL
 |0,b=>b
 |n+1,.cons _ b=>bP n b
 |_+1,.nil=>.nil
def Ii(p:List Nat×List Nat):PyData:=.tuple [.str eG,pD p.1,pD p.2]def I9:Option Fd->PyData
 |some g=>ao g
 |none=>.none
inductive End(fs:List Fd)(x m r:PyData)(d:Nat):PyData->V->Prop
 |kind (k:Nat) (s:Str) (h:(k,s)∈[(1,gu),(3,kX),(4,bA),(5,gR)]):End fs x m r d (.list [.tuple [.str s]]) (.exc k [])
 |clash (Ls:List (List Nat×List Nat)) (a b:List Nat) (h:(a,b)∈Ls) (hl:∀p∈Ls,p.1.length<=21/\p.2.length<=21):End fs x m r d (.list (Ls.map Ii)) (.exc 6 [pD a,pD b])
 |good (A:List Fd) (y u v:PyData) (h0:0 < A.length) (sa:SA 80 (.tuple (A.map ao))) (sx:SA 79 x) (sr:SA 79 r) (hp:pc (d+41) 24 [.d (.tuple (A.map ao)),.d y] [] (.d (.tuple [.tuple (fs.map ao),.tuple [x,m,r,u,v]]))):End fs x m r d (.list [.tuple (A.map ao),y]) (.d (.tuple (A.map ao)))def x8(r:Rw)(f:Fd):Bool:=match r with
 |.call _ fn ts=>decide (f.nm=fn)&&decide (((f.ps.map PyData.str).length:Int)=((ts.map a9).length:Int))
 |_=>false
theorem th(cf:Nat->List V->ac->Res V)(v0 v1 v2 v3 v5 v6 v9 v10 v11 v12 v13 v14:V)(r:Rw)(W:List Fd)(Ue:Nat)(p:List Nat)(U:ac):af prog.G cf (.comp false (.var 12) (.seq (.slc false (.var 8) .nil (.cons (.idx (.var 7) (.int 0)) .nil))) (.cons (.bop true (.cons (.cmp .eq (.idx (.var 4) (.int 0)) (.str bA)) (.cons (.cmp .eq (.idx (.var 12) (.int 0)) (.idx (.var 4) (.int 2))) (.cons (.cmp .eq (.bi .len false (.cons (.idx (.var 12) (.int 1)) .nil)) (.bi .len false (.cons (.idx (.var 4) (.int 3)) .nil))) .nil)))) .nil) (.var 12)) (Gd v0 v1 v2 v3 (.d (aI r)) v5 v6 (.d (pD (Ue::p))) (ah (W.map ao)) v9 v10 v11 v12 v13 v14) U=.ok (al (((W.take Ue).filter (x8 r)).map ao)) U:=by
 refine fi (aa:=U) (base:=(W.take Ue).map ao) ao ao (x8 r) (ps:=W.take Ue) (aZ (qp rfl rfl (Ap (bZ rfl rfl (bI ..))) ((dY ..).trans (by rw[<- Q7]))) rfl) (λf _=>?_) λf _ _=>rfl;cases r with
 |call o fn ts=>exact qq rfl (lU (cq rfl rfl (xN ..)) λ_=>cN rfl)
 |set _ _=>exact jw rfl
 |tell _=>exact jw rfl
 |whn _ _=>exact jw rfl
 |aga _ _=>exact jw (rfl)def FD(fs:List Fd)(v1 x:V)(m:Int)(r:Rw)(a:Int)(v6:V)(p:List Nat)(W:List Fd)(v9 v10:V):Fm:=Gd (.d (.tuple (fs.map ao))) v1 x (.d (.int m)) (.d (aI r)) (.d (.int a)) v6 (.d (pD p)) (.d (.tuple (W.map ao))) v9 v10 .un .un .un .un
theorem Lo(cf:Nat->List V->ac->Res V)(fs W:List Fd)(v1 x v6:V)(m a:Int)(r:Rw)(Ue:Nat)(p:List Nat)(h:∀f∈W.take Ue,x8 r f=false)(U:ac):execs prog.G cf (bP 5 cW) (FD fs v1 x m r a v6 (Ue::p) W .un .un) U=.ok (.ret (al [.tuple [.str bA]])) U:=by
 have e:(W.take Ue).filter (x8 r)=[]:=RC.mpr λf hf q=>by rw[h f hf]at q;exact nomatch q
 have c:=th cf (ah (fs.map ao)) v1 x (ak m) (ak a) v6 .un .un .un .un .un .un r W Ue p U;rw[e]at c;exact(ch prog.G cf (bP 5 cW) (FD fs v1 x m r a v6 (Ue::p) W .un .un) U 0 c)variable {W:List Fd}{Ue:Nat}
theorem H6(q0:okQ H Ud ws fs)(h:Pc H Ud ws W Ue n f g pre z c m o ts)(v1 x v6:V)(a:Int)(d:Nat)(U:ac):∃Ls:List (List Nat×List Nat),(∀a b,(a,b)∈Ls↔Cl Ue n (mF m (.call o g.nm ts) pre z f) g pre z o ts a b)/\execs prog.G (aj prog (d+40)) (bP 5 cW) (FD fs v1 x (m:Int) (.call o g.nm ts) a v6 (aJ Ue pre z) W .un .un) U=.ok (.ret (al (bif !Ls.isEmpty then Ls.map Ii else bif !(PyData.tuple ((mu (ju W Ue m (.call o g.nm ts) pre z f) Ue n (mF m (.call o g.nm ts) pre z f) g pre z o g.nm ts).map ao)).eqv (.tuple (fs.map ao)) then [.tuple [.str gR]] else [.tuple ((ju W Ue m (.call o g.nm ts) pre z f).map ao),pD (aJ Ue pre z)]))) U:=by
 have A:=h.at;have of:=h.q.ok f (PC h.hj);have c1:=th (aj prog (d+40)) (ah (fs.map ao)) v1 x (ak (m:Int)) (ak a) v6 .un .un .un .un .un .un (.call o g.nm ts) W Ue (pre++[z]) U;have e1:((W.take Ue).filter (x8 (.call o g.nm ts))).isEmpty=false:=by rw[Ta];intro q;refine RC.mp q g (PC ((Q5 h.lt).trans h.hn)) ?_;show (decide (g.nm=g.nm)&&decide (((g.ps.map PyData.str).length:Int)=((ts.map a9).length:Int)))=true;rw[decide_eq_true rfl,decide_eq_true (by rw[Pa,Pa,h.hl])];rfl
 have n1:=nJ (((W.take Ue).filter (x8 (.call o g.nm ts))).map ao) U;rw[QY,e1]at n1;have e2:=(gK m (news:=wH (.call o g.nm ts)) (z:=z) (P5 rfl) h.hj h.q.n9 h.hp (iv of.n4 (by decide)) of.h9 (d+20) U).2;refine(zs A (d+10) U).elim λLs q9=>?_;have e3:=q9.2;have n2:=iA (Ls.map iX) U;rw[QY]at n2;have e4:=vx A d U;have n3:=Au q0 (.tuple ((mu (ju W Ue m (.call o g.nm ts) pre z f) Ue n (mF m (.call o g.nm ts) pre z f) g pre z o g.nm ts).map ao)) U;refine⟨Ls,q9.1,?_⟩;have R:=ch prog.G (aj prog (d+40)) (bP 5 cW) (FD fs v1 x (m:Int) (.call o g.nm ts) a v6 (aJ Ue pre z) W .un .un) U;cases hE:Ls.isEmpty with
 |false=>rw[hE]at n2;have c2:=mo (G:=prog.G) (cf:=aj prog (d+40)) (m:=false) (t:=.tup [13,14]) (it:=.seq (.var 10)) (c:=.nil) (e:=.tup (.cons (.str eG) (.cons (.var 13) (.cons (.var 14) .nil)))) (K:=FD fs v1 x (m:Int) (.call o g.nm ts) a v6 (aJ Ue pre z) (ju W Ue m (.call o g.nm ts) pre z f) (al (((W.take Ue).filter (x8 (.call o g.nm ts))).map ao)) (al (Ls.map iX))) (U:=U) (aa:=U) (aZ rfl rfl) (iG iX (λp=>some (Ii p)) Ls λp hp=>zB rfl rfl);replace c2:=RS▸c2;exact(R 5 c1 n1 e2 e3 n2 c2)
 |true=>
   rw[hE]at n2;cases hq:(PyData.tuple ((mu (ju W Ue m (.call o g.nm ts) pre z f) Ue n (mF m (.call o g.nm ts) pre z f) g pre z o g.nm ts).map ao)).eqv (.tuple (fs.map ao)) with
   |false=>rw[hq]at n3;exact(R 21 c1 n1 e2 e3 n2 e4 n3)
   |true=>rw[hq]at n3;exact(R 21 c1 n1 e2 e3 n2 e4 n3)
theorem Hl(x:Str)(r:List Str):(iV x r).length=r.length+1:=by
 induction r with
 |nil=>rfl
 |cons y r ih=>
   rw[wZ];by_cases q:lV y x=true
   . rw[if_pos q,PX,ih];rfl
   . rw[if_neg q];rfl
theorem Em(l:List Str):(cu l).length=l.length:=by
 induction l with
 |nil=>rfl
 |cons x r ih=>exact(Hl x (cu r)).trans (congrArg (·+1) ih)variable {l:List Str}theorem uv(h:∀x∈l,x∈ws)(w7:ws.length<=7):(cu (cM l)).length<=7:=by rw[Em];exact iv ((cw l).length_le_of_subset λx hx=>h x ((bJ x l).mp hx)) (w7)theorem yj(h:∀x∈l,x∈ws):∀x∈cu (cM l),x∈ws:=λx hx=>h x ((bJ x l).mp ((qZ x _).mp hx))def tP(c:Nat):Bool:=(aG az).any λe=>[c]==[e]theorem KP(c:Nat)(U:ac):bC .isIn (aA (aD [c])) (aA az) U=some (tP c):=by show (if (aD [c]).cps.size=1 then some ((aG az).any λe=>aG (aD [c])==[e]) else none)=_;rw[if_pos (show (aD [c]).cps.size=1 from vn [c]),eB];(rfl)def yT(w:Str):Bool:=decide ((1:Int)<=((aG w).length:Int))&&decide (((aG w).length:Int)<=8)&&(aG w).all tP
theorem qO(w:Str)(U:ac):qQ (aA w) U=some ((aG w).map λc=>.str (aD [c]),none):=rfl
theorem nO(w:Str)(d:Nat)(U:ac):pc (d+1) 52 [aA w] U (.d (.bool (yT w))):=by
 have h1:af prog.G (aj prog d) (.cmp2 .le .le (.int 1) (.bi .len false (.cons (.var 0) (.nil))) (.glob 2)) [aA w,.un] U=.ok (.d (.bool (decide ((1:Int)<=((aG w).length:Int))&&decide (((aG w).length:Int)<=8)))) U:=by
   rw[vj];refine au (a:=ak 1) (U:=U) rfl (au (a:=ak ((aG w).length:Int)) (U:=U) rfl (au (a:=decide ((1:Int)<=((aG w).length:Int))) (U:=U) rfl ?_));cases decide ((1:Int)<=((aG w).length:Int)) with
   |true=>rfl
   |false=>rfl
 have h2:af prog.G (aj prog d) (.bi .all false (.cons (.comp false (.var 1) (.seq (.var 0)) .nil (.cmp .isIn (.var 1) (.glob 1))) (.nil))) [aA w,.un] U=.ok (.d (.bool ((aG w).all tP))) U:=by refine JC (iB (lT (λ(c:Nat)=>PyData.str (aD [c])) (λc=>.bool (tP c)) (aZ rfl (qO w U)) λc _=>cq rfl rfl (KP c _))) ?_;show oc (c7 ((aG w).map λc=>.bool (tP c))) _ _=_;rw[sh];show Res.ok (V.d (.bool (((aG w).map tP).all id))) U=_;rw[List.all_map];rfl
 exact cI (fn:=tX) rfl rfl (lZ (Dt (lU h1 λ_=>cN h2)))
theorem D3(cf:Nat->List V->ac->Res V)(x:Str)(v0:V)(U:ac):∀(fs:List Fd) (k:Nat) (v2 v3:V),x∉bK fs->X2 λv2' v3'=>ba (aL prog.G cf (.tup [2,3]) dM) (((fs.map ao).zipIdx k).map λp=>.tuple [.int p.2,p.1]) [v0,aA x,v2,v3] U=.ok (.next [v0,aA x,v2',v3']) U:=by
 intro xs_
 induction xs_ with
 |nil=>intro k v2 v3 _;exact⟨v2,v3,rfl⟩
 |cons f fs ih_=>intro k v2 v3 h;obtain⟨v2',v3',ih⟩:=ih_ (k+1) (ak (k:Int)) (.d (ao f)) (λm=>h (PD _ m));exact⟨v2',v3',a6 (d8 rfl ((ch prog.G cf dM [v0,aA x,ak (k:Int),.d (ao f)] U 4 (dF λq=>h (q▸PF ..))))) ih⟩variable {x:Str}theorem ia(h:x∉bK fs)(d:Nat)(U:ac):pc (d+1) 15 [ah (fs.map ao),aA x] U (.d .none):=by obtain⟨v2,v3,lp⟩:=D3 (aj prog d) x (ah (fs.map ao)) U fs 0 .un .un h;exact(aX prog 15 d [ah (fs.map ao),aA x] U rfl 0 (a7 (oH rfl) lp) (same U))theorem uK(j:Nat)(pre:List Nat)(z:Nat)(U:ac):gq false (.d (pD (aJ j pre z))) none (some (ak (-1))) U=.ok (.d (pD (j::pre))) U:=by have e:(aJ j pre z).map nI=(j::pre).map nI++[nI z]:=PP (l₁:=j::pre) (l₂:=[z]);unfold pD;rw[gp _ _ gw (fu _),e,qB]theorem fm(j:Nat)(pre:List Nat)(z:Nat)(U:ac):cK (.d (pD (aJ j pre z))) (ak (-1)) U=some (ak (z:Int)):=by rw[l6];exact lg ..
theorem DQ(h:pre.length<=18)(z k:Nat)(U:ac):dj .add false (.d (pD (j::pre))) (ah [.int ((z:Int)+(k:Int))]) U=.ok (.d (pD (aJ j pre (z+k)))) U:=
 pR (pl:=j::pre) (iv (PN h) (by decide)) (z+k) U
theorem Gz(d:Nat)(v0 v1 v3 v4 v5:V)(U:ac)(xs:List (List Nat×Rw))(kvs:List (Str×PyData))(G:Iz)(v6 v7:V)(hd:Dm kvs G)(hG:G.length+xs.length<=9000):X3 λkvs' v6' v7'=>Dm kvs' (G++xs.map EG)/\ba (aL prog.G (aj prog (d+1)) (.tup [6,7]) eQ) (xs.map aR) (F8 v0 v1 (.loc U.length) v3 v4 v5 v6 v7) (U++[.dct kvs])=.ok (.next (F8 v0 v1 (.loc U.length) v3 v4 v5 v6' v7')) (U++[.dct kvs']):=by
 refine kk λUc kz=>?_;obtain⟨_,k2,⟨v6,v7,rfl⟩,d2,e2⟩:=oM (f:=aL prog.G (aj prog (d+1)) (.tup [6,7]) eQ) aR (λK=>X2 λv6 v7=>K=F8 v0 v1 (.loc U.length) v3 v4 v5 v6 v7) EG U xs (F8 v0 v1 (.loc U.length) v3 v4 v5 v6 v7) kvs G (by
   rintro⟨q,r⟩ hp _ kvs G ⟨v6,v7,rfl⟩ hd hG
   have eo:=jT r d (U++[.dct kvs]);have R:=ch prog.G (aj prog (d+1)) eQ (F8 v0 v1 (.loc U.length) v3 v4 v5 (.d (pD q)) (.d (aI r))) (U++[Cell.dct kvs]);refine(?_:X2 λρ' kvs'=>A3 (_) (Dm kvs' (G++[(q,Ga r)])) (_));cases ht:Ga r with
   |none=>rw[ht]at eo;exact⟨_,kvs,⟨.d (pD q),.d (aI r),rfl⟩,hd.skip q none (λx h=>by injection h),d8 rfl ((R 0 eo))⟩
   |some y=>
     rw[ht]at eo;have ni:=Aq (aK U (.dct kvs)) y;cases hi:(kvs.lookup y).isSome with
     |true=>rw[hi]at ni;exact⟨_,kvs,⟨.d (pD q),.d (aI r),rfl⟩,hd.skip q (some y) (λx h=>by injection h with e;subst e;exact hi),d8 rfl ((R 8 eo eo ni))⟩
     |false=>rw[hi]at ni;exact⟨_,_,⟨.d (pD q),.d (aI r),rfl⟩,hd.put y q,d8 rfl ((R 8 eo eo ni (yq rfl rfl (aM rfl eo) (iv hd.len hG))))⟩) ⟨v6,v7,rfl⟩ hd hG
 exact kz (⟨k2,v6,v7,d2,e2⟩)
theorem zZ{j z:Nat}(hp:pre.length<=18)(d:Nat)(v1:V)(U:ac):∀(b:RL) (k:Nat) (kvs:List (Str×PyData)) (G:Iz) (v3 v4 v5 v6 v7:V),Dm kvs G->G.length+nL b<=9000->hL b<=18->X3 λkvs' v3' v4'=>X3 λv5' v6' v7'=>Dm kvs' (G++(jt (j::pre) (z+k) b).map EG)/\ba (aL prog.G (aj prog (d+21)) (.tup [3,4]) gX) (((am b).zipIdx k).map λp=>.tuple [.int p.2,p.1]) (F8 (.d (pD (aJ j pre z))) v1 (.loc U.length) v3 v4 v5 v6 v7) (U++[.dct kvs])=.ok (.next (F8 (.d (pD (aJ j pre z))) v1 (.loc U.length) v3' v4' v5' v6' v7')) (U++[.dct kvs'])
 |.nil=>λk kvs G v3 v4 v5 v6 v7 hd _ _=>⟨kvs,v3,v4,v5,v6,v7,by rw[uJ,RE,P4];exact hd,rfl⟩
 |.cons r b=>λk kvs G v3 v4 v5 v6 v7 hd hG hh=>by
   have nr:=A0 r;have lx:((((j::pre)++[z+k],r)::vP ((j::pre)++[z+k]) r).map EG).length=nR r:=by rw[Pa];exact p7 _ r
   have hG1:G.length+nR r+nL b<=9000:=by rw[Qo];exact hG
   have hn:nR r<=9000:=iv (iv (P7 _ _) (PU _ _)) hG1;refine kk λUc kx=>?_;obtain⟨k1,u6,u7,d1,e1⟩:=Gz (d+20) (.d (pD (aJ j pre z))) v1 (ak (k:Int)) (.d (aI r)) (.d (pD (aJ j pre (z+k)))) U (((j::pre)++[z+k],r)::vP ((j::pre)++[z+k]) r) kvs G v6 v7 hd (by rw[<- Pa EG,lx];exact QM hG1);obtain⟨k2,w3,w4,w5,w6,w7,d2,e2⟩:=zZ (j:=j) (z:=z) hp d v1 U b (k+1) k1 _ (ak (k:Int)) (.d (aI r)) (.d (pD (aJ j pre (z+k)))) u6 u7 d1 (by rw[PA,lx];exact hG1) (iv (Ro _ _) hh);refine kx ?_;rw[PT,<- PP]at d2;refine⟨k2,w3,w4,w5,w6,w7,d2,a6 (d8 rfl ?_) e2⟩;have wk:=gb 18 (dH r) (aJ j pre (z+k)) d (py (iv (iv (RA _ _) hh) (by decide))) (iv (QZ (Qk nr)) hn) (iv (PJ (PN (by rw[PA];exact PN hp)) 18) (by decide)) (U++[Cell.dct kvs]);rw[<- uI]at wk;have wi:=pr r (d+19) (U++[Cell.dct kvs]);exact((ch prog.G (aj prog (d+21)) gX (F8 (.d (pD (aJ j pre z))) v1 (.loc U.length) (ak (k:Int)) (.d (aI r)) v5 v6 v7) (U++[Cell.dct kvs]) 11 ((uK ..)) (fm ..) (DQ hp z k _) (a7 (aZ (G:=prog.G) (cf:=aj prog (d+21)) (e:=.bin .add false (.list false (.cons (.tup (.cons (.var 5) (.cons (.var 4) (.nil)))) (.nil))) (.call 7 (.cons (.var 5) (.cons (.call 6 (.cons (.var 4) (.nil))) (.nil))))) (K:=F8 (.d (pD (aJ j pre z))) v1 (.loc U.length) (ak (k:Int)) (.d (aI r)) (.d (pD (aJ j pre (z+k)))) v6 v7) (jX rfl (aM (d0 rfl (iB (aM rfl wi))) wk) (kS (a:=[PyData.tuple [pD (aJ j pre (z+k)),aI r]]) (b:=(vP (aJ j pre (z+k)) r).map aR) (by rw[Pa,QQ,Qu,p7];exact iv hn (by decide)) (U++[Cell.dct kvs]))) rfl) e1)))theorem pP{j z:Nat}(hp:pre.length<=18)(hb:hL b<=18)(hn:nL b<=9000)(d:Nat)(U:ac):∃kvs,Dm kvs ((jt (j::pre) z b).map EG)/\aj prog (d+22) 55 [.d (pD (aJ j pre z)),ah (am b)] U=.ok (.loc U.length) (U++[.dct kvs]):=by obtain⟨kvs,v3,v4,v5,v6,v7,hd,lp⟩:=zZ (j:=j) (z:=z) hp d (ah (am b)) U b 0 [] [] .un .un .un .un .un ⟨(λx v h=>by injection h),(λx _ q h=>by cases h),P9 _⟩ (by rw[Q6,Ri];exact hn) hb;exact⟨kvs,hd,(((wu prog 55 (d+21) [.d (pD (aJ j pre z)),ah (am b)] U rfl 0 (a7 (oH rfl) lp)))).trans (nB (U:=U) (J:=U++[.dct kvs]) (cS ..) (aK ..))⟩
theorem Dk(l:List B)(z m:Nat):aC l (some (z:Int)) (some ((z:Int)+(m:Int)))=(l.drop z).take m:=by
 show (l.drop (jq l.length z)).take (jq l.length ((z+m:Nat):Int) - jq l.length z)=_;rw[kN,kN];rcases TX z l.length with h|h
 . rw[Qm h,TB,Qw,<- Nat.sub_min_sub_right,Rt,Nat.min_assoc,TY]
 . rw[Tn h,Si,Tr h,List.take_nil,List.take_nil]theorem xz(z m:Nat)(c:RL):am (gA z m c)=((am c).drop z).take m:=by unfold gA;rw[jA,Q7,Re,<- c8]theorem ux(c:RL)(z m:Nat)(U:ac):gq false (ah (am c)) (some (ak (z:Int))) (some (ak ((z:Int)+(m:Int)))) U=.ok (ah (am (gA z m c))) U:=by rw[gp _ _ (fu _) (fu _),Dk,xz]theorem mO(h:z+m<=(lst c).length):(am (gA z m c)).length=m:=by rw[xz,Ql,Qw,<- bB];exact Qm (Nat.le_sub_of_add_le' h)theorem Lr(z m:Nat)(h:fH ws cs c):fH ws cs (gA z m c):=my _ λr hr=>bS h r (QF (P8 hr))theorem Jd(z m:Nat)(c:RL):hL (gA z m c)<=hL c:=rI _ λr hr=>cp r (QF (P8 hr))theorem Jc(z m:Nat)(c:RL):nL (gA z m c)<=nL c:=by have:=qu m (lst c) z [];unfold gA;rw[mz,nj c];exact iv (P7 _ _) (Qk this)
theorem p6(h:Pth b pre c):A3 (fH ws cs b->fH ws cs c) (hL c<=hL b) (nL c<=nL b):=by
 induction h with
 |nil b=>exact⟨id,P9 _,P9 _⟩
 |@cons b c r k ks hk hb _ ih=>obtain⟨i1,i2,i3⟩:=ih;have hr:=PC hk;exact⟨λh=>i1 (ic (bS h r hr)),iv i2 (iv (QZ (Qk (Fz hb))) (cp r hr)),iv i3 (zC hr (P9 _))⟩
structure Dr(ws:List Str)(cs:SC)(fs:List Fd)(j:Nat)(f:Fd)(pre:List Nat)(z:Nat)(c:RL)(m:Nat):Prop where
 w7:ws.length<=7
 h8:fs.length<=8
 hj:fs[j]?=some f
 of:okF ws cs f
 hp:Pth f.rs pre c
 m1:1<=m
 hm:z+m<=(lst c).length
theorem Dr.p9(h:Dr ws cs fs j f pre z c m):pre.length<=18:=iv (gv h.hp) (h.of.h9)theorem Dr.ok(h:Dr ws cs fs j f pre z c m):fH ws cs (gA z m c):=Lr z m ((p6 (ws:=ws) (cs:=cs) h.hp).1 h.of.rs)theorem Dr.h9(h:Dr ws cs fs j f pre z c m):hL (gA z m c)<=18:=iv (Jd z m c) (iv (p6 (ws:=ws) (cs:=cs) h.hp).2 h.of.h9)theorem Dr.n6(h:Dr ws cs fs j f pre z c m):nL (gA z m c)<=820:=iv (Jc z m c) (iv (p6 (ws:=ws) (cs:=cs) h.hp).3 h.of.n4)noncomputable def GR:Option Str->Tm
 |none=>.num 0
 |some x=>.name (x)noncomputable def xE(o:Option Str)(nm:Str)(ps:List Str):Rw:=.call o nm (ps.map Tm.name)def wN(L:List Str)(o:Option Str)(nm:Str)(R:RL):Fd:=⟨nm,L,R,GR o⟩def j1(L:List Str)(o:Option Str)(nm:Str)(pre:List Nat)(z m:Nat)(f:Fd):Fd:=bL m (.cons (xE o nm L) .nil) pre z f
def Ce(L:List Str)(fs:List Fd)(j:Nat)(f:Fd)(pre:List Nat)(z:Nat)(c:RL)(m:Nat)(o:Option Str)(nm:Str):List Fd:=
 (ci fs j [j1 L o nm pre z m f]).take j++[wN L o nm (gA z m c)]++(ci fs j [j1 L o nm pre z m f]).drop j
def Ok(L:List Str)(fs:List Fd)(j:Nat)(f:Fd)(pre:List Nat)(z:Nat)(c:RL)(m:Nat)(o:Option Str)(nm:Str):PyData:=
 .tuple [.tuple ((Ce L fs j f pre z c m o nm).map ao),pD (aJ (j+1) pre z)]theorem mj(hj:fs[j]?=some f)(hp:Pth f.rs pre c)(d:Nat)(U:ac):pc (d+2) 10 [ah (fs.map ao),.d (pD (aJ j pre z))] U (ah (am c)):=by have e:=ka hj (iN pre) (z:Int) d U;rw[qm hp]at e;unfold pc;rw[l6,e];(rfl)theorem qe{n:Int}(h:n > 0)(U:ac):xT .max false [ak 0,ak n] U=.ok (ak n) U:=by show Res.ok (ak (if n > 0 then n else 0)) U=_;rw[if_pos h]theorem Ha{n:Int}(h:¬ n > 0)(U:ac):xT .max false [ak 0,ak n] U=.ok (ak 0) U:=by show Res.ok (ak (if n > 0 then n else 0)) U=_;rw[if_neg h]theorem Dr.row(h:Dr ws cs fs j f pre z c m)(hk:k < m):∃r,(lst c)[z+k]?=some r:=⟨_,PB (Qr (Nat.add_lt_add_left hk z) h.hm)⟩
theorem zd(h:Dr ws cs fs j f pre z c m)(hx:yT x=false\/x∈bK fs)(d:Nat)(U:ac):pc (d+4) 59 [ah (fs.map ao),.d (pD (aJ j pre z)),ak (m:Int),aA x] U (.exc (bif yT x then 3 else 2) []):=by
 refine(h.row (k:=0) h.m1).elim λr hz=>?_;have e1:=iK h.hj h.hp hz d U;have e2:=mj (z:=z) h.hj h.hp (d+1) U;have e3:=nO x (d+2) U;have h1:¬ (m:Int) < 1:=RG.mpr (QV.mpr h.m1);have h2:¬ (((am (gA z m c)).length:Nat):Int) < (m:Int):=by rw[mO h.hm];exact Int.lt_irrefl _
 have R:=aX prog 59 (d+3) [ah (fs.map ao),.d (pD (aJ j pre z)),ak (m:Int),aA x] U rfl;cases hi:yT x with
 |false=>rw[hi]at e3;exact((R 1175 e1 e2 (fm ..) (fm ..) ((qe (Qp.mpr h.m1) U)) ((ux c z m U)) (dF h1) (dF h2) e3 (same U)))
 |true=>rw[hi]at e3;exact((R 1175 e1 e2 (fm ..) (fm ..) ((qe (Qp.mpr h.m1) U)) ((ux c z m U)) (dF h1) (dF h2) e3 (di (hx.resolve_left (by rw[hi];exact Q3)) (d+2) U) (same U)))theorem nc(J:ac)(a b:Cell):((J++[a])++[b])[J.length]?=some a:=by rw[PT];exact g0 ..
theorem mq(w7:ws.length<=7){Q:List Str}(h:J[n]?=some (.lst (Q.map .str)))(hw:∀x∈Q,x∈ws)(hl:Q.length<=1000):xT .sortedSet false [.loc n] J=.ok (al ((cu (cM Q)).map .str)) J:=by show oc ((aQ J (.loc n)).bind iP) (λl=>if l.length < 2000/\(cM l).length < 64 then bh false ((cu (cM l)).map .str) J else .bad) .bad=_;rw[gV h,Option.bind_some,pV];exact if_pos ⟨P6 hl (by decide),(P6 (iv ((cw Q).length_le_of_subset λx hx=>hw x ((bJ x Q).mp hx)) w7) (by decide))⟩theorem m0(l:List PyData)(k:Nat)(U:ac):gq false (ah l) (some (ak (k:Int))) none U=.ok (ah (l.drop k)) U:=by rw[gp _ _ (fu _) gw,mr]theorem BR(ps:List Str):ps.map (λp=>PyData.tuple [.str bz,.str p])=(ps.map Tm.name).map a9:=by rw[Qv];(rfl)variable {l:List PyData}
theorem Mv(h:pre.length<=18)(z:Nat)(m1:1<=m)(U:ac):dj .add false (.d (pD (j::pre))) (ah [.int ((z:Int)+(m:Int) - 1)]) U=.ok (.d (pD (aJ j pre (z+(m - 1))))) U:=by
 have q:(z:Int)+(m:Int) - 1=(z:Int)+((m - 1:Nat):Int):=by rw[Int.ofNat_sub m1];exact Int.add_sub_assoc ..
 rw[q];exact DQ h z (m - 1) (U)def FZ(fs:List Fd)(j:Nat)(pre:List Nat)(z m:Nat)(x:Str)(c:RL)(v5 v6 v7 v8 v9 v10:V):Fm:=Gd (.d (.tuple (fs.map ao))) (.d (pD (aJ j pre z))) (.d (.int (m:Int))) (.d (.str x)) (.d (.tuple (am (gA z m c)))) v5 v6 v7 v8 v9 v10 .un .un .un .un
theorem Pd(U:ac)(a b c:Cell):(U++[a]++[b]++[c]).take U.length=U:=by rw[PT,PT];exact cS ..
theorem OP(U:ac)(a b c d:Cell):(U++[a]++[b]++[c]++[d]).take U.length=U:=by rw[PT (U++[a]++[b]),PT,PT];exact cS ..
theorem Dn(J:ac)(a a' b:Cell):((J++[a])++[b]).set J.length a'=(J++[a'])++[b]:=by rw[PT,PT];exact st0 ..
theorem H7(L:List Str)(o:Option Str)(nm:Str):(Ce L fs j f pre z c m o nm).map ao=((ci fs j [j1 L o nm pre z m f]).map ao).take j++[ao (wN L o nm (gA z m c))]++((ci fs j [j1 L o nm pre z m f]).map ao).drop j:=by unfold Ce;rw[PP,PP,Q7,Re];(rfl)theorem AS(h:l.length<=8)(k:Nat)(x:PyData)(U:ac):dj .add false (ah (l.take k)) (ah [x]) U=.ok (ah (l.take k++[x])) U/\dj .add false (ah (l.take k++[x])) (ah (l.drop k)) U=.ok (ah (l.take k++[x]++l.drop k)) U:=by have h1:(l.take k).length<=8:=iv (TL ..) h;exact⟨ie (iv (PJ h1 1) (by decide)) U,ie (by rw[PA];exact iv (Qb (PJ h1 1) (iv (by rw[Qw];exact Tf _ _) h)) (by decide)) U⟩theorem Dr.len(h:Dr ws cs fs j f pre z c m)(x:Fd):((ci fs j [x]).map ao).length<=8:=by rw[Pa,dK x (Pz.mp h.hj).1];exact h.h8
theorem yf(h:pre.length<=18)(j z:Nat)(U:ac):dj .add false (ah [.int ((j:Int)+1)]) (.d (pD (pre++[z]))) U=.ok (.d (pD (aJ (j+1) pre z))) U:=
 ie (by rw[Pa,PA];exact iv (Qe (PN h) 1) (by decide)) (U)noncomputable def fT:Nat->SL->SL
 |n+1,.cons s b=>.cons s (fT n b)
 |_,_=>.nil
theorem dW{q:Res Out}(k:Nat):∀{b:SL} {K:Fm} {U:ac},execs G cf (fT k b) K U=.ok (.next ρ') σ'->execs G cf (bP k b) ρ' σ'=q->execs G cf b K U=q:=by
 induction k with
 |zero=>intro b K U h1 h2;cases (h1);exact h2
 |succ n ih=>
   intro b;cases b with
   |nil=>intro K U h1 h2;cases (h1);exact h2
   |cons s b=>
     intro K U h1 h2;have h1:(exec G cf s K U).bind (λo aa=>Di G cf (fT n b) o aa)=.ok (.next ρ') σ':=h1;refine(?_:(exec G cf s K U).bind (λo aa=>Di G cf b o aa)=q);cases he:exec G cf s K U with
     |bad=>rw[he]at h1;injection h1
     |ok o aa=>
       rw[he]at h1;cases o with
       |next bV=>exact ih h1 h2
       |ret v=>injection h1 with e;injection e
       |exc k ds=>injection h1 with e;injection e
theorem ze(h:Dr ws cs fs j f pre z c m)(hx1:yT x=true)(hx2:x∉bK fs)(d:Nat)(U:ac):X2 λ(kvs:List (Str×PyData)) (Ud:List Str)=>A3 (∀y∈Ud,y∈ws) (∀y∈Ud,∃q,kvs.lookup y=some (pD q)) (execs prog.G (aj prog (d+26)) (fT 8 dX.body) [ah (fs.map ao),.d (pD (aJ j pre z)),ak (m:Int),aA x,.un,.un,.un,.un,.un,.un,.un,.un,.un,.un,.un] U=.ok (.next (FZ fs j pre z m x c (.loc U.length) (.d (pD (aJ j pre (z+(m - 1))))) (al (Ud.map .str)) .un .un .un)) (U++[.dct kvs])):=by
 refine(h.row (k:=0) h.m1).elim λr hz=>?_;refine kk λUc kz=>?_;obtain⟨kvs,hd,e5⟩:=pP (j:=j) (z:=z) h.p9 h.h9 (iv h.n6 (by decide)) (d+4) U;obtain⟨r',hz'⟩:=h.row (k:=m - 1) (Nat.sub_lt h.m1 Nat.one_pos);obtain⟨L,hL,e6⟩:=pw (Qt h.w7) h.hj h.of h.hp hz' d (U++[.dct kvs]);have e1:=iK h.hj h.hp hz (d+23) U;have e2:=mj (z:=z) h.hj h.hp (d+24) U;have e3:=nO x (d+25) U;rw[hx1]at e3;have e4:=ia hx2 (d+25) U;refine kz ?_;have h2:¬ (((am (gA z m c)).length:Nat):Int) < (m:Int):=by rw[mO h.hm];exact Int.lt_irrefl _
 have key:∀y,y∈L.filter (λy=>(kvs.lookup y).isSome)->∃q,kvs.lookup y=some (pD q)/\y∈ws:=λy hy=>by obtain⟨v,hv⟩:=Qh.mp (QO.mp hy).2;obtain⟨q,rfl,hq⟩:=hd.some y v hv;obtain⟨p,hp,e2⟩:=Qi.mp hq;exact⟨q,hv,JF (mw _ _ _ h.ok p hp) (congrArg Prod.snd e2)⟩
 exact⟨kvs,_,λy hy=>(key y hy).elim λ_ h=>h.2,λy hy=>(key y hy).imp λ_ h=>h.1,(ch prog.G (aj prog (d+26)) (fT 8 dX.body) [ah (fs.map ao),.d (pD (aJ j pre z)),ak (m:Int),aA x,.un,.un,.un,.un,.un,.un,.un,.un,.un,.un,.un] U 312471 e1 e2 (fm ..) (fm ..) ((qe (Qp.mpr h.m1) U)) ((ux c z m U)) (dF (RG.mpr (QV.mpr h.m1))) (dF h2) e3 e4 e5 ((uK ..)) (fm ..) (Mv h.p9 z h.m1 _) (fi PyData.str PyData.str (λy=>(kvs.lookup y).isSome) (aZ (aM rfl e6) rfl) (λp hp=>cq rfl rfl (yU (nc ..) p)) (λp hp _=>rfl)))⟩theorem mM(h:Dr ws cs fs j f pre z c m)(x:Str)(o:Option Str)(L:List Str)(v5 v6 v7:V)(d:Nat)(J:ac):execs prog.G (aj prog (d+26)) (bP 14 dX.body) (FZ fs j pre z m x c v5 v6 v7 (.d (fX o)) (.d (a9 (GR o))) (ah (L.map .str))) J=.ok (.ret (.d (Ok L fs j f pre z c m o x))) J:=by have C:=lT (G:=prog.G) (cf:=aj prog (d+26)) (i:=14) (it:=.seq (.var 10)) (e:=.tup (.cons (.str bz) (.cons (.var 14) .nil))) (K:=FZ fs j pre z m x c v5 v6 v7 (.d (fX o)) (.d (a9 (GR o))) (ah (L.map .str))) (U:=J) (aa:=J) (base:=L.map .str) PyData.str (λp=>.tuple [.str bz,.str p]) (ps:=L) (aZ rfl rfl) λp _=>rfl;rw[BR]at C;have a2:=AS (h.len (j1 L o x pre z m f)) j (ao (wN L o x (gA z m c))) J;unfold Ok;rw[H7];exact(ch prog.G (aj prog (d+26)) (bP 14 dX.body) (FZ fs j pre z m x c v5 v6 v7 (.d (fX o)) (.d (a9 (GR o))) (ah (L.map .str))) J 1790 C ((gK m (news:=.cons (xE o x L) .nil) (P5 rfl) h.hj (iv h.h8 (by decide)) h.hp (iv h.of.n4 (by decide)) h.of.h9 (z:=z) (d+6) J).1) (bI ..) ((dY ..)) a2.1 (bI ..) ((m0 ..)) a2.2 (bI ..) ((iQ ..)) (yf h.p9 j z _))
theorem zA(h:Dr ws cs fs j f pre z c m)(hx1:yT x=true)(hx2:x∉bK fs)(d:Nat)(U:ac) :
   (X2 λp q=>pc (d+27) 59 [ah (fs.map ao),.d (pD (aJ j pre z)),ak (m:Int),aA x] U (.exc 6 [pD p,pD q]))\/
   (X2 λ(o:Option Str) (L:List Str)=>A4 (∀y,o=some y->y∈ws) (∀y∈L,y∈ws) (L.length<=7) (pc (d+27) 59 [ah (fs.map ao),.d (pD (aJ j pre z)),ak (m:Int),aA x] U (.d (Ok L fs j f pre z c m o x)))):=by
 obtain⟨kvs,Ud,hB,hv,fr⟩:=ze h hx1 hx2 d U;refine(jU (Qt h.w7) 18 _ (d+2) h.ok h.h9 (U++[.dct kvs])).elim λS q9=>?_;have hS:=q9.1;have e7:=q9.2;have l7:=eO (m:=true) (aK (U++[.dct kvs]) (.dct (dk S)));have s7:=hS.few (Qt h.w7) λy=>du y _ h.ok;have Sw:∀y∈S,y∈ws:=λy hy=>du y _ h.ok ((hS.mem y).mp hy);cases Ud with
 |nil=>have so:=mq h.w7 (aK (U++[.dct kvs]++[.dct (dk S)]) (.lst (S.map .str))) Sw (iv s7 (by decide));exact .inr ⟨none,_,nofun,yj Sw,uv Sw h.w7,oO (fn:=dX) rfl rfl (dW 8 fr (dW 6 ((ch prog.G (aj prog (d+26)) (fT 6 (bP 8 dX.body)) (FZ fs j pre z m x c (.loc U.length) (.d (pD (aJ j pre (z+(m - 1))))) (al []) .un .un .un) (U++[Cell.dct kvs]) 72 e7 l7 so)) (mM h x none _ _ _ _ d _))) (Pd ..)⟩
 |cons a Ud=>
   have aw:=hB a (PF ..);refine(hv a (PF ..)).elim λp hp=>?_;cases Ud with
   |cons b Ud=>obtain⟨q,hq⟩:=hv b (PD _ (PF ..));exact .inl ⟨p,q,Lv (fn:=dX) rfl rfl (dW 8 fr ((ch prog.G (aj prog (d+26)) (bP 8 dX.body) (FZ fs j pre z m x c (.loc U.length) (.d (pD (aJ j pre (z+(m - 1))))) (al ((a::b::Ud).map .str)) .un .un .un) (U++[Cell.dct kvs]) 84 (dT (Qp.mpr (by rw[Pa];exact PN (PN (PR _))))) (u9 (aK ..) hp) (u9 (aK ..) hq)))) (cS ..)⟩
   |nil=>
     obtain⟨S',hS',e8⟩:=ur (Qt h.w7) h.ok (D:=d+26) (iv (PJ h.h9 2) (iv (by decide) (P7 26 d))) (U++[.dct kvs]++[.dct (dk S)]++[.lst (S.map .str)]);have n8:=nh (aK (U++[.dct kvs]++[.dct (dk S)]++[.lst (S.map .str)]) (.dct (dk S'))) a;have R:=ch prog.G (aj prog (d+26)) (fT 6 (bP 8 dX.body)) (FZ fs j pre z m x c (.loc U.length) (.d (pD (aJ j pre (z+(m - 1))))) (al [.str a]) .un .un .un) (U++[Cell.dct kvs]);refine .inr ?_;by_cases q:a∈S'
     . rw[decide_eq_true q]at n8;have so:=mq h.w7 (nc (U++[.dct kvs]++[.dct (dk S)]) (.lst (S.map .str)) (.dct (dk S'))) Sw (iv s7 (by decide));exact⟨some a,_,λy q=>Option.some.inj q▸aw,yj Sw,uv Sw h.w7,oO (fn:=dX) rfl rfl (dW 8 fr (dW 6 ((R 648 e7 l7 e8 n8 so)) (mM h x (some a) _ _ _ _ d _))) (OP ..)⟩
     . rw[decide_eq_false q]at n8;have Sa:∀y∈S++[a],y∈ws:=λy hy=>(PQ.mp hy).elim (Sw y) λhy=>PL.mp hy▸aw;have ap:=FJ (nc (U++[.dct kvs]++[.dct (dk S)]) (.lst (S.map .str)) (.dct (dk S'))) (by rw[Pa];exact iv s7 (by decide)) (.str a);have e9:S.map PyData.str++[.str a]=(S++[a]).map .str:=(PP (l₁:=S) (l₂:=[a])).symm;rw[Dn,e9]at ap;exact⟨some a,_,λy q=>Option.some.inj q▸aw,yj Sa,uv Sa h.w7,oO (fn:=dX) rfl rfl (dW 8 fr (dW 6 ((R 648 e7 l7 e8 n8 ap (mq h.w7 (nc (U++[.dct kvs]++[.dct (dk S)]) (.lst ((S++[a]).map .str)) (.dct (dk S'))) Sa (by rw[PA];exact iv (PJ s7 1) (by decide))))) (mM h x (some a) _ _ _ _ d _))) (OP ..)⟩variable {l:List B}
theorem JG(h:z<=l.length)(Ud:List B):(l.take z++Ud).take z=l.take z/\(l.take z++Ud).drop z=Ud:=by
 have hz:(l.take z).length=z:=by rw[Ql];exact Qm h
 exact⟨by rw[RP (Qk hz.symm),List.take_take,TY],by have:=List.drop_left (l₁:=l.take z) (l₂:=Ud);rw[hz]at this;exact this⟩
theorem jR(hj:j < fs.length)(o:Option Str)(nm:Str):Ce L fs j f pre z c m o nm=fs.take j++(wN L o nm (gA z m c)::j1 L o nm pre z m f::fs.drop (j+1)):=by
 delta Ce ci ik
 refine(JG (Qd hj) ([j1 L o nm pre z m f]++fs.drop (j+1))).elim λh1 h2=>?_;rw[PT (fs.take j) [j1 L o nm pre z m f],h1,h2,PT];rfl
theorem FE(h:j < l.length)(Ud:List B)(k:Nat):(l.take j++Ud)[j+k]?=Ud[k]?:=by
 have hz:(l.take j).length=j:=by rw[Ql];exact Qm (Qd h)
 rw[PW (by rw[hz];exact PU ..),hz,Rt]
theorem EC(hj:fs[j]?=some f)(o:Option Str)(x:Str)(pre:List Nat)(z:Nat)(c:RL)(m:Nat):(∀q∈fs.map f8,q∈(Ce L fs j f pre z c m o x).map f8)/\(x,L.length)∈(Ce L fs j f pre z c m o x).map f8:=by
 have hl:=(Pz.mp hj).1;have ef:fs.take j++f::fs.drop (j+1)=fs:=by have:=QJ j fs;rw[QT hl,(Pz.mp hj).2]at this;exact this
 rw[jR hl,PP];refine⟨λq hq=>?_,QH _ (PF ..)⟩;rw[<- ef,PP]at hq;exact PQ.mpr ((PQ.mp hq).imp id λhq=>PD _ hq)
theorem FF(q:∀f∈fs,okF ws (fs.map f8) f)(h:Dr ws (fs.map f8) fs j f pre z c m)(ho:∀y,o=some y->y∈ws)(hw:∀y∈L,y∈ws)(h7:L.length<=7)(hx:x∉bK fs):At ws ((Ce L fs j f pre z c m o x).map f8) (Ce L fs j f pre z c m o x) (j+1) j (j1 L o x pre z m f) (wN L o x (gA z m c)) pre z (cE m (.cons (xE o x L) .nil) z c []) o x (L.map Tm.name):=by
 have hl:=(Pz.mp h.hj).1;obtain⟨hd1,hd2⟩:=EC (L:=L) h.hj o x pre z c m;have ht:∀t∈L.map Tm.name,T1 ws 2 t:=λt ht=>by obtain⟨y,hy,rfl⟩:=Qi.mp ht;exact oh 2 (hw y hy)
 obtain⟨w1,w2,w3⟩:=jc (ws:=ws) (cs:=(Ce L fs j f pre z c m o x).map f8) m (news:=.cons (xE o x L) .nil) z h.hp;obtain⟨p1,p2⟩:=wz m (r':=xE o x L) z (iv (PU ..) h.hm) h.hp;have og:okF ws ((Ce L fs j f pre z c m o x).map f8) (wN L o x (gA z m c)):=⟨hw,h7,ji hd1 _ h.ok,h.h9,h.n6,by
   clear hd2 w2 w3 hd1 p1 p2 w1;cases o with
   |none=>exact oQ ..
   |some y=>exact oh 2 (ho y rfl)⟩
 have of':okF ws ((Ce L fs j f pre z c m o x).map f8) (j1 L o x pre z m f):=⟨h.of.ps,h.of.p4,w1 (ji hd1 _ h.of.rs) ⟨⟨ho,ht,by rw[Pa];exact h7,by rw[Pa];exact hd2⟩,trivial⟩,iv w2 h.of.h9,by rw[(rfl:nL (.cons (xE o x L) .nil)=1)]at w3;exact iv (SW (iv (Qe (iv (iv h.m1 (Qk (mO h.hm).symm)) (gS _)) _) (Qk w3))) h.of.n4,h.of.t⟩
 refine⟨Qt h.w7,?_,?_,?_,p1,p2,?_,?_,?_,rfl,Pa _,by rw[Pa];exact h7,ht⟩
 . rw[jR hl,PA,Ql,Qm (Qd hl),PX,PX,Qw];exact PN (iv (Qk ((Nat.succ_add j _).symm.trans (QX hl))) h.h8)
 . intro g hg;rw[jR hl]at hg;replace hg:=PQ.mp hg;rcases hg with hg|hg
   . exact nf hd1 (q g (P8 hg))
   . replace hg:=PM.mp hg;rcases hg with rfl|hg
     . exact og
     . rcases PM.mp hg with rfl|hg
       . exact of'
       . exact nf hd1 (q g (QF hg))
 . rw[jR hl,FE hl];rfl
 . rw[jR hl];exact FE hl _ 0
 . rw[jR hl];unfold bK;rw[PP,List.idxOf_append,if_neg (λy=>hx (Q7▸y |> P8)),Pa,Ql,Qm (Qd hl),Qq];exact((congrArg (·+j) (TM (a:=x))).trans (Ri j)).symm
 . rw[jR hl];unfold bK;exact PP▸QH _ (PF ..)noncomputable def Mw:V->Out
 |.exc k ds=>.exc k ds
 |v=>.ret (v)def FO(fs:List Fd)(x:V)(m:Int)(r:Rw)(a:Int)(v5 v6:V)(W:List Fd)(p:List Nat)(v9 v10:V):Fm:=[.d (.tuple (fs.map ao)),x,.d (.int m),.d (aI r),.d (.int a),v5,v6,.d (.tuple (W.map ao)),.d (pD p),v9,v10]
theorem HN(r:Rw)(h:∀f∈W.take Ue,x8 r f=false)(p:List Nat)(x v5 v6:V)(m a:Int)(d:Nat)(U:ac):execs prog.G (aj prog (d+1)) (bP 5 dl) (FO fs x m r a v5 v6 W (Ue::p) .un .un) U=.ok (.exc 4 []) U:=by
 have R:=ch prog.G (aj prog (d+1)) (bP 5 dl) (FO fs x m r a v5 v6 W (Ue::p) .un .un) U;cases r with
 |set _ _=>exact(R 0)
 |tell _=>exact(R 0)
 |whn _ _=>exact(R 0)
 |aga _ _=>exact(R 0)
 |call o fn ts=>
   by_cases hm:fn∈bK W
   . have e:=di hm d U;have hi:=Rk.mpr hm;have hi':(bK W).idxOf fn < W.length:=by unfold bK at hi;rw[Pa]at hi;exact hi
     generalize hn:(bK W).idxOf fn=n at e hi hi';have hg:W[n]?=some W[n]:=PB hi';have nm:W[n].nm=fn:=by
       have:(bK W)[n]?=some fn:=by rw[<- hn];rw[PB (hn.symm▸hi),S7]
       unfold bK at this;rw[Qc,hg]at this;exact Option.some.inj this
     generalize W[n]=g at hg nm;by_cases hJ:n < Ue
     . have q:=h g (PC ((Q5 hJ).trans hg));have q:(decide (g.nm=fn)&&decide (((g.ps.map PyData.str).length:Int)=((ts.map a9).length:Int)))=false:=q;rw[nm,decide_eq_true rfl,RK]at q;exact(R 70272 e (bI ..) (dF (TS.mpr (Qp.mpr hJ))) (bE hg U) (nT (decide_eq_false λw=>(of_decide_eq_false q) w.symm)))
     . exact(R 1664 e (bI ..) (dT (QV.mpr (QD hJ))) (dT (QV.mpr (QD hJ))))
   . exact(R 0 (ia hm d U))
theorem DL(A:List Fd)(j n:Nat)(f g:Fd)(pre:List Nat)(z:Nat)(o:Option Str)(fn:Str)(ts:List Tm):∃y,uH A j n f g pre z o fn ts=.tuple [.tuple ((mu A j n f g pre z o fn ts).map ao),y]:=by
 delta uH mu
 refine(?_:∃y,(bif bU fn (lR A j f g pre z o ts) then _ else _)=_);cases bU fn (lR A j f g pre z o ts) with
 |true=>exact⟨_,rfl⟩
 |false=>exact⟨_,rfl⟩
theorem EZ(q0:okQ H Ud ws fs)(h:Pc H Ud ws W Ue n f g pre z c m o ts)(x v5 v6:V)(a:Int)(d:Nat)(U:ac):(X2 λp q=>Cl Ue n (mF m (.call o g.nm ts) pre z f) g pre z o ts p q/\execs prog.G (aj prog (d+41)) (bP 5 dl) (FO fs x (m:Int) (.call o g.nm ts) a v5 v6 W (aJ Ue pre z) .un .un) U=.ok (.exc 6 [pD p,pD q]) U)\/((∀p q,¬ Cl Ue n (mF m (.call o g.nm ts) pre z f) g pre z o ts p q)/\execs prog.G (aj prog (d+41)) (bP 5 dl) (FO fs x (m:Int) (.call o g.nm ts) a v5 v6 W (aJ Ue pre z) .un .un) U=.ok (bif !(PyData.tuple ((mu (ju W Ue m (.call o g.nm ts) pre z f) Ue n (mF m (.call o g.nm ts) pre z f) g pre z o g.nm ts).map ao)).eqv (.tuple (fs.map ao)) then .exc 5 [] else .ret (ah ((ju W Ue m (.call o g.nm ts) pre z f).map ao))) U):=by
 have of:=h.q.ok f (PC h.hj);have e1:=di (Qz (f:=λf:Fd=>f.nm) (PC h.hn)) (d+40) U;replace e1:=(qV h.q.nd h.hn)▸e1;have e2:=(gK m (news:=wH (.call o g.nm ts)) (z:=z) (P5 rfl) h.hj h.q.n9 h.hp (iv of.n4 (by decide)) of.h9 (d+21) U).1;have k1:¬ (Ue:Int)<=(n:Int):=TS.mpr (Qp.mpr h.lt);have k2:decide (((ts.map a9).length:Int)=((g.ps.map PyData.str).length:Int))=true:=decide_eq_true (by rw[Pa,Pa,h.hl]);have R:=ch prog.G (aj prog (d+41)) (bP 5 dl) (FO fs x (m:Int) (.call o g.nm ts) a v5 v6 W (aJ Ue pre z) .un .un) U;have a0:∀v:V,aU prog.G (aj prog (d+41)) (.cons (.var 10) (.cons (.var 8) .nil)) (FO fs x (m:Int) (.call o g.nm ts) a v5 v6 W (aJ Ue pre z) v (ah ((ju W Ue m (.call o g.nm ts) pre z f).map ao))) U=.ok [ah ((ju W Ue m (.call o g.nm ts) pre z f).map ao),.d (pD (aJ Ue pre z))] U:=λ_=>rfl;rcases r0 h.at d U with⟨p,q,hc,e3⟩|⟨no,e3⟩
 . exact .inl ⟨p,q,hc,(R 70272 e1 (bI ..) (dF k1) (bE h.hn U) (nF k2) e2 (GF (a0 _) e3))⟩
 . refine .inr ⟨no,?_⟩;refine(DL (ju W Ue m (.call o g.nm ts) pre z f) Ue n (mF m (.call o g.nm ts) pre z f) g pre z o g.nm ts).elim λy ey=>?_;rw[ey]at e3;have c3:=λv:V=>cq (G:=prog.G) (cf:=aj prog (d+41)) (op:=.ne) (K:=FO fs x (m:Int) (.call o g.nm ts) a v5 v6 W (aJ Ue pre z) v (ah ((ju W Ue m (.call o g.nm ts) pre z f).map ao))) (a:=.idx (.call 24 (.cons (.var 10) (.cons (.var 8) .nil))) (.int 0)) (b:=.var 0) (bZ (aM (a0 v) e3) rfl rfl) rfl (Au q0 (.tuple ((mu (ju W Ue m (.call o g.nm ts) pre z f) Ue n (mF m (.call o g.nm ts) pre z f) g pre z o g.nm ts).map ao)) U);cases hq:(PyData.tuple ((mu (ju W Ue m (.call o g.nm ts) pre z f) Ue n (mF m (.call o g.nm ts) pre z f) g pre z o g.nm ts).map ao)).eqv (.tuple (fs.map ao)) with
   |true=>rw[hq]at c3;exact(R 70272 e1 (bI ..) (dF k1) (bE h.hn U) (nF k2) e2 (Du (a0 _) e3 (c3 _) rfl))
   |false=>rw[hq]at c3;exact(R 70272 e1 (bI ..) (dF k1) (bE h.hn U) (nF k2) e2 (Du (a0 _) e3 (c3 _) rfl))
theorem IN(q0:okQ 18 810 ws fs)(Q:okQ 18 810 ws W)(hj:W[Ue]?=some f)(hp:Pth f.rs pre c)(hz:z+m<=(lst c).length)(r:Rw)(hr:∀o fn ts,r=.call o fn ts->(∀y,o=some y->y∈ws)/\∀t∈ts,lO ws t)(P:PyData)(sP:SA 79 P)
   (back:∀(o:Option Str) (g:Fd) (ts:List Tm) (n:Nat),Pc 18 810 ws W Ue n f g pre z c m o ts->(mu (ju W Ue m (.call o g.nm ts) pre z f) Ue n (mF m (.call o g.nm ts) pre z f) g pre z o g.nm ts).map ao=fs.map ao->X2 λu v=>uH (ju W Ue m (.call o g.nm ts) pre z f) Ue n (mF m (.call o g.nm ts) pre z f) g pre z o g.nm ts=.tuple [.tuple (fs.map ao),.tuple [P,.int (m:Int),aI (.call o g.nm ts),u,v]])
   (v1 x v6 v5 w6:V) (a:Int) (d:Nat):X2 λ(D:PyData) (v:V)=>A3 (End fs P (.int (m:Int)) (aI r) (d+3) D v) (execs prog.G (aj prog (d+43)) (bP 5 cW) (FD fs v1 x (m:Int) r a v6 (aJ Ue pre z) W .un .un) []=.ok (.ret (.d D)) []) (execs prog.G (aj prog (d+42)) (bP 5 dl) (FO fs x (m:Int) r a v5 w6 W (aJ Ue pre z) .un .un) []=.ok (Mw v) []):=by
 refine kk λUc kz=>?_;by_cases hex:∃g∈W.take Ue,x8 r g=true
 . obtain⟨g,hg,hb⟩:=hex;cases r with
   |set _ _=>injection hb
   |tell _=>injection hb
   |whn _ _=>injection hb
   |aga _ _=>injection hb
   |call o fn ts=>
     obtain⟨b1,b2⟩:=PI.mp (hb:(decide (g.nm=fn)&&decide (((g.ps.map PyData.str).length:Int)=((ts.map a9).length:Int)))=true);have b1:=of_decide_eq_true b1;have b2:=Sz.mp (of_decide_eq_true b2);rw[Pa,Pa]at b2;clear hb;subst b1;obtain⟨n,hn⟩:=Q0 hg;have lt:n < Ue:=by have:=(Pz.mp hn).1;rw[Ql]at this;exact Qr this (Nat.min_le_left ..)
     rw[Q5 lt]at hn;have hr:=hr o g.nm ts rfl;have h:Pc 18 810 ws W Ue n f g pre z c m o ts:=⟨Q,P9 _,P9 _,hj,hp,hz,hn,lt,b2.symm,hr.1,hr.2⟩
     obtain⟨Ls,hL,e1⟩:=H6 q0 h v1 x v6 a (d+3) [];rcases EZ q0 h x v5 w6 a (d+1) [] with⟨p,q,hc,e2⟩|⟨no,e2⟩
     . have hm:=(hL p q).mpr hc;cases Ls with
       |nil=>exact nomatch hm
       |cons l Ls=>exact kz ⟨_,_,.clash (l::Ls) p q hm λy hy=>Cl.len h.at ((hL y.1 y.2).mp hy),e1,e2⟩
     . cases Ls with
       |cons l Ls=>exact absurd ((hL l.1 l.2).mp (PF ..)) (no l.1 l.2)
       |nil=>
         cases hq:(PyData.tuple ((mu (ju W Ue m (.call o g.nm ts) pre z f) Ue n (mF m (.call o g.nm ts) pre z f) g pre z o g.nm ts).map ao)).eqv (.tuple (fs.map ao)) with
         |false=>rw[hq]at e1 e2;exact kz ⟨_,.exc 5 [],.kind 5 gR (by decide),e1,e2⟩
         |true=>
           rw[hq]at e1 e2;obtain⟨u,v,hb⟩:=back o g ts n h (Pt _ _ hq);have Qf:=h.prog;refine kz ⟨_,ah ((ju W Ue m (.call o g.nm ts) pre z f).map ao),.good (ju W Ue m (.call o g.nm ts) pre z f) (pD (aJ Ue pre z)) u v Qf.ne (Aa Qf (by decide) (by decide)) sP ((Mm _ h.row (P5 rfl)).up (P5 rfl)) ?_,e1,e2⟩;rcases r0 h.at (d+3) [] with⟨p,q,hc,_⟩|⟨_,e3⟩
           . exact absurd hc (no p q)
           . rw[hb]at e3;exact e3
 . have h0:∀g∈W.take Ue,x8 r g=false:=λg hg=>by
     cases q:x8 r g with
     |false=>rfl
     |true=>exact absurd ⟨g,hg,q⟩ hex
   exact kz ⟨_,.exc 4 [],.kind 4 bA (by decide),Lo _ fs W v1 x v6 _ a r Ue (pre++[z]) h0 [],HN r h0 (pre++[z]) x v5 w6 _ a (d+41) []⟩variable {z:Int}{x:PyData}{v:V}theorem End.out{m r D:PyData}(h:End fs x m r d D v):nG 0 (Mw v) []=.ok v []:=by cases h<;>rfl
def CL(fs:List Fd)(x:PyData)(m:Int)(r:Rw)(a:Int)(fo:PyData)(d:Nat):Prop:=X2 λ(D:PyData) (v:V)=>A3 (End fs x (.int m) (aI r) (d+3) D v) (pc (d+44) 65 [.d (.tuple (fs.map ao)),.d (.tuple [x,.int m,aI r,.int a,fo])] [] (.d D)) (pc (d+43) 54 [.d (.tuple (fs.map ao)),.d x,.d (.int m),.d (aI r),.d (.int a),.d fo] [] v)theorem E8(S:Spot fs x none z)(m:Int)(r:Rw)(a:Int)(fo:PyData)(d:Nat):CL fs x m r a fo d:=by exact⟨_,_,.kind 1 gu (by decide),(aX prog 65 (d+43) [ah (fs.map ao),ah [x,.int m,aI r,.int a,fo]] [] rfl 0 (S.lf (d+41) []) (same [])),(aX prog 54 (d+42) [ah (fs.map ao),.d x,ak m,.d (aI r),ak a,.d fo] [] rfl 0 (S.tu (d+40) []) (same []))⟩
theorem HY(S:Spot fs x (some c) z){m:Int}(h:z < 0\/m < 0\/((am c).length:Int) < z+m)(r:Rw)(a:Int)(fo:PyData)(d:Nat):CL fs x m r a fo d:=by
 have e1:=S.lf (d+41) [];have e2:=S.tu (d+40) [];obtain⟨j,f,pre,hj,hp,rfl⟩:=S.yes c rfl;have il:=lg (j:Int) (iN pre) z [];have R1:=aX prog 65 (d+43) [ah (fs.map ao),ah [pI (j:Int) (iN pre) z,.int m,aI r,.int a,fo]] [] rfl;have R2:=aX prog 54 (d+42) [ah (fs.map ao),.d (pI (j:Int) (iN pre) z),ak m,.d (aI r),ak a,.d fo] [] rfl;refine⟨_,_,.kind 1 gu (by decide),?_,?_⟩
 . by_cases h1:z < 0
   . exact(R1 104 e1 il (dT h1) (dT h1) (same []))
   . by_cases h2:m < 0
     . exact(R1 424 e1 il (dF h1) (dT h2) (dT h2) (same []))
     . exact(R1 2472 e1 il (dF h1) (dF h2) il e1 (dT ((h.resolve_left h1).resolve_left h2)) (same []))
 . by_cases h2:m < 0
   . exact(R2 12 e2 (dT h2) (dT h2) (same []))
   . by_cases h1:z < 0
     . exact(R2 108 e2 (dF h2) il (dT h1) (dT h1) (same []))
     . exact(R2 1132 e2 (dF h2) il (dF h1) il (dT ((h.resolve_left h1).resolve_left h2)) (same []))variable {z:Nat}theorem Dp(hp:Pth b pre c)(h:hL b<=18):SA 79 (pD (aJ j pre z)):=(Dq _ (by show (pre++[z]).length+1<=9000;rw[PA];exact iv (PJ (iv (gv hp) h) 2) (by decide))).up (by decide)theorem D2(h:z+m<=n):¬ (n:Int) < (z:Int)+(m:Int):=λq=>absurd (Qp.mp (by rw[RI];exact q)) (SN.mpr h)
theorem H1(q0:okQ 18 810 ws fs)(hj:fs[j]?=some f)(hp:Pth f.rs pre c)(hz:z+m<=(lst c).length)(S:Spot fs (pD (aJ j pre z)) (some c) (z:Int))(r:Rw)(hr:∀o fn ts,r=.call o fn ts->(∀y,o=some y->y∈ws)/\∀t∈ts,lO ws t)(a:Int)(d:Nat):CL fs (pD (aJ j pre z)) (m:Int) r a .none d:=by
 obtain⟨D,v,hE,t1,t2⟩:=IN q0 q0 hj hp hz r hr (pD (aJ j pre z)) (Dp hp (q0.ok f (PC hj)).h9) (λo g ts n h e=>CA h e) (ah [pD (aJ j pre z),.int (m:Int),aI r,.int a,.none]) (.d (pD (aJ j pre z))) (.d .none) (.d .none) (ah (am c)) a d;have e1:=S.lf (d+41) [];have il:=lg (j:Int) (iN pre) (z:Int) [];rw[<- l6]at il;have h3:¬ ((am c).length:Int) < (z:Int)+(m:Int):=D2 (by rw[<- bB];exact hz);have f1:execs prog.G (aj prog (d+43)) (fT 5 cW) (Gd (ah (fs.map ao)) (ah [pD (aJ j pre z),.int (m:Int),aI r,.int a,.none]) .un .un .un .un .un .un .un .un .un .un .un .un .un) []=.ok (.next (FD fs (ah [pD (aJ j pre z),.int (m:Int),aI r,.int a,.none]) (.d (pD (aJ j pre z))) (m:Int) r a (.d .none) (aJ j pre z) fs .un .un)) []:=
   (ch prog.G (aj prog (d+43)) (fT 5 cW) (Gd (ah (fs.map ao)) (ah [pD (aJ j pre z),.int (m:Int),aI r,.int a,.none]) .un .un .un .un .un .un .un .un .un .un .un .un .un) [] 2312 e1 il il e1 (dF h3))
 have f2:execs prog.G (aj prog (d+42)) (fT 5 dl) [ah (fs.map ao),.d (pD (aJ j pre z)),ak (m:Int),.d (aI r),ak a,.d .none,.un,.un,.un,.un,.un] []=.ok (.next (FO fs (.d (pD (aJ j pre z))) (m:Int) r a (.d .none) (ah (am c)) fs (aJ j pre z) .un .un)) []:=
   (ch prog.G (aj prog (d+42)) (fT 5 dl) [ah (fs.map ao),.d (pD (aJ j pre z)),ak (m:Int),.d (aI r),ak a,.d .none,.un,.un,.un,.un,.un] [] 1096 (S.tu (d+40) []) il il (dF h3))
 exact⟨D,v,hE,cI (fn:=oK) rfl rfl (dW 5 f1 t1),kR (fn:=rQ) rfl rfl (dW 5 f2 t2) hE.out⟩
theorem JB{U:ac}{a b:E}{n:Int}(h1:af G cf a K U=.ok (ak i) U)(h2:af G cf b K U=.ok (ak n) U):af G cf (.cmp2 .le .le (.int 0) a b) K U=.ok (.d (.bool (decide (0<=i/\i<=n)))) U:=by
 rw[vj];refine au (a:=ak 0) (U:=U) rfl (au h1 (au (a:=decide (0<=i)) (U:=U) rfl ?_));by_cases h:0<=i
 . rw[decide_eq_true h];refine(au h2 rfl:_=Res.ok (V.d (.bool (decide (i<=n)))) U).trans ?_;rw[decide_eq_decide.mpr (⟨λq=>⟨h,q⟩,And.right⟩:(i<=n)↔(0<=i/\i<=n))]
 . rw[decide_eq_false h];show Res.ok (V.d (.bool false)) U=_;rw[decide_eq_false λq=>h q.1]theorem Ho(fs:List Fd)(k:Nat)(g:Fd):(fC fs k g).map ao=(fs.map ao).take k++[ao g]++(fs.map ao).drop k:=by unfold fC;rw[PP,Qq,Q7,Re,PT];rfl
theorem wP{q:Fd}(h:q∈fC fs k g):q∈fs\/q=g:=by
 rcases PQ.mp h with h|h
 . exact .inl (P8 h)
 . exact(PM.mp h).elim .inr λh=>.inl (QF h)theorem KU(fs:List Fd)(k:Nat)(g:Fd):∀x∈fs.map f8,x∈(fC fs k g).map f8:=λx hx=>by obtain⟨f,hf,rfl⟩:=Qi.mp hx;rw[<- QJ k fs]at hf;exact Qz (f:=f8) (PQ.mpr ((PQ.mp hf).imp id (PD _)))
theorem KJ(hk:k<=fs.length)(q0:okQ 18 810 ws fs)(og:okF ws (fs.map f8) g)(hb:hL g.rs<=18/\nL g.rs<=810)(h8:fs.length<=8)(hx:g.nm∉bK fs):okQ 18 810 ws (fC fs k g):=by
 have hlen:(fC fs k g).length=fs.length+1:=by unfold fC;rw[PA,PX,Ql,Qw,Qm hk,<- Qo,QX hk]
 refine⟨q0.w8,hlen▸Ru _,hlen▸PN h8,?_,λf hf=>?_,λf hf=>?_⟩
 . have e:bK (fC fs k g)=(bK fs).take k++g.nm::(bK fs).drop k:=by delta bK fC;rw[PP,Qq,Q7,Re]
   rw[e];exact(List.perm_middle.nodup_iff).mpr (QW.mpr ⟨λw=>hx (by rw[QJ]at w;exact w),by rw[QJ];exact q0.nd⟩)
 . exact nf (KU fs k g) ((wP hf).elim (q0.ok f) λe=>e▸og)
 . exact(wP hf).elim (q0.hB f) λe=>e▸hb
theorem KL(hk:k<=j)(hj:fs[j]?=some f):(fC fs k g)[j+1]?=some f:=by
 have ht:(fs.take k).length=k:=by rw[Ql];exact Qm (iv hk (Qd (Pz.mp hj).1))
 unfold fC;rw[PW (by rw[ht];exact Qt hk),ht,Nat.succ_sub hk,Tk,RY,QX hk];exact(hj)theorem qX(fs:List Fd):fs.map (λf=>PyData.str f.nm)=(bK fs).map .str:=by unfold bK;rw[Qv];rfl
set_option maxHeartbeats 4000000 in
theorem HZ(q0:okQ 18 810 ws fs)(hj:fs[j]?=some f)(hp:Pth f.rs pre c)(hz:z+m<=(lst c).length)(S:Spot fs (pD (aJ j pre z)) (some c) (z:Int))(r:Rw)(hr:∀o fn ts,r=.call o fn ts->(∀y,o=some y->y∈ws)/\∀t∈ts,lO ws t)(a:Int)(g:Fd)(hg:g.nm∉bK fs->A3 (okF ws (fs.map f8) g) (hL g.rs<=18/\nL g.rs<=810) (fs.length<=8))(d:Nat):CL fs (pD (aJ j pre z)) (m:Int) r a (ao g) d:=by
 have e1:=S.lf (d+41) [];have e2:=S.tu (d+40) [];have il:=fm j pre z [];have p9:pre.length<=18:=iv (gv hp) (q0.ok f (PC hj)).h9;have h3:¬ ((am c).length:Int) < (z:Int)+(m:Int):=D2 (by rw[<- bB];exact hz);have R1:=aX prog 65 (d+43) [ah (fs.map ao),ah [pD (aJ j pre z),.int (m:Int),aI r,.int a,ao g]] [] rfl;have R2:=aX prog 54 (d+42) [ah (fs.map ao),.d (pD (aJ j pre z)),ak (m:Int),.d (aI r),ak a,.d (ao g)] [] rfl;have c0:=λv=>lT (G:=prog.G) (cf:=aj prog (d+43)) (i:=11) (it:=.seq (.var 0)) (e:=.idx (.var 11) (.int 0)) (K:=Gd (ah (fs.map ao)) (ah [pD (aJ j pre z),.int (m:Int),aI r,.int a,ao g]) (.d (pD (aJ j pre z))) (ak (m:Int)) (.d (aI r)) (ak a) (.d (ao g)) (.d (pD (aJ j pre z))) (ah (fs.map ao)) v .un .un .un .un .un) (U:=[]) (aa:=[]) (base:=fs.map ao) ao (λf=>.str f.nm) (ps:=fs) (aZ rfl rfl) λf _=>rfl;rw[qX]at c0;have ins:=eR (bK fs) g.nm [];have c2:=λv w=>JB (G:=prog.G) (cf:=aj prog (d+42)) (K:=[ah (fs.map ao),.d (pD (aJ j pre z)),ak (m:Int),.d (aI r),ak a,.d (ao g),ah (am c),v,w,.un,.un]) (U:=[]) (a:=.var 4) (b:=.idx (.var 1) (.int 0)) (i:=a) (n:=(j:Int)) rfl (bZ rfl rfl (bI ..));by_cases ha:0<=a/\a<=(j:Int)
 . have a1:¬ a < 0:=RG.mpr ha.1;have a2:¬ (j:Int) < a:=RG.mpr ha.2;replace c2:=(decide_eq_true ha)▸c2;by_cases hx:g.nm∈bK fs
   . refine⟨_,_,.kind 3 kX (by decide),?_,?_⟩
     . exact(R1 7014664 e1 il il e1 (dF h3) (dF a1) (bI ..) (dF a2) (c0 _) ins (dT hx) (same []))
     . exact(R2 1096 e2 il il (dF h3) (c2 _ _) (di hx (d+41) []) (same []))
   . obtain⟨og,ob,h8⟩:=hg hx;clear R2 R1;obtain⟨k,rfl⟩:=QS ha.1;have hk:k<=j:=QV.mp ha.2;obtain⟨D,v,hE,t1,t2⟩:=IN q0 (KJ (iv hk (Qd (Pz.mp hj).1)) q0 og ob h8 hx) (KL hk hj) hp hz r hr (pD (aJ j pre z)) (Dp hp (q0.ok f (PC hj)).h9) (λo g ts n h e=>Cz hk hj h e) (ah [pD (aJ j pre z),.int (m:Int),aI r,.int (k:Int),ao g]) (.d (pD (aJ j pre z))) (.d (ao g)) (.d (ao g)) (ah (am c)) (k:Int) d;obtain⟨ad1,ad2⟩:=AS (l:=fs.map ao) (by rw[Pa];exact h8) k (ao g) [];replace ad2:=((Ho fs k g))▸ad2;have f1:execs prog.G (aj prog (d+43)) (fT 5 cW) (Gd (ah (fs.map ao)) (ah [pD (aJ j pre z),.int (m:Int),aI r,.int (k:Int),ao g]) .un .un .un .un .un .un .un .un .un .un .un .un .un) []=.ok (.next (FD fs (ah [pD (aJ j pre z),.int (m:Int),aI r,.int (k:Int),ao g]) (.d (pD (aJ j pre z))) (m:Int) r (k:Int) (.d (ao g)) (aJ (j+1) pre z) (fC fs k g) .un .un)) []:=
       (ch prog.G (aj prog (d+43)) (fT 5 cW) (Gd (ah (fs.map ao)) (ah [pD (aJ j pre z),.int (m:Int),aI r,.int (k:Int),ao g]) .un .un .un .un .un .un .un .un .un .un .un .un .un) [] 2129266952 e1 il il e1 (dF h3) (bI ..) (dF a2) (c0 _) ins (dF hx) (bI ..) ((iQ ..)) (yf p9 j z []) ((dY ..)) ad1 ((m0 ..)) ad2)
     have f2:execs prog.G (aj prog (d+42)) (fT 5 dl) [ah (fs.map ao),.d (pD (aJ j pre z)),ak (m:Int),.d (aI r),ak (k:Int),.d (ao g),.un,.un,.un,.un,.un] []=.ok (.next (FO fs (.d (pD (aJ j pre z))) (m:Int) r (k:Int) (.d (ao g)) (ah (am c)) (fC fs k g) (aJ (j+1) pre z) .un .un)) []:=
       (ch prog.G (aj prog (d+42)) (fT 5 dl) [ah (fs.map ao),.d (pD (aJ j pre z)),ak (m:Int),.d (aI r),ak (k:Int),.d (ao g),.un,.un,.un,.un,.un] [] 29230152 e2 il il (dF h3) (c2 _ _) (ia hx (d+41) []) ((dY ..)) ad1 ((m0 ..)) ad2 (bI ..) ((iQ ..)) (yf p9 j z []))
     exact⟨D,v,hE,cI (fn:=oK) rfl rfl (dW 5 f1 t1),kR (fn:=rQ) rfl rfl (dW 5 f2 t2) hE.out⟩
 . replace c2:=(decide_eq_false ha)▸c2;refine⟨_,_,.kind 1 gu (by decide),?_,?_⟩
   . by_cases a1:a < 0
     . exact(R1 198920 e1 il il e1 (dF h3) (dT a1) (dT a1) (same []))
     . exact(R1 723208 e1 il il e1 (dF h3) (dF a1) (bI ..) (dT (TS.mp λq=>ha ⟨RG.mp a1,q⟩)) (same []))
   . exact(R2 1096 e2 il il (dF h3) (c2 _ _) (same []))variable {ws':List Str}
theorem Lj(q0:okQ 18 810 ws fs){oc:Option RL}{z:Int}(S:Spot fs x oc z)(m a:Int)(r:Rw)(hr:∀o fn ts,r=.call o fn ts->(∀y,o=some y->y∈ws)/\∀t∈ts,lO ws t)(fo:Option Fd)(hfo:∀g,fo=some g->g.nm∉bK fs->A3 (okF ws (fs.map f8) g) (hL g.rs<=18/\nL g.rs<=810) (fs.length<=8))(d:Nat):CL fs x m r a (I9 fo) d:=by
 cases oc with
 |none=>exact E8 S m r a _ d
 |some c=>
   by_cases hb:z < 0\/m < 0\/((am c).length:Int) < z+m
   . exact HY S hb r a _ d
   . obtain⟨j,f,pre,hj,hp,e⟩:=S.yes c rfl;obtain⟨h1,h4⟩:=not_or.mp hb;obtain⟨h2,h3⟩:=not_or.mp h4;obtain⟨z',rfl⟩:=QS (RG.mp h1);obtain⟨m',rfl⟩:=QS (RG.mp h2);have hz:z'+m'<=(lst c).length:=by rw[bB];refine QV.mp ?_;rw[RI];exact RG.mp h3
     rw[<- l6]at e;subst e;cases fo with
     |none=>exact H1 q0 hj hp hz S r hr a d
     |some g=>exact HZ q0 hj hp hz S r hr a g (hfo g rfl) d
mutual
theorem J9(h:∀x∈ws,x∈ws'):∀r:Rw,l9 ws cs r->l9 ws' cs r
 |.set _ _=>λq=>⟨h _ q.1,λx hx=>h x (q.2.1 x hx),q.2.2⟩
 |.tell _=>λq=>⟨λx hx=>h x (q.1 x hx),q.2⟩
 |.call _ _ _=>λq=>⟨λx e=>h x (q.1 x e),λt ht=>⟨λx hx=>h x ((q.2.1 t ht).1 x hx),(q.2.1 t ht).2⟩,q.2.2⟩
 |.whn _ b=>λq=>⟨⟨λx hx=>h x (q.1.1 x hx),q.1.2⟩,uM h b q.2⟩
 |.aga _ b=>λq=>uM h b (q)theorem uM(h:∀x∈ws,x∈ws'):∀b:RL,fH ws cs b->fH ws' cs b
 |.nil=>λq=>q
 |.cons r b=>λq=>⟨J9 h r q.1,uM h b q.2⟩
end
theorem D1(h:∀x∈ws,x∈ws')(q:okF ws cs f):okF ws' cs f:=⟨λx hx=>h x (q.ps x hx),q.p4,uM h _ q.rs,q.h9,q.n4,λx hx=>h x (q.t.1 x hx),q.t.2⟩
structure Chg(ws:List Str)(fs:List Fd)(j:Nat)(f:Fd)(pre:List Nat)(z:Nat)(c:RL)(m:Nat)(o:Option Str)(fn:Str)(ts:List Tm)(fo:Option Fd):Prop where
 w7:ws.length<=7
 q:okQ 18 810 ws fs
 hj:fs[j]?=some f
 hp:Pth f.rs pre c
 m9:m<=9000
 ho:∀x,o=some x->x∈ws
 ok:∀t∈ts,lO ws t
 h7:ts.length<=7
 hf:∀g,fo=some g->A3 (okF ws (fs.map f8) g) (hL g.rs<=18/\nL g.rs<=810) (fs.length<=8)def Jo(fs:List Fd)(d:Nat)(D:PyData):Prop:=X5 λx m r a fo=>D=.tuple [x,.int m,aI r,.int a,I9 fo]/\CL fs x m r a (I9 fo) d
variable {l:List PyData}{fo:Option Fd}def rN(j:Nat)(pre:List Nat)(z m:Nat)(o:Option Str)(fn:Str)(ts:List Tm)(a:Int)(fo:Option Fd):PyData:=.tuple [pD (aJ j pre z),.int (m:Int),aI (.call o fn ts),.int a,I9 fo]def FB(fs:List Fd)(j:Nat)(pre:List Nat)(z m:Nat)(o:Option Str)(fn:Str)(ts:List Tm)(a:Int)(fo:Option Fd)(cl:Int)(v8 v9 v10 v11 v12:V):Fm:=Gd (.d (.tuple (fs.map ao))) (.d (rN j pre z m o fn ts a fo)) (.d (.int cl)) (.d (pD (aJ j pre z))) (.d (.int (m:Int))) (.d (aI (.call o fn ts))) (.d (.int a)) (.d (I9 fo)) v8 v9 v10 v11 v12 .un .un
theorem Im{L:List PyData}(hl:L.length<=900000)(x:PyData):x9 .append (.loc 0) [.lst L] [.d x] [.lst L]=.ok (.d .none) [.lst (L++[x])]:=mR (U:=[]) hl x
theorem Cw(h:Chg ws fs j f pre z c m o fn ts fo)(a cl far:Int)(cf:Nat->List V->ac->Res V):∃N:List PyData,A3 (N.length=5) (∀x∈N,X2 λoc y=>Spot fs x oc y) (exec prog.G cf (B2 (bP 2 cB)) (FB fs j pre z m o fn ts a fo cl (ak far) .un .un .un .un) []=.ok (.next (FB fs j pre z m o fn ts a fo cl (ak far) (al N) .un .un .un)) []):=by
 have p9:pre.length<=18:=iv (gv h.hp) (h.q.ok f (PC h.hj)).h9;have l2:(aJ j pre z).length<=100:=by show (pre++[z]).length+1<=100;rw[PA];exact iv (PJ p9 2) (by decide)
 have a1:dj .add false (.d (pD (j::pre))) (ah [.int (-1 - far)]) []=.ok (.d (pI (j:Int) (iN pre) (-1 - far))) []:=by
   have e:pI (j:Int) (iN pre) (-1 - far)=.tuple ((j::pre).map nI++[.int (-1 - far)]):=by
     delta pI iN;rw[Qv];rfl
   rw[e];exact ie (by rw[Pa];exact iv (PN (iv (PN p9) (by decide):(j::pre).length<=100)) (by decide)) []
 refine⟨[pI (j:Int) (iN pre) (-1 - far),.tuple [],.tuple (((aJ j pre z).map nI).take 1),.tuple [.int (((fs.map ao).length:Int)+far),.int 0],pD (aJ j pre z++[0])],rfl,?_,(GP prog.G cf (B2 (bP 2 cB)) (FB fs j pre z m o fn ts a fo cl (ak far) .un .un .un .un) [] 77 ((uK ..)) a1 (dY ((aJ j pre z).map nI) 1 []) (pR l2 0 []))⟩;intro x hx;replace hx:=PM.mp hx;rcases hx with rfl|hx
 . exact⟨_,_,kW ..⟩
 rcases PM.mp hx with rfl|hx
 . exact⟨none,0,qz (P5 rfl) _⟩
 rcases PM.mp hx with rfl|hx
 . exact⟨none,0,qz (P5 rfl) _⟩
 rcases PM.mp hx with rfl|hx
 . exact⟨_,_,kW fs _ [] 0⟩
 rw[PL.mp hx];have e:pD (aJ j pre z++[0])=pI (j:Int) (iN (pre++[z])) 0:=by
   have:=l6 j (pre++[z]) 0
   exact this
 rw[e];exact⟨_,_,kW ..⟩
theorem yg(x y:PyData)(i:Int):∃w,(w=x\/w=y)/\∀U,cK (al [x,y]) (ak (i % 2)) U=some (.d w):=by
 rcases Int.emod_two_eq i with h|h
 . exact⟨x,.inl rfl,λU=>by rw[h];rfl⟩
 . exact⟨y,.inr rfl,λU=>by rw[h];rfl⟩theorem eX{P:PyData->Prop}(hl:∀y∈l,P y)(h:P x):∀y∈l++[x],P y:=λy hy=>(PQ.mp hy).elim (hl y) λe=>PL.mp e▸h
theorem Jk(h:0 < l.length)(x:Int):0 < ((l.length:Nat):Int)/\∃a,a∈l/\∀U,cK (al l) (ak (x % (l.length:Int))) U=some (.d a):=by have:=lr (λx:PyData=>x) h x;rw[List.map_id']at this;exact this
theorem Gp(x y i:Int):∃k:Int,∀U,cK (al [.int x,.int y]) (ak (i % 2)) U=some (ak k):=by
 obtain⟨w,h,e⟩:=yg (.int x) (.int y) i;rcases h with rfl|rfl
 . exact⟨_,e⟩
 . exact⟨_,e⟩
theorem Gm(i:Int):∃r:Rw,(∀o fn ts,r≠.call o fn ts)/\∀U,cK (al [.tuple [.str mt,.tuple [.str cL,.int 1]],.tuple [.str iu,.str NM,.tuple [.str cL,.int 1]]]) (ak (i % 2)) U=some (.d (aI r)):=by
 obtain⟨w,h,e⟩:=yg (.tuple [.str mt,.tuple [.str cL,.int 1]]) (.tuple [.str iu,.str NM,.tuple [.str cL,.int 1]]) i;rcases h with rfl|rfl
 . exact⟨.tell (.num 1),nofun,e⟩
 . exact⟨.set NM (.num 1),nofun,e⟩
theorem Go(i:Int):∃o:Option Str,(∀x,o=some x->x=iR)/\∀U,cK (al [.str iR,.none]) (ak (i % 2)) U=some (.d (fX o)):=by
 obtain⟨w,h,e⟩:=yg (.str iR) .none i;rcases h with rfl|rfl
 . exact⟨some iR,λx h=>(Option.some.inj h).symm,e⟩
 . exact⟨none,nofun,e⟩
theorem Hb(n:Int):∃k:Int,∀U,xT .max false [ak 0,ak n] U=.ok (ak k) U:=by
 by_cases h:n > 0
 . exact⟨_,λU=>qe h U⟩
 . exact⟨_,λU=>Ha h U⟩
theorem K8(h:0 < fs.length)(x:Int):0 < (((fs.map ao).length:Nat):Int)/\∃g:Fd,g∈fs/\∀U,cK (ah (fs.map ao)) (ak (x % ((fs.map ao).length:Int))) U=some (.d (ao g)):=by
 have hl:0 < (((fs.map ao).length:Nat):Int):=by rw[Pa];exact Int.natCast_pos.mpr h
 obtain⟨k,hk⟩:=QS (RZ x (SH hl));have lt:=SX x hl;rw[hk,Pa]at lt;have hk2:=Qp.mp lt;exact⟨hl,fs[k],Rn _,λU=>by rw[hk];exact bE (PB hk2) U⟩
theorem MV(x:Int)(L:List Str):0 < 1+(((L.map PyData.str).length:Nat):Int)/\∃w:Str,∀U,cK (al ([.str iR]++L.map .str)) (ak (x % (1+((L.map PyData.str).length:Int)))) U=some (aA w):=by
 obtain⟨h,w,_,e⟩:=lr PyData.str (l:=iR::L) (Ru _) x;have q:((((iR::L).map PyData.str).length:Nat):Int)=1+(((L.map PyData.str).length:Nat):Int):=by rw[Qq,PX,RI,S3];rfl
 rw[q]at h e;exact⟨h,w,e⟩theorem BV(fs:List Fd)(j:Nat)(pre:List Nat)(z m:Nat)(o:Option Str)(fn:Str)(ts:List Tm)(a:Int)(fo:Option Fd)(cl:Int)(cf:Nat->List V->ac->Res V)(v8 v9:V):∃L:List Str,L.length<=fs.length/\∀U,af prog.G cf (.comp false (.var 13) (.seq (.slc false (.var 0) (.cons (.idx (.var 3) (.int 0)) .nil) .nil)) (.cons (.cmp .eq (.bi .len false (.cons (.idx (.var 13) (.int 1)) .nil)) (.bi .len false (.cons (.idx (.var 5) (.int 3)) .nil))) .nil) (.idx (.var 13) (.int 0))) (FB fs j pre z m o fn ts a fo cl v8 v9 (.loc 0) .un .un) U=.ok (al (L.map .str)) U:=by have c:=λU=>fi (G:=prog.G) (cf:=cf) (i:=13) (it:=.seq (.slc false (.var 0) (.cons (.idx (.var 3) (.int 0)) .nil) .nil)) (c:=.cmp .eq (.bi .len false (.cons (.idx (.var 13) (.int 1)) .nil)) (.bi .len false (.cons (.idx (.var 5) (.int 3)) .nil))) (e:=.idx (.var 13) (.int 0)) (K:=FB fs j pre z m o fn ts a fo cl v8 v9 (.loc 0) .un .un) (U:=U) (aa:=U) (base:=(fs.drop j).map ao) ao (λf=>.str f.nm) (λf=>decide (((f.ps.map PyData.str).length:Int)=((ts.map a9).length:Int))) (ps:=fs.drop j) (aZ (qp rfl (Ap (bZ rfl rfl (bI ..))) rfl ((m0 ..).trans (by rw[<- Re]))) rfl) (λf _=>rfl) λf _ _=>rfl;rw[qX]at c;exact⟨_,by unfold bK;rw[Pa];exact iv (Rh ..) (by rw[Qw];exact Tf _ _),c⟩
theorem Cy{P:PyData->Prop}(hn:0 < fs.length)(a cl far:Int)(cf:Nat->List V->ac->Res V)(v9 v11 v12:V)(hP:∀g,fo=some g->∀g'∈fs,P (.tuple [pD (aJ j pre z),.int (m:Int),aI (.call o fn ts),.int a,ao { g with nm:=g'.nm }])):∃E:List PyData,A3 (∀D∈E,P D) (E.length<=1) (∀L:List PyData,L.length<=900000->exec prog.G cf (B2 (bP 14 cB)) (FB fs j pre z m o fn ts a fo cl (ak far) v9 (.loc 0) v11 v12) [.lst L]=.ok (.next (FB fs j pre z m o fn ts a fo cl (ak far) v9 (.loc 0) v11 v12)) [.lst (L++E)]):=by
 cases fo with
 |none=>exact⟨[],(λD hD=>by cases hD),PR _,λL hL=>by rw[P4];exact(GP prog.G cf (B2 (bP 14 cB)) (FB fs j pre z m o fn ts a none cl (ak far) v9 (.loc 0) v11 v12) [.lst L] 0)⟩
 |some g=>obtain⟨hl,g',hg,i1⟩:=K8 hn far;exact⟨[_],(λD hD=>PL.mp hD▸hP g rfl g' hg),P9 _,λL hL=>(GP prog.G cf (B2 (bP 14 cB)) (FB fs j pre z m o fn ts a (some g) cl (ak far) v9 (.loc 0) v11 v12) [.lst L] 24 (ee _ _ hl) (i1 _) (Im hL _))⟩
theorem Co(h:Chg ws fs j f pre z c m o fn ts fo)(a cl:Int)(d e:Nat):∃D,Jo fs d D/\pc (e+1) 64 [ah (fs.map ao),.d (rN j pre z m o fn ts a fo),ak cl] [] (.d D):=by
 have hw:∀x∈ws,x∈iR::ws:=λx hx=>PD _ hx;have Q:okQ 18 810 (iR::ws) fs:=⟨PN h.w7,h.q.ne,h.q.n9,h.q.nd,λf hf=>D1 hw (h.q.ok f hf),h.q.hB⟩
 have SP:Spot fs (pD (aJ j pre z)) (NA fs (j:Int) (iN pre)) (z:Int):=l6 j pre z▸kW fs (j:Int) (iN pre) (z:Int);have ho:∀x,o=some x->x∈iR::ws:=λx e=>hw x (h.ho x e);have ok:∀t∈ts,lO (iR::ws) t:=λt ht=>⟨λx hx=>hw x ((h.ok t ht).1 x hx),(h.ok t ht).2⟩;have hfo:∀g,fo=some g->g.nm∉bK fs->A3 (okF (iR::ws) (fs.map f8) g) (hL g.rs<=18/\nL g.rs<=810) (fs.length<=8):=λg e _=>let ⟨a,b,c⟩:=h.hf g e;⟨D1 hw a,b,c⟩;have mk:∀{x:PyData} {oc:Option RL} {y:Int} (S:Spot fs x oc y) (m a:Int) (r:Rw) (hr:∀o fn ts,r=.call o fn ts->(∀y,o=some y->y∈iR::ws)/\∀t∈ts,lO (iR::ws) t),Jo fs d (.tuple [x,.int m,aI r,.int a,I9 fo]):=λS m a r hr=>⟨_,m,r,a,fo,rfl,Lj Q S m a r hr fo hfo d⟩;have cr:∀(o':Option Str) (fn':Str) (ts':List Tm),(∀y,o'=some y->y∈iR::ws)->(∀t∈ts',lO (iR::ws) t)->∀o fn ts,Rw.call o' fn' ts'=.call o fn ts->(∀y,o=some y->y∈iR::ws)/\∀t∈ts,lO (iR::ws) t:=λo' fn' ts' h1 h2 o fn ts e=>by cases (e);exact⟨h1,h2⟩
 generalize hfar:cl / 9 % 100000000000000000000=far;refine kk λUc kz=>?_;obtain⟨N,n5,hN,s3⟩:=Cw h a cl far (aj prog e);have R:=λ(k:Nat) (v9 v10 v11 v12:V) (U:ac)=>GP prog.G (aj prog e) (B2 (bP k cB)) (FB fs j pre z m o fn ts a fo cl (ak far) v9 v10 v11 v12) U;obtain⟨h5,x2,m2,i2⟩:=Jk (l:=N) (by rw[n5];decide) (cl / 11);rw[n5]at i2;obtain⟨a3,i3⟩:=Gp ((j:Int)+1+far) (-1 - far) (cl / 9);obtain⟨oc2,z2,S2⟩:=hN x2 m2;have A1:=mk SP ((m:Int)+200+far) a (.call o fn ts) (cr o fn ts ho ok);have A2:=mk S2 (m:Int) a (.call o fn ts) (cr o fn ts ho ok);have A3:=mk SP (m:Int) a3 (.call o fn ts) (cr o fn ts ho ok);have s1:exec prog.G (aj prog e) (B2 cB) (Gd (ah (fs.map ao)) (.d (rN j pre z m o fn ts a fo)) (ak cl) .un .un .un .un .un .un .un .un .un .un .un .un) []=.ok (.next (FB fs j pre z m o fn ts a fo cl .un .un .un .un .un)) []:=rfl;have s2:exec prog.G (aj prog e) (B2 (bP 1 cB)) (FB fs j pre z m o fn ts a fo cl .un .un .un .un .un) []=.ok (.next (FB fs j pre z m o fn ts a fo cl (ak far) .un .un .un .un)) []:=by rw[<- hfar];rfl
 have s4:=(R 3 (al N) .un .un .un [] 16 (i2 []))
 obtain⟨r4,c4,i4⟩:=Gm far;obtain⟨k8,i8⟩:=Hb ((m:Int)+1 - 2 * (far % 2));obtain⟨o9,c9,i9⟩:=Go far;have A4:=mk SP (m:Int) a r4 λo fn ts e=>absurd e (c4 o fn ts);have A5:=mk SP (m:Int) a (.call o fn (ts++[Tm.num 5])) (cr o fn _ ho λt ht=>(PQ.mp ht).elim (ok t) λe=>PL.mp e▸oQ ..);have e5:aI (.call o fn (ts++[Tm.num 5]))=.tuple [.str bA,fX o,.str fn,.tuple (ts.map a9++[.tuple [.str cL,.int 5]])]:=by show PyData.tuple [.str bA,fX o,.str fn,.tuple ((ts++[Tm.num 5]).map a9)]=_;rw[PP];rfl
 rw[e5]at A5;have l5:(ts.map a9).length+[PyData.tuple [.str cL,.int 5]].length<=100000:=by rw[Pa];exact iv (PJ h.h7 1) (by decide)
 have A7:=mk SP (-1 - far) a (.call o fn ts) (cr o fn ts ho ok);have A8:=mk SP k8 a (.call o fn ts) (cr o fn ts ho ok);have A9:=mk SP (m:Int) a (.call o9 fn ts) (cr o9 fn ts (λx e=>c9 x e▸PF ..) ok);have A10:=mk SP (m:Int) a (.call o fn (ts.map λ_=>Tm.num 7)) (cr o fn _ ho λt ht=>by obtain⟨_,_,rfl⟩:=Qi.mp ht;exact oQ ..);have e10:aI (.call o fn (ts.map λ_=>Tm.num 7))=.tuple [.str bA,fX o,.str fn,.tuple (ts.map λ_=>.tuple [.str cL,.int 7])]:=by show PyData.tuple [.str bA,fX o,.str fn,.tuple ((ts.map λ_=>Tm.num 7).map a9)]=_;rw[Qv];rfl
 rw[e10]at A10;have s5:=λ(L:List PyData) (hL:L.length<=900000)=>(R 4 (al N) (.loc 0) .un .un [.lst L] 65 (bI ..) (i3 _) (Im hL _));have s6:=λ(L:List PyData) (hL:L.length<=900000)=>(R 5 (al N) (.loc 0) .un .un [.lst L] 2 (i4 _) (Im hL _));have s7:=λ(L:List PyData) (hL:L.length<=900000)=>(R 6 (al N) (.loc 0) .un .un [.lst L] 4 (ie l5 _) (Im hL _));obtain⟨L1,l1,c1⟩:=BV fs j pre z m o fn ts a fo cl (aj prog e) (ak far) (al N);obtain⟨h6,n6,i6⟩:=MV far L1;have A6:=mk SP (m:Int) a (.call o n6 ts) (cr o n6 ts ho ok);have lz:[PyData.str iR].length+(L1.map PyData.str).length<=100000:=by rw[Pa];exact iv (Qe (iv l1 h.q.n9) 1) (by decide)
 have s8:=λ(L:List PyData)=>(R 7 (al N) (.loc 0) .un .un [.lst L] 0 (c1 _));have s9:=λ(L:List PyData)=>(R 8 (al N) (.loc 0) (al (L1.map .str)) .un [.lst L] 25 (kS lz _) (ee _ _ h6) (i6 _));have s10:=λ(L:List PyData) (hL:L.length<=900000)=>(R 9 (al N) (.loc 0) (al (L1.map .str)) (ah [.str n6]) [.lst L] 0 (Im hL _));have s11:=λ(L:List PyData) (hL:L.length<=900000)=>(R 10 (al N) (.loc 0) (al (L1.map .str)) (ah [.str n6]) [.lst L] 0 (Im hL _));have s12:=λ(L:List PyData) (hL:L.length<=900000)=>(R 11 (al N) (.loc 0) (al (L1.map .str)) (ah [.str n6]) [.lst L] 16 ((i8 _)) (Im hL _));have s13:=λ(L:List PyData) (hL:L.length<=900000)=>(R 12 (al N) (.loc 0) (al (L1.map .str)) (ah [.str n6]) [.lst L] 4 (i9 _) (Im hL _));have s14:=λ(L:List PyData) (hL:L.length<=900000)=>(R 13 (al N) (.loc 0) (al (L1.map .str)) (ah [.str n6]) [.lst L] 0 ((λU=>lT a9 (λ_=>.tuple [.str cL,.int 7]) (aZ rfl rfl) λt _=>rfl) _) (Im hL _));obtain⟨E,hE,lE,s15⟩:=Cy (P:=Jo fs d) (o:=o) (fn:=fn) (ts:=ts) (fo:=fo) (j:=j) (pre:=pre) (z:=z) (m:=m) h.q.ne a cl far (aj prog e) (al N) (al (L1.map .str)) (ah [.str n6]) λg hg g' hm=>⟨_,_,.call o fn ts,_,some { g with nm:=g'.nm },rfl,Lj Q SP (m:Int) a (.call o fn ts) (cr o fn ts ho ok) (some { g with nm:=g'.nm }) (λg2 e2 hx=>by injection e2 with e;subst e;exact absurd (Qz (f:=λf:Fd=>f.nm) hm) hx) d⟩;have hb:∀{x:PyData} {l:List PyData} {k:Nat},l.length=k->(l++[x]).length=k+1:=λh=>by rw[PA,h];rfl
 have fin:∀L:List PyData,L.length=10->(∀D∈L,Jo fs d D)->∃D,Jo fs d D/\execs prog.G (aj prog e) (bP 14 cB) (FB fs j pre z m o fn ts a fo cl (ak far) (al N) (.loc 0) (al (L1.map .str)) (ah [.str n6])) [.lst L]=.ok (.ret (.d D)) [.lst (L++E)]:=λL l10 hL=>by obtain⟨hp,D,hD,iD⟩:=Jk (l:=L++E) (by rw[PA,l10];exact Qr (by decide) (PU 10 _)) cl;exact⟨D,(PQ.mp hD).elim (hL D) (hE D),aT (s15 L (by rw[l10];decide)) (lZ (R 15 (al N) (.loc 0) (al (L1.map .str)) (ah [.str n6]) [.lst (L++E)] 6 (ee _ _ hp) ((iD [.lst (L++E)]))))⟩
 obtain⟨D,hD,eD⟩:=fin _ rfl (eX (eX (eX (eX (eX (eX (eX (eX (eX (l:=[_]) (λy hy=>PL.mp hy▸A1) A2) A3) A4) A5) A6) A7) A8) A9) A10);refine kz ⟨D,hD,oO (fn:=rP) rfl rfl (aT s1 (aT s2 (aT s3 (aT s4 (aT (s5 _ ?_) (aT (s6 _ ?_) (aT (s7 _ ?_) (aT (s8 _) (aT (s9 _) (aT (s10 _ ?_) (aT (s11 _ ?_) (aT (s12 _ ?_) (aT (s13 _ ?_) (aT (s14 _ ?_) eD)))))))))))))) rfl⟩
 all_goals exact P5 rfl
variable {x:Str}
mutual
theorem GZ(h:∀p∈cs,p.1≠x->p∈cs'):∀r:Rw,l9 ws cs r->uZ x r=false->(zI r).any (uZ x)=false->l9 ws cs' r
 |.set _ _=>λq _ _=>q
 |.tell _=>λq _ _=>q
 |.call _ f _=>λq k _=>⟨q.1,q.2.1,q.2.2.1,h _ q.2.2.2 (of_decide_eq_false k)⟩
 |.whn _ b=>λq _ k=>⟨q.1,qc h b q.2 k⟩
 |.aga _ b=>λq _ k=>qc h b q (k)theorem qc(h:∀p∈cs,p.1≠x->p∈cs'):∀b:RL,fH ws cs b->(jr b).any (uZ x)=false->fH ws cs' b
 |.nil=>λ_ _=>trivial
 |.cons r b=>λq k=>by have k:(uZ x r||(zI r++jr b).any (uZ x))=false:=k;obtain⟨k1,k2⟩:=R8.mp k;rw[List.any_append]at k2;obtain⟨k2,k3⟩:=R8.mp k2;exact⟨GZ h r q.1 k1 k2,qc h b q.2 k3⟩
end
structure Str0(ws:List Str)(fs:List Fd)(j n:Nat)(f g:Fd)(pre:List Nat)(z:Nat)(c:RL)(o:Option Str)(fn:Str)(ts:List Tm):Prop where
 a0:At ws (fs.map f8) fs j n f g pre z c o fn ts
 w7:ws.length<=7
 nd:(bK fs).Nodup
 hb:∀q∈fs,hL q.rs<=9/\nL q.rs<=401
 ho:∀x,o=some x->x∈ws
 lt:n < j
theorem FS(h:Str0 ws fs j n f g pre z c o fn ts)(k:Nat):okQ 18 810 ws (ci fs j [bL k (aS o ts g) pre z f]):=by
 have hlt:=(Pz.mp h.a0.hj).1;have en:bK (ci fs j [bL k (aS o ts g) pre z f])=bK fs:=jg h.a0.hj (·.nm) rfl;have el:(ci fs j [bL k (aS o ts g) pre z f]).length=fs.length:=dK _ hlt;obtain⟨w1,w2,w3⟩:=jc (ws:=ws) (cs:=fs.map f8) k (news:=aS o ts g) z h.a0.hp;obtain⟨n1,n2⟩:=qW o ts g;have bf:=h.hb f (PC h.a0.hj);have bg:=h.hb g (PC h.a0.hn);have b1:hL (cE k (aS o ts g) z f.rs pre)<=18:=iv w2 (Qb bf.1 (iv n2 bg.1));have b2:nL (cE k (aS o ts g) z f.rs pre)<=810:=iv (PU _ _) (iv (Qk w3) (Qb bf.2 (iv n1 (PN (Qb h.a0.h4 bg.2)))));refine⟨Qt h.w7,el▸P6 (PR _) hlt,el▸h.a0.h8,en▸h.nd,λq hq=>?_,λq hq=>?_⟩
 . rw[(jg h.a0.hj f8 rfl:(ci fs j [bL k (aS o ts g) pre z f]).map f8=fs.map f8)];rcases eK hq with hq|hq
   . exact h.a0.all q hq
   . rw[PL.mp hq];exact⟨h.a0.of.ps,h.a0.of.p4,w1 h.a0.of.rs (G6 h.a0 h.ho),b1,iv b2 (by decide),h.a0.of.t⟩
 . rcases eK hq with hq|hq
   . exact⟨iv (h.hb q hq).1 (by decide),iv (h.hb q hq).2 (by decide)⟩
   . rw[PL.mp hq];exact⟨b1,b2⟩
theorem GT(h:Str0 ws fs j n f g pre z c o fn ts):X6 λP j' f' c' m fo=>Chg ws P j' f' pre z c' m o fn ts fo/\uH fs j n f g pre z o fn ts=.tuple [.tuple (P.map ao),rN j' pre z m o fn ts (n:Int) fo]:=by
 have Q:=FS h 1;have hlt:=(Pz.mp h.a0.hj).1;have el:(ci fs j [bL 1 (aS o ts g) pre z f]).length=fs.length:=dK _ hlt;have hj':(ci fs j [bL 1 (aS o ts g) pre z f])[j]?=some (bL 1 (aS o ts g) pre z f):=fV 1 (Qd hlt) _;have hn':(ci fs j [bL 1 (aS o ts g) pre z f])[n]?=some g:=qH hlt h.a0.hn (QE h.lt);have hp':=kY 1 (aS o ts g) z h.a0.hp;have m9:(am (aS o ts g)).length<=9000:=iv (gS _) (iv (gG h.a0).1 (by decide));unfold uH;generalize hA:ci fs j [bL 1 (aS o ts g) pre z f]=A at Q el hj' hn' ⊢;clear hA;cases hc:bU fn A with
 |true=>exact⟨A,j,_,_,_,none,⟨h.w7,Q,hj',hp',m9,h.ho,h.a0.ok,h.a0.h4,nofun⟩,rfl⟩
 |false=>
   obtain⟨i,rfl⟩:=Tj h.lt;have hcut:∀p∈A.map f8,p.1≠fn->p∈(io A n).map f8:=λp hp hne=>by
     obtain⟨q,hq,rfl⟩:=Qi.mp hp;refine Qz (f:=f8) ?_;obtain⟨k,hk⟩:=Q0 hq
     rcases Nat.lt_trichotomy k n with q1|q1|q1
     . exact Q1 _ (PC ((Q5 q1).trans hk))
     . rw[q1,hn']at hk;exact absurd (Option.some.inj hk▸h.a0.nm) hne
     . refine QH _ (PC (i:=k - (n+1)) ?_);rw[RY,QX q1];exact hk
   have sub:∀q∈io A n,q∈A:=λq hq=>(PQ.mp hq).elim P8 QF;have okc:∀q∈A,okF ws ((io A n).map f8) q:=λq hq=>by
     have:=Q.ok q hq;refine { this with rs:=qc hcut q.rs this.rs ?_ };cases w:(jr q.rs).any (uZ fn) with
     |false=>rfl
     |true=>have:bU fn A=true:=Sg.mpr ⟨q,hq,w⟩;rw[hc]at this;injection this
   have nl:n < A.length:=(Pz.mp hn').1;have cl:=xA nl;have en:bK A=(bK A).take n++fn::(bK A).drop (n+1):=by
     have:=QJ n (bK A);have hl:n < (bK A).length:=by unfold bK;rw[Pa];exact nl
     have e1:(bK A)[n]=fn:=by
       have:(bK A)[n]?=some fn:=by unfold bK;rw[Qc,hn',Sv,h.a0.nm]
       exact(Pz.mp this).2
     rw[QT hl,e1]at this;exact this.symm
   have ec:bK (io A n)=(bK A).take n++(bK A).drop (n+1):=by delta io bK;rw[PP,Q7,Re]
   have nd:=Q.nd;rw[en]at nd;have nd:=QW.mp (List.perm_middle.nodup_iff.mp nd);rw[<- ec]at nd;refine⟨io A n,n+i,bL 1 (aS o ts g) pre z f,_,_,some g,⟨h.w7,⟨Q.w8,?_,?_,nd.2,λq hq=>okc q (sub q hq),λq hq=>Q.hB q (sub q hq)⟩,?_,hp',m9,h.ho,h.a0.ok,h.a0.h4,λg' e=>?_⟩,?_⟩
   . exact P6 (PR (n+i)) (RV (Nat.lt_of_lt_of_eq hlt (el.symm.trans cl.symm)))
   . exact iv (Sj _) (iv (Qk cl) Q.n9)
   . rw[AU (PU ..) (Qd nl)];exact hj'
   . injection e with e;subst e;exact⟨okc g (PC hn'),Q.hB g (PC hn'),RD (iv (Qk cl) Q.n9)⟩
   . have ej:(((n+i+1:Nat):Int) - 1)=((n+i:Nat):Int):=by rw[RI (n+i)];exact Sy ..
     refine(?_:PyData.tuple [.tuple ((io A n).map ao),.tuple [.tuple (.int (((n+i+1:Nat):Int) - 1)::(pre++[z]).map nI),.int (am (aS o ts g)).length,aI (.call o fn ts),.int (n:Int),ao g]]=_);refine ej▸?_;rfl
structure Fst(ws:List Str)(fs:List Fd):Prop where
 w7:ws.length<=7
 ne:0 < fs.length
 n8:fs.length<=8
 ok:NO ws fs
 nd:(bK fs).Nodup
variable {M:List (List Nat×Rw)}theorem Fst.all(h:Fst ws fs):∀f∈fs,okF ws (fs.map f8) f:=λf hf=>by refine(Q0 hf).elim λk hk=>?_;exact nf (Hv k) (h.ok k f hk).1
theorem Fst.hb(h:Fst ws fs):∀f∈fs,hL f.rs<=9/\nL f.rs<=400:=λf hf=>by refine(Q0 hf).elim λk hk=>?_;exact(h.ok k f hk).2
theorem Fst.str(h:Fst ws fs)(hj:fs[j]?=some f)(hp:Pth f.rs pre c)(hz:(lst c)[z]?=some (.call o fn ts)):∃g,Str0 ws fs j ((bK fs).idxOf fn) f g pre z c o fn ts:=by
 have ok:=bS (J1 hp (h.ok j f hj).1.rs) _ (PC hz);have nt:(bK (fs.take j)).Nodup:=by
   have:bK (fs.take j)=(bK fs).take j:=by skip;exact Q7
   exact this▸h.nd.sublist (R5 ..)
 obtain⟨g,h1,h2,h3,h4⟩:=Lu nt ok.2.2.2;have hi:=Rk.mpr h4;generalize (bK (fs.take j)).idxOf fn=n at h1 hi;unfold bK at hi;rw[Pa,Ql]at hi;have lt:n < j:=Qr hi (Nat.min_le_left ..);rw[Q5 lt]at h1;have e:=qV h.nd h1;rw[h2]at e;refine e▸?_;exact⟨g,⟨Qt h.w7,Qt h.n8,h.all,hj,hp,hz,h1,e,h2▸Qz (f:=λf:Fd=>f.nm) (PC h1),h2,h3.symm,ok.2.2.1,ok.2.1⟩,h.w7,h.nd,λq hq=>⟨(h.hb q hq).1,iv (h.hb q hq).2 (by decide)⟩,ok.1,lt⟩def Rd(ws:List Str)(v:PyData):Prop:=v=.none\/X6 λP j f pre z c=>X6 λm o fn ts a fo=>Chg ws P j f pre z c m o fn ts fo/\v=.tuple [.tuple (P.map ao),rN j pre z m o fn ts a fo]
theorem vq(h:Fst ws fs)(l:List Int)(hM:∀p∈M,p∈qN 0 fs/\t9 p.2=true)(h0:0 < M.length)(d:Nat):∃v,Rd ws v/\pc (d+21) 62 [al (l.map .int),ah (fs.map ao),al (M.map aR)] [] (.d v):=by
 obtain⟨hl,p,hp,ip⟩:=lr aR h0 (bG l 1);obtain⟨h1,h2⟩:=hM p hp;obtain⟨j,f,pre,z,c,hj,pl,pt,hz⟩:=qM h1;obtain⟨q,r⟩:=p;subst pl;cases r with
 |set _ _=>injection h2
 |tell _=>injection h2
 |whn _ _=>injection h2
 |aga _ _=>injection h2
 |call o fn ts=>obtain⟨g,S⟩:=h.str hj pt hz;have c1:=bY (d+19) l 1 [];have c2:=bY (d+19) l 2 [];have e1:=kP S.a0.mem (d+19) [];have e2:=bE S.a0.hn [];refine⟨_,.inr ⟨ci fs j [bL 0 (aS o ts g) pre z f],j,bL 0 (aS o ts g) pre z f,pre,z,_,(am (aS o ts g)).length,o,fn,ts,bG l 2 % 100000000000000000000 - 9,none,⟨h.w7,FS S 0,fV 1 (Qd (Pz.mp hj).1) _,kY 0 (aS o ts g) z pt,iv (gS _) (iv (gG S.a0).1 (by decide)),S.ho,S.a0.ok,S.a0.h4,nofun⟩,rfl⟩,?_⟩;exact(aX prog 62 (d+20) [al (l.map .int),ah (fs.map ao),al (M.map aR)] [] rfl 22 c1 (ee _ _ hl) (ip []) e1 e2 (nM S.a0.hl S.a0.h4 S.a0.og.n4 (d+18) []) ((gK 0 (news:=aS o ts g) (z:=z) (iv (gG S.a0).1 (by decide)) hj S.a0.h8 pt (iv S.a0.of.n4 (by decide)) S.a0.of.h9 d []).2) c2 (same []))noncomputable def C6:S->SL
 |.tryS b _=>b
 |_=>.nil
def FC(l:List Int)(fs:List Fd)(v2 v3 v4 v5 v6:V):Fm:=IA (.d (.list (l.map .int))) (.d (.tuple (fs.map ao))) v2 v3 v4 v5 v6 .un .un .un
def LF(ws:List Str)(cf:Nat->List V->ac->Res V)(Ud:SL)(K:Fm):Prop:=(∃v,Rd ws v/\execs prog.G cf Ud K []=.ok (.ret (.d v)) [])\/X2 λk ds=>kI cf [{ k:=0,h:=.none }] k ds []=.ok (.ret (.d .none)) []/\execs prog.G cf Ud K []=.ok (.exc k ds) []theorem yG(L:List Str)(x:Str)(U:ac):bC .notIn (aA x) (al (L.map .str)) U=some (!decide (x∈L)):=by show (bC .isIn (aA x) (al (L.map .str)) U).map _=_;rw[eR];rfl
theorem EU{W:List Str}(nd:W.Nodup)(h:N.length < W.length):X2 λx T=>W.filter (λw=>!decide (w∈N))=x::T/\x∉N:=by
 cases e:W.filter (λw=>!decide (w∈N)) with
 |nil=>refine absurd (nd.length_le_of_subset λx hx=>?_) (Nat.not_le.mpr h);have:=RC.mp e x hx;rw[QB,decide_eq_false_iff_not]at this;exact Classical.byContradiction this
 |cons x T=>have:=(QO.mp (e▸PF ..)).2;rw[QB,decide_eq_false_iff_not]at this;exact⟨x,T,rfl,this⟩theorem G3(l:List Int)(fs:List Fd)(W:List Str)(v2 v3:V)(cf:Nat->List V->ac->Res V)(hw:cf 27 [ak (bG l 3),ak 24] []=.ok (al (W.map .str)) [])(hc:cf 25 [al (l.map .int),ak 3] []=.ok (ak (bG l 3)) []):af prog.G cf (.comp false (.var 8) (.seq (.call 27 (.cons (.call 25 (.cons (.var 0) (.cons (.int 3) .nil))) (.cons (.int 24) .nil)))) (.cons (.cmp .notIn (.var 8) (.comp false (.var 9) (.seq (.var 1)) .nil (.idx (.var 9) (.int 0)))) .nil) (.var 8)) (FC l fs v2 v3 .un .un .un) []=.ok (al ((W.filter λw=>!decide (w∈bK fs)).map .str)) []:=by refine fi PyData.str PyData.str (λw=>!decide (w∈bK fs)) (ps:=W) (base:=W.map .str) (aZ (aM (d0 (aM rfl hc) (iB rfl)) hw) rfl) (λp hp=>?_) (λp hp _=>rfl);have m:=lT (G:=prog.G) (cf:=cf) (i:=9) (it:=.seq (.var 1)) (e:=.idx (.var 9) (.int 0)) (K:=(FC l fs v2 v3 .un .un .un).set 8 (aA p)) (U:=[Cell.busy]) (aa:=[Cell.busy]) (base:=fs.map ao) ao (λf=>.str f.nm) (ps:=fs) (aZ rfl rfl) λf _=>rfl;rw[qX]at m;exact cq rfl m (yG ..)
theorem Aj(S:Str0 ws fs j n f g pre z c o fn ts)(d:Nat):(∃v,Rd ws v/\pc (d+41) 24 [ah (fs.map ao),.d (pD (aJ j pre z))] [] (.d v))\/X2 λx y=>pc (d+41) 24 [ah (fs.map ao),.d (pD (aJ j pre z))] [] (.exc 6 [x,y]):=by
 rcases r0 S.a0 d [] with⟨a,b,_,e⟩|⟨_,e⟩
 . exact .inr ⟨_,_,e⟩
 . obtain⟨P,j',f',c',m,fo,C,ep⟩:=GT S;exact .inl ⟨_,.inr ⟨P,j',f',pre,z,c',m,o,fn,ts,_,fo,C,rfl⟩,ep▸e⟩
theorem Bx(h:Fst ws fs)(D:Dr ws (fs.map f8) fs j f pre z c m)(ho:∀y,o=some y->y∈ws)(hw:∀y∈L,y∈ws)(h7:L.length<=7)(hx:x∉bK fs):Str0 ws (Ce L fs j f pre z c m o x) (j+1) j (j1 L o x pre z m f) (wN L o x (gA z m c)) pre z (cE m (.cons (xE o x L) .nil) z c []) o x (L.map Tm.name):=by
 have hl:=(Pz.mp D.hj).1;refine⟨FF h.all D ho hw h7 hx,h.w7,?_,λq hq=>?_,ho,RN _⟩
 . rw[jR hl];have ef:fs.take j++f::fs.drop (j+1)=fs:=by have:=QJ j fs;rw[QT hl,(Pz.mp D.hj).2]at this;exact this
   have e1:bK (fs.take j++(wN L o x (gA z m c)::j1 L o x pre z m f::fs.drop (j+1)))=bK (fs.take j)++x::bK (f::fs.drop (j+1)):=by unfold bK;rw[PP];rfl
   have e2:bK (fs.take j)++bK (f::fs.drop (j+1))=bK fs:=by rw[<- ef];unfold bK;rw[PP,ef]
   exact e1▸(List.perm_middle.nodup_iff.mpr (QW.mpr ⟨λw=>hx (e2▸w),e2▸h.nd⟩))
 . obtain⟨p1,p2,p3⟩:=p6 (ws:=ws) (cs:=fs.map f8) D.hp;have bf:=h.hb f (PC D.hj);rw[jR hl]at hq;have old:∀q∈fs,hL q.rs<=9/\nL q.rs<=401:=λq hq=>⟨(h.hb q hq).1,iv (h.hb q hq).2 (by decide)⟩;replace hq:=PQ.mp hq;rcases hq with hq|hq
   . exact old q (P8 hq)
   . rcases PM.mp hq with rfl|hq
     . exact⟨iv (Jd z m c) (iv p2 bf.1),iv (iv (Jc z m c) (iv p3 bf.2)) (by decide)⟩
     . rcases PM.mp hq with rfl|hq
       . obtain⟨w1,w2,w3⟩:=jc (ws:=ws) (cs:=fs.map f8) m (news:=.cons (xE o x L) .nil) z D.hp;exact⟨iv w2 bf.1,iv (PU _ _) (iv (Qk w3) (PJ bf.2 1))⟩
       . exact old q (QF hq)
theorem Mr(h:Fst ws fs)(l:List Int)(hM:∀p∈M,p∈qN 0 fs/\t9 p.2=true)(h0:0 < M.length)(h1:bG l 0 % 3=1)(d:Nat):LF ws (aj prog (d+41)) (C6 (B2 (bP 2 cX))) (FC l fs (al (M.map aR)) .un .un .un .un):=by
 obtain⟨hl,p,hp,ip⟩:=lr aR h0 (bG l 1);obtain⟨h2,h3⟩:=hM p hp;obtain⟨j,f,pre,z,c,hj,pl,pt,hz⟩:=qM h2;obtain⟨q,r⟩:=p;clear h2 hM hp;subst pl;cases r with
 |set _ _=>injection h3
 |tell _=>injection h3
 |whn _ _=>injection h3
 |aga _ _=>injection h3
 |call o fn ts=>
   obtain⟨g,S⟩:=h.str hj pt hz;have c0:=bY (d+40) l 0 [];have c1:=bY (d+40) l 1 [];have nn:=iA (M.map aR) [];have he:(M.map aR).isEmpty=false:=by rw[QY];clear hl nn ip;cases M with
     |nil=>cases h0
     |cons _ _=>rfl
   rw[he]at nn;have R:=ch prog.G (aj prog (d+41)) (C6 (B2 (bP 2 cX))) (FC l fs (al (M.map aR)) .un .un .un .un) [];rcases Aj S d with⟨v,hv,e⟩|⟨x,y,e⟩
   . exact .inl ⟨v,hv,(R 408 c0 (dT h1) nn c1 (ee _ _ hl) (ip []) e)⟩
   . exact .inr ⟨6,[x,y],rfl,(R 408 c0 (dT h1) nn c1 (ee _ _ hl) (ip []) e)⟩
theorem Mq(h:Fst ws fs)(l:List Int)(hb:(decide (bG l 0 % 3=1)&&!M.isEmpty)=false)(d:Nat):LF ws (aj prog (d+41)) (C6 (B2 (bP 2 cX))) (FC l fs (al (M.map aR)) .un .un .un .un):=by
 have c1:=bY (d+40) l 1 [];have c2:=bY (d+40) l 2 [];have nn:=iA (M.map aR) [];rw[QY]at nn;have ea:=sg (fs:=fs) (λf hf=>⟨iv (h.hb f hf).1 (by decide),iv (h.hb f hf).2 (by decide)⟩) (Qt h.n8) (d+2) [];have en:=nJ ((qN 0 fs).map aR) [];rw[QY]at en;have b:=lU (G:=prog.G) (cf:=aj prog (d+41)) (e:=.cmp .eq (.bin .mod false (.call 25 (.cons (.var 0) (.cons (.int 0) .nil))) (.int 3)) (.int 1)) (e':=.cmp .ne (.var 2) (.list false .nil)) (es:=.nil) (K:=FC l fs (al (M.map aR)) .un .un .un .un) (U:=[]) (cq (jX (aM rfl (bY (d+40) l 0 [])) rfl rfl) rfl rfl) λ_=>cN (cq rfl rfl nn);have R:=ch prog.G (aj prog (d+41)) (C6 (B2 (bP 2 cX))) (FC l fs (al (M.map aR)) .un .un .un .un) [];cases hE:(qN 0 fs).isEmpty with
 |true=>rw[hE]at en;exact .inl ⟨.none,.inl rfl,(R 7 b (bF hb) ea en)⟩
 |false=>
   replace en:=hE▸en;have h0:0 < (qN 0 fs).length:=by cases e:qN 0 fs with
     |nil=>rw[e]at hE;injection hE
     |cons _ _=>exact Ru _
   obtain⟨hl,p,hp,ip⟩:=lr aR h0 (bG l 1);obtain⟨j,f,pre,z,c,hj,pl,pt,hz⟩:=qM hp;obtain⟨q,r⟩:=p;subst pl;obtain⟨W,wl,wn,eW⟩:=mP (bG l 3) 24 (by decide) 0 [];obtain⟨x,T,eT,hx⟩:=EU (N:=bK fs) wn (by unfold bK;rw[Pa,wl];exact P6 h.n8 (by decide));have cm:=G3 l fs W (al ((qN 0 fs).map aR)) (.d (pD (aJ j pre z))) (aj prog (d+41)) (eW (d+40) []) (bY (d+40) l 3 []);replace cm:=eT▸cm;have SP:Spot fs (pD (aJ j pre z)) (NA fs (j:Int) (iN pre)) (z:Int):=l6 j pre z▸kW fs (j:Int) (iN pre) (z:Int);rw[xV ((g9 fs j).trans hj),qm pt]at SP;have lf:=SP.lf (d+39) [];have zl:z < (am c).length:=by rw[<- bB];exact(Pz.mp hz).1
   have pos:0 < ((am c).length:Int) - (z:Int):=Int.sub_pos.mpr (Qp.mpr zl);obtain⟨m,hm⟩:=QS (Rv (by decide) (RZ (bG l 2) (SH pos)):0<=1+bG l 2 % (((am c).length:Int) - (z:Int)));have k0:=RZ (bG l 2) (SH pos);have k1:=SX (bG l 2) pos;have D:Dr ws (fs.map f8) fs j f pre z c m:=⟨h.w7,h.n8,hj,h.all f (PC hj),pt,by omega,by rw[bB];omega⟩
   have bm:=ee (x:=bG l 2) [] false pos;have ad:dj .add false (ak 1) (ak (bG l 2 % (((am c).length:Int) - (z:Int)))) []=.ok (ak (m:Int)) []:=by rw[<- hm];rfl
   cases hn:yT x with
   |false=>have e:=zd D (.inl hn) (d+37) [];rw[hn]at e;exact .inr ⟨2,[],rfl,(R 6759 b (bF hb) ea en c1 (ee _ _ hl) (ip []) cm c2 lf (fm ..) bm ad e)⟩
   |true=>
     rcases zA D hn hx (d+14) [] with⟨p,q,e⟩|⟨o,L,ho,hw,h7,e⟩
     . exact .inr ⟨6,[pD p,pD q],rfl,(R 6759 b (bF hb) ea en c1 (ee _ _ hl) (ip []) cm c2 lf (fm ..) bm ad e)⟩
     . rcases Aj (Bx h D ho hw h7 hx) d with⟨v,hv,e2⟩|⟨y,w,e2⟩
       . exact .inl ⟨v,hv,(R 6759 b (bF hb) ea en c1 (ee _ _ hl) (ip []) cm c2 lf (fm ..) bm ad e e2)⟩
       . exact .inr ⟨6,[y,w],rfl,(R 6759 b (bF hb) ea en c1 (ee _ _ hl) (ip []) cm c2 lf (fm ..) bm ad e e2)⟩
theorem vy(h:Fst ws fs)(l:List Int)(d:Nat):∃v,Rd ws v/\pc (d+42) 63 [al (l.map .int),ah (fs.map ao)] [] (.d v):=by
 have cm:=fi (G:=prog.G) (cf:=aj prog (d+41)) (i:=7) (it:=.seq (.call 44 (.cons (.var 1) .nil))) (c:=.cmp .eq (.idx (.idx (.var 7) (.int 1)) (.int 0)) (.str bA)) (e:=.var 7) (K:=FC l fs .un .un .un .un .un) (U:=[]) (aa:=[]) (base:=(qN 0 fs).map aR) aR aR (λp=>t9 p.2) (ps:=qN 0 fs) (aZ (aM rfl (sg (λf hf=>⟨iv (h.hb f hf).1 (by decide),iv (h.hb f hf).2 (by decide)⟩) (Qt h.n8) (d+2) [])) rfl) (λp _=>by obtain⟨q,r⟩:=p;cases r<;>rfl) λp _ _=>rfl
 have hM:∀p∈(qN 0 fs).filter (λp=>t9 p.2),p∈qN 0 fs/\t9 p.2=true:=λp hp=>QO.mp hp;generalize (qN 0 fs).filter (λp=>t9 p.2)=M at cm hM;have nn:=iA (M.map aR) [];rw[QY]at nn;have R:=aX prog 63 (d+41) [al (l.map .int),ah (fs.map ao)] [] rfl;have tr:LF ws (aj prog (d+41)) (C6 (B2 (bP 2 cX))) (FC l fs (al (M.map aR)) .un .un .un .un):=by
   by_cases hb:bG l 0 % 3=1/\0 < M.length
   . exact Mr h l hM hb.2 hb.1 d
   . refine Mq h l ?_ d;clear nn cm hM;cases M with
     |nil=>exact S9 _
     |cons _ _=>rw[decide_eq_false λq=>hb ⟨q,Ru _⟩];rfl
 have b:=lU (G:=prog.G) (cf:=aj prog (d+41)) (e:=.cmp .eq (.bin .mod false (.call 25 (.cons (.var 0) (.cons (.int 0) .nil))) (.int 3)) (.int 0)) (e':=.cmp .ne (.var 2) (.list false .nil)) (es:=.nil) (K:=FC l fs (al (M.map aR)) .un .un .un .un) (U:=[]) (cq (jX (aM rfl (bY (d+40) l 0 [])) rfl rfl) rfl rfl) λ_=>cN (cq rfl rfl nn);cases hb:(decide (bG l 0 % 3=0)&&!M.isEmpty) with
 |true=>
   have b2:=(PI.mp hb).2;have h0:0 < M.length:=by clear hM nn tr hb cm b;cases M with
     |nil=>injection b2
     |cons _ _=>exact Ru _
   obtain⟨v,hv,e⟩:=vq h l hM h0 (d+20);exact⟨v,hv,(R 3 cm b (bT hb) e (same []))⟩
 |false=>
   rcases tr with⟨v,hv,e⟩|⟨k,ds,hh,e⟩
   . exact⟨v,hv,(R 3 cm b (bF hb) (Ds e) (same []))⟩
   . exact⟨.none,.inl rfl,(R 3 cm b (bF hb) (yo e hh) (same []))⟩variable {D5:PyData}
theorem FH(h:Chg ws fs j f pre z c m o fn ts fo)(a:Int)(d:Nat):Jo fs d (rN j pre z m o fn ts a fo):=
 ⟨_,_,.call o fn ts,_,fo,rfl,Lj h.q (l6 j pre z▸kW fs (j:Int) (iN pre) (z:Int)) (m:Int) a (.call o fn ts) (λo' fn' ts' e=>by cases (e);exact⟨h.ho,h.ok⟩) fo (λg e _=>h.hf g e) d⟩def FW(l:List Int)(v1:V)(fs:List Fd)(D5:PyData)(v4 v5 v6 v7:V):Fm:=F9 (.d (.list (l.map .int))) v1 (.d (.tuple (fs.map ao))) (.d D5) v4 v5 v6 v7 .un
theorem kinds(h:(k,s)∈[(1,gu),(3,kX),(4,bA),(5,gR)])(d:Nat)(U:ac){P a b c e f:PyData}(q:pc (d+1) 54 [.d P,.d a,.d b,.d c,.d e,.d f] U (.exc k [])):pc (d+2) 58 [.d P,ah [a,b,c,e,f]] U (ah [.str s]):=by
 replace h:=PM.mp h;rcases h with h|h
 . injection h with e f;subst e;subst f;exact uo (KG d U) (λ_ h=>h) q
 rcases PM.mp h with h|h
 . injection h with e f;subst e;subst f;exact uo (KF d U) (λ_ h=>h) q
 rcases PM.mp h with h|h
 . injection h with e f;subst e;subst f;exact uo (KD d U) (λ_ h=>h) q
 cases PL.mp h;exact uo (KC d U) (λ_ h=>h) (q)theorem LN{x:PyData}{b b':Bool}(h1:AL d x y b)(h2:AL d x y b'):b=b':=by have h:=(h1 []).symm.trans (h2 []);injection h with h;injection h with h;injection h
theorem tail(q0:okQ 18 810 ws fs)(l:List Int)(v1:V)(hA:Jo fs 100 D5):execs prog.G (aj prog 144) (bP 4 xU) (FW l v1 fs D5 .un .un .un .un) []=.ok (.ret (.d (.bool true))) []:=by
 obtain⟨x,m,r,a,fo,rfl,D,v,hE,e1,e2⟩:=hA;have R:=ch prog.G (aj prog 144) (bP 4 xU) (FW l v1 fs (.tuple [x,.int m,aI r,.int a,I9 fo]) .un .un .un .un) [];have cm:=λ{B:Type} (T:PyData) (φ:B->PyData) (b:B->Bool) (ps:List B) (H:∀p∈ps,AL 144 T (φ p) (b p))=>fi (G:=prog.G) (cf:=aj prog 144) (i:=8) (it:=.seq (.var 4)) (c:=.call 57 (.cons (.var 5) (.cons (.var 8) .nil))) (e:=.var 8) (K:=FW l v1 fs (.tuple [x,.int m,aI r,.int a,I9 fo]) (al (ps.map φ)) (.d T) .un .un) (U:=[]) (aa:=[]) (base:=ps.map φ) φ φ b (ps:=ps) (aZ rfl rfl) (λp hp=>aM rfl (H p hp _)) λp _ _=>rfl;cases hE with
 |kind k s hk=>
   have t:=kinds hk 142 [] e2;have c1:=cm (B:=PyData) (.tuple [.str s]) (λp=>p) (λ_=>true) [.tuple [.str s]] (λp hp=>by rw[PL.mp hp];exact kg (n:=0) (l:=[.str s]) (P5 rfl) (sG (dB _ _) GE) 142)
   exact(R 0 e1 t c1)
 |clash Ls p q hm hl=>
   obtain⟨g,hg⟩:=Classical.axiomOfChoice (r:=λ(y:List Nat×List Nat) (b:Bool)=>y∈Ls->AL 144 (Ii (p,q)) (Ii y) b) λy=>by
     by_cases hy:y∈Ls
     . obtain⟨b,hb⟩:=FQ p q y.1 y.2 (iv (hl y hy).1 (by decide)) (iv (hl y hy).2 (by decide)) 141;exact⟨b,λ_=>hb⟩
     . exact⟨true,λh=>absurd h hy⟩
   have c1:=cm (Ii (p,q)) Ii g Ls λy hy=>hg y hy;have nn:=iA ((Ls.filter g).map Ii) [];have he:((Ls.filter g).map Ii).isEmpty=false:=by rw[QY,Ta];exact List.ne_nil_of_mem (QO.mpr ⟨hm,(LN (hg (p,q) hm) (BC (n:=1) (dB 1 eG) (Dq p (iv (hl _ hm).1 (by decide))) (Dq q (iv (hl _ hm).2 (by decide))) 141))⟩)
   replace nn:=he▸nn;clear hl he hg;cases Ls with
   |nil=>cases hm
   |cons l0 Ls=>exact(R 16 e1 (JE e2) c1 nn)
 |good A y u v h0 sa sx sr hp=>
   have s2:=Aa q0 (by decide) (by decide) 63 [];have s3:=BC sx (uA 79 m) sr 63 [];cases A with
   |nil=>cases h0
   |cons q A=>exact(R 2 e1 (Gr e2) (bE (fs:=q::A) (j:=0) (f:=q) rfl []) (sa 63 []) hp s2 s3)
theorem result(l:List Int):∃σ',aj prog 145 66 [al (l.map .int)] []=.ok (.d (.bool true)) σ':=by
 obtain⟨ws,fs0,⟨w7,ne,n8,ok,nd⟩,ep⟩:=vv l 5 127 [];obtain⟨v,hv,ev⟩:=vy ⟨w7,ne,n8,ok,nd⟩ l 102;have c0:=bY 143 l 0 [];refine⟨[],?_⟩;rcases hv with rfl|⟨P,j,f,pre,z,c,m,o,fn,ts,a,fo,C,rfl⟩
 . exact(aX prog 66 144 [al (l.map .int)] [] rfl 0 ep ev (same []))
 . have fr:∃D5,Jo P 100 D5/\execs prog.G (aj prog 144) (fT 4 xU) (F9 (al (l.map .int)) .un .un .un .un .un .un .un .un) []=.ok (.next (FW l (ah [.tuple (P.map ao),rN j pre z m o fn ts a fo]) P D5 .un .un .un .un)) []:=by
     have R:=ch prog.G (aj prog 144) (fT 4 xU) (F9 (al (l.map .int)) .un .un .un .un .un .un .un .un) [];by_cases h3:bG l 0 / 3 % 2=1
     . obtain⟨D5,hA,eb⟩:=Co C a (bG l 4) 100 143;exact⟨D5,hA,(R 32 ep ev c0 (dT h3) (bY 143 l 4 []) eb)⟩
     . exact⟨_,FH C a 100,(R 32 ep ev c0 (dF h3))⟩
   obtain⟨D5,hA,ef⟩:=fr;exact cI (fn:=f_law) rfl rfl (dW 4 ef (tail C.q l _ hA))
end L11
end
end Mine.Internal
set_option tactic.hygienic true
open PySem PySem.W PyProof.Rows
namespace Mine.Internal.L11
set_option maxRecDepth 99999
theorem fF{B:Type}{f:B->Bool}{l:List B}(n:Nat)(h1:(l.take n).all f=true)(h2:(l.drop n).all f=true):l.all f=true:=by rw[<- List.take_append_drop n l,List.all_append,h1,h2];(rfl)noncomputable def ck(fn:Fn):Bool:=lD (recsOf q11) prog.P gnames fn
theorem Ow:((y0.take 8).all ck)=true:=by decide +kernel
theorem Ov:(((y0.drop 8).take 8).all ck)=true:=by decide +kernel
theorem Ou:((((y0.drop 8).drop 8).take 8).all ck)=true:=by decide +kernel
theorem Ot:(((((y0.drop 8).drop 8).drop 8).take 8).all ck)=true:=by decide +kernel
theorem Os:((((((y0.drop 8).drop 8).drop 8).drop 8).take 8).all ck)=true:=by decide +kernel
theorem Oq:(((((((y0.drop 8).drop 8).drop 8).drop 8).drop 8).take 8).all ck)=true:=by decide +kernel
theorem Oo:((((((((y0.drop 8).drop 8).drop 8).drop 8).drop 8).drop 8).take 8).all ck)=true:=by decide +kernel
theorem On:((((((((y0.drop 8).drop 8).drop 8).drop 8).drop 8).drop 8).drop 8).all ck)=true:=by decide +kernel
theorem chk:(y0.all λfn=>lD (recsOf q11) prog.P gnames fn)=true:=fF (f:=ck) 8 Ow (fF 8 Ov (fF 8 Ou (fF 8 Ot (fF 8 Os (fF 8 Oq (fF 8 Oo On))))))theorem kchk:(y0.all λfn=>!decide (fn.name=("_law_kind":Str))||lD (recsOf q11) (λ_=>none) gnames fn)=true:=by decide +kernel
theorem frees:tW (namesW q11 [])=true:=by decide +kernel
theorem vefree:(!(namesW q11 []).contains ("ValueError":Str)&&!PySem.bootMainNames.contains "ValueError")=true:=by decide +kernel
theorem globs_ok:∀k x,prog.G k=some x->(gnames k,x)∈scalarsOf []++constsW q11/\xn x=true:=by
 intro k x h;have e:constsW q11=[(Str.ofString "LONGEST",.int 8),(Str.ofString "LETTERS",.str az)]:=by kernel_rfl
 match k,h with
 |1,h=>injection h with e;subst e;exact⟨List.mem_append_right _ (by rw[e];exact List.mem_cons_of_mem _ (List.mem_cons_self ..)),by decide +kernel⟩
 |2,h=>injection h with e;subst e;exact⟨List.mem_append_right _ (by rw[e];exact List.mem_cons_self ..),by decide +kernel⟩
end Mine.Internal.L11
set_option maxRecDepth 99999 in
set_option maxHeartbeats 8000000 in
theorem PySem.Challenge.cw_uf010014_11_holds : PySem.Challenge.rw_uf010014_11.Holds := by
 refine holds_law Mine.Internal.said11 λsaid=>?_;refine holds_open (q:=Mine.Internal.q11) (loose:=[]) (Xt:=Mine.Internal.xt11) (XP:=λmg h=>XL Mine.Internal.q11 [] mg h/\Mine.Internal.XF mg h) (Yf:=Hook.obs Hook.none) (Ya:=Hook.val Hook.none) (YP:=Hook.says Hook.none) (N:=6000) Mine.Internal.left11 (Hook.of Hook.none) (Hook.keeps Hook.none)
   (λs e=>⟨xl_of s (Bool.and_eq_true_iff.mp (Bool.and_eq_true_iff.mp e).1).1,Mine.Internal.xf_of (Bool.and_eq_true_iff.mp e).2⟩) (λmg h h' x hk=>⟨XL.keeps mg h h' x.1 hk,x.2.keeps hk⟩) (by rfl) (by rfl) (by rfl) (λs e=>recFacts_of (Bool.and_eq_true_iff.mp (Bool.and_eq_true_iff.mp e).1).2) (by rfl) said (by decide +kernel) ⟨rfl,rfl,rfl,rfl,rfl,by decide +kernel⟩ ?hw ?hc
 case hw=>w_witness2
 case hc=>
   intro w dn ai mg mb G Ub fa o pm cd doc dV kV ho hd hcd hD hmg hg args vals as hpre hlay hrd hwl hlo;have V:=(Ground.X G).1.2;have XX:=(Ground.X G).2;have GL:=glob_more (Ground.glob G (by decide +kernel) (by decide +kernel)) V;refine Ground.open G ?_;intro T Ud D TE TW;have TA:=at_of_top T;have hmg':mg Mine.Internal.L11.f_law.name=some (Value.ref fa):=by rw[(by decide +kernel:Mine.Internal.L11.f_law.name=Str.ofString "law")];exact hmg
   have hos:=hg;clear hmg;refine Mine.Internal.kk λUc kx=>?_
   wrow_args hpre hlay hrd hwl hlo
   rename_i l _ _ _ _ _ _ _ _ _ _ _ _ hw _ _ _ hlen _;obtain⟨σ',hrun⟩:=Mine.Internal.L11.result l;refine kx ?_;refine Mine.Internal.run_law (p:=Mine.Internal.L11.prog) (gn:=Mine.Internal.gnames) (i:=66) (fn:=Mine.Internal.L11.f_law) (Mine.Internal.static_of GL TA Mine.Internal.L11.chk rfl Mine.Internal.L11.frees (Mine.Internal.globs_of GL Mine.Internal.L11.globs_ok) Mine.Internal.L11.kchk (Mine.Internal.xok_of GL Mine.Internal.L11.vefree XX)) rfl hmg' hw (by unfold Mine.Internal.LIM;omega) (by omega) hrun λs' hk ho hgn=>?_;exact GoodW.toG ⟨.inl ⟨_,.bool true,[],rfl,λ_=>rfl,.bool true,postW_of (X:=true) (by with_unfolding_all rfl) (by with_unfolding_all rfl) rfl,λh=>⟨.nil,λa ha=>by cases ha⟩⟩,hk,ho,hgn.trans hos⟩
