import PyProof.Rows.All
import Wide.FinOn
import KE.KEqDict
import KE.KDictList
import KE.KDictOf
import PySem.Challenge.RW_uf010014_11
set_option Elab.async false
set_option linter.all false
set_option bootstrap.genMatcherCode false
set_option genSizeOf false
set_option genInjectivity false
set_option genCtorIdx false
set_option tactic.hygienic false
namespace Mine.Internal
noncomputable section
open Nat renaming le_trans→iv,add_le_add_right→PL,succ_le_succ→PP,zero_le→PU,le_add_right→PW,le_of_ble_eq_true→P7,lt_of_le_of_lt→P8,le_add_left→P9,le_refl→Qb,add_le_add→Qd,le_of_lt→Qg,add_le_add_left→Qh,le_of_eq→Qm,min_eq_left→Qo,add_assoc→Qq,lt_of_lt_of_le→Qt,le_succ_of_le→Qv,add_comm→Qw,max_le→QE,le_of_not_lt→QF,ne_of_lt→QG,le_of_add_right_le→QO,add_right_comm→QR,add_sub_cancel'→QZ,le_of_succ_le→Q1,mul_le_mul_left→Q6,zero_add→Rk,le_max_right→Rq,mul_le_mul_right→Rs,lt_irrefl→Rt,add_sub_cancel_left→Rv,succ_pos→Rx,le_antisymm→RB,le_max_left→RC,le_of_succ_le_succ→RF,min_le_right→RO,lt_succ_self→RP,lt_of_succ_lt_succ→RX,le_of_lt_succ→R8,le_succ→Sl,ne_of_gt→Sm,lt_succ_of_le→SH,pow_le_pow_right→SN,not_lt→SQ,le_of_add_le_add_right→SY,lt_or_ge→S3,lt_of_le_of_ne→S4,succ_mul→S6,sub_self→S7,lt_one_iff→Ta,sub_le→Th,exists_eq_add_of_lt→Tl,succ_ne_zero→To,min_eq_right→Tp,le_of_sub_eq_zero→Tx,lt_trans→TB,sub_eq_zero_of_le→TH,mul_le_mul→TP,mul_one→TS,le_total→TZ,min_self→T0
open PySem renaming wpAny_bind→OL,wpAny_pure→PJ,wpAny_mono→PQ,wpAny_loadPart_at→P2,wpAny_newObj_type→Qp,wpAny_standAt→QA,wpAny_isSubtype_exc→QM,wpAny_holding→QT
open List renaming length_map→Pd,getElem?_eq_some_iff→PB,length_append→PC,getElem?_eq_getElem→PD,mem_of_getElem?→PF,mem_cons_of_mem→PG,mem_cons_self→PH,mem_singleton→PN,mem_cons→PO,map_append→PR,mem_append→PT,append_assoc→PV,getElem?_append_right→PY,length_cons→PZ,getElem?_append_left→P3,lookup_cons→P4,append_nil→P6,mem_of_mem_take→Qa,getElem?_map→Qe,mem_map→Qk,length_take→Qn,map_cons→Qs,map_map→Qx,length_drop→Qy,mem_map_of_mem→QB,mem_of_mem_drop→QH,not_mem_nil→QI,mem_append_right→QJ,contains_cons→QK,take_append_drop→QL,all_eq_true→QP,mem_filter→QQ,length_singleton→QS,drop_eq_getElem_cons→QV,nodup_cons→QY,isEmpty_map→Q0,getElem?_of_mem→Q2,mem_append_left→Q3,getElem?_take_of_lt→Q7,length_nil→Q8,map_take→Q9,length_range→Rc,mem_range→Rf,map_drop→Rg,getElem?_eq_none→Rh,length_filter_le→Rj,getElem?_take→Rm,idxOf_lt_length_iff→Rn,eq_nil_of_length_eq_zero→Ro,getElem_mem→Rp,mem_flatMap→Rr,filterMap_cons→Rz,map_congr_left→RA,take_of_length_le→RD,filter_eq_nil_iff→RE,map_nil→RG,nodup_append→RH,flatMap_cons→RJ,any_cons→RM,isEmpty_iff→RQ,take_append_of_le_length→RR,filterMap_eq_map'→RV,pairwise_cons→RY,map_singleton→RZ,getElem?_drop→R3,sum_append→R6,take_sublist→R7,range_eq_range'→Sg,any_eq_true→Si,drop_length→Sk,length_set→Sr,mem_replicate→Ss,filter_cons_of_pos→Sv,ext_getElem?→SG,nodup_nil→SI,length_replicate→SK,replicate_succ→SS,nil_append→SX,length_range'→S8,getElem_idxOf→S9,isEmpty_eq_false_iff→Tc,getElem?_inj→Td,drop_sublist→Te,size_toArray→Tf,range'_eq_map_range→Ti,pairwise_singleton→Tj,filter_cons_of_neg→Tk,getElem?_cons_succ→Tn,range'_succ→Tq,filter_cons→Tr,range_succ_eq_map→Ts,drop_eq_nil_of_le→Tt,foldl_cons→Tu,any_map→Tv,getElem?_toArray→Tw,of_mem_zip→TD,take_eq_take_iff→TF,take_left'→TG,set_append_right→TI,singleton_append→TJ,getElem?_mapIdx→TL,contains_eq_mem→TM,length_take_le'→TN,idxOf_cons_self→TO
open PySem.Heap renaming get?_push_of_some→PI,get?_push_size→PX,lt_size→Qz,get?_update_self→QW,get?_update_other→Q4,size_push→RS,get?_none_of_le→SM
open Bool renaming and_eq_true_iff→PK,false_ne_true→P0,and_eq_true→P5,or_eq_true_iff→Qc,not_eq_true'→QD,noConfusion→Q5,or_false→Ru,true_and→RN,false_and→RU,or_eq_false_iff→Se,or_true→Sq,not_true→Sy,false_or→SO,false_eq_true→S1,and_false→Tb
open Option renaming bind_eq_some_iff→PM,isSome_iff_exists→Qj,map_eq_some_iff→Ql,isNone_iff_eq_none→QC,map_some→Sz,some_ne_none→SR,noConfusion→TU
open Array renaming length_toList→P1,getElem?_eq_some_iff→Ra,getElem?_eq_none→RW,getElem?_eq_getElem→Sh,toList_push→Tg,size_eq_one_iff→Tz,mem_toList_iff→TK,toList_append→TQ
open Int renaming natCast_nonneg→Qi,ofNat_lt→Qr,toNat_natCast→Qu,le_trans→QN,eq_ofNat_of_zero_le→QU,ofNat_le→QX,toNat_of_nonneg→Re,toNat_le→Ri,add_nonneg→Ry,not_lt→RI,natCast_add→RK,emod_nonneg→R4,le_of_lt→R5,le_add_of_nonneg_right→R9,max_eq_right→Sj,toNat_lt→Sp,lt_of_lt_of_le→Su,add_sub_cancel→SD,ofNat_inj→SE,ne_of_gt→SJ,min_eq_left→SU,add_le_add_left→SW,emod_lt_of_pos→SZ,add_comm→S5,not_le→TV,sub_zero→TX,zero_add→TY
open PyProof.Rows renaming callWith_type→Rb,slot_tuple_getitem→SF,slicePart_none→SV
open PySem
noncomputable def KA:Nat->Addr
 |0=>24
 |1=>37
 |2=>49
 |3=>61
 |4=>73
 |5=>85
 |_=>104
noncomputable def j6:Str:=⟨#[111,110,101]⟩noncomputable def dG:Str:=⟨#[111,116,104,101,114]⟩
inductive V where
 |un
 |d (x:PyData)
 |loc (n:Nat)
 |exc (k:Nat) (ds:List PyData)noncomputable def V.ctorIdx(t:V):Nat:=by cases (t);exact 0;exact 1;exact 2;exact 3
inductive Cell where
 |lst (l:List PyData)
 |dct (l:List (Str×PyData))
 |gone
 |busy
noncomputable def Cell.ctorIdx(t:Cell):Nat:=by cases (t);exact 0;exact 1;exact 2;exact 3
abbrev ac:=List (Cell)abbrev Fm:=List (V)noncomputable abbrev ak(i:Int):V:=.d (.int i)noncomputable abbrev aA(x:Str):V:=.d (.str x)noncomputable abbrev ah(l:List PyData):V:=.d (.tuple l)noncomputable abbrev al(l:List PyData):V:=.d (.list l)
inductive Res(B:Type) where
 |ok (a:B) (U:ac)
 |bad
noncomputable def Res.ctorIdx{B:Type}(t:Res B):Nat:=by cases (t);exact 0;exact 1
abbrev VP:=Value->Shared->Prop
abbrev CF:=Nat->List V->ac->Res (V)abbrev KS:=List (Str×NameKind)abbrev SC:=List (Str×Nat)abbrev GD:=Nat->Option (PyData)noncomputable def Res.bind{B Y:Type}:Res B->(B->ac->Res Y)->Res Y
 |.ok a U,f=>f a U
 |.bad,_=>.bad
noncomputable def bv{B:Type}(o:Option B)(U:ac):Res B:=match o with
 |some a=>.ok a U
 |none=>.bad
inductive BOp where|add|sub|mul|fdiv|mod|pow(u:Unit)noncomputable def BOp.ctorIdx(t:BOp):Nat:=by cases (t);exact 0;exact 1;exact 2;exact 3;exact 4;exact 5
inductive COp where|eq|ne|lt|le|gt|ge(u:Unit) | isN|isNotN|isIn|notIn
noncomputable def COp.ctorIdx(t:COp):Nat:=by cases (t);exact 0;exact 1;exact 2;exact 3;exact 4;exact 5;exact 6;exact 7;exact 8;exact 9
inductive Ty where|list|int|bool|str|tuple(u:Unit)noncomputable def Ty.ctorIdx(t:Ty):Nat:=by cases (t);exact 0;exact 1;exact 2;exact 3;exact 4
inductive Bi where|len|list|int|max|tuple|sortedSet|any|all|isinst(t:Ty)noncomputable def Bi.ctorIdx(t:Bi):Nat:=by cases (t);exact 0;exact 1;exact 2;exact 3;exact 4;exact 5;exact 6;exact 7;exact 8
inductive Me where|append|extend|update|pop|count|index|nop(u:Unit)noncomputable def Me.ctorIdx(t:Me):Nat:=by cases (t);exact 0;exact 1;exact 2;exact 3;exact 4;exact 5;exact 6
inductive Tgt where
 |var (i:Nat)
 |tup (l:List Nat)noncomputable def Tgt.ctorIdx(t:Tgt):Nat:=by cases (t);exact 0;exact 1
mutual
inductive E where
 |none
 |bool (b:Bool)
 |int (i:Int)
 |str (s:Str)
 |var (i:Nat)
 |glob (g:Nat)
 |bin (op:BOp) (m:Bool) (a b:E)
 |neg (a:E)
 |not (a:E)
 |bop (isAnd:Bool) (es:EL)
 |cmp (op:COp) (a b:E)
 |cmp2 (bD fW:COp) (a b c:E)
 |ite (c a b:E)
 |tup (es:EL)
 |list (m:Bool) (es:EL)
 |dict0
 |idx (a i:E)
 |slc (m:Bool) (a:E) (lo hi:EL)
 |comp (m:Bool) (t:Tgt) (it:It) (c:EL) (e:E)
 |call (f:Nat) (es:EL)
 |bi (b:Bi) (m:Bool) (es:EL)
 |meth (b:Me) (o:E) (es:EL)
 |freeze (e:E)
 |isx (k:Nat) (e:E)
inductive EL where
 |nil
 |cons (e:E) (es:EL)
inductive It where
 |seq (e:E)
 |range (e:E)
 |range2 (a b:E)
 |enum (e:E)
end
noncomputable def E.ctorIdx(t:E):Nat:=by cases (t);exact 0;exact 1;exact 2;exact 3;exact 4;exact 5;exact 6;exact 7;exact 8;exact 9;exact 10;exact 11;exact 12;exact 13;exact 14;exact 15;exact 16;exact 17;exact 18;exact 19;exact 20;exact 21;exact 22;exact 23
noncomputable def EL.ctorIdx(t:EL):Nat:=by cases (t);exact 0;exact 1
noncomputable def It.ctorIdx(t:It):Nat:=by cases (t);exact 0;exact 1;exact 2;exact 3
inductive RT where
 |drop
 |var (i:Nat)
 |ret
 |retL
noncomputable def RT.ctorIdx(t:RT):Nat:=by cases (t);exact 0;exact 1;exact 2;exact 3
abbrev Hk:=Option (Nat×Nat×Bool)abbrev Hd:=Nat×Hk
mutual
inductive S where
 |expr (e:E)
 |asg (t:Tgt) (e:E)
 |asgT (l:List Nat) (e:E)
 |put (o i e:E)
 |ite (c:E) (a b:SL)
 |forr (t:Tgt) (it:It) (b:SL)
 |ret (e:E)
 |pass
 |stop
 |calls (t:RT) (f:Nat) (es:EL)
 |raise (k:Nat) (es:EL)
 |tryS (b:SL) (hs:List Hd)
 |iteC (f:Nat) (es:EL) (i x:E) (b:SL)
inductive SL where
 |nil
 |cons (s:S) (r:SL)
end
noncomputable def S.ctorIdx(t:S):Nat:=by cases (t);exact 0;exact 1;exact 2;exact 3;exact 4;exact 5;exact 6;exact 7;exact 8;exact 9;exact 10;exact 11;exact 12
noncomputable def SL.ctorIdx(t:SL):Nat:=by cases (t);exact 0;exact 1
noncomputable def jq(n:Nat)(i:Int):Nat:=(max 0 (min (if i < 0 then i+n else i) n)).toNat
def aC{B:Type}(l:List B)(lo hi:Option Int):List B:=
 (l.drop ((lo.map (jq l.length)).getD 0)).take ((hi.map (jq l.length)).getD l.length - (lo.map (jq l.length)).getD 0)noncomputable def index(n:Nat)(i:Int):Option Nat:=if 0<=i then (if i < n then some i.toNat else none) else (if 0<=i+n then some (i+n).toNat else none)noncomputable def aG(x:Str):List Nat:=(x.cps.toList)noncomputable def aD(l:List Nat):Str:=⟨l.toArray⟩noncomputable def LIM:Nat:=1000000
noncomputable def oc{B γ:Type}(o:Option B)(f:B->γ)(z:γ):γ:=match o with
 |some a=>f a
 |none=>(z)def b2{B Y γ:Type}(o:Option B)(p:Option Y)(f:B->Y->γ)(z:γ):γ:=oc o (λa=>oc p (λb=>f a b) z) (z)variable {B γ:Type}
theorem jj(o:Option B)(f:B->γ)(z:γ):(∃a,o=some a/\oc o f z=f a)\/oc o f z=z:=by
 cases o with
 |none=>exact .inr rfl
 |some a=>exact .inl ⟨a,rfl,rfl⟩
theorem nY{Y:Type}(o:Option B)(p:Option Y)(f:B->Y->γ)(z:γ):(∃a b,o=some a/\p=some b/\b2 o p f z=f a b)\/b2 o p f z=z:=by
 cases o with
 |none=>exact .inr rfl
 |some a=>cases p with
   |none=>exact .inr rfl
   |some b=>exact .inl ⟨a,b,rfl,rfl,rfl⟩noncomputable def bN:V->Option PyData
 |.d x=>some x
 |_=>(none)noncomputable def B3:PyData->Option Int
 |.int i=>some i
 |_=>(none)noncomputable def Dj:PyData->Option Str
 |.str i=>some i
 |_=>(none)noncomputable def Jh:PyData->Option Bool
 |.bool i=>some i
 |_=>(none)noncomputable def C7:PyData->Option (List PyData)
 |.tuple i=>some i
 |_=>(none)def cH(v:V):Option Int:=(bN v).bind (B3)def j4(v:V):Option Str:=(bN v).bind (Dj)def xR(v:V):Option Bool:=(bN v).bind (Jh)def jy(v:V):Option (List PyData):=(bN v).bind (C7)theorem b9{v:V}{x:PyData}(h:bN v=some x):v=.d x:=by cases v<;>first | ((injection h with e;subst e);rfl) | injection h
variable {v:PyData}theorem va{x:Int}(h:B3 v=some x):v=.int x:=by cases v<;>first | ((injection h with e;subst e);rfl) | injection h
theorem pY{x:Str}(h:Dj v=some x):v=.str x:=by cases v<;>first | ((injection h with e;subst e);rfl) | injection h
theorem FA{x:Bool}(h:Jh v=some x):v=.bool x:=by cases v<;>first | ((injection h with e;subst e);rfl) | injection h
variable {x:List PyData}theorem uq(h:C7 v=some x):v=.tuple x:=by cases v<;>first | ((injection h with e;subst e);rfl) | injection h
theorem c6{v:V}{x:Int}(h:cH v=some x):v=.d (.int x):=by obtain⟨y,h1,h2⟩:=PM.mp h;rw[b9 h1,va h2]theorem eA{v:V}{x:Str}(h:j4 v=some x):v=.d (.str x):=by obtain⟨y,h1,h2⟩:=PM.mp h;rw[b9 h1,pY h2]theorem nQ{v:V}{x:Bool}(h:xR v=some x):v=.d (.bool x):=by obtain⟨y,h1,h2⟩:=PM.mp h;rw[b9 h1,FA h2]theorem eu{v:V}(h:jy v=some x):v=.d (.tuple x):=by obtain⟨y,h1,h2⟩:=PM.mp h;rw[b9 h1,uq h2]noncomputable def one{B:Type}:List B->Option B
 |[a]=>some a
 |_=>(none)noncomputable def two{B:Type}:List B->Option (B×B)
 |[a,b]=>some (a,b)
 |_=>(none)variable {a:B}
theorem dC{l:List B}(h:one l=some a):l=[a]:=by
 cases l with
 |nil=>injection h
 |cons x l=>cases l with
   |nil=>injection h with e;subst e;rfl
   |cons _ _=>injection h
theorem jx{l:List B}{b:B}(h:two l=some (a,b)):l=[a,b]:=by
 cases l with
 |nil=>injection h
 |cons x l=>cases l with
   |nil=>injection h
   |cons y l=>cases l with
     |nil=>injection h with e;injection e with e f;subst e;subst f;rfl
     |cons _ _=>injection h
def Kw:Cell->Option (List PyData)
 |.lst l=>some l
 |_=>(none)noncomputable def On:Cell->Option (List (Str×PyData))
 |.dct l=>some l
 |_=>(none)def jl(U:ac)(n:Nat):Option (List PyData):=U[n]?.bind (Kw)def hY(U:ac)(n:Nat):Option (List (Str×PyData)):=U[n]?.bind (On)variable {n:Nat}{U:ac}theorem ky{l:List PyData}(h:jl U n=some l):U[n]?=some (.lst l):=by obtain⟨c,h1,h2⟩:=PM.mp h;rw[h1];cases c<;>first | ((injection h2 with e;subst e);rfl) | injection h2
variable {l:List (Str×PyData)}theorem jp(h:hY U n=some l):U[n]?=some (.dct l):=by obtain⟨c,h1,h2⟩:=PM.mp h;rw[h1];cases c<;>first | ((injection h2 with e;subst e);rfl) | injection h2
theorem jk{l:List PyData}(h:U[n]?=some (.lst l)):jl U n=some l:=by unfold jl;rw[h];(rfl)theorem kN(h:U[n]?=some (.dct l)):hY U n=some l:=by unfold hY;rw[h];(rfl)noncomputable def uV:V->Option Nat
 |.loc n=>some n
 |_=>(none)theorem jK{v:V}(h:uV v=some n):v=.loc n:=by cases v<;>first | ((injection h with e;subst e);rfl) | injection h
noncomputable def tJ:V->Option Unit
 |.d .none=>some ()
 |_=>(none)variable {u:Unit}
set_option tactic.hygienic true in
theorem qW{v:V}(h:tJ v=some u):v=.d .none:=by
 cases v
 case d x=>cases x<;>first|rfl|injection h
 all_goals injection h
noncomputable def Kv:PyData->Option (List PyData)
 |.list i=>some i
 |_=>(none)theorem Hh(h:Kv v=some x):v=.list x:=by cases v<;>first | ((injection h with e;subst e);rfl) | injection h
def aQ(U:ac):V->Option (List PyData)
 |.d x=>Kv x
 |.loc n=>jl U n
 |_=>(none)def iF(U:ac):V->Option (List (Str×PyData))
 |.loc n=>hY U n
 |_=>none
def bh(m:Bool)(l:List PyData)(U:ac):Res V:=
 if m then .ok (.loc U.length) (U++[.lst l]) else .ok (.d (.list l)) U
def truthy(U:ac)(x:V):Option Bool:=oc (xR x) some (oc (aQ U x) (λl=>some (!l.isEmpty)) none)noncomputable def tL(a b:Int):Bool:=decide (a.natAbs < 9223372036854775808)||decide (b.natAbs < 9223372036854775808)
def dj(op:BOp)(m:Bool)(a b:V)(U:ac):Res V:=match op with
 |.add=>b2 (cH a) (cH b) (λx y=>.ok (.d (.int (x+y))) U)
   (b2 (j4 a) (j4 b) (λx y=>if x.cps.size+y.cps.size<=LIM then .ok (.d (.str (aD (aG x++aG y)))) U else .bad)
   (b2 (jy a) (jy b) (λx y=>if x.length+y.length<=LIM then .ok (.d (.tuple (x++y))) U else .bad)
   (b2 (aQ U a) (aQ U b) (λx y=>if x.length+y.length<=LIM then bh m (x++y) U else .bad) .bad)))
 |.sub=>b2 (cH a) (cH b) (λx y=>.ok (.d (.int (x - y))) U) .bad
 |.mul=>b2 (cH a) (cH b) (λx y=>if tL x y then .ok (.d (.int (x * y))) U else .bad)
   (b2 (j4 a) (cH b) (λx n=>if 0<=n/\n<=1000/\x.cps.size<=1000 then .ok (.d (.str (aD (List.replicate n.toNat (aG x)).flatten))) U else .bad) .bad)
 |.fdiv=>b2 (cH a) (cH b) (λx y=>if 0 < y/\y < 9223372036854775808 then .ok (.d (.int (x / y))) U else .bad) .bad
 |.mod=>b2 (cH a) (cH b) (λx y=>if 0 < y then .ok (.d (.int (x % y))) U else .bad) .bad
 |.pow _=>b2 (cH a) (cH b) (λx y=>if x=10/\y=20 then .ok (.d (.int 100000000000000000000)) U else .bad) .bad
noncomputable def Nq(a b:PyData):Option Bool:=if min a.depth b.depth<=64 then some (a.eqv b) else none
def LW(a b:V):Option Bool:=b2 (bN a) (bN b) Nq (none)def Hg:List PyData->List PyData->Option Bool
 |[],[]=>some false
 |[],_::_=>some true
 |_::_,[]=>some false
 |x::xs,y::ys=>b2 (B3 x) (B3 y) (λx y=>if x=y then Hg xs ys else some (decide (x < y))) (none)noncomputable def u0:PyData->Bool
 |.none=>true
 |_=>(false)noncomputable def xa(x:PyData)(l:List PyData):Option Bool:=if min (PyData.depthAll l) x.depth<=64 then some (l.any λy=>y.eqv x) else none
def bC.inV(a b:V)(U:ac):Option Bool:=oc (bN a) (λx=>
 b2 (Dj x) (j4 b) (λx y=>if x.cps.size=1 then some ((aG y).any λc=>aG x==[c]) else none)
 (oc (jy b) (λl=>xa x l)
 (oc (aQ U b) (λl=>xa x l)
 (b2 (Dj x) (iF U b) (λk kvs=>some (kvs.lookup k).isSome) none)))) none
def bC(op:COp)(a b:V)(U:ac):Option Bool:=match op with
 |.eq=>LW a b
 |.ne=>(LW a b).map (!·)
 |.lt=>b2 (cH a) (cH b) (λx y=>some (decide (x < y))) none
 |.le=>b2 (cH a) (cH b) (λx y=>some (decide (x<=y))) none
 |.gt=>b2 (cH a) (cH b) (λx y=>some (decide (x > y))) (b2 (jy a) (jy b) (λx y=>Hg y x) none)
 |.ge _=>b2 (cH a) (cH b) (λx y=>some (decide (x≥y))) none
 |.isN=>oc (tJ b) (λ_=>oc (bN a) (λx=>some (u0 x)) none) none
 |.isNotN=>oc (tJ b) (λ_=>oc (bN a) (λx=>some (!u0 x)) none) none
 |.isIn=>bC.inV a b U
 |.notIn=>(bC.inV a b U).map (!·)
def cK(a i:V)(U:ac):Option V:=oc (cH i) (λi=>
 oc (jy a) (λl=>(index l.length i).bind λk=>(l[k]?).map V.d)
 (oc (j4 a) (λx=>(index (aG x).length i).bind λk=>((aG x)[k]?).map λc=>V.d (.str (aD [c])))
 (oc (aQ U a) (λl=>if 0<=i then (l[i.toNat]?).map V.d else none) none)))
 (b2 (j4 i) (iF U a) (λk kvs=>(kvs.lookup k).map V.d) none)noncomputable def cO:Option V->Option (Option Int)
 |none=>some none
 |some (.d (.int i))=>some (some i)
 |some _=>none
def gq(m:Bool)(a:V)(lo hi:Option V)(U:ac):Res V:=b2 (cO lo) (cO hi) (λl h=>oc (jy a) (λx=>.ok (.d (.tuple (aC x l h))) U)
 (oc (j4 a) (λx=>.ok (.d (.str (aD (aC (aG x) l h)))) U) (oc (aQ U a) (λx=>bh m (aC x l h) U) .bad))) .bad
noncomputable def eZ(k:Str)(v:PyData)(kvs:List (Str×PyData)):List (Str×PyData):=
 if kvs.any (λx=>decide (x.1=k)) then kvs.map λx=>if x.1=k then (x.1,v) else x else kvs++[(k,v)]def eH(kvs more:List (Str×PyData)):List (Str×PyData):=more.foldl (λacc x=>eZ x.1 x.2 acc) kvs
def lW(x y:Str):Bool:=decide (aG x < aG y)def iV(x:Str):List Str->List Str
 |[]=>[x]
 |y::r=>if lW y x then y::iV x r else x::y::r
def cu:List Str->List Str
 |[]=>[]
 |x::r=>iV x (cu r)noncomputable def cM:List Str->List Str
 |[]=>[]
 |x::r=>if x∈r then cM r else x::cM (r)noncomputable def iP:List PyData->Option (List Str)
 |[]=>some []
 |.str x::r=>(iP r).map (x::·)
 |_=>(none)noncomputable def c7:List PyData->Option (List Bool)
 |[]=>some []
 |.bool x::r=>(c7 r).map (x::·)
 |_=>(none)noncomputable def qu:Ty->Ty->Bool
 |.list,.list=>true
 |.int,.int=>true
 |.bool,.bool=>true
 |.str,.str=>true
 |.tuple _,.tuple _=>true
 |_,_=>(false)def Pe(t:Ty):PyData->Option Bool
 |.int _=>if qu t .list then none else some (qu t .int)
 |.str _=>if qu t .str||qu t (.tuple ()) then some (qu t .str) else none
 |.list _=>if qu t .list then some true else none
 |.tuple _=>if qu t (.tuple ())||qu t .str then some (qu t (.tuple ())) else none
 |.none=>if qu t (.tuple ())||qu t .str then some false else none
 |_=>(none)def OQ(t:Ty):V->Option Bool
 |.d x=>Pe t x
 |_=>(none)def xV(b:Bi)(m:Bool)(vs:List V)(U:ac):Res V:=match b with
 |.len=>oc (one vs) (λa=>oc (jy a) (λl=>.ok (.d (.int l.length)) U) (oc (j4 a) (λx=>.ok (.d (.int (aG x).length)) U) (oc (aQ U a) (λl=>.ok (.d (.int l.length)) U) .bad))) .bad
 |.list=>oc (one vs) (λa=>oc (jy a) (λl=>bh m l U) (oc (iF U a) (λkvs=>bh m (kvs.map λx=>.str x.1) U) .bad)) .bad
 |.int=>oc (one vs) (λa=>oc (xR a) (λb=>.ok (.d (.int (if b then 1 else 0))) U) .bad) .bad
 |.max=>oc (two vs) (λa=>b2 (cH a.1) (cH a.2) (λx y=>.ok (.d (.int (if y > x then y else x))) U) .bad) .bad
 |.tuple=>oc (one vs) (λa=>oc (aQ U a) (λl=>.ok (.d (.tuple l)) U) .bad) .bad
 |.any=>oc (one vs) (λa=>oc ((aQ U a).bind c7) (λl=>.ok (.d (.bool (l.any id))) U) .bad) .bad
 |.all=>oc (one vs) (λa=>oc ((aQ U a).bind c7) (λl=>.ok (.d (.bool (l.all id))) U) .bad) .bad
 |.sortedSet=>oc (one vs) (λa=>oc ((aQ U a).bind iP) (λl=>if l.length < 2000/\(cM l).length < 64 then bh m ((cu (cM l)).map .str) U else .bad) .bad) .bad
 |.isinst t=>oc (one vs) (λa=>oc (OQ t a) (λb=>.ok (.d (.bool b)) U) .bad) .bad
def Gd(b:Me)(o:V)(vs:List V)(U:ac):Res V:=match b with
 |.append=>oc (one vs) (λa=>b2 (uV o) (bN a) (λn x=>oc (jl U n) (λl=>if l.length < LIM then .ok (.d .none) (U.set n (.lst (l++[x]))) else .bad) .bad) .bad) .bad
 |.extend=>oc (one vs) (λb=>oc (uV o) (λn=>b2 (jl U n) (aQ U b) (λl y=>if l.length+y.length<=LIM then .ok (.d .none) (U.set n (.lst (l++y))) else .bad) .bad) .bad) .bad
 |.pop=>oc (two vs) (λp=>b2 (uV o) (tJ p.2) (λn _=>oc (hY U n) (λkvs=>oc (j4 p.1) (λk=>.ok (.d ((kvs.lookup k).getD .none)) (U.set n (.dct (kvs.filter λx=>!decide (x.1=k))))) (oc (tJ p.1) (λ_=>.ok (.d .none) U) .bad)) .bad) .bad) .bad
 |.count=>oc (one vs) (λa=>b2 (xR a) ((aQ U o).bind c7) (λx l=>.ok (.d (.int (l.count x:Nat))) U) .bad) .bad
 |.index=>oc (one vs) (λa=>b2 (xR a) ((aQ U o).bind c7) (λx l=>if l.idxOf x < l.length then .ok (.d (.int (l.idxOf x:Nat))) U else .bad) (b2 (j4 a) ((aQ U o).bind iP) (λx l=>if l.idxOf x < l.length then .ok (.d (.int (l.idxOf x:Nat))) U else .bad) .bad)) .bad
 |.update=>oc (one vs) (λb=>b2 (uV o) (uV b) (λn k=>if n≠k then b2 (hY U n) (hY U k) (λx y=>if x.length+y.length<=LIM then .ok (.d .none) (U.set n (.dct (eH x y))) else .bad) .bad else .bad) .bad) .bad
 |_=>.bad
def sK(b:Me)(U:ac)(o:V):Bool:=match b with
 |.update | .pop=>(iF U o).isSome
 |_=>(aQ U o).isSome
def K9(v:V)(U:ac):Res V:=oc (uV v) (λn=>oc (jl U n) (λl=>.ok (.d (.list l)) (U.set n .gone)) .bad) .bad
def AT(m:Bool)(vs:List V)(U:ac):Res V:=
 match vs.mapM bN with
 |some l=>bh m l U
 |none=>.bad
def xx(vs:List V)(U:ac):Res V:=match vs.mapM bN with
 |some l=>.ok (.d (.tuple l)) U
 |none=>.bad
noncomputable def b7:List Nat->List PyData->Fm->Fm
 |i::l,x::ds,K=>b7 l ds (K.set i (.d x))
 |_,_,K=>(K)def fe(t:Tgt)(x:PyData)(K:Fm):Option Fm:=match t with
 |.var i=>some (K.set i (.d x))
 |.tup is=>oc (C7 x) (λl=>if is.length=l.length then some (b7 is l K) else none) (none)def Ji(t:Tgt)(v:V)(K:Fm):Option Fm:=match t,v with
 |.var i,v=>some (K.set i v)
 |.tup is,.d x=>fe (.tup is) x K
 |_,_=>(none)noncomputable def b8(a b:Int):List PyData:=(List.range (b - a).toNat).map λ(k:Nat)=>.int (a+(k:Int))noncomputable def kL(l:List PyData):List PyData:=l.zipIdx.map λp=>.tuple [.int p.2,p.1]def qS(v:V)(U:ac):Option (List PyData×Option Nat):=match v with
 |.d x=>oc (C7 x) (λl=>some (l,none)) (oc (Kv x) (λl=>some (l,none)) (oc (Dj x) (λx=>some ((aG x).map λc=>.str (aD [c]),none)) none))
 |.loc n=>(jl U n).map λl=>(l,some n)
 |_=>(none)noncomputable def c5(lk:Option Nat)(U:ac):ac:=match lk with
 |some n=>U.set n .busy
 |none=>(U)def bx(lk:Option Nat)(l:List PyData)(U:ac):ac:=match lk with
 |some n=>U.set n (.lst l)
 |none=>(U)def iH(f:PyData->ac->Res (Option PyData)):List PyData->ac->Res (List PyData)
 |[],U=>.ok [] U
 |x::xs,U=>(f x U).bind λo aa=>(iH f xs aa).bind λr ae=>.ok (o.toList++r) ae
inductive Out where
 |next (K:Fm)
 |ret (v:V)
 |exc (k:Nat) (ds:List PyData)noncomputable def Out.ctorIdx(t:Out):Nat:=by cases (t);exact 0;exact 1;exact 2
def ba(f:PyData->Fm->ac->Res Out):List PyData->Fm->ac->Res Out
 |[],K,U=>.ok (.next K) U
 |x::xs,K,U=>(f x K U).bind λo aa=>match o with
   |.next bV=>ba f xs bV aa
   |.ret v=>.ok (.ret v) aa
   |.exc k ds=>.ok (.exc k ds) (aa)def nG(n:Nat)(v:V)(U:ac):Res V:=match v with
 |.d x=>.ok (.d x) (U.take n)
 |.loc k=>if k < n then .bad else match U[k]? with
   |some (.lst l)=>.ok (.loc n) (U.take n++[.lst l])
   |some (.dct l)=>.ok (.loc n) (U.take n++[.dct l])
   |_=>.bad
 |_=>.bad
def nH(n:Nat)(o:Out)(U:ac):Res V:=match o with
 |.ret v=>nG n v U
 |.next _=>nG n (.d .none) U
 |.exc k ds=>.ok (.exc k ds) (U.take n)noncomputable def nJ:V->Option (Nat×List PyData)
 |.exc k ds=>some (k,ds)
 |_=>(none)def mw(v:V)(U:ac):Res V:=match nJ v with
 |some _=>.bad
 |none=>.ok v (U)def KL(k:Nat)(v:V)(U:ac):Res V:=oc (nJ v) (λx=>.ok (.d (.bool (k==x.1||k==0||k==7))) U) .bad
def OU(t:RT)(v:V)(K:Fm)(U:ac):Res Out:=match t with
 |.drop=>.ok (.next K) U
 |.var i=>.ok (.next (K.set i v)) U
 |.ret=>.ok (.ret v) U
 |.retL=>oc (bN v) (λx=>.ok (.ret (.d (.list [x]))) U) .bad
def jV(t:RT)(v:V)(K:Fm)(U:ac):Res Out:=match nJ v with
 |some x=>.ok (.exc x.1 x.2) U
 |none=>OU t v K U
def NR(k:Nat)(vs:List V)(U:ac):Res Out:=if 1<=k/\k<=5 then .ok (.exc k []) U else
 if k=6 then oc (two vs) (λp=>b2 (bN p.1) (bN p.2) (λx y=>.ok (.exc 6 [x,y]) U) .bad) .bad else .bad
def lu(cf:CF)(h:Hk)(k:Nat)(ds:List PyData)(U:ac):Res Out:=oc h (λq=>(cf q.2.1 [.exc k ds] U).bind λv aa=>oc (bN v) (λx=>if q.2.2=true->k=6 then .ok (.ret (.d (.tuple (x::if q.2.2 then ds else [])))) aa else .bad) .bad) (.ok (.ret (.d .none)) U)def kJ(cf:CF):List Hd->Nat->List PyData->ac->Res Out
 |[],_,_,_=>.bad
 |h::hs,k,ds,U=>if h.1=k\/h.1=0 then lu cf h.2 k ds U else kJ cf hs k ds (U)abbrev j2:=List PyData×List PyData×Option Nat
section
variable (G:GD)(cf:CF)
mutual
def af:E->Fm->ac->Res V
 |.none=>λ_ U=>.ok (.d .none) U
 |.bool b=>λ_ U=>.ok (.d (.bool b)) U
 |.int i=>λ_ U=>.ok (.d (.int i)) U
 |.str x=>λ_ U=>.ok (.d (.str x)) U
 |.var i=>λK U=>match K[i]? with
   |some .un=>.bad
   |some v=>.ok v U
   |none=>.bad
 |.glob g=>λ_ U=>bv ((G g).map V.d) U
 |.bin op m a b=>λK U=>(af a K U).bind λx aa=>(af b K aa).bind λy ae=>dj op m x y ae
 |.neg a=>λK U=>(af a K U).bind λx aa=>oc (cH x) (λi=>.ok (.d (.int (-i))) aa) .bad
 |.not a=>λK U=>(af a K U).bind λx aa=>bv ((truthy aa x).map λb=>V.d (.bool (!b))) aa
 |.bop k es=>λK U=>iE k es K U
 |.cmp op a b=>λK U=>(af a K U).bind λx aa=>(af b K aa).bind λy ae=>bv ((bC op x y ae).map λb=>V.d (.bool b)) ae
 |.cmp2 bD fW a b c=>λK U=>(af a K U).bind λx aa=>(af b K aa).bind λy ae=>(bv (bC bD x y ae) ae).bind λt ae=>if t then (af c K ae).bind λz aF=>bv ((bC fW y z aF).map λb=>V.d (.bool b)) aF else .ok (.d (.bool false)) ae
 |.ite c a b=>λK U=>(af c K U).bind λx aa=>(bv (truthy aa x) aa).bind λt aa=>if t then af a K aa else af b K aa
 |.tup es=>λK U=>(aU es K U).bind λvs aa=>xx vs aa
 |.list m es=>λK U=>(aU es K U).bind λvs aa=>AT m vs aa
 |.dict0=>λ_ U=>.ok (.loc U.length) (U++[.dct []])
 |.idx a i=>λK U=>(af a K U).bind λx aa=>(af i K aa).bind λy ae=>bv (cK x y ae) ae
 |.slc m a lo hi=>λK U=>(af a K U).bind λx aa=>(dD lo K aa).bind λl ae=>(dD hi K ae).bind λh aF=>gq m x l h aF
 |.comp m t it c e=>λK U=>(cA it K U).bind λI aa=>
     (iH (λx σ'=>match fe t x K with
       |none=>.bad
       |some ρ'=>(dD c ρ' σ').bind λcv ae=>match cv with
         |none=>(af e ρ' ae).bind λy aF=>bv ((bN y).map some) aF
         |some cv=>(bv (truthy ae cv) ae).bind λb ae=>if b then (af e ρ' ae).bind λy aF=>bv ((bN y).map some) aF else .ok none ae) I.1 (c5 I.2.2 aa++[.busy])).bind λr ae=>
     bh m r ((bx I.2.2 I.2.1 ae).take aa.length)
 |.call f es=>λK U=>(aU es K U).bind λvs aa=>(cf f vs aa).bind mw
 |.bi b m es=>λK U=>(aU es K U).bind λvs aa=>xV b m vs aa
 |.meth b o es=>λK U=>(af o K U).bind λx aa=>if sK b aa x then (aU es K aa).bind λvs ae=>Gd b x vs ae else .bad
 |.freeze e=>λK U=>(af e K U).bind λx aa=>K9 x aa
 |.isx k e=>λK U=>(af e K U).bind λx aa=>KL k x (aa)def aU:EL->Fm->ac->Res (List V)
 |.nil=>λ_ U=>.ok [] U
 |.cons e es=>λK U=>(af e K U).bind λx aa=>(aU es K aa).bind λxs ae=>.ok (x::xs) (ae)def iE(k:Bool):EL->Fm->ac->Res V
 |.nil=>λ_ _=>.bad
 |.cons e es=>λK U=>match es with
   |.nil=>af e K U
   |es=>(af e K U).bind λx aa=>(bv (truthy aa x) aa).bind λt aa=>if t=k then iE k es K aa else .ok x (aa)def dD:EL->Fm->ac->Res (Option V)
 |.nil=>λ_ U=>.ok none U
 |.cons e _=>λK U=>(af e K U).bind λx aa=>.ok (some x) (aa)def cA:It->Fm->ac->Res j2
 |.seq e=>λK U=>(af e K U).bind λx aa=>bv ((qS x aa).map λp=>⟨p.1,p.1,p.2⟩) aa
 |.enum e=>λK U=>(af e K U).bind λx aa=>oc (jy x) (λl=>.ok ⟨kL l,[],none⟩ aa) .bad
 |.range e=>λK U=>(af e K U).bind λx aa=>oc (cH x) (λb=>if -100000<=b/\b<=100000 then .ok ⟨b8 0 b,[],none⟩ aa else .bad) .bad
 |.range2 a b=>λK U=>(af a K U).bind λx aa=>(af b K aa).bind λy ae=>b2 (cH x) (cH y) (λa b=>if (-100000<=a/\a<=100000)/\(-100000<=b/\b<=100000) then .ok ⟨b8 a b,[],none⟩ ae else .bad) .bad
end
mutual
def exec:S->Fm->ac->Res Out
 |.expr e=>λK U=>(af G cf e K U).bind λ_ aa=>.ok (.next K) aa
 |.asg t e=>λK U=>(af G cf e K U).bind λx aa=>bv ((Ji t x K).map Out.next) aa
 |.asgT l e=>λK U=>(af G cf e K U).bind λx aa=>oc (jy x) (λds=>if l.length=ds.length then .ok (.next (b7 l ds K)) aa else .bad) .bad
 |.put o i e=>λK U=>(af G cf e K U).bind λx aa=>(af G cf o K aa).bind λa ae=>(af G cf i K ae).bind λk aF=>oc (bN x) (λx=>b2 (uV a) (j4 k) (λn k=>oc (hY aF n) (λl=>if l.length < LIM then .ok (.next K) (aF.set n (.dct (eZ k x l))) else .bad) .bad) .bad) .bad
 |.ite c a b=>λK U=>(af G cf c K U).bind λx aa=>(bv (truthy aa x) aa).bind λt aa=>if t then execs a K aa else execs b K aa
 |.forr t it b=>λK U=>(cA G cf it K U).bind λI aa=>
     (ba (λx ρ' σ'=>match fe t x ρ' with
       |none=>.bad
       |some ρ''=>execs b ρ'' σ') I.1 K (c5 I.2.2 aa)).bind λo ae=>.ok o (bx I.2.2 I.2.1 ae)
 |.ret e=>λK U=>(af G cf e K U).bind λx aa=>.ok (.ret x) aa
 |.pass=>λK U=>.ok (.next K) U
 |.stop=>λ_ _=>.bad
 |.calls t f es=>λK U=>(aU G cf es K U).bind λvs aa=>(cf f vs aa).bind λv ae=>jV t v K ae
 |.raise k es=>λK U=>(aU G cf es K U).bind λvs aa=>NR k vs aa
 |.tryS b hs=>λK U=>(execs b K U).bind λo aa=>match o with
   |.exc k ds=>kJ cf hs k ds aa
   |o=>.ok o aa
 |.iteC f es i x b=>λK U=>(aU G cf es K U).bind λvs aa=>(cf f vs aa).bind λv ae=>oc (nJ v) (λp=>.ok (.exc p.1 p.2) ae) ((af G cf (.cmp .ne (.idx (.call f es) i) x) K U).bind λy aa=>(bv (truthy aa y) aa).bind λt aa=>if t then execs b K aa else .ok (.next K) aa)def execs:SL->Fm->ac->Res Out
 |.nil=>λK U=>.ok (.next K) U
 |.cons s r=>λK U=>(exec s K U).bind λo aa=>match o with
   |.next bV=>execs r bV aa
   |.ret v=>.ok (.ret v) aa
   |.exc k ds=>.ok (.exc k ds) aa
end
end
structure Fn where
 name:Str
 np:Nat
 slots:SC
 ns:Nat
 body:SL
abbrev pV:=GD×(Nat->Option Fn)
def aj(p:pV):Nat->CF
 |0,_,_,_=>.bad
 |d+1,f,args,U=>match p.2 f with
   |none=>.bad
   |some fn=>if args.length=fn.np then
       (execs p.1 (aj p d) fn.body (args++List.replicate (fn.ns - fn.np) .un) U).bind λo aa=>nH U.length o aa
     else .bad
inductive X2{ta tb:Type}(P:ta->tb->Prop):Prop where
 |mk (a:ta) (b:tb) (h:P a b):X2 P
inductive X3{ta tb tc:Type}(P:ta->tb->tc->Prop):Prop where
 |mk (a:ta) (b:tb) (c:tc) (h:P a b c):X3 P
inductive X4{ta tb tc td:Type}(P:ta->tb->tc->td->Prop):Prop where
 |mk (a:ta) (b:tb) (c:tc) (d:td) (h:P a b c d):X4 P
inductive X5{ta tb tc td te:Type}(P:ta->tb->tc->td->te->Prop):Prop where
 |mk (a:ta) (b:tb) (c:tc) (d:td) (e:te) (h:P a b c d e):X5 P
inductive X6{ta tb tc td te tf:Type}(P:ta->tb->tc->td->te->tf->Prop):Prop where
 |mk (a:ta) (b:tb) (c:tc) (d:td) (e:te) (f:tf) (h:P a b c d e f):X6 P
inductive A3(pa pb pc:Prop):Prop where
 |mk (a:pa) (b:pb) (c:pc):A3 pa pb pc
inductive A4(pa pb pc pd:Prop):Prop where
 |mk (a:pa) (b:pb) (c:pc) (d:pd):A4 pa pb pc pd
inductive A5(pa pb pc pd pe:Prop):Prop where
 |mk (a:pa) (b:pb) (c:pc) (d:pd) (e:pe):A5 pa pb pc pd pe
inductive A6(pa pb pc pd pe pf:Prop):Prop where
 |mk (a:pa) (b:pb) (c:pc) (d:pd) (e:pe) (f:pf):A6 pa pb pc pd pe pf
theorem gj{Y:Type}{v:Y}{f:B->Y}{P:Y->Prop}(h:∃p,v=f p)(k:∀p,P (f p)):P v:=by obtain⟨p,e⟩:=h;exact e▸k (p)theorem zb{Y:Type}{v:Y}{f:B->γ->Y}{P:Y->Prop}(h:X2 λp q=>v=f p q)(k:∀p q,P (f p q)):P v:=by obtain⟨p,q,e⟩:=h;exact e▸k p (q)theorem xr{Y:Type}{v:Y}{f:B->Y}{Q:B->Prop}{P:Y->Prop}(h:∃p,v=f p/\Q p)(k:∀p,Q p->P (f p)):P v:=by obtain⟨p,e,q⟩:=h;exact e▸k p (q)theorem LV{Y:Type}{v:Y}{f:B->Y}{Q:B->Prop}{P:Y->Prop}(h:∃p,Q p/\v=f p)(k:∀p,Q p->P (f p)):P v:=by obtain⟨p,q,e⟩:=h;exact e▸k p (q)theorem iY{Y:Type}{v w:Y}{P:Y->Prop}(h:v=w)(k:P w):P v:=h▸k
variable {G:Prop}theorem kk(h:∀Uc:Prop,(G->Uc)->Uc):G:=h G (id)variable {r:Res B}theorem au{Y:Type}{k:B->ac->Res Y}{q:Res Y}(h:r=.ok a U)(h2:k a U=q):r.bind k=q:=by rw[h];exact h2
open PySem.Calls
noncomputable def ob{B:Type}(o:Option B)(f:B->Bool):Bool:=match o with
 |some a=>f a
 |none=>(false)noncomputable def cT{B:Type}(n m:Nat)(k:n=m->B):Option B:=if h:n=m then some (k h) else none
def fc(ex:Expr):Option (Str):=cT ex.ctorIdx 23 λe=>Expr.Name.elim (motive_1:=λ_=>Str) ex e λa0 _=>(a0)def AP(ex:Expr):Option (Expr×Str×Pos):=cT ex.ctorIdx 20 λe=>Expr.Attribute.elim (motive_1:=λ_=>Expr×Str×Pos) ex e λa0 a1 a2=>(a0,a1,a2)noncomputable def co (x:Str):Bool:=!(x==("__debug__":Str))&&!(x==("__classdict__":Str))noncomputable def j7:Nat->Str
 |0=>"TurnError"
 |1=>"NoPlace"
 |2=>"NoName"
 |3=>"Taken"
 |4=>"NoCall"
 |5=>"Unlike"
 |6=>"Clash"
 |_=>"ValueError"
noncomputable abbrev fR:List Value:=[.type "ValueError",.type "Exception",.type "BaseException",.type "object"]def d7(k:Nat):List Value:=if k=0 then fR else .ref (KA 0)::fR
def fh:List Str:=["__getattribute__","__getattr__","__class__","__setattr__",j6,dG]def yv(ex:Stmt):Option (List Expr×Expr):=cT ex.ctorIdx 5 λe=>Stmt.Assign.elim (motive_2:=λ_=>List Expr×Expr) ex e λa0 a1 _=>(a0,a1)noncomputable def kj(a:Arguments):Bool:=a.posonlyargs.isEmpty&&a.vararg.isNone&&a.kwonlyargs.isEmpty&&a.kw_defaults.isEmpty&&a.kwarg.isNone&&a.defaults.isEmpty
def I1(n x:Str)(v:Expr):Bool:=ob (AP v) λq=>ob (fc q.1) λn'=>decide (n'=n)&&decide (q.2.1=x)def Ef(p f n:Str)(st:Stmt):Bool:=ob (yv st) λq=>ob (one q.1) λt=>I1 p f t&&ob (fc q.2) λm=>decide (m=n)noncomputable def EO:FuncBody->Option (List Stmt)
 |.stmts b=>some b
 |_=>(none)noncomputable def Db:List Str->Option (Str×Str×Str)
 |[a,b,c]=>some (a,b,c)
 |_=>(none)def O0(fd:FuncData)(p0 p1 p2:Str)(b:List Stmt):Bool:=ob (two b) λq=>Ef p0 j6 p1 q.1&&Ef p0 dG p2 (q.2)def Ps(fd:FuncData)(p0 p1 p2:Str):Bool:=([p0,p1,p2].all λp=>decide (fd.scope.names.lookup p=some .local)&&co p)&&decide (p1≠p0/\p2≠p0/\p2≠p1)noncomputable def Pr(h:Heap)(fd:FuncData):Bool:=decide (fd.globals=mainGlobals)&&(fd.closure.isEmpty&&(decide (fd.defaults=.none)&&(decide (fd.kwdefaults=.none)&&(fd.annotations.isNone&&(decide (fd.closureTuple=.none)&&(decide (fd.builtins=builtinsNs)&&(h.codeRecOk fd.code fd.qualname&&(decide (fd.scope.kind=.function)&&(!fd.scope.isCoroutine&&!fd.scope.isGenerator)))))))))def OZ(h:Heap)(fd:FuncData):Bool:=kj fd.params&&(Pr h fd&&(ob (EO fd.body) λb=>ob (Db (fd.params.args.map (·.arg))) λp=>O0 fd p.1 p.2.1 p.2.2 b&&Ps fd p.1 p.2.1 p.2.2))def KU (h:Heap) (ns:Addr):Bool:=match h.fnAt ns "__init__" with
 |some (_,o,fd)=>decide (o.cls=.type "function")&&OZ h fd
 |none=>(false)def IG(h:Heap)(k:Nat):Bool:=match h.clsAt mainGlobals (j7 k) with
 |some (a,o,cd)=>decide (a=KA k)&&o.cls==.type "type"&&cd.mro==.ref (KA k)::d7 k&&!cd.hasDel&&o.slots.size==6&&o.slots[4]?==some (some (.builtin "ValueError.__new__"))&&h.isNs cd.ns&&fh.all (λn=>(h.nsMap cd.ns n).isNone)&&(decide (k=6)||(h.nsMap cd.ns "__init__").isNone)&&(!decide (k=6)||(cd.hasDict&&KU h cd.ns))
 |none=>(false)def L9(h:Heap):Bool:=(List.range 7).all (IG h)
set_option maxRecDepth 99999
open PySem.W PyProof.Rows
def J1(p:Program)(w:World)(N:Nat)(dn:Shared):Option Shared:=
 cond (dn.heap.isNs mainGlobals&&dn.gens.size==0) ((Fast.tw14082659384304107361 Fast.tw14364793385576792824 p w dn.heap.objs.size (dn.heap.nsMap mainGlobals "__annotations__") N dn (topStub p)).bind λai=>cond (staticsOk (importedModules p.main.body) dn.heap ai.heap&&namesBound p ai.heap&&gensDone ai&&laidKept dn.heap ai.heap) (some ai) none) none
def Ak(p:Program)(w:World)(N:Nat):Option Shared:=
 ((Fast.tw10274390034422433532 Fast.tw14364793385576792824 (opening p) w N (Fast.tw1435165496053646825 (opening p)).1 (Fast.tw1435165496053646825 (opening p)).2).bind (Fast.tw14289696077712309145 p)).bind (J1 p w N)
theorem GU(p:Program)(w:World)(N:Nat):topFrom treeTable p w N=J1 p w N:=by
 funext s;unfold topFrom J1;rw[Fast.te14082659384304107361,Fast.te14364793385576792824];cases (s.heap.isNs mainGlobals&&s.gens.size==0) with
 |false=>rfl
 |true=>refine congrArg (Option.bind _) (funext λai=>?_);cases (staticsOk (importedModules p.main.body) s.heap ai.heap&&namesBound p ai.heap&&gensDone ai&&laidKept s.heap ai.heap)<;>rfl
theorem DL(p:Program)(w:World)(N:Nat):openEnds treeTable p w N=Ak p w N:=by unfold openEnds Ak fencedOpening;rw[GU,Fast.te14289696077712309145,Fast.te10274390034422433532,Fast.te1435165496053646825,Fast.te14364793385576792824]noncomputable def q11:Program:=PySem.W.view PySem.Challenge.pw_uf010014_11 [1,2,3,4,5,6,7,9,10,11,12,13,15,16,17,18,19,20,21,22,24,25,26,27,28,30,31,32,33,34,35,36,37,38,39,40,41,42,44,45,46,47,48,49,50,51,52,53,54,55,56,57,58,59,60,61,62,63,64,65,66,67,68,69,70,71,72,73,74,75,76,77,78,79,80,81]
theorem said11:OpenLaw.wellSaid PySem.Challenge.rw_uf010014_11=true:=by
 rw[Fast.te9446332074065402090]
 kernel_rfl
theorem Oc{S A Ud C D F Ub:Type}{o:Option S}{f:S->A×Ud×C×D×F}{g:S->Ub}{a:A}{b:Ud}{c:C}{d:D}{e:F}{y:Ub}(h1:o.map (λs=>((f s).1,(f s).2.1,(f s).2.2.1,(f s).2.2.2.1))=some (a,b,c,d))(h2:o.map (λs=>((f s).2.2.2.2,g s))=some (e,y)):o.map (λs=>(f s,g s))=some ((a,b,c,d,e),y):=by
 cases o with
 |none=>injection h1
 |some s=>have h:=Option.some.inj h1;have k:=Option.some.inj h2;exact congrArg some (Prod.ext (Prod.ext (congrArg (·.1) h) (Prod.ext (congrArg (·.2.1) h) (Prod.ext (congrArg (·.2.2.1) h) (Prod.ext (congrArg (·.2.2.2) h) (congrArg (·.1) k))))) (congrArg (·.2) k))def xt11(s:Shared):Bool:=(xlAt q11 [] s&&recOk (RowW.records (OpenRow.toRowW (OpenLaw.row PySem.Challenge.rw_uf010014_11))) s)&&L9 (s.heap)noncomputable abbrev Dl(s:Shared):=Fast.tw4187177175401517315 q11 [] (importedModules PySem.Challenge.pw_uf010014_11.main.body) xt11 true (s)theorem M3(w:World):(Ak PySem.Challenge.pw_uf010014_11 w 6000).map (λs=>((Dl s).1,(Dl s).2.1,(Dl s).2.2.1,(Dl s).2.2.2.1))=some (expectedOf q11,bltViewBooted,true,true):=by kernel_rfl
theorem M2(w:World):(Ak PySem.Challenge.pw_uf010014_11 w 6000).map (λs=>((Dl s).2.2.2.2,Hook.obs Hook.none s))=some ((pinGoodD (drecsOf q11),plainGoodE q11 (looseW q11 []),plainGoodD q11 [],wideGood q11,clsGoodW q11 []),Hook.val Hook.none w):=by kernel_rfl
theorem left11:LeftO PySem.Challenge.pw_uf010014_11 q11 [] xt11 (Hook.obs Hook.none) (Hook.val Hook.none) 6000:=λw=>by rw[DL,Fast.te4187177175401517315];exact Oc (M3 w) (M2 w)variable {I:j2}{x:PyData}{σ':ac}{o:Option B}{r:Res γ}{c:γ}
section
variable (G:GD)(cf:CF)(K:Fm)(U:ac)theorem oj{B:Sort _}{a b:B}(h:a=b):a=b:=(h)theorem tC{Y:Type}(a:B)(U:ac)(f:B->ac->Res Y):(Res.ok a U).bind f=f a U:=oj (rfl)noncomputable def M1(o:Option V)(U:ac):Res V:=match o with
 |some .un=>.bad
 |some v=>.ok v U
 |none=>.bad
theorem Hi{o:Option V}{U:ac}{c:V}(h:M1 o U=.ok c σ'):o=some c/\c≠.un/\σ'=U:=by
 cases o with
 |none=>injection h
 |some v=>cases v<;>first | ((injection h with e f;subst e;subst f);exact⟨rfl,(λq=>nomatch q),rfl⟩) | injection h
theorem Fj(i:Nat):af G cf (.var i) K U=M1 K[i]? U:=oj (rfl)theorem H7(g:Nat):af G cf (.glob g) K U=bv ((G g).map V.d) U:=oj (rfl)theorem Lq(op:BOp)(m:Bool)(a b:E):af G cf (.bin op m a b) K U=(af G cf a K U).bind λx aa=>(af G cf b K aa).bind λy ae=>dj op m x y ae:=oj (rfl)def Ob(x:V)(U:ac):Res V:=oc (cH x) (λi=>.ok (.d (.int (-i))) U) .bad
theorem Lo(a:E):af G cf (.neg a) K U=(af G cf a K U).bind λx aa=>Ob x aa:=oj (rfl)theorem Fk(a:E):af G cf (.not a) K U=(af G cf a K U).bind λx aa=>bv ((truthy aa x).map λb=>V.d (.bool (!b))) aa:=oj (rfl)noncomputable def GZ(k:Bool)(t:Bool)(a b:Res V):Res V:=if t=k then a else b
theorem vm(bD fW:COp)(a b c:E):af G cf (.cmp2 bD fW a b c) K U=(af G cf a K U).bind λx aa=>(af G cf b K aa).bind λy ae=>(bv (bC bD x y ae) ae).bind λt ae=>GZ true t ((af G cf c K ae).bind λz aF=>bv ((bC fW y z aF).map λb=>V.d (.bool b)) aF) (.ok (.d (.bool false)) ae):=oj (rfl)theorem Fh:aU G cf .nil K U=.ok [] U:=oj (rfl)theorem H5(e:E)(es:EL):aU G cf (.cons e es) K U=(af G cf e K U).bind λx aa=>(aU G cf es K aa).bind λxs ae=>.ok (x::xs) ae:=oj (rfl)theorem Ln(e:E):cA G cf (.seq e) K U=(af G cf e K U).bind λx aa=>bv ((qS x aa).map λp=>⟨p.1,p.1,p.2⟩) aa:=oj (rfl)theorem H6(e:E):cA G cf (.enum e) K U=(af G cf e K U).bind λx aa=>oc (jy x) (λl=>.ok ⟨kL l,[],none⟩ aa) .bad:=oj (rfl)def yw(x:V)(U:ac):Res j2:=oc (cH x) (λb=>if -100000<=b/\b<=100000 then .ok ⟨b8 0 b,[],none⟩ U else .bad) .bad
theorem BI{x:V}{U:ac}(h:yw x U=.ok I σ'):∃b:Int,x=.d (.int b)/\(-100000<=b/\b<=100000)/\I=⟨b8 0 b,[],none⟩/\σ'=U:=by
 unfold yw at h;rcases jj (cH x) (λb=>if -100000<=b/\b<=100000 then Res.ok (⟨b8 0 b,[],none⟩:j2) U else .bad) .bad with⟨b,hb,e⟩|e
 . rw[e]at h;by_cases hc:-100000<=b/\b<=100000
   . rw[if_pos hc]at h;injection h with e f;subst e;subst f;exact⟨b,c6 hb,hc,rfl,rfl⟩
   . rw[if_neg hc]at h;injection h
 . rw[e]at h;injection h
def uH(x y:V)(U:ac):Res j2:=b2 (cH x) (cH y) (λa b=>if (-100000<=a/\a<=100000)/\(-100000<=b/\b<=100000) then .ok ⟨b8 a b,[],none⟩ U else .bad) .bad
theorem yx{x y:V}{U:ac}(h:uH x y U=.ok I σ'):∃a b:Int,x=.d (.int a)/\y=.d (.int b)/\((-100000<=a/\a<=100000)/\(-100000<=b/\b<=100000))/\I=⟨b8 a b,[],none⟩/\σ'=U:=by
 unfold uH at h;rcases nY (cH x) (cH y) (λa b=>if (-100000<=a/\a<=100000)/\(-100000<=b/\b<=100000) then Res.ok (⟨b8 a b,[],none⟩:j2) U else .bad) .bad with⟨a,b,ha,hb,e⟩|e
 . rw[e]at h;by_cases hc:(-100000<=a/\a<=100000)/\(-100000<=b/\b<=100000)
   . rw[if_pos hc]at h;injection h with e f;subst e;subst f;exact⟨a,b,c6 ha,c6 hb,hc,rfl,rfl⟩
   . rw[if_neg hc]at h;injection h
 . rw[e]at h;injection h
theorem Cf(y9 lR:E):cA G cf (.range2 y9 lR) K U=(af G cf y9 K U).bind λx aa=>(af G cf lR K aa).bind λy ae=>uH x y ae:=oj (rfl)theorem Fi(e:E):cA G cf (.range e) K U=(af G cf e K U).bind λx aa=>yw x aa:=oj rfl
theorem iz{f:B->Res γ}(h:oc o f .bad=.ok c σ'):∃a,o=some a/\f a=.ok c σ':=by
 cases o with
 |none=>injection h
 |some a=>exact⟨a,rfl,h⟩theorem Jl{Y:Type}{p:Option Y}{f:B->Y->Res γ}(h:b2 o p f .bad=.ok c σ'):∃a b,o=some a/\p=some b/\f a b=.ok c σ':=by obtain⟨a,ha,h⟩:=iz h;obtain⟨b,hb,h⟩:=iz h;exact⟨a,b,ha,hb,h⟩
theorem AH{c:Prop}[Decidable c]{x:γ}(h:(if c then r else .bad)=.ok x σ'):c/\r=.ok x σ':=by
 by_cases hc:c
 . rw[if_pos hc]at h;exact⟨hc,h⟩
 . rw[if_neg hc]at h;injection h
theorem Jx(e:E):exec G cf (.expr e) K U=(af G cf e K U).bind λv aa=>.ok (.next K) aa:=oj (rfl)theorem Jy(l:List Nat)(e:E):exec G cf (.asgT l e) K U=(af G cf e K U).bind λx aa=>oc (jy x) (λds=>if l.length=ds.length then .ok (.next (b7 l ds K)) aa else .bad) .bad:=oj (rfl)theorem L7(e:E):exec G cf (.ret e) K U=(af G cf e K U).bind λx aa=>.ok (.ret x) aa:=oj (rfl)def Mw(x a k:V)(K:Fm)(aF:ac):Res Out:=oc (bN x) (λx=>b2 (uV a) (j4 k) (λn k=>oc (hY aF n) (λl=>if l.length < LIM then .ok (.next K) (aF.set n (.dct (eZ k x l))) else .bad) .bad) .bad) .bad
theorem GW{k:Str}{l:List (Str×PyData)}(hc:U[n]?=some (.dct l))(hl:l.length < LIM):Mw (.d x) (.loc n) (.d (.str k)) K U=.ok (.next K) (U.set n (.dct (eZ k x l))):=by show oc (hY U n) (λl=>if l.length < LIM then Res.ok (Out.next K) (U.set n (.dct (eZ k x l))) else .bad) .bad=_;rw[kN hc];exact if_pos (hl)theorem L8(o i e:E):exec G cf (.put o i e) K U=(af G cf e K U).bind λx aa=>(af G cf o K aa).bind λa ae=>(af G cf i K ae).bind λk aF=>Mw x a k K aF:=oj (rfl)def Dk(G:GD)(cf:CF)(r:SL)(o:Out)(U:ac):Res Out:=match o with
 |.next bV=>execs G cf r bV U
 |.ret v=>.ok (.ret v) U
 |.exc k ds=>.ok (.exc k ds) (U)theorem Gg(s:S)(r:SL):execs G cf (.cons s r) K U=(exec G cf s K U).bind λo aa=>Dk G cf r o aa:=oj (rfl)def MT(f:PyData->Fm->ac->Res Out)(xs:List PyData)(o:Out)(U:ac):Res Out:=match o with
 |.next bV=>ba f xs bV U
 |.ret v=>.ok (.ret v) U
 |.exc k ds=>.ok (.exc k ds) (U)theorem Kx(f:PyData->Fm->ac->Res Out):ba f [] K U=.ok (.next K) U:=oj (rfl)theorem Hj(f:PyData->Fm->ac->Res Out)(x:PyData)(xs:List PyData):ba f (x::xs) K U=(f x K U).bind λo aa=>MT f xs o aa:=oj rfl
end
theorem Il(f:PyData->ac->Res (Option PyData))(x:PyData)(xs:List PyData)(U:ac):iH f (x::xs) U=(f x U).bind λo aa=>(iH f xs aa).bind λr ae=>.ok (o.toList++r) ae:=oj (rfl)variable {y:Int}
section
variable (U:ac)(m:Bool)theorem Jk{x:Int}(h:tL x y=true):dj .mul m (.d (.int x)) (.d (.int y)) U=.ok (.d (.int (x * y))) U:=if_pos (h)theorem ee{x:Int}(h:0 < y):dj .mod m (.d (.int x)) (.d (.int y)) U=.ok (.d (.int (x % y))) U:=if_pos (h)theorem nM{a b:PyData}(h:min a.depth b.depth<=64):Nq a b=some (a.eqv b):=if_pos (h)theorem xP(x y:Str):bC .eq (.d (.str x)) (.d (.str y)) U=some (decide (x=y)):=by refine(nM (a:=.str x) (b:=.str y) (P7 rfl)).trans ?_;exact oj (rfl)theorem Nv(x y:Str):bC .ne (.d (.str x)) (.d (.str y)) U=some (!decide (x=y)):=by have h:LW (.d (.str x)) (.d (.str y))=some (decide (x=y)):=xP U x y;have e:bC .ne (.d (.str x)) (.d (.str y)) U=(LW (.d (.str x)) (.d (.str y))).map (!·):=rfl;rw[e,h];rfl
end
variable {i:Int}{l:List PyData}{k:Nat}{lo hi:Option V}
section
variable (U:ac)(m:Bool)theorem AI(l:List PyData)(i:Int):cK (.d (.tuple l)) (.d (.int i)) U=(index l.length i).bind λk=>(l[k]?).map V.d:=oj rfl
theorem df(l:List PyData)(k:Nat):cK (.d (.tuple l)) (.d (.int (k:Int))) U=(l[k]?).map V.d:=by
 rw[AI];unfold index;rw[if_pos (Qi k)];by_cases h:k < l.length
 . rw[if_pos (Qr.mpr h)];rfl
 . rw[if_neg (λq=>h (Qr.mp q)),Rh (QF h)];(rfl)theorem Hu(x:Str)(i:Int):cK (.d (.str x)) (.d (.int i)) U=(index (aG x).length i).bind λk=>((aG x)[k]?).map λc=>V.d (.str (aD [c])):=oj rfl
theorem jn(h0:0<=i):cK (.d (.list l)) (.d (.int i)) U=(l[i.toNat]?).map V.d:=if_pos (h0)variable {U}{n:Nat}theorem gV(h:U[n]?=some (.lst l)):aQ U (.loc n)=some l:=jk (h)theorem gJ{l:List (Str×PyData)}(h:U[n]?=some (.dct l)):iF U (.loc n)=some l:=kN (h)theorem DV(h:U[n]?=some (.lst l)):qS (.loc n) U=some (l,some n):=by show (jl U n).map (λl=>(l,some n))=_;rw[jk h];(rfl)theorem HX(x y:Str):(PyData.str x).eqv (.str y)=decide (x=y):=oj rfl
theorem Oz(a b:V):bC .isIn a b U=bC.inV a b U:=oj (rfl)theorem A0(a b:V):bC .notIn a b U=(bC.inV a b U).map (!·):=oj (rfl)theorem rH(x:Str)(l:List PyData):xa (.str x) l=some (l.any λy=>y.eqv (.str x)):=if_pos (iv (RO _ _) (PU _))theorem KQ(x:Str)(h:U[n]?=some (.lst l)):bC.inV (.d (.str x)) (.loc n) U=some (l.any λy=>y.eqv (.str x)):=by show oc (aQ U (.loc n)) (λl=>xa (.str x) l) _=_;rw[gV h];exact rH x (l)theorem Ht(x:Str):bC.inV (.d (.str x)) (.d (.list l)) U=some (l.any λy=>y.eqv (.str x)):=rH x (l)theorem KO(x:Str):bC.inV (.d (.str x)) (.d (.tuple l)) U=some (l.any λy=>y.eqv (.str x)):=rH x (l)theorem LG(h:U[n]?=some (.lst l))(hl:l.length < LIM)(x:PyData):Gd .append (.loc n) [.d x] U=.ok (.d .none) (U.set n (.lst (l++[x]))):=by show oc (jl U n) (λl=>if l.length < LIM then Res.ok (V.d .none) (U.set n (.lst (l++[x]))) else .bad) .bad=_;rw[jk h];exact if_pos (hl)theorem Cc{y:List PyData}{b:V}(h:U[n]?=some (.lst l))(hb:aQ U b=some y)(hl:l.length+y.length<=LIM):Gd .extend (.loc n) [b] U=.ok (.d .none) (U.set n (.lst (l++y))):=by show b2 (jl U n) (aQ U b) (λl y=>if l.length+y.length<=LIM then Res.ok (V.d .none) (U.set n (.lst (l++y))) else .bad) .bad=_;rw[jk h,hb];exact if_pos (hl)theorem Bq{x y:List (Str×PyData)}(h:U[n]?=some (.dct x))(hk:U[k]?=some (.dct y))(hn:n≠k)(hl:x.length+y.length<=LIM):Gd .update (.loc n) [.loc k] U=.ok (.d .none) (U.set n (.dct (eH x y))):=by show (if n≠k then b2 (hY U n) (hY U k) (λx y=>if x.length+y.length<=LIM then Res.ok (V.d .none) (U.set n (.dct (eH x y))) else .bad) .bad else .bad)=_;rw[if_pos hn,kN h,kN hk];exact if_pos (hl)theorem wT(h:U[n]?=some (.lst l)):sK .append U (.loc n)=true:=by show (aQ U (.loc n)).isSome=true;rw[gV h];(rfl)theorem LC{a b:List PyData}(h:a.length+b.length<=LIM)(m:Bool)(U:ac):dj .add m (.d (.list a)) (.d (.list b)) U=bh m (a++b) U:=if_pos h
theorem LB{a b:List PyData}(h:a.length+b.length<=LIM)(m:Bool)(U:ac):dj .add m (.d (.tuple a)) (.d (.tuple b)) U=.ok (.d (.tuple (a++b))) U:=if_pos (h)theorem NC{x y:Str}(h:x.cps.size+y.cps.size<=LIM)(m:Bool)(U:ac):dj .add m (.d (.str x)) (.d (.str y)) U=.ok (.d (.str (aD (aG x++aG y)))) U:=if_pos (h)theorem LA{y:Str}{n:Int}(h:0<=n/\n<=1000/\y.cps.size<=1000)(m:Bool)(U:ac):dj .mul m (.d (.str y)) (.d (.int n)) U=.ok (.d (.str (aD (List.replicate n.toNat (aG y)).flatten))) U:=if_pos (h)theorem z0(m:Bool)(x:Str){l h:Option Int}(hl:cO lo=some l)(hh:cO hi=some h)(U:ac):gq m (.d (.str x)) lo hi U=.ok (.d (.str (aD (aC (aG x) l h)))) U:=by show b2 (cO lo) (cO hi) (λl h=>Res.ok (V.d (.str (aD (aC (aG x) l h)))) U) .bad=_;rw[hl,hh];(rfl)theorem K8(h:U[n]?=some (.lst l)):K9 (.loc n) U=.ok (.d (.list l)) (U.set n .gone):=by show oc (jl U n) (λl=>Res.ok (V.d (.list l)) (U.set n .gone)) .bad=_;rw[jk h];rfl
end
variable {op:BOp}{cf:CF}{a c e e':E}{es:EL}{K ρ':Fm}{G:GD}{it:It}{h:List Hd}{xs ds base:List PyData}{vs:List V}{i:Nat}{o:Out}{f:PyData->Fm->ac->Res Out}{s:S}{b r:SL}{ae aa:ac}{t:Tgt}{v:V}{ps:List B}
section
variable {aF:ac}theorem LR(h:nJ v=none):mw v U=.ok v U:=by unfold mw;rw[h]theorem aM{f:Nat}{v:PyData}(h0:aU G cf es K U=.ok vs aa)(h:cf f vs aa=.ok (.d v) ae):af G cf (.call f es) K U=.ok (.d v) ae:=au h0 (au h rfl)theorem jX{m:Bool}{b:E}{x y:V}{q:Res V}(h1:af G cf a K U=.ok x aa)(h2:af G cf b K aa=.ok y ae)(h3:dj op m x y ae=q):af G cf (.bin op m a b) K U=q:=au h1 (au h2 h3)theorem cq{op:COp}{b:E}{x y:V}{t:Bool}(h1:af G cf a K U=.ok x aa)(h2:af G cf b K aa=.ok y ae)(h3:bC op x y ae=some t):af G cf (.cmp op a b) K U=.ok (.d (.bool t)) ae:=au h1 (au h2 (by rw[h3];rfl))theorem JC{t:Bool}(h1:af G cf a K U=.ok (.d (.bool t)) aa):af G cf (.not a) K U=.ok (.d (.bool (!t))) aa:=au h1 rfl
theorem Md{b:E}{q:Res V}(hc:af G cf c K U=.ok (.d (.bool true)) aa)(h:af G cf a K aa=q):af G cf (.ite c a b) K U=q:=au hc (h)theorem Mf{b:E}{q:Res V}(hc:af G cf c K U=.ok (.d (.bool false)) aa)(h:af G cf b K aa=q):af G cf (.ite c a b) K U=q:=au hc (h)theorem sZ{q:Res V}(h0:aU G cf es K U=.ok vs aa)(h:xx vs aa=q):af G cf (.tup es) K U=q:=au h0 (h)theorem bZ{i:E}{x y:V}(h1:af G cf a K U=.ok x aa)(h2:af G cf i K aa=.ok y ae)(h3:cK x y ae=some v):af G cf (.idx a i) K U=.ok v ae:=au h1 (au h2 (by rw[h3];rfl))theorem qr{m:Bool}{lo hi:EL}{x:V}{l h:Option V}{q:Res V}(h1:af G cf a K U=.ok x aa)(h2:dD G cf lo K aa=.ok l ae)(h3:dD G cf hi K ae=.ok h aF)(h4:gq m x l h aF=q):af G cf (.slc m a lo hi) K U=q:=au h1 (au h2 (au h3 h4))theorem JE{b:Bi}{m:Bool}{q:Res V}(h0:aU G cf es K U=.ok vs aa)(h:xV b m vs aa=q):af G cf (.bi b m es) K U=q:=au h0 h
theorem Mg{x:V}{q:Res V}(h1:af G cf e K U=.ok x aa)(h:K9 x aa=q):af G cf (.freeze e) K U=q:=au h1 (h)theorem d0{x:V}{xs:List V}(h1:af G cf e K U=.ok x aa)(h2:aU G cf es K aa=.ok xs ae):aU G cf (.cons e es) K U=.ok (x::xs) ae:=au h1 (au h2 rfl)theorem iB{x:V}(h1:af G cf e K U=.ok x aa):aU G cf (.cons e .nil) K U=.ok [x] aa:=d0 h1 (rfl)theorem Ar{x:V}(h1:af G cf e K U=.ok x aa):dD G cf (.cons e .nil) K U=.ok (some x) aa:=au h1 (rfl)theorem qs{q:Res V}(h1:af G cf e K U=.ok (.d (.bool true)) aa)(h2:af G cf (.bop true (.cons e' es)) K aa=q):af G cf (.bop true (.cons e (.cons e' es))) K U=q:=au h1 (h2)theorem jw(h1:af G cf e K U=.ok (.d (.bool false)) aa):af G cf (.bop true (.cons e (.cons e' es))) K U=.ok (.d (.bool false)) aa:=au h1 (rfl)theorem C2{q:Res V}(h1:af G cf e K U=.ok (.d (.bool false)) aa)(h2:af G cf (.bop false (.cons e' es)) K aa=q):af G cf (.bop false (.cons e (.cons e' es))) K U=q:=au h1 (h2)theorem Mc(h1:af G cf e K U=.ok (.d (.bool true)) aa):af G cf (.bop false (.cons e (.cons e' es))) K U=.ok (.d (.bool true)) aa:=au h1 (rfl)theorem cN{k:Bool}{q:Res V}(h:af G cf e K U=q):af G cf (.bop k (.cons e .nil)) K U=q:=h
theorem C3{a b:Bool}(h1:af G cf e K U=.ok (.d (.bool a)) U)(h2:a=false->af G cf (.bop false (.cons e' es)) K U=.ok (.d (.bool b)) U):af G cf (.bop false (.cons e (.cons e' es))) K U=.ok (.d (.bool (a||b))) U:=by
 cases a with
 |true=>exact Mc h1
 |false=>exact C2 h1 (h2 rfl)
theorem lV{a b:Bool}(h1:af G cf e K U=.ok (.d (.bool a)) U)(h2:a=true->af G cf (.bop true (.cons e' es)) K U=.ok (.d (.bool b)) U):af G cf (.bop true (.cons e (.cons e' es))) K U=.ok (.d (.bool (a&&b))) U:=by
 cases a with
 |true=>exact qs h1 (h2 rfl)
 |false=>exact jw (h1)theorem Gm{t t':Bool}(h:af G cf e K U=.ok (.d (.bool t)) aa)(q:t=t'):af G cf e K U=.ok (.d (.bool t')) aa:=q▸h
theorem ki(h:af G cf e K U=.ok v σ'):exec G cf (.asg (.var i) e) K U=.ok (.next (K.set i v)) σ':=au h (rfl)theorem uE{t:RT}{f:Nat}{q:Res Out}(h0:aU G cf es K U=.ok vs aa)(h:cf f vs aa=.ok v ae)(h2:jV t v K ae=q):exec G cf (.calls t f es) K U=q:=au h0 (au h h2)theorem Du(h1:execs G cf b K U=.ok (.ret v) aa):exec G cf (.tryS b h) K U=.ok (.ret v) aa:=au h1 (rfl)theorem yq{q:Res Out}(h1:execs G cf b K U=.ok (.exc k ds) aa)(h2:kJ cf h k ds aa=q):exec G cf (.tryS b h) K U=q:=au h1 (h2)theorem GH{f:Nat}{i x:E}(h0:aU G cf es K U=.ok vs aa)(h:cf f vs aa=.ok (.exc k ds) ae):exec G cf (.iteC f es i x b) K U=.ok (.exc k ds) ae:=au h0 (au h rfl)theorem Dw{f:Nat}{i x:E}{d:PyData}{t:Bool}{q:Res Out}(h0:aU G cf es K U=.ok vs aa)(h:cf f vs aa=.ok (.d d) ae)(h1:af G cf (.cmp .ne (.idx (.call f es) i) x) K U=.ok (.d (.bool t)) aa)(h2:(if t then execs G cf b K aa else .ok (.next K) aa)=q):exec G cf (.iteC f es i x b) K U=q:=au h0 (au h (au h1 h2))theorem Dv(h:af G cf e K U=.ok v σ'):exec G cf (.ret e) K U=.ok (.ret v) σ':=au h (rfl)theorem IQ{o i:E}{k:Str}{l:List (Str×PyData)}(h1:af G cf e K U=.ok (.d x) aa)(h2:af G cf o K aa=.ok (.loc n) ae)(h3:af G cf i K ae=.ok (.d (.str k)) aF)(hc:aF[n]?=some (.dct l))(hl:l.length < LIM):exec G cf (.put o i e) K U=.ok (.next K) (aF.set n (.dct (eZ k x l))):=au h1 (au h2 (au h3 (GW K aF hc hl)))theorem IR{a:SL}{q:Res Out}(h:af G cf c K U=.ok (.d (.bool true)) aa)(h2:execs G cf a K aa=q):exec G cf (.ite c a b) K U=q:=au h (h2)theorem Mq{a:SL}{q:Res Out}(h:af G cf c K U=.ok (.d (.bool false)) aa)(h2:execs G cf b K aa=q):exec G cf (.ite c a b) K U=q:=au h (h2)theorem aT{q:Res Out}(h:exec G cf s K U=.ok (.next ρ') aa)(h2:execs G cf r ρ' aa=q):execs G cf (.cons s r) K U=q:=au h (h2)theorem IU(h:exec G cf s K U=.ok (.exc k ds) aa):execs G cf (.cons s r) K U=.ok (.exc k ds) aa:=au h (rfl)theorem l4(h:exec G cf s K U=.ok (.ret v) aa):execs G cf (.cons s r) K U=.ok (.ret v) aa:=au h (rfl)theorem uI{a:SL}{q:Res Out}(h:af G cf c K U=.ok (.d (.bool false)) aa)(h2:execs G cf r K aa=q):execs G cf (.cons (.ite c a .nil) r) K U=q:=aT (Mq h rfl) (h2)theorem aZ{x:V}(h:af G cf e K U=.ok x aa)(ho:qS x aa=some (xs,none)):cA G cf (.seq e) K U=.ok ⟨xs,xs,none⟩ aa:=au h (by rw[ho];rfl)theorem iC{b:Int}(h:af G cf e K U=.ok (.d (.int b)) aa)(hb:-100000<=b/\b<=100000):cA G cf (.range e) K U=.ok ⟨b8 0 b,[],none⟩ aa:=au h (if_pos hb)theorem rI{a b:Int}(h:af G cf e K U=.ok (.d (.int a)) aa)(h':af G cf e' K aa=.ok (.d (.int b)) ae)(hb:(-100000<=a/\a<=100000)/\(-100000<=b/\b<=100000)):cA G cf (.range2 e e') K U=.ok ⟨b8 a b,[],none⟩ ae:=au h (au h' (if_pos hb))theorem oJ(h:af G cf e K U=.ok (.d (.tuple l)) aa):cA G cf (.enum e) K U=.ok ⟨kL l,[],none⟩ aa:=au h rfl
def aL(G:GD)(cf:CF)(t:Tgt)(b:SL):PyData->Fm->ac->Res Out:=λx ρ' σ'=>match fe t x ρ' with
 |none=>.bad
 |some ρ''=>execs G cf b ρ'' (σ')theorem a7(hI:cA G cf it K U=.ok ⟨xs,base,none⟩ aa)(hl:ba (aL G cf t b) xs K aa=.ok o ae):exec G cf (.forr t it b) K U=.ok o ae:=au hI (au (a:=o) (U:=ae) hl rfl)theorem aP{q:Res Out}(h:execs G cf b (K.set i (.d x)) U=q):aL G cf (.var i) b x K U=q:=(h)theorem d8{l:List Nat}{q:Res Out}(hl:l.length=ds.length)(h:execs G cf b (b7 l ds K) U=q):aL G cf (.tup l) b (.tuple ds) K U=q:=by have e:fe (.tup l) (.tuple ds) K=some (b7 l ds K):=if_pos hl;unfold aL;exact e▸h
theorem a6{q:Res Out}(h:f x K U=.ok (.next ρ') aa)(h2:ba f xs ρ' aa=q):ba f (x::xs) K U=q:=au h (h2)theorem Ei(h:f x K U=.ok (.exc k ds) aa):ba f (x::xs) K U=.ok (.exc k ds) aa:=au h (rfl)theorem jJ(h:f x K U=.ok (.ret v) aa):ba f (x::xs) K U=.ok (.ret v) aa:=au h (rfl)theorem Ej(φ:B->PyData)(P:List B->Fm->ac->Prop)(h:∀x xs K U,P (x::xs) K U->X2 λρ' σ'=>f (φ x) K U=.ok (.next ρ') σ'/\P xs ρ' σ'):∀xs K U,P xs K U->X2 λρ' σ'=>ba f (xs.map φ) K U=.ok (.next ρ') σ'/\P [] ρ' σ'
 |[]=>@λK U hp=>⟨K,U,rfl,hp⟩
 |x::xs=>@λK U hp=>by obtain⟨bV,aa,e,hp⟩:=h x xs K U hp;obtain⟨qk,ae,e2,hp⟩:=Ej φ P h xs bV aa hp;exact⟨qk,ae,a6 e e2,hp⟩def jS(G:GD)(cf:CF)(t:Tgt)(c:EL)(e:E)(K:Fm):PyData->ac->Res (Option PyData):=λx σ'=>match fe t x K with
 |none=>.bad
 |some ρ'=>(dD G cf c ρ' σ').bind λcv ae=>match cv with
   |none=>(af G cf e ρ' ae).bind λy aF=>bv ((bN y).map some) aF
   |some cv=>(bv (truthy ae cv) ae).bind λb ae=>if b then (af G cf e ρ' ae).bind λy aF=>bv ((bN y).map some) aF else .ok none (ae)theorem cG(U:ac)(c:Cell):(U++[c]).take U.length=U:=by simp
theorem Fo(m:Bool)(t:Tgt)(it:It)(c:EL)(e:E):af G cf (.comp m t it c e) K U=(cA G cf it K U).bind λI aa=>(iH (jS G cf t c e K) I.1 (c5 I.2.2 aa++[Cell.busy])).bind λr ae=>bh m r ((bx I.2.2 I.2.1 ae).take aa.length):=oj (rfl)theorem mq{m:Bool}{c:EL}{r:List PyData}(hI:cA G cf it K U=.ok ⟨xs,base,none⟩ aa)(hl:iH (jS G cf t c e K) xs (aa++[Cell.busy])=.ok r (aa++[Cell.busy])):af G cf (.comp m t it c e) K U=bh m r aa:=by rw[Fo,hI,tC];show (iH (jS G cf t c e K) xs (aa++[Cell.busy])).bind _=_;rw[hl,tC];show bh m r ((aa++[Cell.busy]).take aa.length)=_;rw[cG]theorem Nw{y:PyData}(h:af G cf e (K.set i (.d x)) U=.ok (.d y) U):jS G cf (.var i) .nil e K x U=.ok (some y) U:=by show (af G cf e (K.set i (.d x)) U).bind _=_;rw[h];rfl
theorem Ly{b:Bool}{y:PyData}(hc:af G cf c (K.set i (.d x)) U=.ok (.d (.bool b)) U)(h:b=true->af G cf e (K.set i (.d x)) U=.ok (.d y) U):jS G cf (.var i) (.cons c .nil) e K x U=.ok (if b then some y else none) U:=by
 show (dD G cf (.cons c .nil) (K.set i (.d x)) U).bind _=_;rw[Ar hc,tC];cases b with
 |true=>show (af G cf e (K.set i (.d x)) U).bind _=_;rw[h rfl];rfl
 |false=>(rfl)theorem iG{f:PyData->ac->Res (Option PyData)}(φ:B->PyData)(g:B->Option PyData):∀l:List B,(∀x∈l,f (φ x) U=.ok (g x) U)->iH f (l.map φ) U=.ok (l.filterMap g) U
 |[]=>@λ_=>rfl
 |x::l=>@λh=>by rw[Qs,Il,h x (PH ..),tC,iG φ g l λy hy=>h y (PG _ hy),tC,Rz];cases g x<;>rfl
theorem E6(b:B->Bool)(g:B->PyData)(l:List B):(l.filterMap λx=>if b x then some (g x) else none)=(l.filter b).map g:=by
 induction l with
 |nil=>rfl
 |cons x l ih=>cases h:b x<;>simp[h,ih]theorem lU(φ g:B->PyData)(hI:cA G cf it K U=.ok ⟨ps.map φ,base,none⟩ aa)(h:∀p∈ps,af G cf e (K.set i (.d (φ p))) (aa++[Cell.busy])=.ok (.d (g p)) (aa++[Cell.busy])):af G cf (.comp false (.var i) it .nil e) K U=.ok (.d (.list (ps.map g))) aa:=by refine(mq hI (r:=ps.map g) ?_).trans rfl;rw[iG φ (λp=>some (g p)) ps λp hp=>Nw (h p hp),RV]theorem fi(φ g:B->PyData)(b:B->Bool)(hI:cA G cf it K U=.ok ⟨ps.map φ,base,none⟩ aa)(hc:∀p∈ps,af G cf c (K.set i (.d (φ p))) (aa++[Cell.busy])=.ok (.d (.bool (b p))) (aa++[Cell.busy]))(h:∀p∈ps,b p=true->af G cf e (K.set i (.d (φ p))) (aa++[Cell.busy])=.ok (.d (g p)) (aa++[Cell.busy])):af G cf (.comp false (.var i) it (.cons c .nil) e) K U=.ok (.d (.list ((ps.filter b).map g))) aa:=by refine(mq hI (r:=(ps.filter b).map g) ?_).trans rfl;rw[iG φ (λp=>if b p then some (g p) else none) ps λp hp=>Ly (hc p hp) (h p hp),E6]
end
theorem fk(n:Nat):b8 0 (n:Int)=(List.range n).map λ(k:Nat)=>PyData.int (k:Int):=by unfold b8;rw[TX,Qu];refine RA λk _=>?_;rw[TY]
theorem vY{G:GD}{cf:CF}{eb:E}{b:Int}(g:Nat->PyData)(hb:af G cf eb K U=.ok (.d (.int b)) U)(h1:0<=b/\b<=1000)(h:∀k:Nat,k < b.toNat->af G cf e (K.set i (.d (.int (k:Int)))) (U++[Cell.busy])=.ok (.d (g k)) (U++[Cell.busy])):af G cf (.comp false (.var i) (.range eb) .nil e) K U=.ok (.d (.list ((List.range b.toNat).map g))) U:=by
 obtain⟨n,rfl⟩:∃n:Nat,b=(n:Int):=⟨b.toNat,by lia⟩
 have hI:=iC (G:=G) (cf:=cf) hb (by lia);rw[fk]at hI;exact lU (λ(k:Nat)=>PyData.int (k:Int)) g hI λk hk=>h k (Rf.mp hk)theorem LT{x:Int}(m:Bool)(U:ac)(h:y.natAbs < 9223372036854775808):dj .mul m (.d (.int x)) (.d (.int y)) U=.ok (.d (.int (x * y))) U:=Jk _ _ (by simp[tL,h])theorem Pl{x:Int}(m:Bool)(U:ac)(h:x.natAbs < 9223372036854775808):dj .mul m (.d (.int x)) (.d (.int y)) U=.ok (.d (.int (x * y))) U:=Jk _ _ (by simp[tL,h])theorem cQ(x:Int){m:Int}(h:0 < m):0<=x % m/\x % m < m:=⟨R4 _ (SJ h),SZ _ h⟩theorem Od{c m:Int}(b:Bool)(U:ac)(h0:0 < m)(h:m<=9223372036854775808):dj .mul b (.d (.int (c % m))) (.d (.int y)) U=.ok (.d (.int (c % m * y))) U:=Pl _ _ (by have:=cQ c h0;lia)variable {fn:Fn}{args:List V}{d:Nat}{p:pV}
theorem kS{f:Nat}{q:Res V}(h:p.2 f=some fn)(ha:args.length=fn.np)(hb:execs p.1 (aj p d) fn.body (args++List.replicate (fn.ns - fn.np) .un) U=.ok o σ')(hq:nH U.length o σ'=q):aj p (d+1) f args U=q:=by
 show (match p.2 f with
   |none=>Res.bad
   |some fn=>if args.length=fn.np then
       (execs p.1 (aj p d) fn.body (args++List.replicate (fn.ns - fn.np) .un) U).bind λo aa=>nH U.length o aa
     else .bad)=q
 rw[h];exact(if_pos ha).trans (by rw[hb];exact hq)theorem nB(x:PyData)(h:σ'.take n=U):nG n (.d x) σ'=.ok (.d x) U:=congrArg (Res.ok (V.d x)) (h)theorem Lx{f:Nat}(h:p.2 f=some fn)(ha:args.length=fn.np)(hb:execs p.1 (aj p d) fn.body (args++List.replicate (fn.ns - fn.np) .un) U=.ok (.exc k ds) σ')(ht:σ'.take U.length=U):aj p (d+1) f args U=.ok (.exc k ds) U:=kS h ha hb (by show Res.ok (V.exc k ds) (σ'.take U.length)=_;exact congrArg _ ht)theorem oP{f:Nat}(h:p.2 f=some fn)(ha:args.length=fn.np)(hb:execs p.1 (aj p d) fn.body (args++List.replicate (fn.ns - fn.np) .un) U=.ok (.ret (.d x)) σ')(ht:σ'.take U.length=U):aj p (d+1) f args U=.ok (.d x) U:=kS h ha hb (nB x ht)theorem cI{f:Nat}(h:p.2 f=some fn)(ha:args.length=fn.np)(hb:execs p.1 (aj p d) fn.body (args++List.replicate (fn.ns - fn.np) .un) U=.ok (.ret (.d x)) U):aj p (d+1) f args U=.ok (.d x) U:=oP h ha hb List.take_length
theorem Fz{f:Nat}{c:Cell}{g g':List Cell}(h:p.2 f=some fn)(ha:args.length=fn.np)(hb:execs p.1 (aj p d) fn.body (args++List.replicate (fn.ns - fn.np) .un) U=.ok (.ret (.loc k)) (U++(g++c::g')))(hk:k=U.length+g.length)(hc:(∃l,c=.lst l)\/∃l,c=.dct l):aj p (d+1) f args U=.ok (.loc U.length) (U++[c]):=by
 refine kS h ha hb ?_;subst hk;have e:(U++(g++c::g'))[U.length+g.length]?=some c:=by simp
 have t:(U++(g++c::g')).take U.length=U:=by simp
 refine(?_:nG U.length (.loc (U.length+g.length)) (U++(g++c::g'))=_);rcases hc with⟨l,rfl⟩|⟨l,rfl⟩
 . exact(if_neg (SQ.mpr (PW _ _))).trans (by rw[e,t])
 . exact(if_neg (SQ.mpr (PW _ _))).trans (by rw[e,t])noncomputable abbrev F5(a b c d e:V):Fm:=[a,b,c,d,e]noncomputable abbrev F6(a b c d e f:V):Fm:=[a,b,c,d,e,f]noncomputable abbrev F7(a b c d e f g:V):Fm:=[a,b,c,d,e,f,g]noncomputable abbrev F8(a b c d e f g h:V):Fm:=[a,b,c,d,e,f,g,h]noncomputable abbrev F9(a b c d e f g h i:V):Fm:=[a,b,c,d,e,f,g,h,i]noncomputable abbrev IC(a b c d e f g h i j:V):Fm:=[a,b,c,d,e,f,g,h,i,j]noncomputable abbrev LN(a b c d e f g h i j k l m n:V):Fm:=[a,b,c,d,e,f,g,h,i,j,k,l,m,n]noncomputable abbrev PA(a b c d e f g h i j k l m n o p q r:V):Fm:=[a,b,c,d,e,f,g,h,i,j,k,l,m,n,o,p,q,r]def FK(t:Nat)(a b:Prop):Prop:=match t % 2 with
 |0=>a
 |_=>(b)def Oh{B:Type}(r:Option B)(k:B->Prop):Prop:=match r with
 |some v=>k v
 |none=>(True)def B7{B:Type}(r:Res B)(k:B->ac->Prop):Prop:=match r with
 |.ok v U=>k v U
 |.bad=>(True)def Io{B:Type}(t:Nat)(r:Res B)(k:B->ac->Nat->Prop):Prop:=FK t (B7 r λv U=>k v U (t / 2)) (∀{v U},r=.ok v U->k v U (t / 2))def CD{B:Type}(t:Nat)(r:Option B)(k:B->Nat->Prop):Prop:=FK t (Oh r λv=>k v (t / 2)) (∀{v},r=some v->k v (t / 2))variable {t:Nat}
theorem vD{a b:Prop}(ha:a)(hb:b):FK t a b:=by
 unfold FK;cases t % 2 with
 |zero=>exact ha
 |succ n=>exact hb
theorem EM{r:Option B}{k:B->Prop}(h:∀v,r=some v->k v):Oh r k:=by
 cases r with
 |some v=>exact h v rfl
 |none=>(trivial)variable {r:Res B}
theorem gh{k:B->ac->Prop}(h:∀v U,r=.ok v U->k v U):B7 r k:=by
 cases r with
 |ok v U=>exact h v U rfl
 |bad=>(trivial)theorem vC{k:B->ac->Nat->Prop}(h:∀v U t,r=.ok v U->k v U t):Io t r k:=vD (gh λv U e=>h v U _ e) λe=>h _ _ _ (e)theorem nZ{r:Option B}{k:B->Nat->Prop}(h:∀v t,r=some v->k v t):CD t r k:=vD (EM λv e=>h v _ e) λe=>h _ _ (e)def yb(b:Me)(x:V)(bH:ac)(vs:List V)(U:ac):Res V:=if sK b bH x then Gd b x vs U else .bad
variable {a:B}theorem Mu{Y:Type}{f:ac->Res Y}{b:Y}{k:B->Y->ac->Res γ}{q:Res γ}(h:r=.ok a U)(h2:f U=.ok b ae)(h3:k a b ae=q):(r.bind λx aa=>(f aa).bind (k x))=q:=au h (au h2 h3)variable {bH:ac}{x:V}
theorem Kt{b:Me}(h1:aU G cf es K bH=.ok vs U)(h2:yb b x bH vs U=.ok v aa):(if sK b bH x then (aU G cf es K bH).bind λvs ae=>Gd b x vs ae else .bad)=.ok v aa:=by
 unfold yb at h2;cases h:sK b bH x with
 |true=>rw[h,if_pos rfl]at h2;rw[if_pos rfl];exact au h1 h2
 |false=>rw[h,if_neg P0]at h2;injection h2
theorem Hm{o:Option Fm}(h:bv o U=.ok K aa):bv (o.map Out.next) U=.ok (.next K) aa:=by
 cases o with
 |none=>injection h
 |some x=>injection h with e f;subst e;subst f;rfl
section
variable (G:GD)(cf:CF)
mutual
def pE:E->Fm->ac->Nat->(V->ac->Nat->Prop)->Prop
 |.none=>λ_ U t k=>k (.d .none) U t
 |.bool b=>λ_ U t k=>k (.d (.bool b)) U t
 |.int i=>λ_ U t k=>k (.d (.int i)) U t
 |.str x=>λ_ U t k=>k (.d (.str x)) U t
 |.bin op m a b=>λK U t k=>pE a K U t λx U t=>pE b K U t λy U t=>Io t (dj op m x y U) k
 |.var i=>λK U t k=>B7 (af G cf (.var i) K U) λv U=>k v U t
 |.glob g=>λK U t k=>B7 (af G cf (.glob g) K U) λv U=>k v U t
 |.dict0=>λ_ U t k=>k (.loc U.length) (U++[.dct []]) t
 |.neg a=>λK U t k=>pE a K U t λx U t=>B7 (oc (cH x) (λi=>.ok (.d (.int (-i))) U) .bad) λv U=>k v U t
 |.isx n a=>λK U t k=>pE a K U t λx U t=>B7 (KL n x U) λv U=>k v U t
 |.freeze a=>λK U t k=>pE a K U t λx U t=>∀{v aa},K9 x U=.ok v aa->k v aa t
 |.not a=>λK U t k=>pE a K U t λx U t=>Oh (truthy U x) λb=>k (.d (.bool (!b))) U t
 |.bop q es=>λK U t k=>FK t (pB q es K U (t / 2) k) (∀{v aa},af G cf (.bop q es) K U=.ok v aa->k v aa (t / 2))
 |.cmp op a b=>λK U t k=>pE a K U t λx U t=>pE b K U t λy U t=>CD t (bC op x y U) λb t=>k (.d (.bool b)) U t
 |.ite c a b=>λK U t k=>pE c K U t λx U t=>CD t (truthy U x) λq t=>match q with
   |true=>pE a K U t k
   |false=>pE b K U t k
 |.tup es=>λK U t k=>pL es K U t λvs U t=>B7 (xx vs U) λv U=>k v U t
 |.list m es=>λK U t k=>pL es K U t λvs U t=>B7 (AT m vs U) λv U=>k v U t
 |.idx a i=>λK U t k=>pE a K U t λx U t=>pE i K U t λy U t=>CD t (cK x y U) λv t=>k v U t
 |.slc m a lo hi=>λK U t k=>pE a K U t λx U t=>pO lo K U t λl U t=>pO hi K U t λh U t=>Io t (gq m x l h U) k
 |.call f es=>λK U t k=>pL es K U t λvs U t=>∀{v aa},cf f vs U=.ok v aa->B7 (mw v aa) λv U=>k v U t
 |.bi b m es=>λK U t k=>pL es K U t λvs U t=>Io t (xV b m vs U) k
 |.meth b o es=>λK U t k=>pE o K U t λx bH t=>pL es K bH t λvs U t=>∀{v aa},yb b x bH vs U=.ok v aa->k v aa t
 |e=>λK U t k=>∀{v aa},af G cf e K U=.ok v aa->k v aa (t)def pB(q:Bool):EL->Fm->ac->Nat->(V->ac->Nat->Prop)->Prop
 |.nil=>λ_ _ _ _=>True
 |.cons e es=>λK U t k=>match es with
   |.nil=>pE e K U t k
   |es=>pE e K U t λx U t=>CD t (truthy U x) λb t=>match b==q with
     |true=>pB q es K U t k
     |false=>k x U (t)def pL:EL->Fm->ac->Nat->(List V->ac->Nat->Prop)->Prop
 |.nil=>λ_ U t k=>k [] U t
 |.cons e es=>λK U t k=>pE e K U t λx U t=>pL es K U t λxs U t=>k (x::xs) U (t)def pO:EL->Fm->ac->Nat->(Option V->ac->Nat->Prop)->Prop
 |.nil=>λ_ U t k=>k none U t
 |.cons e _=>λK U t k=>pE e K U t λx U t=>k (some x) U t
end
mutual
def pS:S->Fm->ac->Nat->(Out->ac->Nat->Prop)->Prop
 |.expr e=>λK U t k=>pE G cf e K U t λ_ U t=>k (.next K) U t
 |.asg g e=>λK U t k=>pE G cf e K U t λx U t=>B7 (bv (Ji g x K) U) λK U=>k (.next K) U t
 |.asgT l e=>λK U t k=>pE G cf e K U t λx U t=>B7 (oc (jy x) (λds=>if l.length=ds.length then .ok (.next (b7 l ds K)) U else .bad) .bad) λo U=>k o U t
 |.ite c a b=>λK U t k=>pE G cf c K U t λx U t=>CD t (truthy U x) λq t=>match q with
   |true=>J9 a K U t k
   |false=>J9 b K U t k
 |.ret e=>λK U t k=>pE G cf e K U t λx U t=>k (.ret x) U t
 |.calls g f es=>λK U t k=>pL G cf es K U t λvs U t=>∀{v aa},cf f vs U=.ok v aa->B7 (jV g v K aa) λo U=>k o U t
 |.raise n es=>λK U t k=>pL G cf es K U t λvs U t=>B7 (NR n vs U) λo U=>k o U t
 |s=>λK U t k=>∀{o aa},exec G cf s K U=.ok o aa->k o aa (t)def J9:SL->Fm->ac->Nat->(Out->ac->Nat->Prop)->Prop
 |.nil=>λK U t k=>k (.next K) U t
 |.cons s r=>λK U t k=>pS s K U t λo U t=>match o with
   |.next K=>J9 r K U t k
   |o=>k o U t
end
mutual
theorem cZ:∀(e:E) {K:Fm} {U:ac} {t:Nat} {k:V->ac->Nat->Prop},(∀v σ' t,af G cf e K U=.ok v σ'->k v σ' t)->pE G cf e K U t k
 |.none=>λh=>h _ _ _ rfl
 |.bool _=>λh=>h _ _ _ rfl
 |.int _=>λh=>h _ _ _ rfl
 |.str _=>λh=>h _ _ _ rfl
 |.bin op m a b=>λh=>cZ a λx aa t e1=>cZ b λy ae t e2=>vC λv aF t e3=>h _ _ _ (Mu e1 e2 e3)
 |.not a=>λh=>cZ a λx aa t e1=>EM λv e3=>h _ _ _ (au e1 (by rw[e3];rfl))
 |.cmp op a b=>λh=>cZ a λx aa t e1=>cZ b λy ae t e2=>nZ λv t e3=>h _ _ _ (Mu e1 e2 (by rw[e3];rfl))
 |.ite c a b=>λh=>cZ c λx aa t e1=>nZ λv t e3=>match v,e3 with
   |true,e3=>cZ a λy ae t e4=>h _ _ _ (au e1 (by rw[e3];exact e4))
   |false,e3=>cZ b λy ae t e4=>h _ _ _ (au e1 (by rw[e3];exact e4))
 |.tup es=>λh=>o3 es λx aa t e1=>gh λv aF e3=>h _ _ _ (au e1 e3)
 |.list m es=>λh=>o3 es λx aa t e1=>gh λv aF e3=>h _ _ _ (au e1 e3)
 |.idx a i=>λh=>cZ a λx aa t e1=>cZ i λy ae t e2=>nZ λv t e3=>h _ _ _ (Mu e1 e2 (by rw[e3];rfl))
 |.slc m a lo hi=>λh=>cZ a λx aa t e1=>IW lo λy ae t e2=>IW hi λy ae t e3=>vC λv aF t e4=>h _ _ _ (au e1 (Mu e2 e3 e4))
 |.call f es=>λh=>o3 es λx aa t e1=>λe2=>gh λv aF e3=>h _ _ _ (au e1 (au e2 e3))
 |.bi b m es=>λh=>o3 es λx aa t e1=>vC λv aF t e3=>h _ _ _ (au e1 e3)
 |.meth b o es=>λh=>cZ o λx aa t e1=>o3 es λy ae t e2=>λe3=>h _ _ _ (au e1 (Kt e2 e3))
 |.var _=>λh=>gh λv U=>h v U _
 |.glob _=>λh=>gh λv U=>h v U _
 |.dict0=>λh=>h _ _ _ rfl
 |.neg a=>λh=>cZ a λx aa t e1=>gh λv aF e3=>h _ _ _ (au e1 e3)
 |.isx n a=>λh=>cZ a λx aa t e1=>gh λv aF e3=>h _ _ _ (au e1 e3)
 |.freeze a=>λh=>cZ a λx aa t e1=>λe3=>h _ _ _ (au e1 e3)
 |.bop q es=>λh=>vD (DT q es h) λe=>h _ _ _ e
 |.cmp2 ..=>λh=>λe=>h _ _ _ e
 |.comp ..=>λh=>λe=>h _ _ _ e
theorem DT(q:Bool):∀(es:EL) {K:Fm} {U:ac} {t:Nat} {k:V->ac->Nat->Prop},(∀v σ' t,iE G cf q es K U=.ok v σ'->k v σ' t)->pB G cf q es K U t k
 |.nil=>λ_=>trivial
 |.cons e .nil=>λh=>cZ e h
 |.cons e (.cons e' es)=>λh=>cZ e λx aa t e1=>nZ λb t e2=>match b,q,e2,h with
   |true,true,e2,h=>DT true (.cons e' es) λv σ' t e3=>h _ _ _ (au e1 (by rw[e2];exact e3))
   |false,false,e2,h=>DT false (.cons e' es) λv σ' t e3=>h _ _ _ (au e1 (by rw[e2];exact e3))
   |true,false,e2,h=>h _ _ _ (au e1 (by rw[e2];rfl))
   |false,true,e2,h=>h _ _ _ (au e1 (by rw[e2];rfl))theorem o3:∀(es:EL) {K:Fm} {U:ac} {t:Nat} {k:List V->ac->Nat->Prop},(∀v σ' t,aU G cf es K U=.ok v σ'->k v σ' t)->pL G cf es K U t k
 |.nil=>λh=>h _ _ _ rfl
 |.cons e es=>λh=>cZ e λx aa t e1=>o3 es λy ae t e2=>h _ _ _ (Mu e1 e2 rfl)theorem IW:∀(es:EL) {K:Fm} {U:ac} {t:Nat} {k:Option V->ac->Nat->Prop},(∀v σ' t,dD G cf es K U=.ok v σ'->k v σ' t)->pO G cf es K U t k
 |.nil=>λh=>h _ _ _ rfl
 |.cons e _=>λh=>cZ e λx aa t e1=>h _ _ _ (au e1 rfl)
end
mutual
theorem IV:∀(e:S) {K:Fm} {U:ac} {t:Nat} {k:Out->ac->Nat->Prop},(∀v σ' t,exec G cf e K U=.ok v σ'->k v σ' t)->pS G cf e K U t k
 |.expr e=>λh=>cZ G cf e λx aa t e1=>h _ _ _ (au e1 rfl)
 |.asg g e=>λh=>cZ G cf e λx aa t e1=>gh λv aF e3=>h _ _ _ (au e1 (Hm e3))
 |.asgT l e=>λh=>cZ G cf e λx aa t e1=>gh λv aF e3=>h _ _ _ (au e1 e3)
 |.ite c a b=>λh=>cZ G cf c λx aa t e1=>nZ λv t e3=>match v,e3 with
   |true,e3=>oE a λy ae t e4=>h _ _ _ (au e1 (by rw[e3];exact e4))
   |false,e3=>oE b λy ae t e4=>h _ _ _ (au e1 (by rw[e3];exact e4))
 |.ret e=>λh=>cZ G cf e λx aa t e1=>h _ _ _ (au e1 rfl)
 |.calls g f es=>λh=>o3 G cf es λx aa t e1=>λe2=>gh λv aF e3=>h _ _ _ (au e1 (au e2 e3))
 |.raise n es=>λh=>o3 G cf es λx aa t e1=>gh λv aF e3=>h _ _ _ (au e1 e3)
 |.put ..=>λh=>λe=>h _ _ _ e
 |.forr ..=>λh=>λe=>h _ _ _ e
 |.pass=>λh=>λe=>h _ _ _ e
 |.stop=>λh=>λe=>h _ _ _ e
 |.tryS ..=>λh=>λe=>h _ _ _ e
 |.iteC ..=>λh=>λe=>h _ _ _ (e)theorem oE:∀(e:SL) {K:Fm} {U:ac} {t:Nat} {k:Out->ac->Nat->Prop},(∀v σ' t,execs G cf e K U=.ok v σ'->k v σ' t)->J9 G cf e K U t k
 |.nil=>λh=>h _ _ _ rfl
 |.cons s r=>λh=>IV s λo aa t e1=>match o,e1 with
   |.next K,e1=>oE r λv σ' t e2=>h _ _ _ (au e1 e2)
   |.ret v,e1=>h _ _ _ (au e1 rfl)
   |.exc n ds,e1=>h _ _ _ (au e1 rfl)
end
end
noncomputable def tl:SL->SL
 |.cons _ r=>r
 |.nil=>.nil
noncomputable def B4:SL->S
 |.cons s _=>s
 |.nil=>.pass
theorem GR(G:GD)(cf:CF)(e:S)(K:Fm)(U:ac)(t:Nat):pS G cf e K U t λv σ' _=>exec G cf e K U=.ok v σ':=IV G cf e λ_ _ _ h=>(h)theorem ch(G:GD)(cf:CF)(e:SL)(K:Fm)(U:ac)(t:Nat):J9 G cf e K U t λv σ' _=>execs G cf e K U=.ok v σ':=oE G cf e λ_ _ _ h=>(h)noncomputable def chk(p:pV)(f:Nat)(args:List V):Option (SL×Nat):=match p.2 f with
 |some fn=>if args.length=fn.np then some (fn.body,fn.ns - fn.np) else none
 |none=>none
theorem xO{f:Nat}(h:chk p f args=some (b,n))(e:execs p.1 (aj p d) b (args++List.replicate n V.un) U=.ok o σ'):aj p (d+1) f args U=nH U.length o σ':=by
 unfold chk at h;show (match p.2 f with
   |none=>Res.bad
   |some fn=>if args.length=fn.np then
       (execs p.1 (aj p d) fn.body (args++List.replicate (fn.ns - fn.np) V.un) U).bind λo aa=>nH U.length o aa
     else .bad)=_
 cases hp:p.2 f with
 |none=>rw[hp]at h;injection h
 |some fn=>
   replace h:=hp▸h;by_cases ha:args.length=fn.np
   . cases (if_pos ha).symm.trans h;exact(if_pos ha).trans (au e rfl)
   . cases (if_neg ha).symm.trans h
theorem ww(p:pV)(f d:Nat)(args:List V)(U:ac)(h:chk p f args=some (b,n))(t:Nat):J9 p.1 (aj p d) b (args++List.replicate n V.un) U t λo σ' _=>aj p (d+1) f args U=nH U.length o σ':=oE p.1 (aj p d) b λ_ _ _ e=>xO h (e)def Pt(o:Out)(k:V->Prop):Prop:=match o with
 |.ret (.d x)=>k (.d x)
 |.next _=>k (.d .none)
 |.exc n ds=>k (.exc n ds)
 |_=>True
theorem aX(p:pV)(f d:Nat)(args:List V)(U:ac)(h:chk p f args=some (b,n))(t:Nat):J9 p.1 (aj p d) b (args++List.replicate n V.un) U t λo σ' _=>Pt o λv=>σ'.take U.length=U->aj p (d+1) f args U=.ok v U:=oE p.1 (aj p d) b λo σ' _ e=>by
 have q:=xO h e;clear e;cases o with
 |next K=>exact λe=>q.trans (congrArg (Res.ok (V.d .none)) e)
 |exc n ds=>exact λe=>q.trans (congrArg (Res.ok (V.exc n ds)) e)
 |ret v=>cases v with
   |d x=>exact λe=>q.trans (congrArg (Res.ok (V.d x)) e)
   |_=>(trivial)noncomputable abbrev eP (vs:Array Value) (n:Nat):Obj:={ cls:=.type "list",dict:=none,data:=.seq vs n,slots:=#[] }noncomputable abbrev pJ (vs:Array Value) (n:Nat):Obj:={ cls:=.type "tuple",dict:=none,data:=.seq vs n,slots:=#[] }def cY(x:Str):Prop:=PyData.strOk x=true/\x.cps.size<=LIM
mutual
inductive Rel(T:Addr->Prop)(h:Heap):Value->PyData->Prop
 |none:Rel T h .none .none
 |bool (b:Bool):Rel T h (.bool b) (.bool b)
 |int (i:Int) (t:Tok):Rel T h (.int i t) (.int i)
 |str (x:Str) (t:Tok):cY x->Rel T h (.str x t) (.str x)
 |list {a:Addr} {vs:Array Value} {n:Nat} {xs:List PyData}:h.get? a=some (eP vs n)->¬ T a->xs.length<=LIM->RelAll T h vs.toList xs->Rel T h (.ref a) (.list xs)
 |tuple {a:Addr} {vs:Array Value} {n:Nat} {xs:List PyData}:h.get? a=some (pJ vs n)->¬ T a->xs.length<=LIM->RelAll T h vs.toList xs->Rel T h (.ref a) (.tuple xs)
inductive RelAll(T:Addr->Prop)(h:Heap):List Value->List PyData->Prop
 |nil:RelAll T h [] []
 |cons {v:Value} {vs:List Value} {d:PyData} {ds:List PyData}:Rel T h v d->RelAll T h vs ds->RelAll T h (v::vs) (d::ds)
end
def xA(o:Obj)(vs:Array Value)(n:Nat):Prop:=o.data=.seq vs n\/∃C,o.cls=.ref C/\(o.data=.fields vs\/o.data=.plain)def cj(h:Heap)(a:Addr):Prop:=X3 λo vs n=>h.get? a=some o/\xA o vs (n)variable {T T':Addr->Prop}{h h':Heap}{vs:List Value}{d:PyData}{v:Value}
theorem Rel.mono(H:∀a o vs n,h.get? a=some o->xA o vs n->¬ T a->h'.get? a=some o/\¬ T' a)(r:Rel T h v d):Rel T' h' v d:=
 Rel.rec (motive_1:=λv d _=>Rel T' h' v d) (motive_2:=λvs ds _=>RelAll T' h' vs ds) .none .bool .int .str (λho ht hl _ ih=>.list (H _ _ _ _ ho (.inl rfl) ht).1 (H _ _ _ _ ho (.inl rfl) ht).2 hl ih)
   (λho ht hl _ ih=>.tuple (H _ _ _ _ ho (.inl rfl) ht).1 (H _ _ _ _ ho (.inl rfl) ht).2 hl ih) .nil (λ_ _ a b=>.cons a b) r
theorem RelAll.ind{P:List Value->List PyData->Prop}(h0:P [] [])(h1:∀{v vs d ds},Rel T h v d->P vs ds->P (v::vs) (d::ds))(r:RelAll T h vs ds):P vs ds:=
 RelAll.rec (motive_1:=λ_ _ _=>True) (motive_2:=λvs ds _=>P vs ds) trivial (λ_=>trivial) (λ_ _=>trivial) (λ_ _ _=>trivial) (λ_ _ _ _ _=>trivial) (λ_ _ _ _ _=>trivial) h0 (λr _ _ ih=>h1 r ih) r
theorem RelAll.mono(H:∀a o vs n,h.get? a=some o->xA o vs n->¬ T a->h'.get? a=some o/\¬ T' a)(r:RelAll T h vs ds):RelAll T' h' vs ds:=
 r.ind .nil λr ih=>.cons (r.mono H) ih
theorem Rel.reads(r:Rel T h v d):∃as,Reads h v d as:=
 Rel.rec (motive_1:=λv d _=>∃as,Reads h v d as) (motive_2:=λvs ds _=>∃as,ReadsAll h vs ds as) ⟨_,.none⟩ (λb=>⟨_,.bool b⟩) (λi t=>⟨_,.int i t⟩) (λx t _=>⟨_,.str x t⟩)
   (λho _ _ _ ih=>ih.elim λ_ q=>⟨_,.list ho rfl rfl q⟩) (λho _ _ _ ih=>ih.elim λ_ q=>⟨_,.tuple ho rfl rfl q⟩) ⟨_,.nil⟩ (λ_ _ a b=>a.elim λ_ p=>b.elim λ_ q=>⟨_,.cons p q⟩) r
theorem RelAll.reads(r:RelAll T h vs ds):∃as,ReadsAll h vs ds as:=r.ind (P:=λvs ds=>∃as,ReadsAll h vs ds as) ⟨_,.nil⟩ λr ih=>r.reads.elim λ_ p=>ih.elim λ_ q=>⟨_,.cons p q⟩
theorem Rel.lay(r:Rel T h v d):d.canLay0=true:=
 Rel.rec (motive_1:=λv d _=>d.canLay0=true) (motive_2:=λvs ds _=>PyData.canLayAll0 ds=true) rfl (λ_=>rfl) (λ_ _=>rfl) (λ_ _ e=>e.1) (λ_ _ _ _ ih=>ih) (λ_ _ _ _ ih=>ih) rfl (λ_ _ a b=>PK.mpr ⟨a,b⟩) r
theorem RelAll.lay(r:RelAll T h vs ds):PyData.canLayAll0 ds=true:=r.ind (P:=λ_ ds=>PyData.canLayAll0 ds=true) rfl λr ih=>PK.mpr ⟨r.lay,ih⟩
theorem RelAll.inv(r:RelAll T h vs (d::ds)):X2 λv vs'=>A3 (vs=v::vs') (Rel T h v d) (RelAll T h vs' ds):=by
 cases r with
 |cons r rs=>exact⟨_,_,rfl,r,rs⟩theorem RelAll.inv0(r:RelAll T h vs []):vs=[]:=by cases r;rfl
theorem RelAll.length(r:RelAll T h vs ds):vs.length=ds.length:=by
 induction ds generalizing vs with
 |nil=>rw[r.inv0];rfl
 |cons d ds ih=>obtain⟨v,vs',rfl,_,rs⟩:=r.inv;rw[PZ,PZ,ih rs]
theorem RelAll.append{ws:List Value}{es:List PyData}(r:RelAll T h vs ds)(q:RelAll T h ws es):RelAll T h (vs++ws) (ds++es):=by
 induction ds generalizing vs with
 |nil=>exact r.inv0▸q
 |cons d ds ih=>obtain⟨v,vs',rfl,x,rs⟩:=r.inv;exact .cons x (ih rs)
theorem RelAll.get{vs:List Value}{ds:List PyData}(r:RelAll T h vs ds){k:Nat}{d:PyData}(e:ds[k]?=some d):∃v,vs[k]?=some v/\Rel T h v d:=by
 induction ds generalizing vs k with
 |nil=>injection e
 |cons d' ds ih=>
   obtain⟨v,vs',rfl,x,rs⟩:=r.inv;cases k with
   |zero=>injection e with e;subst e;exact⟨_,rfl,x⟩
   |succ k=>exact ih rs e
theorem RelAll.getV(r:RelAll T h vs ds)(e:vs[k]?=some v):∃d,ds[k]?=some d/\Rel T h v d:=by
 have hk:k < ds.length:=by exact r.length▸(PB.mp e).1
 obtain⟨w,hw,q⟩:=r.get (PD hk);rw[e]at hw;injection hw with e;subst e;exact⟨_,PD hk,q⟩
theorem RelAll.drop(k:Nat)(r:RelAll T h vs ds):RelAll T h (vs.drop k) (ds.drop k):=by
 induction k generalizing vs ds with
 |zero=>exact r
 |succ k ih=>cases ds with
   |nil=>exact r.inv0▸.nil
   |cons d ds=>obtain⟨v,vs',rfl,_,rs⟩:=r.inv;exact ih rs
theorem RelAll.take(k:Nat)(r:RelAll T h vs ds):RelAll T h (vs.take k) (ds.take k):=by
 induction k generalizing vs ds with
 |zero=>exact .nil
 |succ k ih=>cases ds with
   |nil=>exact r.inv0▸.nil
   |cons d ds=>obtain⟨v,vs',rfl,x,rs⟩:=r.inv;exact .cons x (ih rs)theorem RelAll.one(r:Rel T h v d):RelAll T h [v] [d]:=.cons r .nil
def Cell.live:Cell->Bool
 |.lst _ | .dct _=>true
 |_=>(false)noncomputable def Cell.isGone:Cell->Bool
 |.gone=>true
 |_=>(false)variable {c:Cell}theorem Cell.live_not_gone(h:c.live=true):c.isGone=false:=by cases c<;>first|rfl|injection h
def TT(Y:List Addr)(U:ac)(a:Addr):Prop:=X2 λ(k:Nat) (c:Cell)=>A3 (Y[k]?=some a) (U[k]?=some c) (c.isGone=false)def WW(Y:List Addr)(U:ac)(a:Addr):Prop:=X2 λ(k:Nat) (c:Cell)=>A3 (Y[k]?=some a) (U[k]?=some c) (c.live=true)variable {a:Addr}{Y:List Addr}theorem WW.tt:WW Y U a->TT Y U a:=λ⟨k,c,h1,h2,h3⟩=>⟨k,c,h1,h2,Cell.live_not_gone h3⟩theorem TT.mem:TT Y U a->a∈Y:=λ⟨_,_,h1,_,_⟩=>PF h1
structure Cx where
 prog:Program
 w:World
 h₀:Heap
 mg:Str->Option Value
 mb:Str->Option Value
 fr:List Addr
 /-- code that may run while an exception is handled -/
 q:Bool
noncomputable abbrev WP(Z:Cx){B:Type}(A:Around)(t:Sem B)(Q:B->Shared->Prop)(E:VP)(s:Shared):Prop:=wpAny (model Z.prog Z.w) A t Q E s
def jW(Z:Cx)(T:Addr->Prop)(h hd:Heap)(a:Addr)(l:List (Str×PyData)):Prop:=
 ∃kvs:List (Str×Value),A5 (h.DictOf (strKind Z.prog Z.w) a kvs) (kvs.map (·.1)=l.map (·.1)) (RelAll T hd (kvs.map (·.2)) (l.map (·.2))) ((∀k∈l.map (·.1),cY k)) (l.length<=LIM)def fQ(Z:Cx)(T:Addr->Prop)(h hd:Heap)(a:Addr):Cell->Prop
 |.lst l=>X2 λvs n=>A3 (h.get? a=some (eP vs n)) (RelAll T hd vs.toList l) (l.length<=LIM)
 |.dct l=>jW Z T h hd a l
 |_=>∃o,h.get? a=some (o)def Iz(Z:Cx)(Y:List Addr)(U:ac)(h:Heap):Prop:=∀(k:Nat) (a:Addr) (c:Cell),Y[k]?=some a->U[k]?=some c->fQ Z (TT Y U) h h a c
structure Inv(Z:Cx)(Y:List Addr)(U:ac)(h:Heap):Prop where
 len:Y.length=U.length
 nodup:Y.Nodup
 base:∀a o,Z.h₀.get? a=some o->h.get? a=some o
 fresh:∀a∈Y,Z.h₀.get? a=none
 cell:Iz Z Y U h
def gd(o:Obj):Prop:=X2 λes n=>o.data=.dict es (n)def F0(Y:List Addr)(U:ac)(σ':ac):Prop:=∀(k:Nat) (c':Cell),k < Y.length->σ'[k]?=some c'->∃c,A4 (U[k]?=some c) ((c'.live=true->c.live=true)) ((c.isGone=true->c'.isGone=true)) (c=.busy->c'=.busy)def CK(O:Addr->Prop)(Y:List Addr)(U:ac)(s:Shared)(s':Shared):Prop:=∀a o,s.heap.get? a=some o->¬ WW Y U a->¬ O a->s'.heap.get? a=some o\/(gd o/\a∉Y/\∃sl,s'.heap.get? a=some { o with slots:=sl })
structure Step(O:Addr->Prop)(Y:List Addr)(U:ac)(s:Shared)(β':List Addr)(σ':ac)(s':Shared):Prop where
 ext:∃e,β'=Y++e/\∀a∈e,s.heap.get? a=none
 mono:F0 Y U σ'
 keepW:CK O Y U s s'
 alive:∀a,s'.heap.get? a=none->s.heap.get? a=none
 gens:s'.gens=s.gens
 os:s'.os=s.os
abbrev cz:Addr->Prop:=λ_=>(False)variable {x:Addr}{O' O:Addr->Prop}{Z:Cx}{hd:Heap}{ag a5:List Addr}{o:Obj}{s ai aq:Shared}
theorem fQ.ex(r:fQ Z T h hd a c):∃o,h.get? a=some o:=by
 cases c with
 |lst _=>obtain⟨_,_,e,_⟩:=r;exact⟨_,e⟩
 |dct _=>obtain⟨_,⟨o,_,_,e,_⟩,_⟩:=r;exact⟨o,e⟩
 |gone=>exact r
 |busy=>exact r
theorem Inv.at(I:Inv Z Y U h)(hk:Y[k]?=some a):∃c,U[k]?=some c/\fQ Z (TT Y U) h h a c:=by
 have hlt:k < U.length:=by exact I.len▸(PB.mp hk).1
 exact⟨U[k],PD hlt,I.cell k a _ hk (PD hlt)⟩theorem Inv.ex(I:Inv Z Y U h)(ha:a∈Y):∃o,h.get? a=some o:=by obtain⟨k,hk⟩:=Q2 ha;obtain⟨c,_,r⟩:=I.at hk;exact(r.ex)theorem Step.keep(a:Step O Y U s ag aa ai)(x:Addr)(o:Obj)(hx:s.heap.get? x=some o)(hw:¬ WW Y U x)(hO:¬ O x)(hn:¬ gd o):ai.heap.get? x=some o:=(a.keepW x o hx hw hO).resolve_right λq=>hn (q.1)theorem Jc(h:∀a o,s.heap.get? a=some o->¬ WW Y U a->¬ O a->ai.heap.get? a=some o):∀a o,s.heap.get? a=some o->¬ WW Y U a->¬ O a->ai.heap.get? a=some o\/(gd o/\a∉Y/\∃sl,ai.heap.get? a=some { o with slots:=sl }):=λa o e w n=>.inl (h a o e w n)theorem tI{vs:Array Value}(h:xA o vs n):¬ gd o:=λ⟨es,m,q⟩=>by rcases h with h|⟨_,_,h|h⟩<;>rw[h]at q<;>injection q
def gk(Z:Cx)(Y:List Addr)(h:Heap):Prop:=∀f∈Z.fr,(∃o,h.get? f=some o/\gd o)/\f∉Y/\Z.h₀.get? f=none
theorem gk.step(F:gk Z Y s.heap)(S:Step O Y U s ag aa ai)(hO:∀f∈Z.fr,¬ O f):gk Z ag ai.heap:=λf hf=>by
 obtain⟨⟨o,e,q⟩,nb,n0⟩:=F f hf;refine⟨?_,λm=>?_,n0⟩
 . rcases S.keepW f o e (λz=>nb z.tt.mem) (hO f hf) with h|⟨_,_,sl,h⟩
   . exact⟨o,h,q⟩
   . exact⟨_,h,q⟩
 . obtain⟨l,rfl,g⟩:=S.ext;rcases PT.mp m with m|m
   . exact nb m
   . rw[g f m]at e;injection e
theorem gk.not(F:gk Z Y h)(e:h.get? a=none):a∉Z.fr:=λm=>by obtain⟨⟨o,q,_⟩,_⟩:=F a m;rw[e]at q;injection q
theorem gk.grow(F:gk Z Y h)(hk:∀f o,f∈Z.fr->h.get? f=some o->gd o->∃o',h'.get? f=some o'/\gd o'):gk Z Y h':=λf hf=>by obtain⟨⟨o,e,q⟩,r⟩:=F f hf;exact⟨hk f o hf e q,r⟩
theorem Step.refl:Step O Y U s Y U s:=
 ⟨⟨[],by simp,by simp⟩,λk c' _ e=>⟨c',e,id,id,id⟩,Jc λ_ _ e _ _=>e,λ_ e=>e,rfl,rfl⟩
theorem Step.trans(a:Step O Y U s ag aa ai)(b:Step O ag aa ai a5 ae aq):Step O Y U s a5 ae aq:=by
 obtain⟨e1,rfl,f1⟩:=a.ext;obtain⟨e2,rfl,f2⟩:=b.ext;refine⟨⟨e1++e2,by simp,λx hx=>?_⟩,λk c' hk hc=>?_,λx o hx hw hO=>?_,λx hx=>a.alive x (b.alive x hx),b.gens.trans a.gens,b.os.trans a.os⟩
 . rcases PT.mp hx with h1|h1
   . exact f1 x h1
   . exact a.alive x (f2 x h1)
 . obtain⟨c1,g1,g2,g3,g4⟩:=b.mono k c' (by rw[PC];exact Qt hk (PW ..)) hc;obtain⟨c,k1,k2,k3,k4⟩:=a.mono k c1 hk g1;exact⟨c,k1,λz=>k2 (g2 z),λz=>g3 (k3 z),λz=>g4 (k4 z)⟩
 . have nw:¬ WW (Y++e1) aa x:=?_
   . rcases a.keepW x o hx hw hO with q|⟨f,nb,sl,q⟩
     . exact(b.keepW x o q nw hO).imp id λ⟨f,n,r⟩=>⟨f,λm=>n (Q3 _ m),r⟩
     . rcases b.keepW x _ q nw hO with q'|⟨_,_,sl',q'⟩
       . exact .inr ⟨f,nb,sl,q'⟩
       . exact .inr ⟨f,nb,sl',q'⟩
   rintro⟨k,c,h1,h2,h3⟩
   by_cases hk:k < Y.length
   . obtain⟨c0,k1,k2,_⟩:=a.mono k c hk h2;exact hw ⟨k,c0,by rwa [P3 hk]at h1,k1,k2 h3⟩
   . rw[PY (QF hk)]at h1;have:=f1 x (PF h1);rw[hx]at this;injection this
theorem Step.weaken(a:Step O Y U s ag aa ai)(hO:∀x,O x->O' x):Step O' Y U s ag aa ai:=
 ⟨a.ext,a.mono,λx o hx hw hn=>a.keepW x o hx hw λz=>hn (hO x z),a.alive,a.gens,a.os⟩theorem Step.ofNo(a:Step cz Y U s ag aa ai):Step O Y U s ag aa ai:=a.weaken λ_ z=>z.elim
theorem Step.drop(a:Step O Y U s ag aa ai)(hO:∀x,O x->s.heap.get? x=none):Step cz Y U s ag aa ai:=
 ⟨a.ext,a.mono,λx o hx hw _=>a.keepW x o hx hw (λz=>by rw[hO x z]at hx;injection hx),a.alive,a.gens,a.os⟩
theorem Step.notTT(a:Step O Y U s ag aa ai)(hx:s.heap.get? x=some o)(ht:¬ TT Y U x):¬ TT ag aa x:=by
 rintro⟨k,c,h1,h2,h3⟩
 obtain⟨e,rfl,f⟩:=a.ext;by_cases hk:k < Y.length
 . obtain⟨c0,k1,k2,k3,_⟩:=a.mono k c hk h2;refine ht ⟨k,c0,by rwa [P3 hk]at h1,k1,?_⟩;cases hg:c0.isGone with
   |false=>rfl
   |true=>rw[k3 hg]at h3;injection h3
 . rw[PY (QF hk)]at h1;have:=f x (PF h1);rw[hx]at this;injection this
theorem Step.relH(a:Step O Y U s ag aa ai)(hO:∀x,O x->¬ cj s.heap x) :
   ∀x o vs n,s.heap.get? x=some o->xA o vs n->¬ TT Y U x->ai.heap.get? x=some o/\¬ TT ag aa x:=
 λx o vs n hx hd ht=>⟨a.keep x o hx (λz=>ht z.tt) (λz=>hO x z ⟨o,vs,n,hx,hd⟩) (tI hd),a.notTT hx ht⟩theorem Step.rel(a:Step O Y U s ag aa ai)(hO:∀x,O x->¬ cj s.heap x)(r:Rel (TT Y U) s.heap v d):Rel (TT ag aa) ai.heap v d:=r.mono (a.relH hO)theorem Step.relAll(a:Step O Y U s ag aa ai)(hO:∀x,O x->¬ cj s.heap x)(r:RelAll (TT Y U) s.heap vs ds):RelAll (TT ag aa) ai.heap vs ds:=r.mono (a.relH hO)theorem Step.get(a:Step O Y U s ag aa ai)(hk:Y[k]?=some x):ag[k]?=some x:=by obtain⟨e,rfl,_⟩:=a.ext;rw[P3 (PB.mp hk).1];exact(hk)def aE(Y:List Addr)(U:ac)(h:Heap)(v:Value):V->Prop
 |.un=>False
 |.d x=>Rel (TT Y U) h v x
 |.loc n=>∃a,Y[n]?=some a/\v=.ref a
 |.exc k ds=>X3 λe o vs=>A4 (v=.ref e) (h.get? e=some o) ((o.cls=.ref (KA k)/\o.data=.fields vs/\(1<=k/\k<=6))) (¬ TT Y U e)abbrev eY(Y:List Addr)(U:ac)(h:Heap):List Value->List V->Prop:=Paired (aE Y U h)variable {iW c':Cell}{bj hd':Heap}
theorem aE.mono(hb:∀(n:Nat) (a:Addr),Y[n]?=some a->ag[n]?=some a)(H:∀x o vs n,h.get? x=some o->xA o vs n->¬ TT Y U x->bj.get? x=some o/\¬ TT ag aa x){x:V}(r:aE Y U h v x):aE ag aa bj v x:=by
 cases x with
 |un=>exact r
 |d _=>exact Rel.mono H r
 |loc _=>obtain⟨x,h1,h2⟩:=r;exact⟨x,hb _ _ h1,h2⟩
 |exc _ _=>obtain⟨e,o,vs,h1,h2,h3,h4⟩:=r;have q:=H e o vs 0 h2 (.inr ⟨_,h3.1,.inl h3.2.1⟩) h4;exact⟨e,o,vs,h1,q.1,h3,q.2⟩theorem Step.vrel0(a:Step cz Y U s ag aa ai){x:V}(r:aE Y U s.heap v x):aE ag aa ai.heap v x:=r.mono (λ_ _ e=>a.get e) (a.relH λ_ z=>z.elim)theorem Step.rel0(a:Step cz Y U s ag aa ai)(r:Rel (TT Y U) s.heap v d):Rel (TT ag aa) ai.heap v d:=a.rel (λ_ z=>z.elim) (r)theorem Step.relAll0(a:Step cz Y U s ag aa ai){v:List Value}{d:List PyData}(r:RelAll (TT Y U) s.heap v d):RelAll (TT ag aa) ai.heap v d:=a.relAll (λ_ z=>z.elim) r
theorem Step.grow(hk:∀a o,s.heap.get? a=some o->ai.heap.get? a=some o)(hg:ai.gens=s.gens)(ho:ai.os=s.os):Step O Y U s Y U ai:=
 ⟨⟨[],by simp,by simp⟩,λk c' _ e=>⟨c',e,id,id,id⟩,Jc λa o e _ _=>hk a o e,λa e=>(by
   cases q:s.heap.get? a with
   |none=>rfl
   |some o=>rw[hk a o q]at e;injection e),hg,ho⟩
theorem jW.mono{l:List (Str×PyData)}(r:jW Z T h hd a l)(ha:∀o,h.get? a=some o->h'.get? a=some o)
   (H:∀a o vs n,hd.get? a=some o->xA o vs n->¬ T a->hd'.get? a=some o/\¬ T' a):jW Z T' h' hd' a l:=by
 obtain⟨kvs,⟨o,es,ep,e1,e2⟩,q,r,st,su⟩:=r;exact⟨kvs,⟨o,es,ep,ha _ e1,e2⟩,q,r.mono H,st,su⟩
theorem fQ.mono(r:fQ Z T h hd a c)(ha:∀o,h.get? a=some o->h'.get? a=some o)
   (H:∀a o vs n,hd.get? a=some o->xA o vs n->¬ T a->hd'.get? a=some o/\¬ T' a):fQ Z T' h' hd' a c:=by
 cases c with
 |lst l=>obtain⟨vs,n,e,r,z⟩:=r;exact⟨vs,n,ha _ e,r.mono H,z⟩
 |dct l=>exact jW.mono r ha H
 |gone=>obtain⟨o,e⟩:=r;exact⟨o,ha _ e⟩
 |busy=>obtain⟨o,e⟩:=r;exact⟨o,ha _ e⟩
theorem Inv.grow(I:Inv Z Y U h)(hk:∀a o,h.get? a=some o->h'.get? a=some o):Inv Z Y U h':=
 ⟨I.len,I.nodup,λa o e=>hk a o (I.base a o e),I.fresh,λk a c h1 h2=>(I.cell k a c h1 h2).mono (λo e=>hk a o e) λa o _ _ e _ t=>⟨hk a o e,t⟩⟩
theorem Be(hl:Y.length=U.length):TT (Y++[a]) (U++[c]) x↔TT Y U x\/(x=a/\c.isGone=false):=by
 constructor
 . rintro⟨k,c',h1,h2,h3⟩
   by_cases hk:k < Y.length
   . rw[P3 hk]at h1;rw[P3 (hl▸hk)]at h2;exact .inl ⟨k,c',h1,h2,h3⟩
   . rw[PY (QF hk)]at h1;rw[PY (hl▸QF hk)]at h2;have e:k - Y.length=0:=Ta.mp (PB.mp h1).1;rw[e]at h1;rw[<- hl,e]at h2;simp at h1 h2;subst h1 h2;exact .inr ⟨rfl,h3⟩
 . rintro (⟨k,c',h1,h2,h3⟩|⟨rfl,h3⟩)
   . exact⟨k,c',by rw[P3 (PB.mp h1).1];exact h1,by rw[P3 (PB.mp h2).1];exact h2,h3⟩
   . exact⟨Y.length,c,by simp,by rw[hl];simp,h3⟩
theorem uQ(I:Inv Z Y U s.heap)(hk:∀a o,s.heap.get? a=some o->ai.heap.get? a=some o)(hf:s.heap.get? a=none)(hg:ai.gens=s.gens)(ho:ai.os=s.os)
   (hc:fQ Z (TT Y U) ai.heap s.heap a c):Step O Y U s (Y++[a]) (U++[c]) ai/\Inv Z (Y++[a]) (U++[c]) ai.heap:=by
 have hna:a∉Y:=λm=>by obtain⟨o,e⟩:=I.ex m;rw[hf]at e;injection e
 have H0:∀x o vs n,s.heap.get? x=some o->xA o vs n->¬ TT Y U x->ai.heap.get? x=some o/\¬ TT (Y++[a]) (U++[c]) x:=λx o vs n e d t=>⟨hk x o e,λz=>((Be I.len).mp z).elim t λq=>by rw[q.1,hf]at e;injection e⟩
 refine⟨⟨⟨[a],rfl,by simpa using hf⟩,λk c' hk' e=>?_,Jc λx o e _ _=>hk x o e,λx e=>?_,hg,ho⟩,⟨by simp[I.len],?_,λx o e=>hk x o (I.base x o e),?_,?_⟩⟩
 . rw[P3 (by exact I.len▸hk')]at e;exact⟨c',e,id,id,id⟩
 . cases q:s.heap.get? x with
   |none=>rfl
   |some o=>rw[hk x o q]at e;injection e
 . rw[RH];exact⟨I.nodup,by simp,λx hx y hy=>by simp at hy;clear hc H0;subst hy;rintro rfl;exact hna hx⟩
 . intro x hx;rcases PT.mp hx with h1|h1
   . exact I.fresh x h1
   . simp at h1;clear H0;subst h1;cases q:Z.h₀.get? x with
     |none=>rfl
     |some o=>rw[I.base x o q]at hf;injection hf
 . intro k x c' h1 h2;by_cases hk':k < Y.length
   . rw[P3 hk']at h1;rw[P3 (by exact I.len▸hk')]at h2;exact(I.cell k x c' h1 h2).mono (λo e=>hk x o e) H0
   . rw[PY (QF hk')]at h1;rw[PY (by rw[<- I.len];exact QF hk')]at h2;have e:k - Y.length=0:=Ta.mp (PB.mp h1).1;rw[e]at h1;rw[<- I.len,e]at h2;simp at h1 h2;subst h1 h2;exact hc.mono (λo e=>e) (H0)theorem d3(hne:n≠k):(U.set n c)[k]?=U[k]?:=by simp[hne]theorem dg(hn:U[n]?=some iW):(U.set n c)[n]?=some c:=by have:=(PB.mp hn).1;simp[this]
theorem d9{P:Prop}(hn:U[n]?=some iW)(e:(U.set n c)[k]?=some c')(h1:k=n->c'=c->P)(h2:n≠k->U[k]?=some c'->P):P:=by
 by_cases hne:n=k
 . rw[<- hne,dg hn]at e;exact h1 hne.symm (Option.some.inj e).symm
 . rw[d3 hne]at e;exact h2 hne (e)theorem oh(hn:U[n]?=some iW)(hg:iW.isGone=false)(z:TT Y (U.set n c) x):TT Y U x:=by obtain⟨k,c',h1,h2,h3⟩:=z;exact d9 hn h2 (λe _=>⟨k,iW,h1,e▸hn,hg⟩) λ_ h2=>⟨k,c',h1,h2,h3⟩theorem Inv.addr_ne(I:Inv Z Y U h)(hb:Y[n]?=some a)(h1:Y[k]?=some x)(hne:n≠k):x≠a:=λq=>hne ((Td (PB.mp hb).1 I.nodup).mp (hb.trans (q▸h1).symm))
theorem Inv.setc(I:Inv Z Y U h)(hb:Y[n]?=some a)(hn:U[n]?=some iW)(base:∀x o,Z.h₀.get? x=some o->h'.get? x=some o)(keep:∀x o,x≠a->h.get? x=some o->h'.get? x=some o)
   (H0:∀x o vs n',h.get? x=some o->xA o vs n'->¬ TT Y U x->h'.get? x=some o/\¬ TT Y (U.set n c) x) (hc:fQ Z (TT Y (U.set n c)) h' h' a c):Inv Z Y (U.set n c) h':=
 ⟨I.len.trans (Sr ..).symm,I.nodup,base,I.fresh,λk x c' h1 h2=>d9 hn h2 (λe e'=>by rw[e',Option.some.inj (h1.symm.trans (e▸hb))];exact hc) λhne h2=>(I.cell k x c' h1 h2).mono (λo e=>keep x o (I.addr_ne hb h1 hne) e) H0⟩
theorem oB(I:Inv Z Y U s.heap)(hb:Y[n]?=some a)(hn:U[n]?=some iW)(hl:iW.live=true)(hk:∀x o,x≠a->s.heap.get? x=some o->ai.heap.get? x=some o)
   (hg:ai.gens=s.gens) (ho:ai.os=s.os) (hc:fQ Z (TT Y U) ai.heap s.heap a c):Step O Y U s Y (U.set n c) ai/\Inv Z Y (U.set n c) ai.heap:=by
 have gn:=Cell.live_not_gone hl;have H0:∀x o vs n',s.heap.get? x=some o->xA o vs n'->¬ TT Y U x->ai.heap.get? x=some o/\¬ TT Y (U.set n c) x:=λx o vs n' e d t=>⟨hk x o (λq=>t (q▸⟨n,iW,hb,hn,gn⟩)) e,λz=>t (oh hn gn z)⟩
 refine⟨⟨⟨[],(P6 _).symm,λ_ z=>absurd z QI⟩,λk c' hk' e=>d9 hn e (λe _=>⟨iW,e▸hn,λ_=>hl,λz=>absurd (gn.symm.trans z) P0,λz=>absurd hl (z▸P0)⟩) λ_ e=>⟨c',e,id,id,id⟩,Jc λx o e hw _=>hk x o (λq=>hw (q▸⟨n,iW,hb,hn,hl⟩)) e,λx e=>?_,hg,ho⟩,
   I.setc hb hn (λx o e=>hk x o (λq=>?_) (I.base x o e)) hk H0 (hc.mono (λo e=>e) H0)⟩
 . cases q:s.heap.get? x with
   |none=>rfl
   |some o=>
     by_cases hx:x=a
     . refine hc.ex.elim λo' e'=>?_;rw[hx,e']at e;injection e
     . rw[hk x o hx q]at e;injection e
 . exact SR o (e.symm.trans (q▸I.fresh a (PF hb)))
theorem uA(I:Inv Z Y U s.heap)(hb:Y[n]?=some a)(hn:U[n]?=some iW)(hl:iW.live=true)(hc:c.live=false):Step O Y U s Y (U.set n c) s/\Inv Z Y (U.set n c) s.heap:=by
 have hg:=Cell.live_not_gone hl;refine⟨⟨⟨[],(P6 _).symm,λ_ z=>absurd z QI⟩,λk c' hk' e=>d9 hn e (λe e'=>⟨iW,e▸hn,λz=>absurd (hc.symm.trans (e'▸z)) P0,λz=>absurd (hg.symm.trans z) P0,λz=>absurd hl (z▸P0)⟩) λ_ e=>⟨c',e,id,id,id⟩,Jc λx o e hw _=>e,λx e=>e,rfl,rfl⟩,
   I.setc hb hn I.base (λ_ _ _ e=>e) (λx o vs n' e d t=>⟨e,λz=>t (oh hn hg z)⟩) ?_⟩
 have z:=(I.cell n a iW hb hn).ex;cases c with
 |lst l=>injection hc
 |dct l=>injection hc
 |gone=>exact z
 |busy=>exact z
theorem y6(I:Inv Z Y U s.heap)(hb:Y[n]?=some a)(hn:U[n]?=some (.lst l)):Rel (TT Y (U.set n .gone)) s.heap (.ref a) (.list l):=by
 obtain⟨vs,m,e,r,hz⟩:=I.cell n a _ hb hn;refine .list e ?_ hz (r.mono λx o vs n' e d t=>⟨e,λz=>t (oh hn rfl z)⟩)
 rintro⟨k,c',h1,h2,h3⟩
 exact d9 hn h2 (λ_ e=>Q5 (h3.symm.trans (congrArg Cell.isGone e))) λhne _=>I.addr_ne hb h1 hne rfl
theorem Br(I:Inv Z Y U s.heap)(hb:Y[n]?=some a)(hn:U[n]?=some (.lst l))(S:Step O Y (U.set n .busy) s ag aa ai)(hO:∀x,O x->¬ cj s.heap x)(ay:Inv Z ag aa ai.heap) :
   Step O Y U s ag (aa.set n (.lst l)) ai/\Inv Z ag (aa.set n (.lst l)) ai.heap:=by
 obtain⟨vs,m,e,r,hz⟩:=I.cell n a _ hb hn;have I5:=S.get hb;have nz:aa[n]?=some .busy:=by obtain⟨Oo,nz,_⟩:=ay.at I5;obtain⟨c',k1,k2,k3,k4⟩:=S.mono n Oo (PB.mp hb).1 nz;rw[dg hn]at k1;rw[nz,k4 (Option.some.inj k1).symm]
 have H0:∀x o vs' n',ai.heap.get? x=some o->xA o vs' n'->¬ TT ag aa x->ai.heap.get? x=some o/\¬ TT ag (aa.set n (.lst l)) x:=λx o _ _ ex _ t=>⟨ex,λz=>t (oh nz rfl z)⟩;refine⟨⟨S.ext,λk c' hk e=>d9 nz e (λe e'=>⟨_,e▸hn,(λ_=>rfl),(λz=>by injection z),λz=>by injection z⟩) λhne e=>?_,λx o ex hw hO'=>S.keepW x o ex (λ⟨k,c',h1,h2,h3⟩=>d9 hn h2 (λ_ e=>Q5 (h3.symm.trans (congrArg Cell.live e))) λ_ h2=>hw ⟨k,c',h1,h2,h3⟩) hO',S.alive,S.gens,S.os⟩,
   ay.setc I5 nz ay.base (λ_ _ _ e=>e) H0 ⟨vs,m,(S.keep a _ e (λ⟨k,c',h1,h2,h3⟩=>d9 hn h2 (λ_ e=>Q5 (h3.symm.trans (congrArg Cell.live e))) λhne _=>I.addr_ne hb h1 hne rfl) (λz=>hO a z ⟨_,vs,m,e,.inl rfl⟩) (tI (.inl rfl))),r.mono λx o vs' n' ex d t=>?_,hz⟩⟩
 . obtain⟨c,g1,g2,g3,g4⟩:=S.mono k c' hk e;rw[d3 hne]at g1;exact⟨c,g1,g2,g3,g4⟩
 . have q:=S.relH hO x o vs' n' ex d λz=>t (oh hn rfl z);exact H0 x o vs' n' q.1 d q.2
set_option tactic.hygienic true in
theorem oa:TT (Y.take n) (U.take n) x->TT Y U x:=by
 rintro⟨k,c,h1,h2,h3⟩
 rw[Rm]at h1 h2;split at h1
 . rename_i hk;rw[if_pos hk]at h2;exact⟨k,c,h1,h2,h3⟩
 . injection h1
set_option tactic.hygienic true in
theorem Inv.take(I:Inv Z Y U h)(n:Nat):Inv Z (Y.take n) (U.take n) h:=by
 refine⟨by simp[I.len],I.nodup.sublist (R7 ..),I.base,λa ha=>I.fresh a (Qa ha),λk a c h1 h2=>?_⟩;rw[Rm]at h1 h2;split at h1
 . rename_i hk;rw[if_pos hk]at h2;exact(I.cell k a c h1 h2).mono (λo e=>e) λx o _ _ e _ t=>⟨e,λz=>t (oa z)⟩
 . injection h1
theorem Step.take(a:Step O Y U s ag aa ai)(hl:Y.length=U.length)(O1:ag.length=aa.length):Step O Y U s (ag.take U.length) (aa.take U.length) ai:=by obtain⟨e,rfl,f⟩:=a.ext;refine⟨⟨[],by simp[<- hl],by simp⟩,λk c' hk hc=>a.mono k c' hk ?_,a.keepW,a.alive,a.gens,a.os⟩;rw[Rm,if_pos (hl▸hk)]at hc;exact(hc)theorem Gw(r:Rel (TT Y U) h v d):Rel (TT (Y.take n) (U.take n)) h v d:=r.mono λx o _ _ e _ t=>⟨e,λz=>t (oa z)⟩
theorem FY(hb:Y[k]?=some a)(hc:U[k]?=some c)(hl:Y.length=U.length):TT (Y.take n++[a]) (U.take n++[c]) x->TT Y U x:=λz=>by
 rcases (Be (by simp[hl])).mp z with z|⟨rfl,z'⟩
 . exact oa z
 . exact⟨k,c,hb,hc,z'⟩
theorem HU(S:Step O Y U s ag aa ai)(hl:Y.length=U.length)(ay:Inv Z ag aa ai.heap)(hk:U.length<=k)(hb:ag[k]?=some a)(hc:aa[k]?=some c) :
   Step O Y U s (ag.take U.length++[a]) (aa.take U.length++[c]) ai/\Inv Z (ag.take U.length++[a]) (aa.take U.length++[c]) ai.heap:=by
 have Ue:=ay.take U.length;obtain⟨e,rfl,f⟩:=S.ext;have ha:a∈e:=by rw[PY (hl▸hk)]at hb;exact PF hb
 have hlen:(List.take U.length aa).length=U.length:=by rw[Qn];exact Qo (Qg (P8 hk (PB.mp hc).1))
 have hβ:List.take U.length (Y++e)=Y:=by simp[<- hl]
 have H0:∀x o vs n,ai.heap.get? x=some o->xA o vs n->¬ TT (Y++e) aa x->ai.heap.get? x=some o/\¬ TT ((Y++e).take U.length++[a]) (aa.take U.length++[c]) x:=
   λx o _ _ ex _ t=>⟨ex,λz=>t (FY hb hc ay.len z)⟩
 refine⟨⟨⟨[a],by rw[hβ],by simpa using f a ha⟩,λj c' hj hc'=>?_,S.keepW,S.alive,S.gens,S.os⟩,⟨by simp[hβ,hlen,hl],?_,ay.base,λx hx=>?_,λj x c' h1 h2=>?_⟩⟩
 . rw[P3 (by rw[hlen,<- hl];exact hj)]at hc';exact(S.take hl ay.len).mono j c' hj hc'
 . rw[hβ,RH];have nd:=RH.mp ay.nodup;exact⟨nd.1,by simp,λx hx y hy=>by simp at hy;clear H0;subst hy;exact nd.2.2 x hx y ha⟩
 . rcases PT.mp hx with h1|h1
   . exact Ue.fresh x h1
   . simp at h1;clear H0;subst h1;exact ay.fresh x (QJ _ ha)
 . by_cases hj:j < Y.length
   . rw[hβ,P3 hj]at h1;rw[P3 (by rw[hlen,<- hl];exact hj),Rm,if_pos (hl▸hj)]at h2;exact(ay.cell j x c' (by rw[P3 hj];exact h1) h2).mono (λo e=>e) H0
   . rw[hβ,PY (QF hj)]at h1;rw[PY (by rw[hlen,<- hl];exact QF hj)]at h2;have ej:j - Y.length=0:=Ta.mp (PB.mp h1).1;rw[ej]at h1;rw[hlen,<- hl,ej]at h2;simp at h1 h2;subst h1 h2;exact(ay.cell k a c hb hc).mono (λo e=>e) (H0)def lT(Z:Cx)(d:Nat)(A:Around):Prop:=(Z.q=false->A.handled=none)/\A.depth+d+2 < recursionLimit/\A.units+8 * d+200 < cLine/\∃l:List Env,A3 (A.frames=some l) (l.map (·.frame)=Z.fr.map some) (∀env∈l,env.scope.kind=.function)variable {A:Around}{d:Nat}theorem lT.room(h:lT Z d A):A.units+200 < cLine:=P8 (PL (PW _ _) _) h.2.2.1
theorem lT.deeper(env:Env){f:Addr}(hf:env.frame=some f)(hk:env.scope.kind=.function)(h:lT Z (d+1) A):lT { Z with fr:=f::Z.fr } d (A.deeper env):=by
 obtain⟨h1,h2,h3,l,h4,h5,h6⟩:=h;refine⟨h1,QR A.depth 1 d▸h2,P8 (PL (by show A.units+3+8 * d<=_;rw[Qq,Qw 3];exact Qh (Qh (by decide) _) _) _) h3,env::l,Around.frames_deeper h4,?_,λe he=>?_⟩
 . rw[Qs,Qs,hf,h5]
 . rcases PO.mp he with rfl|he
   . exact hk
   . exact h6 e he
inductive Po(Z:Cx)(O:Addr->Prop)(Y:List Addr)(U:ac)(s:Shared)(σ':ac)(s':Shared)(R:List Addr->Prop):Prop where
 |mk (β':List Addr) (S:Step O Y U s β' σ' s') (I:Inv Z β' σ' s'.heap) (r:R β'):Po Z O Y U s σ' s' R
def Ev{B γ:Type}(Z:Cx)(O:Addr->Prop)(A:Around)(t:Sem B)(r:Res γ)(R:B->γ->List Addr->ac->Heap->Prop)(Y:List Addr)(U:ac)(s:Shared):Prop:=
 ∀c σ',r=.ok c σ'->WP Z A t (λa s'=>Po Z O Y U s σ' s' λβ'=>R a c β' σ' s'.heap) (λ_ _=>False) s
variable {pos:Pos}{r:Res γ}{t:Sem B}{R:B->γ->List Addr->ac->Heap->Prop}{c:γ}
section
variable {α' γ':Type}{R':α'->γ'->List Addr->ac->Heap->Prop}
theorem Ev.bind{m:Sem B}{f:B->Sem α'}{k:γ->ac->Res γ'}(h:Ev Z O A m r R Y U s)
   (hf:∀a c β' σ' s',Step O Y U s β' σ' s'->Inv Z β' σ' s'.heap->R a c β' σ' s'.heap->r=.ok c σ'->Ev Z O A (f a) (k c σ') R' β' σ' s'):Ev Z O A (m >>= f) (r.bind k) R' Y U s:=by
 intro c' σ' e;cases r with
 |bad=>injection e
 |ok c aa=>refine OL (PQ (h c aa rfl) (λa ai bj=>?_) λ_ _ x=>x);obtain⟨ag,aH,ay,wu⟩:=bj;refine PQ (hf a c ag aa ai aH ay wu rfl c' σ' e) (λa' aq gg=>?_) λ_ _ x=>x;obtain⟨a5,cC,cD,uF⟩:=gg;exact⟨a5,aH.trans cC,cD,uF⟩theorem Ev.bad:Ev Z O A t (.bad:Res γ) R Y U s:=λ_ _ e=>by injection e
theorem Ev.pure{a:B}(I:Inv Z Y U s.heap)(h:R a c Y U s.heap):Ev Z O A (pure a) (.ok c U) R Y U s:=λ_ _ e=>by injection e with e f;subst e;subst f;exact PJ ⟨Y,Step.refl,I,h⟩theorem Ev.holding(h:Ev Z O A t r R Y U s):Ev Z O A (holding vs t) r R Y U s:=λc σ' e=>QT (h c σ' e)theorem Ev.standAt(h:Ev Z O A t r R Y U s):Ev Z O A (standAt pos >>= λ_=>t) r R Y U s:=λc σ' e=>OL (QA (h c σ' e))theorem Ev.done(h:WP Z A t (λa s'=>Po Z O Y U s aa s' λβ'=>R a c β' aa s'.heap) (λ_ _=>False) s):Ev Z O A t (.ok c aa) R Y U s:=λ_ _ e=>by injection e with e f;subst e;subst f;exact h
theorem Ev.grown(I:Inv Z Y U s.heap)(h:WP Z A t (λa s'=>(∀b o,s.heap.get? b=some o->s'.heap.get? b=some o)/\s'.gens=s.gens/\s'.os=s.os/\R a c Y U s'.heap) (λ_ _=>False) s) :
   Ev Z O A t (.ok c U) R Y U s:=Ev.done (PQ h (λa s' ⟨hk,hg,ho,r⟩=>⟨Y,Step.grow hk hg ho,I.grow hk,r⟩) λ_ _ x=>x)
end
abbrev VR:Value->V->List Addr->ac->Heap->Prop:=λv x Y U h=>aE Y U h v (x)abbrev OD:List Value->List V->List Addr->ac->Heap->Prop:=λv x Y U h=>eY Y U h v x
structure World0(Z:Cx):Prop where
 g:Z.h₀.Ns mainGlobals Z.mg
 b:Z.h₀.Ns builtinsNs Z.mb
 nolimit:Z.h₀.NoLimit
theorem World0.keeps(W:World0 Z)(I:Inv Z Y U h):h.Ns mainGlobals Z.mg/\h.Ns builtinsNs Z.mb/\h.NoLimit:=
 ⟨W.g.keeps I.base,W.b.keeps I.base,W.nolimit.keeps I.base⟩def own(env:Env)(a:Addr):Prop:=a=env.locals\/∃x,env.cells.lookup x=some a
inductive FNs(env:Env)(sc:SC)(K:Fm)(Y:List Addr)(U:ac)(h:Heap):Prop
 |mk (m:Str->Option Value) (N:h.Ns env.locals m) (q:∀x i,sc.lookup x=some i->env.kindOf x=some .local->∀v:V,K[i]?=some v->v≠.un->∃w,m x=some w/\aE Y U h w v):FNs env sc K Y U h
inductive FC1(env:Env)(sc:SC)(K:Fm)(Y:List Addr)(U:ac)(h:Heap)(x:Str)(c:Addr):Prop
 |mk (ov:Option Value) (C:h.IsCell c ov) (q:∀i,sc.lookup x=some i->(env.kindOf x=some .cell\/env.kindOf x=some .free)->∀v:V,K[i]?=some v->v≠.un->∃w,ov=some w/\aE Y U h w v):FC1 env sc K Y U h x c
def NL(env:Env)(sc:SC)(K:Fm)(Y:List Addr)(U:ac)(h:Heap):Prop:=∀x c,env.cells.lookup x=some c->FC1 env sc K Y U h x (c)def vK(env:Env)(ks:KS):Prop:=∀x k,ks.lookup x=some k->env.kindOf x=some k\/(k=.free/\env.kindOf x=some .cell)noncomputable def vL (env:Env) (sc:SC):Prop:=∀x i,sc.lookup x=some i->(env.kindOf x=some .local\/((env.kindOf x=some .cell\/env.kindOf x=some .free)/\∃c,env.cells.lookup x=some c))/\(x==("__classdict__":Str))=false
def x9(env:Env):Prop:=∀x y c,env.cells.lookup x=some c->env.cells.lookup y=some c->x=y
structure FrameOk(Z:Cx)(env:Env)(ks:KS)(sc:SC)(K:Fm)(Y:List Addr)(U:ac)(h:Heap):Prop where
 kind:env.scope.kind=.function
 globals:env.globals=mainGlobals
 builtins:env.builtins=builtinsNs
 kinds:vK env ks
 bound:vL env sc
 inj:∀x y i,sc.lookup x=some i->sc.lookup y=some i->x=y
 ns:FNs env sc K Y U h
 cell:NL env sc K Y U h
 apart:∀a,own env a->a∉Y/\Z.h₀.get? a=none
 cinj:x9 env
 cloc:∀x,env.cells.lookup x≠some env.locals
 frs:gk Z Y h
variable {W:Addr->Prop}{env:Env}{ks:KS}{j tk:Nat}{sc:SC}{x y:Str}{Q:Unit->Shared->Prop}{v:V}
theorem FrameOk.ownSome(F:FrameOk Z env ks sc K Y U h)(ha:own env a):∃o,h.get? a=some o/\¬ X2 λvs n=>xA o vs n:=by
 rcases ha with rfl|⟨x,e⟩
 . refine kk λUc k=>?_;obtain⟨m,⟨o,es,ep,ho,hd,_⟩,_⟩:=F.ns;refine k ?_;exact⟨o,ho,λ⟨vs,n,q⟩=>by rcases q with q|⟨_,_,q|q⟩<;>rw[hd]at q<;>injection q⟩
 . obtain⟨ov,⟨o,ho,hd⟩,_⟩:=F.cell x a e;exact⟨o,ho,λ⟨vs,n,q⟩=>by rcases q with q|⟨_,_,q|q⟩<;>rw[hd]at q<;>injection q⟩theorem FrameOk.notSeq(F:FrameOk Z env ks sc K Y U h):∀a,own env a->¬ cj h a:=λa ha ⟨o,vs,n,e,d⟩=>by obtain⟨o',e',q⟩:=F.ownSome ha;rw[e]at e';injection e' with e;subst e;exact q ⟨vs,n,d⟩
theorem FrameOk.step(F:FrameOk Z env ks sc K Y U s.heap)(S:Step cz Y U s ag aa ai):FrameOk Z env ks sc K ag aa ai.heap:=by
 have keep:∀a,own env a->∀o,s.heap.get? a=some o->∃sl,ai.heap.get? a=some { o with slots:=sl }:=λa ha o e=>(S.keepW a o e (λz=>(F.apart a ha).1 z.tt.mem) id).elim (λq=>⟨o.slots,q⟩) λq=>q.2.2
 refine⟨F.kind,F.globals,F.builtins,F.kinds,F.bound,F.inj,?_,?_,?_,F.cinj,F.cloc,F.frs.step S λ_ _ z=>z⟩
 . refine kk λUc k=>?_;obtain⟨m,⟨o,es,ep,ho,r⟩,q⟩:=F.ns;obtain⟨sl,ho⟩:=keep _ (.inl rfl) o ho;refine k ?_;exact⟨m,⟨_,es,ep,ho,r⟩,λx i h1 h2 v h3 h4=>let ⟨w,g1,g2⟩:=q x i h1 h2 v h3 h4;⟨w,g1,S.vrel0 g2⟩⟩
 . intro x c e;refine kk λUc k=>?_;obtain⟨ov,⟨o,ho,hd⟩,q⟩:=F.cell x c e;obtain⟨sl,ho⟩:=keep c (.inr ⟨x,e⟩) o ho;refine k ?_;exact⟨ov,⟨_,ho,hd⟩,λi h1 h2 v h3 h4=>let ⟨w,g1,g2⟩:=q i h1 h2 v h3 h4;⟨w,g1,S.vrel0 g2⟩⟩
 . intro a ha;refine⟨λm=>?_,(F.apart a ha).2⟩;obtain⟨e,rfl,f⟩:=S.ext;rcases PT.mp m with m|m
   . exact(F.apart a ha).1 m
   . obtain⟨o,e',_⟩:=F.ownSome ha;rw[f a m]at e';injection e'
theorem FrameOk.load(F:FrameOk Z env ks sc K Y U s.heap){E:VP}{Q:VP}(hx:sc.lookup x=some i)(hv:K[i]?=some v)(hu:v≠.un)
   (h:∀w,aE Y U s.heap w v->Q w s):WP Z A (loadName env x) Q E s:=by
 rcases F.bound x i hx with⟨hk|⟨hk,c,hc⟩,hn⟩
 . refine kk λUc k=>?_;obtain⟨m,N,q⟩:=F.ns;obtain⟨w,e,r⟩:=q x i hx hk v hv hu;refine k ?_;exact wpAny_loadName_local F.kind hk N e (h w r)
 . obtain⟨ov,C,q⟩:=F.cell x c hc;obtain⟨w,rfl,r⟩:=q i hx hk v hv hu;rcases hk with hk|hk
   . exact wpAny_loadName_cell F.kind hk hc C (h w r)
   . exact wpAny_loadName_free F.kind hk hc C (h w r) (hn)theorem j9(hs:∀b o,¬ W b->h.get? b=some o->h'.get? b=some o)(hn:∀a,W a->¬ cj h a){w:Value}(r:aE Y U h w v):aE Y U h' w v:=r.mono (λ_ _ e=>e) λx o vs n e d t=>⟨hs x o (λq=>hn x q ⟨o,vs,n,e,d⟩) e,t⟩theorem gF(hs:∀b o,b≠a->h.get? b=some o->h'.get? b=some o)(hn:¬ cj h a){w:Value}(r:aE Y U h w v):aE Y U h' w v:=j9 (W:=(·=a)) hs (λ_ q=>q▸hn) (r)theorem g8(hne:i≠j):(K.set i v)[j]?=K[j]?:=by simp[hne]theorem Dq{u:V}(h:(K.set i v)[i]?=some u):v=u:=by have l:=(PB.mp h).1;rw[Sr]at l;rw[List.getElem?_set_self l]at h;exact Option.some.inj h
theorem FrameOk.stored(F:FrameOk Z env ks sc K Y U s.heap)(I:Inv Z Y U s.heap){w:Value}{Q:Shared->Prop}
   (h:∀s',FrameOk Z env ks sc (K.set i v) Y U s'.heap->Step (own env) Y U s Y U s'->Inv Z Y U s'.heap->(∀u y,aE Y U s.heap u y->aE Y U s'.heap u y)->(env.kindOf x=some .local->(∀b o,b≠env.locals->s.heap.get? b=some o->s'.heap.get? b=some o)/\∃m,s'.heap.Ns env.locals m/\m x=some w)->Q s')
   (ha:own env a) (hloc:env.kindOf x=some .local->a=env.locals/\∃m,h'.Ns env.locals m/\m x=some w) (hs:Heap.SameBut a s.heap h') (hal:h'.get? a≠none) (f1:FNs env sc (K.set i v) Y U h') (f2:NL env sc (K.set i v) Y U h'):Q { s with heap:=h',toks:=tk }:=by
 have hk:∀b o,b≠a->s.heap.get? b=some o->h'.get? b=some o:=λb o hb e=>(hs.2 b hb).trans e;refine h _ ⟨F.kind,F.globals,F.builtins,F.kinds,F.bound,F.inj,f1,f2,F.apart,F.cinj,F.cloc,F.frs.grow λf o hf e q=>?_⟩ ⟨⟨[],(P6 _).symm,λ_ z=>absurd z QI⟩,λk c' _ e=>⟨c',e,id,id,id⟩,Jc λb o e _ hb=>hk b o (λq=>hb (q▸ha)) e,λb e=>?_,rfl,rfl⟩ ?_ (λu y r=>gF hk (F.notSeq a ha) r) λhl=>⟨λb o hb e=>hk b o (λq=>hb (q.trans (hloc hl).1)) e,(hloc hl).2⟩
 . by_cases hb:f=a
   . rw[hb]at e ⊢;clear hb h hloc hs hal hk;rcases ha with z|⟨y,hy⟩
     . obtain⟨m,⟨o',es,ep,ho',hd',_⟩,_⟩:=f1;exact⟨o',z▸ho',es,ep,hd'⟩
     . obtain⟨ov,⟨o',ho',hd'⟩,_⟩:=F.cell y a hy;rw[e]at ho';obtain⟨es,n,q⟩:=q;rw[Option.some.inj ho',hd']at q;injection q
   . exact⟨o,hk f o hb e,q⟩
 . by_cases hb:b=a
   . exact absurd (hb▸e) hal
   . exact(hs.2 b hb).symm.trans e
 . refine⟨I.len,I.nodup,λb o e=>hk b o (λq=>?_) (I.base b o e),I.fresh,λk b c h1 h2=>(I.cell k b c h1 h2).mono (λo e=>hk b o (λq=>(F.apart a ha).1 (q▸PF h1)) e) λb o vs n e d t=>⟨hk b o (λq=>?_) e,t⟩⟩
   . have z:=(F.apart a ha).2;rw[<- q,e]at z;injection z
   . exact F.notSeq a ha (q▸⟨o,vs,n,e,d⟩)
theorem NL.other(F:FrameOk Z env ks sc K Y U s.heap){c:Addr}(hs':Heap.SameBut c s.heap h')(hown:own env c){c':Addr}(e:env.cells.lookup y=some c')(hne:c'≠c)(hij:∀j,sc.lookup y=some j->(env.kindOf y=some .cell\/env.kindOf y=some .free)->i≠j) :
   FC1 env sc (K.set i v) Y U h' y c':=by
 obtain⟨ov,C,q'⟩:=F.cell y c' e;refine⟨ov,C.sameBut hs' hne,λj h1 h2 u h3 h4=>?_⟩;rw[g8 (hij j h1 h2)]at h3;obtain⟨w',g1,g2⟩:=q' j h1 h2 u h3 h4;exact⟨w',g1,gF (λb o hb e=>(hs'.2 b hb).trans e) (F.notSeq c hown) g2⟩
theorem FrameOk.store(F:FrameOk Z env ks sc K Y U s.heap)(I:Inv Z Y U s.heap){E:VP}{w:Value}(hx:sc.lookup x=some i)(r:aE Y U s.heap w v)
   (h:∀s',FrameOk Z env ks sc (K.set i v) Y U s'.heap->Step (own env) Y U s Y U s'->Inv Z Y U s'.heap->(∀u y,aE Y U s.heap u y->aE Y U s'.heap u y)->(env.kindOf x=some .local->(∀b o,b≠env.locals->s.heap.get? b=some o->s'.heap.get? b=some o)/\∃m,s'.heap.Ns env.locals m/\m x=some w)->Q () s'):WP Z A (storeName env x w) Q E s:=by
 rcases F.bound x i hx with⟨hk|⟨hk,c,hc⟩,hn⟩
 . obtain⟨m,N,q⟩:=F.ns;refine wpAny_storeName_local hk N (λh' hn' hs'=>?_) (by rw[F.kind];rfl);refine F.stored I h (.inl rfl) (λ_=>⟨rfl,_,hn',if_pos rfl⟩) hs' ?_ ⟨_,hn',λy j h1 h2 u h3 h4=>?_⟩ λy c' e=>?_
   . obtain⟨o,_,_,ho,_⟩:=hn';rw[ho];exact SR _
   . clear h hn N;have keep:∀u y,aE Y U s.heap u y->aE Y U h' u y:=λu y=>gF (λb o hb e=>(hs'.2 b hb).trans e) (F.notSeq env.locals (.inl rfl));by_cases hyx:y=x
     . rw[hyx,hx]at h1;rw[<- Option.some.inj h1]at h3;exact⟨w,if_pos hyx,keep _ _ (Dq h3▸r)⟩
     . rw[g8 λ(e:i=j)=>hyx (F.inj y x i (e▸h1) hx)]at h3;obtain⟨w',g1,g2⟩:=q y j h1 h2 u h3 h4;exact⟨w',(if_neg hyx).trans g1,keep _ _ g2⟩
   . refine NL.other F hs' (.inl rfl) e (λz=>F.cloc y (z▸e)) λj h1 h2 z=>?_;rw[F.inj y x i (z▸h1) hx,hk]at h2;rcases h2 with h2|h2<;>(injection h2 with e;injection e)
 . obtain⟨ov,C,q⟩:=F.cell x c hc;have st:WP Z A (cellOf env x >>= λc=>cellSet c (some w)) Q E s:=by
     refine OL (wpAny_cellOf hc (wpAny_cellSet C λh' hc' hs'=>?_));have hown:own env c:=.inr ⟨x,hc⟩;have keep:∀u y,aE Y U s.heap u y->aE Y U h' u y:=λu y=>gF (λb o hb e=>(hs'.2 b hb).trans e) (F.notSeq c hown);refine F.stored I h hown (λq=>by rcases hk with hk|hk<;>rw[hk]at q<;>(injection q with e;injection e)) hs' ?_ ?_ λy c' e=>?_
     . obtain⟨o,ho,_⟩:=hc';rw[ho];exact SR _
     . clear h hn q C;obtain⟨m,N,q'⟩:=F.ns;refine⟨m,N.sameBut hs' (λz=>F.cloc x (z▸hc)),λy j h1 h2 u h3 h4=>?_⟩;rw[g8 λ(z:i=j)=>by rw[F.inj y x i (z▸h1) hx]at h2;rcases hk with hk|hk<;>rw[hk]at h2<;>(injection h2 with e;injection e)]at h3
       obtain⟨w',g1,g2⟩:=q' y j h1 h2 u h3 h4;exact⟨w',g1,keep _ _ g2⟩
     . by_cases hyx:y=x
       . rw[hyx,hc]at e;refine(Option.some.inj e)▸?_;refine⟨some w,hc',λj h1 h2 u h3 h4=>⟨w,rfl,?_⟩⟩;rw[hyx,hx]at h1;rw[<- Option.some.inj h1]at h3;exact keep _ _ (Dq h3▸r)
       . exact NL.other F hs' hown e (λz=>hyx (F.cinj y x c (z▸e) hc)) λj h1 h2 z=>hyx (F.inj y x i (z▸h1) hx)
   have e:storeName env x w=(cellOf env x >>= λc=>cellSet c (some w)):=by unfold storeName;rcases hk with hk|hk<;>first | (rw[hk];rfl) | (exact hk▸F.kind▸rfl;rfl) | (rw[F.kind,hk];rfl)
   exact e▸st
noncomputable abbrev kr:Heap:={}theorem yJ(a:Addr):kr.get? a=none:=SM (PU _)
def iO(L:Option Addr)(h:Heap)(e:Addr)(vs:Array Value):Prop:=
 vs[1]?=some .none\/X3 λT oT ts=>A5 (vs[1]?=some (.ref T)) (T≠e) (h.get? T=some oT) (oT.data=.fields ts) ((ts[3]?=some .none\/∃l,L=some l/\ts[3]?=some (rawInt l)))variable {e:Addr}{vs:Array Value}{L:Option Addr}
theorem iO.any(q:iO none h e vs):iO L h e vs:=by
 rcases q with q|⟨T,oT,ts,h1,h2,h3,h4,h5⟩
 . exact .inl q
 . exact .inr ⟨T,oT,ts,h1,h2,h3,h4,.inl (h5.elim id λ⟨_,z,_⟩=>by injection z)⟩
structure Noted(fv:Value)(fs:List Addr)(e:Addr)(oe:Obj)(vs:Array Value)(h h':Heap):Prop where
 keep:∀b o,h.get? b=some o->b≠e->vs[1]?≠some (.ref b)->b∉fs->h'.get? b=some o
 frs:∀b o,h.get? b=some o->gd o->∃sl,h'.get? b=some { o with slots:=sl }
 live:∀b o,h.get? b=some o->∃o',h'.get? b=some o'
 exc:X3 λT vs' oe'=>A4 ((h.get? T=none\/vs[1]?=some (.ref T))) (h'.get? e=some oe') (oe'.cls=oe.cls) (A5 (oe'.dict=oe.dict) (oe'.data=.fields vs') (vs'[1]?=some (.ref T)) (T≠e) (X2 λoT ts=>A3 (h'.get? T=some oT) (oT.data=.fields ts) (ts[3]?=some fv)))variable {hadNext:Bool}{h0:Heap}{fs:List Addr}{outer:List Env}{M:Model}{oe:Obj}{fo:Option Addr}{v head:Value}
section
variable {E:VP}theorem rm(o:Obj)(f:Array Value->Array Value):(o.mapFields f).dict=o.dict:=by obtain⟨c,d,dt,sl⟩:=o;cases dt<;>rfl
theorem t7{L:Addr} 
   (hfr:A.frames=some (env::outer)) (hl:s.heap.FunFrames kr (env::outer)) (hf:env.frame=some L)
   (he:s.heap.get? e=some oe) (hd:oe.data=.fields vs) (hsz:1 < vs.size)
   (hk:∀b o,h0.get? b=some o->b≠e->vs[1]?≠some (.ref b)->s.heap.get? b=some o) (hfr0:∀b o,h0.get? b=some o->gd o->s.heap.get? b=some o) (hlive:∀b o,h0.get? b=some o->∃o',s.heap.get? b=some o')
   (h:∀h',Noted (rawInt L) ((env::outer).filterMap (·.frame)) e oe vs h0 h'->Q () { s with heap:=h' }) :
   wpAny M A (do let a <- frameOf env;let pl <- entryPlaceOf L hadNext;let b <- EntryCells.newEntry head a .none (rawInt L) .none pl;setField (.ref e) 1 b) Q E s:=by
 have hene:e∉(env::outer).filterMap (·.frame):=λhm=>by obtain⟨_,o,ho,hnf⟩:=hl.mem hm;rw[he]at ho;injection ho with e;subst e;exact hnf vs hd
 refine OL (wpAny_frameOf_fun hfr hl hf λbj xe=>?_);refine OL (wpAny_entryPlaceOf λpl hpl=>?_);unfold EntryCells.newEntry newFields;refine OL (Qp ?_ (hpl.sizeOk5 _ _ _ _ _));have tS:bj.get? e=some oe:=(xe.2.1 e hene).trans he;generalize hN:({ cls:=.type "traceback",dict:=none,data:=.fields ([head,.ref L,.none,rawInt L,.none]++(if pl.isEmpty then List.replicate 6 Value.none else pl)).toArray }:Obj)=oN;have hNd:oN.data=.fields ([head,.ref L,.none,rawInt L,.none]++(if pl.isEmpty then List.replicate 6 Value.none else pl)).toArray:=by rw[<- hN]
 have pp:=PI (h:=bj) oN tS;refine wpAny_setField pp hd hsz (h _ ?_);have hTe:bj.objs.size≠e:=Sm (Qz tS);have tT:=Obj.data_mapFields hd (·.setIfInBounds 1 (Value.ref bj.objs.size));have po:=QW (Obj.mapFields (·.setIfInBounds 1 (Value.ref bj.objs.size))) pp (Obj.isFreed_of_fields tT);have AJ:=(Q4 (bj.push oN) (Obj.mapFields (·.setIfInBounds 1 (Value.ref bj.objs.size))) (Ne.symm hTe)).trans (PX bj (Obj.isFreed_of_fields hNd));generalize hH:(bj.push oN).update e (Obj.mapFields (·.setIfInBounds 1 (Value.ref bj.objs.size)))=H at po AJ;have keep:∀b o,b≠e->bj.get? b=some o->H.get? b=some o:=λb o hbe hb=>by rw[<- hH,Q4 _ _ (Ne.symm hbe)];exact PI _ hb
 refine⟨λb o hb hbe hnT hbf=>keep b o hbe ((xe.2.1 b hbf).trans (hk b o hb hbe hnT)),λb o hb hfr=>?_,λb o hb=>?_,?_⟩
 . have hb':=hfr0 b o hb hfr;obtain⟨sl,q⟩:=xe.2.2 b o hb';refine⟨sl,keep b _ (λz=>?_) q⟩;rw[z,he]at hb';obtain⟨es,n,y⟩:=hfr;rw[<- Option.some.inj hb',hd]at y;injection y
 . obtain⟨o',q⟩:=hlive b o hb;obtain⟨sl,q⟩:=xe.2.2 b o' q;by_cases z:b=e
   . rw[z];exact⟨_,po⟩
   . exact⟨_,keep b _ z q⟩
 . refine⟨bj.objs.size,_,_,.inl ?_,po,Obj.cls_mapFields _ _,rm _ _,tT,by simp[hsz],hTe,_,_,AJ,hNd,by simp⟩;cases q:h0.get? bj.objs.size with
   |none=>rfl
   |some o=>obtain⟨o',q⟩:=hlive _ o q;have:=Qz q;rw[xe.1]at this;exact absurd this (Rt _)
theorem tG{L:Addr} 
   (hfr:A.frames=some (env::outer)) (hl:s.heap.FunFrames kr (env::outer)) (hf:env.frame=some L)
   (he:s.heap.get? e=some oe) (hd:oe.data=.fields vs) (h1:iO env.frame s.heap e vs)
   (h:∀h',Noted (rawInt L) ((env::outer).filterMap (·.frame)) e oe vs s.heap h'->Q () { s with heap:=h' }) :
   wpAny M A (noteFrame (.ref e) env) Q E s:=by
 rcases h1 with h1|⟨T,oT,ts,h1,hTe,hT,hdT,h3|⟨l,hl',h3⟩⟩
 . unfold noteFrame;simp only[hf];refine OL (wpAny_field he hd h1 ?_);rw[if_neg (by decide)];exact t7 hfr hl hf he hd (Ra.mp h1).1 (λb o q _ _=>q) (λb o q _=>q) (λb o q=>⟨o,q⟩) h
 . unfold noteFrame;simp only[hf];refine OL (wpAny_field he hd h1 ?_);rw[if_pos (by simp:(Value.ref T != Value.none)=true)];refine OL (wpAny_field hT hdT h3 ?_);rw[if_neg (by simp[rawInt]:¬ ((Value.none==rawInt L)=true))];refine OL (wpAny_setField hT hdT (Ra.mp h3).1 ?_);have other:∀b,b≠T->(s.heap.update T (Obj.mapFields (·.setIfInBounds 3 Value.none))).get? b=s.heap.get? b:=λb hb=>Q4 _ _ (Ne.symm hb);have notT:∀b o,s.heap.get? b=some o->(∀vs,o.data≠.fields vs)->b≠T:=λb o hb hnf q=>by rw[q,hT]at hb;injection hb with e;subst e;exact hnf ts hdT
   refine t7 (h0:=s.heap) hfr (hl.of_keeps λb o hb hnf=>⟨o,(other b (notT b o hb hnf)).trans hb,rfl⟩) hf ((other e (Ne.symm hTe)).trans he) hd (Ra.mp h1).1 (λb o q _ hn=>(other b λz=>hn (z▸h1)).trans q) (λb o q hq=>(other b (notT b o q λvs z=>?_)).trans q) (λb o q=>?_) h
   . obtain⟨es,n,y⟩:=hq;rw[y]at z;injection z
   . by_cases z:b=T
     . rw[z];exact⟨_,QW _ hT (Obj.isFreed_of_fields (Obj.data_mapFields hdT _))⟩
     . exact⟨o,(other b z).trans q⟩
 . have el:L=l:=by rw[hf]at hl';exact Option.some.inj hl'
   subst el;exact wpAny_noteFrame_inFlight hf he hd h1 hT hdT h3 (h _ ⟨λb o q _ _ _=>q,λb o q _=>⟨o.slots,q⟩,λb o q=>⟨o,q⟩,T,vs,oe,.inr h1,he,rfl,rfl,hd,h1,hTe,oT,ts,hT,hdT,h3⟩)
theorem mI{T:Addr}{oT:Obj}{ts:Array Value}{x:Value} 
   (he:s.heap.get? e=some oe) (hd:oe.data=.fields vs) (h1:vs[1]?=some (.ref T)) (hTe:T≠e) (hT:s.heap.get? T=some oT) (hdT:oT.data=.fields ts) (h3:ts[3]?=some x)
   (h:∀h',Noted (fo.elim .none λf=>rawInt f) [] e oe vs s.heap h'->Q () { s with heap:=h' }):wpAny M A (setFlight (.ref e) fo) Q E s:=by
 have hsz:=(Ra.mp h3).1;unfold setFlight;refine OL (wpAny_field he hd h1 ?_);rw[if_pos (by simp:(Value.ref T != Value.none)=true)];refine wpAny_setField hT hdT hsz (h _ ?_);have other:∀b,b≠T->(s.heap.update T (Obj.mapFields (·.setIfInBounds 3 (fo.elim Value.none λf=>rawInt f)))).get? b=s.heap.get? b:=λb hb=>Q4 _ _ (Ne.symm hb);have hd':=Obj.data_mapFields hdT (·.setIfInBounds 3 (fo.elim Value.none λf=>rawInt f));have self:=QW (Obj.mapFields (·.setIfInBounds 3 (fo.elim Value.none λf=>rawInt f))) hT (Obj.isFreed_of_fields hd');refine⟨λb o q _ hn _=>(other b λz=>hn (z▸h1)).trans q,λb o q hq=>⟨o.slots,(other b λz=>?_).trans q⟩,λb o q=>?_,T,vs,oe,.inr h1,(other e (Ne.symm hTe)).trans he,rfl,rfl,hd,h1,hTe,_,_,self,hd',by simp[hsz]⟩
 . clear self other;subst z;rw[hT]at q;injection q with e;subst e;obtain⟨es,n,y⟩:=hq;rw[hdT]at y;injection y
 . by_cases z:b=T
   . clear other;subst z;exact⟨_,self⟩
   . exact⟨o,(other b z).trans q⟩
theorem Noted.then{Q:Prop}{v':Value}(N:Noted v fs e oe vs h h')(k:∀T oe' oT vs' ts,h'.get? e=some oe'->oe'.data=.fields vs'->vs'[1]?=some (.ref T)->T≠e->h'.get? T=some oT->oT.data=.fields ts->ts[3]?=some v->(∀h'',Noted v' [] e oe' vs' h' h''->Noted v' fs e oe vs h h'')->Q):Q:=by
 obtain⟨T,vs',oe',n1,n2,n3,n4,n5,n6,n7,oT,ts,n8,n9,n10⟩:=N.exc;refine k T oe' oT vs' ts n2 n5 n6 n7 n8 n9 n10 λh'' M=>⟨λb o q hbe hbT hbf=>M.keep b o (N.keep b o q hbe hbT hbf) hbe (λz=>?_) (by simp),λb o q hq=>?_,λb o q=>?_,?_⟩
 . rw[n6]at z;injection z with e;injection e with e;subst e;rcases n1 with n1|n1
   . rw[n1]at q;injection q
   . exact hbT n1
 . obtain⟨sl,q'⟩:=N.frs b o q hq;obtain⟨sl',q'⟩:=M.frs b _ q' hq;exact⟨sl',q'⟩
 . obtain⟨o',q'⟩:=N.live b o q;exact M.live b o' q'
 . obtain⟨T',vs'',oe'',m1,m2,m3,m4,m5,m6,m7,m8⟩:=M.exc;refine⟨T',vs'',oe'',?_,m2,m3.trans n3,m4.trans n4,m5,m6,m7,m8⟩;rcases m1 with m1|m1
   . refine .inl ?_;cases z:h.get? T' with
     |none=>rfl
     |some o=>obtain⟨o',z⟩:=N.live T' o z;rw[m1]at z;injection z
   . rw[n6]at m1;injection m1 with e;injection e with e;subst e;exact n1
theorem wK{L:Addr} 
   (hfr:A.frames=some (env::outer)) (hl:s.heap.FunFrames kr (env::outer)) (hf:env.frame=some L)
   (he:s.heap.get? e=some oe) (hd:oe.data=.fields vs) (h1:iO env.frame s.heap e vs)
   (h:∀h',Noted (fo.elim .none λf=>rawInt f) ((env::outer).filterMap (·.frame)) e oe vs s.heap h'->Q () { s with heap:=h' }) :
   wpAny M A (noteFrame (.ref e) env) (λ_ s'=>wpAny M A (setFlight (.ref e) fo) Q E s') E s:=
 tG hfr hl hf he hd h1 λh' N=>N.then λT oe' oT vs' ts n2 n5 n6 n7 n8 n9 n10 k=>mI (s:={ s with heap:=h' }) n2 n5 n6 n7 n8 n9 n10 λh'' M=>h h'' (k h'' M)
theorem wZ{L:Addr} 
   (hfr:A.frames=some (env::outer)) (hl:s.heap.FunFrames kr (env::outer)) (hf:env.frame=some L)
   (he:s.heap.get? e=some oe) (hd:oe.data=.fields vs) (h1:iO env.frame s.heap e vs)
   (h:∀h',Noted .none ((env::outer).filterMap (·.frame)) e oe vs s.heap h'->Q () { s with heap:=h' }) :
   wpAny M A (leaving env (.ref e)) Q E s:=by
 unfold leaving;exact OL (wK (fo:=none) hfr hl hf he hd h1 h)
theorem Ek{L:Addr} 
   (hfr:A.frames=some (env::outer)) (hl:s.heap.FunFrames kr (env::outer)) (hf:env.frame=some L)
   (he:s.heap.get? e=some oe) (hd:oe.data=.fields vs) (h1:iO env.frame s.heap e vs)
   (h:∀h',Noted (rawInt L) ((env::outer).filterMap (·.frame)) e oe vs s.heap h'->E (.ref e) { s with heap:=h' }) :
   wpAny M A (noteFrame (.ref e) env) (λ_ s'=>cameBackBy M A env E (.ref e) s') (λx s'=>cameBackBy M A env E x s') s:=
 tG hfr hl hf he hd h1 λh' N=>N.then λT oe' oT vs' ts n2 n5 n6 n7 n8 n9 n10 k=>by unfold cameBackBy;refine OL (wpAny_field (s:={ s with heap:=h' }) n2 n5 n6 ?_);exact(if_neg (by simp:¬ ((Value.ref T==Value.none)=true)))▸hf▸(mI (s:={ s with heap:=h' }) (fo:=some L) n2 n5 n6 n7 n8 n9 n10 λh'' M=>h h'' (k h'' M))
end
def Fl(L:Option Addr)(h0 h:Heap)(e:Addr)(k:Nat)(ds:List PyData):Prop:=
 h0.get? e=none/\(1<=k/\k<=6)/\X2 λoe vs=>A5 (h.get? e=some oe) (oe.cls=.ref (KA k)) (oe.data=.fields vs) (iO L h e vs) (∀T,vs[1]?=some (.ref T)->h0.get? T=none)theorem Fl.back{h1:Heap}(hal:∀a,h1.get? a=none->h0.get? a=none)(F:Fl L h1 h e k ds):Fl L h0 h e k ds:=by obtain⟨f1,f2,oe,vs,f3,f4,f5,f6,f7⟩:=F;exact⟨hal _ f1,f2,oe,vs,f3,f4,f5,f6,λT q=>hal _ (f7 T q)⟩
inductive XD(h0:Heap)(Y:List Addr)(U:ac)(h:Heap)(e:Addr)(ds:List PyData):Prop where
 |mk (oe:Obj) (D:Addr) (m:Str->Option Value) (v1 v2:Value) (x1 x2:PyData) (h1:ds=[x1,x2]) (h2:h.get? e=some oe) (h3:oe.dict=some D) (h4:h0.get? D=none/\D∉Y) (h5:h.Ns1 D m) (h6:m j6=some v1/\m dG=some v2) (h7:Rel (TT Y U) h v1 x1) (h8:Rel (TT Y U) h v2 x2):XD h0 Y U h e ds
variable {h0':Heap}{β':List Addr}
theorem XD.move(X:XD h0 Y U h e ds)(h00:∀a,h0.get? a=none->h0'.get? a=none)(he:∀oe,h.get? e=some oe->∃oe',h'.get? e=some oe'/\oe'.dict=oe.dict)
   (hD:∀D o,h.get? D=some o->gd o->D∉Y->h0.get? D=none->D∉β'/\∃sl,h'.get? D=some { o with slots:=sl }) (hr:∀v x,Rel (TT Y U) h v x->Rel (TT β' σ') h' v x):XD h0' β' σ' h' e ds:=by
 cases X with
 |mk oe D m v1 v2 x1 x2 h1 h2 h3 h4 h5 h6 h7 h8=>refine kk λUc k=>?_;obtain⟨oe',q1,q2⟩:=he oe h2;obtain⟨o,es,ep,ho,hd,r⟩:=h5;obtain⟨nb,sl,q3⟩:=hD D o ho ⟨es,ep,hd⟩ h4.2 h4.1;refine k ?_;exact⟨oe',D,m,v1,v2,x1,x2,h1,q1,q2.trans h3,⟨h00 D h4.1,nb⟩,⟨_,es,ep,q3,hd,r⟩,h6,hr _ _ h7,hr _ _ h8⟩
theorem XD.same(X:XD h0 Y U h e ds)(h00:∀a,h0.get? a=none->h0'.get? a=none)(hb:∀a,a∈β'->a∈Y)(ht:∀a,TT β' σ' a->TT Y U a):XD h0' β' σ' h e ds:=
 X.move h00 (λoe q=>⟨oe,q,rfl⟩) (λD o q _ nb _=>⟨λz=>nb (hb D z),o.slots,q⟩) λv x r=>r.mono λa o _ _ q _ t=>⟨q,λz=>t (ht a z)⟩
inductive FlyQ(L:Option Addr)(Z:Cx)(O:Addr->Prop)(Y:List Addr)(U:ac)(s:Shared)(σ':ac)(k:Nat)(ds:List PyData)(X:List Addr->ac->Heap->Prop)(v:Value)(s':Shared):Prop where
 |mk (β':List Addr) (e:Addr) (h1:v=.ref e) (h2:Step O Y U s β' σ' s') (h3:Inv Z β' σ' s'.heap) (h4:e∉β') (h5:Fl L s.heap s'.heap e k ds) (h6:X β' σ' s'.heap) (h7:k=6->XD s.heap β' σ' s'.heap e ds):FlyQ L Z O Y U s σ' k ds X v s'
def LO(Z:Cx)(A:Around)(t:Sem Value)(r:Res V)(Y:List Addr)(U:ac)(s:Shared):Prop:=
 ∀c σ',r=.ok c σ'->WP Z A t (λa s'=>nJ c=none/\Po Z cz Y U s σ' s' λβ'=>aE β' σ' s'.heap a c)
   (λv s'=>X2 λk ds=>c=.exc k ds/\FlyQ none Z cz Y U s σ' k ds (λ_ _ _=>True) v s') s
def vM(L:Option Addr)(Z:Cx)(O:Addr->Prop)(A:Around)(t:Sem Flow)(r:Res Out)(R:Flow->Out->List Addr->ac->Heap->Prop)(X:List Addr->ac->Heap->Prop)(Y:List Addr)(U:ac)(s:Shared):Prop:=
 ∀c σ',r=.ok c σ'->WP Z A t (λa s'=>Po Z O Y U s σ' s' λβ'=>R a c β' σ' s'.heap)
   (λv s'=>X2 λk ds=>c=.exc k ds/\FlyQ L Z O Y U s σ' k ds X v s') s
variable {R:Flow->Out->List Addr->ac->Heap->Prop}{X:List Addr->ac->Heap->Prop}{d:PyData}{t:Sem Value}{s':Shared}{fv:Value}{R':B->γ->List Addr->ac->Heap->Prop}theorem FlyQ.back(S:Step O Y U s ag aa ai)(F:FlyQ L Z O ag aa ai σ' k ds X v s'):FlyQ L Z O Y U s σ' k ds X v s':=by obtain⟨β',e,rfl,S',I',n,f,x,y⟩:=F;exact⟨β',e,rfl,S.trans S',I',n,f.back S.alive,x,λq=>(y q).same S.alive (λ_ z=>z) λ_ z=>z⟩
theorem LO.ev{r:Res V}(h:LO Z A t r Y U s):Ev Z cz A t (r.bind mw) VR Y U s:=λc σ' e=>by
 cases r with
 |bad=>injection e
 |ok v aa=>
 have h2:mw v aa=.ok c σ':=e;unfold mw at h2;cases hx:nJ v with
 |some x=>rw[hx]at h2;injection h2
 |none=>
 rw[hx]at h2;injection h2 with e f;subst e;subst f;refine PQ (h _ _ rfl) (λa s' q=>q.2) λv s' ⟨k,ds,q,_⟩=>?_;clear h;subst q;injection hx
theorem LO.bad:LO Z A t .bad Y U s:=λ_ _ e=>by injection e
theorem vM.of{t:Sem Flow}{r:Res Out}(h:Ev Z O A t r R Y U s):vM L Z O A t r R X Y U s:=λc σ' e=>PQ (h c σ' e) (λ_ _ q=>q) λ_ _ q=>(q.elim)theorem vM.standAt{t:Sem Flow}{r:Res Out}(h:vM L Z O A t r R X Y U s):vM L Z O A (standAt pos >>= λ_=>t) r R X Y U s:=λc σ' e=>OL (QA (h c σ' e))
theorem vM.bindO{m:Sem B}{f:B->Sem Flow}{k:γ->ac->Res Out}(h:Ev Z cz A m r R' Y U s)
   (hf:∀a c β' σ' s',Step cz Y U s β' σ' s'->Inv Z β' σ' s'.heap->R' a c β' σ' s'.heap->r=.ok c σ'->vM L Z O A (f a) (k c σ') R X β' σ' s'):vM L Z O A (m >>= f) (r.bind k) R X Y U s:=by
 intro c' σ' e;cases r with
 |bad=>injection e
 |ok c aa=>refine OL (PQ (h c aa rfl) (λa ai bj=>?_) λ_ _ x=>x.elim);obtain⟨ag,aH,ay,wu⟩:=bj;refine PQ (hf a c ag aa ai aH ay wu rfl c' σ' e) (λa' aq gg=>?_) λv aq ⟨k,ds,q,F⟩=>⟨k,ds,q,F.back aH.ofNo⟩;obtain⟨a5,cC,cD,uF⟩:=gg;exact⟨a5,aH.ofNo.trans cC,cD,uF⟩
theorem Rel.keepS(H:∀a o vs n,h.get? a=some o->o.data=.seq vs n->¬ T a->h'.get? a=some o)(r:Rel T h v d):Rel T h' v d:=by
 have main:∀(g:Heap),(∀a o vs n,h.get? a=some o->o.data=.seq vs n->¬ T a->g.get? a=some o)->Rel T g v d:=by
   intro g hg;exact Rel.rec (motive_1:=λv d _=>Rel T g v d) (motive_2:=λvs ds _=>RelAll T g vs ds) .none .bool .int (λx t e=>.str x t e)
     (λho ht hl _ ih=>.list (hg _ _ _ _ ho rfl ht) ht hl ih) (λho ht hl _ ih=>.tuple (hg _ _ _ _ ho rfl ht) ht hl ih) .nil (λ_ _ a b=>.cons a b) r
 exact main h' H
theorem RelAll.keepS(H:∀a o vs n,h.get? a=some o->o.data=.seq vs n->¬ T a->h'.get? a=some o):∀{vs:List Value} {ds:List PyData},RelAll T h vs ds->RelAll T h' vs ds
 |_,[]=>@λr=>by exact r.inv0▸.nil
 |_,d::ds=>@λr=>by obtain⟨v,vs',rfl,x,rs⟩:=r.inv;exact .cons (x.keepS H) (RelAll.keepS H rs)
theorem Noted.off(N:Noted fv fs e oe vs h h')(he:h.get? e=some oe)(hd:oe.data=.fields vs)(hL:iO L h e vs)(hfs:∀f∈fs,∃o,h.get? f=some o/\gd o){b:Addr}(hb:h.get? b=some o)(hn:∀ws,o.data≠.fields ws)(hf:¬ gd o):h'.get? b=some o:=by
 refine N.keep b o hb (λq=>?_) (λq=>?_) λq=>?_
 . subst q;rw[he]at hb;injection hb with e;subst e;exact hn _ hd
 . rcases hL with z|⟨T,oT,ts,z,_,hT,hdT,_⟩
   . rw[z]at q;injection q with e;injection e
   . rw[z]at q;injection q with e;injection e with e;subst e;rw[hT]at hb;injection hb with e;subst e;exact hn _ hdT
 . obtain⟨o',q',z⟩:=hfs b q;rw[hb]at q';injection q' with e;subst e;exact hf z
theorem Inv.noted(I:Inv Z Y U h)(N:Noted fv fs e oe vs h h')(he:h.get? e=some oe)(hd:oe.data=.fields vs)(hL:iO L h e vs)(hfs:∀f∈fs,(∃o,h.get? f=some o/\gd o)/\f∉Y/\Z.h₀.get? f=none)
   (h0e:Z.h₀.get? e=none) (h0T:∀T,vs[1]?=some (.ref T)->Z.h₀.get? T=none):Inv Z Y U h':=by
 have off:=λ{b:Addr} {o:Obj}=>N.off he hd hL (λf hf=>(hfs f hf).1) (b:=b) (o:=o);have seq:∀a o ws n,h.get? a=some o->o.data=.seq ws n->¬ TT Y U a->h'.get? a=some o:=λa o ws n q hq _=>off q (λx z=>by rw[hq]at z;injection z) λ⟨_,_,z⟩=>by rw[hq]at z;injection z
 refine⟨I.len,I.nodup,λa o q=>?_,I.fresh,λk a c h1 h2=>?_⟩
 . refine N.keep a o (I.base a o q) (λz=>?_) (λz=>?_) λz=>?_
   . subst z;rw[h0e]at q;injection q
   . rw[h0T a z]at q;injection q
   . rw[(hfs a z).2.2]at q;injection q
 . have r:=I.cell k a c h1 h2;clear h2;cases c with
   |lst l=>obtain⟨ws,n,q,r,z⟩:=r;exact⟨ws,n,off q (λx z=>by injection z) (λ⟨_,_,z⟩=>by injection z),r.keepS seq,z⟩
   |dct l=>
     refine kk λUc k=>?_;obtain⟨kvs,⟨o,es,ep,e1,e2⟩,q,r,st,su⟩:=r;refine k ?_;refine⟨kvs,⟨o,es,ep,?_,e2⟩,q,r.keepS seq,st,su⟩;refine N.keep a o e1 (λz=>?_) (λz=>?_) λz=>(hfs a z).2.1 (PF h1)
     . clear N;subst z;rw[he]at e1;injection e1 with e;subst e;have:=e2.2.1;rw[hd]at this;injection this
     . rcases hL with y|⟨T,oT,ts,y,_,hT,hdT,_⟩
       . rw[y]at z;injection z with e;injection e
       . rw[y]at z;injection z with e;injection e with e;subst e;rw[hT]at e1;injection e1 with e;subst e;have:=e2.2.1;rw[hdT]at this;injection this
   |gone=>obtain⟨o,q⟩:=r;exact N.live a o q
   |busy=>obtain⟨o,q⟩:=r;exact N.live a o q
theorem Step.noted(S:Step O Y U s ag aa ai)(N:Noted fv fs e oe vs ai.heap h')(h0e:s.heap.get? e=none)(h0T:∀T,vs[1]?=some (.ref T)->s.heap.get? T=none)(hfs:∀f∈fs,(∃o,ai.heap.get? f=some o/\gd o)/\f∉Y):Step O Y U s ag aa { ai with heap:=h' }:=by
 have step:∀a o bD,s.heap.get? a=some o->ai.heap.get? a=some bD->h'.get? a=some bD\/(gd bD/\a∉Y/\∃sl,h'.get? a=some { bD with slots:=sl }):=by
   intro a o bD q BJ;by_cases hf:a∈fs
   . refine kk λUc k=>?_;obtain⟨⟨o',e',f'⟩,nb⟩:=hfs a hf;refine k ?_;rw[BJ]at e';injection e' with e;subst e;exact .inr ⟨f',nb,N.frs a bD BJ f'⟩
   . exact .inl (N.keep a bD BJ (λz=>by subst z;rw[h0e]at q;injection q) (λz=>by rw[h0T a z]at q;injection q) hf)
 refine⟨S.ext,S.mono,λa o q w n=>?_,λa q=>?_,S.gens,S.os⟩
 . rcases S.keepW a o q w n with z|⟨f,nb,sl,z⟩
   . exact step a o o q z
   . rcases step a o _ q z with y|⟨_,_,sl',y⟩
     . exact .inr ⟨f,nb,sl,y⟩
     . exact .inr ⟨f,nb,sl',y⟩
 . cases z:s.heap.get? a with
   |none=>rfl
   |some o=>
     have:∃bD,ai.heap.get? a=some bD:=by
       cases y:ai.heap.get? a with
       |none=>rw[S.alive a y]at z;injection z
       |some bD=>exact⟨bD,rfl⟩
     obtain⟨bD,y⟩:=this;obtain⟨o',y⟩:=N.live a bD y;rw[q]at y;injection y
theorem Fl.noted(N:Noted fv fs e oe vs h h')(hfv:fv=.none\/∃l,L=some l/\fv=rawInt l)(hal:∀a,h.get? a=none->h0.get? a=none)(h0e:h0.get? e=none)(h0T:∀T,vs[1]?=some (.ref T)->h0.get? T=none)(hk:1<=k/\k<=6)(hc:oe.cls=.ref (KA k)):Fl L h0 h' e k ds:=by
 obtain⟨T,vs',oe',n1,n2,n3,n4,n5,n6,n7,oT,ts,n8,n9,n10⟩:=N.exc;refine⟨h0e,hk,oe',vs',n2,n3.trans hc,n5,.inr ⟨T,oT,ts,n6,n7,n8,n9,?_⟩,λT' q=>by rw[n6]at q;injection q with e;injection e with e;subst e;exact n1.elim (hal _) (h0T _)⟩;clear N;rcases hfv with rfl|⟨l,q,rfl⟩
 . exact .inl n10
 . exact .inr ⟨l,q,n10⟩
theorem XD.noted(X:XD h0 Y U h e ds)(N:Noted fv fs e oe vs h h')(he:h.get? e=some oe)(hd:oe.data=.fields vs)(hL:iO L h e vs)(hfs:∀f∈fs,(∃o,h.get? f=some o/\gd o)/\h0.get? f≠none):XD h0 Y U h' e ds:=by
 refine X.move (λ_ z=>z) (λo z=>?_) (λD o z hf nb hn=>⟨nb,N.frs D o z hf⟩) λv x r=>r.keepS λa o ws n q hq _=>N.off he hd hL (λf hf=>(hfs f hf).1) q (λy z=>by rw[hq]at z;injection z) λ⟨_,_,z⟩=>by rw[hq]at z;injection z
 rw[he]at z;injection z with e;subst e;obtain⟨T,vs',oe',_,n2,_,n4,_⟩:=N.exc;exact⟨oe',n2,n4⟩
theorem FrameOk.bare(F:FrameOk Z env ks sc K Y U h):FrameOk Z env ks sc [] Y U h:=
 ⟨F.kind,F.globals,F.builtins,F.kinds,F.bound,F.inj,let ⟨m,n,_⟩:=F.ns;⟨m,n,λ_ _ _ _ v q=>by simp at q⟩,λx c e=>let ⟨ov,n,_⟩:=F.cell x c e;⟨ov,n,λ_ _ _ v q=>by simp at q⟩,F.apart,F.cinj,F.cloc,F.frs⟩
theorem FrameOk.empty(F:FrameOk Z env ks sc [] Y U h):FrameOk Z env ks sc (List.replicate n .un) Y U h:=
 ⟨F.kind,F.globals,F.builtins,F.kinds,F.bound,F.inj,let ⟨m,n,_⟩:=F.ns;⟨m,n,λ_ _ _ _ v q hu=>absurd (Ss.mp (PF q)).2 hu⟩,λx c e=>let ⟨ov,n,_⟩:=F.cell x c e;⟨ov,n,λ_ _ _ v q hu=>absurd (Ss.mp (PF q)).2 hu⟩,F.apart,F.cinj,F.cloc,F.frs⟩theorem gk.noted(F:gk Z Y h)(N:Noted fv fs e oe vs h h'):gk Z Y h':=F.grow λf o _ q hq=>let ⟨sl,z⟩:=N.frs f o q hq;⟨_,z,hq⟩
theorem FrameOk.noted(F:FrameOk Z env ks sc [] Y U h)(N:Noted fv fs e oe vs h h')(he:h.get? e=some oe)(hd:oe.data=.fields vs)(hL:iO L h e vs)
   (hfs:∀f∈fs,∃o,h.get? f=some o/\gd o):FrameOk Z env ks sc [] Y U h':=by
 refine⟨F.kind,F.globals,F.builtins,F.kinds,F.bound,F.inj,?_,λx c q=>?_,F.apart,F.cinj,F.cloc,F.frs.noted N⟩
 . refine kk λUc k=>?_;obtain⟨m,⟨o,es,ep,ho,hd',r⟩,_⟩:=F.ns;obtain⟨sl,z⟩:=N.frs _ o ho ⟨es,ep,hd'⟩;refine k ?_;exact⟨m,⟨_,es,ep,z,hd',r⟩,λ_ _ _ _ v q=>by simp at q⟩
 . obtain⟨ov,⟨o,ho,hc⟩,_⟩:=F.cell x c q;exact⟨ov,⟨o,N.off he hd hL hfs ho (λws z=>by rw[hc]at z;injection z) (λ⟨_,_,z⟩=>by rw[hc]at z;injection z),hc⟩,λ_ _ _ v q=>by simp at q⟩theorem tX:∀{l:List Env},(∀x∈l,x.scope.kind≠.module/\X2 λf o=>A3 (x.frame=some f) (h.get? f=some o) (gd o))->h.FunFrames kr l
 |[]=>@λ_=>trivial
 |x::l=>@λH=>by obtain⟨h1,f,o,h2,h3,es,n,h4⟩:=H x (PH ..);exact⟨h1,⟨f,o,h2,yJ f,h3,λvs q=>by rw[h4]at q;injection q⟩,tX λy hy=>H y (PG _ hy)⟩
theorem Cb{l:List Env}{fr:List Addr}(h:l.map (·.frame)=fr.map some):l.filterMap (·.frame)=fr/\∀x∈l,∃f,x.frame=some f/\f∈fr:=by
 induction l generalizing fr with
 |nil=>cases fr with
   |nil=>exact⟨rfl,λ_ h=>by cases h⟩
   |cons _ _=>injection h
 |cons x l ih=>cases fr with
   |nil=>injection h
   |cons f fr=>
     simp only[Qs,List.cons.injEq]at h;obtain⟨h1,h2⟩:=ih h.2;refine⟨by rw[Rz,h.1,h1],λy hy=>?_⟩;rcases PO.mp hy with rfl|hy
     . exact⟨f,h.1,PH ..⟩
     . obtain⟨f',q,m⟩:=h2 y hy;exact⟨f',q,PG _ m⟩theorem cb:LIM<=sizeLine:=by unfold LIM sizeLine;decide
variable {ws:Array Value}{b i:Int}{ε ι:Type}{y:V}{Q:VP}{u:Value}{w:World}{o:Option B}{p:Option γ}{z:Res ε}{R:ι->ε->List Addr->ac->Heap->Prop}theorem Inv.notTT(I:Inv Z Y U h)(ha:h.get? a=none):¬ TT Y U a:=λz=>by obtain⟨o,e⟩:=I.ex z.mem;rw[ha]at e;injection e
inductive ListAt(T:Addr->Prop)(h:Heap)(v:Value)(l:List PyData):Prop where
 |mk (a:Addr) (vs:Array Value) (n:Nat) (h1:v=.ref a) (h2:h.get? a=some (eP vs n)) (h3:RelAll T h vs.toList l) (h4:l.length<=LIM):ListAt T h v l
inductive TupAt(T:Addr->Prop)(h:Heap)(v:Value)(l:List PyData):Prop where
 |mk (a:Addr) (vs:Array Value) (n:Nat) (h1:v=.ref a) (h2:h.get? a=some (pJ vs n)) (h3:¬ T a) (h4:l.length<=LIM) (h5:RelAll T h vs.toList l):TupAt T h v l
inductive DctIn(Z:Cx)(Y:List Addr)(U:ac)(h:Heap)(x:V)(v:Value)(l:List (Str×PyData)):Prop where
 |mk (n:Nat) (a:Addr) (h1:x=.loc n) (h2:Y[n]?=some a) (h3:U[n]?=some (.dct l)) (h4:v=.ref a) (h5:jW Z (TT Y U) h h a l):DctIn Z Y U h x v l
theorem ListAt.el{P:Value->Prop}(r:ListAt T h v l)(k:∀a vs n,h.get? a=some (eP vs n)->RelAll T h vs.toList l->l.length<=LIM->P (.ref a)):P v:=by obtain⟨a,vs,n,e,h2,h3,h4⟩:=r;exact e▸k a vs n h2 h3 (h4)theorem TupAt.el{P:Value->Prop}(r:TupAt T h v l)(k:∀a vs n,h.get? a=some (pJ vs n)->¬ T a->l.length<=LIM->RelAll T h vs.toList l->P (.ref a)):P v:=by obtain⟨a,vs,n,e,h2,h3,h4,h5⟩:=r;exact e▸k a vs n h2 h3 h4 (h5)theorem DctIn.el{x:V}{l:List (Str×PyData)}{P:V->Value->Prop}(r:DctIn Z Y U h x v l)(k:∀n a,Y[n]?=some a->U[n]?=some (.dct l)->jW Z (TT Y U) h h a l->P (.loc n) (.ref a)):P x v:=by obtain⟨n,a,e,h2,h3,e',h5⟩:=r;exact e▸e'▸k n a h2 h3 h5
inductive NewSeq(O:Array Value->Nat->Obj)(T:Addr->Prop)(s:Shared)(l:List PyData)(v:Value)(s':Shared):Prop where
 |mk (a:Addr) (vs:Array Value) (n:Nat) (h1:v=.ref a) (h2:s.heap.get? a=none) (h3:s'.heap.get? a=some (O vs n)) (h4:∀b o,s.heap.get? b=some o->s'.heap.get? b=some o) (h5:s'.gens=s.gens) (h6:s'.os=s.os) (h7:RelAll T s.heap vs.toList l):NewSeq O T s l v s'
theorem bb{x:V}(I:Inv Z Y U h)(hl:aQ U x=some l)(r:aE Y U h v x):ListAt (TT Y U) h v l:=by
 cases x with
 |d y=>
   cases r with
   |list e t z q=>injection hl with e;subst e;exact⟨_,_,_,rfl,e,q,z⟩
   |_=>injection hl
 |loc n=>obtain⟨a,hb,rfl⟩:=r;obtain⟨vs,m,e,q,z⟩:=I.cell n a _ hb (ky hl);exact⟨a,vs,m,rfl,e,q,z⟩
 |_=>injection hl
theorem lC{x:V}{l:List (Str×PyData)}(I:Inv Z Y U h)(hl:iF U x=some l)(r:aE Y U h v x):DctIn Z Y U h x v l:=by
 cases x with
 |loc n=>obtain⟨a,hb,rfl⟩:=r;exact⟨n,a,rfl,hb,jp hl,rfl,I.cell n a _ hb (jp hl)⟩
 |_=>injection hl
theorem gI{m:Bool}(I:Inv Z Y U s.heap)(hl:l.length<=LIM)
   (hw:WP Z A t (NewSeq eP (TT Y U) s l) (λ_ _=>False) s) :
   Ev Z O A t (bh m l U) VR Y U s:=by
 unfold bh;cases m with
 |true=>refine Ev.done (PQ hw (λv s' q=>?_) λ_ _ x=>x);obtain⟨a,vs,n,rfl,hf,e,hk,hg,ho,r⟩:=q;have N:=uQ (O:=O) (c:=.lst l) I hk hf hg ho ⟨vs,n,e,r,hl⟩;exact⟨_,N.1,N.2,a,by rw[<- I.len];simp,rfl⟩
 |false=>refine Ev.grown I (PQ hw (λv s' q=>?_) λ_ _ x=>x);obtain⟨a,vs,n,rfl,hf,e,hk,hg,ho,r⟩:=q;exact⟨hk,hg,ho,.list e (I.notTT hf) hl (r.mono λx o _ _ e _ t=>⟨hk x o e,t⟩)⟩
theorem rX(I:Inv Z Y U s.heap)(hl:l.length<=LIM)
   (hw:WP Z A t (NewSeq pJ (TT Y U) s l) (λ_ _=>False) s) :
   Ev Z O A t (.ok (.d (.tuple l)) U) VR Y U s:=by
 refine Ev.grown I (PQ hw (λv s' q=>?_) λ_ _ x=>x);obtain⟨a,vs,n,rfl,hf,e,hk,hg,ho,r⟩:=q;exact⟨hk,hg,ho,.tuple e (I.notTT hf) hl (r.mono λx o _ _ e _ t=>⟨hk x o e,t⟩)⟩
theorem bo(h:Heap):h.get? h.objs.size=none:=by
 cases q:h.get? h.objs.size with
 |none=>rfl
 |some o=>exact absurd (Qz q) (Rt _)
theorem cc{x:PyData}(I:Inv Z Y U s.heap)(hw:WP Z A t (λv s'=>(X2 λtk dr=>s'={ s with toks:=tk,drawn:=dr })/\Rel (TT Y U) s.heap v x) (λ_ _=>False) s) :
   Ev Z O A t (.ok (.d x) U) VR Y U s:=Ev.grown I (PQ hw (λv s' q=>by obtain⟨⟨tk,dr,rfl⟩,r⟩:=q;exact⟨λ_ _ e=>e,rfl,rfl,r⟩) λ_ _ x=>x)
theorem Eb{a:Int}(h:tL a b=true):IntMulOk a b:=by
 unfold tL at h;rcases Qc.mp h with h|h<;>have h:=of_decide_eq_true h
 . exact .of_left (intBits_le_64 (by omega) (by omega))
 . exact .of_right (intBits_le_64 (by omega) (by omega))theorem E7{a:Int}(hb:0 < b):a.fdiv b=a / b:=Int.fdiv_eq_ediv_of_nonneg _ (R5 hb)theorem E3{a:Int}(hb:0 < b):a.fmod b=a % b:=Int.fmod_eq_emod_of_nonneg _ (R5 hb)theorem D9{a:Int}(h0:0 < b)(h1:b < 9223372036854775808):Builtin.divisionGoesByPylong a b=false:=by refine PyProof.noPylong_of_log2 ?_;have:b.natAbs.log2 < 63:=(Nat.log2_lt (by omega)).mpr (by omega);lia
theorem mj:∀(n:Nat) (a:Array Nat) (acc:Array Nat),((List.replicate n a).foldl (·++·) acc).toList=acc.toList++(List.replicate n a.toList).flatten
 |0=>@λa acc=>by simp
 |n+1=>@λa acc=>by rw[SS,Tu,mj n a,SS];simp
set_option tactic.hygienic true in
theorem Gn(x:Str)(n:Int)(h0:0<=n):Txt.mul x n=aD (List.replicate n.toNat (aG x)).flatten:=by
 obtain⟨a⟩:=x;unfold Txt.mul aD aG;split
 . have:n.toNat=0:=by lia
   rw[this];simp[Str.empty]
 . split
   . rename_i h1 h2;rcases Qc.mp h2 with h2|h2
     . have:n=1:=by simpa using h2
       subst this;simp
     . have h3:a=#[]:=Array.eq_empty_of_size_eq_zero (by simpa[Str.length] using h2);subst h3;simp
   . have:=mj n.toNat a #[];simp only[Str.mk.injEq];apply Array.ext';rw[this];simp
theorem zX:PyData.strOk x=true↔∀c∈aG x,c < 0x110000:=by unfold PyData.strOk aG;rw[<- Array.all_toList,QP];simp
theorem Dh(l:List Nat):aG (aD l)=l:=by simp[aG,aD]theorem gQ{l:List Nat}(h:∀c∈l,c < 0x110000)(hl:l.length<=LIM):cY (aD l):=⟨zX.mpr (by rw[Dh];exact h),by simpa[aD] using hl⟩theorem cY.cps(h:cY x):∀c∈aG x,c < 0x110000:=zX.mp (h.1)theorem cY.len(h:cY x):(aG x).length<=LIM:=by simpa[aG] using h.2
theorem yk(x y:Str):x++y=aD (aG x++aG y):=by obtain⟨a⟩:=x;obtain⟨b⟩:=y;show Str.append _ _=_;simp[Str.append,aD,aG]noncomputable def MA:BOp->Operator
 |.add=>.Add
 |.sub=>.Sub
 |.mul=>.Mult
 |.fdiv=>.FloorDiv
 |.mod=>.Mod
 |.pow _=>.Pow
theorem sV{t b:Addr}{n2:Nat}{E:VP}{prog:Program}(ht:IsT s.heap t vs n)(hb:IsT s.heap b ws n2)(hsz:vs.size+ws.size<=sizeLine)
   (h1:vs.isEmpty=true->Q (.ref b) s) (h2:ws.isEmpty=true->Q (.ref t) s) (h3:Q (.ref s.heap.objs.size) { s with heap:=s.heap.push { cls:=.type "tuple",data:=.seq (vs++ws) } }) :
   wpAny (model prog w) A (binaryOp .Add (.ref t) (.ref b)) Q E s:=by
 by_cases e1:vs.isEmpty=true
 . exact concat_meets ⟨_,ht,rfl⟩ ⟨_,hb,rfl⟩ noFill_tuple_add seq_tuple_add F.slot_tuple_add F.entry_tuple_add (F.args_tuple_add_2 _ _) (AutoSeq1.tuple___add___tuple_tuple_0 t vs n b ws n2 e1) ⟨ht,hb,h1 e1⟩
 . by_cases e2:ws.isEmpty=true
   . exact concat_meets ⟨_,ht,rfl⟩ ⟨_,hb,rfl⟩ noFill_tuple_add seq_tuple_add F.slot_tuple_add F.entry_tuple_add (F.args_tuple_add_2 _ _) (AutoSeq1.tuple___add___tuple_tuple_1 t vs n b ws n2 e1 e2) ⟨ht,hb,h2 e2⟩
   . exact P.add_tuple ht hb e1 e2 h3 (hsz)theorem mW(r:aE Y U h v (.d (.int i))):∃t,v=.int i t:=by cases r;exact⟨_,rfl⟩theorem zS{b:Bool}(r:aE Y U h v (.d (.bool b))):v=.bool b:=by cases r;rfl
theorem oq(r:aE Y U h v (.d (.str x))):∃t,v=.str x t/\cY x:=by
 cases r with
 |str _ t g=>exact⟨_,rfl,g⟩
theorem qq(r:aE Y U h v (.d (.tuple l))):TupAt (TT Y U) h v l:=by
 cases r with
 |tuple e t z r=>exact⟨_,_,_,rfl,e,t,z,r⟩
theorem cy{t:Sem ι}{f:B->γ->Res ε}(h1:∀a b,o=some a->p=some b->Ev Z O A t (f a b) R Y U s)(h2:Ev Z O A t z R Y U s):Ev Z O A t (b2 o p f z) R Y U s:=by
 rcases nY o p f z with⟨a,b,ha,hb,e⟩|e
 . rw[e];exact h1 a b ha hb
 . rw[e];exact h2
theorem aY{t:Sem ι}{f:B->Res ε}(h1:∀a,o=some a->Ev Z O A t (f a) R Y U s)(h2:Ev Z O A t z R Y U s):Ev Z O A t (oc o f z) R Y U s:=by
 rcases jj o f z with⟨a,ha,e⟩|e
 . rw[e];exact h1 a ha
 . rw[e];exact h2
theorem cx{t:Sem ι}{c:Prop}[Decidable c]{f:Res ε}(h:c->Ev Z O A t f R Y U s):Ev Z O A t (if c then f else .bad) R Y U s:=by
 by_cases hc:c
 . rw[if_pos hc];exact h hc
 . rw[if_neg hc];exact Ev.bad
theorem fB{op:Operator}{x:V}{f:Int->Int->Res V}{z:Res V}(rx:aE Y U s.heap v x)(ry:aE Y U s.heap u y)
   (h1:∀a b t t',Ev Z O A (binaryOp op (.int a t) (.int b t')) (f a b) VR Y U s) (h2:Ev Z O A (binaryOp op v u) z VR Y U s):Ev Z O A (binaryOp op v u) (b2 (cH x) (cH y) f z) VR Y U s:=
 cy (λa b ha hb=>by have ha:=c6 ha;have hb:=c6 hb;subst ha;subst hb;apply gj (mW rx);intro t;apply gj (mW ry);intro t';exact h1 a b t t') h2
set_option tactic.hygienic true in
theorem zF{m:Bool}{x:V}(I:Inv Z Y U s.heap)(rx:aE Y U s.heap v x)(ry:aE Y U s.heap u y):Ev Z O A (binaryOp (MA op) v u) (dj op m x y U) VR Y U s:=by
 cases op with
 |add=>
   refine fB rx ry (λa b t t'=>cc I (P.add_int ⟨⟨_,_,rfl⟩,.int _ _⟩)) ?_;refine cy (λx' y' hx hy=>cx λhm=>?_) (cy (λx' y' hx hy=>cx λhm=>?_) (cy (λl1 l2 h1 h2=>cx λhm=>?_) Ev.bad))
   . have hx:=eA hx;have hy:=eA hy;subst hx;subst hy;apply xr (oq rx);intro t g;apply xr (oq ry);intro t' g';refine cc I (PyProof.Rows.add_str (λt' tk=>⟨⟨_,_,rfl⟩,?_⟩) (iv hm cb));rw[yk];exact .str _ _ (gQ (λc hc=>(PT.mp hc).elim (g.cps c) (g'.cps c)) (by simpa[aG] using hm))
   . have hx:=eu hx;have hy:=eu hy;subst hx;subst hy;apply (qq rx).el;intro a1 vs1 n1 e1 t1 z1 q1;apply (qq ry).el;intro a2 vs2 n2 e2 t2 z2 q2;have l1:=q1.length;have l2:=q2.length;simp only[P1]at l1 l2;refine Ev.grown I (sV e1 e2 (by rw[l1,l2];exact iv hm cb) (λe=>⟨λ_ _ e=>e,rfl,rfl,?_⟩) (λe=>⟨λ_ _ e=>e,rfl,rfl,?_⟩) ⟨λb o e=>PI _ e,rfl,rfl,?_⟩)
     . have:x'=[]:=Ro (by rw[<- l1];simpa using e);subst this;exact .tuple e2 t2 z2 q2
     . have:y'=[]:=Ro (by rw[<- l2];simpa using e);subst this;rw[P6];exact .tuple e1 t1 z1 q1
     . refine .tuple (PX _ rfl) (I.notTT (bo _)) (by simpa using hm) ?_;have:=q1.append q2;rw[TQ];exact this.mono λx o _ _ e _ t=>⟨PI _ e,t⟩
   . apply (bb I h1 rx).el;intro a vs n e1 q1 _;apply (bb I h2 ry).el;intro b ws n2 e2 q2 _;have z1:=q1.length;have z2:=q2.length;simp only[P1]at z1 z2;refine gI I (by rw[PC];exact hm) (P.add_list e1 e2 ?_ (by rw[z1,z2];exact iv hm cb));exact⟨_,_,_,rfl,bo _,PX _ rfl,λb o e=>PI _ e,rfl,rfl,by rw[TQ];exact q1.append q2⟩
 |sub=>exact fB rx ry (λa b t t'=>cc I (P.sub_int ⟨⟨_,_,rfl⟩,.int _ _⟩)) Ev.bad
 |mul=>
   refine fB rx ry (λa b t t'=>cx λhm=>cc I (P.mul_int ⟨⟨_,_,rfl⟩,.int _ _⟩ (Eb hm))) (cy (λx' n hx hy=>cx λhm=>?_) Ev.bad);have hx:=eA hx;have hy:=c6 hy;subst hx;subst hy;apply xr (oq rx);intro t g;apply gj (mW ry);intro t';have hlen:(List.replicate n.toNat (aG x')).flatten.length<=LIM:=by
     have h1:(aG x').length<=1000:=by simpa[aG] using hm.2.2
     have h2:n.toNat<=1000:=Ri.mpr hm.2.1;simp only[List.length_flatten,List.map_replicate,List.sum_replicate_nat,LIM]
     calc n.toNat * (aG x').length<=1000 * 1000:=TP h2 h1
       _=1000000:=rfl
   refine cc I (SB.mul ⟨?_,λ_ _=>?_,λ_ _=>?_⟩ λt' k=>⟨⟨_,_,rfl⟩,?_⟩)
   . have:n<=1000:=hm.2.1;have:0<=n:=hm.1;simp;lia
   . have h1:x'.length<=1000:=hm.2.2;have h3:0<=n:=hm.1;have h4:(9223372036854775:Int)<=(2 ^ 63 - 1) / n:=by
       rcases Int.lt_or_eq_of_le h3 with h3|h3
       . exact(Int.le_ediv_iff_mul_le h3).mpr (by lia)
       . clear hm;subst h3;rename_i q _;lia
     lia
   . have h1:x'.length * n.toNat<=1000 * 1000:=TP hm.2.2 (Ri.mpr hm.2.1);unfold Builtin.Str.tooLong;simp[sizeLine];lia
   . rw[Gn x' n hm.1];exact .str _ _ (gQ (λc hc=>by obtain⟨l,hl,hc⟩:=List.mem_flatten.mp hc;rw[(Ss.mp hl).2]at hc;exact g.cps c hc) hlen)
 |fdiv=>refine fB rx ry (λa b t t'=>cx λhm=>?_) Ev.bad;exact(E7 hm.1)▸cc I (PyProof.Rows.floordiv_int (SJ hm.1) ⟨⟨_,_,rfl⟩,.int _ _⟩ (.inl (D9 hm.1 hm.2)))
 |mod=>refine fB rx ry (λa b t t'=>cx λhm=>?_) Ev.bad;exact(E3 hm)▸cc I (PyProof.Rows.mod_int' (SJ hm) ⟨⟨_,_,rfl⟩,.int _ _⟩)
 |pow _=>refine fB rx ry (λa b t t'=>cx λhm=>?_) Ev.bad;obtain⟨rfl,rfl⟩:=hm;exact cc I (PyProof.Rows.pow_int (by decide) (by decide +kernel) ⟨⟨_,_,rfl⟩,.int _ _⟩)variable {xs ys:Array Value}{b c:Bool}{op:COp}{f:Int->Int->Option Bool}{kvs:List (Str×Value)}{k:List PyData}{m:Nat}{R:PySem.Fin->Shared->Prop}{x:V}{key:Value}{z:Option γ}def CQ(Z:Cx):Prop:=∃o,Z.h₀.get? sysModules=some o
theorem CQ.ne(Ub:CQ Z)(I:Inv Z Y U h)(ha:a∈Y):(a==sysModules)=false:=by
 refine Ub.elim λo e=>?_;have:=I.fresh a ha;cases q:a==sysModules with
 |false=>rfl
 |true=>rw[beq_iff_eq.mp q,e]at this;injection this
theorem HV(I:Inv Z Y U s.heap)(hw:WP Z A t (λv s'=>(X2 λtk dr=>s'={ s with toks:=tk,drawn:=dr })/\v=.bool b) (λ_ _=>False) s) :
   Ev Z O A t (.ok (.d (.bool b)) U) VR Y U s:=cc I (PQ hw (λv s' q=>⟨q.1,by rw[q.2];exact .bool b⟩) λ_ _ x=>x)
theorem Ff(q:RelAll T h vs.toList l):vs.isEmpty=l.isEmpty:=by
 have:=q.length;clear q;cases l with
 |nil=>simp at this;simp[this]
 |cons x r=>
   simp at this;have:vs.size≠0:=by rw[this];exact To _
   simp[Array.isEmpty,this]theorem p5(hn:n<=LIM):(n:Int) < 2 ^ 63:=Int.lt_of_le_of_lt (QX.mpr hn) (by decide)
theorem gx{f:B->Option γ}{c:γ}(h:oc o f z=some c):(∃a,o=some a/\f a=some c)\/z=some c:=by
 rcases jj o f z with⟨a,ha,e⟩|e
 . exact .inl ⟨a,ha,e.symm.trans h⟩
 . exact .inr (e.symm.trans h)
theorem kq{f:B->Option γ}{c:γ}(h:oc o f none=some c):∃a,o=some a/\f a=some c:=by
 rcases gx h with h|h
 . exact h
 . injection h
theorem jz(I:Inv Z Y U s.heap)(r:aE Y U s.heap v x)(ht:truthy U x=some b){Q:Bool->Shared->Prop}{E:VP}
   (h:∀tk,Q b { s with toks:=tk }):WP Z A (PySem.truthy v) Q E s:=by
 rcases gx ht with⟨c,hc,e⟩|e
 . rw[nQ hc]at r;exact zS r▸Option.some.inj e▸wpAny_truthy_bool (h s.toks)
 . obtain⟨l,hl,e⟩:=kq e;apply (bb I hl r).el;intro a vs n e' q z;have hz:=q.length;simp only[P1]at hz;refine wpAny_truthy_list ⟨_,e',rfl,_,rfl⟩ (by rw[hz];exact p5 z) ?_;rw[Ff q,Option.some.inj e];exact h (_)noncomputable def bW:COp->CmpOp
 |.eq=>.Eq
 |.ne=>.NotEq
 |.lt=>.Lt
 |.le=>.LtE
 |.gt=>.Gt
 |.ge _=>.GtE
 |.isN=>.Is
 |.isNotN=>.IsNot
 |.isIn=>.In
 |.notIn=>.NotIn
def CI(s:Shared)(Q:VP)(v:Value):Prop:=∀tk,Q v { s with toks:=tk }
theorem gU{l:List (Str×PyData)}(e:kvs.map (·.1)=l.map (·.1))(r:RelAll T h (kvs.map (·.2)) (l.map (·.2)))(k:Str):(valueAt kvs k=none/\l.lookup k=none)\/X2 λv d=>A3 (valueAt kvs k=some v) (l.lookup k=some d) (Rel T h v d):=by
 induction kvs generalizing l with
 |nil=>
   clear r;cases l with
   |nil=>exact .inl ⟨rfl,rfl⟩
   |cons _ _=>injection e
 |cons a kvs ih=>
   cases l with
   |nil=>injection e
   |cons b l=>
     injection e with e1 e2;have e1:a.1=b.1:=e1;cases r with
     |cons r rs=>
       by_cases hk:a.1=k
       . exact .inr ⟨a.2,b.2,by unfold valueAt;rw[List.find?_cons_of_pos (p:=λkv:Str×Value=>decide (kv.1=k)) (decide_eq_true hk)];rfl,by rw[P4,beq_iff_eq.mpr (hk.symm.trans e1)],r⟩
       . have h1:valueAt (a::kvs) k=valueAt kvs k:=by unfold valueAt;exact congrArg _ (List.find?_cons_of_neg (p:=λkv:Str×Value=>decide (kv.1=k)) (by rw[decide_eq_false hk];exact nofun))
         have h2:List.lookup k (b::l)=l.lookup k:=by rw[P4,beq_eq_false_iff_ne.mpr λq=>hk (e1.trans q.symm)]
         exact h1▸h2▸ih e2 rs
theorem iM{f:B->γ->Option ι}{z:Option ι}{c:ι}(h:b2 o p f z=some c):(X2 λa b=>A3 (o=some a) (p=some b) (f a b=some c))\/z=some c:=by
 rcases nY o p f z with⟨a,b,ha,hb,e⟩|e
 . exact .inl ⟨a,b,ha,hb,e.symm.trans h⟩
 . exact .inr (e.symm.trans h)
theorem t4(hu:A.units+200 < cLine)(rx:aE Y U s.heap v x)(ry:aE Y U s.heap u y)(hb:LW x y=some b){E:VP} :
   (CI s Q (.bool b)->WP Z A (compareOp .Eq v u) Q E s)/\(CI s Q (.bool (!b))->WP Z A (compareOp .NotEq v u) Q E s):=by
 rcases iM hb with⟨d,e,hd,he,hb⟩|hb
 . rw[b9 hd]at rx;rw[b9 he]at ry;refine(Rel.reads rx).elim λas ra=>(Rel.reads ry).elim λbs rb=>?_;by_cases hm:min d.depth e.depth<=64
   . cases (if_pos hm).symm.trans hb;exact⟨λq=>SeqAt.compareEq_reads ra rb (Rel.lay rx) (Rel.lay ry) (by omega) (q s.toks),λq=>SeqAt.compareNe_reads ra rb (Rel.lay rx) (Rel.lay ry) (by omega) (q s.toks)⟩
   . cases (if_neg hm).symm.trans hb
 . injection hb
theorem D8{prog:Program}{Uc:Type}[DecidableEq Uc]{knd:KeyKind prog w Uc}{E:VP}{d:Addr}{k:Uc}{f:Uc->Option Value}(hkey:knd.is k key=true)(hd:(d==sysModules)=false)(hm:s.heap.MapOf knd d f)
   (h:Q (.bool (!(f k).isSome)) { s with toks:=s.toks+1 }):wpAny (model prog w) A (compareOp .NotIn key (.ref d)) Q E s:=by
 show wpAny _ _ (do return .bool (!(<- contains (.ref d) key))) Q E s;refine OL ?_;unfold contains
 try with_reducible refine QT ?_
 refine OL (wpAny_specialOf hm.typeIs slot_dict_contains.lookup ?_);refine(?_:wpAny _ _ (if (some (Value.builtin "dict.__contains__")==some Value.none)=true then _ else _) _ E s);rw[if_neg (by rw[beq_builtin_none];exact P0)];refine OL (wpAny_callSpecialUnlessNone?_slot (name:=Str.ofString "__contains__") hm.typeIs slot_dict_contains
   (wpAny_call_entry slot_dict_contains hm.typeIs entry_dict_contains ?_ (args_dict_contains _ _)))
 show wpAny _ _ (dictGet d key >>= _) _ _ s;refine OL (wpAny_dictGet_of hkey hm ?_);cases hf:f k with
 |some v=>rw[hf]at h;refine(?_:wpAny _ _ (ret (.bool true)) _ _ _);exact PJ ⟨_,rfl,wpAny_truthy_bool (PJ h)⟩
 |none=>rw[hf]at h;refine(?_:wpAny _ _ (Builtin.Dict.pendingKey? d key >>= _) _ _ _);exact OL (wpAny_pendingKey_other hd (PJ ⟨_,rfl,wpAny_truthy_bool (PJ h)⟩))
theorem KP(x y:Str)(hx:x.cps.size=1):(!(Builtin.Str.occurrences y x 0 y.length 1).isEmpty)=(aG y).any λc=>aG x==[c]:=by
 obtain⟨a⟩:=x;obtain⟨c,rfl⟩:∃c,a=#[c]:=by
   match a,hx with
   |⟨[c]⟩,_=>exact⟨c,rfl⟩
 rw[StrLaws.found_one];unfold aG;show decide (c∈y.cps.toList)=y.cps.toList.any λd=>[c]==[d]
 rw[Bool.eq_iff_iff,decide_eq_true_iff,Si];constructor
 . exact λm=>⟨c,m,by rw[beq_iff_eq]⟩
 . rintro⟨d,m,e⟩
   rw[beq_iff_eq]at e;cases (e);exact m
theorem AG{x:PyData}(h:xa x l=some b):min (PyData.depthAll l) x.depth<=64/\(l.any λy=>y.eqv x)=b:=by
 unfold xa at h;by_cases hc:min (PyData.depthAll l) x.depth<=64
 . rw[if_pos hc]at h;exact⟨hc,Option.some.inj h⟩
 . rw[if_neg hc]at h;injection h
theorem tQ(Ub:CQ Z)(I:Inv Z Y U s.heap)(hu:A.units+200 < cLine)(rx:aE Y U s.heap v x)(ry:aE Y U s.heap u y)(hb:bC.inV x y U=some b){E:VP} :
   (CI s Q (.bool b)->WP Z A (compareOp .In v u) Q E s)/\(CI s Q (.bool (!b))->WP Z A (compareOp .NotIn v u) Q E s):=by
 replace hb:=kq hb;obtain⟨dx,hx,hb⟩:=hb;replace rx:=(b9 hx)▸rx;replace hb:=iM hb;rcases hb with⟨xs,ys,h1,h2,hb⟩|hb
 . rw[pY h1]at rx;rw[eA h2]at ry;apply xr (oq rx);intro t g;apply xr (oq ry);intro t' g';by_cases hs:xs.cps.size=1
   . rw[if_pos hs]at hb;injection hb with e;subst e;rw[<- KP xs ys hs];exact⟨λq=>P.in_str (q s.toks),λq=>P.notIn_str (q s.toks)⟩
   . rw[if_neg hs]at hb;injection hb
 . obtain⟨as,ra⟩:=Rel.reads rx;have la:=Rel.lay rx;replace hb:=gx hb;rcases hb with⟨l,hl,hb⟩|hb
   . refine kk λUc k=>?_;rw[eu hl]at ry;obtain⟨hm,rfl⟩:=AG hb;obtain⟨bs,rb⟩:=Rel.reads ry;have lb:=Rel.lay ry;rw[PyData.canLay0]at lb;refine k ?_;exact⟨λq=>SeqAt.in_tuple_reads rb ra lb la (by omega) (q s.toks),λq=>SeqAt.notIn_tuple_reads rb ra lb la (by omega) (q s.toks)⟩
   . replace hb:=gx hb;rcases hb with⟨l,hl,hb⟩|hb
     . apply (bb I hl ry).el;intro a vs n e q z;obtain⟨bs,rb⟩:=q.reads;have rb':Reads s.heap (.ref a) (.list l) _:=.list e rfl rfl rb;obtain⟨hm,rfl⟩:=AG hb;exact⟨λq'=>SeqAt.in_list_reads rb' ra q.lay la (by omega) (q' s.toks),λq'=>SeqAt.notIn_list_reads rb' ra q.lay la (by omega) (q' s.toks)⟩
     . rcases iM hb with⟨k,kvs',hk0,hdd,hb⟩|hb
       . injection hb with e;subst e;rw[pY hk0]at rx;apply (lC I hdd ry).el;intro n a hbb hc R0;obtain⟨kvs,D,hk,q,_,z⟩:=R0;apply xr (oq rx);intro t g;have e:(valueAt kvs k).isSome=(List.lookup k kvs').isSome:=by rcases gU hk q k with⟨h1,h2⟩|⟨v,d,h1,h2,_⟩<;>rw[h1,h2]<;>rfl
         have ne:=Ub.ne I (PF hbb);exact⟨λq'=>wpAny_in_of (strKind_is Z.prog Z.w k t) ne D.mapOf (by rw[e];exact q' _),λq'=>D8 (strKind_is Z.prog Z.w k t) ne D.mapOf (by rw[e];exact q' _)⟩
       . injection hb
theorem u9{P:Value->Value->Prop}(rx:aE Y U h v x)(ry:aE Y U h u y)(hb:b2 (cH x) (cH y) f none=some b)(k:∀i j t t',f i j=some b->P (.int i t) (.int j t')):P v u:=by
 rcases iM hb with⟨i,j,hi,hj,e⟩|e
 . rw[c6 hi]at rx;rw[c6 hj]at ry;apply gj (mW rx);intro t;apply gj (mW ry);intro t';exact k i j t t' e
 . injection e
theorem AF(r:Rel T h v d):plainIs v .none=true/\(v==.none)=u0 d:=by cases r<;>exact⟨rfl,rfl⟩theorem Av{f:PyData->Option Bool}(ry:aE Y U h u y)(hb:oc (tJ y) (λ_=>oc (bN x) f none) none=some b):u=.none/\∃d,x=.d d/\f d=some b:=by obtain⟨_,hy,hb⟩:=kq hb;replace ry:=(qW hy)▸ry;obtain⟨d,hd,hb⟩:=kq hb;exact⟨by cases ry;rfl,d,b9 hd,hb⟩
inductive GtI(T:Addr->Prop)(h:Heap)(c:Bool)(m n:Nat)(r:List (Value×Value)):Prop where
 |mk (l k:List PyData) (xs ys:List Value) (i:Nat) (e:r=xs.zip ys) (qa:RelAll T h xs l) (qb:RelAll T h ys k) (hl:Hg k l=some c) (z1:m=xs.length+i) (z2:n=ys.length+i):GtI T h c m n r
inductive GtJ(T:Addr->Prop)(h:Heap)(c:Bool)(m n:Nat)(p:Value×Value)(r:List (Value×Value)):Prop where
 |eq (i:Int) (t t':Tok) (e:p=(.int i t,.int i t')) (g:GtI T h c m n r):GtJ T h c m n p r
 |ne (i j:Int) (t t':Tok) (e:p=(.int i t,.int j t')) (hne:i≠j) (hc:decide (i > j)=c):GtJ T h c m n p r
theorem Aj{x:Int}(r:Rel T h v (.int x)):∃t,v=.int x t:=by cases r;exact⟨_,rfl⟩
theorem HA{p:Value×Value}{r:List (Value×Value)}(g:GtI T h c m n (p::r)):GtJ T h c m n p r:=by
 obtain⟨l,k,xs,ys,i,e,qa,qb,hl,z1,z2⟩:=g;cases qa with
 |nil=>injection e
 |cons r1 q1=>
   cases qb with
   |nil=>injection e
   |cons r2 q2=>
     injection e with h1 h2;rcases iM (hl:b2 (B3 _) (B3 _) (λx y=>if x=y then Hg _ _ else some (decide (x < y))) none=some c) with⟨y,x,hy,hx,hl⟩|hl
     . rw[va hx]at r1;rw[va hy]at r2;obtain⟨t,e1⟩:=Aj r1;obtain⟨t',e2⟩:=Aj r2;rw[e1,e2]at h1;by_cases e:y=x
       . rw[if_pos e]at hl;rw[e]at h1;exact .eq x t t' h1 ⟨_,_,_,_,i+1,h2,q1,q2,hl,z1.trans (QR _ 1 i),z2.trans (QR _ 1 i)⟩
       . rw[if_neg e]at hl;exact .ne x y t t' h1 (Ne.symm e) (Option.some.inj hl)
     . injection hl
theorem KY(g:GtI T h c m n []):decide (m > n)=c:=by
 obtain⟨l,k,xs,ys,i,e,qa,qb,hl,rfl,rfl⟩:=g;cases qa with
 |nil=>
   cases qb with
   |nil=>exact(decide_eq_false (Rt _)).trans (Option.some.inj hl)
   |cons _ _=>exact(decide_eq_false (SQ.mpr (PL (PU _) i))).trans (Option.some.inj hl)
 |cons _ _=>
   cases qb with
   |nil=>exact(decide_eq_true (Nat.add_lt_add_right (Rx _) i)).trans (Option.some.inj hl)
   |cons _ _=>injection e
theorem sF{prog:Program}{E:VP}{T:Addr->Prop}{b:Addr}(ea:s.heap.get? a=some (pJ xs n))(eb:s.heap.get? b=some (pJ ys m))
   (qa:RelAll T s.heap xs.toList l) (qb:RelAll T s.heap ys.toList k) (hc:Hg k l=some c) (q:R (.done (.ret (.bool c))) s) :
   wpAny (model prog w) A (Builtin.«tuple.__gt__» ⟨[.ref a,.ref b],[]⟩) R E s:=by
 show wpAny _ _ (isInstance (.ref b) (.type "tuple") >>= _) _ _ s;refine OL (wpAny_isInstance (T:="tuple") ⟨_,eb,rfl⟩ isSubtype_tuple_tuple (OL (wpAny_tupleItemsOf ea rfl (OL (wpAny_tupleItemsOf eb rfl (OL ?_))))));refine wpAny_forIn_list _ (λrest r s'=>r=(none,())/\s'=s/\GtI T s.heap c xs.size ys.size rest) _ (λp rest r s' g=>?_) (λr s' g=>?_) _ _ ⟨rfl,rfl,_,_,_,_,0,rfl,qa,qb,hc,rfl,rfl⟩
 . cases HA g.2.2 with
   |eq i t t' e g'=>rw[e,g.2.1];refine OL (wpAny_eqBool_int ?_);rw[beq_self_eq_true i];exact PJ ⟨rfl,rfl,g'⟩
   |ne i j t t' e hne hc=>rw[e,g.2.1];refine OL (wpAny_eqBool_int ?_);rw[beq_eq_false_iff_ne.mpr hne];exact OL (wpAny_rule (OL (P.gt_int (OL (PJ (PJ (PJ (hc▸q))))))))
 . rw[g.1,g.2.1];exact PJ ((KY g.2.2)▸q:R (.done (.ret (.bool (decide (xs.size > ys.size))))) s)
theorem EJ{prog:Program}{E:VP}{T:Addr->Prop}{b:Addr}(ea:s.heap.get? a=some (pJ xs n))(eb:s.heap.get? b=some (pJ ys m))
   (qa:RelAll T s.heap xs.toList l) (qb:RelAll T s.heap ys.toList k) (hc:Hg k l=some c) (hu:A.units < cLine) (q:Q (.bool c) s) :
   wpAny (model prog w) A (compareOp .Gt (.ref a) (.ref b)) Q E s:=by
 show wpAny _ _ (richCompare .Gt (.ref a) (.ref b)) _ _ _;refine wpAny_richCompare_same_room (T:="tuple") ⟨_,ea,rfl⟩ ⟨_,eb,rfl⟩ F.slot_tuple_gt ?_ hu;refine wpAny_call_entry F.slot_tuple_gt (T:="tuple") ⟨_,ea,rfl⟩ F.entry_tuple_gt ?_ (F.args_tuple_gt_2 _ _);exact sF ea eb qa qb hc ⟨_,rfl,nofun,q⟩
theorem zj(Ub:CQ Z)(I:Inv Z Y U s.heap)(hu:A.units+200 < cLine)(rx:aE Y U s.heap v x)(ry:aE Y U s.heap u y)(hb:bC op x y U=some b){E:VP}
   (q:CI s Q (.bool b)):WP Z A (compareOp (bW op) v u) Q E s:=by
 cases op with
 |eq=>exact(t4 hu rx ry hb).1 q
 |ne=>obtain⟨c,hc,rfl⟩:=Ql.mp (show (LW x y).map (!·)=some b from hb);exact(t4 hu rx ry hc).2 q
 |lt=>apply u9 rx ry hb;intro i j t t' e;injection e with e;subst e;exact P.lt_int (q s.toks)
 |le=>apply u9 rx ry hb;intro i j t t' e;injection e with e;subst e;exact P.le_int (q s.toks)
 |gt=>
   rcases iM hb with⟨i,j,hi,hj,e⟩|e
   . rw[c6 hi]at rx;rw[c6 hj]at ry;apply gj (mW rx);intro t;apply gj (mW ry);intro t';clear hb;injection e with e;subst e;exact P.gt_int (q s.toks)
   rcases iM e with⟨i,j,hi,hj,e⟩|e
   . rw[eu hi]at rx;rw[eu hj]at ry;apply (qq rx).el;intro a vs n h1 _ _ r1;apply (qq ry).el;intro a' us m h2 _ _ r2;exact EJ h1 h2 r1 r2 e (P8 (PW _ 200) hu) (q s.toks)
   . injection e
 |ge _=>apply u9 rx ry hb;intro i j t t' e;injection e with e;subst e;exact P.ge_int (q s.toks)
 |isN=>obtain⟨e,d,e',h⟩:=Av ry hb;have r:=AF (d:=d) (e'▸rx);exact e▸wpAny_is_plain r.1 (r.2▸Option.some.inj h▸q s.toks)
 |isNotN=>obtain⟨e,d,e',h⟩:=Av ry hb;have r:=AF (d:=d) (e'▸rx);exact e▸wpAny_isNot_plain r.1 (r.2▸Option.some.inj h▸q s.toks)
 |isIn=>exact(tQ Ub I hu rx ry hb).1 q
 |notIn=>obtain⟨c,hc,rfl⟩:=Ql.mp (show (bC.inV x y U).map (!·)=some b from hb);exact(tQ Ub I hu rx ry hc).2 (q)variable {items:Array Value}{value:Expr}{p:Option Int}{vl vu:Value}theorem oW{j:Int}(hj:(if i < 0 then i+n else i)=j)(h0:0<=j)(h1:j < n):seqIndex? i n=some j.toNat:=by show (if (decide (0<=(if i < 0 then i+(n:Int) else i))&&decide ((if i < 0 then i+(n:Int) else i) < n))=true then some (if i < 0 then i+(n:Int) else i).toNat else none)=_;rw[hj,if_pos (by rw[decide_eq_true h0,decide_eq_true h1];rfl)]
theorem rG{k:Nat}(h:index n i=some k):seqIndex? i n=some k/\-(n:Int)<=i/\i < n/\k < n:=by
 by_cases h0:0<=i
 . have h:=(if_pos h0).symm.trans h;by_cases h1:i < n
   . have e:=Option.some.inj ((if_pos h1).symm.trans h);clear h;subst e;exact⟨oW (if_neg (RI.mpr h0)) h0 h1,QN (Int.neg_nonpos_of_nonneg (Qi n)) h0,h1,(Sp h0).mpr h1⟩
   . exact TU rfl (heq_of_eq ((if_neg h1).symm.trans h))
 . have h:=(if_neg h0).symm.trans h;have h0:=TV.mp h0;by_cases h1:0<=i+n
   . have e:=Option.some.inj ((if_pos h1).symm.trans h);clear h;subst e;have h2:i+n < n:=Su (Int.add_lt_add_right h0 n) (Int.le_of_eq (TY _));exact⟨oW (if_pos h0) h1 h2,by lia,Su h0 (Qi n),(Sp h1).mpr h2⟩
   . exact TU rfl (heq_of_eq ((if_neg h1).symm.trans h))
def ItemsOf(Z:Cx)(A:Around)(E:VP)(v u:Value)(Q:VP)(s:Shared):Prop:=
 X2 λT id=>A3 (s.TypeIs v T) (typeLookup (.type T) "__getitem__"=pure (some (.builtin id))) (WP Z A (getItem v u) Q E s)
theorem vg{t:Tok}{y:Value}{E:VP}(e:s.heap.get? a=some (eP vs n))(h0:0<=i)(hz:vs.size<=LIM)(hy:vs[i.toNat]?=some y)(h:Q y s) :
   ItemsOf Z A E (.ref a) (.int i t) Q s:=
 ⟨"list",_,⟨_,e,rfl⟩,slot_list_getitem.lookup,wpAny_getItem_list ⟨_,e,rfl,_,rfl⟩ h0 (by have:=(Ra.mp hy).1;unfold LIM at hz;lia) hy h⟩
theorem y0{z:V}(I:Inv Z Y U s.heap)(rx:aE Y U s.heap v x)(ry:aE Y U s.heap u y)(hb:cK x y U=some z){E:VP}
   (q:∀w tk,aE Y U s.heap w z->Q w { s with toks:=tk }):ItemsOf Z A E v u Q s:=by
 rcases gx hb with⟨i,hi,hb⟩|hb
 . rw[c6 hi]at ry;apply gj (mW ry);intro ti;rcases gx hb with⟨l,hl,hb⟩|hb
   . rw[eu hl]at rx;apply (qq rx).el;intro a vs n e t zz r;obtain⟨k,hk,hb⟩:=PM.mp hb;obtain⟨d,hd,rfl⟩:=Ql.mp hb;obtain⟨h1,h2,h3,h4⟩:=rG hk;obtain⟨w,hw,rw'⟩:=r.get hd;have hl:=r.length;simp only[P1]at hl;exact⟨"tuple",_,⟨_,e,rfl⟩,F.slot_tuple_getitem.lookup,P.getItem_tuple e (by unfold LIM at zz;lia) (by unfold LIM at zz;lia) (by rw[hl];exact h1) (by simpa using hw) (q w s.toks rw')⟩
   . rcases gx hb with⟨x',hx,hb⟩|hb
     . replace rx:=(eA hx)▸rx;obtain⟨t,rfl,g⟩:=oq rx;obtain⟨k,hk,hb⟩:=PM.mp hb;obtain⟨c,hd,rfl⟩:=Ql.mp hb;obtain⟨h1,h2,h3,h4⟩:=rG hk;have hl:=g.len;have hlen:x'.length=(aG x').length:=by simp[Str.length,aG]
       have hc:x'.cps[k]?=some c:=by simpa[aG] using hd
       refine⟨"str",_,typeIs_str s x' t,F.slot_str_getitem.lookup,P.getItem_str ?_ (c:=c) ?_ (q _ _ (.str _ _ ?_))⟩
       . unfold LIM at hl;simp;lia
       . rw[hlen,h1,Option.bind_some];exact hc
       . exact gQ (λd hd'=>by simp at hd';clear q;subst hd';exact g.cps d (PF hd)) (by simp[LIM])
     . obtain⟨l,hl,hb⟩:=kq hb;apply (bb I hl rx).el;intro a vs n e r zz;by_cases h0:0<=i
       . rw[if_pos h0]at hb;obtain⟨d,hd,hb⟩:=Ql.mp hb;obtain⟨w,hw,rw'⟩:=r.get hd;have hz:=r.length;simp only[P1]at hz;exact vg e h0 (by rw[hz];exact zz) (by simpa using hw) (q w s.toks (hb▸rw'))
       . rw[if_neg h0]at hb;injection hb
 . rcases iM hb with⟨k,l,hk0,hl,hbF⟩|hb
   . clear hb;apply (lC I hl rx).el;intro n a hb' hc R0;obtain⟨kvs,D,hk,r,_,zz⟩:=R0;rw[eA hk0]at ry;apply xr (oq ry);intro t g;obtain⟨d',hd',rfl⟩:=Ql.mp hbF;rcases gU hk r k with⟨h1,h2⟩|⟨w,d,h1,h2,rw'⟩
     . rw[h2]at hd';injection hd'
     . rw[h2]at hd';clear hb;injection hd' with e;subst e;exact⟨"dict",_,D.typeIs,slot_dict_getitem.lookup,wpAny_getItem_of (strKind_is Z.prog Z.w k t) D.mapOf h1 (q w _ rw')⟩
   . injection hb
set_option tactic.hygienic true in
theorem ez{slice:Expr}{E:VP}(h:ItemsOf Z A E v u Q s) :
   WP Z A (do standAt pos;let r <- subscripted slice (<- getitemInPython v) v u;letTemporaryGo value v r;pure r) Q E s:=by
 obtain⟨T,id,hT,hl,hw⟩:=h;refine OL (QA ?_);have hs:∃ops,subscripted slice false v u=operate ops (getItem v u):=by
   cases slice
   case Slice _ _ st _=>cases st<;>exact⟨_,rfl⟩
   all_goals exact⟨_,rfl⟩
 obtain⟨ops,hs⟩:=hs;refine OL ?_;rw[getitemInPython_of_ne hT.not_modules];refine OL (wpAny_specialOf hT hl ?_);have fin:WP Z A (subscripted slice false v u) (λr aW=>WP Z A (letTemporaryGo value v r >>= λ_=>pure r) Q E aW) E s:=by exact hs▸(wpAny_operating (PQ hw (λr aW oK=>OL (wpAny_letTemporaryGo (PJ oK))) λ_ _ x=>x))
 first
   |exact PJ (OL fin)
   |exact OL (PJ (OL fin))
   |exact OL (fin)theorem iI(n:Nat)(i:Int):jq n i=clipAt n i:=(rfl)theorem oA(vs:Array Value)(lo hi:Option Int):(slicePick vs lo hi none).toList=aC vs.toList lo hi:=by rw[slicePick_plain];unfold aC;cases lo<;>cases hi<;>simp[iI]
theorem fG(l:List B)(lo hi:Option Int):(aC l lo hi).length<=l.length:=
 ((R7 _ _).trans (Te _ _)).length_le
theorem RelAll.slice{vs:List Value}(r:RelAll T h vs ds)(lo hi:Option Int):RelAll T h (aC vs lo hi) (aC ds lo hi):=by unfold aC;exact r.length▸(r.drop _).take _
theorem wj(x:Str)(lo hi:Option Int):(Builtin.Str.strSliceIndices lo hi 1 x.length).filterMap (x.cps[·]?)=aC (aG x) lo hi:=by
 have e:Builtin.Str.strSliceIndices lo hi 1 x.length=sliceRange (((lo.elim 0 (clipAt x.length):Nat):Int)) (((hi.elim x.length (clipAt x.length):Nat):Int)) 1:=by unfold Builtin.Str.strSliceIndices;cases lo<;>cases hi<;>simp[clipAt_cast]
 rw[e,sliceRange_one,pick_run];unfold aC aG;clear e;cases lo<;>cases hi<;>simp[iI,Str.length]
theorem xH(n:Nat)(i:Int):(if i < 0 then max (i+n) 0 else min i n)=(clipAt n i:Int):=by
 rw[clipAt_cast n i];by_cases h:i < 0
 . rw[if_pos h,if_pos h,SU (QN (Int.add_le_add_right (R5 h) n) (Int.le_of_eq (TY _))),Int.max_comm]
 . rw[if_neg h,if_neg h,Sj (Int.le_min.mpr ⟨RI.mp h,Qi n⟩)]
theorem uo(lo hi:Option Int)(n:Nat):Builtin.Slice.sliceAdjust lo hi 1 (n:Int)=(((lo.elim 0 (clipAt n):Nat):Int),((hi.elim n (clipAt n):Nat):Int)):=by
 refine Prod.ext ?_ ?_
 . cases lo with
   |none=>rfl
   |some i=>exact xH n i
 . cases hi with
   |none=>rfl
   |some i=>exact xH n i
theorem ul(a b:Nat):Builtin.Slice.slicePlaces (a:Int) (b:Int) 1=b - a:=by
 unfold Builtin.Slice.slicePlaces;have h1:(1:Int) > 0:=by decide
 simp only[h1,if_true,Int.ediv_one];split<;>lia
theorem m0{prog:Program}{E:VP}{Q:Option Int->Shared->Prop}(hp:IsPart v p)(h:Q p s):wpAny (model prog w) A (Builtin.Slice.slicePartIndex v) Q E s:=by
 cases hp with
 |none=>exact SV h
 |int i t=>exact PyProof.Rows.slicePart_int h
theorem C6(items:Array Value)(lo hi:Option Int):((List.range (hi.elim items.size (clipAt items.size) - lo.elim 0 (clipAt items.size))).filterMap λ(k:Nat)=>items[(((lo.elim 0 (clipAt items.size):Nat):Int)+(k:Int) * 1).toNat]?).toArray=(aC items.toList lo hi).toArray:=by
 have e:(λ(k:Nat)=>items[(((lo.elim 0 (clipAt items.size):Nat):Int)+(k:Int) * 1).toNat]?)=λk=>items[lo.elim 0 (clipAt items.size)+k]?:=by funext k;congr 1;rw[Int.mul_one];rfl
 refine e▸?_;have:=pick_run items (lo.elim 0 (clipAt items.size)) (hi.elim items.size (clipAt items.size) - lo.elim 0 (clipAt items.size));rw[List.filterMap_map]at this;have e2:((λx=>items[x]?) ∘ λx=>lo.elim 0 (clipAt items.size)+x)=λk=>items[lo.elim 0 (clipAt items.size)+k]?:=rfl;replace this:=e2▸this;rw[this];unfold aC;clear e2 e this;cases lo<;>cases hi<;>simp[iI]
theorem Bs(items:Array Value)(lo hi:Option Int)(hw:(((lo.elim 0 (clipAt items.size):Nat):Int)==0&&(1:Int)==1&&(hi.elim items.size (clipAt items.size) - lo.elim 0 (clipAt items.size))==items.size)=true):aC items.toList lo hi=items.toList:=by
 simp only[P5,beq_iff_eq]at hw;obtain⟨⟨h3,_⟩,h4⟩:=hw;have:∀a b,a=0->b - a=items.size->(items.toList.drop a).take (b - a)=items.toList:=by intro a b ha hb;rw[hb];subst ha;simp[RD]
 unfold aC;have q:=this (lo.elim 0 (clipAt items.size)) (hi.elim items.size (clipAt items.size)) (Int.ofNat.inj h3) h4;clear h4;cases lo<;>cases hi<;>simpa[iI] using q
set_option tactic.hygienic true in
theorem lQ{prog:Program}{E:VP}{t sl:Addr}{lo hi:Option Int}(ht:s.heap.get? t=some (pJ items n))
   (hs:s.heap.IsSliceOf sl vl vu .none) (pl:IsPart vl lo) (pu:IsPart vu hi) (hsz:items.size<=sizeLine)
   (h1:aC items.toList lo hi=items.toList->Q (.ref t) s) (h2:Q (.ref s.heap.objs.size) { s with heap:=s.heap.push { cls:=.type "tuple",data:=.seq (aC items.toList lo hi).toArray } }) :
   wpAny (model prog w) A (getItem (.ref t) (.ref sl)) Q E s:=by
 have ht':PyProof.Rows.IsTup s.heap t items:=⟨_,ht,rfl,_,rfl⟩
 obtain⟨os,hos,hcs,hds⟩:=id hs;have hlen:=fG items.toList lo hi;have hdrop:sizeOk (.seq (aC items.toList lo hi).toArray):=by show (aC items.toList lo hi).toArray.size<=sizeLine;rw[Tf];simp at hlen;exact iv hlen hsz
 unfold getItem
 try with_reducible refine QT ?_
 first|refine OL (PJ ?_) | skip
 refine OL (wpAny_sequenceKey ht'.typeIs (by decide) ?_);refine OL (wpAny_callSpecial?_slot (name:=Str.ofString "__getitem__") ht'.typeIs SF
   (wpAny_call_entry SF ht'.typeIs PyProof.Rows.entry_tuple_getitem ?_ (PyProof.Rows.args_tuple_getitem _ _)))
 show wpAny _ _ (Builtin.Tuple.tupleItemsOf (.ref t) >>= _) _ _ s;refine OL (PyProof.Rows.tupleItemsOf_ ht' ?_);refine OL (wpAny_typeOf (⟨os,hos,hcs⟩) ?_);rw[if_pos (by decide)];have app:∀Q':Int×Int×Nat->Shared->Prop,Q' (((lo.elim 0 (clipAt items.size):Nat):Int),1,hi.elim items.size (clipAt items.size) - lo.elim 0 (clipAt items.size)) s->
     wpAny (model prog w) A.in1 (Builtin.Slice.sliceApplied (.ref sl) (pure (items.size:Int))) Q' E s:=by
   intro Q' hq;unfold Builtin.Slice.sliceApplied Builtin.Slice.sliceFields;refine OL (OL (wpAny_field hos hds (x:=vl) rfl (OL (wpAny_field hos hds (x:=vu) rfl (OL (wpAny_field hos hds (x:=.none) rfl (PJ ?_)))))));refine OL (SV ?_);refine(?_:wpAny _ _ (if ((1:Int)==0)=true then _ else _) _ _ s);rw[if_neg (by decide)];refine OL (m0 pl (OL (m0 pu (OL (PJ ?_)))));show wpAny _ _ (match Builtin.Slice.sliceAdjust lo hi 1 (items.size:Int) with | (lo,hi)=>pure (lo,(1:Int),Builtin.Slice.slicePlaces lo hi 1)) _ _ s;rw[uo];show wpAny _ _ (pure (((lo.elim 0 (clipAt items.size):Nat):Int),(1:Int),Builtin.Slice.slicePlaces ((lo.elim 0 (clipAt items.size):Nat):Int) ((hi.elim items.size (clipAt items.size):Nat):Int) 1)) _ _ s;rw[ul];exact PJ hq
 refine OL (app _ ?_);show wpAny _ _ (if ((((lo.elim 0 (clipAt items.size):Nat):Int)==0&&(1:Int)==1&&(hi.elim items.size (clipAt items.size) - lo.elim 0 (clipAt items.size))==items.size)=true) then _ else _) _ _ s;split
 . rename_i hw;have h1':=h1 (Bs items lo hi hw);have ex:∀Q':Bool->Shared->Prop,Q' true s->wpAny (model prog w) A.in1 (Builtin.Tuple.tupleIsExact (.ref t)) Q' E s:=by intro Q' hq;unfold Builtin.Tuple.tupleIsExact;exact OL (wpAny_typeOf ht'.typeIs (PJ hq))
   first
     |exact OL (ex _ (OL (wpAny_rule (PJ ⟨_,rfl,PJ h1'⟩))))
     |exact OL (ex _ (OL (wpAny_rule (OL (PJ (PJ ⟨_,rfl,PJ h1'⟩))))))
 . rw[C6]
   first
     |exact OL (m:=Builtin.Tuple.tupleExact _) (Qp (PJ ⟨_,rfl,PJ h2⟩) hdrop)
     |exact OL (m:=Builtin.Tuple.tupleExact _) (Qp (OL (PJ (PJ ⟨_,rfl,PJ h2⟩))) hdrop)
     |exact OL (OL (m:=Builtin.Tuple.tupleExact _) (Qp (PJ (PJ ⟨_,rfl,PJ h2⟩)) hdrop))
     |exact OL (OL (m:=Builtin.Tuple.tupleExact _) (Qp (PJ ⟨_,rfl,PJ h2⟩) hdrop))variable {bs:List Bool}{ss:List Str}{xs:List V}{vs rest:List Value}{g:V->Res V}{f:Value}
section
variable {h:Heap}def LX(v:Value)(x:Option V)(Y:List Addr)(U:ac)(h:Heap):Prop:=match x with
 |none=>v=.none
 |some x=>aE Y U h v x
theorem ld{x:Option V}(r:LX v x Y U h)(hp:cO x=some p):IsPart v p:=by
 cases x with
 |none=>injection hp with e;subst e;subst r;exact .none
 |some x=>cases x with
   |d y=>cases y with
     |int i=>injection hp with e;subst e;cases r;exact .int _ _
     |_=>injection hp
   |_=>injection hp
theorem hX(ha:h.objs.size<=a):h.get? a=none:=by
 cases q:h.get? a with
 |none=>rfl
 |some o=>exact absurd (Qz q) (SQ.mpr ha)
theorem uy{l:List B}{lo hi:Option Int}(hl:(aC l lo hi).length=l.length):aC l lo hi=l:=
 ((R7 _ _).trans (Te _ _)).eq_of_length hl
theorem Ii(n:Nat)(i:Int):clipAt n i<=n:=Ri.mpr (Int.max_le.mpr ⟨Qi n,Int.min_le_right _ _⟩)
theorem By{x:Str}{l h:Option Int}{l' h':Option (Int×Tok)}(e1:l'.map (·.1)=l)(e2:h'.map (·.1)=h)(hlen:(slicePicked x l' h' none).length=x.length):aD (aC (aG x) l h)=x:=by
 have e:slicePicked x l' h' none=sliceRange (((l.elim 0 (clipAt x.length):Nat):Int)) (((h.elim x.length (clipAt x.length):Nat):Int)) 1:=by unfold slicePicked;rw[e1,e2];unfold Builtin.Str.strSliceIndices;clear e2;cases (l)<;>cases (h)<;>simp[clipAt_cast]
 rw[e,sliceRange_one,Pd,Rc]at hlen;have c2:h.elim x.length (clipAt x.length)<=x.length:=by
   clear hlen e;cases h with
   |none=>exact Qb _
   |some i=>exact Ii _ i
 have es:aC (aG x) l h=((aG x).drop (l.elim 0 (clipAt x.length))).take (h.elim x.length (clipAt x.length) - l.elim 0 (clipAt x.length)):=by clear e1 c2 e2 hlen e;cases (l)<;>cases (h)<;>rfl
 rw[es,hlen,(Te _ (aG x)).eq_of_length_le (by rw[Qy];exact iv (Qm hlen.symm) (Nat.sub_le_sub_right c2 _)),RD (show (aG x).length<=x.length from Qb _)];(rfl)noncomputable abbrev Gz (v vl vu:Value) (value slice:Expr) (pos:Pos):Sem Value:=newFields "slice" [vl,vu,.none] >>= λi=>(do standAt pos;let r <- subscripted slice (<- getitemInPython v) v i;letTemporaryGo value v r;pure r)
theorem N2{slice:Expr}{l h:Option Int}(I:Inv Z Y U s.heap){x:List PyData}(rx:aE Y U s.heap v (.d (.tuple x)))(pl:IsPart vl l)(pu:IsPart vu h):Ev Z O A (Gz v vl vu value slice pos) (.ok (.d (.tuple (aC x l h))) U) VR Y U s:=by
 have hk:∀b o,s.heap.get? b=some o->(s.heap.push { cls:=.type "slice",data:=.fields #[vl,vu,.none] }).get? b=some o:=λb o e=>PI _ e;have sl:(s.heap.push { cls:=.type "slice",data:=.fields #[vl,vu,.none] }).IsSliceOf s.heap.objs.size vl vu .none:=Heap.IsSliceOf.new ..;cases rx with
 |tuple e t z r=>
   have hz:=r.length;simp at hz;refine Ev.grown I (OL (Qp (ez ⟨"tuple",_,⟨_,hk _ _ e,rfl⟩,F.slot_tuple_getitem.lookup,lQ (hk _ _ e) sl pl pu (by rw[hz];exact iv z cb) (λq=>?_) ?_⟩)))
   . refine⟨hk,rfl,rfl,?_⟩;rw[(uy (by rw[<- (r.slice l h).length,q,r.length]))];exact .tuple (hk _ _ e) t z (r.mono λx o _ _ e _ t=>⟨hk x o e,t⟩)
   . refine⟨λb o e=>PI _ (hk b o e),rfl,rfl,?_⟩;refine .tuple (n:=0) (PX _ rfl) (I.notTT ?_) (iv (fG x l h) z) ?_
     . exact hX (by rw[RS];exact Sl _)
     . exact(r.slice l h).mono λx o _ _ e _ t=>⟨PI _ (hk x o e),t⟩
set_option tactic.hygienic true in
theorem NZ{slice:Expr}{l h:Option Int}(I:Inv Z Y U s.heap){x:Str}(rx:aE Y U s.heap v (.d (.str x)))(pl:IsPart vl l)(pu:IsPart vu h):Ev Z O A (Gz v vl vu value slice pos) (.ok (.d (.str (aD (aC (aG x) l h)))) U) VR Y U s:=by
 have hk:∀b o,s.heap.get? b=some o->(s.heap.push { cls:=.type "slice",data:=.fields #[vl,vu,.none] }).get? b=some o:=λb o e=>PI _ e;cases rx with
 |str _ tk g=>
   have good:cY (aD (aC (aG x) l h)):=gQ (λc hc=>g.cps c (by unfold aC at hc;exact QH (Qa hc))) (iv (fG _ _ _) g.len)
   have parts:X2 λl' h'=>A4 (vl=partValue l') (vu=partValue h') (l'.map (·.1)=l) (h'.map (·.1)=h):=by
     refine⟨match vl with | .int i t=>some (i,t) | _=>none,match vu with | .int i t=>some (i,t) | _=>none,?_,?_,?_,?_⟩
     . cases pl<;>rfl
     . cases pu<;>rfl
     . cases pl<;>rfl
     . cases pu<;>rfl
   obtain⟨l',h',rfl,rfl,e1,e2⟩:=parts;refine Ev.grown I (OL (Qp (ez ⟨"str",_,typeIs_str _ x tk,F.slot_str_getitem.lookup,wpAny_getItem_str_slice (l:=l') (u:=h') (st:=none) ⟨_,PX _ rfl,rfl,rfl⟩ rfl ?_⟩)));have GZ:(slicePicked x l' h' none).filterMap (x.cps[·]?)=aC (aG x) l h:=by unfold slicePicked;rw[e1,e2];exact wj x l h
   unfold sliceMade;split
   . rename_i hw;refine⟨hk,rfl,rfl,?_⟩;have hx:aD (aC (aG x) l h)=x:=By e1 e2 (by have:=(PK.mp hw).2;simpa using this)
     rw[hx];exact .str _ _ g
   . refine⟨?_,hk,rfl,rfl,?_⟩
     . rw[GZ];have:=good.2;exact iv this cb
     . rw[GZ];exact .str _ _ good
theorem NY{m:Bool}{slice:Expr}{l h:Option Int}(I:Inv Z Y U s.heap){xs:List PyData}(rx:aE Y U s.heap v x)(hxs:aQ U x=some xs)(pl:IsPart vl l)(pu:IsPart vu h):Ev Z O A (Gz v vl vu value slice pos) (bh m (aC xs l h) U) VR Y U s:=by
 have hk:∀b o,s.heap.get? b=some o->(s.heap.push { cls:=.type "slice",data:=.fields #[vl,vu,.none] }).get? b=some o:=λb o e=>PI _ e;have sl:(s.heap.push { cls:=.type "slice",data:=.fields #[vl,vu,.none] }).IsSliceOf s.heap.objs.size vl vu .none:=Heap.IsSliceOf.new ..;obtain⟨a,vs,n,rfl,e,r,z⟩:=bb I hxs rx;have hz:=r.length;simp at hz;refine gI I (iv (fG _ _ _) z) (OL (Qp (ez ⟨"list",_,⟨_,hk _ _ e,rfl⟩,slot_list_getitem.lookup,
   wpAny_getItem_list_slice ⟨_,hk _ _ e,rfl,_,rfl⟩ sl pl pu .none (by simp) ?_ (by rw[hz];exact iv z cb)⟩)))
 refine⟨_,_,0,rfl,hX (by rw[RS];exact Sl _),PX _ rfl,λb o e=>PI _ (hk b o e),rfl,rfl,?_⟩;rw[oA];exact r.slice l h
theorem Gy{m:Bool}(h1:∀l h y,cO lo=some l->cO hi=some h->x=.d (.tuple y)->Ev Z O A t (.ok (.d (.tuple (aC y l h))) U) VR Y U s)(h2:∀l h y,cO lo=some l->cO hi=some h->x=.d (.str y)->Ev Z O A t (.ok (.d (.str (aD (aC (aG y) l h)))) U) VR Y U s)
   (h3:∀l h xs,cO lo=some l->cO hi=some h->aQ U x=some xs->Ev Z O A t (bh m (aC xs l h) U) VR Y U s):Ev Z O A t (gq m x lo hi U) VR Y U s:=by
 unfold gq;rcases nY (cO lo) (cO hi) (λl h=>oc (jy x) (λx=>Res.ok (V.d (.tuple (aC x l h))) U) (oc (j4 x) (λx=>.ok (.d (.str (aD (aC (aG x) l h)))) U) (oc (aQ U x) (λx=>bh m (aC x l h) U) .bad))) .bad with⟨l,h,hl,hh,e⟩|e
 . rw[e];clear e;rcases jj (jy x) (λx=>Res.ok (V.d (.tuple (aC x l h))) U) (oc (j4 x) (λx=>.ok (.d (.str (aD (aC (aG x) l h)))) U) (oc (aQ U x) (λx=>bh m (aC x l h) U) .bad)) with⟨y,hy,e⟩|e
   . rw[e];exact h1 l h y hl hh (eu hy)
   rw[e];clear e;rcases jj (j4 x) (λx=>Res.ok (V.d (.str (aD (aC (aG x) l h)))) U) (oc (aQ U x) (λx=>bh m (aC x l h) U) .bad) with⟨y,hy,e⟩|e
   . rw[e];exact h2 l h y hl hh (eA hy)
   rw[e];clear e;rcases jj (aQ U x) (λx=>bh m (aC x l h) U) .bad with⟨y,hy,e⟩|e
   . rw[e];exact h3 l h y hl hh hy
   . rw[e];exact Ev.bad
 . rw[e];exact Ev.bad
theorem yo{m:Bool}{slice:Expr}(I:Inv Z Y U s.heap)(rx:aE Y U s.heap v x)(rl:LX vl lo Y U s.heap)(ru:LX vu hi Y U s.heap) :
   Ev Z O A (Gz v vl vu value slice pos) (gq m x lo hi U) VR Y U s:=
 Gy (λl h y hl hh e=>N2 I (e▸rx) (ld rl hl) (ld ru hh)) (λl h y hl hh e=>NZ I (e▸rx) (ld rl hl) (ld ru hh)) λl h xs hl hh hxs=>NY I rx hxs (ld rl hl) (ld ru hh)noncomputable def uk:Ty->String
 |.list=>"list"
 |.int=>"int"
 |.bool=>"bool"
 |.str=>"str"
 |.tuple _=>"tuple"
theorem uZ{t:Ty}(r:aE Y U s.heap v x)(hb:OQ t x=some b){E:VP}(q:CI s Q (.bool b)) :
   WP Z A (call (.builtin "isinstance") [v,.type (uk t)]) Q E s:=by
 cases x with
 |d y=>
   cases r with
   |int i tk=>
     cases t with
     |int=>injection hb with e;subst e;exact IsiPair.int_int (q s.toks)
     |bool=>injection hb with e;subst e;exact IsiPair.int_bool (q _)
     |str=>injection hb with e;subst e;exact IsiPair.int_str (q _)
     |tuple=>injection hb with e;subst e;exact IsiPair.int_tuple (q _)
     |list=>injection hb
   |str x tk g=>
     cases t with
     |str=>injection hb with e;subst e;exact IsiPair.str_str (q s.toks)
     |tuple=>injection hb with e;subst e;exact IsiPair.str_tuple (q _)
     |_=>injection hb
   |none=>
     cases t with
     |str=>injection hb with e;subst e;exact IsiPair.NoneType_str (q _)
     |tuple=>injection hb with e;subst e;exact IsiPair.NoneType_tuple (q _)
     |_=>injection hb
   |tuple e ht z r=>
     cases t with
     |tuple=>injection hb with e;subst e;exact IsiPair.tuple_tuple e rfl (q s.toks)
     |str=>injection hb with e;subst e;exact IsiPair.tuple_str e rfl (q _)
     |_=>injection hb
   |bool i=>injection hb
   |list e ht z r=>
     cases t with
     |list=>injection hb with e;subst e;exact IsiPair.list_list e rfl (q s.toks)
     |_=>injection hb
 |_=>injection hb
theorem qx(r:RelAll T h vs l)(e:iP l=some ss):PyProof.Rows.StrsAre vs ss/\l=ss.map .str:=by
 induction l generalizing vs ss with
 |nil=>rw[r.inv0];injection e with e;subst e;exact⟨.nil,rfl⟩
 |cons d l ih=>
   obtain⟨v,vs,rfl,z,rs⟩:=r.inv;clear r;cases z with
   |str x t g=>obtain⟨ss,e',rfl⟩:=Ql.mp (e:(iP l).map (x::·)=some ss);exact⟨.cons x t (ih rs e').1,congrArg (List.cons (PyData.str x)) (ih rs e').2⟩
   |_=>injection e
theorem iL(r:RelAll T h vs l)(e:c7 l=some bs):vs=bs.map .bool/\l=bs.map .bool:=by
 induction l generalizing vs bs with
 |nil=>rw[r.inv0];injection e with e;subst e;exact⟨rfl,rfl⟩
 |cons d l ih=>
   obtain⟨v,vs,rfl,z,rs⟩:=r.inv;clear r;cases z with
   |bool x=>obtain⟨ss,e',rfl⟩:=Ql.mp (e:(c7 l).map (x::·)=some bs);exact⟨congrArg (List.cons (Value.bool x)) (ih rs e').1,congrArg (List.cons (PyData.bool x)) (ih rs e').2⟩
   |_=>injection e
theorem Dg(x y:Str):PySem.Spec.ltCps x.cps.toList y.cps.toList=lW x y:=by rw[PyProof.Rows.ltCps_eq];(rfl)theorem Di{x y:Str}(h:aG x=aG y):x=y:=by obtain⟨a⟩:=x;obtain⟨b⟩:=y;simp[aG]at h;simp[h]theorem pj(x y:Str)(r:List Str):iV x (y::r)=if lW y x then y::iV x r else x::y::r:=rfl
theorem kI(x:Str):∀l:List Str,(iV x l).Perm (x::l)
 |[]=>.refl _
 |y::r=>by
   rw[pj];split
   . exact((kI x r).cons y).trans (.swap ..)
   . exact .refl (_)theorem eE:∀l:List Str,(cu l).Perm l
 |[]=>.refl _
 |x::r=>(kI x _).trans ((eE r).cons x)def yT(x y:Str):Prop:=lW y x=false
theorem tN{x y z:Str}(h1:yT x y)(h2:yT y z):yT x z:=by unfold yT lW at *;simp only[decide_eq_false_iff_not,List.not_lt]at *;exact List.le_trans h1 h2
set_option tactic.hygienic true in
theorem mi(x:Str):∀l:List Str,l.Pairwise yT->(iV x l).Pairwise yT
 |[]=>@λ_=>Tj _ _
 |y::r=>@λhp=>by
   obtain⟨h1,h2⟩:=RY.mp hp;rw[pj];split
   . rename_i hlt;refine RY.mpr ⟨λz hz=>?_,mi x r h2⟩;rcases PO.mp ((kI x r).mem_iff.mp hz) with rfl|hz
     . unfold yT lW at *;simp only[decide_eq_true_iff,decide_eq_false_iff_not]at *;exact List.lt_asymm hlt
     . exact h1 z hz
   . rename_i hlt;have hxy:yT x y:=by unfold yT;simpa using hlt
     refine RY.mpr ⟨λz hz=>?_,hp⟩;rcases PO.mp hz with rfl|hz
     . exact hxy
     . exact tN hxy (h1 z hz)theorem ke:∀l:List Str,(cu l).Pairwise yT
 |[]=>.nil
 |x::r=>mi x _ (ke r)
theorem jf:∀(p:Str) (l:List Str),PyProof.Rows.risingS p l=true->(p::l).Pairwise yT
 |p,[]=>@λ_=>by simp
 |p,x::r=>@λhh=>by
   simp only[PyProof.Rows.risingS,P5,QD]at hh;have ih:=jf x r hh.2;have hpx:yT p x:=by unfold yT;rw[<- Dg];exact hh.1
   refine RY.mpr ⟨λz hz=>?_,ih⟩;clear hh;rcases PO.mp hz with rfl|hz
   . exact hpx
   . exact tN hpx ((RY.mp ih).1 z hz)
theorem lX{l l':List Str}(hp:l'.Perm l)(hs:PyProof.Rows.sortedS l'=true):l'=cu l:=by
 have h1:l'.Pairwise yT:=by
   cases l' with
   |nil=>exact .nil
   |cons x r=>exact jf x r hs
 refine List.Perm.eq_of_pairwise (λa b _ _ h1 h2=>?_) h1 (ke l) (hp.trans (eE l).symm);unfold yT lW at *;simp only[decide_eq_false_iff_not,List.not_lt]at *;exact Di (List.le_antisymm h1 h2)
theorem wz(r:PyProof.Rows.StrsAre vs ss)(hg:∀x∈ss,cY x):RelAll T h vs (ss.map .str):=by
 induction r with
 |nil=>exact .nil
 |cons x t r ih=>exact .cons (.str x t (hg x (PH ..))) (ih λy hy=>hg y (PG _ hy))
theorem B6(r:RelAll T h vs (ss.map .str)):∀x∈ss,cY x:=by
 induction ss generalizing vs with
 |nil=>exact λx hx=>absurd hx QI
 |cons y ss ih=>
   obtain⟨v,vs,rfl,z,rs⟩:=r.inv;clear r;cases z with
   |str _ _ g=>exact λx hx=>(PO.mp hx).elim (λe=>e▸g) (ih rs x)theorem ue:∀bs:List Bool,(List.range bs.length).any (λi=>(bs[i]?).getD false)=bs.any id
 |[]=>rfl
 |b::bs=>by rw[PZ,Ts,RM,Tv,RM,<- ue bs];(rfl)theorem uf:∀bs:List Bool,(List.range bs.length).all (λi=>(bs[i]?).getD true)=bs.all id
 |[]=>rfl
 |b::bs=>by rw[PZ,Ts,List.all_cons,List.all_map,List.all_cons,<- uf bs];(rfl)noncomputable def uc:Bi->Value
 |.len=>.builtin "len"
 |.list=>.type "list"
 |.int=>.type "int"
 |.max=>.builtin "max"
 |.tuple=>.type "tuple"
 |.sortedSet=>.builtin "sorted"
 |.any=>.builtin "any"
 |.all=>.builtin "all"
 |.isinst _=>.builtin "isinstance"
def zH:Bi->List Value
 |.isinst t=>[.type (uk t)]
 |_=>[]
theorem qy:∀{vs:List Value} {ss:List Str},vs.length=ss.length->(∀(j:Nat) (v:Value),vs[j]?=some v->X2 λk t=>ss[j]?=some k/\v=.str k t)->PyProof.Rows.StrsAre vs ss
 |[],[]=>@λ_ _=>.nil
 |[],_::_=>@λhl _=>by simp at hl
 |_::_,[]=>@λhl _=>by simp at hl
 |v::vs,k::ss=>@λhl hv=>by obtain⟨k',t,h1,rfl⟩:=hv 0 v rfl;simp at h1;subst h1;exact .cons k t (qy (by simpa using hl) λj v hj=>hv (j+1) v hj)
theorem Gx{vs:Array Value}(hl:vs.size=kvs.length)(hv:∀(j:Nat) (v:Value),vs[j]?=some v->X2 λk t=>(kvs.map (·.1))[j]?=some k/\v=.str k t):PyProof.Rows.StrsAre vs.toList (kvs.map (·.1)):=
 qy (by simpa using hl) λj v hj=>hv j v (by simpa using hj)
theorem se{kvs:List (Str×Value)}{E:VP}(hh:A.handled=none)(ne:(a==sysModules)=false)(D:s.heap.DictOf (strKind Z.prog Z.w) a kvs)(hz:kvs.length<=sizeLine)
   (q:∀h' tk (vs:Array Value) n,(∀b o,s.heap.get? b=some o->h'.get? b=some o)->h'.get? s.heap.objs.size=some (eP vs n)->PyProof.Rows.StrsAre vs.toList (kvs.map (·.1))->Q (.ref s.heap.objs.size) { s with heap:=h',toks:=tk }) :
   WP Z A (call (.type "list") [.ref a]) Q E s:=by
 obtain⟨ep,D'⟩:=D.dictAt;refine PySem.W.kdl_call (PySem.W.kdl_dict (knd:=strKind Z.prog Z.w) (kvs:=kvs) (ep:=ep) ne) hh D' hz λh' tk acc c hk e hi=>q h' tk acc c hk e ?_;refine Gx hi.1 λj v hj=>?_;obtain⟨k,x,h1,h2⟩:=hi.2 j v hj;obtain⟨t,rfl⟩:=Value.isStrOf_shape h2;exact⟨k,t,by rw[Qe,h1];rfl,rfl⟩
theorem li(rx:eY Y U h vs xs)(e:one xs=some x):∃v,vs=[v]/\aE Y U h v x:=by
 have e:=dC e;subst e;cases rx with
 |cons r rs=>cases rs;exact⟨_,rfl,r⟩
theorem Gp(rx:eY Y U h vs xs)(e:two xs=some (x,y)):X2 λv u=>A3 (vs=[v,u]) (aE Y U h v x) (aE Y U h u y):=by
 have e:=jx e;subst e;cases rx with
 |cons r rs=>cases rs with
   |cons r' rs=>cases rs;exact⟨_,_,rfl,r,r'⟩theorem C5{P:List Value->Prop}(rx:eY Y U h vs xs)(e:two xs=some (x,y))(k:∀v u,aE Y U h v x->aE Y U h u y->P [v,u]):P vs:=by obtain⟨v,u,e,r,r'⟩:=Gp rx e;exact e▸k v u r r'
theorem ft(rx:eY Y U s.heap vs xs)(h1:∀v x,aE Y U s.heap v x->Ev Z O A (call f (v::rest)) (g x) VR Y U s):Ev Z O A (call f (vs++rest)) (oc (one xs) g .bad) VR Y U s:=
 aY (λa e=>by apply xr (li rx e);intro v r;exact h1 v a r) Ev.bad
theorem BY (I:Inv Z Y U s.heap) (r:aE Y U s.heap v x):Ev Z O A (call (.builtin "len") [v]) (oc (jy x) (λl=>.ok (.d (.int l.length)) U) (oc (j4 x) (λx=>.ok (.d (.int (aG x).length)) U) (oc (aQ U x) (λl=>.ok (.d (.int l.length)) U) .bad))) VR Y U s:=by
 refine aY (λl e=>?_) (aY (λx' e=>?_) (aY (λl hl=>?_) Ev.bad))
 . have e:=eu e;subst e;apply (qq r).el;intro a vs n e t z rr;have hz:=rr.length;simp only[P1]at hz;refine hz▸?_;exact cc I (P.len_tuple e (by have:=p5 z;rw[hz];lia) ⟨⟨_,_,rfl⟩,.int _ _⟩)
 . have e:=eA e;subst e;obtain⟨t,rfl,g⟩:=oq r;have hlen:(aG x').length=x'.length:=by simp[aG,Str.length]
   rw[hlen];exact cc I (P.len_str (by have:=p5 g.len;rw[hlen]at this;lia) ⟨⟨_,_,rfl⟩,.int _ _⟩)
 . obtain⟨a,ws,n,rfl,e,q,z⟩:=bb I hl r;have hz:=q.length;simp only[P1]at hz;rw[<- hz];exact cc I (call_len_list ⟨_,e,rfl,_,rfl⟩ (by rw[hz];exact p5 z) ⟨⟨_,_,rfl⟩,.int _ _⟩)
theorem yS {m:Bool} (Ub:CQ Z) (I:Inv Z Y U s.heap) (hh:A.handled=none) (r:aE Y U s.heap v x):Ev Z O A (call (.type "list") [v]) (oc (jy x) (λl=>bh m l U) (oc (iF U x) (λkvs=>bh m (kvs.map λx=>.str x.1) U) .bad)) VR Y U s:=by
 refine aY (λl e=>?_) (aY (λkvs' hd=>?_) Ev.bad)
 . have e:=eu e;subst e;apply (qq r).el;intro a vs n e t z rr;have hz:=rr.length;simp only[P1]at hz;exact gI I z (call_list_seq _ (.inr rfl) e rfl rfl (λh' c hk e'=>⟨_,_,_,rfl,bo _,e',hk,rfl,rfl,rr⟩) (by rw[hz];exact iv z cb))
 . obtain⟨n,a,rfl,hb,hc,rfl,kvs,D,hk,q,hg,z⟩:=lC I hd r;have hz:kvs.length=kvs'.length:=by have:=congrArg List.length hk;simpa using this
   refine gI I (by rw[Pd];exact z) (se hh (Ub.ne I (PF hb)) D (by rw[hz];exact iv z cb) λh' tk vs n hk' e S=>⟨_,_,_,rfl,bo _,e,hk',rfl,rfl,?_⟩);rw[hk]at S;have:=wz (T:=TT Y U) (h:=s.heap) S hg;rw[Qx]at this;exact this
theorem wc (I:Inv Z Y U s.heap) (r:aE Y U s.heap v x):Ev Z O A (call (.type "tuple") [v]) (oc (aQ U x) (λl=>.ok (.d (.tuple l)) U) .bad) VR Y U s:=by
 refine aY (λl hl=>?_) Ev.bad;obtain⟨a,ws,n,rfl,e,q,z⟩:=bb I hl r;have hz:=q.length;simp only[P1]at hz;refine rX I z (call_tuple_list ⟨_,e,rfl,_,rfl⟩ (λh' hk=>⟨_,_,_,rfl,?_,PX _ rfl,λb o e=>PI _ (hk b o e),rfl,rfl,q⟩) (by exact hz▸iv z cb));cases w:s.heap.get? h'.objs.size with
 |none=>rfl
 |some o=>exact absurd (Qz (hk _ _ w)) (Rt _)
theorem CE (I:Inv Z Y U s.heap) (hh:A.handled=none) (r:aE Y U s.heap v x):Ev Z O A (call (.builtin "any") [v]) (oc ((aQ U x).bind c7) (λl=>.ok (.d (.bool (l.any id))) U) .bad) VR Y U s:=by
 refine aY (λbs hl=>?_) Ev.bad;obtain⟨l,hl,hs⟩:=PM.mp hl;obtain⟨a,ws,n,rfl,e,q,z⟩:=bb I hl r;obtain⟨hw,rfl⟩:=iL q hs;have hws:ws=(bs.map Value.bool).toArray:=by rw[<- hw]
 refine Ev.grown I (call_any_walk (wpAny_pyIter_list ⟨_,e,rfl,_,rfl⟩ ?_));refine⟨_,_,_,_,_,_,λi=>(bs[i]?).getD false,rfl,Walks.list (A:=A.in1) hh s.heap.objs.size a (QG (Qz e)) ws,⟨⟨_,PX _ rfl,rfl,rfl⟩,⟨_,PI _ e,rfl,_,rfl⟩⟩,?_,λh' tk hk=>⟨?_,rfl,rfl,?_⟩⟩
 . intro i v s' Q' E' hv hq;rw[hws]at hv;simp only[Tw,Qe,Ql]at hv;obtain⟨b,hb,rfl⟩:=hv;have hq':Q' ((bs[i]?).getD false) s':=hq;rw[hb]at hq';exact wpAny_truthy_bool hq'
 . intro b o eb;exact hk b o (by simp;exact QG (Qz eb)) (PI _ eb)
 . have:(List.range ws.size).any (λi=>(bs[i]?).getD false)=bs.any id:=by rw[hws];simp only[Tf,Pd];exact ue bs
   exact this▸.bool _
theorem CH (I:Inv Z Y U s.heap) (hh:A.handled=none) (r:aE Y U s.heap v x):Ev Z O A (call (.builtin "all") [v]) (oc ((aQ U x).bind c7) (λl=>.ok (.d (.bool (l.all id))) U) .bad) VR Y U s:=by
 refine aY (λbs hl=>?_) Ev.bad;obtain⟨l,hl,hs⟩:=PM.mp hl;obtain⟨a,ws,n,rfl,e,q,z⟩:=bb I hl r;obtain⟨hw,rfl⟩:=iL q hs;have hws:ws=(bs.map Value.bool).toArray:=by rw[<- hw]
 refine Ev.grown I (call_all_walk (wpAny_pyIter_list ⟨_,e,rfl,_,rfl⟩ ?_));refine⟨_,_,_,_,_,_,λi=>(bs[i]?).getD true,rfl,Walks.list (A:=A.in1) hh s.heap.objs.size a (QG (Qz e)) ws,⟨⟨_,PX _ rfl,rfl,rfl⟩,⟨_,PI _ e,rfl,_,rfl⟩⟩,?_,λh' tk hk=>⟨?_,rfl,rfl,?_⟩⟩
 . intro i v s' Q' E' hv hq;rw[hws]at hv;simp only[Tw,Qe,Ql]at hv;obtain⟨b,hb,rfl⟩:=hv;have hq':Q' ((bs[i]?).getD true) s':=hq;rw[hb]at hq';exact wpAny_truthy_bool hq'
 . intro b o eb;exact hk b o (by simp;exact QG (Qz eb)) (PI _ eb)
 . have:(List.range ws.size).all (λi=>(bs[i]?).getD true)=bs.all id:=by rw[hws];simp only[Tf,Pd];exact uf bs
   exact this▸.bool _
theorem Cy{b:Bi}{m:Bool}(Ub:CQ Z)(I:Inv Z Y U s.heap)(hh:A.handled=none)(rx:eY Y U s.heap vs xs)(hb:b≠.sortedSet) :
   Ev Z O A (call (uc b) (vs++zH b)) (xV b m xs U) VR Y U s:=by
 cases b with
 |len=>exact ft rx λv x r=>BY I r
 |list=>exact ft rx λv x r=>yS Ub I hh r
 |int=>refine ft rx λv x r=>aY (λb e=>?_) Ev.bad;have e:=nQ e;subst e;apply iY (zS r);exact cc I (call_int_bool ⟨⟨_,_,rfl⟩,.int _ _⟩)
 |max=>refine aY (λp e=>cy (λx y hx hy=>?_) Ev.bad) Ev.bad;apply C5 rx e;intro v u r r';rw[c6 hx]at r;rw[c6 hy]at r';apply gj (mW r);intro t;apply gj (mW r');intro t';refine Ev.grown I (max_two_ints hh λh' tk hk=>⟨hk,rfl,rfl,?_⟩);split<;>exact .int _ _
 |tuple=>exact ft rx λv x r=>wc I r
 |any=>exact ft rx λv x r=>CE I hh r
 |isinst t=>exact ft rx λv x r=>aY (λb hb=>HV I (uZ r hb λtk=>⟨⟨_,_,rfl⟩,rfl⟩)) Ev.bad
 |sortedSet=>exact absurd rfl hb
 |all=>exact ft rx λv x r=>CH I hh r
end
def MY:Me->String
 |.append=>"list.append"
 |.extend=>"list.extend"
 |.update=>"dict.update"
 |.pop=>"dict.pop"
 |.count=>"list.count"
 |.index=>"list.index"
 |.nop _=>""
def rh:Me->Str
 |.append=>"append"
 |.extend=>"extend"
 |.update=>"update"
 |.pop=>"pop"
 |.count=>"count"
 |.index=>"index"
 |.nop _=>""
def Me.done:Me->Bool
 |.append | .extend | .update=>true
 |.count | .index=>true
 |.pop=>true
 |_=>(false)variable {h:Heap}{l:List (Str×PyData)}{es:List DictEntry}{x k:Str}{Q:Unit->Shared->Prop}{e:Value->Bool}
theorem B5{prog:Program}{E:VP}{Q:Int->Shared->Prop}(h:Q 0xFCA86420 { s with toks:=s.toks+1 }) :
   wpAny (model prog w) A (pyHash .none) Q E s:=by
 unfold pyHash;refine OL ?_;refine PJ ?_;refine OL (wpAny_specialOf (T:="NoneType") rfl F.slot_NoneType_hash.lookup ?_);refine OL (wpAny_specialOf (T:="NoneType") rfl F.slot_NoneType_hash.lookup ?_);refine OL (wpAny_callSpecialIfBoundUnlessNone?_slot (T:="NoneType") rfl F.slot_NoneType_hash
   (wpAny_call_entry F.slot_NoneType_hash (T:="NoneType") rfl F.entry_NoneType_hash
     (wpAny_ret_mkInt ?_:wpAny _ _ (do ret (<- mkInt 0xFCA86420)) _ _ s) (F.args_NoneType_hash_1 _)))
 exact PJ (h)noncomputable def I0(k:Option Str)(v:Value):Bool:=k.elim (v==.none) λk=>Value.isStrOf k (v)theorem de(h:I0 none v=true):v=.none:=eq_of_beq h
def uR(prog:Program)(w:World):KeyKind prog w (Option Str) where
 is:=I0
 hash:=λk=>k.elim 0xFCA86420 (hashStr w)
 inj:=λv a b ha hb=>by
   cases a with
   |none=>
     cases de ha
     cases b with
     |none=>rfl
     |some b=>injection hb
   |some a=>
     cases b with
     |none=>cases de hb;injection ha
     |some b=>rw[Value.isStrOf_inj v a b ha hb]
 byValue:=λk v h=>by
   cases k with
   |none=>cases de h;rfl
   |some k=>exact(strKind prog w).byValue k v h
 pyHash:=λ{A E s k v Q} hv h=>by
   cases k with
   |none=>cases de hv;exact B5 h
   |some k=>exact(strKind prog w).pyHash (k:=k) hv h
 eqBool:=λ{A E s a b u v Q} hu hv h=>by
   cases a with
   |none=>
     cases de hu
     cases b with
     |none=>cases de hv;exact SeqAt.EqAt.same .none prog w E Q h
     |some b=>obtain⟨t,rfl⟩:=Value.isStrOf_shape hv;exact SeqAt.EqAt.none_str b t prog w E Q h
   |some a=>
     cases b with
     |none=>cases de hv;obtain⟨t,rfl⟩:=Value.isStrOf_shape hu;exact SeqAt.EqAt.str_none a t prog w E Q h
     |some b=>exact(strKind prog w).eqBool (a:=a) (b:=b) hu hv (by simpa using h)
 «strs»:=λk x t v h=>by
   cases k with
   |none=>cases de h
   |some k=>exact(strKind prog w).«strs» k x t v h
theorem BV{prog:Program}(p:Pairs (strKind prog w) es kvs):Pairs (uR prog w) es (kvs.map λx=>(some x.1,x.2)):=by
 induction p with
 |nil=>exact .nil
 |cons a b _ ih=>exact .cons a b ih
theorem Ec{prog:Program}(D:h.DictOf (strKind prog w) a kvs):h.DictOf (uR prog w) a (kvs.map λx=>(some x.1,x.2)):=by
 obtain⟨o,es,ep,e,hx,hd,hk,hp,hn⟩:=D;refine⟨o,es,ep,e,hx,hd,λx hx=>?_,BV hp,?_⟩
 . obtain⟨k,h1,h2⟩:=hk x hx;exact⟨some k,h1,h2⟩
 . rw[Qx,show ((λx:Option Str×Value=>x.1) ∘ λx:Str×Value=>(some x.1,x.2))=some ∘ (λx:Str×Value=>x.1) from rfl,<- Qx];exact List.Pairwise.map some (λa b c e=>c (Option.some.inj e)) hn
theorem Ks(kvs:List (Str×Value)):valueAt (kvs.map λx=>(some x.1,x.2)) none=none:=by
 unfold valueAt;rw[List.find?_eq_none.mpr λx hx=>?_]
 . rfl
 . obtain⟨y,_,rfl⟩:=Qk.mp hx;exact(nofun)theorem nX(a b:Bool):(Value.bool a==Value.bool b)=(a==b):=by cases a<;>cases b<;>decide
theorem xQ{l:List Bool}(hw:ws.toList=l.map Value.bool){y:Value}(hy:y∈ws):∃b,y=.bool b:=by have:=TK.mpr hy;rw[hw,Qk]at this;obtain⟨b,_,rfl⟩:=this;exact⟨b,rfl⟩theorem xD{x:Bool}(l:List Bool):(l.map Value.bool).countP (λv=>v==.bool x)=l.count x:=by rw[List.countP_map,List.count_eq_countP];refine List.countP_congr λb _=>?_;refine(?_:(Value.bool b==Value.bool x)=true↔_);rw[nX]
theorem yO{b:Me}{o:V}{pl:Sem Bool}{Q:Value×List Value->Shared->Prop}{E:VP}(hd:b.done=true)(I:Inv Z Y U s.heap)(ro:aE Y U s.heap v o)(hm:sK b U o=true)
   (q:Q (.builtin (MY b),[v]) s):WP Z A (getMethod v (rh b) pl) Q E s:=by
 have dc:(iF U o).isSome=true->s.TypeIs v "dict"/\∀a,v=.ref a->∃ob,s.heap.get? a=some ob/\ob.dict=none:=λhm=>by obtain⟨l,hl⟩:=Qj.mp hm;apply (lC I hl ro).el;intro n a hb hc R0;obtain⟨kvs,⟨ob,es,ep,e,hx,_⟩,_⟩:=R0;exact⟨⟨ob,e,hx.1⟩,λa' h=>by injection h with e;subst e;exact⟨ob,e,hx.2.1⟩⟩
 have lc:(aQ U o).isSome=true->s.TypeIs v "list"/\∀a,v=.ref a->∃ob,s.heap.get? a=some ob/\ob.dict=none:=λhm=>by refine(Qj.mp hm).elim λl hl=>?_;apply (bb I hl ro).el;intro a ws n e _ _;exact⟨⟨_,e,rfl⟩,λa' h=>by injection h with e;subst e;exact⟨_,e,rfl⟩⟩
 cases b with
 |append=>exact getMethod_builtin (lc hm).1 F.plainAttrs_list F.slot_list_append F.type_list_append (lc hm).2 q
 |extend=>exact getMethod_builtin (lc hm).1 F.plainAttrs_list F.slot_list_extend F.type_list_extend (lc hm).2 q
 |update=>exact getMethod_builtin (dc hm).1 F.plainAttrs_dict F.slot_dict_update F.type_dict_update (dc hm).2 q
 |pop=>exact getMethod_builtin (dc hm).1 F.plainAttrs_dict F.slot_dict_pop F.type_dict_pop (dc hm).2 q
 |count=>exact getMethod_builtin (lc hm).1 F.plainAttrs_list F.slot_list_count F.type_list_count (lc hm).2 q
 |index=>exact getMethod_builtin (lc hm).1 F.plainAttrs_list F.slot_list_index F.type_list_index (lc hm).2 q
 |nop _=>injection hd
theorem yP(rv:Rel T h v d)(hk:kvs.map (·.1)=l.map (·.1))(r:RelAll T h (kvs.map (·.2)) (l.map (·.2))) :
   (kvs.map λx=>if x.1=k then (x.1,v) else x).map (·.1)=(l.map λx=>if x.1=k then (x.1,d) else x).map (·.1)/\RelAll T h ((kvs.map λx=>if x.1=k then (x.1,v) else x).map (·.2)) ((l.map λx=>if x.1=k then (x.1,d) else x).map (·.2)):=by
 induction kvs generalizing l with
 |nil=>
   cases l with
   |nil=>exact⟨rfl,.nil⟩
   |cons _ _=>injection hk
 |cons a kvs ih_=>
   cases l with
   |nil=>injection hk
   |cons b l=>
     injection hk with e1 e2;have e1:a.1=b.1:=e1;cases r with
     |cons r rs=>
       have ih:=ih_ e2 rs;rw[Qs,Qs,Qs,Qs,Qs,Qs,e1];by_cases q:b.1=k
       . rw[if_pos q,if_pos q];exact⟨congrArg (List.cons b.1) ih.1,.cons rv ih.2⟩
       . rw[if_neg q,if_neg q,e1];exact⟨congrArg (List.cons b.1) ih.1,.cons r ih.2⟩
theorem qA(hk:kvs.map (·.1)=l.map (·.1))(r:RelAll T h (kvs.map (·.2)) (l.map (·.2)))(rv:Rel T h v d) :
   (stored kvs k v).map (·.1)=(eZ k d l).map (·.1)/\RelAll T h ((stored kvs k v).map (·.2)) ((eZ k d l).map (·.2)):=by
 have ha:kvs.any (λkv=>decide (kv.1=k))=l.any (λx=>decide (x.1=k)):=by
   have:∀{B:Type} (l:List (Str×B)),l.any (λkv=>decide (kv.1=k))=(l.map (·.1)).any (λx=>decide (x=k)):=λl=>by rw[Tv];rfl
   rw[this,this,hk]
 unfold stored eZ;rw[ha];split
 . exact yP rv hk r
 . refine⟨by simp[hk],?_⟩;simp only[PR,Qs,RG];exact r.append (.one rv)
theorem rc:∀{more:List (Str×Value)} {m:List (Str×PyData)} {kvs:List (Str×Value)} {l:List (Str×PyData)},more.map (·.1)=m.map (·.1)->RelAll T h (more.map (·.2)) (m.map (·.2))->kvs.map (·.1)=l.map (·.1)->RelAll T h (kvs.map (·.2)) (l.map (·.2))->
   (merged kvs more).map (·.1)=(eH l m).map (·.1)/\RelAll T h ((merged kvs more).map (·.2)) ((eH l m).map (·.2))
 |[],[],_,_,_,_=>@λhk r=>⟨hk,r⟩
 |[],_::_,_,_,hk,_=>@λ_ _=>by simp at hk
 |_::_,[],_,_,hk,_=>@λ_ _=>by simp at hk
 |a::more,b::m,kvs,l,hm,.cons r' rs=>@λhk r=>by simp only[Qs,List.cons.injEq]at hm;have h1:=qA (k:=a.1) hk r r';have:=rc hm.2 rs h1.1 h1.2;unfold merged eH at *;simp only[Tu];exact hm.1▸this
theorem tE(hx:x∈(eZ k d l).map (·.1)):x=k\/x∈l.map (·.1):=by
 unfold eZ at hx;split at hx
 . have:((l.map λx=>if x.1=k then (x.1,d) else x).map (·.1))=l.map (·.1):=by rw[Qx];refine RA λy _=>?_;simp only[Function.comp];split<;>rfl
   rw[this]at hx;exact .inr hx
 . simp only[PR,PT,Qs,RG,PN]at hx;exact(hx.symm)theorem o0(k:Str)(d:PyData)(l:List (Str×PyData)):(eZ k d l).length<=l.length+1:=by unfold eZ;split<;>simp
theorem oZ:∀{m l:List (Str×PyData)} {x:Str},x∈(eH l m).map (·.1)->x∈m.map (·.1)\/x∈l.map (·.1)
 |[],l,x,hx=>.inr hx
 |b::m,l,x,hx=>by
   rcases oZ (m:=m) (l:=eZ b.1 b.2 l) hx with h1|h1
   . exact .inl (PG _ h1)
   . rcases tE h1 with rfl|h2
     . exact .inl (PH ..)
     . exact .inr (h2)theorem l6:∀(m l:List (Str×PyData)),(eH l m).length<=l.length+m.length
 |[]=>@λl=>Qb _
 |b::m=>@λl=>by have h1:=l6 m (eZ b.1 b.2 l);have h2:=o0 b.1 b.2 l;have:eH l (b::m)=eH (eZ b.1 b.2 l) m:=rfl;rw[this];simp only[PZ];lia
theorem mF(k:Str)(t:Tok):(strKind Z.prog Z.w).is k (.str k t)=true:=by show Value.isStrOf k (.str k t)=true;simp[Value.isStrOf]
theorem ka{vs:Array Value}{f:Array Value->Array Value}(e:h.get? a=some (eP vs n)) :
   (∃m,(h.update a (Obj.mapSeq f)).get? a=some (eP (f vs) m))/\∀x o,x≠a->h.get? x=some o->(h.update a (Obj.mapSeq f)).get? x=some o:=
 ⟨⟨_,IsL.update e f⟩,λx o hx e'=>(Q4 h _ (Ne.symm hx)).trans e'⟩theorem yL(Ub:CQ Z)(I:Inv Z Y U h)(hb:Y[n]?=some a):(a==sysModules)=false:=Ub.ne I (PF hb)theorem C0(r:aE Y U h v (.loc n)):∃a,Y[n]?=some a/\v=.ref a:=r
theorem vX(hk:kvs.map (·.1)=l.map (·.1))(r:RelAll T h (kvs.map (·.2)) (l.map (·.2))) :
   (without kvs k).map (·.1)=(l.filter λx=>!decide (x.1=k)).map (·.1)/\RelAll T h ((without kvs k).map (·.2)) ((l.filter λx=>!decide (x.1=k)).map (·.2)):=by
 induction kvs generalizing l with
 |nil=>
   cases l with
   |nil=>exact⟨rfl,.nil⟩
   |cons _ _=>injection hk
 |cons a kvs ih_=>
   cases l with
   |nil=>injection hk
   |cons b l=>
     injection hk with h1 h2;have h1:a.1=b.1:=h1;cases r with
     |cons r rs=>
       have ih:=ih_ h2 rs;by_cases e:b.1=k
       . have e1:without (a::kvs) k=without kvs k:=Tk (by rw[h1,decide_eq_false (not_not_intro e)];exact nofun);rw[e1,(Tk (by rw[decide_eq_true e];exact nofun))];exact ih
       . have e1:without (a::kvs) k=a::without kvs k:=Sv (by rw[h1];exact decide_eq_true e);rw[e1,(Sv (by rw[decide_eq_false e];rfl))];exact⟨congr (congrArg List.cons h1) ih.1,.cons r ih.2⟩
theorem wD:∀{l:List (Str×PyData)},l.lookup k=none->(l.filter λx=>!decide (x.1=k))=l
 |[]=>@λ_=>rfl
 |(a,b)::l=>@λe=>by
   by_cases q:a=k
   . subst q;rw[List.lookup_cons_self]at e;injection e
   . have e1:List.lookup k ((a,b)::l)=l.lookup k:=by rw[P4,beq_eq_false_iff_ne.mpr (Ne.symm q)]
     rw[Sv (by rw[decide_eq_false q];rfl),wD (e1.symm.trans e)]
theorem BO{k:Str}(Ub:CQ Z)(I:Inv Z Y U s.heap)(hb:Y[n]?=some a)(hc:U[n]?=some (.dct l))(rk:aE Y U s.heap u (.d (.str k))) :
   Ev Z O A (call (.builtin "dict.pop") [.ref a,u,.none]) (.ok (.d ((l.lookup k).getD .none)) (U.set n (.dct (l.filter λx=>!decide (x.1=k))))) VR Y U s:=by
 apply xr (oq rk);intro t g;obtain⟨kvs,D,hk,q,hg,z⟩:=I.cell n a _ hb hc;have hz:kvs.length=l.length:=by have:=congrArg List.length hk;rwa [Pd,Pd]at this
 rcases gU hk q k with⟨h1,h2⟩|⟨w,d,h1,h2,rw'⟩
 . refine h2▸?_;rw[wD h2];refine Ev.done (call_meetsIn F.slot_dict_pop D.typeIs F.entry_dict_pop (F.args_dict_pop_3 _ _ _) (meets_dict_pop_default (strKind Z.prog Z.w) a (k:=k) (mF k t) (yL Ub I hb) rfl _) ⟨kvs,D,h1,?_⟩);have N:=oB (O:=O) (ai:={ s with toks:=s.toks+1 }) (c:=.dct l) I hb hc rfl (λ_ _ _ e=>e) rfl rfl ⟨kvs,D,hk,q,hg,z⟩;exact⟨Y,N.1,N.2,.none⟩
 . refine h2▸?_;refine Ev.done (call_meetsIn F.slot_dict_pop D.typeIs F.entry_dict_pop (F.args_dict_pop_3 _ _ _) (meets_dict_pop_there (strKind Z.prog Z.w) a (k:=k) (mF k t) [.none] (.inr ⟨_,rfl⟩) rfl) ⟨kvs,w,D,by rw[hz];exact iv z cb,h1,λh' D' hs=>?_⟩);have M:=vX (k:=k) hk q;have N:=oB (O:=cz) (ai:={ s with heap:=h',toks:=s.toks+1 }) (c:=.dct (l.filter λx=>!decide (x.1=k))) I hb hc rfl (λb o hb e=>(hs.2 b hb).trans e) rfl rfl
     ⟨_,D',M.1,M.2,λx hx=>hg x ((List.filter_sublist.map _).subset hx),iv (Rj _ _) z⟩
   exact⟨Y,N.1.ofNo,N.2,N.1.rel0 rw'⟩
theorem yA(Ub:CQ Z)(I:Inv Z Y U s.heap)(hb:Y[n]?=some a)(hc:U[n]?=some (.dct l)) :
   Ev Z O A (call (.builtin "dict.pop") [.ref a,.none,.none]) (.ok (.d .none) U) VR Y U s:=by
 refine(I.cell n a _ hb hc).elim λkvs q9=>?_;have D:=q9.1;exact cc I (call_meetsIn F.slot_dict_pop D.typeIs F.entry_dict_pop (F.args_dict_pop_3 _ _ _) (meets_dict_pop_default (uR Z.prog Z.w) a (k:=none) rfl (yL Ub I hb) rfl _) ⟨_,Ec D,Ks _,⟨_,_,rfl⟩,.none⟩)
theorem tP[BEq B]{l:List B}{x:B}(I:Inv Z Y U s.heap)(g:s.heap.get? a=some (eP ws n))(hm:ws.toList.map e=l.map (·==x))(hlt:l.idxOf x < l.length)(z:l.length<=LIM)
   (hq:∀y,y∈ws->SeqAt.EqAt A.in1 s y u (e y)):Ev Z O A (call (.builtin "list.index") [.ref a,u]) (.ok (.d (.int (l.idxOf x:Nat))) U) VR Y U s:=by
 have hz:ws.size=l.length:=by have:=congrArg List.length hm;rwa [Pd,Pd,P1]at this
 have at':∀(m:Nat) (hm:m < ws.size) (hl:m < l.length),e ws[m]=(l[m]==x):=λm h1 h2=>by have:=congrArg (·[m]?) hm;simpa[h1,h2] using this
 have hi:l.idxOf x < ws.size:=hz▸hlt;refine cc I (call_meets F.slot_list_index ⟨_,g,rfl⟩ F.entry_list_index (F.args_list_index_2 _ _) (SeqAt.list_indexAt a ws n none #[] u e (l.idxOf x) hi ?_ ?_ ?_) ⟨g,hq,⟨_,_,rfl⟩,.int _ _⟩)
 . exact Qr.mpr (Qt hlt z) |> λh=>Su h (by decide)
 . rw[at' _ hi hlt];exact List.findIdx_getElem (p:=(·==x)) (w:=hlt)
 . intro m h1 h2;rw[at' m h1 (hz▸h1)];exact List.not_of_lt_findIdx (xs:=l) (p:=(·==x)) h2
theorem yZ{o:V}{x:Bool}{l:List Bool}(I:Inv Z Y U s.heap)(ro:aE Y U s.heap v o)(r:aE Y U s.heap u (.d (.bool x)))(hl:(aQ U o).bind c7=some l)(hlt:l.idxOf x < l.length) :
   Ev Z O A (call (.builtin "list.index") [v,u]) (.ok (.d (.int (l.idxOf x:Nat))) U) VR Y U s:=by
 apply iY (zS r);obtain⟨l0,hl0,hb⟩:=PM.mp hl;apply (bb I hl0 ro).el;intro a ws n e q z;obtain⟨hw,rfl⟩:=iL q hb;rw[Pd]at z;refine tP (e:=λv=>v==.bool x) I e ?_ hlt z λy hy=>?_
 . rw[hw,Qx];exact RA λb _=>nX b x
 . obtain⟨b,rfl⟩:=xQ hw hy;rw[show (Value.bool b==Value.bool x)=(b==x) from nX b x];exact SeqAt.EqAt.bool_bool b x
theorem Df{l:List Str}(h:PyProof.Rows.StrsAre vs l):vs.map (Value.isStrOf x)=l.map (·==x)/\∀y∈vs,X2 λb t=>y=.str b t:=by
 induction h with
 |nil=>exact⟨rfl,λ_ z=>absurd z QI⟩
 |cons y t _ ih=>exact⟨congrArg (List.cons (y==x)) ih.1,λz hz=>(PO.mp hz).elim (λe=>⟨y,t,e⟩) (ih.2 z)⟩
theorem BW{b:Me}{o:V}(Ub:CQ Z)(I:Inv Z Y U s.heap)(ro:aE Y U s.heap v o)(rx:eY Y U s.heap vs xs) :
   Ev Z O A (call (.builtin (MY b)) (v::vs)) (Gd b o xs U) VR Y U s:=by
 cases b with
 |append=>refine aY (λp e=>cy (λn x hn hd=>aY (λl hc=>cx λhl=>?_) Ev.bad) Ev.bad) Ev.bad;apply xr (li rx e);intro u r;rw[b9 hd]at r;rw[jK hn]at ro;have hc:=ky hc;apply LV (C0 ro);intro a hb;obtain⟨ws,m,e,q,z⟩:=I.cell n a _ hb hc;have hz:=q.length;simp only[P1]at hz;refine Ev.done (call_meets F.slot_list_append ⟨_,e,rfl⟩ F.entry_list_append (F.args_list_append_2 _ _) (list_append a ws m _ (by rw[hz];exact iv z cb)) ⟨e,?_⟩);obtain⟨⟨m',e'⟩,hk⟩:=ka (f:=λx_1=>x_1.push _) e;have N:=oB (O:=O) (ai:={ s with heap:=s.heap.update a (Obj.mapSeq λx_1=>x_1.push _),toks:=s.toks }) (c:=.lst (l++[x])) I hb hc rfl hk rfl rfl ⟨_,_,e',by simpa using q.append (.one r),by rw[PC];exact hl⟩;exact⟨Y,N.1,N.2,.none⟩
 |extend=>
   refine aY (λp e=>aY (λn hn=>cy (λl ys hc hy=>cx λhl=>?_) Ev.bad) Ev.bad) Ev.bad;apply xr (li rx e);intro u r;rw[jK hn]at ro;have hc:=ky hc;apply LV (C0 ro);intro a hb;obtain⟨ws,m,e,q,z⟩:=I.cell n a _ hb hc;have hz:=q.length;simp only[P1]at hz;apply (bb I hy r).el;intro a' us m' e' q' z';have hz':=q'.length;simp only[P1]at hz';have hsz:ws.size+us.size<=sizeLine:=by rw[hz,hz'];exact iv hl cb
   refine Ev.done (call_meets F.slot_list_extend ⟨_,e,rfl⟩ F.entry_list_extend (F.args_list_extend_2 _ _) (AutoSeq1.list_extend_list_list_0 a ws m a' us m' ?_ (iv (PW _ _) hsz) (Qv hsz)) ⟨e,e',?_⟩)
   . have:Builtin.List.listTooLong (ws.size+us.size)=false:=by unfold Builtin.List.listTooLong;simp;unfold LIM at hl;omega
     rw[this];simp
   obtain⟨⟨m',e'⟩,hk⟩:=ka (f:=λx=>x++us) e;have N:=oB (O:=O) (ai:={ s with heap:=s.heap.update a (Obj.mapSeq λx=>x++us),toks:=s.toks }) (c:=.lst (l++ys)) I hb hc rfl hk rfl rfl ⟨_,_,e',by simpa using q.append q',by rw[PC];exact hl⟩;exact⟨Y,N.1,N.2,.none⟩
 |update=>
   refine aY (λp e=>cy (λn k hn hk=>cx λhne=>cy (λx y hx hy=>cx λhl=>?_) Ev.bad) Ev.bad) Ev.bad;apply xr (li rx e);intro u r;rw[jK hn]at ro;rw[jK hk]at r;have hx:=jp hx;have hy:=jp hy;apply LV (C0 ro);intro a hb;obtain⟨kvs,D,hk,q,hg,z⟩:=I.cell n a _ hb hx;apply LV (C0 r);intro a' hb';obtain⟨kvs',D',hk',q',hg',z'⟩:=I.cell k a' _ hb' hy;have hz:kvs.length=x.length:=by have:=congrArg List.length hk;simpa using this
   have hz':kvs'.length=y.length:=by have:=congrArg List.length hk';simpa using this
   refine Ev.done (call_meetsIn F.slot_dict_update D.typeIs F.entry_dict_update (F.args_dict_update_2 _ _) (meets_dict_update (strKind Z.prog Z.w) a a' (I.addr_ne hb' hb (Ne.symm hne)) (yL Ub I hb')) ⟨kvs,kvs',D,D',by rw[hz,hz'];exact iv hl cb,λh' OK _ hs'=>?_⟩);have M:=rc hk' q' hk q;have N:=oB (O:=O) (ai:={ s with heap:=h' }) (c:=.dct (eH x y)) I hb hx rfl (λb o hb e=>(hs'.2 b hb).trans e) rfl rfl ⟨_,OK,M.1,M.2,λx hx=>(oZ hx).elim (hg' x) (hg x),iv (l6 _ _) hl⟩;exact⟨Y,N.1,N.2,.none⟩
 |pop=>
   refine aY (λp e=>cy (λn _ hn hz=>aY (λl hc=>?_) Ev.bad) Ev.bad) Ev.bad;apply C5 rx e;intro u w r r';replace r':=(qW hz)▸r';rw[jK hn]at ro;have hc:=jp hc;apply LV (C0 ro);intro a hb;cases (r');refine aY (λk hk=>?_) (aY (λ_ hk=>?_) Ev.bad)
   . rw[eA hk]at r;exact BO Ub I hb hc r
   . replace r:=(qW hk)▸r;cases (r);exact yA Ub I hb hc
 |count=>
   refine aY (λp e=>cy (λx l hx hl=>?_) Ev.bad) Ev.bad;apply xr (li rx e);intro u r;rw[nQ hx]at r;apply iY (zS r);obtain⟨l0,hl0,hb⟩:=PM.mp hl;apply (bb I hl0 ro).el;intro a ws n e q z;obtain⟨hw,rfl⟩:=iL q hb;refine cc I (call_meets F.slot_list_count ⟨_,e,rfl⟩ F.entry_list_count (F.args_list_count_2 _ _) (SeqAt.list_countAt a ws n none #[] (.bool x) (λv=>v==.bool x)) ⟨e,λy hy=>?_,⟨_,_,rfl⟩,?_⟩)
   . obtain⟨b,rfl⟩:=xQ hw hy;have:=SeqAt.EqAt.bool_bool (A:=A.in1) (s:=s) b x;rw[show (Value.bool b==Value.bool x)=(b==x) from nX b x];exact this
   . rw[hw,xD];exact .int _ _
 |index=>
   refine aY (λp e=>?_) Ev.bad;apply xr (li rx e);intro u r;refine cy (λx l hx hl=>cx λhlt=>?_) (cy (λx l hx hl=>cx λhlt=>?_) Ev.bad)
   . rw[nQ hx]at r;exact yZ I ro r hl hlt
   . rw[eA hx]at r;apply xr (oq r);intro t g;obtain⟨l0,hl0,hb⟩:=PM.mp hl;apply (bb I hl0 ro).el;intro a ws n e q z;obtain⟨S,rfl⟩:=qx q hb;obtain⟨hm,hs⟩:=Df (x:=x) S;rw[Pd]at z;refine tP I e hm hlt z λy hy=>?_;obtain⟨b,t',rfl⟩:=hs y (TK.mpr hy);exact SeqAt.EqAt.str_str b t' x t
 |nop _=>exact Ev.bad
theorem xy(I:Inv Z Y U s.heap):Ev Z O A (eval (.Dict [] [] pos) env) (.ok (.loc U.length) (U++[.dct []])) VR Y U s:=by
 refine Ev.done (wpAny_Dict_empty ?_);have N:=uQ (O:=O) (ai:={ s with heap:=s.heap.push { cls:=.type "dict",data:=.dict #[] } }) (a:=s.heap.objs.size) (c:=.dct []) I (λb o e=>PI _ e) (bo _) rfl rfl
   ⟨[],Heap.DictOf.new _,rfl,.nil,by simp,by simp⟩
 exact⟨_,N.1,N.2,_,by rw[<- I.len];simp,rfl⟩
theorem BK{k:Str}{t:Tok}{x:PyData}{E:VP}(I:Inv Z Y U s.heap)(hb:Y[n]?=some a)(hc:U[n]?=some (.dct l))(g:cY k)(r:Rel (TT Y U) s.heap v x)(hl:l.length < LIM)
   (q:∀s',Step O Y U s Y (U.set n (.dct (eZ k x l))) s'->Inv Z Y (U.set n (.dct (eZ k x l))) s'.heap->Q () s'):WP Z A (setItem (.ref a) (.str k t) v) Q E s:=by
 obtain⟨kvs,D,hk,q',hg,z⟩:=I.cell n a _ hb hc;have hz:kvs.length=l.length:=by have:=congrArg List.length hk;simpa using this
 refine wpAny_setItem_pairs (knd:=strKind Z.prog Z.w) (k:=k) (mF k t) D (λh' D' hs'=>?_) (hz▸iv z cb);have M:=qA (k:=k) hk q' r;have N:=oB (O:=O) (ai:={ s with heap:=h',toks:=s.toks+1 }) (c:=.dct (eZ k x l)) I hb hc rfl (λb o hb e=>(hs'.2 b hb).trans e) rfl rfl ⟨_,D',M.1,M.2,λy hy=>(tE hy).elim (λe=>e▸g) (hg y),iv (o0 _ _ _) hl⟩;exact q _ N.1 (N.2)noncomputable def Ct (w:World):Bool:=w.params.followText "set-order"
inductive StrEnts(w:World):List (Int×Value)->List Str->Prop
 |nil:StrEnts w [] []
 |cons (x:Str) (t:Tok) {es:List (Int×Value)} {L:List Str}:StrEnts w es L->StrEnts w ((hashStr w x,.str x t)::es) (x::L)variable {es:List (Int×Value)}{L:List Str}
theorem StrEnts.length(r:StrEnts w es L):es.length=L.length:=by
 induction r with
 |nil=>rfl
 |cons _ _ _ ih=>exact congrArg (·+1) ih
theorem StrEnts.perm{es':List (Int×Value)}(p:es'.Perm es):∀{L:List Str},StrEnts w es L->∃L',StrEnts w es' L'/\L'.Perm L:=by
 induction p with
 |nil=>intro L h;exact⟨L,h,.refl _⟩
 |cons e _ ih=>
   intro L h;cases h with
   |cons x t r=>obtain⟨L',h1,h2⟩:=ih r;exact⟨x::L',.cons x t h1,h2.cons x⟩
 |swap a b l=>
   intro L h;cases h with
   |cons x t r=>cases r with
     |cons y u r=>exact⟨y::x::_,.cons y u (.cons x t r),.swap ..⟩
 |trans _ _ ih1 ih2=>intro L h;obtain⟨L1,a1,a2⟩:=ih2 h;obtain⟨L2,b1,b2⟩:=ih1 a1;exact⟨L2,b1,b2.trans a2⟩
theorem StrEnts.snoc(x:Str)(t:Tok)(h:StrEnts w es L):StrEnts w (es++[(hashStr w x,.str x t)]) (L++[x]):=by
 induction h with
 |nil=>exact .cons x t .nil
 |cons y u _ ih=>exact .cons y u ih
theorem StrEnts.elems{prog:Program}(h:StrEnts w es L):ElemsOf (strKind prog w) es:=by
 induction h with
 |nil=>exact λe he=>absurd he QI
 |cons x t _ ih=>exact λe he=>(PO.mp he).elim (λz=>z▸⟨⟨x,by show Value.isStrOf x (.str x t)=true;simp[Value.isStrOf],rfl⟩,rfl⟩) (ih e)
theorem StrEnts.find{x:Str}:∀{es:List (Int×Value)} {L:List Str},StrEnts w es L->((es.findIdx? λe=>Value.isStrOf x e.2)=none↔x∉L)
 |_,_,.nil=>by simp
 |_,_,.cons y t r=>by
   rw[List.findIdx?_cons];by_cases h:y=x
   . have e:Value.isStrOf x (Value.str y t)=true:=by simp[Value.isStrOf,h]
     rw[if_pos e];simp[h]
   . have e:Value.isStrOf x (Value.str y t)=false:=by simp[Value.isStrOf,h]
     rw[if_neg (by rw[e];exact P0),Option.map_eq_none_iff,(r.find (x:=x)),PO,not_or];exact⟨λq=>⟨λq=>h q.symm,q⟩,λq=>q.2⟩def dm(w:World)(h:Heap)(a:Addr)(L:List Str):Prop:=X4 λo es ep t=>A4 (h.get? a=some o) (o.ExactSet) (o.data=.set es ep t) (A5 (StrEnts w es.toList L) (L.length < scanBound) (t.fits es.size=true) (t.led=!Ct w) ((L≠[]->t.plain=false)))
theorem uX(t:SetTable)(es:Array (Int×Value))(h:Int)(x:Value):(layNew t es h x).2.1.led=t.led/\((layNew t es h x).2.1.plain=true->t.plain=true):=by
 have os:∀(u:SetTable) (n:Nat),u.led=t.led->u.plain=t.plain->(u.orStandIn n).led=t.led/\((u.orStandIn n).plain=true->t.plain=true):=λu n h1 h2=>by
   unfold SetTable.orStandIn;split
   . exact⟨h1,λh=>h2▸h⟩
   . exact⟨h1,λh=>by injection h⟩
 unfold layNew;cases t.freeSlot h with
 |some p=>exact os _ _ rfl rfl
 |none=>exact⟨rfl,λh=>by injection h⟩
theorem qK(t:SetTable)(es:Array (Int×Value))(n:Nat):(relayAll t es n).2.1.led=t.led/\((relayAll t es n).2.1.plain=true->t.plain=true):=by
 have st:(t.standIn es.size).led=t.led/\((t.standIn es.size).plain=true->t.plain=true):=⟨rfl,λh=>by injection h⟩
 unfold relayAll;cases he:t.relaid (es.map (·.1)) n with
 |none=>exact st
 |some q=>
   obtain⟨t',order⟩:=q;have hm:t'.led=t.led/\(t'.plain=true->t.plain=true):=by obtain⟨ow,_,e⟩:=PM.mp he;clear he;injection e with e;injection e with e f;subst e;subst f;exact⟨rfl,id⟩
   show (if _ then _ else _:Array (Int×Value)×SetTable×Bool).2.1.led=_/\((if _ then _ else _:Array (Int×Value)×SetTable×Bool).2.1.plain=true->_)
   split
   . exact hm
   . exact(st)variable {L':List Str}{ep:Nat}{o:Obj}{t:SetTable}
theorem qz{es es':Array (Int×Value)}{t':SetTable}(ho:h.get? a=some o)(hex:o.ExactSet)(hd:o.data=.set es ep t)(he:StrEnts w es'.toList L')(hb:L'.length < scanBound)(hf:t'.fits es'.size=true)(hl:t'.led=!Ct w)(hp:L'≠[]->t'.plain=false) :
   (h.update a (Obj.putSet es' t')).get? a=some { o with data:=.set es' (ep+1) t' }/\dm w (h.update a (Obj.putSet es' t')) a L':=by
 have hg:(h.update a (Obj.putSet es' t')).get? a=some { o with data:=.set es' (ep+1) t' }:=by have:=QW (Obj.putSet es' t') ho (by rw[putSet_of es' t' hd];rfl);rw[putSet_of es' t' hd]at this;exact this
 exact⟨hg,_,es',ep+1,t',hg,hex,rfl,he,hb,hf,hl,hp⟩variable {I sa:Addr}{g:Bool->Sem Unit}{R:Result->Shared->Prop}{tk:Tok}
section
variable {prog:Program}{E:VP}
theorem x4(hg:∀(b:Bool) (ai:Shared) (Q':Unit->Shared->Prop),Q' () ai->wpAny (model prog w) A (g b) Q' E ai)
   {a:Addr} {o:Obj} {es es1:Array (Int×Value)} {ep:Nat} {t t2:SetTable} {L1:List Str} (ho:s.heap.get? a=some o) (hex:o.ExactSet) (hd:o.data=.set es ep t)
   (he:StrEnts w es1.toList L1) (hb:L1.length < scanBound) (hf:t2.fits es1.size=true) (hl:t2.led=!Ct w) (hp:t2.plain=false) {wasDummy:Bool} {R:Option Bool->Shared->Prop}
   (h:∀h' L',Heap.SameBut a s.heap h'->dm w h' a L'->L'.Perm L1->R (some true) { s with heap:=h' }) :
   wpAny (model prog w) A (do
       storeSet a es1 t2
       if (!wasDummy&&t2.tooFull)=true then do
           g (relayAll t2 es1 (SetTable.grown es1.size)).2.2
           storeSet a (relayAll t2 es1 (SetTable.grown es1.size)).1 (relayAll t2 es1 (SetTable.grown es1.size)).2.1
           pure (some true)
         else pure (some true)) R E s:=by
 have hsz:es1.size=L1.length:=by exact P1▸he.length
 refine OL (wpAny_storeSet_of ho hd ?_ (fits_of_scanBound (by rw[hsz];exact hb)));obtain⟨ho1,hS1⟩:=qz ho hex hd he hb hf hl λ_=>hp;have hsb1:=Heap.SameBut.update s.heap a (Obj.putSet es1 t2);split
 . have hpm:=relayAll_perm t2 es1 (SetTable.grown es1.size);have hfr:=relayAll_fits t2 es1 (SetTable.grown es1.size);have hmk:=qK t2 es1 (SetTable.grown es1.size);generalize relayAll t2 es1 (SetTable.grown es1.size)=Rl at hpm hfr hmk ⊢;obtain⟨es2,t3,gave2⟩:=Rl;dsimp only at hpm hfr hmk ⊢;refine(he.perm hpm).elim λL2 q9=>?_;have he2:=q9.1;have p2:=q9.2;have hb2:L2.length < scanBound:=by rw[p2.length_eq];exact hb
   have hsz2:es2.size=L2.length:=by exact P1▸he2.length
   have hp3:t3.plain=false:=by
     cases h3:t3.plain with
     |false=>rfl
     |true=>have:=hmk.2 h3;rw[hp]at this;injection this
   refine OL (hg _ _ _ ?_);refine OL (wpAny_storeSet_of ho1 rfl ?_ (fits_of_scanBound (by rw[hsz2];exact hb2)));have hS2:=(qz ho1 hex rfl he2 hb2 hfr (hmk.1.trans hl) λ_=>hp3).2;exact PJ (h _ L2 (hsb1.trans (Heap.SameBut.update _ a _)) hS2 p2)
 . exact PJ (h _ L1 hsb1 hS1 (.refl _))
set_option tactic.hygienic true in
theorem add_str{x:Str}{Q:Bool->Shared->Prop}(hS:dm w s.heap a L)(hroom:L.length+1 < scanBound)
   (h:∀(b:Bool) (h':Heap) (L':List Str),Heap.SameBut a s.heap h'->dm w h' a L'->(x∈L->L'=L)->(x∉L->L'.Perm (L++[x]))->Q b { s with heap:=h' }) :
   wpAny (model prog w) A (setAddHashed a (.str x tk) (hashStr w x)) Q E s:=by
 obtain⟨o,es,ep,t,ho,hex,hd,hel,hb,hf,hled,hpl⟩:=id hS;have hsz:es.size=L.length:=by exact P1▸hel.length
 have hE:ElemsOf (strKind prog w) es.toList:=hel.elems;have hkey:(strKind prog w).is x (.str x tk)=true:=by show Value.isStrOf x (.str x tk)=true;simp[Value.isStrOf]
 unfold setAddHashed setAddHashedIn;refine QT (OL (wpAny_setState_of ho hd hf ?_));dsimp only;rw[byScan_of (knd:=strKind prog w) rfl (by rw[hsz];exact hb) hE,if_pos rfl];unfold setAddByScan;refine OL ?_;refine OL (wpAny_rule ?_);refine OL (wpAny_setScan_of (knd:=strKind prog w) hkey ho hd hf hE ?_);have hfind:=hel.find (x:=x);cases hr:List.findIdx? (λe=>(strKind prog w).is x e.2) es.toList with
 |some j=>
   have hx:x∈L:=Classical.byContradiction λq=>by have:=hfind.mpr q;rw[show List.findIdx? (λe=>Value.isStrOf x e.2) es.toList=some j from hr]at this;injection this
   refine PJ (PJ ?_);have e:s={ s with heap:=s.heap }:=by clear h;cases s;rfl
   exact e▸(h false s.heap L (Heap.SameBut.refl a s.heap) hS (λ_=>rfl) λq=>absurd hx q)
 |none=>
   have hgw:∀(b:Bool) {ai:Shared} {Q':Unit->Shared->Prop},Q' () ai->wpAny (model prog w) A (match b with|true=>rule "set.scan.the-table-gave-way" |false=>pure ()) Q' E ai:=
     λb ai Q' hq=>by cases b<;>first|exact PJ hq|exact wpAny_rule hq
   have hperm:=layNew_perm t es (hashStr w x) (.str x tk);have hfits:=layNew_fits t es (hashStr w x) (.str x tk);have hmk:=uX t es (hashStr w x) (.str x tk);generalize layNew t es (hashStr w x) (.str x tk)=T at hperm hfits hmk ⊢;obtain⟨es1,t1,wasDummy,gave⟩:=T;dsimp only at hperm hfits hmk ⊢;refine kk λUc k=>?_;rw[Tg]at hperm;obtain⟨L1,hL1,pL1⟩:=(hel.snoc x tk).perm hperm;refine k ?_;have hlen1:L1.length < scanBound:=by rw[pL1.length_eq,PC];exact hroom
   have hl1:t1.led=!Ct w:=hmk.1.trans hled;have hend:∀h' L',Heap.SameBut a s.heap h'->dm w h' a L'->L'.Perm L1->Q true { s with heap:=h' }:=λh' L' hsb hS' hp=>h true h' L' hsb hS' (λq=>absurd q (hfind.mp hr)) λ_=>hp.trans pL1;refine OL (hgw _ ?_);split
   . refine OL ?_;rw[hashByValue_scannable 8 (x:=.str x tk) rfl];refine PJ ?_;refine x4 ?_ ho hex hd hL1 hlen1 ?_ ?_ ?_ ?_
     . intro b ai Q' hq;cases b<;>first|exact PJ hq|exact wpAny_rule hq
     . exact SetTable.fits_plain_off hfits
     . exact hl1
     . rfl
     . intro h' L' hsb hS' hp;exact PJ (hend h' L' hsb hS' hp)
   . rename_i hpl1;refine OL (PJ ?_);refine x4 ?_ ho hex hd hL1 hlen1 hfits hl1 (by simpa using hpl1) ?_
     . intro b ai Q' hq;cases b<;>first|exact PJ hq|exact wpAny_rule hq
     . intro h' L' hsb hS' hp;exact PJ (hend h' L' hsb hS' hp)theorem t6:entryFor table "set.update.loop"=some Builtin.«set.update.loop»:=entryFor_of_tree (by kernel_rfl)theorem oC:plainId "set.update.loop"=true:=by decide +kernel
theorem JJ(h:PyProof.Rows.StrsAre vs ss):∀{i:Nat} {v:Value},vs[i]?=some v->X2 λx t=>v=.str x t/\ss[i]?=some x:=by
 induction h with
 |nil=>intro i v e;simp at e
 |cons y t r ih=>
   intro i v e;cases i with
   |zero=>injection e with e;subst e;exact⟨y,t,rfl,rfl⟩
   |succ i=>exact ih (i:=i) (v:=v) (by simpa using e)theorem dm.keep(hS:dm w h a L)(k:∀o,h.get? a=some o->h'.get? a=some o):dm w h' a L:=by obtain⟨o,es,ep,t,ho,r1,r2,r3,r4,r5,r6,r7⟩:=hS;exact⟨o,es,ep,t,k o ho,r1,r2,r3,r4,r5,r6,r7⟩
theorem wa{l:Addr}(hh:A.handled=none)(hV:PyProof.Rows.StrsAre vs ss)(hlen:vs.length=ss.length)(h1:sa≠I)(h2:sa≠l)(h3:l≠I) :
   ∀(k i:Nat) (s:Shared) (L:List Str),ss.length - i=k->i<=ss.length->s.heap.IsListIter I l i->s.heap.IsList l vs.toArray->dm w s.heap sa L->L.Nodup->L.length+k < scanBound->
     (∀h' tk L',(∀b o,b≠I->b≠sa->s.heap.get? b=some o->h'.get? b=some o)->dm w h' sa L'->L'.Nodup->(∀y,y∈L'↔y∈L\/y∈ss.drop i)->R (.ok (.ret .none)) { s with heap:=h',toks:=tk })->
     codeAny (model prog w) A (.builtin "set.update.loop" ⟨[.ref sa,.ref I],[]⟩) R s:=by
 have W:=Walks.list (prog:=prog) (w:=w) (A:=A.in1) hh I l h3 vs.toArray;have hsz:vs.toArray.size=ss.length:=by simp[hlen]
 intro k
 induction k with
 |zero=>intro i s L hk hi hit hl hS hnd hb hR;have:i=ss.length:=RB hi (Tx hk);subst this;refine codeAny_builtin t6 ?_;refine(Around.under_plainId oC _)▸?_;show wpAny _ A.in1 (pyNext (.ref I) >>= _) _ _ s;refine OL (W.done s _ _ (by exact hsz▸⟨hit,hl⟩) λh' tk hk'=>?_);refine PJ ?_;refine hR h' tk L (λb o hb _ e=>hk' b o (λq=>hb (PN.mp q)) e) (hS.keep λo e=>hk' sa o (λq=>h1 (PN.mp q)) e) hnd λy=>?_;rw[Sk];simp
 |succ k ih=>
   intro i s L hk hi hit hl hS hnd hb hR;have hlt:i < ss.length:=Nat.sub_pos_iff_lt.mp (hk▸Rx k);refine codeAny_builtin t6 ?_;refine(Around.under_plainId oC _)▸?_;show wpAny _ A.in1 (pyNext (.ref I) >>= _) _ _ s;refine OL (W.item i s _ _ (by exact hsz▸hlt) ⟨hit,hl⟩ λv h' tk hP hst hk'=>?_);obtain⟨x,t,rfl,hx⟩:=JJ hV (i:=i) (v:=v) (by simpa using hP);refine OL (QT ?_);unfold setAdd;refine QT (OL ((strKind prog w).pyHash (k:=x) (by show Value.isStrOf x (.str x t)=true;simp[Value.isStrOf]) ?_));refine add_str (s:={ s with heap:=h',toks:=tk+1 }) (hS.keep λo e=>hk' sa o (λq=>h1 (PN.mp q)) e) (by omega) λb h'' L' hsb hS'' hin hout=>?_;have kk:∀c o,c≠sa->h'.get? c=some o->h''.get? c=some o:=λc o hc e=>hsb.extBut c o hc e;have hd:ss.drop i=x::ss.drop (i+1):=by rw[QV hlt];rw[PD hlt]at hx;injection hx with hx;rw[hx]
   have hL':L'.Nodup/\L'.length<=L.length+1/\∀y,y∈L'↔y∈L\/y=x:=by
     by_cases hxL:x∈L
     . rw[hin hxL];exact⟨hnd,Sl _,λy=>⟨.inl,λq=>q.elim id λq=>q▸hxL⟩⟩
     . have p:=hout hxL;refine⟨p.nodup_iff.mpr (RH.mpr ⟨hnd,by simp,λa ha b hb q=>hxL ?_⟩),by rw[p.length_eq];simp,λy=>by rw[p.mem_iff,PT,PN]⟩;exact(PN.mp hb)▸q▸ha
   refine PJ ⟨plainId_quiet oC _,ih (i+1) _ L' ((Nat.sub_add_eq ..).trans (by rw[hk];rfl)) hlt (hst.1.at λo e=>kk I o (Ne.symm h1) e) (hst.2.at λo e=>kk l o (Ne.symm h2) e) hS'' hL'.1 (by have:=hL'.2.1;omega) λh3' tk' L3 k3 hS3 hnd3 hm3=>?_⟩;refine hR h3' tk' L3 (λc o hc hc' e=>k3 c o hc hc' (kk c o hc' (hk' c o (λq=>hc (PN.mp q)) e))) hS3 hnd3 λy=>?_;rw[hm3,hL'.2.2,hd,PO,or_assoc]
end
theorem qt (v:Value):checkTypeCall "set" ⟨[v],[]⟩=pure ():=by kernel_rfl
theorem sJ (v:Value):checkBuiltinCall "set.__new__" ⟨[.type "set",v],[]⟩=pure ():=by kernel_rfl
variable {LI:VP}
section
variable {prog:Program}{E:VP}noncomputable abbrev fy (w:World):Obj:={ cls:=.type "set",dict:=none,data:=.set #[] 0 (.fresh 0 0 (!Ct w)) }
theorem sN(v:Value)(h:LI (.ref s.heap.objs.size) { s with heap:=s.heap.push (fy w) }) :
   codeAny (model prog w) A (.call (.builtin "set.__new__") ⟨[.type "set",v],[]⟩) (wants LI E) s:=by
 refine codeAny_of_tree ?_;refine(?_:wpAny _ A.in1 (do checkBuiltinCall "set.__new__" ⟨[.type "set",v],[]⟩;again (.builtin "set.__new__" ⟨[.type "set",v],[]⟩)) _ _ s);refine OL (wpAny_of_eq (sJ v) (PJ ⟨plainId_quiet F.plain_set_new _,codeAny_builtin F.entry_set_new ?_⟩));refine(Around.under_plainId F.plain_set_new _)▸?_;unfold Builtin.«set.__new__» Builtin.Frozenset.newClass;have hsub:=sub_set_self;obtain⟨hp,g,d,tk,os⟩:=s
 wp_walk
 refine wpAny_askSetting (PJ ?_)
 unfold newObj;refine OL (wpAny_alloc (PJ ?_));exact PJ h
theorem pN {self:Value} (hT:s.TypeIs self "set") (hQ:Q () s) :
   wpAny M A (checkBuiltinCall "set.__init__" ⟨[self,v],[]⟩) Q E s:=by
 unfold checkBuiltinCall;refine kind_set_init▸split_set_init▸sig_set_init▸?_;refine OL (wpAny_isInstance hT sub_set_self ?_);rw[Sy,if_neg P0];unfold Bind.checkArgs
 refine OL (m:=Bind.printed "set" true _ _) (PyProof.Rows.printed_name (by decide) ?_);refine OL (m:=Bind.printed "*" false _ _) (PyProof.Rows.printed_star (self:=self) rfl hT λshort=>?_);exact wpAny_of_eq (a:=()) (by kernel_rfl) (hQ)theorem wN:isSubtype (.type "list") (.type "set")=pure false:=by rw[isSubtype_type];kernel_rfl
theorem qV:isSubtype (.type "list") (.type "frozenset")=pure false:=by rw[isSubtype_type];kernel_rfl
theorem sG{l:Addr}{id:String}(hh:A.handled=none)(hl:s.heap.IsList l vs.toArray)(hV:PyProof.Rows.StrsAre vs ss)(hlen:vs.length=ss.length)(hne:sa≠l)(hS:dm w s.heap sa L)(hnd:L.Nodup)(hb:L.length+ss.length < scanBound)
   (h:∀h' tk L',(∀b o,b≠sa->s.heap.get? b=some o->h'.get? b=some o)->dm w h' sa L'->L'.Nodup->(∀y,y∈L'↔y∈L\/y∈ss)->Q () { s with heap:=h',toks:=tk }) :
   wpAny (model prog w) A (Builtin.Frozenset.updateFrom id sa (.ref l)) Q E s:=by
 have hT:s.TypeIs (.ref l) "list":=by obtain⟨o,ho,hc,_⟩:=hl;exact⟨o,ho,hc⟩
 have hsa:sa < s.heap.objs.size:=by obtain⟨o,_,_,_,ho,_⟩:=hS;exact Qz ho
 have hla:l < s.heap.objs.size:=by obtain⟨o,ho,_⟩:=hl;exact Qz ho
 unfold Builtin.Frozenset.updateFrom Builtin.Frozenset.isAnySet;refine OL ?_;show wpAny _ _ (isInstance (.ref l) (.type "set") >>= _) _ _ _;refine OL (wpAny_isInstance (b:=false) hT wN ?_);refine(?_:wpAny _ _ (isInstance (.ref l) (.type "frozenset")) _ _ _);refine wpAny_isInstance (b:=false) hT qV ?_;refine(?_:wpAny _ _ (typeOf (.ref l) >>= _) _ _ _);refine OL (wpAny_typeOf hT ?_);rw[if_neg (by decide)];refine OL (wpAny_pyIter_list hl ?_);refine OL (wpAny_runValue ?_);refine wa hh hV hlen (QG hsa) hne (QG hla) ss.length 0 _ L (by rfl) (PU _) ⟨_,PX _ rfl,rfl,rfl⟩ (hl.at λo e=>PI _ e) (hS.keep λo e=>PI _ e) hnd hb λh' tk L' hk hS' hnd' hm=>?_;refine PJ (h h' tk L' (λb o hb e=>hk b o (λq=>?_) hb (PI _ e)) hS' hnd' λy=>by rw[hm];simp);exact absurd (Qz e) (by rw[q];exact Rt _)
set_option maxHeartbeats 999999 in
theorem zu{l:Addr}{Q:VP}(hh:A.handled=none)(hl:s.heap.IsList l vs.toArray)(hV:PyProof.Rows.StrsAre vs ss)(hlen:vs.length=ss.length)(hb:ss.length < 4000)
   (h:∀h' tk L',(∀b o,s.heap.get? b=some o->h'.get? b=some o)->dm w h' s.heap.objs.size L'->L'.Nodup->(∀y,y∈L'↔y∈ss)->Q (.ref s.heap.objs.size) { s with heap:=h',toks:=tk }) :
   wpAny (model prog w) A (call (.type "set") [.ref l]) Q E s:=by
 obtain⟨c,tl,hmro⟩:=F.called_set.mro;have hmade:=F.called_set.made;have hsub:=F.called_set.sub;refine wpAny_call (codeAny_of_tree ?_);refine(?_:wpAny _ _ (callAny (.type "set") _) _ _ _);refine PJ ⟨Code.quiet_builtin _ (by decide +kernel),codeAny_builtin F.entry_type_call ?_⟩;rw[Around.under_plain (weight_type_call_type "set" [.ref l] []) rfl];have hct:=qt (.ref l)
 repeat (any_goals (first|assumption|wp_step))
 refine codeAny_mono (sN (E:=E) (.ref l) (LI:=λobj ai=>obj=.ref s.heap.objs.size/\ai={ s with heap:=s.heap.push (fy w) }) ⟨rfl,rfl⟩) λr ai hr=>?_;cases r with
 |error e=>exact hr
 |ok fl=>
   cases fl with
   |ret obj=>
     obtain⟨rfl,rfl⟩:=hr;have hS:(s.heap.push (fy w)).get? s.heap.objs.size=some (fy w):=PX _ rfl;have hT:Shared.TypeIs { s with heap:=s.heap.push (fy w) } (.ref s.heap.objs.size) "set":=⟨_,hS,rfl⟩
     have hli:=F.called_set.init.lookup;have hbi:=F.called_set.init.bind (.ref s.heap.objs.size)
     repeat (any_goals (first|assumption|wp_step))
     refine codeAny_mono (codeAny_call_builtin (R:=wants (λr aq=>r=.none/\Q (.ref s.heap.objs.size) aq) E) F.called_set.init.plain F.entry_set_init (pN hT ?_)) λuF aq Ez=>?_
     . unfold Builtin.«set.__init__» noKeywords;have hl':(s.heap.push (fy w)).IsList l vs.toArray:=hl.at λo e=>PI _ e;have hU:=λ(Q:Unit->Shared->Prop) (E:VP)=>sG (prog:=prog) (w:=w) (A:=A.in1.in1) (E:=E) (s:={ s with heap:=s.heap.push (fy w) }) (sa:=s.heap.objs.size) (id:="set.__init__") (Q:=Q) hh hl' hV hlen (Sm (by obtain⟨o,ho,_⟩:=hl;exact Qz ho)) (⟨_,#[],0,_,hS,⟨rfl,rfl,rfl⟩,rfl,.nil,by decide,by rfl,rfl,λq=>absurd rfl q⟩) SI (by simp[scanBound];lia);generalize Builtin.Frozenset.updateFrom=Ua at hU ⊢
       wp_walk
       refine hU _ _ λh' tk L' hk hS' hnd' hm=>?_;refine PJ ⟨rfl,h h' tk L' (λb o e=>hk b o (λq=>absurd (Qz e) (by rw[q];exact Rt _)) (PI _ e)) hS' hnd' λy=>?_⟩;rw[hm];simp
     . cases uF with
       |error e=>exact Ez
       |ok No=>
         cases No with
         |ret r=>
           obtain⟨rfl,hq⟩:=Ez
           repeat (any_goals (first|assumption|wp_step))
         |_=>exact Ez.elim
   |_=>exact hr.elim
end
theorem bu:Slot "set_iterator" "__next__" "set_iterator.__next__":=
 .of (owner:="set_iterator") (n:="__next__") (by rw[typeLookup_type,builtinLookup_eq_fast];kernel_rfl) (by decide +kernel) (by decide +kernel) (by decide +kernel)
   (by first|exact .inl (by decide +kernel) | exact .inr (by decide +kernel)) (by rw[isSubtype_type];kernel_rfl)
theorem mZ:Slot "set_iterator" "__iter__" "set_iterator.__iter__":=
 .of (owner:="set_iterator") (n:="__iter__") (by rw[typeLookup_type,builtinLookup_eq_fast];kernel_rfl) (by decide +kernel) (by decide +kernel) (by decide +kernel)
   (by first|exact .inl (by decide +kernel) | exact .inr (by decide +kernel)) (by rw[isSubtype_type];kernel_rfl)theorem fO:entryFor table "set_iterator.__next__"=some Builtin.«set_iterator.__next__»:=entryFor_of_fast (by kernel_rfl)theorem gB (a:Value):argsOk "set_iterator.__next__" ⟨[a],[]⟩:=by unfold argsOk;kernel_rfl
theorem vk:entryFor table "set.__iter__"=some Builtin.«frozenset.__iter__»:=
 entryFor_alias (id':="frozenset.__iter__") (by kernel_rfl) rfl (by decide +kernel) (by kernel_rfl)noncomputable abbrev mh (a:Addr) (n ep:Nat) (f:Value) (i:Nat):Obj:={ cls:=.type "set_iterator",dict:=none,data:=.fields #[f,rawInt i,.ref a,rawInt n,rawInt ep],slots:=#[] }variable {es:Array (Int×Value)}{i sl:Nat}{Q:Option Value->Shared->Prop}
section
variable {prog:Program}{E:VP}
theorem IY{nx:Nat}{x:Value}(hI:s.heap.get? I=some (mh a n ep (rawInt sl) i))(ho:s.heap.get? a=some o)(hd:o.data=.set es ep t)(hf:t.fits es.size=true)(hn:es.size=n)
   (hN:∀{A':Around} {E':VP} {Q':Option (Value×Nat)->Shared->Prop},Q' (some (x,nx)) s->wpAny (model prog w) A' (setNext a sl i ep) Q' E' s)
   (hQ:∀h',h'.get? I=some (mh a n ep (rawInt nx) (i+1))->Heap.SameBut I s.heap h'->Q (some x) { s with heap:=h' }):wpAny (model prog w) A (pyNext (.ref I)) Q E s:=by
 have hT:s.TypeIs (.ref I) "set_iterator":=⟨_,hI,rfl⟩
 unfold pyNext;refine OL (wpAny_attempt (wpAny_callSpecial?_slot (name:=Str.ofString "__next__") hT bu (wpAny_call_entry bu hT fO ?_ (gB _))));refine(?_:wpAny _ _ (fieldsOf (.ref I) >>= _) _ _ s);refine OL (wpAny_fieldsOf hI rfl ?_);refine(?_:wpAny _ _ (setEntries a >>= _) _ _ s);refine OL (wpAny_setEntries_of ho hd hf ?_);rw[if_neg (by rw[hn];simp)];show wpAny _ _ (setNext a (Int.toNat (sl:Int)) (Int.toNat (i:Int)) (Int.toNat (ep:Int)) >>= _) _ _ s;rw[Qu,Qu,Qu];refine OL (hN ?_);refine OL (wpAny_setField_rec hI (by simp) λh1 e1 k1=>?_);refine OL (wpAny_setField_rec e1 (by simp) λh2 e2 k2=>?_);exact PJ ⟨x,rfl,PJ (hQ h2 e2 (k1.trans k2))⟩
theorem Nr{a:Addr}{i:Nat}(hh:A.handled=none)(hI:s.heap.get? I=some (mh a n ep (rawInt sl) i))(ho:s.heap.get? a=some o)(hd:o.data=.set es ep t)(hf:t.fits es.size=true)(hn:es.size=n)
   (hN:∀{A':Around} {E':VP} {Q':Option (Value×Nat)->Shared->Prop},Q' none s->wpAny (model prog w) A' (setNext a sl i ep) Q' E' s)
   (hQ:∀h',Heap.ExtBut I s.heap h'->Q none { s with heap:=h' }):wpAny (model prog w) A (pyNext (.ref I)) Q E s:=by
 have hT:s.TypeIs (.ref I) "set_iterator":=⟨_,hI,rfl⟩
 unfold pyNext;refine OL (wpAny_attempt (wpAny_callSpecial?_slot (name:=Str.ofString "__next__") hT bu (wpAny_call_entry bu hT fO ?_ (gB _))));show wpAny _ _ (fieldsOf (.ref I) >>= _) _ _ s;refine OL (wpAny_fieldsOf hI rfl ?_);refine(?_:wpAny _ _ (setEntries a >>= _) _ _ s);refine OL (wpAny_setEntries_of ho hd hf ?_);rw[if_neg (by rw[hn];simp)];show wpAny _ _ (setNext a (Int.toNat (sl:Int)) (Int.toNat (i:Int)) (Int.toNat (ep:Int)) >>= _) _ _ s;rw[Qu,Qu,Qu];refine OL (hN ?_);refine OL (wpAny_setField (i:=2) (x:=Value.none) hI rfl (by simp) ?_);show wpAny _ _ (newExc (.type "StopIteration") [] >>= _) _ _ _;refine OL ?_;unfold newExc newTuple;refine OL (Qp ?_ (by size_fits));refine OL (m:=firstArgMember _ _) (wpAny_of_eq (a:=Value.none) (by first|rfl | (simp only[firstArgMember];rfl)) ?_);refine Qp ?_ (by size_fits);unfold raiseNew;refine OL (wpAny_handled ?_);rw[show A.in1.handled=none from hh];refine OL (PJ (wpAny_throw ?_));refine OL (wpAny_isInstance (T:="StopIteration") (b:=true) ⟨_,PX _ rfl,rfl⟩ isSubtype_stop ?_);exact PJ (hQ _ (((Heap.SameBut.update ..).extBut.push _).push _))
theorem tw(hb:Ct w=true)(ho:s.heap.get? a=some o)(hd:o.data=.set es ep t)(hf:t.fits es.size=true){Q:Option (Value×Nat)->Shared->Prop}
   (h:Q (((pickOrder (w.params.setOrder a ep) es)[i]?).map λe=>(e.2,sl)) s):wpAny (model prog w) A (setNext a sl i ep) Q E s:=by
 unfold setNext;refine OL (wpAny_setState_of ho hd hf ?_)
 unfold setsByText;refine OL (OL (wpAny_askSetting (PJ ?_)))
 have hb':(model prog w).w.params.followText "set-order"=true:=hb;rw[if_pos hb',if_neg (by simp)];refine OL ?_;unfold setWalk setsByText;refine OL (wpAny_setState_of ho hd hf ?_)
 refine OL (OL (wpAny_askSetting (PJ ?_)))
 rw[if_pos hb'];refine OL (wpAny_askSetting (PJ (PJ h)))
set_option tactic.hygienic true in
theorem tz(hb:Ct w=false)(hled:t.led=true)(h1:es.size<=1)(ho:s.heap.get? a=some o)(hd:o.data=.set es ep t)(hf:t.fits es.size=true){Q:Option (Value×Nat)->Shared->Prop}
   (h:Q (match es[SetTable.below t.place sl]?,t.place[SetTable.below t.place sl]? with|some (_,x),some j=>some (x,j+1) | _,_=>none) s):wpAny (model prog w) A (setNext a sl i ep) Q E s:=by
 unfold setNext;refine OL (wpAny_setState_of ho hd hf ?_)
 unfold setsByText;refine OL (OL (wpAny_askSetting (PJ ?_)))
 have hb':¬ (model prog w).w.params.followText "set-order"=true:=by show ¬ Ct w=true;rw[hb];exact P0
 rw[if_neg hb'];split
 . rename_i hdr;have hdr:(!t.plain&&decide (es.size > 1))=true:=hdr;simp only[P5,decide_eq_true_eq]at hdr;omega
 . refine OL ?_;show wpAny _ _ (if (!t.led&&!es.isEmpty)=true then unsupported "set:maker-not-led" else pure ()) _ _ _;rw[if_neg (by rw[hled];simp)];exact PJ (PJ h)
end
theorem mK:∀(l:List B) (i:Nat) (x:B),l[i]?=some x->l.Perm (x::l.eraseIdx i)
 |[],i=>@λx h=>by simp at h
 |y::l,0=>@λx h=>by injection h with e;subst e;exact .refl _
 |y::l,i+1=>@λx h=>by
   have h':l[i]?=some x:=by simpa using h
   exact((mK l i x h').cons y).trans (.swap ..)
theorem Ao(next:Nat->Nat):∀(fuel k:Nat) (left:List B) (out:Array B),left.length<=fuel->(pickOrder.go next fuel k left out).toList.Perm (out.toList++left)
 |0=>@λk left out h=>by have:left=[]:=Ro (Nat.le_zero.mp h);subst this;rw[P6];exact .refl _
 |fuel+1=>@λk left out h=>by
   show (match left[next k % left.length]? with|some x=>pickOrder.go next fuel (k+1) (left.eraseIdx (next k % left.length)) (out.push x) | none=>out).toList.Perm _;cases hx:left[next k % left.length]? with
   |some x=>
     have hp:=mK left _ x hx;have hl:(left.eraseIdx (next k % left.length)).length<=fuel:=by have:=hp.length_eq;rw[PZ]at this;lia
     refine(Ao next fuel (k+1) _ _ hl).trans ?_;rw[Tg,PV];exact hp.symm.append_left _
   |none=>
     have:left=[]:=by
       clear h;cases left with
       |nil=>rfl
       |cons y l=>
         have:next k % (y::l).length < (y::l).length:=Nat.mod_lt _ (by simp)
         rw[PD this]at hx;injection hx
     rw[this,P6]
theorem k9(next:Nat->Nat)(xs:Array B):(pickOrder next xs).toList.Perm xs.toList:=by
 unfold pickOrder;have:=Ao next xs.size 0 xs.toList #[] (by simp)
 simpa using this
variable {tp:Addr}{ps:Array Value}{nt:Nat}{ot:Obj}{src:Source}
section
variable {prog:Program}{E:VP}theorem zq{Q:Nat->Shared->Prop}(hn:n≠0)(h:∀k d,k < n->Q k { s with drawn:=d }):wpAny (model prog w) A (choose src n) Q E s:=λΓ p hΓ=>by unfold choose;rw[Sem.wp_choose];exact⟨hn,h _ _ (Nat.mod_lt _ (Nat.pos_of_ne_zero hn))⟩
theorem xw:∀(n:Nat) (xs:List B) (s:Shared) {Q:List B->Shared->Prop},xs.length<=n->(∀ys d,ys.Perm xs->Q ys { s with drawn:=d })->wpAny (model prog w) A (drawOrder n xs) Q E s
 |0,xs=>@λs Q h hQ=>by have:xs=[]:=Ro (Nat.le_zero.mp h);subst this;refine(?_:wpAny _ _ (pure []) _ _ _);exact PJ (hQ [] s.drawn (.refl _))
 |n+1,[]=>@λs Q h hQ=>by show wpAny _ _ (pure []) _ _ _;exact PJ (hQ [] s.drawn (.refl _))
 |n+1,x::xs=>@λs Q h hQ=>by
   refine(?_:wpAny _ _ (do let i <- choose .order (x::xs).length;match (x::xs)[i]? with|some y=>return y::(<- drawOrder n ((x::xs).eraseIdx i)) | none=>unsupported "internal:drawOrder") _ _ _);refine OL (zq (by simp) λk d hk=>?_);refine(PD hk)▸?_
   have hp:=mK (x::xs) k _ (PD hk);have hl:((x::xs).eraseIdx k).length<=n:=by have:=hp.length_eq;rw[PZ]at this h;rw[PZ]at this;lia
   refine OL (xw n _ _ hl λys d' hys=>?_);exact PJ (hQ _ d' ((hys.cons _).trans hp.symm))
theorem MU{pl:Nat}{h0:Int}{x:Value}(hI:s.heap.get? I=some (mh a n ep (.ref tp) i))(ho:s.heap.get? a=some o)(hd:o.data=.set es ep t)(hf:t.fits es.size=true)(hn:es.size=n)
   (htp:s.heap.get? tp=some ot) (hdt:ot.data=.seq ps nt) (hp:ps[i]?=some (rawInt pl)) (hx:es[pl]?=some (h0,x))
   (hQ:∀h',h'.get? I=some (mh a n ep (.ref tp) (i+1))->Heap.SameBut I s.heap h'->Q (some x) { s with heap:=h' }):wpAny (model prog w) A (pyNext (.ref I)) Q E s:=by
 have hT:s.TypeIs (.ref I) "set_iterator":=⟨_,hI,rfl⟩
 unfold pyNext;refine OL (wpAny_attempt (wpAny_callSpecial?_slot (name:=Str.ofString "__next__") hT bu (wpAny_call_entry bu hT fO ?_ (gB _))));refine(?_:wpAny _ _ (fieldsOf (.ref I) >>= _) _ _ s);refine OL (wpAny_fieldsOf hI rfl ?_);refine(?_:wpAny _ _ (setEntries a >>= _) _ _ s);refine OL (wpAny_setEntries_of ho hd hf ?_);rw[if_neg (by rw[hn];simp)];show wpAny _ _ (seqItems? (.ref tp) >>= _) _ _ s;refine OL (wpAny_seqItems htp hdt ?_);refine(?_:wpAny _ _ (match ps[Int.toNat (i:Int)]? with|some (.int place _)=>_|some _=>_|none=>_) _ _ s);rw[Qu,hp];show wpAny _ _ (setNextDrawn a (Int.toNat (pl:Int)) (Int.toNat (ep:Int)) >>= _) _ _ s;rw[Qu,Qu];refine OL ?_;unfold setNextDrawn;refine OL (wpAny_setState_of ho hd hf ?_);dsimp only;rw[if_neg (by simp),hx];refine PJ ?_;refine OL (wpAny_setField_rec hI (by simp) λh1 e1 k1=>?_);exact PJ ⟨x,rfl,PJ (hQ h1 e1 k1)⟩
theorem Oj{a:Addr}{i:Nat}(hh:A.handled=none)(hI:s.heap.get? I=some (mh a n ep (.ref tp) i))(ho:s.heap.get? a=some o)(hd:o.data=.set es ep t)(hf:t.fits es.size=true)(hn:es.size=n)
   (htp:s.heap.get? tp=some ot) (hdt:ot.data=.seq ps nt) (hp:ps[i]?=none)
   (hQ:∀h',Heap.ExtBut I s.heap h'->Q none { s with heap:=h' }):wpAny (model prog w) A (pyNext (.ref I)) Q E s:=by
 have hT:s.TypeIs (.ref I) "set_iterator":=⟨_,hI,rfl⟩
 unfold pyNext;refine OL (wpAny_attempt (wpAny_callSpecial?_slot (name:=Str.ofString "__next__") hT bu (wpAny_call_entry bu hT fO ?_ (gB _))));show wpAny _ _ (fieldsOf (.ref I) >>= _) _ _ s;refine OL (wpAny_fieldsOf hI rfl ?_);refine(?_:wpAny _ _ (setEntries a >>= _) _ _ s);refine OL (wpAny_setEntries_of ho hd hf ?_);rw[if_neg (by rw[hn];simp)];show wpAny _ _ (seqItems? (.ref tp) >>= _) _ _ s;refine OL (wpAny_seqItems htp hdt ?_);refine(?_:wpAny _ _ (match ps[Int.toNat (i:Int)]? with|some (.int place _)=>_|some _=>_|none=>_) _ _ s);rw[Qu,hp];refine OL (wpAny_setField_rec (x:=rawInt 0) hI (by simp) λh1 e1 k1=>?_);refine OL (wpAny_setField (i:=2) (x:=Value.none) e1 rfl (by simp) ?_);show wpAny _ _ (newExc (.type "StopIteration") [] >>= _) _ _ _;refine OL ?_;unfold newExc newTuple;refine OL (Qp ?_ (by size_fits));refine OL (m:=firstArgMember _ _) (wpAny_of_eq (a:=Value.none) (by first|rfl | (simp only[firstArgMember];rfl)) ?_);refine Qp ?_ (by size_fits);unfold raiseNew;refine OL (wpAny_handled ?_);rw[show A.in1.handled=none from hh];refine OL (PJ (wpAny_throw ?_));refine OL (wpAny_isInstance (T:="StopIteration") (b:=true) ⟨_,PX _ rfl,rfl⟩ isSubtype_stop ?_);refine PJ (hQ _ ?_);exact(((k1.trans (Heap.SameBut.update ..)).extBut.push _).push _)
end
theorem sM:entryFor table "set_iterator.__iter__"=some Builtin.«dict_keyiterator.__iter__»:=
 entryFor_alias (id':="dict_keyiterator.__iter__") (by kernel_rfl) rfl (by decide +kernel) (by kernel_rfl)theorem vE (a:Value):argsOk "set_iterator.__iter__" ⟨[a],[]⟩:=by unfold argsOk;kernel_rfl
theorem StrEnts.strs:∀{es:List (Int×Value)} {L:List Str},StrEnts w es L->PyProof.Rows.StrsAre (es.map (·.2)) L
 |_,_,.nil=>.nil
 |_,_,.cons x t r=>.cons x t (r.strs)variable {Q:VP}
section
variable {prog:Program}{E:VP}
theorem oG(hI:s.heap.get? I=some (mh a n ep f i))(h:Q (.ref I) s):wpAny (model prog w) A (pyIter (.ref I)) Q E s:=by
 have hT:s.TypeIs (.ref I) "set_iterator":=⟨_,hI,rfl⟩
 refine wpAny_pyIter_slot hT mZ (wpAny_call_entry mZ hT sM ?_ (vE _));refine(?_:wpAny _ _ (ret (.ref I)) _ _ s);exact PJ ⟨_,rfl,"set_iterator",_,hT,bu.lookup,h⟩
theorem Jz(hb:Ct w=true)(hne:a≠I)(hd:o.data=.set es ep t)(hf:t.fits es.size=true)(hh:A.handled=none) :
   Walks prog w A I [I,a] [I] es.size (λi v=>((pickOrder (w.params.setOrder a ep) es).toList.map (·.2))[i]?=some v) (λi h=>h.get? I=some (mh a es.size ep (rawInt (0:Nat)) i)/\h.get? a=some o) where
 sub:=λb hb=>by simp at hb;simp[hb]
 frame:=λ_ _ _ st hk=>⟨hk I (by simp) _ st.1,hk a (by simp) _ st.2⟩
 item:=λi s Q E hi st hQ=>by
   have hsz:(pickOrder (w.params.setOrder a ep) es).size=es.size:=by rw[<- P1,(k9 _ es).length_eq,P1]
   have hlt:i < (pickOrder (w.params.setOrder a ep) es).size:=by rw[hsz];exact hi
   refine IY (x:=(pickOrder (w.params.setOrder a ep) es)[i].2) (nx:=0) st.1 st.2 hd hf rfl (λq=>tw hb st.2 hd hf (by rw[Sh hlt];exact q)) λh' e' k'=>?_;exact hQ _ h' s.toks (by simp[hlt]) ⟨e',k'.extBut a _ hne st.2⟩ λb o hb e=>k'.extBut b o (λq=>hb (by simp[q])) e
 done:=λs Q E st hQ=>by
   have hsz:(pickOrder (w.params.setOrder a ep) es).size=es.size:=by rw[<- P1,(k9 _ es).length_eq,P1]
   refine Nr hh st.1 st.2 hd hf rfl (λq=>tw hb st.2 hd hf (by rw[RW (Qm hsz)];exact q)) λh' e'=>?_;exact hQ h' s.toks λb o hb e=>e' b o (λq=>hb (by simp[q])) e
 self:=λ_ _ _ _ st hQ=>oG st.1 hQ
noncomputable def xv(es:Array (Int×Value))(k:Nat):Int×Value:=(es[k]?).getD (0,.none)
theorem xt(es:Array (Int×Value)):(List.range es.size).map (xv es)=es.toList:=by
 refine SG λi=>?_;rw[Qe];by_cases h:i < es.size
 . rw[PD (by simpa using h)];simp[xv,h]
 . rw[Rh (by simpa using h),Rh (by simpa using h)];rfl
theorem JB{ys:List Nat}(hys:ys.Perm (List.range es.size))(hne:a≠I)(hnt:tp≠I)(hd:o.data=.set es ep t)(hf:t.fits es.size=true)(hdt:ot.data=.seq (ys.map λ(k:Nat)=>rawInt (k:Int)).toArray)(hh:A.handled=none) :
   Walks prog w A I [I,a,tp] [I] es.size (λi v=>((ys.map (xv es)).map (·.2))[i]?=some v) (λi h=>h.get? I=some (mh a es.size ep (.ref tp) i)/\h.get? a=some o/\h.get? tp=some ot) where
 sub:=λb hb=>by simp at hb;simp[hb]
 frame:=λ_ _ _ st hk=>⟨hk I (by simp) _ st.1,hk a (by simp) _ st.2.1,hk tp (by simp) _ st.2.2⟩
 item:=λi s Q E hi st hQ=>by
   have hl:ys.length=es.size:=by rw[hys.length_eq,Rc]
   have hlt:i < ys.length:=by rw[hl];exact hi
   have hm:ys[i] < es.size:=Rf.mp (hys.mem_iff.mp (Rp hlt));refine MU (pl:=ys[i]) (h0:=(es[ys[i]]).1) (x:=(es[ys[i]]).2) st.1 st.2.1 hd hf rfl st.2.2 hdt (by simp[hlt]) (by simp[hm]) λh' e' k'=>?_;exact hQ _ h' s.toks (by simp[hlt,xv,hm]) ⟨e',k'.extBut a _ hne st.2.1,k'.extBut tp _ hnt st.2.2⟩ λb o hb e=>k'.extBut b o (λq=>hb (by simp[q])) e
 done:=λs Q E st hQ=>by
   have hl:ys.length=es.size:=by rw[hys.length_eq,Rc]
   refine Oj hh st.1 st.2.1 hd hf rfl st.2.2 hdt (by simp[hl]) λh' e'=>?_;exact hQ h' s.toks λb o hb e=>e' b o (λq=>hb (by simp[q])) e
 self:=λ_ _ _ _ st hQ=>oG st.1 hQ
theorem ud(j sl:Nat):SetTable.below #[j] sl=if j < sl then 1 else 0:=by show SetTable.below.go #[j] sl 1 0 1=_;exact(show SetTable.below.go #[j] sl 1 0 1=(if (0:Nat) < 1 then (if j < sl then 1 else 0) else 0) from rfl).trans (if_pos (by decide))
theorem JA(hb:Ct w=false)(hled:t.led=true)(h1:es.size<=1)(hne:a≠I)(hd:o.data=.set es ep t)(hf:t.fits es.size=true)(hh:A.handled=none) :
   Walks prog w A I [I,a] [I] es.size (λi v=>(es.toList.map (·.2))[i]?=some v) (λi h=>h.get? I=some (mh a es.size ep (rawInt ((if i=0 then 0 else (t.place[0]?).getD 0+1:Nat):Int)) i)/\h.get? a=some o) where
 sub:=λb hb=>by simp at hb;simp[hb]
 frame:=λ_ _ _ st hk=>⟨hk I (by simp) _ st.1,hk a (by simp) _ st.2⟩
 item:=λi s Q E hi st hQ=>by
   have hi0:i=0:=Ta.mp (Qt hi h1);subst hi0;have hs1:es.size=1:=RB h1 hi;have hps:t.place.size=1:=by simp only[SetTable.fits,P5,beq_iff_eq]at hf;exact hf.1.trans hs1
   obtain⟨j,hj⟩:∃j,t.place=#[j]:=Tz.mp hps;refine IY (sl:=0) (x:=es[0].2) (nx:=j+1) st.1 st.2 hd hf rfl (λq=>tz hb hled h1 st.2 hd hf (by rw[hj,ud,if_neg (Nat.not_lt_zero _)];simpa[hs1] using q)) λh' e' k'=>?_;exact hQ _ h' s.toks (by simp[hs1]) ⟨by simpa[hj] using e',k'.extBut a _ hne st.2⟩ λb o hb e=>k'.extBut b o (λq=>hb (by simp[q])) e
 done:=λs Q E st hQ=>by
   refine Nr (sl:=if es.size=0 then 0 else (t.place[0]?).getD 0+1) hh st.1 st.2 hd hf rfl (λq=>tz hb hled h1 st.2 hd hf ?_) λh' e'=>?_
   . have hps:t.place.size=es.size:=by simp only[SetTable.fits,P5,beq_iff_eq]at hf;exact hf.1
     have hn:es[SetTable.below t.place (if es.size=0 then 0 else (t.place[0]?).getD 0+1)]?=none:=by
       by_cases h0:es.size=0
       . exact RW (by rw[h0];exact PU _)
       . obtain⟨j,hj⟩:∃j,t.place=#[j]:=Tz.mp (hps.trans (RB h1 (Nat.pos_of_ne_zero h0)));rw[if_neg h0,hj];show es[SetTable.below #[j] (j+1)]?=none;rw[ud,if_pos (RP _)];exact RW h1
     exact hn▸q
   . exact hQ h' s.toks λb o hb e=>e' b o (λq=>hb (by simp[q])) e
 self:=λ_ _ _ _ st hQ=>oG st.1 hQ
end
variable {fp:List Addr}{its:List Value}
section
variable {prog:Program}{E:VP}def NK(prog:Program)(w:World)(I:Addr)(its:List Value)(h:Heap)(P:Addr->Prop):Prop:=X2 λ(fp:List Addr) (St:Nat->Heap->Prop)=>A4 ((∀A':Around,A'.handled=none->Walks prog w A' I fp [I] its.length (λi v=>its[i]?=some v) St)) (St 0 h) ((∀b∈fp,P b)) (I∈fp)theorem vf{St:Nat->Heap->Prop}(hl:its.length=n)(W:∀A':Around,A'.handled=none->Walks prog w A' I fp [I] n (λi v=>its[i]?=some v) St){P:Addr->Prop}(h0:St 0 h)(h1:∀b∈fp,P b)(h2:I∈fp):NK prog w I its h P:=⟨fp,St,λA' hA'=>hl▸W A' hA',h0,h1,h2⟩
set_option tactic.hygienic true in
theorem Eu{a:Addr}(hS:dm w s.heap a L)
   (h:∀(I:Addr) (h':Heap) (d:Drawn) (its:List Value) (L':List Str),PyProof.Rows.StrsAre its L'->L'.Perm L->NK prog w I its h' (λb=>b=a\/s.heap.objs.size<=b)->(∀b o,s.heap.get? b=some o->h'.get? b=some o)->s.heap.objs.size<=I->Q (.ref I) { s with heap:=h',drawn:=d }) :
   wpAny (model prog w) A (pyIter (.ref a)) Q E s:=by
 obtain⟨o,es,ep,t,ho,hex,hd,hel,hb,hf,hled,hpl⟩:=id hS;have hsz:es.size=L.length:=by exact P1▸hel.length
 have hT:s.TypeIs (.ref a) "set":=⟨o,ho,hex.1⟩
 have hla:a < s.heap.objs.size:=Qz ho;refine wpAny_pyIter_slot hT F.slot_set_iter (wpAny_call_entry F.slot_set_iter hT vk ?_ (F.args_set_iter_1 _));unfold Builtin.«frozenset.__iter__» Builtin.Frozenset.slot0 slotArgs;simp only[List.isEmpty_nil,Sy,S1,↓reduceIte,bind_assoc,Q8,bne_self_eq_false];unfold Builtin.Frozenset.addrOf Builtin.Frozenset.sizeOf;refine OL (PJ ?_)
 refine OL (PJ ?_);refine OL (OL (wpAny_setEntries_of ho hd hf (PJ ?_)));unfold setDrawn setsByText;refine OL (OL (wpAny_setState_of ho hd hf ?_))
 refine OL (OL (wpAny_askSetting (PJ ?_)))
 refine PJ ?_;have lt2:∀(h0:Heap) (ob:Obj),h0.objs.size < (h0.push ob).objs.size:=λh0 ob=>by rw[RS];exact RP _
 split
 . rename_i hdr;have hdr:(!Ct w&&(!t.plain&&decide (es.size > 1)))=true:=hdr;refine OL (xw es.size (List.range es.size) s (by simp) λys d hys=>?_);have hyl:ys.length=es.size:=by rw[hys.length_eq,Rc]
   unfold newTuple;refine OL (Qp ?_ (by show (ys.map λ(i:Nat)=>rawInt (i:Int)).length<=sizeLine;rw[Pd,hyl];exact fits_of_scanBound (by rw[hsz];exact hb)))
   refine OL (wpAny_setEpoch_of (PI _ ho) hd hf ?_);unfold newFields;refine OL (Qp ?_);refine PJ ⟨_,rfl,"set_iterator",_,⟨_,PX _ rfl,rfl⟩,bu.lookup,?_⟩;have hp:(ys.map (xv es)).Perm es.toList:=by rw[<- xt];exact hys.map _
   refine(hel.perm hp).elim λL' q9=>?_;have hL':=q9.1;have pL':=q9.2;have W:=λ(A':Around) (hA':A'.handled=none)=>JB (prog:=prog) (w:=w) (A:=A') (I:=(s.heap.push { cls:=.type "tuple",data:=.seq (ys.map λ(i:Nat)=>rawInt (i:Int)).toArray }).objs.size) (a:=a) (tp:=s.heap.objs.size) (o:=o) (ot:={ cls:=.type "tuple",data:=.seq (ys.map λ(i:Nat)=>rawInt (i:Int)).toArray }) hys (QG (TB hla (lt2 _ _))) (QG (lt2 _ _)) hd hf rfl hA';refine h _ _ d _ L' hL'.strs pL' (vf (by rw[Pd,Pd,hyl]) W ?_ ?_ ?_) (λb o e=>PI _ (PI _ e)) (Qg (lt2 _ _))
   . exact⟨PX _ rfl,PI _ (PI _ ho),PI _ (PX _ rfl)⟩
   . intro b hb;simp only[PO,QI,or_false]at hb;clear ho h W;rcases hb with rfl|rfl|rfl
     . exact .inr (Qg (lt2 _ _))
     . exact .inl rfl
     . exact .inr (Qb _)
   . exact PH ..
 . rename_i hdr;have hdr:¬ (!Ct w&&(!t.plain&&decide (es.size > 1)))=true:=hdr;refine OL (PJ ?_);refine OL (wpAny_setEpoch_of ho hd hf ?_);unfold newFields;refine OL (Qp ?_);refine PJ ⟨_,rfl,"set_iterator",_,⟨_,PX _ rfl,rfl⟩,bu.lookup,?_⟩;clear hT hS;cases hbt:Ct w with
   |true=>
     obtain⟨L',hL',pL'⟩:=hel.perm (k9 (w.params.setOrder a ep) es);have W:=λ(A':Around) (hA':A'.handled=none)=>Jz (prog:=prog) (w:=w) (A:=A') (I:=s.heap.objs.size) (a:=a) (o:=o) hbt (QG hla) hd hf hA';refine h _ _ s.drawn _ L' hL'.strs pL' (vf (by rw[Pd,(k9 _ es).length_eq,P1]) W ?_ ?_ ?_) (λb o e=>PI _ e) (Qb _)
     . exact⟨PX _ rfl,PI _ ho⟩
     . intro b hb;simp only[PO,QI,or_false]at hb;clear h W;rcases hb with rfl|rfl
       . exact .inr (Qb _)
       . exact .inl rfl
     . exact PH ..
   |false=>
     have h1:es.size<=1:=by
       rcases S3 1 es.size with q|q
       . rw[hbt,(hpl (λe=>by rw[hsz,e]at q;simp at q)),decide_eq_true q]at hdr;exact absurd rfl hdr
       . exact q
     have W:=λ(A':Around) (hA':A'.handled=none)=>JA (prog:=prog) (w:=w) (A:=A') (I:=s.heap.objs.size) (a:=a) (o:=o) hbt (by rw[hled,hbt];rfl) h1 (QG hla) hd hf hA';refine h _ _ s.drawn _ L hel.strs (.refl _) (vf (by rw[Pd,P1]) W ?_ ?_ ?_) (λb o e=>PI _ e) (Qb _)
     . exact⟨PX _ rfl,PI _ ho⟩
     . clear W;clear h;intro b hb;simp only[PO,QI,or_false]at hb;rcases hb with rfl|rfl
       . exact .inr (Qb _)
       . exact .inl rfl
     . exact PH ..
theorem qE:typeLookup (.type "set") (Str.ofString "__len__")=pure (some (.builtin "set.__len__")):=F.slot_set_len.lookup
theorem xF{Q:List Value->Shared->Prop}(hh:A.handled=none)(hS:dm w s.heap a L)
   (h:∀(h':Heap) (d:Drawn) (tk:Nat) (its:List Value) (L':List Str),PyProof.Rows.StrsAre its L'->L'.Perm L->(∀b o,s.heap.get? b=some o->h'.get? b=some o)->s.heap.objs.size<=h'.objs.size->Q its { s with heap:=h',drawn:=d,toks:=tk }) :
   wpAny (model prog w) A (collect (.ref a)) Q E s:=by
 obtain⟨o,es,ep,t,ho,hex,hd,hel,hb,hf,hled,hpl⟩:=id hS;have hSI:s.heap.objs.size≠a:=Sm (Qz ho);unfold collect;refine OL (wpAny_runValue (codeAny_builtin F.entry_proto_collect ?_));rw[Around.under_plainId F.plain_proto_collect _];show wpAny _ A.in1 (newList [] >>= λl=>again (.builtin "list.__iadd__" ⟨[l,.ref a],[]⟩)) _ _ s;refine OL (Qp ?_);refine PJ ⟨plainId_quiet F.plain_list_iadd _,codeAny_builtin F.entry_list_iadd ?_⟩;rw[Around.under_plainId F.plain_list_iadd _];have Na:(s.heap.push { cls:=.type "list",data:=.seq ([]:List Value).toArray }).get? s.heap.objs.size=some { cls:=.type "list",data:=.seq ([]:List Value).toArray }:=PX _ rfl;have hSS:dm w (s.heap.push { cls:=.type "list",data:=.seq ([]:List Value).toArray }) a L:=hS.keep λo e=>PI _ e;have hT:Shared.TypeIs { s with heap:=s.heap.push { cls:=.type "list",data:=.seq ([]:List Value).toArray } } (.ref a) "set":=⟨o,PI _ ho,hex.1⟩
 refine(?_:wpAny _ A.in1 (Builtin.List.listExtendWith (.ref s.heap.objs.size) (.ref a) (.ref s.heap.objs.size)) _ _ _);unfold Builtin.List.listExtendWith;refine OL (wpAny_typeOf hT ?_);have h1:Builtin.List.listSameRef (.ref s.heap.objs.size) (.ref a)=false:=by simp[Builtin.List.listSameRef,hSI]
 have h2:(Value.type "set"==Value.type "list")=false:=by decide
 have h3:(Value.type "set"==Value.type "tuple")=false:=by decide
 rw[h1,h2,h3,Ru,Ru,if_neg P0];refine OL (Eu (prog:=prog) hSS λI h' d its L' hits pL hgo hk hI=>?_);have hT':Shared.TypeIs { s with heap:=h',drawn:=d } (.ref a) "set":=⟨o,hk a o (PI _ ho),hex.1⟩
 refine OL (QT ?_);unfold Builtin.List.listLengthHint;refine OL (wpAny_specialOf hT' qE ?_)
 (generalize hid:("set.__len__":String)=id0;(fail_if_success (clear hid id0));wp_delta;rw[show splitId id0=some ("set","__len__") from by subst hid;decide +kernel];subst hid)
 refine OL (wpAny_isInstance (b:=true) hT' sub_set_self ?_);refine(?_:wpAny _ A.in1 (typeOf (.ref a) >>= _) _ _ _);refine OL (wpAny_typeOf hT' ?_);refine PJ ?_;refine(?_:wpAny _ A.in1 (rule "list.extend.makes-room" >>= λ_=>Builtin.List.listTouch (.ref s.heap.objs.size) >>= λ_=>again (.builtin "list.extend.loop" ⟨[.ref s.heap.objs.size,.ref I,.ref s.heap.objs.size],[]⟩)) _ _ _)
 refine OL (wpAny_rule ?_);obtain⟨fp,St,W,hst,hfp,hIf⟩:=hgo;have hS1:=hk _ _ Na;refine OL ?_;show wpAny _ A.in1 (updateSeq s.heap.objs.size (·.push .none) >>= λ_=>updateSeq s.heap.objs.size (·.pop)) _ _ _;refine OL (wpAny_updateSeq hS1 rfl ?_);have I6:=QW (Obj.mapSeq (·.push Value.none)) hS1 rfl;refine wpAny_updateSeq I6 rfl ?_;have hSf:s.heap.objs.size∉fp:=λq=>by
   rcases hfp _ q with e|e
   . exact hSI e
   . rw[RS]at e;exact Rt _ e
 have oth:∀b o,b≠s.heap.objs.size->h'.get? b=some o->((h'.update s.heap.objs.size (Obj.mapSeq (·.push Value.none))).update s.heap.objs.size (Obj.mapSeq (·.pop))).get? b=some o:=
   λb o hb e=>(Q4 _ _ (Ne.symm hb)).trans ((Q4 _ _ (Ne.symm hb)).trans e)
 have WS:=(W A.in1 hh).toS;have hlen:its.length=L.length:=by
   have:∀{vs:List Value} {ss:List Str},PyProof.Rows.StrsAre vs ss->vs.length=ss.length:=λq=>by
     induction q with
     |nil=>rfl
     |cons _ _ _ ih=>exact congrArg (·+1) ih
   rw[this hits,pL.length_eq]
 refine PJ ⟨plainId_quiet F.plain_extend_loop _,codeAny_extend_loopS WS (by rw[hlen];exact fits_of_scanBound hb) _ hSf _ its.length 0 _ _ _ rfl (PU _)
   (WS.frame 0 { s with heap:=h',drawn:=d } _ s.toks hst (Qb _) λb hb o e=>oth b o (λq=>hSf (q▸hb)) e) (QW (Obj.mapSeq (·.pop)) I6 rfl) (ItemsOf.nil _) λs' acc' c' hm hS' hacc=>?_⟩
 refine(?_:wpAny _ A (load s.heap.objs.size >>= _) _ _ s');refine OL (wpAny_load hS' ?_);have hacc':acc'.toList=its:=by
   refine SG λi=>?_;by_cases hi:i < its.length
   . have:i < acc'.size:=by rw[hacc.1];exact hi
     have:=hacc.2 i acc'[i] (by simp[this]);rw[this];simp
   . rw[Rh (by rw[P1,hacc.1];omega),Rh (by omega)]
 have es:s'={ s with heap:=s'.heap,drawn:=d,toks:=s'.toks }:=by have g1:=hm.gens;have g2:=hm.drawn;have g3:=hm.os;obtain⟨h5,g5,d5,t5,o5⟩:=s';simp only at g1 g2 g3;clear hS' hm;subst g1;subst g2;subst g3;rfl
 rw[es];refine PJ ?_;rw[hacc'];refine h s'.heap d s'.toks its L' hits pL (λb o e=>?_) ?_
 . have hbl:b < s.heap.objs.size:=Qz e;have hbs:b≠s.heap.objs.size:=QG hbl;refine hm.heap b o (λq=>?_) (oth b o hbs (hk b o (PI _ e)));rcases PO.mp q with q|q
   . exact hbs q
   . have h9:s.heap.objs.size+1<=I:=by have:=hI;rw[RS]at this;exact this
     exact absurd ((PN.mp q)▸hbl) (SQ.mpr (Q1 h9))
 . exact Qg (Qz hS')
theorem ym(hh:A.handled=none)(hS:dm w s.heap a L)(h64:L.length < 64)
   (h:∀(h':Heap) (d:Drawn) (tk:Nat) (r:Addr) (out:Array Value) (e:Nat) (ss':List Str),s.heap.objs.size<=r->h'.get? r=some (eP out e)->PyProof.Rows.StrsAre out.toList ss'->ss'.Perm L->PyProof.Rows.sortedS ss'=true->(∀b o,s.heap.get? b=some o->h'.get? b=some o)->Q (.ref r) { s with heap:=h',drawn:=d,toks:=tk }) :
   wpAny (model prog w) A (call (.builtin "sorted") [.ref a]) Q E s:=by
 refine Calls.call_function_entry PyProof.Rows.kind_sorted PyProof.Rows.plain_sorted PyProof.Rows.entry_sorted (PyProof.Rows.args_sorted1 _) ?_;unfold Builtin.«sorted»;refine OL (m:=checkCount "sorted" 1 1 _) (PJ ?_);refine OL (xF (prog:=prog) (A:=A.in1) hh hS λh' d tk its L' hits pL hk hsz=>?_);have hlen:its.length < 64:=by
   have:∀{vs:List Value} {ss:List Str},PyProof.Rows.StrsAre vs ss->vs.length=ss.length:=λq=>by
     induction q with
     |nil=>rfl
     |cons _ _ _ ih=>exact congrArg (·+1) ih
   rw[this hits,pL.length_eq];exact h64
 refine OL (wpAny_newList ?_);have hoL:(h'.push (PyProof.Rows.seqObj "list" its.toArray 0)).get? h'.objs.size=some (PyProof.Rows.seqObj "list" its.toArray 0):=PX _ rfl;refine OL (QT (wpAny_call_entry PyProof.Rows.slot_list_sort ⟨_,hoL,rfl⟩ PyProof.Rows.entry_list_sort (PyProof.Rows.list_sort_treeK PyProof.Rows.strKind_oneLt hoL hits.keysOf (λPd Pb rest e=>PyProof.Rows.keyKind_strs (by exact e▸hits)) hlen λst' a1 a2=>⟨_,rfl,?_⟩) (PyProof.Rows.args_list_sort _)));refine kk λUc k=>?_;obtain⟨ss',q1,q2,q3⟩:=PyProof.Rows.sorted_out_str hits a1 a2;obtain⟨e',he'⟩:=PyProof.Rows.sortedHeap_at (out:=(PyProof.Rows.arrOf st').map (·.2)) hoL;refine k ?_;refine PJ ⟨_,rfl,h _ d tk _ _ e' ss' hsz he' q1 (q2.trans pL) q3 λb o e=>?_⟩;have e2:=hk b o e;have hlt:b < h'.objs.size:=Qz e2;rw[PyProof.Rows.sortedHeap_old (QG hlt) (by rw[RS];exact Nat.lt_succ_of_lt hlt)];exact PI _ e2
end
variable {l:List PyData}
theorem Hb{m:Bool}{c:V}(I:Inv Z Y U s.heap)(hl:l.length<=LIM)(hc:bh m l U=.ok c σ')
   (q:X3 λa vs n=>A4 (v=.ref a) (s.heap.get? a=none) (s'.heap.get? a=some (eP vs n)) (A4 ((∀b o,s.heap.get? b=some o->s'.heap.get? b=some o)) (s'.gens=s.gens) (s'.os=s.os) (RelAll (TT Y U) s.heap vs.toList l))) :
   Po Z O Y U s σ' s' λβ'=>VR v c β' σ' s'.heap:=by
 obtain⟨a,vs,n,rfl,hf,e,hk,hg,ho,r⟩:=q;unfold bh at hc;cases m with
 |true=>injection hc with e f;subst e;subst f;have N:=uQ (O:=O) (c:=.lst l) I hk hf hg ho ⟨vs,n,e,r,hl⟩;exact⟨_,N.1,N.2,a,by rw[<- I.len];simp,rfl⟩
 |false=>injection hc with e f;subst e;subst f;exact⟨Y,Step.grow hk hg ho,I.grow hk,.list e (I.notTT hf) hl (r.mono λx o _ _ e _ t=>⟨hk x o e,t⟩)⟩theorem rY(y:Str)(l:List Str):cM (y::l)=if y∈l then cM l else y::cM l:=rfl
theorem bJ:∀{l:List Str},x∈cM l↔x∈l
 |[]=>Iff.rfl
 |y::l=>by
   rw[rY];by_cases h:y∈l
   . rw[if_pos h,bJ,PO];exact⟨.inr,λq=>q.elim (λe=>e▸h) id⟩
   . rw[if_neg h,PO,PO,bJ]
theorem cw:∀l:List Str,(cM l).Nodup
 |[]=>SI
 |y::l=>by
   rw[rY];by_cases h:y∈l
   . rw[if_pos h];exact cw l
   . rw[if_neg h];exact QY.mpr ⟨λq=>h (bJ.mp q),cw l⟩
theorem pK{m:Bool}{vs:List Value}{c:V}(I:Inv Z Y U s.heap)(hh:A.handled=none)(rx:eY Y U s.heap vs xs)(hc:xV .sortedSet m xs U=.ok c σ') :
   WP Z A (call (.type "set") vs) (λt ai=>WP Z A (call (.builtin "sorted") [t]) (λv s''=>Po Z O Y U s σ' s'' λβ''=>VR v c β'' σ' s''.heap) (λ_ _=>False) ai) (λ_ _=>False) s:=by
 obtain⟨x,hx,hc⟩:=iz hc;replace hx:=dC hx;subst hx;obtain⟨ss,hl,hc⟩:=iz hc;replace hc:=AH hc;obtain⟨hlim,hc⟩:=hc;cases rx with
 |cons r rs=>
   refine kk λUc k=>?_;cases rs;obtain⟨l,hl,hs⟩:=PM.mp hl;refine k ?_;apply (bb I hl r).el;intro a ws n e q z;obtain⟨S,rfl⟩:=qx q hs;have hlen:ws.toList.length=ss.length:=by have:=q.length;rw[Pd]at this;exact this
   refine zu (vs:=ws.toList) hh ⟨_,e,rfl,_,rfl⟩ S hlen (by have:=hlim.1;omega) λh' tk L' hk hS hnd hm=>?_;have pL:L'.Perm (cM ss):=(List.perm_ext_iff_of_nodup hnd (cw ss)).mpr λy=>by rw[hm,bJ]
   refine ym hh hS (by rw[pL.length_eq];exact hlim.2) λh'' d tk' r' out e' ss' hr he hss hp hso hk'=>?_;have:=lX hp hso;subst this;have hse:cu L'=cu (cM ss):=lX ((eE L').trans pL) hso;refine Hb I (by have:=(eE (cM ss)).length_eq;simp[this,LIM];lia) hc ⟨r',out,e',rfl,hX ?_,he,λb o q=>hk' b o (hk b o q),rfl,rfl,?_⟩
   . obtain⟨o,_,_,_,ho,_⟩:=hS;have hr:h'.objs.size<=r':=hr;exact iv (Qg (Qz ho)) hr
   . exact hse▸(wz hss λx hx=>B6 q x (bJ.mp (pL.mem_iff.mp ((eE L').mem_iff.mp hx))))variable {it:Addr}
section
variable {prog:Program}{E:VP}
theorem G7{t:Addr}{x:Value}(hit:s.heap.IsTupleIter it t i)(ht:s.heap.IsTuple t items)(hx:items[i]?=some x)
   (hQ:∀h',h'.IsTupleIter it t (i+1)->Heap.SameBut it s.heap h'->Q x { s with heap:=h' }):wpAny (model prog w) A (Builtin.SmallTypes.nextOf (.ref it)) Q E s:=by
 obtain⟨o,ho,hc,hd⟩:=id hit;obtain⟨ol,hol,_,nl,hdl⟩:=ht;unfold Builtin.SmallTypes.nextOf;refine OL (wpAny_callSpecial?_slot (name:=Str.ofString "__next__") hit.typeIs F.slot_tuple_iterator_next (wpAny_call_entry F.slot_tuple_iterator_next hit.typeIs F.entry_tuple_iterator_next ?_ (F.args_tuple_iterator_next_1 _)));refine(?_:wpAny _ _ (field (.ref it) 0 >>= _) _ _ s);refine OL (wpAny_field ho hd (x:=.ref t) rfl ?_);refine(?_:wpAny _ _ (if (Value.ref t==Value.none)=true then _ else _) _ _ s);rw[if_neg (show ¬ ((Value.ref t==Value.none)=true) from P0)];show wpAny _ _ (field (.ref it) 1 >>= _) _ _ s;refine OL (wpAny_field ho hd (x:=.int i 0) rfl ?_);refine(?_:wpAny _ _ (seqItems? (.ref t) >>= _) _ _ s);refine OL (wpAny_seqItems hol hdl ?_);simp only[Qu,hx];refine OL (wpAny_setField ho hd (by simp) (PJ ⟨x,rfl,PJ (hQ _ ?_ (Heap.SameBut.update ..))⟩));exact⟨_,QW _ ho (Obj.isFreed_of_fields (Obj.data_mapFields hd _)),(Obj.cls_mapFields ..).trans hc,by rw[Obj.data_mapFields hd];simp[rawInt]⟩
theorem yK{t:Addr}(hh:A.handled=none)(hit:s.heap.IsTupleIter it t i)(ht:s.heap.IsTuple t items)(hx:items[i]?=none)
   (hE:∀h' e,Heap.ExtBut it s.heap h'->(∃o,h'.get? e=some o/\o.cls=.type "StopIteration")->E (.ref e) { s with heap:=h' }):wpAny (model prog w) A (Builtin.SmallTypes.nextOf (.ref it)) Q E s:=by
 obtain⟨o,ho,hc,hd⟩:=id hit;obtain⟨ol,hol,_,nl,hdl⟩:=ht;unfold Builtin.SmallTypes.nextOf;refine OL (wpAny_callSpecial?_slot (name:=Str.ofString "__next__") hit.typeIs F.slot_tuple_iterator_next (wpAny_call_entry F.slot_tuple_iterator_next hit.typeIs F.entry_tuple_iterator_next ?_ (F.args_tuple_iterator_next_1 _)));show wpAny _ _ (field (.ref it) 0 >>= _) _ _ s;refine OL (wpAny_field ho hd (x:=.ref t) rfl ?_);refine(?_:wpAny _ _ (if (Value.ref t==Value.none)=true then _ else _) _ _ s);rw[if_neg (show ¬ ((Value.ref t==Value.none)=true) from P0)];show wpAny _ _ (field (.ref it) 1 >>= _) _ _ s;refine OL (wpAny_field ho hd (x:=.int i 0) rfl ?_);refine(?_:wpAny _ _ (seqItems? (.ref t) >>= _) _ _ s);refine OL (wpAny_seqItems hol hdl ?_);simp only[Qu,hx];refine OL (wpAny_rule (OL (wpAny_setField ho hd (by simp) ?_)));show wpAny _ _ (newExc (.type "StopIteration") [] >>= _) _ _ _;refine OL ?_;unfold newExc newTuple;refine OL (Qp ?_ (by size_fits));refine OL (m:=firstArgMember _ _) (wpAny_of_eq (a:=Value.none) (by first|rfl | (simp only[firstArgMember];rfl)) ?_);refine Qp ?_ (by size_fits);unfold raiseNew;refine OL (wpAny_handled ?_)
 first|rw[show A.in1.handled=none from hh] | rw[hh]
 refine OL (PJ (wpAny_throw ?_));exact hE _ _ (((Heap.SameBut.update ..).extBut.push _).push _) ⟨_,PX _ rfl,rfl⟩
theorem Ft(hh:A.handled=none)(it l:Addr)(hne:l≠it)(items:Array Value) :
   Draws prog w A it [it,l] items.size (λi x=>items[i]?=some x) (λi h=>h.IsTupleIter it l i/\h.IsTuple l items) where
 live:=λi h ⟨⟨o,e,_⟩,_⟩=>⟨o,e⟩
 frame:=λi h h' ⟨⟨o,e,r⟩,⟨o',e',r'⟩⟩ hk=>⟨⟨o,hk it (by simp) o e,r⟩,⟨o',hk l (by simp) o' e',r'⟩⟩
 item:=λi s Q E hi ⟨a,b⟩ hQ=>G7 a b (Sh hi) λh' a' k=>hQ _ h' s.toks (Sh hi) ⟨a',b.extBut k.extBut hne⟩ k
 done:=λs Q E ⟨a,b⟩ hE=>yK hh a b (RW (Qb _)) hE
theorem Bo{cls:Value}{Q:Bool->Shared->Prop}{E:VP}(h:∀b,Q b s):wpAny M A (Builtin.SmallTypes.calledThroughType cls) Q E s:=
 OL (wpAny_stack_any λ_=>PJ (h _))
set_option maxRecDepth 99999 in
theorem wS(l:Addr)(items:Array Value)(n:Nat) :
   Meets (Builtin.«enumerate.__new__» ⟨[.type "enumerate",.ref l],[]⟩) (λ_ R s=>s.heap.get? l=some { cls:=.type "tuple",dict:=none,data:=.seq items n,slots:=#[] }/\
     R (.ok (.ret (.ref (s.heap.push { cls:=.type "tuple_iterator",data:=.fields #[.ref l,.int 0 0] }).objs.size)))
       { s with heap:=(s.heap.push { cls:=.type "tuple_iterator",data:=.fields #[.ref l,.int 0 0] }).push { cls:=.type "enumerate",data:=.fields #[.none,.bool false,.ref s.heap.objs.size,rawInt 0,.none,.none] } }):=
 .of_wp λprog w A R s h=>by
   obtain⟨hp,g,d,tk,os⟩:=s;have hl:=h.1;have h:=h.2;have hsub:=sub_enumerate;have hL:Heap.IsTuple (Shared.heap ⟨hp,g,d,tk,os⟩) l items:=⟨_,hl,rfl,n,rfl⟩
   wp_walk using AutoSeq1.wpAny_loadPart' hl,Bo
   intro b;cases (b)
   . wp_walk using AutoSeq1.wpAny_loadPart' hl,wpAny_pyIter_tuple hL
     exact⟨_,rfl,h⟩
   . wp_walk using AutoSeq1.wpAny_loadPart' hl,wpAny_pyIter_tuple hL
     exact⟨_,rfl,h⟩
theorem zB {l:Addr} (hL:s.heap.get? l=some { cls:=.type "tuple",dict:=none,data:=.seq items n,slots:=#[] })
   (h:∀h',IsEnum h' (s.heap.objs.size+1) s.heap.objs.size 0 .none->h'.get? s.heap.objs.size=some { cls:=.type "tuple_iterator",dict:=none,data:=.fields #[.ref l,.int 0 0],slots:=#[] }->
     (∀b o,s.heap.get? b=some o->h'.get? b=some o)->Q (.ref (s.heap.objs.size+1)) { s with heap:=h' }) :
   wpAny (model prog w) A (call (.type "enumerate") [.ref l]) Q E s:=by
 refine callType_new F.called_enumerate (by decide) (F.typeCall_enumerate_1 _) (F.newCall_enumerate_1 _) (λobj=>F.args_object_init_2 obj _) F.entry_enumerate_new (wS l items n) ⟨hL,?_⟩;have hz:(s.heap.push { cls:=.type "tuple_iterator",data:=.fields #[.ref l,.int 0 0] }).objs.size=s.heap.objs.size+1:=RS ..;refine(?_:_/\_);rw[hz];have he:IsEnum ((s.heap.push { cls:=.type "tuple_iterator",data:=.fields #[.ref l,.int 0 0] }).push
     { cls:=.type "enumerate",data:=.fields #[.none,.bool false,.ref s.heap.objs.size,rawInt 0,.none,.none] }) (s.heap.objs.size+1) s.heap.objs.size 0 .none:=by
   have:=PX (s.heap.push { cls:=.type "tuple_iterator",data:=.fields #[.ref l,.int 0 0] })
     (o:={ cls:=.type "enumerate",data:=.fields #[.none,.bool false,.ref s.heap.objs.size,rawInt 0,.none,.none] }) rfl
   rw[hz]at this;exact this
 exact⟨⟨_,he,rfl⟩,h _ he (PI _ (PX _ rfl)) λb o x=>PI _ (PI _ x)⟩
end
variable {Ia:Addr}{vs xs:Array Value}{h'':Heap}{wr:List Addr}{shown:List PyData}{k:Nat}{lk:Option Nat}{p:Pos}{T:String}{Q:Unit->Shared->Prop}{E':VP}theorem Inv.notMem(I:Inv Z Y U h)(e:h.get? a=none):a∉Y:=λm=>by obtain⟨o,q⟩:=I.ex m;rw[e]at q;injection q
theorem Step.tail(S:Step O Y U s ag aa ai)(hf:∀a,W a->s.heap.get? a=none)(hk:∀b o,¬ W b->ai.heap.get? b=some o->aq.heap.get? b=some o)(hg:aq.gens=ai.gens)(ho:aq.os=ai.os):Step O Y U s ag aa aq:=
 ⟨S.ext,S.mono,λx o hx hw hO=>have nW:¬ W x:=λq=>(by rw[hf x q]at hx;injection hx);(S.keepW x o hx hw hO).imp (hk x o nW) (λ⟨f,n,sl,q⟩=>⟨f,n,sl,hk x _ nW q⟩),(λx hx=>by
   by_cases q:W x
   . exact hf x q
   . cases e:ai.heap.get? x with
     |none=>exact S.alive x e
     |some o=>rw[hk x o q e]at hx;injection hx),hg.trans S.gens,ho.trans S.os⟩
theorem Inv.touch(I:Inv Z Y U h)(ha:∀a,W a->a∉Y)(h0:∀a,W a->Z.h₀.get? a=none)(hn:∀a,W a->¬ cj h a)(hk:∀b o,¬ W b->h.get? b=some o->h'.get? b=some o):Inv Z Y U h':=
 ⟨I.len,I.nodup,λb o e=>hk b o (λq=>by rw[h0 b q]at e;injection e) (I.base b o e),I.fresh,λk b c h1 h2=>(I.cell k b c h1 h2).mono (λo e=>hk b o (λq=>ha b q (PF h1)) e) λx o vs n e d t=>⟨hk x o (λq=>hn x q ⟨o,vs,n,e,d⟩) e,t⟩⟩
theorem FrameOk.map(F:FrameOk Z env ks sc K Y U h)(hv:∀{w:Value} {v:V},aE Y U h w v->aE Y aa h' w v)(hz:∀b∈Z.fr,∀o,h.get? b=some o->h'.get? b=some o)(hk:∀b,own env b->∀o,h.get? b=some o->h'.get? b=some o):FrameOk Z env ks sc K Y aa h':=by
 refine⟨F.kind,F.globals,F.builtins,F.kinds,F.bound,F.inj,?_,?_,F.apart,F.cinj,F.cloc,F.frs.grow λf o hf e q=>⟨o,hz f hf o e,q⟩⟩
 . refine kk λUc k=>?_;obtain⟨m,⟨o,es,ep,ho,r⟩,q⟩:=F.ns;refine k ?_;exact⟨m,⟨o,es,ep,hk _ (.inl rfl) o ho,r⟩,λx i h1 h2 v h3 h4=>let ⟨w,g1,g2⟩:=q x i h1 h2 v h3 h4;⟨w,g1,hv g2⟩⟩
 . intro x c e;refine kk λUc k=>?_;obtain⟨ov,⟨o,ho,hd⟩,q⟩:=F.cell x c e;refine k ?_;exact⟨ov,⟨o,hk c (.inr ⟨x,e⟩) o ho,hd⟩,λi h1 h2 v h3 h4=>let ⟨w,g1,g2⟩:=q i h1 h2 v h3 h4;⟨w,g1,hv g2⟩⟩
theorem FrameOk.touch(F:FrameOk Z env ks sc K Y U h)(hz:∀a,W a->a∉Z.fr)(ha:∀a,W a->¬ own env a)(hn:∀a,W a->¬ cj h a)(hk:∀b o,¬ W b->h.get? b=some o->h'.get? b=some o):FrameOk Z env ks sc K Y U h':=
 F.map (j9 hk hn) (λf hf o e=>hk f o (λw=>hz f w hf) e) λb hb o e=>hk b o (λq=>ha b q hb) e
def cg(Y:List Addr)(U:ac)(h:Heap)(β':List Addr)(σ':ac)(h':Heap):Prop:=
 ∀x o vs n,h.get? x=some o->xA o vs n->¬ TT Y U x->h'.get? x=some o/\¬ TT β' σ' x
theorem cg.refl:cg Y U h Y U h:=λ_ _ _ _ e _ t=>⟨e,t⟩theorem cg.trans(a:cg Y U h ag aa h')(b:cg ag aa h' a5 ae h''):cg Y U h a5 ae h'':=λx o vs n e d t=>let ⟨e1,t1⟩:=a x o vs n e d t;b x o vs n e1 d t1
theorem cg.vrel(a:cg Y U h Y aa h'){w:Value}{v:V}(r:aE Y U h w v):aE Y aa h' w v:=r.mono (λ_ _ e=>e) a
theorem Inv.touchBusy(I:Inv Z Y U h)(hb:Y[n]?=some a)(hn:U[n]?=some .busy)(hk:∀b o,b≠a->h.get? b=some o->h'.get? b=some o)(ho:∃o,h'.get? a=some o) :
   Inv Z Y U h'/\cg Y U h Y U h':=by
 have H:cg Y U h Y U h':=λx o vs m e d t=>⟨hk x o (λq=>t (q▸(⟨n,.busy,hb,hn,rfl⟩))) e,t⟩;refine⟨⟨I.len,I.nodup,λb o e=>hk b o (λq=>?_) (I.base b o e),I.fresh,λk b c h1 h2=>?_⟩,H⟩
 . have:=I.fresh a (PF hb);rw[q]at e;rw[this]at e;injection e
 . by_cases hkn:n=k
   . subst hkn;rw[hb]at h1;injection h1 with e;subst e;rw[hn]at h2;injection h2 with e;subst e;exact ho
   . exact(I.cell k b c h1 h2).mono (λo e=>hk b o (λq=>by subst q;exact I.addr_ne hb h1 hkn rfl) e) H
theorem sD{c:Cell}(hn:U[n]?=some iW)(hg:iW.isGone=c.isGone){x:Addr}:TT Y (U.set n c) x↔TT Y U x:=by
 constructor
 . rintro⟨k,c',h1,h2,h3⟩
   by_cases hk:n=k
   . subst hk;rw[dg hn]at h2;injection h2 with e;subst e;exact⟨n,iW,h1,hn,hg.trans h3⟩
   . rw[d3 hk]at h2;exact⟨k,c',h1,h2,h3⟩
 . rintro⟨k,c',h1,h2,h3⟩
   by_cases hk:n=k
   . subst hk;rw[hn]at h2;injection h2 with e;subst e;exact⟨n,c,h1,dg hn,hg▸h3⟩
   . exact⟨k,c',h1,by rw[d3 hk];exact h2,h3⟩
theorem Inv.openBusy(I:Inv Z Y U h)(hb:Y[n]?=some a)(hn:U[n]?=some .busy)(e:h.get? a=some (eP vs m))(r:RelAll (TT Y U) h vs.toList l)(hl:l.length<=LIM) :
   Inv Z Y (U.set n (.lst l)) h:=by
 have H:∀x o vs n',h.get? x=some o->xA o vs n'->¬ TT Y U x->h.get? x=some o/\¬ TT Y (U.set n (.lst l)) x:=λx o vs n' e d t=>⟨e,λz=>t (((λx=>sD (iW:=.busy) (c:=.lst l) hn rfl) x).mp z)⟩;refine⟨by simp[I.len],I.nodup,I.base,I.fresh,λk b c h1 h2=>?_⟩;by_cases hkn:n=k
 . subst hkn;rw[hb]at h1;injection h1 with e;subst e;rw[dg hn]at h2;injection h2 with e;subst e;exact⟨vs,m,e,r.mono H,hl⟩
 . rw[d3 hkn]at h2;exact(I.cell k b c h1 h2).mono (λo e=>e) (H)def pU(Y:List Addr)(U:ac)(h:Heap)(b:Addr):Prop:=(∃n:Nat,Y[n]?=some b/\U[n]?=some .busy)\/(cj h b/\¬ TT Y U b)
theorem pU.keep{b:Addr}(S:Step O Y U s ag aa ai)(I:Inv Z Y U s.heap)(ay:Inv Z ag aa ai.heap)(hO:∀x,O x->x∉Y/\¬ cj s.heap x)(st:pU Y U s.heap b) :
   (∀o,s.heap.get? b=some o->ai.heap.get? b=some o)/\pU ag aa ai.heap b:=by
 rcases st with⟨n,hb,hn⟩|⟨⟨o,vs,n,e,d⟩,t⟩
 . have hm:=PF hb;have hw:¬ WW Y U b:=by
     rintro⟨k,c,h1,h2,h3⟩
     by_cases hkn:n=k
     . subst hkn;rw[hn]at h2;injection h2 with e;subst e;injection h3
     . exact I.addr_ne hb h1 hkn rfl
   refine⟨λo e=>(S.keepW b o e hw λz=>(hO b z).1 hm).resolve_right λq=>q.2.1 hm,.inl ⟨n,S.get hb,?_⟩⟩;have ED:n < aa.length:=by rw[<- ay.len];exact(PB.mp (S.get hb)).1
   obtain⟨c,h1,_,_,h4⟩:=S.mono n aa[n] ((PB.mp hb).1) (PD ED);rw[hn]at h1;injection h1 with e;subst e;rw[PD ED,h4 rfl]
 . have k:=S.relH (λx z=>(hO x z).2) b o vs n e d t;exact⟨λo' e'=>by rw[e]at e';injection e' with e;subst e;exact k.1,.inr ⟨⟨o,vs,n,k.1,d⟩,k.2⟩⟩
theorem pU.ex{b:Addr}(I:Inv Z Y U h)(st:pU Y U h b):∃o,h.get? b=some o:=by
 rcases st with⟨n,hb,hn⟩|⟨⟨o,vs,n,e,d⟩,t⟩
 . exact I.ex (PF hb)
 . exact⟨o,e⟩noncomputable def jh (n:String):Bool:=["enumerate","zip","dict_itemiterator","dict_reverseitemiterator","odict_iterator","itertools.zip_longest","itertools.pairwise"].contains n
structure Itr where
 Ia:Addr
 fp:List Addr
 wr:List Addr
 shown:List PyData
 P:Nat->Value->Heap->Heap->Prop
 St:Nat->Heap->Prop
 Mid:Nat->Value->Heap->Prop
 en:Bool
def Kp(T:Itr)(h h':Heap):Prop:=∀b o,b∉T.wr->h.get? b=some o->h'.get? b=some (o)def x8(T:Itr)(h:Heap):Prop:=∀i h h',T.St i h->(∀b∈T.fp,∀o,h.get? b=some o->h'.get? b=some o)->T.St i (h')def zQ(Z:Cx)(A:Around)(T:Itr):Prop:=∀i (s:Shared) (Q:Option Value->Shared->Prop) (E:VP),i < T.shown.length->T.St i s.heap->(∀v h' tk,T.P i v s.heap h'->T.Mid i v h'->Kp T s.heap h'->Q (some v) { s with heap:=h',toks:=tk })->WP Z A (pyNext (.ref T.Ia)) Q E (s)def F2(Z:Cx)(A:Around)(T:Itr):Prop:=∀(elts:List Expr) (k:Nat) (pos:Pos) i v (s:Shared) (Q:Unit->Shared->Prop) (E:VP),T.Mid i v s.heap->(∀h',T.St (i+1) h'->Kp T s.heap h'->Q () { s with heap:=h' })->WP Z A (letOwnedTupleGo (.Tuple elts k pos) (.ref T.Ia) v) Q E (s)def zR(Z:Cx)(A:Around)(T:Itr):Prop:=∀(s:Shared) (Q:Option Value->Shared->Prop) (E:VP),T.St T.shown.length s.heap->(∀h' tk,Kp T s.heap h'->Q none { s with heap:=h',toks:=tk })->WP Z A (pyNext (.ref T.Ia)) Q E (s)def zP(Z:Cx)(A:Around)(T:Itr):Prop:=∀i (s:Shared) (Q:VP) (E:VP),T.St i s.heap->Q (.ref T.Ia) s->WP Z A (pyIter (.ref T.Ia)) Q E (s)def x7(Z:Cx)(T:Itr)(Y:List Addr)(U:ac)(h:Heap):Prop:=∀i v hb h',i < T.shown.length->T.P i v hb h'->∀β' σ',Inv Z β' σ' hb->cg Y U h β' σ' h'->∃d,T.shown[i]?=some d/\Rel (TT β' σ') h' v (d)def x6(T:Itr):Prop:=∀i h',T.St i h'->∀b∈T.wr,(∃o,h'.get? b=some o/\¬ gd o)/\¬ cj h' (b)def vI(T:Itr):Prop:=∀i v h',T.Mid i v h'->∀b∈T.wr,(∃o,h'.get? b=some o/\¬ gd o)/\¬ cj h' b
structure Opened(Z:Cx)(A:Around)(T:Itr)(Y:List Addr)(U:ac)(h:Heap):Prop where
 sub:∀b∈T.wr,b∈T.fp
 frame:x8 T h
 item:zQ Z A T
 go:F2 Z A T
 skip:T.en=false->∀i v h,T.Mid i v h->T.St (i+1) h
 done:zR Z A T
 self:zP Z A T
 start:T.St 0 h
 stay:∀b∈T.fp,b∈T.wr\/pU Y U h b
 items:x7 Z T Y U h
 noseq:x6 T
 noseqM:vI T
theorem eJ(d:o.data=.fields xs):¬ gd o:=λ⟨es,n,q⟩=>by rw[d]at q;injection q
theorem jG{n:String}(e:h.get? a=some o)(c:o.cls=.type n)(d:o.data=.fields xs):¬ cj h a:=λ⟨o',vs,n,e',d'⟩=>by
 rw[e]at e';injection e' with e;subst e;rcases d' with d'|⟨_,c',_⟩
 . rw[d]at d';injection d'
 . rw[c]at c';injection c'
theorem Iy(n:Nat)(h:n<=LIM):n<=sizeLine:=iv h cb
set_option tactic.hygienic true in
theorem EK{E:VP}{xs:List Expr}{n:String}(e:s.heap.get? Ia=some o)(hc:o.cls=.type n)(hd:o.data=.fields vs)(hn:jh n=false)(hQ:Q () s) :
   WP Z A (letOwnedTupleGo (.Tuple xs k p) (.ref Ia) v) Q E s:=by
 cases v
 case ref T=>unfold letOwnedTupleGo;refine OL (wpAny_load e ?_);rw[hc,hd];show wpAny _ A (if (jh n&&vs[0]?==some (rawInt T))=true then _ else _) Q E s;rw[hn,RU,if_neg (by simp)];exact PJ hQ
 all_goals exact PJ hQ
noncomputable def AE(Ia:Addr)(fp:List Addr)(shown:List PyData)(P:Nat->Value->Prop)(St:Nat->Heap->Prop):Itr:=⟨Ia,fp,[Ia],shown,λi v _ _=>P i v,St,λi _ h=>St (i+1) h,false⟩
theorem Opened.plain{P:Nat->Value->Prop}{St:Nat->Heap->Prop}(walks:Walks Z.prog Z.w A Ia fp [Ia] shown.length P St)(start:St 0 h)(stay:∀b∈fp,b=Ia\/pU Y U h b)
   (items:∀i v,i < shown.length->P i v->∀β' σ' h',cg Y U h β' σ' h'->∃d,shown[i]?=some d/\Rel (TT β' σ') h' v d)
   (plain:∀i h',St i h'->X3 λo n vs=>A4 (h'.get? Ia=some o) (o.cls=.type n) (o.data=.fields vs) (jh n=false)):Opened Z A (AE Ia fp shown P St) Y U h:=by
 have ns:∀i h',St i h'->∀b∈[Ia],(∃o,h'.get? b=some o/\¬ gd o)/\¬ cj h' b:=λi h' st b hb=>by obtain⟨o,n,vs,e,c,d,_⟩:=plain i h' st;cases PN.mp hb;exact⟨⟨o,e,eJ d⟩,jG e c d⟩
 exact⟨walks.sub,walks.frame,λi s Q E hi st q=>walks.item i s Q E hi st λv h' tk hp st' k=>q v h' tk hp st' k,λxs k p i v s Q E st q=>by
   obtain⟨o,n,vs,e,c,d,w⟩:=plain _ _ st;exact EK e c d w (q s.heap st λ_ _ _ e=>e),λ_ i v h st=>st,λs Q E st q=>walks.done s Q E st λh' tk k=>q h' tk k,walks.self,start,λb hb=>(stay b hb).imp (λq=>PN.mpr q) id,
   λi v hb h' hi hp β' σ' _ k=>items i v hi hp β' σ' h' k,ns,λi v h' st=>ns _ _ st⟩
inductive ItPost(Z:Cx)(A:Around)(en:Bool)(I:j2)(Y:List Addr)(U:ac)(s:Shared)(aa:ac)(it:Value)(aq:Shared):Prop where
 |mk (ag:List Addr) (T:Itr) (h1:it=.ref T.Ia) (h2:T.shown=I.1) (h3:T.en=en) (h4:Step cz Y U s ag aa aq) (h5:Inv Z ag aa aq.heap) (h6:∀a∈T.wr,s.heap.get? a=none/\a∉ag) (h7:Opened Z A T ag (c5 I.2.2 aa) aq.heap)
   (h8:∀n,I.2.2=some n->aa[n]?=some (.lst I.2.1)) (h9:I.1.length<=LIM):ItPost Z A en I Y U s aa it aq
theorem qR (hh:A.handled=none) (hi:h.get? Ia=some { cls:=.type "list_iterator",dict:=none,data:=.fields #[.ref a,.int 0 0],slots:=#[] }) (e:h.get? a=some (eP vs n)) (r:RelAll (TT Y U) h vs.toList l) (hs:pU Y U h a) :
   X3 λfp P St=>Opened Z A (AE Ia fp l P St) Y U h:=by
 have hne:a≠Ia:=λq=>by rw[q,hi]at e;injection e with e;exact absurd (congrArg Obj.cls e) (by simp)
 have hz:=r.length;simp at hz;have W:=Walks.list (prog:=Z.prog) (w:=Z.w) hh Ia a hne vs;replace W:=hz▸W;refine⟨_,_,_,.plain W ⟨⟨_,hi,rfl,rfl⟩,⟨_,e,rfl,_,rfl⟩⟩ ?_ ?_ ?_⟩
 . intro b hb;simp at hb;clear hi W;rcases hb with rfl|rfl
   . exact .inl rfl
   . exact .inr hs
 . intro i v _ hv β' σ' h' k;obtain⟨d,h1,h2⟩:=r.getV (k:=i) (v:=v) (by simpa using hv);exact⟨d,h1,Rel.mono k h2⟩
 . rintro i h' ⟨⟨o,e,c,d⟩,_⟩
   exact⟨o,_,_,e,c,d,by decide⟩
theorem yC (hh:A.handled=none) (hi:h.get? Ia=some { cls:=.type "tuple_iterator",dict:=none,data:=.fields #[.ref a,.int 0 0],slots:=#[] }) (e:h.get? a=some (pJ vs n)) (r:RelAll (TT Y U) h vs.toList l) (hs:pU Y U h a) :
   X3 λfp P St=>Opened Z A (AE Ia fp l P St) Y U h:=by
 have hne:a≠Ia:=λq=>by rw[q,hi]at e;injection e with e;exact absurd (congrArg Obj.cls e) (by simp)
 have hz:=r.length;simp at hz;have W:=Walks.tuple (prog:=Z.prog) (w:=Z.w) hh Ia a hne vs;replace W:=hz▸W;refine⟨_,_,_,.plain W ⟨⟨_,hi,rfl,rfl⟩,⟨_,e,rfl,_,rfl⟩⟩ ?_ ?_ ?_⟩
 . intro b hb;simp at hb;clear hi W;rcases hb with rfl|rfl
   . exact .inl rfl
   . exact .inr hs
 . intro i v _ hv β' σ' h' k;obtain⟨d,h1,h2⟩:=r.getV (k:=i) (v:=v) (by simpa using hv);exact⟨d,h1,Rel.mono k h2⟩
 . rintro i h' ⟨⟨o,e,c,d⟩,_⟩
   exact⟨o,_,_,e,c,d,by decide⟩
theorem qQ(W:Walks Z.prog Z.w A Ia [Ia] [Ia] x.cps.size (SignAt x) (λi h=>h.IsStrIter Ia T x tk i))(ht:jh T=false)(g:cY x)(hi:h.IsStrIter Ia T x tk 0) :
   Opened Z A (AE Ia [Ia] ((aG x).map λc=>.str (aD [c])) (SignAt x) (λi h=>h.IsStrIter Ia T x tk i)) Y U h:=by
 have hz:((aG x).map λc=>PyData.str (aD [c])).length=x.cps.size:=by rw[Pd];exact P1
 rw[<- hz]at W;refine .plain W hi (λb hb=>.inl (PN.mp hb)) (λi v _ hv β' σ' h' k=>?_) λi h' ⟨o,e,c,d⟩=>⟨o,_,_,e,c,d,ht⟩;obtain⟨c,u,hc,rfl⟩:=hv;have hc':(aG x)[i]?=some c:=by unfold aG;rw[Array.getElem?_toList];exact hc
 refine⟨.str (aD [c]),by rw[Qe,hc'];rfl,.str _ _ (gQ (λy hy=>g.cps y ?_) (by rw[QS];decide))⟩;rw[PN.mp hy];exact PF (hc')theorem bw(o:Obj):∀b x,h.get? b=some x->(h.push o).get? b=some x:=λb x e=>PI _ (e)theorem kK(I:Inv Z Y U h):∀a∈[h.objs.size],h.get? a=none/\a∉Y:=λa ha=>by rw[PN.mp ha];exact⟨bo _,I.notMem (bo _)⟩theorem yD {E:VP} (hh:A.handled=none) (I:Inv Z Y U s.heap) (r:aE Y U s.heap v (.d (.tuple l))):WP Z A (pyIter v) (λit aq=>ItPost Z A false ⟨l,l,none⟩ Y U s U it aq) E s:=by apply (qq r).el;intro a vs m e t z q;refine wpAny_pyIter_tuple ⟨_,e,rfl,_,rfl⟩ ?_;have hk:=bw (h:=s.heap) { cls:=.type "tuple_iterator",data:=.fields #[.ref a,.int 0 0] };obtain⟨fp,P,St,Op⟩:=yC (Z:=Z) (A:=A) (Y:=Y) (U:=U) hh (PX s.heap rfl) (hk _ _ e) (q.mono λx o _ _ e _ t=>⟨hk _ _ e,t⟩) (.inr ⟨⟨_,_,_,hk _ _ e,.inl rfl⟩,t⟩);exact⟨Y,_,rfl,rfl,rfl,Step.grow hk rfl rfl,I.grow hk,kK I,Op,(λn q=>by injection q),z⟩
theorem yF{E:VP}(hh:A.handled=none)(I:Inv Z Y U s.heap)(r:aE Y U s.heap v (.d (.list l))):WP Z A (pyIter v) (λit aq=>ItPost Z A false ⟨l,l,none⟩ Y U s U it aq) E s:=by
 cases r with
 |@list a vs m xs e t z q=>refine wpAny_pyIter_list ⟨_,e,rfl,_,rfl⟩ ?_;have hk:=bw (h:=s.heap) { cls:=.type "list_iterator",data:=.fields #[.ref a,.int 0 0] };obtain⟨fp,P,St,Op⟩:=qR (Z:=Z) (A:=A) (Y:=Y) (U:=U) hh (PX s.heap rfl) (hk _ _ e) (q.mono λx o _ _ e _ t=>⟨hk _ _ e,t⟩) (.inr ⟨⟨_,_,_,hk _ _ e,.inl rfl⟩,t⟩);exact⟨Y,_,rfl,rfl,rfl,Step.grow hk rfl rfl,I.grow hk,kK I,Op,(λn q=>by injection q),z⟩
theorem yE{E:VP}(hh:A.handled=none)(I:Inv Z Y U s.heap)(r:aE Y U s.heap v (.d (.str x))):WP Z A (pyIter v) (λit aq=>ItPost Z A false ⟨(aG x).map λc=>.str (aD [c]),(aG x).map λc=>.str (aD [c]),none⟩ Y U s U it aq) E s:=by
 apply xr (oq r);intro tk g;have fin:∀T:String,Walks Z.prog Z.w A s.heap.objs.size [s.heap.objs.size] [s.heap.objs.size] x.cps.size (SignAt x) (λi h=>h.IsStrIter s.heap.objs.size T x tk i)->jh T=false->ItPost Z A false ⟨(aG x).map λc=>.str (aD [c]),(aG x).map λc=>.str (aD [c]),none⟩ Y U s U (.ref s.heap.objs.size) { s with heap:=s.heap.push { cls:=.type T,data:=.fields #[.str x tk,.int 0 0] } }:=λT W ht=>⟨Y,_,rfl,rfl,rfl,Step.grow (bw _) rfl rfl,I.grow (bw _),kK I,qQ W ht g ⟨_,PX _ rfl,rfl,rfl⟩,(λn q=>by injection q),by rw[Pd];exact g.len⟩
 cases ha:x.cps.all (· < 128)
 . exact wpAny_pyIter_wide ha (fin _ (Walks.strWide hh _ x tk) (by decide))
 . exact wpAny_pyIter_ascii ha (fin _ (Walks.strAscii hh _ x tk) (by decide))theorem DW {E:VP} (hh:A.handled=none) (I:Inv Z Y U s.heap) (r:aE Y U s.heap v (.loc n)) (hc:U[n]?=some (.lst l)):WP Z A (pyIter v) (λit aq=>ItPost Z A false ⟨l,l,some n⟩ Y U s U it aq) E s:=by obtain⟨a,hb,ev⟩:=r;refine ev▸?_;obtain⟨vs,m,e,q,z⟩:=I.cell n a _ hb hc;refine wpAny_pyIter_list ⟨_,e,rfl,_,rfl⟩ ?_;have hk:=bw (h:=s.heap) { cls:=.type "list_iterator",data:=.fields #[.ref a,.int 0 0] };obtain⟨fp,P,St,Op⟩:=qR (Z:=Z) (A:=A) (Y:=Y) (U:=U.set n .busy) hh (PX s.heap rfl) (hk _ _ e) (q.mono λx o _ _ e _ t=>⟨hk _ _ e,λz=>t (((λx=>sD (iW:=.lst l) (c:=.busy) hc rfl) x).mp z)⟩) (.inl ⟨n,hb,dg hc⟩);exact⟨Y,_,rfl,rfl,rfl,Step.grow hk rfl rfl,I.grow hk,kK I,Op,(λk q=>Option.some.inj q▸hc),z⟩
theorem wG{Q:List PyData->Option Nat->Prop}{x:V}(ho:qS x U=some (l,lk))(h1:∀l,x=.d (.tuple l)->Q l none)(h2:∀l,x=.d (.list l)->Q l none)(h3:∀y,x=.d (.str y)->Q ((aG y).map λc=>.str (aD [c])) none)(h4:∀n l,x=.loc n->U[n]?=some (.lst l)->Q l (some n)):Q l lk:=by
 cases x with
 |d y=>
   replace ho:=gx ho;rcases ho with⟨l',hl,ho⟩|ho
   . injection ho with e;injection e with e f;subst e;subst f;exact h1 _ (congrArg V.d (uq hl))
   replace ho:=gx ho;rcases ho with⟨l',hl,ho⟩|ho
   . injection ho with e;injection e with e f;subst e;subst f;exact h2 _ (congrArg V.d (Hh hl))
   . replace ho:=kq ho;obtain⟨y,hl,ho⟩:=ho;injection ho with e;injection e with e f;subst e;subst f;exact h3 _ (congrArg V.d (pY hl))
 |loc n=>obtain⟨l',hc,ho⟩:=Ql.mp ho;cases (ho);exact h4 n _ rfl (ky hc)
 |_=>injection ho
theorem wF{x:V}{E:VP}(hh:A.handled=none)(I:Inv Z Y U s.heap)(r:aE Y U s.heap v x)(ho:qS x U=some (l,lk)) :
   WP Z A (pyIter v) (λit aq=>ItPost Z A false ⟨l,l,lk⟩ Y U s U it aq) E s:=
 wG (Q:=λl lk=>WP Z A (pyIter v) (λit aq=>ItPost Z A false ⟨l,l,lk⟩ Y U s U it aq) E s) ho (λl e=>yD hh I (e▸r)) (λl e=>yF hh I (e▸r)) (λy e=>yE hh I (e▸r)) λn l e hc=>DW hh I (e▸r) hc
theorem jF(a b:Int):(b8 a b).length=(b - a).toNat:=by simp[b8]
theorem wA{a b:Int}{r:Addr}{t u v:Tok}{E:VP}(hh:A.handled=none)(ha:-100000<=a/\a<=100000)(hb:-100000<=b/\b<=100000)(I:Inv Z Y U s.heap)(hr:IsRange s.heap r a b 1 t u v) :
   WP Z A (pyIter (.ref r)) (λit aq=>ItPost Z A false ⟨b8 a b,[],none⟩ Y U s U it aq) E s:=by
 refine wpAny_pyIter_range hr (small_one (by omega) (by omega) (by omega) (by omega)) ?_;have hsz:Builtin.Range.rangeSize a b 1=(((b - a).toNat:Nat):Int):=by rw[rangeSize_one];split<;>grind
 have hk:=bw (h:=s.heap) { cls:=.type "range_iterator",data:=.fields #[rawInt a,rawInt (Builtin.Range.rangeSize a b 1),rawInt 1] };have W:=Walks.range (prog:=Z.prog) (w:=Z.w) hh s.heap.objs.size a 1 (b - a).toNat;rw[<- jF]at W;refine⟨Y,_,rfl,rfl,rfl,Step.grow hk rfl rfl,I.grow hk,kK I,.plain W ?_ ?_ ?_ ?_,(λn q=>by injection q),?_⟩
 . show IsRangeIter _ _ (a+((0:Nat):Int) * 1) ((((b8 a b).length:Nat):Int) - ((0:Nat):Int)) 1;have e1:a+((0:Nat):Int) * 1=a:=Int.add_zero a;have e2:(((b8 a b).length:Nat):Int) - ((0:Nat):Int)=Builtin.Range.rangeSize a b 1:=(TX _).trans (by rw[jF,hsz]);rw[e1,e2];exact PX _ rfl
 . intro c hc;simp at hc;exact .inl hc
 . rintro i x hi ⟨t,rfl⟩ β' σ' h' _
   rw[jF]at hi;refine⟨.int (a+i),?_,?_⟩
   . simp[b8,hi]
   . rw[Int.mul_one];exact .int _ _
 . intro i h' st;exact⟨_,_,_,st,rfl,rfl,by decide⟩
 . rw[jF];exact Ri.mpr (QN (Int.sub_le_sub hb.2 ha.1) (by decide))theorem E8(l:List PyData)(i:Nat):(kL l)[i]?=(l[i]?).map λd=>PyData.tuple [.int i,d]:=by unfold kL;rw[Qe,List.getElem?_zipIdx];cases l[i]?<;>simp
theorem oM(l:List PyData):(kL l).length=l.length:=by simp[kL]
def M5(e it a:Addr)(vs:Array Value)(l:List PyData):Itr:=⟨e,[e,it,a],[e,it],kL l,λi v hb h'=>X3 λT t x=>A4 (v=.ref T) (hb.get? T=none) (h'.get? T=some (pJ #[.int i t,x] 0)) (vs[i]?=some x),
 λi h=>(∃old,IsEnum h e it i old)/\h.IsTupleIter it a i/\h.IsTuple a vs,λi v h=>X2 λT x=>A3 (v=.ref T) (IsEnumOut h e it ((i:Int)+1) x T) (h.IsTupleIter it a (i+1)/\h.IsTuple a vs),true⟩
theorem BR {e:Addr} (hh:A.handled=none) (he:IsEnum h e it 0 .none) (hi:h.get? it=some { cls:=.type "tuple_iterator",dict:=none,data:=.fields #[.ref a,.int 0 0],slots:=#[] }) (ha:h.get? a=some (pJ vs n)) (r:RelAll (TT Y U) h vs.toList l) (hs:pU Y U h a) :
   Opened Z A (M5 e it a vs l) Y U h:=by
 have hai:a≠it:=λq=>by rw[q,hi]at ha;injection ha with ha;exact absurd (congrArg Obj.cls ha) (by simp)
 have hae:a≠e:=λq=>by rw[q]at ha;have he:=he.symm.trans ha;injection he with he;exact absurd (congrArg Obj.cls he) (by simp)
 have hei:e≠it:=λq=>by rw[q]at he;have he:=he.symm.trans hi;injection he with he;exact absurd (congrArg Obj.cls he) (by simp)
 have hz:=r.length;simp at hz;have D:=Ft (prog:=Z.prog) (w:=Z.w) (A:=A.in1) hh it a hai vs;have mem:∀{b:Addr},b∉[e,it]->b≠e/\b≠it:=λhb=>⟨λq=>hb (by simp[q]),λq=>hb (by simp[q])⟩;have ns:∀{h':Heap} {i:Nat} {oe:Obj} {es:Array Value} {n:String},h'.get? e=some oe->oe.cls=.type n->oe.data=.fields es->h'.IsTupleIter it a i->∀b∈[e,it],(∃o,h'.get? b=some o/\¬ gd o)/\¬ cj h' b:=λhe hc hd ⟨o,hi,c,d⟩ b hb=>by
   rcases PO.mp hb with rfl|hb
   . exact⟨⟨_,he,eJ hd⟩,jG he hc hd⟩
   . cases PN.mp hb;exact⟨⟨_,hi,eJ d⟩,jG hi c d⟩
 refine⟨λb hb=>?_,λi h h' ⟨⟨old,he⟩,hi⟩ hk=>?_,λi s Q E hlt ⟨⟨old,he⟩,hi⟩ q=>?_,λxs k p i v s Q E m q=>?_,(λh=>by injection h),λs Q E ⟨⟨old,he⟩,hi⟩ q=>?_,λi s Q E ⟨⟨old,he⟩,hi⟩ q=>wpAny_pyIter_enum he q,⟨⟨_,he⟩,⟨_,hi,rfl,rfl⟩,⟨_,ha,rfl,_,rfl⟩⟩,λb hb=>?_,λi v hb h' hlt p β' σ' I k=>?_,λi h' ⟨⟨old,he⟩,hi,_⟩=>ns he rfl rfl hi,λi v h' ⟨T,x,_,he,hi,_⟩=>ns he rfl rfl hi⟩
 . rcases PO.mp hb with rfl|hb
   . exact PH ..
   . cases PN.mp hb;exact PG _ (PH ..)
 . exact⟨⟨old,hk e (PH ..) _ he⟩,D.frame _ _ _ hi λb hb=>hk b (PG _ hb)⟩
 . have hlt:i < vs.size:=by have:i < (kL l).length:=hlt;rw[oM]at this;lia
   refine wpAny_pyNext_enum_itemD D he hi hlt hei (λm=>?_) λx h' tk hx ho hs' hT _ hk=>q _ h' _ ⟨_,_,x,rfl,bo _,hT,hx⟩ ⟨_,_,rfl,ho,hs'⟩ λb o hb e=>hk b o (mem hb).1 (mem hb).2 e;rcases PO.mp m with h|h
   . exact hei h
   . exact hae (PN.mp h).symm
 . obtain⟨T,x,rfl,ho,hs'⟩:=m;refine wpAny_letOwnedTupleGo_enum ho λh' he' hk=>q h' ⟨⟨x,he'⟩,D.frame _ _ _ hs' λb hb o y=>(hk.2 b λz=>?_).trans y⟩ λb o hb y=>(hk.2 b (mem hb).1).trans y;clear he' mem ns he q;subst z;rcases PO.mp hb with h|h
   . exact hei h
   . exact hae (PN.mp h).symm
 . have hi:(λi h=>Heap.IsTupleIter h it a i/\Heap.IsTuple h a vs) vs.size s.heap:=by rw[hz,<- oM l];exact hi
   exact wpAny_pyNext_enum_endD D he hi λh' hx=>q h' s.toks λb o hb y=>hx b o (mem hb).2 y
 . clear D ns;rcases PO.mp hb with rfl|hb
   . exact .inl (PH ..)
   . clear he mem;rcases PO.mp hb with rfl|hb
     . exact .inl (PG _ (PH ..))
     . cases PN.mp hb;exact .inr hs
 . obtain⟨T,t,x,rfl,hT,hT',hx⟩:=p;obtain⟨d,h1,h2⟩:=r.getV (k:=i) (v:=x) (by simpa using hx);refine⟨.tuple [.int i,d],?_,.tuple hT' (λz=>I.notMem hT z.mem) (by simp[LIM]) (.cons (.int _ _) (.one (Rel.mono k h2)))⟩;show (kL l)[i]?=_;rw[E8,h1];rfl
theorem ze{E:VP}(hh:A.handled=none)(I:Inv Z Y U s.heap)(r:aE Y U s.heap v (.d (.tuple l))) :
   WP Z A (call (.type "enumerate") [v]) (λx ai=>WP Z A (pyIter x) (λit aq=>ItPost Z A true ⟨kL l,[],none⟩ Y U s U it aq) E ai) E' s:=by
 apply (qq r).el;intro a vs m e t z q;refine zB e λh' he hi hk=>wpAny_pyIter_enum he ?_;have f0:∀k,s.heap.get? (s.heap.objs.size+k)=none:=λk=>hX (PW _ _);refine⟨Y,_,rfl,rfl,rfl,Step.grow hk rfl rfl,I.grow hk,(λb hb=>?_),(BR (Z:=Z) (A:=A) (Y:=Y) (U:=U) hh he hi (hk _ _ e) (q.mono λx o _ _ e _ t=>⟨hk _ _ e,t⟩) (.inr ⟨⟨_,_,_,hk _ _ e,.inl rfl⟩,t⟩)),(λn q=>by injection q),by rw[oM];exact z⟩;rcases PO.mp hb with rfl|hb
 . exact⟨f0 1,I.notMem (f0 1)⟩
 . cases PN.mp hb;exact⟨f0 0,I.notMem (f0 0)⟩
theorem lD(S0:Step O Y U s ag aa ai)(ay:Inv Z ag aa ai.heap)(hlk:∀n,lk=some n->aa[n]?=some (.lst base))(S:Step (λx=>O x\/x∈wr) ag (c5 lk aa) ai a5 ae aq)(cD:Inv Z a5 ae aq.heap)
   (hO:∀x,O x->¬ cj ai.heap x) (hi:∀a∈wr,¬ cj ai.heap a) (hf:∀a∈wr,s.heap.get? a=none):A3 (Step O Y U s a5 (bx lk base ae) aq) (Inv Z a5 (bx lk base ae) aq.heap) (∀x,TT a5 (bx lk base ae) x↔TT a5 ae x):=by
 have drop:∀{σ':ac},Step (λx=>O x\/x∈wr) Y U s a5 σ' aq->Step O Y U s a5 σ' aq:=λT=>⟨T.ext,T.mono,λx o hx hw hn=>T.keepW x o hx hw (λz=>z.elim hn λq=>by rw[hf x q]at hx;injection hx),T.alive,T.gens,T.os⟩
 cases lk with
 |none=>exact⟨drop ((S0.weaken λ_=>.inl).trans S),cD,λ_=>.rfl⟩
 |some n=>
   have hn:=hlk n rfl;have hlt:n < ag.length:=by rw[ay.len];exact(PB.mp hn).1
   have hb:=PD hlt;have Ua:=Br ay hb hn S (λx z=>z.elim (hO x) (hi x)) cD;have st:ae[n]?=some .busy:=by
     have EC:n < ae.length:=by rw[<- cD.len];exact(PB.mp (S.get hb)).1
     obtain⟨c,h1,_,_,h4⟩:=S.mono n ae[n] hlt (PD EC);have:(c5 (some n) aa)[n]?=some .busy:=dg hn;rw[this]at h1;injection h1 with e;subst e;rw[PD EC,h4 rfl]
   exact⟨drop ((S0.weaken λ_=>.inl).trans Ua.1),Ua.2,λx=>sD (iW:=.busy) (c:=.lst base) st rfl⟩
theorem AC(ay:Inv Z ag aa ai.heap)(hlk:∀n,lk=some n->aa[n]?=some (.lst base)):Inv Z ag (c5 lk aa) ai.heap/\Step cz ag aa ai ag (c5 lk aa) ai:=by
 cases lk with
 |none=>exact⟨ay,Step.refl⟩
 |some n=>
   have hn:=hlk n rfl;have hlt:n < ag.length:=by exact ay.len▸(PB.mp hn).1
   have:=uA (O:=cz) (c:=.busy) ay (PD hlt) hn rfl rfl;exact⟨this.2,this.1⟩variable {o:Option B}theorem IX{x:B}{P:Prop}(h:o=some x)(hn:o=none):P:=by rw[hn]at h;injection h
theorem av{f:B->Bool}(h:ob o f=true):∃a,o=some a/\f a=true:=by
 cases o with
 |none=>injection h
 |some a=>exact⟨a,rfl,h⟩theorem wL{a:Bool}(h:(!a)=true):a=false:=by cases a with|false=>rfl|true=>injection h
theorem xZ{a:Bool}(z:(a&&b&&c)=true):A3 (a=true) (b=true) (c=true):=by have q:=PK.mp z;obtain⟨ha,hb⟩:=PK.mp q.1;exact⟨ha,hb,q.2⟩variable {d:Bool}theorem sC{a:Bool}(z:(a&&b&&c&&d)=true):A4 (a=true) (b=true) (c=true) (d=true):=by have q:=PK.mp z;obtain⟨ha,hb,hc⟩:=xZ q.1;exact⟨ha,hb,hc,q.2⟩theorem NG{a e:Bool}(z:(a&&b&&c&&d&&e)=true):A5 (a=true) (b=true) (c=true) (d=true) (e=true):=by have q:=PK.mp z;obtain⟨ha,hb,hc,hd⟩:=sC q.1;exact⟨ha,hb,hc,hd,q.2⟩theorem zJ{a e f:Bool}(z:(a&&b&&c&&d&&e&&f)=true):A6 (a=true) (b=true) (c=true) (d=true) (e=true) (f=true):=by have q:=PK.mp z;obtain⟨ha,hb,hc,hd,he⟩:=NG q.1;exact⟨ha,hb,hc,hd,he,q.2⟩theorem NF{a e f g:Bool}(z:(a&&b&&c&&d&&e&&f&&g)=true):A4 (a=true) (b=true) (c=true) (A4 (d=true) (e=true) (f=true) (g=true)):=by have q:=PK.mp z;obtain⟨ha,hb,hc,hd,he,hf⟩:=zJ q.1;exact⟨ha,hb,hc,hd,he,hf,q.2⟩
theorem a8{k:n=m->B}{a:B}(h:cT n m k=some a):∃e,k e=a:=by
 unfold cT at h;by_cases e:n=m
 . rw[dif_pos e]at h;exact⟨e,Option.some.inj h⟩
 . rw[dif_neg e]at h;injection h
def gC(ex:Expr):Option (Const):=cT ex.ctorIdx 19 λe=>Expr.Constant.elim (motive_1:=λ_=>Const) ex e λa0 _ _=>(a0)theorem AO{ex:Expr}{t:Const}(h:gC ex=some t):X2 λa b=>ex=.Constant t a b:=by refine(a8 h).elim λe q=>?_;exact Expr.Constant.elim (motive_1:=λex=>∀e:ex.ctorIdx=19,(Expr.Constant.elim (motive_1:=λ_=>Const) ex e λa0 _ _=>a0)=t->X2 λa b=>ex=.Constant t a b) ex e (λ_ a b _ q=>q▸⟨a,b,rfl⟩) e (q)theorem bO{ex:Expr}{t:Str}(h:fc ex=some t):∃p,ex=.Name t p:=by refine(a8 h).elim λe q=>?_;exact Expr.Name.elim (motive_1:=λex=>∀e:ex.ctorIdx=23,(Expr.Name.elim (motive_1:=λ_=>Str) ex e λa0 _=>a0)=t->∃p,ex=.Name t p) ex e (λ_ p _ q=>q▸⟨p,rfl⟩) e (q)def K7(ex:Expr):Option (Expr×Operator×Expr):=cT ex.ctorIdx 2 λe=>Expr.BinOp.elim (motive_1:=λ_=>Expr×Operator×Expr) ex e λa0 a1 a2 _=>(a0,a1,a2)theorem K6{ex:Expr}{t:Expr×Operator×Expr}(h:K7 ex=some t):∃p,ex=.BinOp t.1 t.2.1 t.2.2 p:=by refine(a8 h).elim λe q=>?_;exact Expr.BinOp.elim (motive_1:=λex=>∀e:ex.ctorIdx=2,(Expr.BinOp.elim (motive_1:=λ_=>Expr×Operator×Expr) ex e λa0 a1 a2 _=>(a0,a1,a2))=t->∃p,ex=.BinOp t.1 t.2.1 t.2.2 p) ex e (λ_ _ _ p _ q=>q▸⟨p,rfl⟩) e (q)theorem HL{ex:Expr}{l r:Expr}{o:Operator}(h:K7 ex=some (l,o,r)):∃p,ex=.BinOp l o r p:=K6 (h)def Ng(ex:Expr):Option (UnaryOp×Expr):=cT ex.ctorIdx 3 λe=>Expr.UnaryOp.elim (motive_1:=λ_=>UnaryOp×Expr) ex e λa0 a1 _=>(a0,a1)theorem Nf{ex:Expr}{t:UnaryOp×Expr}(h:Ng ex=some t):∃p,ex=.UnaryOp t.1 t.2 p:=by refine(a8 h).elim λe q=>?_;exact Expr.UnaryOp.elim (motive_1:=λex=>∀e:ex.ctorIdx=3,(Expr.UnaryOp.elim (motive_1:=λ_=>UnaryOp×Expr) ex e λa0 a1 _=>(a0,a1))=t->∃p,ex=.UnaryOp t.1 t.2 p) ex e (λ_ _ p _ q=>q▸⟨p,rfl⟩) e (q)theorem KZ{ex:Expr}{o:UnaryOp}{x:Expr}(h:Ng ex=some (o,x)):∃p,ex=.UnaryOp o x p:=Nf (h)def K5(ex:Expr):Option (BoolOp×List Expr):=cT ex.ctorIdx 0 λe=>Expr.BoolOp.elim (motive_1:=λ_=>BoolOp×List Expr) ex e λa0 a1 _=>(a0,a1)theorem K4{ex:Expr}{t:BoolOp×List Expr}(h:K5 ex=some t):∃p,ex=.BoolOp t.1 t.2 p:=by refine(a8 h).elim λe q=>?_;exact Expr.BoolOp.elim (motive_1:=λex=>∀e:ex.ctorIdx=0,(Expr.BoolOp.elim (motive_1:=λ_=>BoolOp×List Expr) ex e λa0 a1 _=>(a0,a1))=t->∃p,ex=.BoolOp t.1 t.2 p) ex e (λ_ _ p _ q=>q▸⟨p,rfl⟩) e (q)variable {xs:List Expr}theorem HK{ex:Expr}{o:BoolOp}(h:K5 ex=some (o,xs)):∃p,ex=.BoolOp o xs p:=K4 (h)def HJ(ex:Expr):Option (Expr×List CmpOp×List Expr):=cT ex.ctorIdx 15 λe=>Expr.Compare.elim (motive_1:=λ_=>Expr×List CmpOp×List Expr) ex e λa0 a1 a2 _=>(a0,a1,a2)theorem K3{ex:Expr}{t:Expr×List CmpOp×List Expr}(h:HJ ex=some t):∃p,ex=.Compare t.1 t.2.1 t.2.2 p:=by refine(a8 h).elim λe q=>?_;exact Expr.Compare.elim (motive_1:=λex=>∀e:ex.ctorIdx=15,(Expr.Compare.elim (motive_1:=λ_=>Expr×List CmpOp×List Expr) ex e λa0 a1 a2 _=>(a0,a1,a2))=t->∃p,ex=.Compare t.1 t.2.1 t.2.2 p) ex e (λ_ _ _ p _ q=>q▸⟨p,rfl⟩) e (q)theorem vi{ex:Expr}{l:Expr}{o:List CmpOp}{r:List Expr}(h:HJ ex=some (l,o,r)):∃p,ex=.Compare l o r p:=K3 (h)def Oi(ex:Expr):Option (Expr×Expr×Expr):=cT ex.ctorIdx 5 λe=>Expr.IfExp.elim (motive_1:=λ_=>Expr×Expr×Expr) ex e λa0 a1 a2 _=>(a0,a1,a2)theorem Nl{ex:Expr}{t:Expr×Expr×Expr}(h:Oi ex=some t):∃p,ex=.IfExp t.1 t.2.1 t.2.2 p:=by refine(a8 h).elim λe q=>?_;exact Expr.IfExp.elim (motive_1:=λex=>∀e:ex.ctorIdx=5,(Expr.IfExp.elim (motive_1:=λ_=>Expr×Expr×Expr) ex e λa0 a1 a2 _=>(a0,a1,a2))=t->∃p,ex=.IfExp t.1 t.2.1 t.2.2 p) ex e (λ_ _ _ p _ q=>q▸⟨p,rfl⟩) e (q)theorem K1{ex:Expr}{l o r:Expr}(h:Oi ex=some (l,o,r)):∃p,ex=.IfExp l o r p:=Nl (h)def B8(ex:Expr):Option (List Expr):=cT ex.ctorIdx 25 λe=>Expr.Tuple.elim (motive_1:=λ_=>List Expr) ex e λa0 _ _=>(a0)theorem lv{ex:Expr}{t:List Expr}(h:B8 ex=some t):X2 λk p=>ex=.Tuple t k p:=by refine(a8 h).elim λe q=>?_;exact Expr.Tuple.elim (motive_1:=λex=>∀e:ex.ctorIdx=25,(Expr.Tuple.elim (motive_1:=λ_=>List Expr) ex e λa0 _ _=>a0)=t->X2 λk p=>ex=.Tuple t k p) ex e (λ_ a b _ q=>q▸⟨a,b,rfl⟩) e (q)def EQ(ex:Expr):Option (List Expr):=cT ex.ctorIdx 24 λe=>Expr.List.elim (motive_1:=λ_=>List Expr) ex e λa0 _=>(a0)theorem xk{ex:Expr}{t:List Expr}(h:EQ ex=some t):∃p,ex=.List t p:=by refine(a8 h).elim λe q=>?_;exact Expr.List.elim (motive_1:=λex=>∀e:ex.ctorIdx=24,(Expr.List.elim (motive_1:=λ_=>List Expr) ex e λa0 _=>a0)=t->∃p,ex=.List t p) ex e (λ_ p _ q=>q▸⟨p,rfl⟩) e (q)def ES(ex:Expr):Option (List (Option Expr)×List Expr):=cT ex.ctorIdx 6 λe=>Expr.Dict.elim (motive_1:=λ_=>List (Option Expr)×List Expr) ex e λa0 a1 _=>(a0,a1)theorem HH{ex:Expr}{t:List (Option Expr)×List Expr}(h:ES ex=some t):∃p,ex=.Dict t.1 t.2 p:=by refine(a8 h).elim λe q=>?_;exact Expr.Dict.elim (motive_1:=λex=>∀e:ex.ctorIdx=6,(Expr.Dict.elim (motive_1:=λ_=>List (Option Expr)×List Expr) ex e λa0 a1 _=>(a0,a1))=t->∃p,ex=.Dict t.1 t.2 p) ex e (λ_ _ p _ q=>q▸⟨p,rfl⟩) e (q)variable {k:List (Option Expr)}theorem ER{ex:Expr}{v:List Expr}(h:ES ex=some (k,v)):∃p,ex=.Dict k v p:=HH (h)def B9(ex:Expr):Option (Expr×Expr):=cT ex.ctorIdx 21 λe=>Expr.Subscript.elim (motive_1:=λ_=>Expr×Expr) ex e λa0 a1 _=>(a0,a1)theorem EN{ex:Expr}{t:Expr×Expr}(h:B9 ex=some t):∃p,ex=.Subscript t.1 t.2 p:=by refine(a8 h).elim λe q=>?_;exact Expr.Subscript.elim (motive_1:=λex=>∀e:ex.ctorIdx=21,(Expr.Subscript.elim (motive_1:=λ_=>Expr×Expr) ex e λa0 a1 _=>(a0,a1))=t->∃p,ex=.Subscript t.1 t.2 p) ex e (λ_ _ p _ q=>q▸⟨p,rfl⟩) e (q)theorem qh{ex:Expr}{v x:Expr}(h:B9 ex=some (v,x)):∃p,ex=.Subscript v x p:=EN (h)def HD(ex:Expr):Option (Option Expr×Option Expr×Option Expr):=cT ex.ctorIdx 26 λe=>Expr.Slice.elim (motive_1:=λ_=>Option Expr×Option Expr×Option Expr) ex e λa0 a1 a2 _=>(a0,a1,a2)theorem K0{ex:Expr}{t:Option Expr×Option Expr×Option Expr}(h:HD ex=some t):∃p,ex=.Slice t.1 t.2.1 t.2.2 p:=by refine(a8 h).elim λe q=>?_;exact Expr.Slice.elim (motive_1:=λex=>∀e:ex.ctorIdx=26,(Expr.Slice.elim (motive_1:=λ_=>Option Expr×Option Expr×Option Expr) ex e λa0 a1 a2 _=>(a0,a1,a2))=t->∃p,ex=.Slice t.1 t.2.1 t.2.2 p) ex e (λ_ _ _ p _ q=>q▸⟨p,rfl⟩) e (q)theorem HC{ex:Expr}{l u t:Option Expr}(h:HD ex=some (l,u,t)):∃p,ex=.Slice l u t p:=K0 (h)def EU(ex:Expr):Option (Expr×List Comprehension×Scope):=cT ex.ctorIdx 8 λe=>Expr.ListComp.elim (motive_1:=λ_=>Expr×List Comprehension×Scope) ex e λa0 a1 a2 _=>(a0,a1,a2)theorem HI{ex:Expr}{t:Expr×List Comprehension×Scope}(h:EU ex=some t):∃p,ex=.ListComp t.1 t.2.1 t.2.2 p:=by refine(a8 h).elim λe q=>?_;exact Expr.ListComp.elim (motive_1:=λex=>∀e:ex.ctorIdx=8,(Expr.ListComp.elim (motive_1:=λ_=>Expr×List Comprehension×Scope) ex e λa0 a1 a2 _=>(a0,a1,a2))=t->∃p,ex=.ListComp t.1 t.2.1 t.2.2 p) ex e (λ_ _ _ p _ q=>q▸⟨p,rfl⟩) e (q)variable {g:List Comprehension}theorem ET{ex:Expr}{e:Expr}{s:Scope}(h:EU ex=some (e,g,s)):∃p,ex=.ListComp e g s p:=HI (h)def tW(ex:Expr):Option (Expr×List Expr×List Keyword×Pos):=cT ex.ctorIdx 16 λe=>Expr.Call.elim (motive_1:=λ_=>Expr×List Expr×List Keyword×Pos) ex e λa0 a1 a2 a3=>(a0,a1,a2,a3)theorem vj{ex:Expr}{t:Expr×List Expr×List Keyword×Pos}(h:tW ex=some t):ex=.Call t.1 t.2.1 t.2.2.1 t.2.2.2:=by refine(a8 h).elim λe q=>?_;exact Expr.Call.elim (motive_1:=λex=>∀e:ex.ctorIdx=16,(Expr.Call.elim (motive_1:=λ_=>Expr×List Expr×List Keyword×Pos) ex e λa0 a1 a2 a3=>(a0,a1,a2,a3))=t->ex=.Call t.1 t.2.1 t.2.2.1 t.2.2.2) ex e (λ_ _ _ _ _ q=>q▸rfl) e (q)variable {a:List Expr}theorem xm{ex:Expr}{f:Expr}{k:List Keyword}(h:tW ex=some (f,a,k,p)):ex=.Call f a k p:=vj (h)theorem HM{ex:Expr}{t:Expr×Str×Pos}(h:AP ex=some t):ex=.Attribute t.1 t.2.1 t.2.2:=by refine(a8 h).elim λe q=>?_;exact Expr.Attribute.elim (motive_1:=λex=>∀e:ex.ctorIdx=20,(Expr.Attribute.elim (motive_1:=λ_=>Expr×Str×Pos) ex e λa0 a1 a2=>(a0,a1,a2))=t->ex=.Attribute t.1 t.2.1 t.2.2) ex e (λ_ _ _ _ q=>q▸rfl) e (q)theorem xn{ex:Expr}{o:Expr}{n:Str}(h:AP ex=some (o,n,p)):ex=.Attribute o n p:=HM (h)noncomputable def Nx:Const->Option Unit
 |.none=>some ()
 |_=>(none)noncomputable def Ny:Const->Option Bool
 |.bool b=>some b
 |_=>(none)noncomputable def OB:Const->Option Int
 |.int b=>some b
 |_=>(none)noncomputable def OA:Const->Option Str
 |.str b=>some b
 |_=>(none)def AN(ex:Expr):Option Unit:=(gC ex).bind (Nx)def Ja(ex:Expr):Option Bool:=(gC ex).bind (Ny)def Nk(ex:Expr):Option Int:=(gC ex).bind (OB)def Nh(ex:Expr):Option Str:=(gC ex).bind (OA)variable {u:Unit}theorem xj{ex:Expr}(h:AN ex=some u):X2 λa b=>ex=.Constant .none a b:=by obtain⟨c,h1,h2⟩:=PM.mp h;clear h;obtain⟨a,b,rfl⟩:=AO h1;clear h1;cases c<;>first|exact⟨_,_,rfl⟩|exact IX h2 rfl
theorem EV{ex:Expr}{x:Bool}(h:Ja ex=some x):X2 λa b=>ex=.Constant (.bool x) a b:=by obtain⟨c,h1,h2⟩:=PM.mp h;clear h;obtain⟨a,b,rfl⟩:=AO h1;clear h1;cases c<;>first|exact IX h2 rfl | ((injection h2 with e;subst e);exact⟨_,_,rfl⟩)theorem HG{ex:Expr}{x:Int}(h:Nk ex=some x):X2 λa b=>ex=.Constant (.int x) a b:=by obtain⟨c,h1,h2⟩:=PM.mp h;clear h;obtain⟨a,b,rfl⟩:=AO h1;cases c<;>first|exact IX h2 rfl | ((injection h2 with e;subst e);exact⟨_,_,rfl⟩)theorem HB{ex:Expr}(h:Nh ex=some x):X2 λa b=>ex=.Constant (.str x) a b:=by obtain⟨c,h1,h2⟩:=PM.mp h;clear h;obtain⟨a,b,rfl⟩:=AO h1;cases c<;>first|exact IX h2 rfl | ((injection h2 with e;subst e);exact⟨_,_,rfl⟩)def Nj(ex:Expr):Option Expr:=(Ng ex).bind λq=>if q.1=.USub then some q.2 else none
def Ni(ex:Expr):Option Expr:=(Ng ex).bind λq=>if q.1=.Not then some q.2 else none
theorem IM{ex x:Expr}{o:UnaryOp}(h:((Ng ex).bind λq=>if q.1=o then some q.2 else none)=some x):∃p,ex=.UnaryOp o x p:=by
 obtain⟨⟨o',y⟩,h1,h2⟩:=PM.mp h;apply gj (KZ h1);intro p;clear h;by_cases ho:o'=o
 . rw[if_pos ho]at h2;injection h2 with e;subst e;subst ho;exact⟨p,rfl⟩
 . rw[if_neg ho]at h2;injection h2
theorem HF{ex x:Expr}(h:Nj ex=some x):∃p,ex=.UnaryOp .USub x p:=IM (h)theorem HE{ex x:Expr}(h:Ni ex=some x):∃p,ex=.UnaryOp .Not x p:=IM (h)noncomputable def JF{B:Type}:List B->Option (B×List B)
 |a::b=>some (a,b)
 |_=>(none)variable {l:List B}
theorem ou{a:B}{r:List B}(h:JF l=some (a,r)):l=a::r:=by
 cases l with
 |nil=>injection h
 |cons x l=>injection h with e;injection e with e f;subst e;subst f;rfl
theorem gc(h:l.isEmpty=true):l=[]:=by
 cases l with
 |nil=>rfl
 |cons x l=>injection h
noncomputable def Ok{B:Type}:List B->Option Unit
 |[]=>some ()
 |_=>none
theorem Fg(h:Ok l=some u):l=[]:=by
 cases l with
 |nil=>rfl
 |cons _ _=>exact IX h (rfl)def rN(ex:Expr):Option (Str×List Expr):=(tW ex).bind λq=>(fc q.1).bind λx=>(Ok q.2.2.1).bind λ_=>some (x,q.2.1)theorem eU{ex:Expr}{a:List Expr}(h:rN ex=some (x,a)):X2 λp pos=>ex=.Call (.Name x p) a [] pos:=by refine kk λUc k=>?_;obtain⟨q,h1,h⟩:=PM.mp h;obtain⟨x',h2,h⟩:=PM.mp h;obtain⟨_,h3,h⟩:=PM.mp h;obtain⟨p,h2⟩:=bO h2;refine k ?_;have h4:=Prod.mk.inj (Option.some.inj h);refine⟨p,q.2.2.2,?_⟩;rw[xm (f:=q.1) (a:=q.2.1) (k:=q.2.2.1) (p:=q.2.2.2) h1,h2,Fg h3,h4.1,h4.2]def I9(ex:Expr):Option (Expr×Str×Pos×List Expr×Pos):=(tW ex).bind λq=>(AP q.1).bind λo=>(Ok q.2.2.1).bind λ_=>some (o.1,o.2.1,o.2.2,q.2.1,q.2.2.2)variable {nm:Str}theorem EP{ex ov:Expr}{ap:Pos}{a:List Expr}(h:I9 ex=some (ov,nm,ap,a,pos)):ex=.Call (.Attribute ov nm ap) a [] pos:=by obtain⟨q,h1,h⟩:=PM.mp h;obtain⟨o,h2,h⟩:=PM.mp h;obtain⟨_,h3,h⟩:=PM.mp h;have h2:=xn (o:=o.1) (n:=o.2.1) (p:=o.2.2) h2;rw[xm (f:=q.1) (a:=q.2.1) (k:=q.2.2.1) (p:=q.2.2.2) h1,h2,Fg h3];exact congrArg (λt:Expr×Str×Pos×List Expr×Pos=>Expr.Call (.Attribute t.1 t.2.1 t.2.2.1) t.2.2.2.1 [] t.2.2.2.2) (Option.some.inj h)noncomputable def O4:Bi->Option Ty
 |.isinst t=>some t
 |_=>(none)theorem LE{b:Bi}{t:Ty}(h:O4 b=some t):b=.isinst t:=by cases b<;>first | ((injection h with e;subst e);rfl) | injection h
def rF(ks:KS)(x:Str):Bool:=decide (ks.lookup x=some .globalImplicit)&&co (x)def AK(x:Str):Bool:=PyData.strOk x&&decide (x.cps.size<=LIM)noncomputable def fJ(ex:Expr):Bool:=Expr.casesOn (motive_1:=λ_=>Bool) ex (λ_ _ _=>true) (λ_ _ _=>true) (λ_ _ _ _=>true) (λ_ _ _=>true) (λ_ _ _ _=>true) (λ_ _ _ _=>true) (λ_ _ _=>true) (λ_ _ _=>true) (λ_ _ _ _=>true) (λ_ _ _ _=>true) (λ_ _ _ _ _=>true) (λ_ _ _ _=>true) (λ_ _=>true) (λ_ _=>true) (λ_ _=>true) (λ_ _ _ _=>true) (λ_ _ _ _=>true) (λ_ _ _ _=>true) (λ_ _=>true) (λ_ _ _=>true) (λ_ _ _=>true) (λ_ _ _=>true) (λ_ _=>false) (λ_ _=>true) (λ_ _=>true) (λ_ _ _=>true) (λ_ _ _ _=>true)def wM(ex:Expr):Bool:=(HD ex).isNone
noncomputable def qU(ex:Expr):Bool:=Expr.casesOn (motive_1:=λ_=>Bool) ex (λ_ _ _=>true) (λ_ _ _=>true) (λ_ _ _ _=>true) (λ_ _ _=>true) (λ_ _ _ _=>true) (λ_ _ _ _=>true) (λ_ _ _=>true) (λ_ _ _=>false) (λ_ _ _ _=>true) (λ_ _ _ _=>true) (λ_ _ _ _ _=>true) (λ_ _ _ _=>true) (λ_ _=>true) (λ_ _=>true) (λ_ _=>true) (λ_ _ _ _=>true) (λ_ _ _ _=>true) (λ_ _ _ _=>true) (λ_ _=>true) (λ_ _ _=>true) (λ_ _ _=>true) (λ_ _ _=>true) (λ_ _=>true) (λ_ _=>true) (λ_ _=>true) (λ_ _ _=>true) (λ_ _ _ _=>true)def Au(ex:Expr):Bool:=(tW ex).isNone
def mX(t:Ty):Str:=Str.ofString (uk t)noncomputable def sv:Bi->Str
 |.len=>"len"
 |.list=>"list"
 |.int=>"int"
 |.max=>"max"
 |.tuple=>"tuple"
 |.sortedSet=>"sorted"
 |.any=>"any"
 |.all=>"all"
 |.isinst _=>"isinstance"
noncomputable def O5:Bi->Bool
 |.sortedSet=>true
 |_=>(false)theorem LF{b:Bi}(h:O5 b=true):b=.sortedSet:=by cases b<;>first|rfl|injection h
noncomputable def Bi.plain:Bi->Bool
 |.isinst _ | .sortedSet=>false
 |_=>(true)def MZ(sc:SC):Tgt->Expr->Bool
 |.var i,ex=>ob (fc ex) λx=>decide (sc.lookup x=some i)&&co x
 |.tup _,_=>(false)variable {t:Tgt}
theorem Hf{ex:Expr}(h:MZ sc t ex=true):X3 λi x p=>A4 (t=.var i) (ex=.Name x p) (sc.lookup x=some i) (co x=true):=by
 cases t with
 |tup l=>injection h
 |var i=>replace h:=av h;obtain⟨x,h0,h⟩:=h;apply gj (bO h0);intro p;have h:(decide (sc.lookup x=some i)&&co x)=true:=h;simp only[P5,decide_eq_true_eq]at h;exact⟨i,x,p,rfl,rfl,h.1,h.2⟩def fS(ex:Expr):List Str:=oc (fc ex) (λx=>[x]) (oc (B8 ex) (λxs=>xs.filterMap fc) [])noncomputable def da:Tgt->List Nat
 |.var i=>[i]
 |.tup is=>is
def dE(sc:SC)(names:KS)(t:Tgt)(target:Expr):SC:=
 (fS target).zip (da t)++(names.filter λx=>decide (x.2=.free)).filterMap λx=>(sc.lookup x.1).map λi=>(x.1,i)
def Fw(ks:KS)(sc:SC)(scope:Scope)(t:Tgt)(target:Expr):Bool:=
 decide (scope.kind=.function)&&(scope.names.all λx=>match x.2 with
   |.local=>decide (scope.names.lookup x.1=some .local)
   |.free=>decide (scope.names.lookup x.1=some .free)&&decide (ks.lookup x.1=some .cell\/ks.lookup x.1=some .free)&&(sc.lookup x.1).isSome&&co x.1
   |.globalImplicit=>true
   |_=>false)&&
 ((fS target).all λx=>decide (scope.names.lookup x=some .local)&&co x)&&decide ((dE sc scope.names t target).map (·.2)).Nodup&&decide ((fS target).length=(da t).length)def ku(sc:SC):List Nat->List Expr->Bool
 |[],xs=>xs.isEmpty
 |i::l,xs=>ob (JF xs) λq=>ob (fc q.1) λx=>decide (sc.lookup x=some i)&&ku sc l (q.2)noncomputable def yU:Tgt->Bool
 |.tup _=>true
 |_=>(false)def o6(sc:SC):Tgt->Expr->Bool
 |.var i,ex=>ob (fc ex) λx=>decide (sc.lookup x=some i)
 |.tup l,ex=>ob (B8 ex) λxs=>ku sc l (xs)noncomputable def yX:It->Bool
 |.enum _=>true
 |_=>false
inductive InitX(h:Heap)(mN:Str->Option Value):Prop where
 |mk (f:Addr) (o:Obj) (fd:FuncData) (p0 p1 p2:Str) (n1 n2 n3 n4 n5 n6 n7 n8:Pos) (h1:mN "__init__"=some (.ref f)) (h2:h.get? f=some o) (h3:o.cls=.type "function") (h4:o.data=.func fd)
   (h5:fd.body=.stmts [.Assign [.Attribute (.Name p0 n1) j6 n2] (.Name p1 n3) n4,.Assign [.Attribute (.Name p0 n5) dG n6] (.Name p2 n7) n8]) (h6:fd.closure=[]) (h7:h.CodeRec fd.code fd.qualname) (h8:fd.scope.kind=.function/\fd.scope.isCoroutine=false/\fd.scope.isGenerator=false)
   (h9:∀a b c:Value,bindArgs fd ⟨[a,b,c],[]⟩=pure [(p0,a),(p1,b),(p2,c)]) (h10:∀p∈[p0,p1,p2],fd.scope.names.lookup p=some .local/\co p=true) (h11:p1≠p0/\p2≠p0/\p2≠p1):InitX h mN
variable {mN:Str->Option Value}
theorem InitX.keeps(X:InitX h mN)(hk:∀b o,h.get? b=some o->h'.get? b=some o):InitX h' mN:=by
 cases X with
 |mk f o fd p0 p1 p2 n1 n2 n3 n4 n5 n6 n7 n8 h1 h2 h3 h4 h5 h6 h7 h8 h9 h10 h11=>exact⟨f,o,fd,p0,p1,p2,n1,n2,n3,n4,n5,n6,n7,n8,h1,hk _ _ h2,h3,h4,h5,h6,h7.keeps hk,h8,h9,h10,h11⟩
section
variable (P:Nat->Option Fn)(gn:Nat->Str)
mutual
def mE(ks:KS)(sc:SC):E->Expr->Bool
 |.none=>λex=>ob (AN ex) λ_=>true
 |.bool b=>λex=>ob (Ja ex) λc=>b==c
 |.int i=>λex=>ob (Nk ex) λj=>decide (i=j)
 |.str x=>λex=>ob (Nh ex) λy=>decide (x=y)&&AK x
 |.var i=>λex=>ob (fc ex) λx=>decide (sc.lookup x=some i)&&co x
 |.glob g=>λex=>ob (fc ex) λx=>decide (x=gn g)&&rF ks x
 |.bin op _ a b=>λex=>ob (K7 ex) λq=>decide (MA op=q.2.1)&&mE ks sc a q.1&&mE ks sc b q.2.2
 |.neg a=>λex=>ob (Nj ex) λx=>mE ks sc a x
 |.not a=>λex=>ob (Ni ex) λx=>mE ks sc a x
 |.bop k es=>λex=>ob (K5 ex) λq=>decide (q.1=if k then .And else .Or)&&rn ks sc es q.2
 |.cmp op a b=>λex=>ob (HJ ex) λq=>ob (one q.2.1) λo=>ob (one q.2.2) λr=>decide (bW op=o)&&!behindInMarks o r&&mE ks sc a q.1&&mE ks sc b r
 |.cmp2 bD fW a b c=>λex=>ob (HJ ex) λq=>ob (two q.2.1) λo=>ob (two q.2.2) λr=>decide (bW bD=o.1)&&decide (bW fW=o.2)&&!behindInMarks o.2 r.2&&mE ks sc a q.1&&mE ks sc b r.1&&mE ks sc c r.2
 |.ite c a b=>λex=>ob (Oi ex) λq=>mE ks sc c q.1&&mE ks sc a q.2.1&&mE ks sc b q.2.2
 |.tup es=>λex=>ob (B8 ex) λxs=>rn ks sc es xs&&decide (xs.length<=1000)
 |.list _ es=>λex=>ob (EQ ex) λxs=>rn ks sc es xs&&decide (xs.length<=1000)
 |.dict0=>λex=>ob (ES ex) λq=>q.1.isEmpty&&q.2.isEmpty
 |.idx a i=>λex=>ob (B9 ex) λq=>wM q.2&&mE ks sc a q.1&&mE ks sc i q.2
 |.slc _ a lo hi=>λex=>ob (B9 ex) λq=>ob (HD q.2) λp=>p.2.2.isNone&&mE ks sc a q.1&&AB ks sc lo p.1&&AB ks sc hi p.2.1
 |.comp _ t it c e=>λex=>ob (EU ex) λq=>ob (one q.2.1) λg=>decide (g.is_async=0)&&(yU t||!yX it)&&M0 ks sc it g.iter&&qU g.iter&&Fw ks sc q.2.2 t g.target&&o6 (dE sc q.2.2.names t g.target) t g.target&&
       decide (g.ifs.length<=1)&&AB q.2.2.names (dE sc q.2.2.names t g.target) c g.ifs.head?&&mE q.2.2.names (dE sc q.2.2.names t g.target) e q.1&&(P 0).isSome
 |.call f es=>λex=>ob (rN ex) λq=>decide ((P f).map (·.name)=some q.1)&&rF ks q.1&&rn ks sc es q.2
 |.bi b _ es=>λex=>ob (rN ex) λq=>decide (q.1=sv b)&&rF ks q.1&&(P 0).isSome&&(match O4 b with
     |some t=>ob (two q.2) λr=>ob (fc r.2) λz=>decide (z=mX t)&&rF ks z&&rn ks sc es [r.1]
     |none=>if O5 b then ob (one q.2) λr=>ob (rN r) λz=>decide (z.1=("set":Str))&&rF ks z.1&&fJ r&&rn ks sc es z.2 else b.plain&&rn ks sc es q.2)
 |.meth b o es=>λex=>ob (I9 ex) λq=>decide (q.2.1=rh b)&&b.done&&Au q.1&&decide (q.2.2.2.1.length < 30)&&decide (q.2.2.1.endLine=q.2.2.2.2.line)&&mE ks sc o q.1&&rn ks sc es q.2.2.2.1
 |.freeze e=>λex=>mE ks sc e ex
 |.isx k e=>λex=>ob (rN ex) λq=>ob (two q.2) λr=>ob (fc r.2) λz=>decide (q.1=("isinstance":Str))&&rF ks q.1&&decide (z=j7 k)&&rF ks z&&decide (k<=7)&&fJ r.1&&mE ks sc e (r.1)def rn(ks:KS)(sc:SC):EL->List Expr->Bool
 |.nil=>λxs=>xs.isEmpty
 |.cons e es=>λxs=>ob (JF xs) λq=>fJ q.1&&mE ks sc e q.1&&rn ks sc es (q.2)def AB(ks:KS)(sc:SC):EL->Option Expr->Bool
 |.nil=>λx=>x.isNone
 |.cons e _=>λx=>ob x λx=>mE ks sc e (x)def M0(ks:KS)(sc:SC):It->Expr->Bool
 |.seq e=>λex=>mE ks sc e ex
 |.range e=>λex=>ob (rN ex) λq=>ob (one q.2) λa=>decide (q.1=("range":Str))&&rF ks q.1&&fJ a&&mE ks sc e a
 |.range2 y9 lR=>λex=>ob (rN ex) λq=>ob (two q.2) λa=>decide (q.1=("range":Str))&&rF ks q.1&&fJ a.1&&mE ks sc y9 a.1&&fJ a.2&&mE ks sc lR a.2
 |.enum e=>λex=>ob (rN ex) λq=>ob (one q.2) λa=>decide (q.1=("enumerate":Str))&&rF ks q.1&&fJ a&&mE ks sc e a
end
end
variable {P:Nat->Option Fn}{gn:Nat->Str}theorem lm(h:rn P gn ks sc .nil xs=true):xs=[]:=gc (h)variable {e:E}{es:EL}theorem fY(h:rn P gn ks sc (.cons e es) xs=true):X2 λy ys=>A4 (xs=y::ys) (fJ y=true) (mE P gn ks sc e y=true) (rn P gn ks sc es ys=true):=by refine kk λUc k=>?_;replace h:=av h;obtain⟨⟨y,ys⟩,h1,h⟩:=h;have h:(fJ y&&mE P gn ks sc e y&&rn P gn ks sc es ys)=true:=h;simp only[P5]at h;refine k ?_;exact⟨y,ys,ou h1,h.1.1,h.1.2,h.2⟩
structure BiOk(Z:Cx):Prop where
 free:∀b:Bi,Z.mg (sv b)=none/\Z.mb (sv b)=some (uc b)
 ty:∀t:Ty,Z.mg (mX t)=none/\Z.mb (mX t)=some (.type (uk t))
 range:Z.mg "range"=none/\Z.mb "range"=some (.type "range")
 enum:Z.mg "enumerate"=none/\Z.mb "enumerate"=some (.type "enumerate")
 set:Z.mg "set"=none/\Z.mb "set"=some (.type "set")
inductive XAt(h:Heap)(k:Nat):Prop where
 |mk (nm q:Str) (N:Addr) (bs:List Value) (hdct:Bool) (sn:List Str) (sub:List Value) (ab:Bool) (col:Option Bool) (dd:Option Addr) (k0 k1 k2 k3 k5:Option Value) (mN:Str->Option Value) (h1:h.get? (KA k)=some (excClassObj nm q (KA k) N bs (d7 k) hdct sn sub ab col dd k0 k1 k2 k3 k5 "ValueError.__new__"))
   (h2:h.Ns N mN) (h3:∀n∈fh,mN n=none) (h4:k<=5->mN "__init__"=none) (h5:k=6->hdct=true/\InitX h mN):XAt h k
structure XOk(Z:Cx):Prop where
 own:∀k,k<=6->Z.mg (j7 k)=some (.ref (KA k))/\XAt Z.h₀ k
 inj:∀i j,i<=6->j<=6->KA i=KA j->i=j
 ve:Z.mg "ValueError"=none/\Z.mb "ValueError"=some (.type "ValueError")def NU(Z:Cx)(cf:CF)(d f:Nat)(fn:Fn)(q:Bool):Prop:=X3 λa o fd=>A4 (Z.mg fn.name=some (.ref a)) (Z.h₀.get? a=some o) (o.data=.func fd) (∀A Y U s vs xs,lT { Z with q:=q } d A->gk Z Y s.heap->Inv Z Y U s.heap->eY Y U s.heap vs xs->LO Z A (call (.ref a) vs) (cf f xs U) Y U s)
structure Wd(Z:Cx)(P:Nat->Option Fn)(gn:Nat->Str)(G:GD)(cf:CF)(d:Nat):Prop where
 w:World0 Z
 y:CQ Z
 b:BiOk Z
 g:∀k x,G k=some x->∃v,Z.mg (gn k)=some v/\∀T h,Rel T h v x
 c:∀f fn,P f=some fn->NU Z cf d f fn Z.q
 q:(P 0).isSome=true->Z.q=false
 x:XOk Z
 /-- what may be called while an exception is handled -/
 k:∀f fn,P f=some fn->fn.name=("_law_kind":Str)->NU Z cf d f fn true
abbrev TR:Bool->Bool->List Addr->ac->Heap->Prop:=λa b _ _ _=>a=b
def mU(r:Res V):Res Bool:=r.bind λv U=>bv (truthy U v) (U)variable {a:E}{vs:List Value}{d:Nat}{r:Res V}{t:Sem Value}{Q:VP}{u:Value}{R:Value->V->List Addr->ac->Heap->Prop}{c:γ}
section
def ir(Z:Cx)(A:Around)(env:Env)(ex:Expr)(r:Res V)(Y:List Addr)(U:ac)(s:Shared):Prop:=
 Ev Z cz A (eval ex env) r VR Y U s/\Ev Z cz A (isTrue ex env (eval ex env)) (mU r) TR Y U s
def PE(Z:Cx)(P:Nat->Option Fn)(gn:Nat->Str)(G:GD)(cf:CF)(d:Nat)(e:E):Prop:=
 ∀ks sc ex env K A Y U s,mE P gn ks sc e ex=true->lT Z d A->FrameOk Z env ks sc K Y U s.heap->Inv Z Y U s.heap->ir Z A env ex (af G cf e K U) Y U s
def CR(Z:Cx)(P:Nat->Option Fn)(gn:Nat->Str)(G:GD)(cf:CF)(d:Nat)(es:EL):Prop:=
 (∀ks sc xs env K A Y U s,rn P gn ks sc es xs=true->lT Z d A->FrameOk Z env ks sc K Y U s.heap->Inv Z Y U s.heap->Ev Z cz A (spliced (starEach xs env)) (aU G cf es K U) OD Y U s)/\
 (∀k pos ks sc xs env K A Y U s,rn P gn ks sc es xs=true->lT Z d A->FrameOk Z env ks sc K Y U s.heap->Inv Z Y U s.heap->
   Ev Z cz A (boolOp pos (if k then .And else .Or) (evalEach xs env)) (iE G cf k es K U) VR Y U s/\Ev Z cz A (allTrue (if k then .And else .Or) xs env) (mU (iE G cf k es K U)) TR Y U s)
def Iw(Z:Cx)(P:Nat->Option Fn)(gn:Nat->Str)(G:GD)(cf:CF)(d:Nat)(e:EL):Prop:=
 (∀ks sc ex env K A Y U s,AB P gn ks sc e ex=true->lT Z d A->FrameOk Z env ks sc K Y U s.heap->Inv Z Y U s.heap->Ev Z cz A (valueOrNone (evalOpt ex env)) (dD G cf e K U) LX Y U s)/\
 (∀ks sc ex env K A Y U s,AB P gn ks sc e (some ex)=true->lT Z d A->FrameOk Z env ks sc K Y U s.heap->Inv Z Y U s.heap->∃e' r,e=.cons e' r/\ir Z A env ex (af G cf e' K U) Y U s)
def LJ(Z:Cx)(P:Nat->Option Fn)(gn:Nat->Str)(G:GD)(cf:CF)(d:Nat)(it:It):Prop:=
 ∀ks sc ex env K A Y U s I aa,M0 P gn ks sc it ex=true->lT Z d A->A.handled=none->FrameOk Z env ks sc K Y U s.heap->Inv Z Y U s.heap->cA G cf it K U=.ok I aa->
   WP Z A (eval ex env) (λx ai=>WP Z A (pyIter x) (λitv aq=>ItPost Z A (yX it) I Y U s aa itv aq) (λ_ _=>False) ai) (λ_ _=>False) s
variable {ex:Expr}theorem Step.toks{tk:Nat}(S:Step O Y U s β' σ' s'):Step O Y U s β' σ' { s' with toks:=tk }:=⟨S.ext,S.mono,S.keepW,S.alive,S.gens,S.os⟩
theorem yj(h:mU r=.ok b σ'):∃v,r=.ok v σ'/\truthy σ' v=some b:=by
 cases r with
 |bad=>injection h
 |ok v aa=>
   have h:bv (truthy aa v) aa=.ok b σ':=h;cases ht:truthy aa v with
   |none=>rw[ht]at h;injection h
   |some b'=>rw[ht]at h;injection h with e f;subst e;subst f;exact⟨v,rfl,ht⟩theorem je(a:Res γ)(f:γ->ac->Res V):mU (a.bind f)=a.bind λx U=>mU (f x U):=by cases a<;>rfl
theorem wd(o:Option Bool)(U:ac):mU (bv (o.map λb=>V.d (.bool b)) U)=(bv o U).bind λb U=>.ok b U:=by cases o<;>rfl
theorem Gs(t:Bool)(a b:Res V):mU (if t then a else b)=if t then mU a else mU b:=by cases t<;>rfl
theorem t0(op:COp)(a b:E)(K:Fm)(U:ac):af G cf (.cmp op a b) K U=(af G cf a K U).bind λx aa=>(af G cf b K aa).bind λy ae=>bv ((bC op x y ae).map λb=>V.d (.bool b)) ae:=(rfl)theorem rV(bD fW:COp)(a b c:E)(K:Fm)(U:ac):af G cf (.cmp2 bD fW a b c) K U=(af G cf a K U).bind λx aa=>(af G cf b K aa).bind λy ae=>(bv (bC bD x y ae) ae).bind λt ae=>if t then (af G cf c K ae).bind λz aF=>bv ((bC fW y z aF).map λb=>V.d (.bool b)) aF else .ok (.d (.bool false)) ae:=(rfl)theorem C9(h:Ev Z O A t r VR Y U s):∀b σ',mU r=.ok b σ'->WP Z A t (λv ai=>WP Z A (PySem.truthy v) (λa s'=>Po Z O Y U s σ' s' λβ'=>a=b) (λ_ _=>False) ai) (λ_ _=>False) s:=by intro b σ' e;refine kk λUc kz=>?_;obtain⟨v,rfl,hb⟩:=yj e;refine kz ?_;refine PQ (h v σ' rfl) (λw ai ⟨ag,S,I,q⟩=>?_) λ_ _ x=>x;exact jz I q hb λtk=>⟨ag,S.toks,I,rfl⟩theorem ir.plain(hp:isTrue ex env (eval ex env)=(do let v <- eval ex env;standAt ex.pos;holding [v] (PySem.truthy v)))(h:Ev Z cz A (eval ex env) r VR Y U s):ir Z A env ex r Y U s:=by refine⟨h,λb σ' e=>?_⟩;exact hp▸(OL (PQ (C9 h b σ' e) (λv ai bj=>OL (QA (QT bj))) λ_ _ x=>x))
theorem jm{f:B->γ}(h:bv (o.map f) U=.ok c σ'):∃a,A3 (o=some a) (c=f a) (σ'=U):=by
 cases o with
 |none=>injection h
 |some a=>injection h with e f;subst e;subst f;exact⟨a,rfl,rfl,rfl⟩theorem uW{f:B->γ}{P:γ->ac->Prop}(h:bv (o.map f) U=.ok c σ')(k:∀a,o=some a->P (f a) U):P c σ':=by obtain⟨a,e,e1,e2⟩:=jm h;exact e1▸e2▸k a e
theorem AD{c:B}(h:bv o U=.ok c σ'):o=some c/\σ'=U:=by
 cases o with
 |none=>injection h
 |some a=>injection h with e f;subst e;subst f;exact⟨rfl,rfl⟩
theorem Kc:PE Z P gn G cf d .none:=λks sc ex env K A Y U s hm hA F I=>by
 replace hm:=av hm;obtain⟨_,h0,hm⟩:=hm;apply zb (xj h0);intro _ _
 . exact ir.plain rfl (Ev.grown I (wpAny_Constant_none ⟨λ_ _ e=>e,rfl,rfl,.none⟩))
theorem Kn(b:Bool):PE Z P gn G cf d (.bool b):=λks sc ex env K A Y U s hm hA F I=>by
 replace hm:=av hm;obtain⟨c,h0,hm⟩:=hm;apply zb (EV h0);intro _ _
 . have:=eq_of_beq hm;subst this;exact ir.plain rfl (Ev.grown I (wpAny_Constant_bool ⟨λ_ _ e=>e,rfl,rfl,.bool _⟩))
theorem MM(i:Int):PE Z P gn G cf d (.int i):=λks sc ex env K A Y U s hm hA F I=>by
 replace hm:=av hm;obtain⟨c,h0,hm⟩:=hm;obtain⟨_,_,rfl⟩:=HG h0
 . have:=of_decide_eq_true hm;subst this;exact ir.plain rfl (Ev.grown I (wpAny_Constant_int ⟨λ_ _ e=>e,rfl,rfl,.int _ _⟩))theorem xg(h:AK x=true):cY x:=by simp only[AK,P5,decide_eq_true_eq]at h;exact h
theorem ME(x:Str):PE Z P gn G cf d (.str x):=λks sc ex env K A Y U s hm hA F I=>by
 replace hm:=av hm;obtain⟨c,h0,hm⟩:=hm;obtain⟨_,_,rfl⟩:=HB h0
 . simp only[P5,decide_eq_true_eq]at hm;obtain⟨rfl,hg⟩:=hm;exact ir.plain rfl (Ev.grown I (wpAny_Constant_str ⟨λ_ _ e=>e,rfl,rfl,.str _ _ (xg hg)⟩))theorem cV (h:co x=true):(x==("__debug__":Str))=false/\(x==("__classdict__":Str))=false:=by simpa only[co,P5,QD] using h
theorem MC(i:Nat):PE Z P gn G cf d (.var i):=λks sc ex env K A Y U s hm hA F I=>by
 replace hm:=av hm;obtain⟨x,h0,hm⟩:=hm;apply gj (bO h0);intro pos
 . skip
   simp only[P5,decide_eq_true_eq]at hm;refine ir.plain rfl λc σ' e=>?_;rw[Fj]at e;obtain⟨hv,hu,rfl⟩:=Hi e;exact wpAny_Name (F.load hm.1 hv (λq=>hu q) λw hw=>⟨Y,Step.refl,I,hw⟩) (cV hm.2).1
theorem Ex (F:FrameOk Z env ks sc K Y U h) (hg:rF ks x=true):env.kindOf x=some .globalImplicit/\(x==("__debug__":Str))=false:=by
 simp only[rF,P5,decide_eq_true_eq]at hg;refine⟨?_,(cV hg.2).1⟩;rcases F.kinds x _ hg.1 with h|⟨h,_⟩
 . exact h
 . injection h
theorem jL{E:VP}(D:Wd Z P gn G cf d)(F:FrameOk Z env ks sc K Y U s.heap)(I:Inv Z Y U s.heap)(hg:rF ks x=true)(hv:Z.mg x=some v)(q:Q v s) :
   WP Z A (eval (.Name x pos) env) Q E s:=by
 refine(Ex F hg).elim λh1 h2=>?_;obtain⟨k1,k2,k3⟩:=D.w.keeps I;exact Name_function_global F.kind h1 (loadGlobal_global (by rw[F.globals];exact k1) hv q) h2
theorem fK{E:VP}(D:Wd Z P gn G cf d)(F:FrameOk Z env ks sc K Y U s.heap)(I:Inv Z Y U s.heap)(hg:rF ks x=true)(hn:Z.mg x=none)(hv:Z.mb x=some v)(q:Q v s) :
   WP Z A (eval (.Name x pos) env) Q E s:=by
 refine(Ex F hg).elim λh1 h2=>?_;obtain⟨k1,k2,k3⟩:=D.w.keeps I;exact Name_function_global F.kind h1 (loadGlobal_builtin (by rw[F.globals];exact k1) hn (by rw[F.builtins];exact k2) hv q) h2
theorem Kh(D:Wd Z P gn G cf d)(g:Nat):PE Z P gn G cf d (.glob g):=λks sc ex env K A Y U s hm hA F I=>by
 replace hm:=av hm;obtain⟨x,h0,hm⟩:=hm;apply gj (bO h0);intro pos
 . skip
   simp only[P5,decide_eq_true_eq]at hm;obtain⟨rfl,hg⟩:=hm;refine ir.plain rfl λc σ' e=>?_;rw[H7]at e;apply uW e;intro x hx;obtain⟨w,h1,h2⟩:=D.g g x hx;exact jL D F I hg h1 ⟨Y,Step.refl,I,h2 _ _⟩theorem Ev.operate(h:Ev Z O A t r R Y U s):Ev Z O A (operate vs t) r R Y U s:=λc σ' e=>wpAny_operating (h c σ' e)
theorem MQ{op:BOp}{m:Bool}{b:E}(ha:PE Z P gn G cf d a)(hb:PE Z P gn G cf d b):PE Z P gn G cf d (.bin op m a b):=λks sc ex env K A Y U s hm hA F I=>by
 replace hm:=av hm;obtain⟨⟨l,o,r⟩,h0,hm⟩:=hm;apply gj (HL h0);intro pos
 . skip
   simp only[P5,decide_eq_true_eq]at hm;obtain⟨⟨rfl,h1⟩,h2⟩:=hm;refine ir.plain rfl ?_;rw[arm_eval_BinOp];rw[Lq];refine Ev.bind (ha ks sc l env K A Y U s h1 hA F I).1 λv x ag aa ai aH ay rx _=>?_;refine Ev.bind (Ev.holding (hb ks sc r env K A ag aa ai h2 hA (F.step aH) ay).1) λu y a5 ae aq cC cD ry _=>?_;exact Ev.standAt (Ev.operate (zF cD (cC.vrel0 rx) ry))
theorem MJ(ha:PE Z P gn G cf d a):PE Z P gn G cf d (.neg a):=λks sc ex env K A Y U s hm hA F I=>by
 replace hm:=av hm;obtain⟨x,h0,hm⟩:=hm;apply gj (HF h0);intro pos
 . skip
   refine ir.plain rfl ?_;rw[arm_eval_UnaryOp];rw[Lo];refine Ev.bind (ha ks sc x env K A Y U s hm hA F I).1 λv x ag aa ai aH ay rx _=>?_;refine Ev.standAt (Ev.holding ?_);refine aY (λi hi=>?_) Ev.bad;rw[c6 hi]at rx;apply gj (mW rx);intro t;exact cc ay (PyProof.Rows.neg_int ⟨⟨_,_,rfl⟩,.int _ _⟩)
theorem MH(ha:PE Z P gn G cf d a):PE Z P gn G cf d (.not a):=λks sc ex env K A Y U s hm hA F I=>by
 replace hm:=av hm;obtain⟨x,h0,hm⟩:=hm;apply gj (HE h0);intro pos
 . skip
   have hx:=ha ks sc x env K A Y U s hm hA F I;constructor
   . rw[arm_eval_UnaryOp];rw[Fk];refine Ev.bind hx.1 λv x ag aa ai aH ay rx _=>?_;refine Ev.standAt (Ev.holding λc σ' e=>?_);apply uW e;intro b hb;exact not_value (jz ay rx hb λtk=>⟨ag,Step.refl.toks,ay,.bool _⟩)
   . intro c σ' e;refine wpAny_isTrue_Not ?_;rw[Fk]at e;replace e:=yj e;obtain⟨v,e,hc⟩:=e;cases h:af G cf a K U with
     |bad=>rw[h]at e;injection e
     |ok w aa=>rw[h]at e;obtain⟨b,hb,rfl,rfl⟩:=jm e;injection hc with e;subst e;refine PQ (hx.2 b σ' (by rw[h];exact congrArg (λo=>bv o σ') hb)) (λa s' ⟨β',S,I',q⟩=>⟨β',S,I',by exact congrArg _ q⟩) λ_ _ x=>x
theorem MK{c b:E}(hc:PE Z P gn G cf d c)(ha:PE Z P gn G cf d a)(hb:PE Z P gn G cf d b):PE Z P gn G cf d (.ite c a b):=λks sc ex env K A Y U s hm hA F I=>by
 replace hm:=av hm;obtain⟨⟨t,x,y⟩,h0,hm⟩:=hm;apply gj (K1 h0);intro pos
 . skip
   simp only[P5]at hm;obtain⟨⟨h1,h2⟩,h3⟩:=hm;have ht:=(hc ks sc t env K A Y U s h1 hA F I).2;have ev:af G cf (.ite c a b) K U=(mU (af G cf c K U)).bind λt aa=>if t then af G cf a K aa else af G cf b K aa:=by have ev0:af G cf (.ite c a b) K U=(af G cf c K U).bind (λx aa=>(bv (truthy aa x) aa).bind λt aa=>if t then af G cf a K aa else af G cf b K aa):=rfl;rw[ev0];unfold mU;cases af G cf c K U<;>rfl
   constructor
   . rw[ev,arm_eval_IfExp];refine Ev.bind ht λv w ag aa ai aH ay rx _=>?_;subst rx;cases v with
     |true=>exact(ha ks sc x env K A ag aa ai h2 hA (F.step aH) ay).1
     |false=>exact(hb ks sc y env K A ag aa ai h3 hA (F.step aH) ay).1
   . have ev':mU (af G cf (.ite c a b) K U)=(mU (af G cf c K U)).bind λt aa=>if t then mU (af G cf a K aa) else mU (af G cf b K aa):=by
       rw[ev];cases mU (af G cf c K U) with
       |bad=>rfl
       |ok t aa=>cases t<;>rfl
     rw[ev',arm_isTrue_IfExp];refine Ev.bind ht λv w ag aa ai aH ay rx _=>?_;subst rx;cases v with
     |true=>exact(ha ks sc x env K A ag aa ai h2 hA (F.step aH) ay).2
     |false=>exact(hb ks sc y env K A ag aa ai h3 hA (F.step aH) ay).2
theorem r0(D:Wd Z P gn G cf d){x:V}(hA:lT Z d A)(I:Inv Z Y U s.heap)(rx:aE Y U s.heap v x)(ry:aE Y U s.heap u y) :
   Ev Z O A (compareOp (bW op) v u) (bv (bC op x y U) U) (λw b _ _ _=>w=.bool b) Y U s:=λc σ' e=>by
 obtain⟨hb,rfl⟩:=AD e;exact zj D.y I hA.room rx ry hb λtk=>⟨Y,Step.refl.toks,I,rfl⟩theorem kc(I:Inv Z Y U s.heap):Ev Z O A (holding vs (PySem.truthy (.bool b))) (.ok b U) TR Y U s:=Ev.holding (Ev.done (wpAny_truthy_bool ⟨Y,Step.refl,I,rfl⟩))
theorem MO(D:Wd Z P gn G cf d){b:E}(ha:PE Z P gn G cf d a)(hb:PE Z P gn G cf d b):PE Z P gn G cf d (.cmp op a b):=λks sc ex env K A Y U s hm hA F I=>by
 replace hm:=av hm;obtain⟨⟨l,os,rs⟩,h0,hm⟩:=hm;apply gj (vi h0);intro pos;replace hm:=av hm;obtain⟨o,k1,hm⟩:=hm;replace hm:=av hm;obtain⟨r,k2,hm⟩:=hm;apply iY (dC k1:os=[o]);apply iY (dC k2:rs=[r])
 . obtain⟨ho,hk,h1,h2⟩:=sC hm;replace hk:=wL hk;replace ho:=of_decide_eq_true ho;rw[<- ho]at hk;apply iY ho.symm;clear hm ho k1 k2 h0;have pre:∀{B γ:Type} {k:Value->Value->Sem B} {q:V->V->ac->Res γ} {R:B->γ->List Addr->ac->Heap->Prop},(∀v u x y Y U s,Inv Z Y U s.heap->aE Y U s.heap v x->aE Y U s.heap u y->Ev Z cz A (k v u) (q x y U) R Y U s)->
       Ev Z cz A (eval l env >>= λv=>holding [v] (eval r env) >>= λu=>standAt pos >>= λ_=>k v u) ((af G cf a K U).bind λx aa=>(af G cf b K aa).bind λy ae=>q x y ae) R Y U s:=λhk=>by
     refine Ev.bind (ha ks sc l env K A Y U s h1 hA F I).1 λv x ag aa ai aH ay rx _=>?_;refine Ev.bind (Ev.holding (hb ks sc r env K A ag aa ai h2 hA (F.step aH) ay).1) λu y a5 ae aq cC cD ry _=>?_;exact Ev.standAt (hk v u x y a5 ae aq cD (cC.vrel0 rx) ry)
   constructor
   . have e1:eval (.Compare l [bW op] [r] pos) env=(eval l env >>= λv=>holding [v] (eval r env) >>= λu=>standAt pos >>= λ_=>operate [v,u] (compareOp (bW op) v u)):=by rw[eval_Compare1,markedBehindIn_of_false hk]
     rw[e1];rw[t0];refine pre λv u x y Y U s I rx ry=>Ev.operate λc σ' e=>?_;obtain⟨b,hb,rfl,rfl⟩:=jm e;exact PQ (r0 D hA I rx ry b σ' (by rw[hb];rfl)) (λw s' ⟨β',S,I',q⟩=>⟨β',S,I',by rw[q];exact .bool _⟩) λ_ _ x=>x
   . have e1:isTrue (.Compare l [bW op] [r] pos) env (eval (.Compare l [bW op] [r] pos) env)=(eval l env >>= λv=>holding [v] (eval r env) >>= λu=>standAt pos >>= λ_=>operate [v,u] (compareOp (bW op) v u) >>= λc=>holding [c] (PySem.truthy c)):=by rw[arm_isTrue_Compare];show (do testChain pos (<- eval l env) [bW op] [markedBehindIn (bW op) r (eval r env)])=_;rw[markedBehindIn_of_false hk];rfl
     have e2:mU (af G cf (.cmp op a b) K U)=(af G cf a K U).bind λx aa=>(af G cf b K aa).bind λy ae=>(bv (bC op x y ae) ae).bind λb ae=>.ok b ae:=by rw[t0,je];refine congrArg _ (funext λx=>funext λaa=>?_);rw[je];refine congrArg _ (funext λy=>funext λae=>?_);exact wd _ _
     rw[e1,e2];refine pre λv u x y Y U s I rx ry=>?_;refine Ev.bind (R:=λw b _ _ _=>w=.bool b) (λc σ' e=>wpAny_operating (r0 D hA I rx ry c σ' e)) λw b ag aa ai aH ay q _=>?_;subst q;exact kc ay
theorem Kl(D:Wd Z P gn G cf d){bD fW:COp}{b c:E}(ha:PE Z P gn G cf d a)(hb:PE Z P gn G cf d b)(hc:PE Z P gn G cf d c):PE Z P gn G cf d (.cmp2 bD fW a b c):=λks sc ex env K A Y U s hm hA F I=>by
 replace hm:=av hm;obtain⟨⟨l,os,rs⟩,h0,hm⟩:=hm;apply gj (vi h0);intro pos;refine kk λUc kz=>?_;replace hm:=av hm;obtain⟨⟨Mv,J2⟩,k1,hm⟩:=hm;replace hm:=av hm;obtain⟨⟨m,r⟩,k2,hm⟩:=hm;refine kz ?_;apply iY (jx k1:os=[Mv,J2]);apply iY (jx k2:rs=[m,r])
 . obtain⟨ho,ho',hk,h1,h2,h3⟩:=zJ hm;replace hk:=wL hk;replace ho:=of_decide_eq_true ho;replace ho':=of_decide_eq_true ho';rw[<- (ho':bW fW=J2)]at hk;apply iY (show Mv=bW bD from ho.symm);apply iY (show J2=bW fW from ho'.symm);clear hm ho ho' k1 k2 h0;have pre:∀{B γ:Type} {k:Value->Value->Sem B} {stop:Value->Sem B} {q:V->V->ac->Res γ} {z:ac->Res γ} {R:B->γ->List Addr->ac->Heap->Prop},(∀v u x y Y U s,Inv Z Y U s.heap->aE Y U s.heap v x->aE Y U s.heap u y->Ev Z cz A (k v u) (q x y U) R Y U s)->
       (∀Y U s,Inv Z Y U s.heap->Ev Z cz A (stop (.bool false)) (z U) R Y U s)->
       Ev Z cz A (eval l env >>= λv=>holding [v] (eval m env) >>= λu=>standAt pos >>= λ_=>holding [v,u] (compareOp (bW bD) v u) >>= λc=>release [v,u] [c] >>= λ_=>holding [c,u] (PySem.truthy c) >>= λt=>if t=true then (holding [u] (eval r env) >>= λw=>standAt pos >>= λ_=>k u w) else stop c)
         ((af G cf a K U).bind λx aa=>(af G cf b K aa).bind λy ae=>(bv (bC bD x y ae) ae).bind λt ae=>if t then (af G cf c K ae).bind λw aF=>q y w aF else z ae) R Y U s:=λhk hs=>by
     refine Ev.bind (ha ks sc l env K A Y U s h1 hA F I).1 λv x ag aa ai aH ay rx _=>?_;refine Ev.bind (Ev.holding (hb ks sc m env K A ag aa ai h2 hA (F.step aH) ay).1) λu y a5 ae aq cC cD ry _=>?_;refine Ev.standAt (Ev.bind (Ev.holding (r0 D hA cD (cC.vrel0 rx) ry)) λw t vS aF aW vH CL q _=>?_);subst q;refine λc' σ' e=>OL (wpAny_release (OL (QT (wpAny_truthy_bool ?_))));cases t with
     |false=>exact hs vS aF aW CL c' σ' (by rw[if_neg (by simp)]at e;exact e)
     |true=>rw[if_pos rfl]at e;rw[if_pos rfl];refine(Ev.bind (Ev.holding (hc ks sc r env K A vS aF aW h3 hA ((F.step aH).step (cC.trans vH)) CL).1) λw z mV LY gm CJ F3 rz _=>?_) c' σ' e;exact Ev.standAt (hk u w y z mV LY gm F3 ((vH.trans CJ).vrel0 ry) rz)
   constructor
   . have e1:eval (.Compare l [bW bD,bW fW] [m,r] pos) env=(eval l env >>= λv=>holding [v] (eval m env) >>= λu=>standAt pos >>= λ_=>holding [v,u] (compareOp (bW bD) v u) >>= λc=>release [v,u] [c] >>= λ_=>holding [c,u] (PySem.truthy c) >>= λt=>if t=true then (holding [u] (eval r env) >>= λw=>standAt pos >>= λ_=>operate [u,w] (compareOp (bW fW) u w)) else pure c):=by rw[arm_eval_Compare];show (do compareChain pos (<- eval l env) [bW bD,bW fW] [eval m env,markedBehindIn (bW fW) r (eval r env)])=_;rw[markedBehindIn_of_false hk];rfl
     rw[e1];rw[rV];refine pre (λv u x y Y U s I rx ry=>Ev.operate λc σ' e=>?_) λY U s I=>Ev.pure I (.bool _);obtain⟨b,hb,rfl,rfl⟩:=jm e;exact PQ (r0 D hA I rx ry b σ' (by rw[hb];rfl)) (λw s' ⟨β',S,I',q⟩=>⟨β',S,I',by rw[q];exact .bool _⟩) λ_ _ x=>x
   . have e1:isTrue (.Compare l [bW bD,bW fW] [m,r] pos) env (eval (.Compare l [bW bD,bW fW] [m,r] pos) env)=(eval l env >>= λv=>holding [v] (eval m env) >>= λu=>standAt pos >>= λ_=>holding [v,u] (compareOp (bW bD) v u) >>= λc=>release [v,u] [c] >>= λ_=>holding [c,u] (PySem.truthy c) >>= λt=>if t=true then (holding [u] (eval r env) >>= λw=>standAt pos >>= λ_=>operate [u,w] (compareOp (bW fW) u w) >>= λc=>holding [c] (PySem.truthy c)) else pure false):=by rw[arm_isTrue_Compare];show (do testChain pos (<- eval l env) [bW bD,bW fW] [eval m env,markedBehindIn (bW fW) r (eval r env)])=_;rw[markedBehindIn_of_false hk];rfl
     have e2:mU (af G cf (.cmp2 bD fW a b c) K U)=(af G cf a K U).bind λx aa=>(af G cf b K aa).bind λy ae=>(bv (bC bD x y ae) ae).bind λt ae=>if t then (af G cf c K ae).bind λw aF=>(bv (bC fW y w aF) aF).bind λb aF=>.ok b aF else .ok false ae:=by
       rw[rV,je];refine congrArg _ (funext λx=>funext λaa=>?_);rw[je];refine congrArg _ (funext λy=>funext λae=>?_);rw[je];refine congrArg _ (funext λt=>funext λaF=>?_);rw[Gs];cases t with
       |false=>rfl
       |true=>rw[if_pos rfl,if_pos rfl,je];refine congrArg _ (funext λw=>funext λOL=>?_);exact wd _ _
     rw[e1,e2];refine pre (λv u x y Y U s I rx ry=>?_) λY U s I=>Ev.pure I rfl;refine Ev.bind (R:=λw b _ _ _=>w=.bool b) (λc σ' e=>wpAny_operating (r0 D hA I rx ry c σ' e)) λw b ag aa ai aH ay q _=>?_;subst q;exact kc ay
end
variable {l:List PyData}{vs:List V}{ws:List Value}{r1:Res Bool}{k:ac->Res (List V)}{r2:ac->Res Bool}
section
variable {ex:Expr}
theorem Res.bind_ok{r:Res B}{f:B->ac->Res γ}(h:r.bind f=.ok c σ'):X2 λa aa=>r=.ok a aa/\f a aa=.ok c σ':=by
 cases r with
 |bad=>injection h
 |ok a aa=>exact⟨a,aa,rfl,h⟩theorem bc{x:Expr}(xs:List Expr)(h:fJ x=true):starEach (x::xs) env=(false,eval x env)::starEach xs env:=by cases x<;>first|rfl|injection h
theorem Ev.consVR{x:Sem Value}{rest:List (Bool×Sem Value)}(h:Ev Z cz A x r VR Y U s)
   (hk:∀v c β' σ' s',Step cz Y U s β' σ' s'->Inv Z β' σ' s'.heap->aE β' σ' s'.heap v c->Ev Z cz A (spliced rest) (k σ') OD β' σ' s') :
   Ev Z cz A (spliced ((false,x)::rest)) (r.bind λv aa=>(k aa).bind λvs ae=>.ok (v::vs) ae) OD Y U s:=λc σ' e=>by
 cases r with
 |bad=>injection e
 |ok v aa=>
   refine spliced_cons (PQ (h v aa rfl) (λa ai ⟨ag,aH,ay,BJ⟩=>?_) λ_ _ x=>x);have e:((k aa).bind λvs ae=>Res.ok (v::vs) ae)=.ok c σ':=e;cases hr:k aa with
   |bad=>rw[hr]at e;cases (e)
   |ok vs ae=>rw[hr]at e;cases (e);refine PQ (hk a v ag aa ai aH ay BJ vs σ' hr) (λas aq ⟨a5,cC,cD,yz⟩=>?_) λ_ _ x=>x;exact⟨a5,aH.trans cC,cD,.cons (cC.vrel0 BJ) yz⟩
theorem eV{pos:Pos}:∀{es:EL} {xs:List Expr},rn P gn ks sc es xs=true->backTo pos (starEach xs env)=starEach xs env/\(starEach xs env).any (·.1)=false
 |.nil,xs,h=>by replace h:=lm h;subst h;exact⟨rfl,rfl⟩
 |.cons e es,xs,h=>by
   replace h:=fY h;obtain⟨x,xs,rfl,h1,h2,h3⟩:=h;have ih:=eV (pos:=pos) h3;rw[bc _ h1];refine⟨?_,?_⟩
   . show (false,eval x env)::backTo pos (starEach xs env)=_;rw[ih.1]
   . simp only[RM,SO];exact ih.2
theorem lB:∀{es:EL} {xs:List Expr} {K:Fm} {U σ':ac} {vs:List V},rn P gn ks sc es xs=true->aU G cf es K U=.ok vs σ'->vs.length=xs.length
 |.nil,xs,K,U,σ',vs,h,e=>by replace h:=lm h;subst h;rw[Fh]at e;injection e with e f;subst e;subst f;rfl
 |.cons e es,xs,K,U,σ',vs,h,ev=>by replace h:=fY h;obtain⟨x,xs,rfl,_,_,h⟩:=h;rw[H5]at ev;replace ev:=Res.bind_ok ev;obtain⟨v,aa,h1,ev⟩:=ev;replace ev:=Res.bind_ok ev;obtain⟨ws,ae,h2,ev⟩:=ev;injection ev with e f;subst e;subst f;rw[PZ,PZ,lB h h2]
theorem MI:CR Z P gn G cf d .nil:=by
 constructor
 . intro ks sc xs env K A Y U s hm hA F I;replace h:=lm hm;subst h;exact Ev.pure I .nil
 . intro k pos ks sc xs env K A Y U s hm hA F I;exact⟨Ev.bad,Ev.bad⟩theorem Ce(k:Bool)(e:E)(K:Fm)(U:ac):iE G cf k (.cons e .nil) K U=af G cf e K U:=(rfl)theorem rW(k:Bool)(e e':E)(es:EL)(K:Fm)(U:ac):iE G cf k (.cons e (.cons e' es)) K U=(af G cf e K U).bind λx aa=>(bv (truthy aa x) aa).bind λt aa=>if t=k then iE G cf k (.cons e' es) K aa else .ok x aa:=rfl
theorem Da(k:Bool)(e e':E)(es:EL)(K:Fm)(U:ac):mU (iE G cf k (.cons e (.cons e' es)) K U)=(mU (af G cf e K U)).bind λt aa=>if t=k then mU (iE G cf k (.cons e' es) K aa) else .ok t aa:=by
 rw[rW];cases af G cf e K U with
 |bad=>rfl
 |ok x aa=>
   refine(?_:mU ((bv (truthy aa x) aa).bind λt aa=>if t=k then iE G cf k (.cons e' es) K aa else .ok x aa)=(bv (truthy aa x) aa).bind λt aa=>if t=k then mU (iE G cf k (.cons e' es) K aa) else .ok t aa);cases h:truthy aa x with
   |none=>rfl
   |some t=>
     show mU (if t=k then iE G cf k (.cons e' es) K aa else .ok x aa)=if t=k then mU (iE G cf k (.cons e' es) K aa) else .ok t aa
     by_cases hk:t=k
     . rw[if_pos hk,if_pos hk]
     . rw[if_neg hk,if_neg hk];exact congrArg (λo=>bv o aa) h
theorem Cv{t1 t2:Sem Value}{r1:Res V}{r2:ac->Res V}(k:Bool)(h1:Ev Z cz A t1 r1 VR Y U s)(h2:∀ag aa ai,Step cz Y U s ag aa ai->Inv Z ag aa ai.heap->Ev Z cz A t2 (r2 aa) VR ag aa ai) :
   Ev Z cz A (do
     let v <- t1
     standAt pos
     let t <- holding [v] (PySem.truthy v)
     match (if k then BoolOp.And else BoolOp.Or),t with
     |.And,false | .Or,true=>pure v
     |_,_=>t2) (r1.bind λx aa=>(bv (truthy aa x) aa).bind λt aa=>if t=k then r2 aa else .ok x aa) VR Y U s:=by
 refine Ev.bind h1 λv c ag aa ai aH ay rv _=>?_;refine Ev.standAt λc' σ' e=>?_;cases ht:truthy aa c with
 |none=>rw[ht]at e;injection e
 |some t=>
   rw[ht]at e;replace e:(if t=k then r2 aa else .ok c aa)=.ok c' σ':=e;refine OL (QT (jz ay rv ht λtk=>?_));clear ht;by_cases hk:t=k
   . rw[if_pos hk]at e;have T:=PQ (h2 ag aa { ai with toks:=tk } (aH.toks (tk:=tk)) ay c' σ' e) (λa s' ⟨β',S,I',q⟩=>(⟨β',⟨S.ext,S.mono,S.keepW,S.alive,S.gens,S.os⟩,I',q⟩:Po Z cz ag aa ai σ' s' λβ'=>VR a c' β' σ' s'.heap)) λ_ _ x=>x;clear e h2 h1;rw[hk];cases (k)<;>exact T
   . rw[if_neg hk]at e;injection e with e f;subst e;subst f;have T:Po Z cz ag aa ai aa { ai with toks:=tk } λβ'=>VR v c β' aa ai.heap:=⟨ag,Step.refl.toks,ay,rv⟩
     clear h2 h1;cases (t)<;>cases (k)<;>first|exact absurd rfl hk|exact PJ T
theorem Cu{t1 t2:Sem Bool}(k:Bool)(h1:Ev Z cz A t1 r1 (λa b _ _ _=>a=b) Y U s)(h2:∀ag aa ai,Step cz Y U s ag aa ai->Inv Z ag aa ai.heap->Ev Z cz A t2 (r2 aa) (λa b _ _ _=>a=b) ag aa ai) :
   Ev Z cz A (do
     match (if k then BoolOp.And else BoolOp.Or),<- t1 with
     |.And,false=>pure false
     |.Or,true=>pure true
     |_,_=>t2) (r1.bind λt aa=>if t=k then r2 aa else .ok t aa) (λa b _ _ _=>a=b) Y U s:=by
 refine Ev.bind h1 λa t ag aa ai aH ay q _=>?_;subst q;have T:=h2 ag aa ai aH ay;clear h2 h1;by_cases hk:a=k
 . rw[if_pos hk,hk];cases (k)<;>exact T
 . rw[if_neg hk];cases (a)<;>cases (k)<;>first|exact absurd rfl hk|exact Ev.pure ay rfl
theorem Kj(he:PE Z P gn G cf d e)(hes:CR Z P gn G cf d es):CR Z P gn G cf d (.cons e es):=by
 constructor
 . intro ks sc xs env K A Y U s hm hA F I;replace hm:=fY hm;obtain⟨x,xs,rfl,h1,h2,h3⟩:=hm;rw[bc _ h1];exact Ev.consVR (k:=λaa=>aU G cf es K aa) (he ks sc x env K A Y U s h2 hA F I).1 λv c β' σ' s' S I' q=>hes.1 ks sc xs env K A β' σ' s' h3 hA (F.step S) I'
 . intro k pos ks sc xs env K A Y U s hm hA F I;replace hm:=fY hm;obtain⟨x,xs,rfl,hm1,hm2,hm3⟩:=hm
   . have hx:=he ks sc x env K A Y U s hm2 hA F I;cases es with
     |nil=>
       have hxs:=lm hm3;subst hxs
       . rw[Ce];refine⟨hx.1,λb σ' e=>?_⟩;rw[arm_allTrue_cons];refine OL (PQ (hx.2 b σ' e) (λa ai ⟨ag,S,ay,q⟩=>?_) λ_ _ x=>x);subst q;cases k<;>cases a<;>exact PJ ⟨ag,S,ay,rfl⟩
     |cons e' es'=>
       obtain⟨x',xs',rfl,_⟩:=fY hm3
       . have tail:=λag aa ai (S:Step cz Y U s ag aa ai) I=>hes.2 k pos ks sc (x'::xs') env K A ag aa ai hm3 hA (F.step S) I;constructor
         . rw[rW];exact Cv k hx.1 λag aa ai S I=>(tail ag aa ai S I).1
         . rw[Da,arm_allTrue_cons];exact Cu k hx.2 λag aa ai S I=>(tail ag aa ai S I).2
theorem MP{k:Bool}(hes:CR Z P gn G cf d es):PE Z P gn G cf d (.bop k es):=λks sc ex env K A Y U s hm hA F I=>by replace hm:=av hm;obtain⟨⟨op,xs⟩,h0,hm⟩:=hm;apply gj (HK h0);intro pos;simp only[P5,decide_eq_true_eq]at hm;obtain⟨rfl,hm⟩:=hm;have h:=hes.2 k pos ks sc xs env K A Y U s hm hA F I;exact⟨h.1,h.2⟩
theorem rj(e:vs.mapM bN=some l)(r:eY Y U h ws vs):RelAll (TT Y U) h ws l:=by
 induction vs generalizing l ws with
 |nil=>cases (e);cases r;exact .nil
 |cons v vs ih_=>
   rw[List.mapM_cons]at e;replace e:=PM.mp e;obtain⟨a,h1,e⟩:=e;replace e:=PM.mp e;obtain⟨as,h2,e⟩:=e;injection e with e;subst e;cases r with
   |cons r rs=>
     cases v with
     |d x=>injection h1 with e;subst e;exact .cons r (ih_ h2 rs)
     |_=>injection h1
theorem gl(r:eY Y U h ws vs):ws.length=vs.length:=by
 induction r with
 |nil=>rfl
 |cons _ _ ih=>exact congrArg (·+1) ih
set_option tactic.hygienic true in
theorem MD(hes:CR Z P gn G cf d es):PE Z P gn G cf d (.tup es):=λks sc ex env K A Y U s hm hA F I=>by
 replace hm:=av hm;obtain⟨xs,h0,hm⟩:=hm;obtain⟨k,pos,rfl⟩:=lv h0
 . skip
   simp only[P5,decide_eq_true_eq]at hm;refine ir.plain rfl ?_;rw[arm_eval_Tuple,(eV (pos:=pos) hm.1).1];refine Ev.standAt ?_;rw[(rfl:af G cf (.tup es) K U=(aU G cf es K U).bind λvs aa=>xx vs aa)];refine Ev.bind (hes.1 ks sc xs env K A Y U s hm.1 hA F I) λws vs ag aa ai aH ay rv he=>?_;have hl:=lB hm.1 he;have hw:=gl rv;have hz:ws.length<=1000:=by first | (rw[hw,hl];exact hm.2) | (exact hw▸hl▸hm.2) | omega
   unfold xx;split
   . rename_i l hl';have q:=rj hl' rv;have:=q.length;refine rX ay (by rw[<- q.length];exact iv hz (by decide)) (wpAny_newTuple ?_ (iv hz (by decide)));exact⟨_,_,0,rfl,bo _,PX _ rfl,bw _,rfl,rfl,by simpa using q⟩
   . exact Ev.bad
set_option tactic.hygienic true in
theorem Ke{m:Bool}(hes:CR Z P gn G cf d es):PE Z P gn G cf d (.list m es):=λks sc ex env K A Y U s hm hA F I=>by
 replace hm:=av hm;obtain⟨xs,h0,hm⟩:=hm;obtain⟨pos,rfl⟩:=xk h0
 . skip
   simp only[P5,decide_eq_true_eq]at hm;refine ir.plain rfl ?_;rw[arm_eval_List,(eV (pos:=pos) hm.1).1];refine Ev.standAt ?_;rw[(rfl:af G cf (.list m es) K U=(aU G cf es K U).bind λvs aa=>AT m vs aa)];refine Ev.bind (hes.1 ks sc xs env K A Y U s hm.1 hA F I) λws vs ag aa ai aH ay rv he=>?_;have hl:=lB hm.1 he;have hw:=gl rv;have hz:ws.length<=1000:=by first | (rw[hw,hl];exact hm.2) | (exact hw▸hl▸hm.2) | omega
   unfold AT;split
   . rename_i l hl';have q:=rj hl' rv;have:=q.length;refine gI ay (by rw[<- q.length];exact iv hz (by decide)) (wpAny_newList ?_ (iv hz (by decide)));exact⟨_,_,0,rfl,bo _,PX _ rfl,bw _,rfl,rfl,by simpa using q⟩
   . exact(Ev.bad)theorem G3:PE Z P gn G cf d .dict0:=λks sc ex env K A Y U s hm hA F I=>by replace hm:=av hm;obtain⟨⟨a,b⟩,h0,hm⟩:=hm;apply gj (ER h0);intro pos;simp only[P5]at hm;have h1:=gc hm.1;have h2:=gc hm.2;subst h1;subst h2;exact ir.plain rfl (xy I)
end
variable {b:Bi}{o:Expr}{ts:List (Bool×Sem Value)}{args:List Expr}{f:Nat}
section
variable {ex:Expr}theorem Gb:∀{x:Option V},Step cz Y U s β' σ' s'->LX v x Y U s.heap->LX v x β' σ' s'.heap
 |none=>@λ_ q=>q
 |some x=>@λS q=>S.vrel0 q
theorem MN{i:E}(ha:PE Z P gn G cf d a)(hi:PE Z P gn G cf d i):PE Z P gn G cf d (.idx a i):=λks sc ex env K A Y U s hm hA F I=>by
 replace hm:=av hm;obtain⟨⟨v,x⟩,h0,hm⟩:=hm;apply gj (qh h0);intro pos
 . skip
   simp only[P5]at hm;refine ir.plain rfl ?_;rw[arm_eval_Subscript];rw[(rfl:af G cf (.idx a i) K U=(af G cf a K U).bind λx aa=>(af G cf i K aa).bind λy ae=>bv (cK x y ae) ae)];refine Ev.bind (ha ks sc v env K A Y U s hm.1.2 hA F I).1 λw c ag aa ai aH ay lZ _=>?_;refine Ev.bind (Ev.holding (hi ks sc x env K A ag aa ai hm.2 hA (F.step aH) ay).1) λu y a5 ae aq cC cD ru _=>?_;intro c' σ' e;obtain⟨hz,rfl⟩:=AD e;exact ez (y0 cD (cC.vrel0 lZ) ru hz λtk w' hw=>⟨a5,Step.refl.toks,cD,hw⟩)
theorem MF{m:Bool}{lo hi:EL}(ha:PE Z P gn G cf d a)(hl:Iw Z P gn G cf d lo)(hh:Iw Z P gn G cf d hi):PE Z P gn G cf d (.slc m a lo hi):=λks sc ex env K A Y U s hm hA F I=>by
 replace hm:=av hm;obtain⟨⟨v,x⟩,h0,hm⟩:=hm;apply gj (qh h0);intro pos;replace hm:=av hm;obtain⟨⟨l,h,st⟩,h1,hm⟩:=hm;apply gj (HC h1:∃p,x=.Slice l h st p);intro p;clear h1 h0
 . obtain⟨hs,m1,m2,m3⟩:=sC hm;apply iY (QC.mp hs:st=none);clear hm hs;have hm:=And.intro (And.intro m1 m2) m3;refine ir.plain rfl ?_;rw[arm_eval_Subscript,arm_eval_Slice];rw[(rfl:af G cf (.slc m a lo hi) K U=(af G cf a K U).bind λx aa=>(dD G cf lo K aa).bind λl ae=>(dD G cf hi K ae).bind λh aF=>gq m x l h aF)];refine Ev.bind (ha ks sc v env K A Y U s hm.1.1 hA F I).1 λw c ag aa ai aH ay lZ _=>?_;have one:∀{B:Type} {f:Value->Sem B} {r:Res V} {R:B->V->List Addr->ac->Heap->Prop},Ev Z cz A (do
       let l <- valueOrNone (evalOpt l env)
       let u <- holding [l] (valueOrNone (evalOpt h env))
       let i <- newFields "slice" [l,u,.none]
       f i) r R ag aa ai->Ev Z cz A ((holding [w] (do
       let l <- valueOrNone (evalOpt l env)
       let u <- holding [l] (valueOrNone (evalOpt h env))
       let s <- holding [l,u] (valueOrNone (evalOpt none env))
       newFields "slice" [l,u,s])) >>= f) r R ag aa ai:=λhx c σ' e=>by
     intro Γ p hΓ;have:=hx c σ' e Γ p hΓ;simp only[Sem.wp_bind',Sem.wp_holding]at this ⊢;exact this
   refine one ?_;refine Ev.bind (hl.1 ks sc l env K A ag aa ai hm.1.2 hA (F.step aH) ay) λvl xl a5 ae aq cC cD rl _=>?_;refine Ev.bind (Ev.holding (hh.1 ks sc h env K A a5 ae aq hm.2 hA ((F.step aH).step cC) cD)) λvu xu vS aF aW vH CL ru _=>?_;exact yo CL (vH.vrel0 (cC.vrel0 lZ)) (Gb vH rl) ru
theorem N8:Iw Z P gn G cf d .nil:=by
 constructor
 . intro ks sc ex env K A Y U s hm hA F I;have hm:=QC.mp hm;subst hm;exact Ev.pure I rfl
 . intro ks sc ex env K A Y U s hm hA F I;exact Q5 (hm:false=true)
theorem MB{r:EL}(he:PE Z P gn G cf d e):Iw Z P gn G cf d (.cons e r):=by
 constructor
 . intro ks sc ex env K A Y U s hm hA F I;replace hm:=av hm;obtain⟨x,h0,hm⟩:=hm;subst h0
   . intro c σ' e';have ev:dD G cf (.cons e r) K U=(af G cf e K U).bind λx aa=>.ok (some x) aa:=rfl;rw[ev]at e';cases h:af G cf e K U with
     |bad=>rw[h]at e';injection e'
     |ok v aa=>replace e':=h▸e';cases (e');exact(he ks sc x env K A Y U s hm hA F I).1 v σ' h
 . intro ks sc ex env K A Y U s hm hA F I;exact⟨e,r,rfl,he ks sc ex env K A Y U s hm hA F I⟩
theorem D2(he:PE Z P gn G cf d e):PE Z P gn G cf d (.freeze e):=λks sc ex env K A Y U s hm hA F I=>by
 have hx:=he ks sc ex env K A Y U s hm hA F I;have ev:af G cf (.freeze e) K U=(af G cf e K U).bind λx aa=>K9 x aa:=rfl;have fr:∀{x:V} {v:V} {aa σ':ac},K9 x aa=.ok v σ'->X2 λn l=>A4 (x=.loc n) (aa[n]?=some (.lst l)) (v=.d (.list l)) (σ'=aa.set n .gone):=by intro x v aa σ' h;obtain⟨n,hn,h⟩:=iz h;replace h:=iz h;obtain⟨l,hl,h⟩:=h;injection h with e f;subst e;subst f;exact⟨n,l,jK hn,ky hl,rfl,rfl⟩
 constructor
 . intro c σ' e';replace e':=ev▸e';cases h:af G cf e K U with
   |bad=>rw[h]at e';injection e'
   |ok v aa=>rw[h]at e';obtain⟨n,l,rfl,hl,rfl,rfl⟩:=fr e';refine PQ (hx.1 _ _ h) (λa s' ⟨β',S,I',q⟩=>?_) λ_ _ x=>x;obtain⟨ad,hb,rfl⟩:=q;have N:=uA (O:=cz) (c:=.gone) I' hb hl rfl rfl;exact⟨β',S.trans N.1,N.2,y6 I' hb hl⟩
 . intro c σ' e';rw[ev]at e';obtain⟨w,e',hc⟩:=yj e';cases h:af G cf e K U with
   |bad=>rw[h]at e';injection e'
   |ok v aa=>
     rw[h]at e';obtain⟨n,l,rfl,hl,rfl,rfl⟩:=fr e';have ht:truthy aa (.loc n)=some c:=by show oc (jl aa n) (λl=>some (!l.isEmpty)) none=some c;exact(jk hl)▸hc
     refine PQ (hx.2 c aa (by rw[h];simp[mU,Res.bind,bv,ht])) (λa s' ⟨β',S,I',q⟩=>?_) λ_ _ x=>x;have hlt:n < β'.length:=by rw[I'.len];exact(PB.mp hl).1
     have N:=uA (O:=cz) (c:=.gone) I' (PD hlt) hl rfl rfl;exact⟨β',S.trans N.1,N.2,q⟩theorem wm{x:Sem Value}{Q:List Value->Shared->Prop}{E:VP}(h:wpAny M A (spliced [(false,x)]) Q E s):wpAny M A x (λv s'=>Q [v] s') E s:=λΓ p hΓ=>by have:=h Γ p hΓ;simpa only[spliced,Sem.wp_bind',Sem.wp_holding,Sem.wp_pure',S1,if_false,P6] using this
theorem gL{f:Value}{Q:Args->Shared->Prop}{E:VP}(hes:CR Z P gn G cf d es)(hm:rn P gn ks sc es args=true)(hA:lT Z d A)(F:FrameOk Z env ks sc K Y U s.heap)(I:Inv Z Y U s.heap)
   {vs:List V} {aa:ac} (he:aU G cf es K U=.ok vs aa) (q:∀ws β' s',Step cz Y U s β' aa s'->Inv Z β' aa s'.heap->eY β' aa s'.heap ws vs->Q ⟨ws,[]⟩ s') :
   WP Z A (evalArgs f true (starEach args env) []) Q E s:=by
 have h':=PQ (hes.1 ks sc args env K A Y U s hm hA F I vs aa he) (λws s' ⟨β',S,I',r⟩=>q ws β' s' S I' r) (E':=E) λ_ _ x=>x.elim;clear hes;cases args with
 |nil=>
   cases es with
   |nil=>rw[Fh]at he;cases (he);exact PyProof.Rows.evalArgs_nil3 (q [] Y s Step.refl I .nil)
   |cons e es=>replace hm:=fY hm;obtain⟨_,_,hx,_⟩:=hm;injection hx
 |cons x xs=>
   clear he;cases es with
   |nil=>cases (lm hm)
   |cons e es=>refine kk λUc k=>?_;replace hm:=fY hm;obtain⟨_,_,hx,hs,_⟩:=hm;injection hx with e f;subst e;subst f;refine k ?_;rw[bc _ hs]at h' ⊢;exact evalArgs_plain (h')theorem Res.bind_bind(a:Res B)(f:B->ac->Res γ)(g:γ->ac->Res ι):(a.bind f).bind g=a.bind λx U=>(f x U).bind g:=by cases a<;>rfl
theorem sg(D:Wd Z P gn G cf d)(hes:CR Z P gn G cf d es){pos:Pos}(h1:(P f).map (·.name)=some x)(h2:rF ks x=true)(h3:rn P gn ks sc es args=true)(hA:lT Z d A)(F:FrameOk Z env ks sc K Y U s.heap)(I:Inv Z Y U s.heap) :
   LO Z A (eval (.Call (.Name x p) args [] pos) env) ((aU G cf es K U).bind λvs aa=>cf f vs aa) Y U s:=λc σ' e=>by
 refine kk λUc kz=>?_;obtain⟨fn,hf,hq⟩:=Ql.mp h1;obtain⟨a,o,fd,hg,ho,hd,hcall⟩:=D.c f fn hf;obtain⟨vs,aa,he,hc⟩:=Res.bind_ok e;refine kz ?_;refine PyProof.Rows.Call_Name (eV (pos:=pos) h3).1 (jL D F I h2 (hq▸hg) ?_);refine callWith_function (o:=o) (fd:=fd) (gL hes h3 hA F I he λws β' s' S I' r=>⟨⟨I'.base a o ho,hd⟩,?_⟩);exact PQ (hcall A β' aa s' ws vs hA (F.step S).frs I' r c σ' hc) (λv s'' ⟨z,β'',S',I'',q⟩=>⟨z,β'',S.trans S',I'',q⟩) λv s'' ⟨k,ds,q,fq⟩=>⟨k,ds,q,fq.back S⟩theorem Km(D:Wd Z P gn G cf d)(hes:CR Z P gn G cf d es):PE Z P gn G cf d (.call f es):=λks sc ex env K A Y U s hm hA F I=>by replace hm:=av hm;obtain⟨⟨x,args⟩,h0,hm⟩:=hm;obtain⟨p,pos,rfl⟩:=eU h0;obtain⟨h1,h2,h3⟩:=xZ hm;have C:=(sg (p:=p) (pos:=pos) D hes (of_decide_eq_true h1) h2 h3 hA F I).ev;rw[Res.bind_bind]at C;exact ir.plain rfl (C)theorem zG(h:b.plain=true):zH b=[]:=by cases b<;>first|rfl|exact Q5 (h:false=true)
theorem xN(h:b.plain=true){prog:Program}{E:VP}(hpl:(ts.any (·.1))=false)
   (post:∀{f:Value},wpAny (model prog w) A (evalArgs f true ts []) (λa ai=>wpAny (model prog w) A (call (uc b) ([]++a.pos) a.kw) Q E ai) E s):wpAny (model prog w) A (callWith pos (uc b) [] ts []) Q E s:=by
 cases b<;>first
   |exact callWith_builtin hpl post
   |exact Rb hpl post
   |exact Q5 (h:false=true)
set_option tactic.hygienic true in
theorem N9(D:Wd Z P gn G cf d){m:Bool}(hes:CR Z P gn G cf d es):PE Z P gn G cf d (.bi b m es):=λks sc ex env K A Y U s hm hA F I=>by
 replace hm:=av hm;obtain⟨⟨x,args⟩,h0,hm⟩:=hm;apply zb (eU h0);intro p pos
 . obtain⟨hx,h2,hP,h3⟩:=sC hm;replace hx:x=sv b:=of_decide_eq_true hx;replace h2:=(show (x,args).1=_ from hx)▸h2;apply iY hx;have hh:=hA.1 (D.q hP);clear hm hP hx h0;refine ir.plain rfl λc σ' e=>?_;obtain⟨vs,aa,he,hc⟩:=Res.bind_ok (r:=aU G cf es K U) (f:=λvs aa=>xV b m vs aa) e;clear e;obtain⟨hfree,hval⟩:=D.b.free b;have fin:b≠.sortedSet->∀{ws:List Value} {β':List Addr} {s':Shared},Step cz Y U s β' aa s'->Inv Z β' aa s'.heap->eY β' aa s'.heap ws vs->
       WP Z A (call (uc b) (ws++zH b)) (λv s''=>Po Z cz Y U s σ' s'' λβ''=>VR v c β'' σ' s''.heap) (λ_ _=>False) s':=λhnb _ _ _ S I' r=>
     PQ (Cy (O:=cz) (m:=m) D.y I' hh r hnb c σ' hc) (λv s'' ⟨β'',S',I'',q⟩=>⟨β'',S.trans S',I'',q⟩) λ_ _ x=>x
   split at h3
   . rename_i t ht;refine kk λUc k=>?_;replace ht:=LE ht;subst ht;replace h3:=av h3;obtain⟨⟨y,zn⟩,h5,h3⟩:=h3;replace h3:=av h3;obtain⟨z,h6,h3⟩:=h3;refine k ?_;clear k;apply iY (jx h5:args=[y,zn]);clear h5;apply gj (bO h6:∃p,zn=.Name z p);intro pz;clear h6;replace h3:=xZ h3;obtain⟨hx,hz,h3⟩:=h3;replace hx:z=mX t:=of_decide_eq_true hx;rw[hx]at hz;apply iY hx;clear hx;cases es with
     |nil=>cases (lm h3)
     |cons e' es'=>
       refine kk λUc k=>?_;obtain⟨_,_,hx,hs,_⟩:=fY h3;injection hx with e f;subst e;subst f;refine k ?_;have trees:backTo pos (starEach [y,.Name (mX t) pz] env)=[(false,eval y env),(false,eval (.Name (mX t) pz) env)]:=by rw[bc _ hs];rfl
       refine PyProof.Rows.Call_Name trees (fK D F I h2 hfree hval ?_);refine callWith_builtin rfl (evalArgs_plain (spliced_cons ?_));have h:=hes.1 ks sc [y] env K A Y U s h3 hA F I vs aa he;rw[bc _ hs]at h;refine PQ (wm h) (λv ai ⟨ag,aH,ay,r⟩=>?_) λ_ _ x=>x;refine spliced_cons (fK D (F.step aH) ay hz (D.b.ty t).1 (D.b.ty t).2 (spliced_nil ?_));exact fin (λq=>by injection q) aH ay r
   . split at h3
     . rename_i hss;replace hss:=LF hss;subst hss;replace h3:=av h3;obtain⟨r,h5,h3⟩:=h3;apply iY (dC h5:args=[r]);replace h3:=av h3;obtain⟨⟨z,zargs⟩,h6,h3⟩:=h3;obtain⟨hx,hz,hst,h3⟩:=sC h3;obtain⟨pz,posz,h6⟩:=eU h6;replace hx:z=("set":Str):=of_decide_eq_true hx;rw[hx]at h6;rw[show (z,zargs).1=_ from hx]at hz;rw[h6]at hst;apply iY h6;clear h6 hx h5 fin;have trees:backTo pos (starEach [.Call (.Name ("set":Str) pz) zargs [] posz] env)=[(false,eval (.Call (.Name ("set":Str) pz) zargs [] posz) env)]:=by rw[bc _ hst];rfl
       refine PyProof.Rows.Call_Name trees (fK D F I h2 hfree hval ?_);refine callWith_builtin rfl (evalArgs_plain (spliced_cons ?_));refine PyProof.Rows.Call_Name (eV (pos:=posz) h3).1 (fK D F I hz D.b.set.1 D.b.set.2 ?_);refine Rb (eV (env:=env) (pos:=posz) h3).2 (gL hes h3 hA F I he λws β' s' S I' r=>?_);refine PQ (pK (O:=cz) I' hh r hc) (λt ai ht=>spliced_nil (PQ ht (λv s'' ⟨β'',S',I'',q⟩=>⟨β'',S.trans S',I'',q⟩) λ_ _ x=>x)) λ_ _ x=>x
     . simp only[P5]at h3;refine PyProof.Rows.Call_Name (eV (pos:=pos) h3.2).1 (fK D F I h2 hfree hval ?_);have hnb:b≠.sortedSet:=λq=>by replace h3:=q▸h3;cases h3.1
       have post:∀{f:Value},WP Z A (evalArgs f true (starEach args env) []) (λa ai=>WP Z A (call (uc b) ([]++a.pos) a.kw) (λv s''=>Po Z cz Y U s σ' s'' λβ''=>VR v c β'' σ' s''.heap) (λ_ _=>False) ai) (λ_ _=>False) s:=λ{f}=>gL hes h3.2 hA F I he λws β' s' S I' r=>by have:=fin hnb S I' r;rw[(zG h3.1),P6]at this;exact this
       exact xN h3.1 ((eV (env:=env) (pos:=pos) h3.2).2) (post)theorem sA(h:Au o=true)(nm:Str)(w:Sem Value):attributeBase o nm env w=w:=by cases o<;>first|rfl|injection h
set_option tactic.hygienic true in
theorem Kd(D:Wd Z P gn G cf d){b:Me}{o:E}(ho:PE Z P gn G cf d o)(hes:CR Z P gn G cf d es):PE Z P gn G cf d (.meth b o es):=λks sc ex env K A Y U s hm hA F I=>by
 refine kk λUc kz=>?_;replace hm:=av hm;obtain⟨⟨ov,nm,apos,args,pos⟩,h0,hm⟩:=hm;refine kz ?_;apply iY (EP h0);clear h0
 . refine kk λUc k=>?_;obtain⟨hn,hdn,hnc,hlen,hpos,h1,h2⟩:=NF hm;refine k ?_;clear hm k;replace hlen:args.length < 30:=of_decide_eq_true hlen;replace hpos:apos.endLine=pos.line:=of_decide_eq_true hpos;apply iY (of_decide_eq_true hn:nm=rh b);clear hn;refine ir.plain rfl λc σ' e=>?_;obtain⟨x,aa,he,e⟩:=Res.bind_ok (r:=af G cf o K U) (f:=λx aa=>if sK b aa x then (aU G cf es K aa).bind λvs ae=>Gd b x vs ae else .bad) e;split at e
   . rename_i hok;obtain⟨vs,ae,he2,hc⟩:=Res.bind_ok e;have hst:=eV (env:=env) (pos:=pos) h2;have hform:methodCallForm (args.length+0) (starEach args env) []=true:=by
       unfold methodCallForm;have h3:(starEach args env).all (λx=>!x.1)=true:=by have:=hst.2;simp only[List.any_eq_false]at this;simp only[QP,QD];intro x hx;simpa using this x hx
       rw[h3];simp;omega
     rw[arm_eval_Call,sA hnc,hst.1];refine OL (PQ ((ho ks sc ov env K A Y U s h1 hA F I).1 x aa he) (λv ai ⟨ag,aH,ay,rv⟩=>?_) λ_ _ x=>x);refine OL (QA ?_);refine(?_:wpAny _ _ (methodCall ov (rh b) apos pos env v (args.length+0) (starEach args env) []) _ _ _);unfold methodCall;refine hform▸?_;refine OL (QT ?_);show wpAny _ _ (getMethod v (rh b) _) _ _ _;refine yO hdn ay rv hok ?_;refine OL ?_;have hp:methodCallPos true ov env apos pos=pure pos:=by unfold methodCallPos;simp[hpos]
     rw[hp];refine PJ (callWith_builtin hst.2 (gL hes h2 hA (F.step aH) ay he2 λws a5 aq cC cD r=>?_));refine PQ (BW (O:=cz) D.y cD (cC.vrel0 rv) r c σ' hc) (λv s'' ⟨β'',S',I'',q⟩=>⟨β'',(aH.trans cC).trans S',I'',q⟩) λ_ _ x=>x
   . injection e
end
variable {k:Nat}
theorem XAt.elim {Q:Prop} (X:XAt h k) (f:∀nm q N bs hdct sn sub ab col dd k0 k1 k2 k3 k5 mN,h.get? (KA k)=some (excClassObj nm q (KA k) N bs (d7 k) hdct sn sub ab col dd k0 k1 k2 k3 k5 "ValueError.__new__")->h.Ns N mN->(∀n∈fh,mN n=none)->(k<=5->mN "__init__"=none)->Q):Q:=by
 cases X with
 |mk nm q N bs hdct sn sub ab col dd k0 k1 k2 k3 k5 mN h1 h2 h3 h4 h5=>exact f nm q N bs hdct sn sub ab col dd k0 k1 k2 k3 k5 mN h1 h2 h3 h4
theorem XAt.keeps(X:XAt h k)(hk:∀b o,h.get? b=some o->h'.get? b=some o):XAt h' k:=by
 cases X with
 |mk nm q N bs hdct sn sub ab col dd k0 k1 k2 k3 k5 mN h1 h2 h3 h4 h5=>exact⟨nm,q,N,bs,hdct,sn,sub,ab,col,dd,k0,k1,k2,k3,k5,mN,hk _ _ h1,h2.keeps hk,h3,h4,λz=>⟨(h5 z).1,(h5 z).2.keeps hk⟩⟩theorem wX:typeLookup (.type "ValueError") "__class__"=pure (some (.builtin "object.__class__")):=by rw[typeLookup_type,builtinLookup_eq_fast];kernel_rfl
theorem wW:typeLookup (.type "ValueError") "__getattribute__"=pure (some (.builtin "BaseException.__getattribute__")):=by rw[typeLookup_type,builtinLookup_eq_fast];kernel_rfl
theorem ph:typeLookup (.type "ValueError") "__getattr__"=pure none:=by rw[typeLookup_type,builtinLookup_eq_fast];kernel_rfl
theorem jb(h:1<=k):d7 k=.ref (KA 0)::fR:=if_neg (Sm h)
theorem kW(h:fR.contains (.type T)=true):(Value.ref (KA k)::d7 k).contains (.type T)=true:=by
 have:(d7 k).contains (.type T)=true:=by
   unfold d7;split
   . exact h
   . rw[QK,h,Sq]
 rw[QK,this,Sq]variable {g:Array GenState}{d:Drawn}{t:Nat}{y:Option Value}{os:OsState}{base:Value}
section
variable {E:VP}
theorem rt {n:Str} {Q:Option Value->Shared->Prop} (Xk:XAt h k) (X0:XAt h 0) (hk:1<=k) (hn:n∈fh) (hB:typeLookup (.type "ValueError") n=pure y) (hq:Q y ⟨h,g,d,t,os⟩) :
   wpAny M A (typeLookup (.ref (KA k)) n) Q E ⟨h,g,d,t,os⟩:=by
 have hrest:lookupAlong fR n=pure y:=by rw[typeLookup_eq,F.excBase_ValueError.mroIs]at hB;exact hB
 refine Xk.elim λnm q N bs hdct sn sub ab col dd k0 k1 k2 k3 k5 mN h1 h2 h3 _=>?_;refine X0.elim λnm' q' N' bs' hdct' sn' sub' ab' col' dd' k0' k1' k2' k3' k5' mN' h1' h2' h3' _=>?_;rw[typeLookup_eq];refine OL (wpAny_mroOf_exc h1 ?_);rw[lookupAlong_cons];refine OL (wpAny_classOwn_exc h1 h2 ?_);rw[h3 n hn];show wpAny M A (lookupAlong (d7 k) n) Q E _;rw[jb hk,lookupAlong_cons];refine OL (wpAny_classOwn_exc h1' h2' ?_);rw[h3' n hn];show wpAny M A (lookupAlong fR n) Q E _;rw[hrest];exact PJ (hq)theorem tj{Q:Bool->Shared->Prop}(Xk:XAt h k)(hq:Q ((Value.ref (KA k)::d7 k).contains base) ⟨h,g,d,t,os⟩):wpAny M A (isSubtype (.ref (KA k)) base) Q E ⟨h,g,d,t,os⟩:=by refine Xk.elim λnm q N bs hdct sn sub ab col dd k0 k1 k2 k3 k5 mN h1 h2 h3 _=>?_;exact QM h1 hq
end
variable {a:Addr}{b:Bool}{Q:Fin->Shared->Prop}{dep:Int}{o:Obj}{R:Result->Shared->Prop}{nameV:Value}
section
variable {prog:Program}{E:VP}
theorem xI(Xk:XAt h k)(hx:h.get? a=some o)(hc:o.cls=.ref (KA k))(hq:R (.ok (.ret (.ref (KA k)))) ⟨h,g,d,t,os⟩) :
   codeAny (model prog w) A (.call (.builtin "getset_descriptor.__get__") ⟨[.builtin "object.__class__",.ref a,.ref (KA k)],[]⟩) R ⟨h,g,d,t,os⟩:=by
 have hcB:(Value.ref (KA k)::d7 k).contains (.type (".".intercalate ("object.__class__".cutAt '.').dropLast))=true:=by rw[F.owner_object_class];exact kW rfl
 refine codeAny_call_builtin F.slot_gs_get.plain F.entry_gs_get (F.slot_gs_get.check _ _ _ _ _ _ _ _ F.typeOf_object_class (F.args_gs_get _ _ _) ?_)
 repeat (any_goals (first|assumption | (with_reducible refine P2 hx ?_;refine hc▸?_) | (with_reducible refine tj Xk ?_;rw[hcB]) | wp_step))
 refine⟨Code.quiet_builtin _ (by decide +kernel),codeAny_builtin F.entry_object_class ?_⟩
 repeat (any_goals (first|assumption | (with_reducible refine P2 hx ?_;refine hc▸?_) | wp_step))
theorem zs {Q:Unit->Shared->Prop} (Xk:XAt h k) (hx:h.get? a=some o) (hc:o.cls=.ref (KA k)) (hq:Q () ⟨h,g,d,t,os⟩):wpAny M A (checkBuiltinCall "BaseException.__getattribute__" ⟨[.ref a,nameV],[]⟩) Q E ⟨h,g,d,t,os⟩:=by
 have hk:builtinKind "BaseException.__getattribute__"=some .slot:=by decide +kernel
 have hsplit:splitId "BaseException.__getattribute__"=some ("BaseException","__getattribute__"):=by decide +kernel
 unfold checkBuiltinCall;refine hk▸hsplit▸?_;refine OL ?_
 . unfold isInstance
   repeat (first | (with_reducible refine P2 hx ?_;refine hc▸?_) | (with_reducible refine tj Xk ?_;rw[(kW rfl)]) | wp_step)
   exact hq
theorem sQ(Xk:XAt h k)(X0:XAt h 0)(hk:1<=k)(hx:h.get? a=some o)(hc:o.cls=.ref (KA k))(hq:Q (.done (.ret (.ref (KA k)))) ⟨h,g,d,t,os⟩) :
   wpAny (model prog w) A (Builtin.«object.__getattribute__» ⟨[.ref a,.str "__class__" tk],[]⟩) Q E ⟨h,g,d,t,os⟩:=by
 have f5:=F.typeOf_object_class;have f6:=F.slot_gs_get.lookup;have f7:=F.slot_gs_set.lookup;have hmA:("__class__":Str)∈fh:=.tail _ (.tail _ (.head _))
 repeat (any_goals (first|assumption | (with_reducible refine P2 hx ?_;refine hc▸?_) | with_reducible refine rt Xk X0 hk hmA wX ?_|wp_step))
 refine xI Xk hx hc ?_
 repeat (any_goals (first|assumption|wp_step))
theorem zm{Q:VP}(Xk:XAt h k)(X0:XAt h 0)(hk:1<=k)(hx:h.get? a=some o)(hc:o.cls=.ref (KA k))(hq:Q (.ref (KA k)) ⟨h,g,d,t,os⟩) :
   wpAny (model prog w) A (getAttrBy (.ref a) (.str "__class__" tk) false) Q E ⟨h,g,d,t,os⟩:=by
 have f3:=F.excAttr_ValueError.ga.bind (.ref a);have hx2:(Value.builtin "BaseException.__getattribute__"==Value.builtin "object.__getattribute__")=false:=by decide +kernel
 have hx1:(onTheHeap (Value.ref (KA k))&&Value.builtin "BaseException.__getattribute__"==Value.builtin "object.__getattribute__")=false:=by refine hx2▸?_;rfl
 have hm1:("__getattribute__":Str)∈fh:=.head _;have hm2:("__getattr__":Str)∈fh:=.tail _ (.head _)
 repeat (any_goals (first|assumption | (with_reducible refine P2 hx ?_;refine hc▸?_) | with_reducible refine rt Xk X0 hk hm1 wW ?_|with_reducible refine rt Xk X0 hk hm2 ph ?_|wp_step))
 refine codeAny_call_builtin F.excAttr_ValueError.ga.plain F.entry_bexc_ga (zs Xk hx hc (sQ Xk X0 hk hx hc ?_))
 repeat (any_goals (first|assumption|wp_step))
theorem vt{Q:Option Value->Shared->Prop}(Xk:XAt h k)(X0:XAt h 0)(hk:1<=k)(hx:h.get? a=some o)(hc:o.cls=.ref (KA k))(hq:Q (some (.ref (KA k))) ⟨h,g,d,t+1,os⟩) :
   wpAny (model prog w) A (getAttr? (.ref a) "__class__") Q E ⟨h,g,d,t,os⟩:=by
 unfold getAttr? getAttrBy?
 repeat (any_goals (first|assumption|with_reducible apply zm Xk X0 hk hx hc|wp_step))
theorem Ew(Xk:XAt h k)(Xj:XAt h j)(hx:h.get? a=some o)(hc:o.cls=.ref (KA k))(hb:(Value.ref (KA k)::d7 k).contains (.ref (KA j))=true)
   (hq:Q (.done (.ret (.bool true))) ⟨h,g,d,t,os⟩):wpAny (model prog w) A (Builtin.«isinstance.nested» ⟨[.ref a,.ref (KA j),.int dep tk],[]⟩) Q E ⟨h,g,d,t,os⟩:=by
 refine Xk.elim λnm q N bs hdct sn sub ab col dd k0 k1 k2 k3 k5 mN h1 _ _ _=>?_;refine Xj.elim λnm' q' N' bs' hdct' sn' sub' ab' col' dd' k0' k1' k2' k3' k5' mN' h1' _ _ _=>?_;by_cases hne:(Value.ref (KA k)==Value.ref (KA j))=true
 . repeat (any_goals (first|assumption | (with_reducible refine P2 hx ?_;exact hc) | with_reducible refine P2 h1' ?_ | (with_reducible refine QM h1 ?_;rw[hb]) | wp_step))
 . have hne:=Bool.eq_false_iff.mpr hne
   repeat (any_goals (first|assumption | (with_reducible refine P2 hx ?_;refine hc▸?_) | with_reducible refine P2 h1' ?_ | (with_reducible refine QM h1 ?_;rw[hb]) | wp_step))
theorem B2(Xk:XAt h k)(X0:XAt h 0)(Xj:XAt h j)(hk:1<=k)(hx:h.get? a=some o)(hc:o.cls=.ref (KA k))(hb:(Value.ref (KA k)::d7 k).contains (.ref (KA j))=false)
   (hq:Q (.done (.ret (.bool false))) ⟨h,g,d,t+1,os⟩):wpAny (model prog w) A (Builtin.«isinstance.nested» ⟨[.ref a,.ref (KA j),.int dep tk],[]⟩) Q E ⟨h,g,d,t,os⟩:=by
 refine Xk.elim λnm q N bs hdct sn sub ab col dd k0 k1 k2 k3 k5 mN h1 _ _ _=>?_;refine Xj.elim λnm' q' N' bs' hdct' sn' sub' ab' col' dd' k0' k1' k2' k3' k5' mN' h1' _ _ _=>?_;have hne:(Value.ref (KA k)==Value.ref (KA j))=false:=by rw[QK,Se]at hb;have:=hb.1;rw[BEq.comm];exact this
 repeat (any_goals (first|assumption | (with_reducible refine P2 hx ?_;refine hc▸?_) | with_reducible refine P2 h1' ?_|with_reducible refine P2 h1 ?_ | (with_reducible refine QM h1 ?_;rw[hb]) | with_reducible apply vt Xk X0 hk hx hc|wp_step))
theorem KJ(Xk:XAt h k)(hx:h.get? a=some o)(hc:o.cls=.ref (KA k))
   (hq:Q (.done (.ret (.bool true))) ⟨h,g,d,t,os⟩):wpAny (model prog w) A (Builtin.«isinstance.nested» ⟨[.ref a,.type "ValueError",.int dep tk],[]⟩) Q E ⟨h,g,d,t,os⟩:=by
 refine Xk.elim λnm q N bs hdct sn sub ab col dd k0 k1 k2 k3 k5 mN h1 _ _ _=>?_
 repeat (any_goals (first|assumption | (with_reducible refine P2 hx ?_;refine hc▸?_) | (with_reducible refine QM h1 ?_;rw[(kW rfl)]) | wp_step))
theorem za{Q:Bool->Shared->Prop}(Xk:XAt h k)(Xj:XAt h j)(hx:h.get? a=some o)(hc:o.cls=.ref (KA k))(hb:(Value.ref (KA k)::d7 k).contains (.ref (KA j))=b)
   (hq:Q b ⟨h,g,d,t,os⟩):wpAny M A (excMatches (.ref a) (.ref (KA j))) Q E ⟨h,g,d,t,os⟩:=by
 refine Xk.elim λnm q N bs hdct sn sub ab col dd k0 k1 k2 k3 k5 mN h1 _ _ _=>?_;refine Xj.elim λnm' q' N' bs' hdct' sn' sub' ab' col' dd' k0' k1' k2' k3' k5' mN' h1' _ _ _=>?_;have f:=tc_notTuple;cases (b)
 all_goals
   unfold excMatches
   repeat (first | (with_reducible refine P2 hx ?_;rw[hc]) | with_reducible refine P2 h1' ?_ | (with_reducible refine QM h1' ?_;first|rw[(kW rfl)] | rw[hb]) | (with_reducible refine QM h1 ?_;rw[hb]) | wp_step)
   exact hq
end
theorem IF(X:XOk Z)(hk:1<=k)(hk':k<=6)(hj:j<=6):(Value.ref (KA k)::d7 k).contains (.ref (KA j))=(j==k||j==0):=by
 rw[jb hk,QK,QK];have e:∀i,i<=6->(Value.ref (KA j)==Value.ref (KA i))=(j==i):=λi hi=>by
   by_cases q:j=i
   . subst q;rw[beq_self_eq_true,beq_self_eq_true]
   . have:KA j≠KA i:=λz=>q (X.inj j i hj hi z);rw[beq_eq_false_iff_ne.mpr q,beq_eq_false_iff_ne.mpr λz=>this (Value.ref.inj z)]
 refine(e k hk')▸?_;rw[e 0 (PU _)];cases (j==k)<;>cases (j==0)<;>rfl
section
variable {d:Nat}theorem XOk.at(X:XOk Z)(I:Inv Z Y U s.heap)(hk:k<=6):XAt s.heap k:=by exact XAt.keeps (X.own k hk).2 I.base
theorem B1(X:XOk Z)(I:Inv Z Y U s.heap)(hj:j<=7)(r:aE Y U s.heap v (.exc k ds)) :
   Ev Z O A (call (.builtin "isinstance") [v,if j=7 then .type "ValueError" else .ref (KA j)]) (.ok (.d (.bool (j==k||j==0||j==7))) U) VR Y U s:=by
 obtain⟨e,o,vs,rfl,he,⟨hc,hd,hk⟩,_⟩:=r;obtain⟨hp,g,dr,tk,os⟩:=s;have Xk:XAt hp k:=X.at (s:=⟨hp,g,dr,tk,os⟩) I hk.2;refine cc I (PyProof.Rows.call_isinstance_of ?_);by_cases h7:j=7
 . subst h7;rw[if_pos rfl];refine KJ Xk he hc ⟨⟨_,_,rfl⟩,?_⟩;have:(7==k||7==0||7==7)=true:=by simp
   rw[this];exact .bool _
 . refine(if_neg h7)▸?_;have Xj:XAt hp j:=X.at (s:=⟨hp,g,dr,tk,os⟩) I (R8 (S4 hj h7));have ct:=IF X hk.1 hk.2 (R8 (S4 hj h7));have e7:(j==7)=false:=by simpa using h7
   refine e7▸?_;rw[Ru];cases hb:(j==k||j==0) with
   |true=>rw[hb]at ct;exact Ew Xk Xj he hc ct ⟨⟨_,_,rfl⟩,.bool _⟩
   |false=>rw[hb]at ct;exact B2 Xk (X.at I (PU _)) Xj hk.1 he hc ct ⟨⟨_,_,rfl⟩,.bool _⟩
theorem ML(D:Wd Z P gn G cf d)(he:PE Z P gn G cf d e):PE Z P gn G cf d (.isx k e):=λks sc ex env K A Y U s hm hA F I=>by
 replace hm:=av hm;obtain⟨⟨x,args⟩,h0,hm⟩:=hm;apply zb (eU h0);intro p pos;clear h0;replace hm:=av hm;obtain⟨⟨a,c⟩,h00,hm⟩:=hm;apply iY (jx h00:args=[a,c]);clear h00;replace hm:=av hm;obtain⟨z,h00,hm⟩:=hm;apply gj (bO h00:∃p,c=.Name z p);intro zp;clear h00;replace hm:=NF hm;obtain⟨hx,hg,hz',hz,hk,hs,hm⟩:=hm;apply iY (of_decide_eq_true hz':z=j7 k);replace hk:=of_decide_eq_true hk;rw[show z=j7 k from of_decide_eq_true hz']at hz;replace hx:x=("isinstance":Str):=of_decide_eq_true hx;rw[show (x,args).1=_ from hx]at hg;apply iY hx;clear hz' hx;refine ir.plain rfl λv σ' ev=>?_;have ev:((af G cf e K U).bind λx aa=>KL k x aa)=.ok v σ':=ev;refine kk λUc kz=>?_;obtain⟨y,aa,e1,ev⟩:=Res.bind_ok ev;replace ev:=iz ev;obtain⟨⟨k',ds⟩,hy,ev⟩:=ev;rw[show y=.exc k' ds by clear e1 ev;cases y<;>first | ((injection hy with e;injection e with e f;subst e;subst f);rfl) | injection hy]at e1;refine kz ?_;clear kz hy;have trees:backTo pos (starEach [a,.Name (j7 k) zp] env)=[(false,eval a env),(false,eval (.Name (j7 k) zp) env)]:=by rw[bc _ hs];rfl
 have bi:=D.b.free (.isinst .list);refine PyProof.Rows.Call_Name trees (fK D F I hg bi.1 bi.2 ?_);refine callWith_builtin rfl (evalArgs_plain (spliced_cons (PQ ((he ks sc a env K A Y U s hm hA F I).1 _ _ e1) (λu ai ⟨ag,aH,ay,ru⟩=>?_) λ_ _ x=>x)));have fin:=B1 (A:=A) (O:=cz) D.x ay hk ru v σ' ev;refine spliced_cons ?_;clear trees;by_cases h7:k=7
 . subst h7;rw[if_pos rfl]at fin;refine fK D (F.step aH) ay hz D.x.ve.1 D.x.ve.2 (spliced_nil ?_);exact PQ fin (λw aq ⟨a5,cC,cD,q⟩=>⟨a5,aH.trans cC,cD,q⟩) λ_ _ x=>x
 . rw[if_neg h7]at fin;refine jL D (F.step aH) ay hz (D.x.own k (R8 (S4 hk h7))).1 (spliced_nil ?_);exact PQ fin (λw aq ⟨a5,cC,cD,q⟩=>⟨a5,aH.trans cC,cD,q⟩) λ_ _ x=>x
end
variable {C fI N:Addr}{hdct ab:Bool}{sn:List Str}{bs sub:List Value}{oI:Obj}{dd:Option Addr}{col:Option Bool}{newId:String}
section
variable {prog:Program}{E:VP}variable {q:Str}{bm bmB:List Value}{k0 k1 k2 k3 k5:Option Value}{Ud initId:String}
theorem pH(F:ExcBaseFacts Ud newId initId bmB)(T:OwnTail h bmB bm) 
   (hC:h.get? C=some (excClassObj nm q C N bs bm hdct sn sub ab col dd k0 k1 k2 k3 k5 newId)) (hn:h.Ns N mN) (hi:mN "__init__"=some (.ref fI)) (hfI:h.get? fI=some oI) (hfc:oI.cls=.type "function") (hrest:rest.length<=sizeLine)
   (hq:∀h' e,Heap.MadeExcOf h h' e (.ref C) rest->wpAny (model prog w) A (call (.ref fI) (.ref e::rest)) (λr s'=>r=.none/\Q (.done (.ret (.ref e))) s') E ⟨h',g,d,t,os⟩) :
   wpAny (model prog w) A (Builtin.«type.__call__» ⟨.ref C::rest,[]⟩) Q E ⟨h,g,d,t,os⟩:=by
 repeat (first|with_reducible refine P2 hC ?_|with_reducible refine wpAny_madeBy_exc hC ?_|wp_step)
 refine codeAny_call_builtin_code (Code.quiet_builtin _ F.quiet) (wpAny_check_new_subT F T hC (codeAny_exc_new_subT F T hC ?_ hrest));refine(?_:wpAny _ _ _ _ _ _);generalize hh:((h.push { cls:=.type "tuple",data:=.seq rest.toArray }).push { cls:=.ref C,data:=.fields #[.ref h.objs.size,.none,.none,.none,.bool false,.none] })=bj;have kp:∀b o,h.get? b=some o->bj.get? b=some o:=λb o e=>by rw[<- hh];exact PI _ (PI _ e)
 have hget:bj.get? (h.objs.size+1)=some { cls:=.ref C,data:=.fields #[.ref h.objs.size,.none,.none,.none,.bool false,.none] }:=by rw[<- hh];heap_get
 have hcC:(Value.ref C::bm).contains (.ref C)=true:=by simp
 unfold isInstance
 repeat (first|with_reducible refine P2 hget ?_ | (with_reducible refine QM (kp _ _ hC) ?_;rw[hcC]) | wp_step)
 show wpAny _ _ (typeLookup (.ref C) _) _ _ _;refine wpAny_typeLookup_tail (kp _ _ hC) (hn.keeps kp) (T.keeps kp) F.mroIs F.init.lookup ?_;refine hi▸?_;refine QT (OL ?_);unfold bindSpecial;refine OL (wpAny_typeOf (T:="function") ⟨_,kp _ _ hfI,hfc⟩ ?_);rw[if_pos (by decide)];refine PJ (OL (PQ (hq _ _ (⟨kp,SM (Sl _),h.objs.size,hget,SM (Qb _),by rw[<- hh];exact PI _ (Heap.get?_push_at rfl rfl)⟩)) (λr s' hr=>?_) λ_ _ x=>x));obtain⟨rfl,hQ⟩:=hr
 wp_walk
 exact hQ
theorem zy(F:ExcBaseFacts Ud newId initId bmB)(T:OwnTail h bmB bm){Q:VP}
   (hC:h.get? C=some (excClassObj nm q C N bs bm hdct sn sub ab col dd k0 k1 k2 k3 k5 newId)) (hn:h.Ns N mN) (hi:mN "__init__"=some (.ref fI)) (hfI:h.get? fI=some oI) (hfc:oI.cls=.type "function") (hrest:rest.length<=sizeLine)
   (hq:∀h' e,Heap.MadeExcOf h h' e (.ref C) rest->wpAny (model prog w) (A.under (.builtin "type.__call__" ⟨.ref C::rest,[]⟩)) (call (.ref fI) (.ref e::rest)) (λr s'=>r=.none/\Q (.ref e) s') E ⟨h',g,d,t,os⟩) :
   wpAny (model prog w) A (call (.ref C) rest) Q E ⟨h,g,d,t,os⟩:=by
 have f1:=tc_lookup;have f2:=tc_bind (.ref C);have hT:(⟨h,g,d,t,os⟩:Shared).TypeIs (.ref C) "type":=⟨_,hC,rfl⟩
 refine wpAny_call (codeAny_of_tree ?_);refine(?_:wpAny _ _ (callAny (.ref C) _) _ _ _)
 repeat (any_goals (first|assumption|with_reducible refine P2 hC ?_|wp_step))
 exact⟨rfl,codeAny_call_builtin_at (Code.quiet_builtin _ (by decide +kernel)) entry_typeCall (wpAny_check_type_call_sub hC (pH F T hC hn hi hfI hfc hrest hq))⟩
theorem yy {x:Sem Value} {Q:Flow->Shared->Prop} (hbase:bm.contains (.type "BaseException")=true) (hh:A.handled=none)
   (h:wpAny M A x (λv ai=>X4 λe t D sl=>A4 (v=.ref e) (ai.heap.get? C=some (excClassObj nm q C N bs bm hdct sn sub ab col dd k0 k1 k2 k3 k5 newId)) (ai.heap.get? e=some { cls:=.ref C,dict:=D,data:=.fields #[.ref t,.none,.none,.none,.bool false,.none],slots:=sl }) (E (.ref e) ai)) E s) :
   wpAny M A (raiseStmt env (some x) none) Q E s:=by
 have hcB:(Value.ref C::bm).contains (.type "BaseException")=true:=by rw[QK,hbase,Sq]
 unfold raiseStmt;refine OL (PQ h (λv ai bj=>?_) λ_ _ x=>x);obtain⟨e,t,D,sl,rfl,hC,he,hE⟩:=bj;obtain⟨hp,g,d,tk,os⟩:=ai
 repeat (first|with_reducible refine P2 he ?_|with_reducible refine P2 hC ?_ | (with_reducible refine QM hC ?_;rw[hcB]) | wp_step)
 exact wpAny_raiseNew_none hh hE
end
open Builtin Builtin.ObjectAttr
variable {D:Addr}{vs:Array Value}{hdct':Bool}{ns:List Str}{name:Str}{mN' mA:Str->Option Value}{Q:Unit->Shared->Prop}
section
variable {prog:Program}{E:VP}variable {q nm' q':Str}{C' N' x:Addr}{bs':List Value}{sn':List Str}{sub':List Value}{ab':Bool}{col':Option Bool}{dd':Option Addr}{k0 k1 k2 k3 k5 k0' k1' k2' k3' k5':Option Value}{newId':String}
inductive Two(h:Heap)(C:Addr)(mN mN':Str->Option Value):Prop where
 |mk (nm q nm' q':Str) (N C' N':Addr) (bs bs':List Value) (hdct':Bool) (sn sn':List Str) (sub sub':List Value) (ab ab':Bool) (col col':Option Bool) (dd dd':Option Addr) (k0 k1 k2 k3 k5 k0' k1' k2' k3' k5':Option Value) (newId newId':String)
   (h1:h.get? C=some (excClassObj nm q C N bs (.ref C'::fR) true sn sub ab col dd k0 k1 k2 k3 k5 newId)) (h2:h.Ns N mN) (h3:h.get? C'=some (excClassObj nm' q' C' N' bs' fR hdct' sn' sub' ab' col' dd' k0' k1' k2' k3' k5' newId')) (h4:h.Ns N' mN'):Two h C mN mN'
theorem fA {n:Str} {Q:Option Value->Shared->Prop} (T:Two h C mN mN') (hn:mN n=none) (hn':mN' n=none) (hB:typeLookup (.type "ValueError") n=pure y) (hq:Q y ⟨h,g,d,t,os⟩) :
   wpAny M A (typeLookup (.ref C) n) Q E ⟨h,g,d,t,os⟩:=by
 have hrest:lookupAlong fR n=pure y:=by rw[typeLookup_eq,F.excBase_ValueError.mroIs]at hB;exact hB
 cases T with
 |mk _ _ _ _ _ _ _ _ _ _ _ _ _ _ _ _ _ _ _ _ _ _ _ _ _ _ _ _ _ _ _ _ h1 h2 h3 h4=>
 rw[typeLookup_eq];refine OL (wpAny_mroOf_exc h1 ?_);rw[lookupAlong_cons];refine OL (wpAny_classOwn_exc h1 h2 ?_);rw[hn];show wpAny M A (lookupAlong (.ref _::fR) n) Q E _;rw[lookupAlong_cons];refine OL (wpAny_classOwn_exc h3 h4 ?_);rw[hn'];show wpAny M A (lookupAlong fR n) Q E _;rw[hrest];exact PJ hq
inductive ClsAt(h:Heap)(C:Addr):Prop
 |mk (nm q:Str) (N C':Addr) (bs:List Value) (sn:List Str) (sub:List Value) (ab:Bool) (col:Option Bool) (dd:Option Addr) (k0 k1 k2 k3 k5:Option Value) (newId:String) (hC:h.get? C=some (excClassObj nm q C N bs (.ref C'::fR) true sn sub ab col dd k0 k1 k2 k3 k5 newId)):ClsAt h C
theorem Two.cls(T:Two h C mN mN'):ClsAt h C:=by
 cases T with
 |mk _ _ _ _ _ _ _ _ _ _ _ _ _ _ _ _ _ _ _ _ _ _ _ _ _ _ _ _ _ _ _ _ h1 h2 h3 h4=>exact⟨_,_,_,_,_,_,_,_,_,_,_,_,_,_,_,_,h1⟩
theorem sR(T:Two h C mN mN')(hx:h.get? x=some o)(hc:o.cls=.ref C)(hq:Q () ⟨h,g,d,t,os⟩) :
   wpAny M A (checkBuiltinCall "object.__setattr__" ⟨[.ref x,nameV,v],[]⟩) Q E ⟨h,g,d,t,os⟩:=by
 obtain⟨nm,q,N,C',bs,sn,sub,ab,col,dd,k0,k1,k2,k3,k5,newId,hC⟩:=T.cls;have hcB:(Value.ref C::.ref C'::fR).contains (.type "object")=true:=by rw[QK,QK,show fR.contains (.type "object")=true from rfl,Sq,Sq]
 unfold checkBuiltinCall;refine F.store_ValueError.kind▸F.store_ValueError.split▸?_;refine OL ?_
 . unfold isInstance
   repeat (first | (with_reducible refine P2 hx ?_;refine hc▸?_) | (with_reducible refine QM hC ?_;rw[hcB]) | wp_step)
   exact hq
theorem BC {Q:Fin->Shared->Prop} (T:Two h C mN mN') (hna:mN name=none) (hna':mN' name=none) (hB:typeLookup (.type "ValueError") name=pure none) (hx:h.get? x=some o) (hc:o.cls=.ref C) (hdn:o.dict=none) (hdat:o.data=.fields vs)
   (hq:∀h' tk',h'.get? x=some { o with dict:=some h.objs.size }->h'.Ns1 h.objs.size (λy=>if y=name then some v else none)->(∀b o,b≠x->h.get? b=some o->h'.get? b=some o)->Q (.done (.ret .none)) ⟨h',g,d,tk',os⟩) :
   wpAny (model prog w) A (Builtin.«object.__setattr__» ⟨[.ref x,.str name tk,v],[]⟩) Q E ⟨h,g,d,t,os⟩:=by
 obtain⟨nm,q,N,C',bs,sn,sub,ab,col,dd,k0,k1,k2,k3,k5,newId,hC⟩:=T.cls;unfold Builtin.«object.__setattr__»
 repeat (first|rw[refuse_eq] | (rw[refuseLoop_ref,refuseLoop_ref,(F.store_ValueError.passes (.ref x))]) | (with_reducible refine P2 hx ?_;rw[hc]) | with_reducible refine wpAny_mroOf_exc hC ?_|with_reducible refine fA T hna hna' hB ?_|wp_step)
 rw[hdn];show wpAny _ _ (if (!true||!typeHasDict (Value.ref C))=true then pure none else _) _ _ _;rw[if_neg (by simp[typeHasDict]),hdat];have I2:(h.push { cls:=.type "dict",data:=.dict #[] }).get? x=some o:=PI _ hx;have hxs:x≠h.objs.size:=QG (Qz hx);refine OL (wpAny_alloc' ?_);refine OL (wpAny_update' I2 (PJ ?_));show wpAny _ _ (storeInDict h.objs.size (.str name tk) name v) _ _ _;generalize hh:((h.push { cls:=.type "dict",data:=.dict #[] }).update x λo=>{ cls:=o.cls,dict:=some h.objs.size,data:=o.data,slots:=o.slots })=gg;have hgd:gg.get? h.objs.size=some { cls:=.type "dict",data:=.dict #[] }:=by rw[<- hh];exact(Heap.get?_update_ne _ _ _ _ hxs.symm).trans (Heap.get?_push_at rfl rfl)
 have M8:gg.get? x=some { o with dict:=some h.objs.size }:=by rw[<- hh];refine QW _ I2 ?_;obtain⟨oc,od,odt,osl⟩:=o;clear hq;subst hdat;rfl
 have kp:∀b o,b≠x->h.get? b=some o->gg.get? b=some o:=λb o hb e=>by rw[<- hh];exact(Heap.get?_update_ne _ _ _ _ hb).trans (PI _ e)
 unfold storeInDict newKeyGuard;refine OL (PJ (OL (wpAny_nsSet1 (Heap.Ns1.of_empty ⟨_,#[],_,hgd,rfl,λe he=>absurd he (by simp),λ_=>rfl⟩) λh' hn' hs=>?_)));obtain⟨oD,esD,epD,hoD,hdD,hcD⟩:=hn'.count (Within.cons name v Within.nil);refine OL (wpAny_lookBehind hoD (by rw[hdD];exact pastItsLine_dict (iv hcD (by rw[PZ,Q8,sizeLine_eq];decide))) ?_)
 wp_walk
 exact hq h' _ ((hs.2 x hxs).trans M8) hn' λb o hb e=>(hs.2 b (QG (Qz e))).trans (kp b o hb e)
theorem Do {Q:Fin->Shared->Prop} (T:Two h C mN mN') (hna:mN name=none) (hna':mN' name=none) (hB:typeLookup (.type "ValueError") name=pure none) (hx:h.get? x=some o) (hc:o.cls=.ref C) (hdx:o.dict=some D)
   (hns:h.Ns1 D mA) (hw:Within mA ns) (hsz:ns.length+1<=1000)
   (hq:∀h' tk',h'.Ns1 D (λy=>if y=name then some v else mA y)->(∀b o,b≠D->h.get? b=some o->h'.get? b=some o)->Q (.done (.ret .none)) ⟨h',g,d,tk',os⟩) :
   wpAny (model prog w) A (Builtin.«object.__setattr__» ⟨[.ref x,.str name tk,v],[]⟩) Q E ⟨h,g,d,t,os⟩:=by
 obtain⟨nm,q,N,C',bs,sn,sub,ab,col,dd,k0,k1,k2,k3,k5,newId,hC⟩:=T.cls;unfold Builtin.«object.__setattr__»
 repeat (first|rw[refuse_eq] | (rw[refuseLoop_ref,refuseLoop_ref,(F.store_ValueError.passes (.ref x))]) | (with_reducible refine P2 hx ?_;rw[hc]) | with_reducible refine wpAny_mroOf_exc hC ?_|with_reducible refine fA T hna hna' hB ?_|wp_step)
 refine hdx▸?_;refine PJ ?_;refine(?_:wpAny _ _ (storeInDict D (.str name tk) name v) _ _ _);unfold storeInDict newKeyGuard;refine OL (PJ (OL (wpAny_nsSet1 hns λh' hn' hs=>?_)));obtain⟨oD,esD,epD,hoD,hdD,hcD⟩:=hn'.count (Within.cons name v hw);refine OL (wpAny_lookBehind hoD (by rw[hdD];exact pastItsLine_dict (iv hcD (by rw[PZ,sizeLine_eq];lia))) ?_)
 wp_walk
 exact hq h' _ hn' λb o hb e=>(hs.2 b hb).trans e
theorem oV (T:Two h C mN mN') (hs:mN "__setattr__"=none) (hs':mN' "__setattr__"=none) (hx:h.get? x=some o) (hc:o.cls=.ref C)
   (hent:∀(A':Around) (E':VP) (Q':Fin->Shared->Prop) (tk:Tok) (t':Nat),(∀h' tk',Q () ⟨h',g,d,tk',os⟩->Q' (.done (.ret .none)) ⟨h',g,d,tk',os⟩)->wpAny (model prog w) A' (Builtin.«object.__setattr__» ⟨[.ref x,.str name tk,v],[]⟩) Q' E' ⟨h,g,d,t',os⟩) :
   wpAny (model prog w) A (setAttr (.ref x) name v) Q E ⟨h,g,d,t,os⟩:=by
 have f3:=F.store_ValueError.slot.bind (.ref x);unfold setAttr callSpecial? specialOf
 repeat (any_goals (first|assumption | (with_reducible refine P2 hx ?_;refine hc▸?_) | with_reducible refine fA T hs hs' F.store_ValueError.slot.lookup ?_|wp_step))
 refine codeAny_call_builtin F.store_ValueError.slot.plain F.store_ValueError.entry (sR T hx hc (hent _ _ _ _ _ λh' tk' hQ=>?_))
 repeat (any_goals (first|assumption|wp_step))
end
variable {expr:Bool}
section
variable {prog:Program}{E:VP}variable {x:Addr}
theorem rC {Q:Fin->Shared->Prop} (T:Two h C mN mN') (hna:mN name=none) (hna':mN' name=none) (hB:typeLookup (.type "ValueError") name=pure none) (hx:h.get? x=some o) (hc:o.cls=.ref C) (hdat:o.data=.fields vs) (hdx:o.dict=some D) (hns:h.Ns1 D mA) (hv:mA name=some v)
   (hq:Q (.done (.ret v)) ⟨h,g,d,t,os⟩):wpAny (model prog w) A (Builtin.«object.__getattribute__» ⟨[.ref x,.str name tk],[]⟩) Q E ⟨h,g,d,t,os⟩:=by
 repeat (any_goals (first|assumption | (with_reducible refine P2 hx ?_;rw[hc]) | with_reducible refine fA T hna hna' hB ?_|wp_step))
 rw[hdat];show wpAny _ _ (instanceDict x false) _ _ _;unfold instanceDict;obtain⟨nm,q,N,C',bs,sn,sub,ab,col,dd,k0,k1,k2,k3,k5,newId,hC⟩:=T.cls
 repeat (first | (with_reducible refine P2 hx ?_;rw[hc]) | with_reducible refine P2 hC ?_|wp_step)
 refine hdx▸?_
 repeat (first | (with_reducible refine wpAny_nsGet hns.ns ?_;refine hv▸?_) | wp_step)
 exact hq
theorem sS (T:Two h C mN mN') (hx:h.get? x=some o) (hc:o.cls=.ref C) (hq:Q () ⟨h,g,d,t,os⟩):wpAny M A (checkBuiltinCall "BaseException.__getattribute__" ⟨[.ref x,nameV],[]⟩) Q E ⟨h,g,d,t,os⟩:=by
 obtain⟨nm,q,N,C',bs,sn,sub,ab,col,dd,k0,k1,k2,k3,k5,newId,hC⟩:=T.cls;have hk:builtinKind "BaseException.__getattribute__"=some .slot:=by decide +kernel
 have hsplit:splitId "BaseException.__getattribute__"=some ("BaseException","__getattribute__"):=by decide +kernel
 have hcB:(Value.ref C::.ref C'::fR).contains (.type "BaseException")=true:=by rw[QK,QK,show fR.contains (.type "BaseException")=true from rfl,Sq,Sq]
 unfold checkBuiltinCall;refine hk▸hsplit▸?_;refine OL ?_
 . unfold isInstance
   repeat (first | (with_reducible refine P2 hx ?_;refine hc▸?_) | (with_reducible refine QM hC ?_;rw[hcB]) | wp_step)
   exact hq
theorem xh {Q:VP} (T:Two h C mN mN') (hg:mN "__getattribute__"=none) (hg':mN' "__getattribute__"=none) (hga:mN "__getattr__"=none) (hga':mN' "__getattr__"=none) (hna:mN name=none) (hna':mN' name=none) (hB:typeLookup (.type "ValueError") name=pure none) (hx:h.get? x=some o) (hc:o.cls=.ref C) (hdat:o.data=.fields vs) (hdx:o.dict=some D) (hns:h.Ns1 D mA) (hv:mA name=some v) (hh:handedOut v=pure v)
   (hq:∀t',Q v ⟨h,g,d,t',os⟩):wpAny (model prog w) A (getAttr (.ref x) name expr) Q E ⟨h,g,d,t,os⟩:=by
 have f3:=F.excAttr_ValueError.ga.bind (.ref x);have hx2:(Value.builtin "BaseException.__getattribute__"==Value.builtin "object.__getattribute__")=false:=by decide +kernel
 have hx1:(onTheHeap (Value.ref C)&&Value.builtin "BaseException.__getattribute__"==Value.builtin "object.__getattribute__")=false:=by rw[hx2];rfl
 unfold getAttr getAttrBy
 repeat (any_goals (first|assumption | (with_reducible refine P2 hx ?_;rw[hc]) | with_reducible refine fA T hg hg' wW ?_|with_reducible refine fA T hga hga' ph ?_|wp_step))
 rw[if_neg (by cases expr<;>exact P0)];unfold boundAndCalled
 repeat (any_goals (first|assumption | (with_reducible refine P2 hx ?_;rw[hc]) | wp_step))
 refine codeAny_call_builtin F.excAttr_ValueError.ga.plain F.entry_bexc_ga (sS T hx hc (rC T hna hna' hB hx hc hdat hdx hns hv ?_))
 repeat (any_goals (first|assumption|wp_step))
 exact hq _
end
theorem tM:typeLookup (.type "ValueError") j6=pure none:=by rw[typeLookup_type,builtinLookup_eq_fast];kernel_rfl
theorem pg:typeLookup (.type "ValueError") dG=pure none:=by rw[typeLookup_type,builtinLookup_eq_fast];kernel_rfl
inductive Cl6(h:Heap):Prop where
 |mk (mN mN':Str->Option Value) (T:Two h (KA 6) mN mN') (q:∀n∈fh,mN n=none/\mN' n=none) (I:InitX h mN) (O:OwnTail h fR (d7 6)) (nm q':Str) (N:Addr) (bs:List Value) (sn:List Str) (sub:List Value) (ab:Bool) (col:Option Bool) (dd:Option Addr) (k0 k1 k2 k3 k5:Option Value) (hC:h.get? (KA 6)=some (excClassObj nm q' (KA 6) N bs (d7 6) true sn sub ab col dd k0 k1 k2 k3 k5 "ValueError.__new__")) (hN:h.Ns N mN):Cl6 h
theorem Fy(X6:XAt h 6)(X0:XAt h 0):Cl6 h:=by obtain⟨nm,q,N,bs,hdct,sn,sub,ab,col,dd,k0,k1,k2,k3,k5,mN,h1,h2,h3,_,h5⟩:=X6;obtain⟨nm',q',N',bs',hdct',sn',sub',ab',col',dd',k0',k1',k2',k3',k5',mN',h1',h2',h3',h4',_⟩:=X0;obtain⟨rfl,i⟩:=h5 rfl;exact⟨mN,mN',⟨nm,q,nm',q',N,KA 0,N',bs,bs',hdct',sn,sn',sub,sub',ab,ab',col,col',dd,dd',k0,k1,k2,k3,k5,k0',k1',k2',k3',k5',_,_,h1,h2,h1',h2'⟩,λn hn=>⟨h3 n hn,h3' n hn⟩,i,.own h1' h2' (h4' (PU _)) .base,nm,q,N,bs,sn,sub,ab,col,dd,k0,k1,k2,k3,k5,h1,h2⟩
theorem Two.keeps(T:Two h C mN mN')(kp:∀b o,h.get? b=some o->h'.get? b=some o):Two h' C mN mN':=by
 cases T with
 |mk nm q nm' q' N C' N' bs bs' hdct' sn sn' sub sub' ab ab' col col' dd dd' k0 k1 k2 k3 k5 k0' k1' k2' k3' k5' newId newId' h1 h2 h3 h4=>exact⟨nm,q,nm',q',N,C',N',bs,bs',hdct',sn,sn',sub,sub',ab,ab',col,col',dd,dd',k0,k1,k2,k3,k5,k0',k1',k2',k3',k5',newId,newId',kp _ _ h1,h2.keeps kp,kp _ _ h3,h4.keeps kp⟩
inductive Made6(h h':Heap)(e:Addr)(v1 v2:Value):Prop where
 |mk (t D:Addr) (sl:Array (Option Value)) (m:Str->Option Value) (kp:∀b o,h.get? b=some o->h'.get? b=some o) (h1:h.get? e=none) (h2:h'.get? e=some { cls:=.ref (KA 6),dict:=some D,data:=.fields #[.ref t,.none,.none,.none,.bool false,.none],slots:=sl }) (h3:h.get? D=none) (h4:h'.Ns1 D m) (h5:m j6=some v1/\m dG=some v2):Made6 h h' e v1 v2
variable {p0 p1 p2:Str}
section
variable {prog:Program}{E:VP}theorem xS{Uc:Str->Option NameKind}(h0:Uc p0=some .local)(h1:Uc p1=some .local)(h2:Uc p2=some .local)(a b c:Value):bindL Uc [(p0,a),(p1,b),(p2,c)] (λ_=>none)=λy=>if y=p2 then some c else if y=p1 then some b else if y=p0 then some a else none:=by unfold bindL bindL bindL bindL;rw[if_pos h0,if_pos h1,if_pos h2]
theorem zo{v1 v2:Value}{Q:VP}(X:Cl6 h)(hlim:h.NoLimit)(hroom:A.depth+1 < recursionLimit)(q:∀h' tk e,Made6 h h' e v1 v2->Q (.ref e) ⟨h',g,d,tk,os⟩) :
   wpAny (model prog w) A (call (.ref (KA 6)) [v1,v2]) Q E ⟨h,g,d,t,os⟩:=by
 obtain⟨mN,mN',T,qn,⟨f,o,fd,p0,p1,p2,n1,n2,n3,n4,n5,n6,n7,n8,i1,i2,i3,i4,i5,i6,i7,i8,i9,i10,i11⟩,OT,nm,q',N,bs,sn,sub,ab,col,dd,k0,k1,k2,k3,k5,hC,hN⟩:=X;have hl:=λp hp=>(i10 p hp).1;have l0:=hl p0 (PH ..);have l1:=hl p1 (PG _ (PH ..));have l2:=hl p2 (PG _ (PG _ (PH ..)));have g0:=(cV (i10 p0 (PH ..)).2).1;have g1:=(cV (i10 p1 (PG _ (PH ..))).2).1;have g2:=(cV (i10 p2 (PG _ (PG _ (PH ..)))).2).1;refine zy PySem.F.excBase_ValueError OT hC hN i1 i2 i3 (by simp[sizeLine]) λbj e M=>?_;obtain⟨tu,he,htu,_⟩:=M.there;refine wpAny_call (codeAny_call_cells hroom (M.keeps _ _ i2) i4 (hlim.keeps M.keeps) (i7.keeps M.keeps) i5 (i9 (.ref e) v1 v2) i6 (λy hy=>.inl ?_) (λai x=>?_) i8.2.1 i8.2.2 i8.1)
 . rcases PO.mp hy with rfl|hy
   . exact l0
   . rcases PO.mp hy with rfl|hy
     . exact l1
     . exact(PN.mp hy)▸l2
 . have hns:=x.toInCall.ns;rw[xS (Uc:=(callEnvC fd bj.objs.size f).kindOf) l0 l1 l2]at hns;have hfr:bj.get? (callEnvC fd bj.objs.size f).locals=none:=hX x.toInCall.fresh;obtain⟨gg,Mm,rfl,Ho⟩:=x.done;generalize hL:(callEnvC fd bj.objs.size f).locals=L at hns hfr;have hk0:(callEnvC fd bj.objs.size f).kindOf p0=some .local:=l0;have hk1:(callEnvC fd bj.objs.size f).kindOf p1=some .local:=l1;have hk2:(callEnvC fd bj.objs.size f).kindOf p2=some .local:=l2;have hke:(callEnvC fd bj.objs.size f).scope.kind=.function:=i8.1;clear x;generalize callEnvC fd bj.objs.size f=env at hk0 hk1 hk2 hke hL ⊢;have pp:=Ho _ _ he;have eL:e≠L:=λz=>by rw[<- z,he]at hfr;injection hfr
   have w0:∀b o,h.get? b=some o->gg.get? b=some o:=λb o z=>Ho b o (M.keeps b o z);have s1:=qn "__setattr__" (by simp[fh]);have s2:=qn j6 (by simp[fh]);have s3:=qn dG (by simp[fh]);have ldN:∀{A':Around} {E':VP} {Q':VP} {p:Str} {np:Pos} {v:Value} {s':Shared} {m':Str->Option Value},env.kindOf p=some .local->(p==("__debug__":Str))=false->s'.heap.Ns L m'->m' p=some v->Q' v s'->wpAny (model prog w) A' (eval (.Name p np) env) Q' E' s':=λhk hg hn hm hq=>wpAny_Name (wpAny_loadName_local hke hk (hL▸hn) hm hq) hg;rw[arm_execs_cons];refine OL (plainObj_wpAny_Assign_Attribute (ldN (s':=⟨gg,g,d,Mm,os⟩) hk1 g1 hns (v:=v1) ?_ (ldN hk0 g0 hns (v:=.ref e) ?_ ?_)))
   . show (if p1=p2 then some v2 else if p1=p1 then some v1 else _)=some v1;rw[if_neg (Ne.symm i11.2.2),if_pos rfl]
   . show (if p0=p2 then some v2 else if p0=p1 then some v1 else if p0=p0 then some (Value.ref e) else none)=_;rw[if_neg (Ne.symm i11.2.1),if_neg (Ne.symm i11.1),if_pos rfl]
   refine oV (T.keeps w0) s1.1 s1.2 pp rfl λA' E' Q' tk t' k=>BC (T.keeps w0) s2.1 s2.2 tM pp rfl rfl rfl λoK IO HT nD kD=>k oK IO ?_;have rL:gg.get? gg.objs.size=none:=bo _;generalize gg.objs.size=D at rL HT nD kD ⊢;have EB:oK.Ns L _:=hns.at λo z=>kD L o (Ne.symm eL) z;have Et:∀b o,h.get? b=some o->oK.get? b=some o:=λb o z=>kD b o (λy=>by rw[y,M.new]at z;injection z) (w0 b o z);refine(?_:wpAny _ _ (PySem.execs [_] env) _ _ _);rw[arm_execs_cons];refine OL (plainObj_wpAny_Assign_Attribute (ldN (s':=⟨oK,g,d,IO,os⟩) hk2 g2 EB (v:=v2) ?_ (ldN hk0 g0 EB (v:=.ref e) ?_ ?_)))
   . show (if p2=p2 then some v2 else _)=some v2;exact(if_pos rfl)
   . show (if p0=p2 then some v2 else if p0=p1 then some v1 else if p0=p0 then some (Value.ref e) else none)=_;rw[if_neg (Ne.symm i11.2.1),if_neg (Ne.symm i11.1),if_pos rfl]
   have hDe:D≠e:=λz=>by rw[z,pp]at rL;injection rL
   refine oV (T.keeps Et) s1.1 s1.2 HT rfl λA' E' Q' tk t' k=>Do (ns:=[j6]) (T.keeps Et) s3.1 s3.2 pg HT rfl rfl nD (Within.cons j6 v1 Within.nil) (by simp) λHw IN MV M4=>k Hw IN ?_;refine wpAny_execs_nil ⟨rfl,q Hw IN e ⟨tu,D,_,_,λb o z=>M4 b o (λy=>?_) (Et b o z),M.new,M4 _ _ (Ne.symm hDe) HT,?_,MV,?_,?_⟩⟩
   . rw[y]at z;rw[w0 _ _ z]at rL;injection rL
   . cases z:h.get? D with
     |none=>rfl
     |some o=>rw[w0 _ _ z]at rL;injection rL
   . show (if j6=dG then some v2 else if j6=j6 then some v1 else none)=_;rw[if_neg (by decide),if_pos rfl]
   . show (if dG=dG then some v2 else _)=_;exact(if_pos rfl)
end
variable {d:Nat}variable {en:Bool}{I:j2}{names:KS}{tk:Nat}{scope:Scope}{it:Value}
section
variable {ex:Expr}theorem ItPost.back(S:Step cz Y U s ag aa ai)(h:ItPost Z A en I ag aa ai ae it aq):ItPost Z A en I Y U s ae it aq:=by obtain⟨a5,T,e,e1,e2,S',I',hf,r1,r2,r3⟩:=h;exact⟨a5,T,e,e1,e2,S.trans S',I',λa ha=>⟨S.alive a (hf a ha).1,(hf a ha).2⟩,r1,r2,r3⟩theorem MG(he:PE Z P gn G cf d e):LJ Z P gn G cf d (.seq e):=λks sc ex env K A Y U s I aa hm hA hh F Iv e'=>by refine kk λUc k=>?_;rw[Ln]at e';obtain⟨x,ae,h1,h2⟩:=Res.bind_ok e';clear e';obtain⟨⟨l,lk⟩,ho,rfl,rfl⟩:=jm h2;refine k ?_;refine PQ ((he ks sc ex env K A Y U s hm hA F Iv).1 x aa h1) (λv ai ⟨ag,aH,ay,rv⟩=>?_) λ_ _ x=>x;exact PQ (wF hh ay rv ho) (λit aq h=>h.back aH) λ_ _ x=>x
theorem qL{m n:Int}{t u v:Tok}(hh:A.handled=none)(ha:-100000<=m/\m<=100000)(hb:-100000<=n/\n<=100000)(S:Step cz Y U s ag aa ai)(I:Inv Z ag aa ai.heap)(r:IsRange (ai.heap.push o) ai.heap.objs.size m n 1 t u v) :
   WP Z A (pyIter (.ref ai.heap.objs.size)) (λit aq=>ItPost Z A false ⟨b8 m n,[],none⟩ Y U s aa it aq) (λ_ _=>False) { ai with heap:=ai.heap.push o,toks:=tk }:=
 have cC:Step cz ag aa ai ag aa { ai with heap:=ai.heap.push o,toks:=tk }:=Step.grow (bw _) rfl rfl
 PQ (wA hh ha hb (I.grow (bw (h:=ai.heap) o)) r) (λit aq h=>h.back (S.trans cC)) λ_ _ x=>x
theorem G0(D:Wd Z P gn G cf d)(he:PE Z P gn G cf d e):LJ Z P gn G cf d (.range e):=λks sc ex env K A Y U s I aa hm hA hh F Iv e'=>by
 replace hm:=av hm;obtain⟨⟨x,args⟩,h0,hm⟩:=hm;apply zb (eU h0);intro p pos;replace hm:=av hm;obtain⟨a,h00,hm⟩:=hm;apply iY (dC h00:args=[a]);obtain⟨hx,hg,hs,hm⟩:=sC hm;rw[Fi]at e';obtain⟨y,ae,h1,h2⟩:=Res.bind_ok e';clear e';obtain⟨b,hy,hb,rfl,rfl⟩:=BI h2;have trees:backTo pos (starEach [a] env)=[(false,eval a env)]:=by rw[bc _ hs];rfl
 replace hx:x=("range":Str):=of_decide_eq_true hx;refine PyProof.Rows.Call_Name trees (fK D F Iv hg (hx▸D.b.range.1) (hx▸D.b.range.2) ?_);refine Rb rfl (evalArgs_plain (spliced_cons (PQ ((he ks sc a env K A Y U s hm hA F Iv).1 _ _ h1) (λv ai ⟨ag,aH,ay,rv⟩=>spliced_nil ?_) λ_ _ x=>x)));replace rv:aE ag aa ai.heap v (.d (.int b)):=hy▸rv;apply gj (mW rv);intro t;exact call_range_1 (qL hh (by decide) hb aH ay (IsRange.new ..))
theorem DY(D:Wd Z P gn G cf d){y9 lR:E}(bj:PE Z P gn G cf d y9)(gg:PE Z P gn G cf d lR):LJ Z P gn G cf d (.range2 y9 lR):=λks sc ex env K A Y U s I aa hm hA hh F Iv e'=>by
 replace hm:=av hm;obtain⟨⟨x,args⟩,h0,hm⟩:=hm;apply zb (eU h0);intro p pos;replace hm:=av hm;obtain⟨⟨a,b⟩,h00,hm⟩:=hm;apply iY (jx h00:args=[a,b]);obtain⟨hx,hg,hs,hm,hs',hm'⟩:=zJ hm;rw[Cf]at e';obtain⟨y,ae,q1,q2⟩:=Res.bind_ok e';obtain⟨z,aF,q2,q3⟩:=Res.bind_ok q2;clear e';obtain⟨m,n,hy,hz,hb,rfl,rfl⟩:=yx q3;have trees:backTo pos (starEach [a,b] env)=[(false,eval a env),(false,eval b env)]:=by rw[bc _ hs,bc _ hs'];rfl
 replace hx:x=("range":Str):=of_decide_eq_true hx;refine PyProof.Rows.Call_Name trees (fK D F Iv hg (hx▸D.b.range.1) (hx▸D.b.range.2) ?_);refine Rb rfl (evalArgs_plain (spliced_cons (PQ ((bj ks sc a env K A Y U s hm hA F Iv).1 _ _ q1) (λv ai ⟨ag,aH,ay,rv⟩=>spliced_cons (PQ ((gg ks sc b env K A ag ae ai hm' hA (F.step aH) ay).1 _ _ q2) (λu aq ⟨a5,cC,cD,ru⟩=>spliced_nil ?_) λ_ _ x=>x)) λ_ _ x=>x)));replace rv:aE ag ae ai.heap v (.d (.int m)):=hy▸rv;replace ru:aE a5 aa aq.heap u (.d (.int n)):=hz▸ru;apply gj (mW rv);intro t;apply gj (mW ru);intro t';exact call_range_2 (qL hh hb.1 hb.2 (aH.trans cC) cD (IsRange.new ..))
theorem Ki(D:Wd Z P gn G cf d)(he:PE Z P gn G cf d e):LJ Z P gn G cf d (.enum e):=λks sc ex env K A Y U s I aa hm hA hh F Iv e'=>by
 replace hm:=av hm;obtain⟨⟨x,args⟩,h0,hm⟩:=hm;apply zb (eU h0);intro p pos;replace hm:=av hm;obtain⟨a,h00,hm⟩:=hm;apply iY (dC h00:args=[a]);obtain⟨hx,hg,hs,hm⟩:=sC hm;rw[H6]at e';obtain⟨y,ae,h1,h2⟩:=Res.bind_ok e';obtain⟨l,hl,h2⟩:=iz h2;injection h2 with e f;subst e;subst f;have trees:backTo pos (starEach [a] env)=[(false,eval a env)]:=by rw[bc _ hs];rfl
 replace hx:x=("enumerate":Str):=of_decide_eq_true hx;refine PyProof.Rows.Call_Name trees (fK D F Iv hg (hx▸D.b.enum.1) (hx▸D.b.enum.2) ?_);refine Rb rfl (evalArgs_plain (spliced_cons (PQ ((he ks sc a env K A Y U s hm hA F Iv).1 _ _ h1) (λv ai ⟨ag,aH,ay,rv⟩=>spliced_nil ?_) λ_ _ x=>x)));rw[eu hl]at rv;exact PQ (ze hh ay rv) (λx aq h=>PQ h (λit aW h=>h.back aH) λ_ _ x=>x) λ_ _ x=>x
set_option tactic.hygienic true in
theorem zk:∀{acc:List (Str×Addr)},(∀x∈names,x.2=.free->∃c,env.cells.lookup x.1=some c)->(∀x c,acc.lookup x=some c->env.cells.lookup x=some c)->
   ∃cl,A4 ((forIn names acc λ(x:Str×NameKind) (cs:List (Str×Addr))=>(if (x.2==.free)=true then do let c <- cellOf env x.1;pure (ForInStep.yield ((x.1,c)::cs)) else pure (ForInStep.yield cs):Sem (ForInStep (List (Str×Addr)))))=(pure cl:Sem (List (Str×Addr)))) ((∀x c,cl.lookup x=some c->env.cells.lookup x=some c)) ((∀x,(x,NameKind.free)∈names\/(acc.lookup x).isSome=true->(cl.lookup x).isSome=true)) ((∀x,(cl.lookup x).isSome=true->(x,NameKind.free)∈names\/(acc.lookup x).isSome=true)):=by
 induction names with
 |nil=>intro acc _ ha;exact⟨acc,rfl,ha,λx h=>h.elim (λq=>by cases q) id,λx h=>.inr h⟩
 |cons n ns ih=>
   intro acc hn ha;obtain⟨n,k⟩:=n;by_cases hk:k=.free
   . subst hk;obtain⟨c,hc⟩:=hn (n,.free) (PH ..) rfl;have hc:env.cells.lookup n=some c:=hc;obtain⟨cl,h1,h2,h3,h4⟩:=ih (acc:=(n,c)::acc) (λx hx=>hn x (PG _ hx)) (λx c' h=>by
       rw[P4]at h;split at h
       . rename_i hxn;have:=eq_of_beq hxn;clear hc;subst this;injection h with e;subst e;exact hc
       . exact ha x c' h)
     refine⟨cl,?_,h2,λx h=>h3 x ?_,λx h=>?_⟩
     . rw[List.forIn_cons];have:cellOf env n=pure c:=by unfold cellOf;rw[hc]
       simp only[this];exact h1
     . rcases h with h|h
       . rcases PO.mp h with h|h
         . cases h;right;simp[P4]
         . exact .inl h
       . right;rw[P4];split
         . rfl
         . exact h
     . rcases h4 x h with h|h
       . exact .inl (PG _ h)
       . rw[P4]at h;split at h
         . rename_i hxn;have:=eq_of_beq hxn;clear h3 h4 h1 hn;subst this;exact .inl (PH ..)
         . exact .inr h
   . obtain⟨cl,h1,h2,h3,h4⟩:=ih (acc:=acc) (λx hx=>hn x (PG _ hx)) ha;refine⟨cl,?_,h2,λx h=>h3 x ?_,λx h=>?_⟩
     . rw[List.forIn_cons];have:(k==NameKind.free)=false:=by simpa using hk
       simp only[this,S1,if_false];exact h1
     . rcases h with h|h
       . rcases PO.mp h with h|h
         . clear hn;injection h with e f;subst e;subst f;exact absurd rfl hk
         . exact .inl h
       . exact .inr h
     . exact(h4 x h).imp (PG _) id
theorem sO(hn:∀x∈scope.names,x.2=.free->∃c,env.cells.lookup x.1=some c) :
   ∃cl,A4 (closureFor scope env=pure cl) ((∀x c,cl.lookup x=some c->env.cells.lookup x=some c)) ((∀x,(x,NameKind.free)∈scope.names->(cl.lookup x).isSome=true)) ((∀x,(cl.lookup x).isSome=true->(x,NameKind.free)∈scope.names)):=by
 obtain⟨cl,h1,h2,h3,h4⟩:=zk (acc:=[]) hn (λx c h=>by injection h);refine⟨cl,?_,h2,λx h=>h3 x (.inl h),λx h=>(h4 x h).elim id λq=>by injection q⟩;have e:closureFor scope env=((forIn scope.names ([]:List (Str×Addr)) λ(x:Str×NameKind) (cs:List (Str×Addr))=>(if (x.2==.free)=true then do let c <- cellOf env x.1;pure (ForInStep.yield ((x.1,c)::cs)) else pure (ForInStep.yield cs):Sem (ForInStep (List (Str×Addr))))) >>= λcs=>pure cs):=rfl;rw[e,h1];rfl
end
variable {tx:Expr}{l is:List Nat}{dd:PyData}{t:Tgt}theorem o7(h:ku sc (i::l) xs=true):X3 λx p ys=>A3 (xs=.Name x p::ys) (sc.lookup x=some i) (ku sc l ys=true):=by replace h:=av h;obtain⟨⟨y,ys⟩,h0,h⟩:=h;replace h:=av h;obtain⟨x,h1,h⟩:=h;obtain⟨p,h1⟩:=bO h1;simp only[P5,decide_eq_true_eq]at h;exact⟨x,p,ys,by rw[ou h0];exact congrArg (·::ys) h1,h.1,h.2⟩
theorem mM:∀{l:List Nat} {xs:List Expr},ku sc l xs=true->(assignEach xs env).length=l.length/\(assignEach xs env).findIdx? (·.1)=none
 |[],xs,h=>by have h:=gc h;subst h;exact⟨rfl,rfl⟩
 |i::l,xs,h=>by replace h:=o7 h;obtain⟨x,p,ys,rfl,_,h⟩:=h;have ih:=mM h;have e:assignEach (.Name x p::ys) env=(false,assign (.Name x p) env)::assignEach ys env:=rfl;rw[e];exact⟨by rw[PZ,PZ,ih.1],by rw[List.findIdx?_cons,ih.2];rfl⟩def Bf(env:Env)(xs:List Expr)(h h':Heap):Prop:=(∀x∈xs.filterMap fc,env.kindOf x=some .local)->∀b o,b≠env.locals->h.get? b=some o->h'.get? b=some o
theorem oU{E:VP}:∀{xs:List Expr} {vs:List Value} {ds:List PyData} {K:Fm} {s:Shared},ku sc l xs=true->l.length=ds.length->RelAll (TT Y U) s.heap vs ds->FrameOk Z env ks sc K Y U s.heap->Inv Z Y U s.heap->
   (∀s',FrameOk Z env ks sc (b7 l ds K) Y U s'.heap->Step (own env) Y U s Y U s'->Inv Z Y U s'.heap->Bf env xs s.heap s'.heap->Q () s')->WP Z A (assignInOrder ((assignEach xs env).map (·.2)) vs) Q E s:=by
 induction l with
 |nil=>
   intro xs vs ds K s h hl r F I q;clear r;cases ds with
   |nil=>have h:=gc h;subst h;exact PJ (q s F Step.refl I λ_ _ _ _ e=>e)
   |cons _ _=>injection hl
 |cons i l ih_=>
   intro xs vs ds K s h hl r F I q;cases ds with
   |nil=>injection hl
   |cons d ds=>
     replace h:=o7 h;obtain⟨x,p,ys,rfl,hx,h⟩:=h;obtain⟨v,vs',rfl,z,rs⟩:=r.inv;clear r;refine(?_:wpAny _ _ (holding vs' (assign (.Name x p) env v) >>= λ_=>assignInOrder ((assignEach ys env).map (·.2)) vs') _ _ _);refine OL (QT (wpAny_assign_Name (F.store I hx (v:=.d d) z λs' F' S' I' keep kl=>?_)));refine ih_ h (Nat.succ.inj hl) ?_ F' I' λs'' F'' S'' I'' k''=>q s'' F'' (S'.trans S'') I'' λhloc b o hb e=>k'' (λy hy=>hloc y ?_) b o hb ((kl (hloc x ?_)).1 b o hb e)
     . exact S'.relAll F.notSeq rs
     . exact PG _ hy
     . exact PH ..
theorem sB{E:VP}{w:Value}(hh:A.handled=none)(h1:ku sc l xs=true)(F:FrameOk Z env ks sc K Y U s.heap)(I:Inv Z Y U s.heap)(r:aE Y U s.heap w (.d dd))(hb:fe (.tup l) dd K=some ρ')
   (q:∀s',FrameOk Z env ks sc ρ' Y U s'.heap->Step (own env) Y U s Y U s'->Inv Z Y U s'.heap->Bf env xs s.heap s'.heap->Q () s'):WP Z A (assign (.Tuple xs k p) env w) Q E s:=by
 obtain⟨ds,hd,hb⟩:=kq hb;rw[uq hd]at r;by_cases hl:l.length=ds.length
 . rw[if_pos hl]at hb;injection hb with e;subst e;apply (qq r).el;intro a vs n ha _ _ rr;have hn:=mM (env:=env) h1;have hz:=rr.length;simp only[P1]at hz;refine wpAny_assign_Tuple hh ⟨_,ha,rfl,_,rfl⟩ (by rw[hn.1,hz,hl]) hn.2 λh' he=>?_;have hk:∀b o,s.heap.get? b=some o->h'.get? b=some o:=λb o e=>he b o (QG (Qz e)) e;have S2:Step cz Y U s Y U { s with heap:=h' }:=Step.grow hk rfl rfl;exact oU h1 hl (rr.mono λx o _ _ e _ t=>⟨hk _ _ e,t⟩) (F.step S2) (I.grow hk) λs' F' S' I' k'=>q s' F' (S2.ofNo.trans S') I' λhloc b o hb e=>k' hloc b o hb (hk b o e)
 . rw[if_neg hl]at hb;injection hb
theorem FF{E:VP}{w:Value}(hh:A.handled=none)(h1:o6 sc t tx=true)(hloc:∀x∈fS tx,env.kindOf x=some .local)(F:FrameOk Z env ks sc K Y U s.heap)(I:Inv Z Y U s.heap)(r:aE Y U s.heap w (.d dd))(hb:fe t dd K=some ρ')
   (q:∀s',FrameOk Z env ks sc ρ' Y U s'.heap->Step (own env) Y U s Y U s'->Inv Z Y U s'.heap->(∀b o,b≠env.locals->s.heap.get? b=some o->s'.heap.get? b=some o)->Q () s'):WP Z A (assign tx env w) Q E s:=by
 cases t with
 |var i=>replace h1:=av h1;obtain⟨x,h0,hx⟩:=h1;obtain⟨p,rfl⟩:=bO h0;injection hb with e;subst e;exact wpAny_assign_Name (F.store I (of_decide_eq_true hx) (v:=.d dd) r λs' F' S' I' _ kl=>q s' F' S' I' (kl (hloc x (PN.mpr rfl))).1)
 |tup l=>replace h1:=av h1;obtain⟨xs,h0,h1⟩:=h1;obtain⟨k',p,rfl⟩:=lv h0;exact sB hh h1 F I r hb λs' F' S' I' k'=>q s' F' S' I' (k' hloc)noncomputable def CP(is:List Nat)(K:Fm):Fm:=K.mapIdx λj v=>if j∈is then .un else v
theorem qi{v:V}(h:(CP is K)[j]?=some v)(hu:v≠.un):j∉is/\K[j]?=some v:=by
 unfold CP at h;rw[TL]at h;obtain⟨w,h1,h2⟩:=Ql.mp h;by_cases hj:j∈is
 . rw[if_pos hj]at h2;exact absurd h2.symm hu
 . rw[if_neg hj]at h2;exact⟨hj,by rw[h1,h2]⟩
theorem AY(h:j∉is):(CP is K)[j]?=K[j]?:=by
 unfold CP;rw[TL];cases K[j]? with
 |none=>rfl
 |some v=>exact congrArg some (if_neg h)theorem qF:∀{l:List Nat} {ds:List PyData} {K:Fm} {j:Nat},j∉l->(b7 l ds K)[j]?=K[j]?
 |[],_,_,_,_=>rfl
 |_::_,[],_,_,_=>rfl
 |i::l,d::ds,K,j,h=>by show (b7 l ds (K.set i (.d d)))[j]?=_;rw[qF λq=>h (PG _ q),g8 λq=>h (PO.mpr (.inl q.symm))]
theorem jD:∀{l:List Nat} {ds:List PyData} {K ρ':Fm},l.length=ds.length->K.length=ρ'.length->(∀j,j∉l->K[j]?=ρ'[j]?)->b7 l ds K=b7 l ds ρ'
 |[],ds,K,ρ',_,_,h=>by exact((SG λj=>h j (λq=>by cases q)))
 |_::_,[],_,_,hl,_,_=>by injection hl
 |i::l,d::ds,K,ρ',hl,hn,h=>by
   show b7 l ds (K.set i (.d d))=b7 l ds (ρ'.set i (.d d));refine jD (Nat.succ.inj hl) (by rw[Sr,Sr,hn]) λj hj=>?_;by_cases q:i=j
   . subst q;rw[List.getElem?_set,List.getElem?_set,hn];simp
   . rw[g8 q,g8 q];exact h j λz=>(PO.mp z).elim (λz=>q z.symm) (hj)theorem AZ(is:List Nat)(K:Fm):(CP is K).length=K.length:=List.length_mapIdx
theorem Cw{K ρ':Fm}(h:fe t dd K=some ρ'):fe t dd (CP (da t) K)=some ρ'/\∀j,j∉da t->ρ'[j]?=K[j]?:=by
 cases t with
 |var i=>injection h with e;subst e;refine⟨congrArg some ?_,λj hj=>g8 λq=>hj (PN.mpr q.symm)⟩;have:=jD (l:=[i]) (ds:=[dd]) (K:=CP [i] K) (ρ':=K) rfl (AZ ..) λj hj=>AY hj;exact this
 |tup l=>
   obtain⟨ds,hd,h⟩:=kq h;by_cases hl:l.length=ds.length
   . rw[if_pos hl]at h;injection h with e;subst e;refine⟨?_,λj hj=>qF hj⟩;show oc (C7 dd) _ _=_;rw[hd];show (if l.length=ds.length then some (b7 l ds (CP l K)) else none)=_;rw[if_pos hl,jD hl (AZ ..) λj hj=>AY hj]
   . rw[if_neg hl]at h;injection h
theorem FrameOk.less(F:FrameOk Z env ks sc K Y U h)(hl:∀(j:Nat) (v:V),ρ'[j]?=some v->v≠.un->K[j]?=some v):FrameOk Z env ks sc ρ' Y U h:=by
 refine⟨F.kind,F.globals,F.builtins,F.kinds,F.bound,F.inj,?_,?_,F.apart,F.cinj,F.cloc,F.frs⟩
 . obtain⟨m,N,q⟩:=F.ns;exact⟨m,N,λx j h1 h2 v h3 h4=>q x j h1 h2 v (hl j v h3 h4) h4⟩
 . intro x c e;obtain⟨ov,C,q⟩:=F.cell x c e;exact⟨ov,C,λj h1 h2 v h3 h4=>q j h1 h2 v (hl j v h3 h4) h4⟩theorem MW{t:Sem B}{Q:B->Shared->Prop}{E:VP}(h:WP Z A t Q (λ_ _=>False) s):WP Z A t Q E s:=PQ h (λ_ _ x=>x) λ_ _ x=>x.elim
structure Lp(Z:Cx)(A:Around)(O:Addr->Prop)(T:Itr)(cR:List Addr)(bH:ac)(dn:Shared)(X:Heap->Prop)(Y:List Addr)(U:ac)(s:Shared):Prop where
 op:Opened Z A T cR bH dn.heap
 st0:Step (λx=>O x\/x∈T.wr) cR bH dn Y U s
 inv:Inv Z Y U s.heap
 st:X s.heap
 nm:∀a∈T.wr,a∉Y
 n0:∀a∈T.wr,Z.h₀.get? a=none
 live:∀a∈T.wr,(∃o,s.heap.get? a=some o/\¬ gd o)/\¬ cj s.heap a
 stay:∀b∈T.fp,b∈T.wr\/pU Y U s.heap b
 seq:cg cR bH dn.heap Y U s.heap
variable {Ub X:Heap->Prop}{T:Itr}{cl:List (Str×Addr)}{cR:List Addr}{elts:List Expr}{sc':SC}{dn:Shared}
theorem Lp.start(op:Opened Z A T cR bH dn.heap)(I:Inv Z cR bH dn.heap)(hn:∀a∈T.wr,a∉cR)(h0:∀a∈T.wr,Z.h₀.get? a=none):Lp Z A O T cR bH dn (T.St 0) cR bH dn:=
 ⟨op,Step.refl,I,op.start,hn,h0,op.noseq _ _ op.start,op.stay,cg.refl⟩
theorem Lp.exAll(L:Lp Z A O T cR bH dn X Y U s):∀b∈T.fp,∃o,s.heap.get? b=some o:=λb hb=>by
 rcases L.stay b hb with h|h
 . obtain⟨o,e,_⟩:=(L.live b h).1;exact⟨o,e⟩
 . exact h.ex L.inv
theorem Lp.step(L:Lp Z A O T cR bH dn (T.St k) Y U s)(S:Step O Y U s β' σ' s')(I':Inv Z β' σ' s'.heap)(hO:∀x,O x->x∉Y/\¬ cj s.heap x)(hI:∀a∈T.wr,¬ O a):Lp Z A O T cR bH dn (T.St k) β' σ' s':=by
 have keepI:∀a∈T.wr,∀o,s.heap.get? a=some o->s'.heap.get? a=some o:=λa ha o e=>S.keep a o e (λz=>L.nm a ha z.tt.mem) (hI a ha) (by obtain⟨o',e',q⟩:=(L.live a ha).1;rw[e]at e';injection e' with e;subst e;exact q)
 have keep:∀b∈T.fp,∀o,s.heap.get? b=some o->s'.heap.get? b=some o:=λb hb o e=>by
   rcases L.stay b hb with h|h
   . exact keepI b h o e
   . exact(h.keep S L.inv I' hO).1 o e
 have st':=L.op.frame k _ _ L.st keep;refine⟨L.op,L.st0.trans (S.weaken λ_=>.inl),I',st',λa ha m=>?_,L.n0,L.op.noseq _ _ st',λb hb=>?_,L.seq.trans (S.relH λx z=>(hO x z).2)⟩
 . obtain⟨e,rfl,f⟩:=S.ext;rcases PT.mp m with m|m
   . exact L.nm a ha m
   . obtain⟨o,e',_⟩:=(L.live a ha).1;rw[f _ m]at e';injection e'
 . exact(L.stay b hb).imp id λh=>(h.keep S L.inv I' hO).2
theorem Lp.off(L:Lp Z A O T cR bH dn (T.St k) Y U s)(hf:dn.heap.get? a=none)(ha:a∉T.fp)(I':Inv Z Y U s'.heap)(hn:∀o vs n,s.heap.get? a=some o->xA o vs n->TT Y U a)(hk:∀b o,b≠a->s.heap.get? b=some o->s'.heap.get? b=some o)(hg:s'.gens=s.gens)(ho:s'.os=s.os) :
   Lp Z A O T cR bH dn (T.St k) Y U s':=by
 have st':=L.op.frame k _ s'.heap L.st λb hb o e=>hk b o (λq=>ha (q▸hb)) e;refine⟨L.op,L.st0.tail (W:=(·=a)) (λ_ q=>q▸hf) hk hg ho,I',st',L.nm,L.n0,L.op.noseq _ _ st',λb hb=>?_,L.seq.trans λx o vs n e d t=>⟨hk x o (λq=>t (q▸hn o vs n (q▸e) d)) e,t⟩⟩;refine(L.stay b hb).imp id λh=>h.imp id ?_
 rintro⟨⟨o,vs,n,e,d⟩,t⟩
 exact⟨⟨o,vs,n,hk b o (λq=>ha (q▸hb)) e,d⟩,t⟩
theorem Lp.move(L:Lp Z A O T cR bH dn X Y U s)(hk:Kp T s.heap h')(st':Ub h')(hl:∀a∈T.wr,(∃o,h'.get? a=some o/\¬ gd o)/\¬ cj h' a):Lp Z A O T cR bH dn Ub Y U { s with heap:=h',toks:=tk }:=by
 refine⟨L.op,?_,L.inv.touch (W:=(·∈T.wr)) L.nm L.n0 (λa q=>(L.live a q).2) hk,st',L.nm,L.n0,hl,λb hb=>?_,L.seq.trans (λx o vs n e d t=>⟨hk x o (λq=>(L.live x q).2 ⟨o,vs,n,e,d⟩) e,t⟩)⟩
 . refine L.st0.trans ⟨⟨[],by simp,by simp⟩,λk c' _ e=>⟨c',e,id,id,id⟩,Jc λx o e _ hx=>hk x o (λq=>hx (.inr q)) e,λx e=>?_,rfl,rfl⟩;by_cases q:x∈T.wr
   . obtain⟨o,ho,_⟩:=(hl x q).1;have e:h'.get? x=none:=e;rw[ho]at e;injection e
   . cases q':s.heap.get? x with
     |none=>rfl
     |some o=>have e:h'.get? x=none:=e;rw[hk x o q q']at e;injection e
 . by_cases q:b∈T.wr
   . exact .inl q
   . refine(L.stay b hb).imp id λh=>h.imp id ?_
     rintro⟨⟨o,vs,n,e,d⟩,t⟩
     exact⟨⟨o,vs,n,hk b o q e,d⟩,t⟩
theorem Lp.next(L:Lp Z A O T cR bH dn (T.St k) Y U s){E:VP}{Q:Option Value->Shared->Prop}(hk:k < T.shown.length)
   (h:∀v d s',Lp Z A O T cR bH dn (T.Mid k v) Y U s'->T.shown[k]?=some d->Rel (TT Y U) s'.heap v d->Kp T s.heap s'.heap->Q (some v) s'):WP Z A (pyNext (.ref T.Ia)) Q E s:=by
 refine L.op.item k s Q E hk L.st λv h' tk hp md keep=>?_;have L':=L.move (tk:=tk) keep md (L.op.noseqM _ _ _ md);obtain⟨d,h1,h2⟩:=L.op.items k v _ h' hk hp Y U L.inv L'.seq;exact h v d _ L' h1 h2 keep
theorem Lp.skip(L:Lp Z A O T cR bH dn (T.Mid k v) Y U s)(he:T.en=false):Lp Z A O T cR bH dn (T.St (k+1)) Y U s:=
 ⟨L.op,L.st0,L.inv,L.op.skip he _ _ _ L.st,L.nm,L.n0,L.live,L.stay,L.seq⟩
theorem Lp.go(L:Lp Z A O T cR bH dn (T.Mid k v) Y U s){E:VP} 
   (h:∀s',Lp Z A O T cR bH dn (T.St (k+1)) Y U s'->Kp T s.heap s'.heap->Q () s'):WP Z A (letOwnedTupleGo (.Tuple elts n pos) (.ref T.Ia) v) Q E s:=
 L.op.go elts n pos k v s Q E L.st λh' st' keep=>h _ (L.move (tk:=s.toks) keep st' (L.op.noseq _ _ st')) keep
theorem Lp.goT(L:Lp Z A O T cR bH dn (T.Mid k v) Y U s){E:VP}(pt:o6 sc t tx=true)(he:yU t=true\/T.en=false)
   (h:∀s',Lp Z A O T cR bH dn (T.St (k+1)) Y U s'->Kp T s.heap s'.heap->Q () s'):WP Z A (letOwnedTupleGo tx (.ref T.Ia) v) Q E s:=by
 cases t with
 |var i=>replace pt:=av pt;obtain⟨x,h0,hx⟩:=pt;apply gj (bO h0);intro p;exact PJ (h s (L.skip (he.resolve_left P0)) λ_ _ _ e=>e)
 |tup l=>replace pt:=av pt;obtain⟨xs,h0,h1⟩:=pt;apply zb (lv h0);intro k' p;exact L.go h
theorem Lp.done(L:Lp Z A O T cR bH dn (T.St k) Y U s){E:VP}{Q:Option Value->Shared->Prop}(hk:k=T.shown.length)
   (h:∀s',Kp T s.heap s'.heap->s'.gens=s.gens->s'.os=s.os->Q none s'):WP Z A (pyNext (.ref T.Ia)) Q E s:=by
 subst hk;exact L.op.done s Q E L.st λh' tk keep=>h _ keep rfl rfl
set_option tactic.hygienic true in
theorem rA{k:NameKind}(h:names.lookup x=some k) :
   (names.map λ(n,k)=>if (k==NameKind.free&&env.scope.kind==.function&&env.kindOf n==some .cell) then (n,NameKind.cell) else (n,k)).lookup x=some (if (k==NameKind.free&&env.scope.kind==.function&&env.kindOf x==some .cell) then .cell else k):=by
 induction names with
 |nil=>injection h
 |cons a r ih=>
   obtain⟨n,k'⟩:=a;rw[P4]at h;refine(?_:List.lookup x ((if (k'==NameKind.free&&env.scope.kind==.function&&env.kindOf n==some .cell)=true then (n,NameKind.cell) else (n,k'))::_)=_);cases hx:x==n with
   |true=>
     rw[hx]at h;injection h with e;subst e;have:=eq_of_beq hx;subst this;split
     . rename_i hc;simp[P4]
     . rename_i hc;simp[P4]
   |false=>
     rw[hx]at h;split
     . rw[P4,hx];exact ih h
     . rw[P4,hx];exact ih h
set_option tactic.hygienic true in
theorem nA{names:KS}{x:Str}{i:Nat}:∀{l:KS},(∀y∈l,y.2=.free)->(l.filterMap λx=>(sc.lookup x.1).map λi=>(x.1,i)).lookup x=some i->(x,NameKind.free)∈l/\sc.lookup x=some i
 |[]=>@λ_ h=>by injection h
 |(n,k)::l=>@λhl h=>by
   have hk:k=.free:=hl (n,k) (PH ..);subst hk;have ih:=nA (names:=names) (x:=x) (i:=i) (l:=l) λy hy=>hl y (PG _ hy);rw[Rz]at h;cases hs:sc.lookup n with
   |none=>simp only[hs,Option.map_none]at h;exact⟨PG _ (ih h).1,(ih h).2⟩
   |some j=>
     simp only[hs,Sz]at h;rw[P4]at h;split at h
     . rename_i hx;have:=eq_of_beq hx;subst this;injection h with e;subst e;exact⟨PH ..,hs⟩
     . exact⟨PG _ (ih h).1,(ih h).2⟩
set_option tactic.hygienic true in
theorem lj:∀{l:SC},(l.map (·.2)).Nodup->∀{x y:Str} {i:Nat},l.lookup x=some i->l.lookup y=some i->x=y
 |[]=>@λ_ _ _ _ h _=>by injection h
 |(n,j)::l=>@λhn x y i hx hy=>by
   rw[Qs,QY]at hn;have mem:∀{z:Str},l.lookup z=some i->i∈l.map (·.2):=λ{z} h=>by
     have:∃p∈l,p.2=i:=by
       clear hn hx hy
       induction l with
       |nil=>injection h
       |cons a l ih=>
         rw[P4]at h;split at h
         . injection h with e;subst e;exact⟨a,PH ..,rfl⟩
         . obtain⟨p,h1,h2⟩:=ih h;exact⟨p,PG _ h1,h2⟩
     obtain⟨p,h1,h2⟩:=this;exact Qk.mpr ⟨p,h1,h2⟩
   rw[P4]at hx hy;split at hx
   . rename_i h1;injection hx with e;subst e;split at hy
     . rename_i h2;rw[eq_of_beq h1,eq_of_beq h2]
     . exact absurd (mem hy) hn.1
   . split at hy
     . injection hy with e;subst e;exact absurd (mem hx) hn.1
     . exact lj hn.2 hx hy
set_option tactic.hygienic true in
theorem o8:∀{l:SC} {x:Str} {i:Nat},l.lookup x=some i->(x,i)∈l
 |(y,j)::l,x,i,h=>by
   rw[P4]at h;split at h
   . rename_i q;injection h with e;subst e;rw[eq_of_beq q];exact PH ..
   . exact PG _ (o8 h)def vN(scope:Scope):Prop:=∀y∈scope.names,y.2=.local->scope.names.lookup y.1=some .local
def sW(ks:KS)(sc:SC)(scope:Scope):Prop:=∀y,(y,NameKind.free)∈scope.names->scope.names.lookup y=some .free/\(ks.lookup y=some .cell\/ks.lookup y=some .free)/\(sc.lookup y).isSome=true/\co y=true
def vO(sc:SC)(scope:Scope)(xs:List Str)(is:List Nat)(sc':SC):Prop:=∀x i,sc'.lookup x=some i->(x∈xs/\i∈is)\/((x,NameKind.free)∈scope.names/\sc.lookup x=some i/\i∉is)
structure CompNames(ks:KS)(sc:SC)(scope:Scope)(xs:List Str)(is:List Nat)(sc':SC):Prop where
 kind:scope.kind=.function
 loc:vN scope
 free:sW ks sc scope
 nocell:∀y∈scope.names,y.2≠.cell
 x0:∀x∈xs,scope.names.lookup x=some .local/\co x=true
 inj:(sc'.map (·.2)).Nodup
 at1:vO sc scope xs is sc'
set_option tactic.hygienic true in
theorem rB:∀{l l':SC} {x:Str} {i:Nat},(l++l').lookup x=some i->(x,i)∈l\/l'.lookup x=some i
 |[],_,_,_,h=>.inr h
 |(y,j)::l,l',x,i,h=>by
   rw[List.cons_append,P4]at h;split at h
   . rename_i q;injection h with e;subst e;exact(eq_of_beq q)▸.inl (PH ..)
   . exact(rB h).imp (PG _) id
theorem Ck(h:Fw ks sc scope t tx=true):CompNames ks sc scope (fS tx) (da t) (dE sc scope.names t tx):=by
 obtain⟨hk,hn,hx,hi,hl⟩:=NG h;replace hk:=of_decide_eq_true hk;replace hi:=of_decide_eq_true hi;replace hl:=of_decide_eq_true hl;have hn':=QP.mp hn;have hfr:∀y,(y,NameKind.free)∈scope.names->scope.names.lookup y=some .free/\(ks.lookup y=some .cell\/ks.lookup y=some .free)/\(sc.lookup y).isSome=true/\co y=true:=λy hy=>by obtain⟨q1,q2,q3,q4⟩:=sC (show (decide (scope.names.lookup y=some .free)&&decide (ks.lookup y=some .cell\/ks.lookup y=some .free)&&(sc.lookup y).isSome&&co y)=true from hn' _ hy);exact⟨of_decide_eq_true q1,of_decide_eq_true q2,q3,q4⟩
 refine⟨hk,λy hy hl=>?_,hfr,λy hy hc=>?_,λx hx'=>?_,hi,λx i hx=>?_⟩
 . have:=hn' y hy;rw[hl]at this;simpa using this
 . have:=hn' y hy;rw[hc]at this;injection this
 . have:=QP.mp hx x hx';simpa only[P5,decide_eq_true_eq] using this
 . rcases rB hx with q|q
   . exact .inl ⟨(TD q).1,(TD q).2⟩
   . obtain⟨h2,h3⟩:=nA (names:=scope.names) (λy hy=>by have:=(QQ.mp hy).2;simpa using this) q;refine .inr ⟨(QQ.mp h2).1,h3,λz=>?_⟩;unfold dE at hi;rw[PR,List.map_snd_zip (Qm hl.symm)]at hi;exact(RH.mp hi).2.2 i z i (Qk.mpr ⟨(x,i),o8 q,rfl⟩) rfl
set_option tactic.hygienic true in
theorem Cm{xs:List Str}(N:CompNames ks sc scope xs is sc')(F:FrameOk Z env ks sc K Y U h)
   (h2:∀x c,cl.lookup x=some c->env.cells.lookup x=some c) (h3:∀x,(x,NameKind.free)∈scope.names->(cl.lookup x).isSome=true) (h4:∀x,(cl.lookup x).isSome=true->(x,NameKind.free)∈scope.names)
   (hC:h.get? C=none) (hCb:C∉β') (hC0:Z.h₀.get? C=none) (hn:h'.Ns C λ_=>none) (hk:∀b o,h.get? b=some o->h'.get? b=some o) (hv:∀w v,aE Y U h w v->aE β' σ' h' w v) (hβ:∀a o,h.get? a=some o->a∉Y->a∉β') :
   FrameOk Z (compEnvC scope cl C env) scope.names sc' (CP is K) β' σ' h':=by
 have kd:∀x k,scope.names.lookup x=some k->(compEnvC scope cl C env).kindOf x=some (if (k==NameKind.free&&env.scope.kind==.function&&env.kindOf x==some .cell) then .cell else k):=λx k hx=>rA hx;have kl:∀x∈xs,(compEnvC scope cl C env).kindOf x=some .local:=λx hx=>by rw[kd x .local (N.x0 x hx).1];rfl
 have kf:∀x,(x,NameKind.free)∈scope.names->(compEnvC scope cl C env).kindOf x=some .cell\/(compEnvC scope cl C env).kindOf x=some .free:=λx hx=>by
   rw[kd x .free (N.free x hx).1];split
   . exact .inl rfl
   . exact .inr rfl
 refine⟨N.kind,F.globals,F.builtins,λx k hx=>?_,λx i hx=>?_,λx y i hx hy=>lj N.inj hx hy,⟨_,hn,λx i hx hl v hv' hu=>?_⟩,λx c hc=>?_,λa ha=>?_,λx y c hx hy=>F.cinj x y c (h2 x c hx) (h2 y c hy),λx hx=>?_,λf hf=>?_⟩
 . rw[kd x k hx];split
   . rename_i hc;simp only[P5]at hc;exact .inr ⟨eq_of_beq hc.1.1,rfl⟩
   . exact .inl rfl
 . rcases N.at1 x i hx with⟨h1,_⟩|⟨hf,hs,_⟩
   . exact⟨.inl (kl x h1),(cV (N.x0 x h1).2).2⟩
   . obtain⟨c,hc⟩:=Qj.mp (h3 x hf);exact⟨.inr ⟨kf x hf,c,hc⟩,(cV (N.free x hf).2.2.2).2⟩
 . exfalso;rcases N.at1 x i hx with⟨_,h2⟩|⟨hf,_,_⟩
   . exact(qi hv' hu).1 h2
   . rcases kf x hf with q|q<;>rw[hl]at q<;>(injection q with e;injection e)
 . obtain⟨ov,⟨o,ho,hd⟩,q⟩:=F.cell x c (h2 x c hc);refine⟨ov,⟨o,hk c o ho,hd⟩,λi hx hk' v hv' hu=>?_⟩;have hf:=h4 x (by have hc:List.lookup x cl=some c:=hc;rw[hc];rfl);rcases N.at1 x i hx with⟨h1,_⟩|⟨_,hs,hne⟩
   . have:=(N.free x hf).1;rw[(N.x0 x h1).1]at this;injection this with e;injection e
   . replace hv':=(qi hv' hu).2;have hkx:env.kindOf x=some .cell\/env.kindOf x=some .free:=by
       rcases (N.free x hf).2.1 with q|q
       . exact(F.kinds x _ q).elim .inl λz=>by cases z.1
       . exact(F.kinds x _ q).elim .inr λz=>.inl z.2
     obtain⟨w,g1,g2⟩:=q i hs hkx v hv' hu;exact⟨w,g1,hv _ _ g2⟩
 . clear kf kd;rcases ha with rfl|⟨x,hx⟩
   . exact⟨hCb,hC0⟩
   . have hown:own env a:=.inr ⟨x,h2 x a hx⟩;obtain⟨o,ho,_⟩:=F.ownSome hown;exact⟨hβ a o ho (F.apart a hown).1,(F.apart a hown).2⟩
 . obtain⟨o,ho,_⟩:=F.ownSome (.inr ⟨x,h2 x C hx⟩);rw[hC]at ho;injection ho
 . refine kk λUc k=>?_;obtain⟨⟨o,e,q⟩,nb,n0⟩:=F.frs f hf;refine k ?_;exact⟨⟨o,hk f o e,q⟩,hβ f o e nb,n0⟩def xE(G:GD)(cf:CF)(t:Tgt)(c:EL)(e:E)(K:Fm):PyData->ac->Res (Option PyData):=λx σ'=>match fe t x K with
 |none=>.bad
 |some ρ'=>(dD G cf c ρ' σ').bind λcv ae=>match cv with
   |none=>(af G cf e ρ' ae).bind λy aF=>bv ((bN y).map some) aF
   |some cv=>(bv (truthy ae cv) ae).bind λb ae=>if b then (af G cf e ρ' ae).bind λy aF=>bv ((bN y).map some) aF else .ok none (ae)theorem zd(G:GD)(cf:CF)(m:Bool)(t:Tgt)(it:It)(c:EL)(e:E)(K:Fm)(U:ac):af G cf (.comp m t it c e) K U=(cA G cf it K U).bind λI aa=>(iH (xE G cf t c e K) I.1 (c5 I.2.2 aa++[.busy])).bind λr ae=>bh m r ((bx I.2.2 I.2.1 ae).take aa.length):=(rfl)def Jg(G:GD)(cf:CF)(c:EL)(e:E)(ρ':Fm)(σ':ac):Res (Option PyData):=(dD G cf c ρ' σ').bind λcv ae=>match cv with
   |none=>(af G cf e ρ' ae).bind λy aF=>bv ((bN y).map some) aF
   |some cv=>(bv (truthy ae cv) ae).bind λb ae=>if b then (af G cf e ρ' ae).bind λy aF=>bv ((bN y).map some) aF else .ok none (ae)variable {c:EL}{o:Option PyData}
theorem Fx{x:PyData}(h:xE G cf t c e K x U=.ok o σ'):∃ρ',fe t x K=some ρ'/\Jg G cf c e ρ' U=.ok o σ':=by
 unfold xE at h;cases hb:fe t x K with
 |none=>rw[hb]at h;injection h
 |some ρ'=>rw[hb]at h;exact⟨ρ',rfl,h⟩
inductive CompDone(Z:Cx)(Y:List Addr)(U:ac)(s:Shared)(v:V)(σ':ac)(acc:Value)(C:Addr)(s':Shared):Prop where
 |mk (β':List Addr) (mm:Str->Option Value) (h1:Step cz Y U s β' σ' s') (h2:Inv Z β' σ' s'.heap) (h3:aE β' σ' s'.heap acc v) (h4:s'.heap.Ns C mm) (h5:s.heap.get? C=none) (h6:C∉β'):CompDone Z Y U s v σ' acc C s'
variable {l r:List PyData}{f:PyData->ac->Res (Option PyData)}
theorem zi{d:PyData}(hd:l[k]?=some d)(h:iH f (l.drop k) U=.ok r σ') :
   X3 λo aa wu=>A3 (f d U=.ok o aa) (iH f (l.drop (k+1)) aa=.ok wu σ') (r=o.toList++wu):=by
 have hd':=(PB.mp hd).2;rw[QV ((PB.mp hd).1),hd']at h;replace h:((f d U).bind λo aa=>(iH f (l.drop (k+1)) aa).bind λr ae=>.ok (o.toList++r) ae)=.ok r σ':=h;refine kk λUc k=>?_;obtain⟨o,aa,h1,h2⟩:=Res.bind_ok h;obtain⟨wu,ae,h2,h3⟩:=Res.bind_ok h2;clear h;cases (h3);refine k ?_;exact⟨o,aa,wu,h1,h2,rfl⟩variable {Dd:Addr}{ce:Env}{elt iter:Expr}{ρt:Fm}{βk βc:List Addr}{ifs:List Expr}{nb mm:Nat}{sb oX sz:Shared}{σL σk σb σc:ac}{mC:Str->Option Value}{v:V}{Q:VP}theorem nh{m:Str->Option Value}(hn:h.Ns a m):¬ cj h a:=λ⟨o,vs,n,e,d⟩=>by obtain⟨o',es,ep,e',hd,_⟩:=hn;rw[e]at e';injection e' with e;subst e;rcases d with d|⟨_,_,d|d⟩<;>rw[hd]at d<;>injection d
theorem xY{x:Value}{E:VP}(e:s.heap.get? a=some (eP vs n))(hz:vs.size<=sizeLine)
   (q:∀h' m,h'.get? a=some (eP (vs.push x) m)->(∀b o,b≠a->s.heap.get? b=some o->h'.get? b=some o)->Q .none { s with heap:=h' }):WP Z A (call (.builtin "list.append") [.ref a,x]) Q E s:=by
 refine call_meets F.slot_list_append ⟨_,e,rfl⟩ F.entry_list_append (F.args_list_append_2 _ _) (list_append a vs n x hz) ⟨e,?_⟩;obtain⟨⟨m',e'⟩,hk⟩:=ka (f:=λx_1=>x_1.push x) e;exact q _ m' e' (hk)theorem Step.takeN(a:Step O Y U s ag aa ai)(hn:Y.length<=n):Step O Y U s (ag.take n) (aa.take n) ai:=by obtain⟨e,rfl,f⟩:=a.ext;refine⟨⟨e.take (n - Y.length),by rw[List.take_append,RD hn],λx hx=>f x (Qa hx)⟩,λk c' hk hc=>a.mono k c' hk ?_,a.keepW,a.alive,a.gens,a.os⟩;rw[Rm,if_pos (by lia)]at hc;exact(hc)theorem zT(h:k < n):n+1 - (k+1) < n+1 - k:=Nat.sub_lt_sub_left (Nat.lt_succ_of_lt h) (RP k)
inductive CompPk(Z:Cx)(A:Around)(T:Itr)(ag:List Addr)(σL:ac)(aq:Shared)(env:Env)(ks:KS)(sc:SC)(n:Nat)(Dd:Addr)(k kk:Nat)(done:List PyData)(βk:List Addr)(σk:ac)(s':Shared)(ρ':Fm):Prop where
 |mk (L:Lp Z A cz T ag σL aq (T.St k) βk σk s') (Fr:FrameOk Z env ks sc ρ' βk σk s'.heap) (db:βk[n]?=some Dd) (dc:σk[n]?=some .busy) (ys:Array Value) (mm:Nat) (dh:s'.heap.get? Dd=some (eP ys mm)) (dr:RelAll (TT βk σk) s'.heap ys.toList done) (dz:ys.size<=kk):CompPk Z A T ag σL aq env ks sc n Dd k kk done βk σk s' ρ'
inductive CompJ(Z:Cx)(A:Around)(T:Itr)(ag:List Addr)(σL:ac)(aq:Shared)(env:Env)(ks:KS)(sc:SC)(nb:Nat)(Dd:Addr)(K:Fm)(f:PyData->ac->Res (Option PyData))(r:List PyData)(ae:ac)(n:Nat)(s':Shared):Prop where
 |mk (k:Nat) (βk:List Addr) (σk:ac) (done rest:List PyData) (h1:n=T.shown.length+1 - k) (h2:k<=T.shown.length) (pk:CompPk Z A T ag σL aq env ks sc nb Dd k k done βk σk s' K) (h4:iH f (T.shown.drop k) σk=.ok rest ae) (h5:r=done++rest):CompJ Z A T ag σL aq env ks sc nb Dd K f r ae n s'
theorem CompPk.lp{kk:Nat}{done:List PyData}:CompPk Z A T ag σL aq env ks sc n Dd k kk done βk σk s' ρ'->Lp Z A cz T ag σL aq (T.St k) βk σk s'
 |⟨L,_,_,_,_,_,_,_,_⟩=>(L)theorem CompPk.fr{kk:Nat}{done:List PyData}:CompPk Z A T ag σL aq env ks sc n Dd k kk done βk σk s' ρ'->FrameOk Z env ks sc ρ' βk σk s'.heap
 |⟨_,F,_,_,_,_,_,_,_⟩=>F
theorem CompPk.step{kk:Nat}{done:List PyData}{βb:List Addr}(pk:CompPk Z A T ag σL aq env ks sc n Dd k kk done βk σk s' ρ')(S:Step cz βk σk s' βb σb sb)(Ib:Inv Z βb σb sb.heap):CompPk Z A T ag σL aq env ks sc n Dd k kk done βb σb sb ρ':=by
 obtain⟨L,Fr,db,dc,ys,mm,dh,dr,dz⟩:=pk;have hlt:n < βk.length:=(PB.mp db).1;have hltb:n < σb.length:=by rw[<- Ib.len];exact(PB.mp (S.get db)).1
 obtain⟨c',h1,_,_,hbz⟩:=S.mono n σb[n] hlt (PD hltb);rw[dc]at h1;injection h1 with e;subst e;exact⟨L.step S Ib (λx z=>z.elim) (λ_ _=>id),Fr.step S,S.get db,by rw[PD hltb,hbz rfl],ys,mm,(pU.keep S L.inv Ib (λx z=>z.elim) (.inl ⟨n,db,dc⟩)).1 _ dh,S.relAll0 dr,dz⟩
theorem Ci{prog:Program}{R:Result->Shared->Prop}{elt target iter:Expr}{ifs:List Expr}{scope:Scope}{pos:Pos}{acc:Value}(Ue:Nat->Shared->Prop)
   (turn:∀n s,Ue n s->wpAny (model prog w) A (pyNext it) (λr ai=>match r with
     |none=>R (.ok .next) ai
     |some v=>wpAny (model prog w) A (letOwnedTupleGo target it v) (λ_ ai=>wpAny (model prog w) A (assign target env v) (λ_ aq=>
         wpAny (model prog w) A (forIn ifs true λc r=>if r=true then do let ok <- isTrue c env (eval c env);pure (ForInStep.yield ok) else pure (ForInStep.yield r)) (λok aW=>
           if ok=true then wpAny (model prog w) A (eval elt env) (λx dJ=>wpAny (model prog w) A (call (.builtin "list.append") [acc,x]) (λ_ gm=>∃m,m < n/\Ue m gm) (λ_ _=>False) dJ) (λ_ _=>False) aW
           else ∃m,m < n/\Ue m aW) (λ_ _=>False) aq) (λ_ _=>False) ai) (λ_ _=>False) ai) (λ_ _=>False) s) (n:Nat) {s:Shared} (h:Ue n s) :
   codeAny (model prog w) A (.compLoop (.ListComp elt [⟨target,iter,ifs,0⟩] scope pos) 0 it acc env) R s:=by
 refine codeAny_loop rfl Ue (λn s hI=>?_) n h;refine(?_:wpAny _ A ((compTurn (.ListComp elt [⟨target,iter,ifs,0⟩] scope pos) 0 it acc env).onRaise (λx=>do noteFrame x env;theTreesLotGoes x)) _ _ s);refine wpAny_noted ?_;rw[compTurn_list];refine OL (QA (OL (PQ (turn n s hI) (λr ai bj=>?_) λ_ _ x=>x.elim)));cases r with
 |none=>exact PJ bj
 |some v=>
   refine OL (PQ bj (λ_ ai bj=>OL (PQ bj (λ_ aq gg=>OL (PQ gg (λok aW oK=>?_) λ_ _ x=>x.elim)) λ_ _ x=>x.elim)) λ_ _ x=>x.elim);cases ok with
   |false=>exact PJ ⟨rfl,oK⟩
   |true=>exact OL (OL (PQ oK (λx dJ Hw=>OL (PQ Hw (λ_ gm Og=>PJ (PJ ⟨rfl,Og⟩)) λ_ _ x=>x.elim)) λ_ _ x=>x.elim))
theorem t9{done:List PyData}{Q:Shared->Prop}(he:PE Z P gn G cf d e)(hme:mE P gn ks sc e elt=true)(hA:lT Z d A)(hDf:aq.heap.get? Dd=none)(hfpD:Dd∉T.fp)(hz:k<=sizeLine)
   (pk:CompPk Z A T ag σL aq ce ks sc nb Dd (k+1) k done βc σc oX ρt) (h:((af G cf e ρt σc).bind λy aF=>bv ((bN y).map some) aF)=.ok o σb)
   (fin:∀βd gm,CompPk Z A T ag σL aq ce ks sc nb Dd (k+1) (k+1) (done++o.toList) βd σb gm ρt->Q gm) :
   WP Z A (eval elt ce) (λx dJ=>WP Z A (call (.builtin "list.append") [.ref Dd,x]) (λ_ gm=>Q gm) (λ_ _=>False) dJ) (λ_ _=>False) oX:=by
 refine kk λUc k=>?_;obtain⟨y,aF,hy,hl⟩:=Res.bind_ok h;obtain⟨yd,hyd,eo,eσ⟩:=jm hl;rw[b9 hyd,<- eσ]at hy;refine k ?_;refine PQ ((he ks sc elt _ _ A βc σc oX hme hA pk.fr pk.lp.inv).1 _ _ hy) (λx dJ ⟨βd,Sd,Id,rx⟩=>?_) λ_ _ x=>x;obtain⟨Ld,Fd,db',dc',ys',mm',dh',dr',dz'⟩:=CompPk.step pk Sd Id;refine xY dh' (iv dz' hz) λh' m' e' hk'=>fin βd _ ?_;refine(Ld.inv.touchBusy db' dc' hk' ⟨_,e'⟩).elim λIe sq=>?_;rw[eo];exact⟨Ld.off (s':={ dJ with heap:=h' }) (a:=Dd) hDf hfpD Ie (λ_ _ _ _ _=>⟨_,_,db',dc',rfl⟩) hk' rfl rfl,
   Fd.map sq.vrel (λb hb o e=>hk' b o (λq=>(Fd.frs b hb).2.1 (q▸PF db')) e) λb hb o e=>hk' b o (λq=>(Fd.apart b hb).1 (q▸PF db')) e,
   db',dc',_,m',e',by rw[Tg];exact(dr'.mono sq).append (.one (Rel.mono sq rx)),by rw[Array.size_push];exact PP dz'⟩
theorem Ch{done:List PyData}{Q:Shared->Prop}(hc:Iw Z P gn G cf d c)(he:PE Z P gn G cf d e)
   (hmc:(match ifs with | []=>AB P gn ks sc c none | [x]=>AB P gn ks sc c (some x) | _=>false)=true) (hme:mE P gn ks sc e elt=true) (hA:lT Z d A) (hDf:aq.heap.get? Dd=none) (hfpD:Dd∉T.fp) (hz:k<=sizeLine)
   (pk:CompPk Z A T ag σL aq ce ks sc nb Dd (k+1) k done βk σk sb ρt) (hf:Jg G cf c e ρt σk=.ok o σb)
   (fin:∀βd gm,CompPk Z A T ag σL aq ce ks sc nb Dd (k+1) (k+1) (done++o.toList) βd σb gm ρt->Q gm) :
   WP Z A (forIn ifs true λc r=>if r=true then do let ok <- isTrue c ce (eval c ce);pure (ForInStep.yield ok) else pure (ForInStep.yield r)) (λok aW=>if ok=true then WP Z A (eval elt ce) (λx dJ=>WP Z A (call (.builtin "list.append") [.ref Dd,x]) (λ_ gm=>Q gm) (λ_ _=>False) dJ) (λ_ _=>False) aW else Q aW) (λ_ _=>False) sb:=by
 cases ifs with
 |nil=>
   clear hc;cases c with
   |cons e r=>exact Q5 (show false=true from hmc)
   |nil=>exact wpAny_tests_nil (by rw[if_pos rfl];exact t9 he hme hA hDf hfpD hz pk hf fin)
 |cons x xs=>
   cases xs with
   |cons _ _=>injection hmc
   |nil=>
     obtain⟨c',_,ec,Ud⟩:=hc.2 ks sc x _ _ A βk σk sb (hmc:AB P gn ks sc c (some x)=true) hA pk.fr pk.lp.inv;replace hf:=ec▸hf;clear hmc hc ec;refine kk λUc k=>?_;obtain⟨cv,σc,hcv,hf⟩:=Res.bind_ok hf;obtain⟨cv',σc',hcv',hq⟩:=Res.bind_ok (r:=af G cf c' ρt σk) (f:=λx aa=>.ok (some x) aa) hcv;cases (hq);obtain⟨b,σd,hb,hf⟩:=Res.bind_ok hf;have htr:truthy σc cv'=some b/\σd=σc:=by
       clear hf;cases hq:truthy σc cv' with
       |none=>rw[hq]at hb;injection hb
       |some b'=>replace hb:=hq▸hb;cases (hb);exact⟨rfl,rfl⟩
     obtain⟨htr,rfl⟩:=htr;refine k ?_;refine wpAny_tests_one (PQ (Ud.2 b σd (by rw[hcv'];simp[mU,Res.bind,bv,htr])) (λa oX ⟨βc,Sc,Ic,q⟩=>?_) λ_ _ x=>x);refine q▸?_;have pkc:=CompPk.step pk Sc Ic;clear hf;cases b with
     |true=>rw[if_pos rfl];exact t9 he hme hA hDf hfpD hz pkc hf fin
     |false=>rw[if_neg P0];cases (hf);obtain⟨Lc,Fc,db',dc',ys',mm',dh',dr',dz'⟩:=pkc;exact fin βc oX ⟨Lc,Fc,db',dc',ys',mm',dh',by rw[Option.toList_none,P6];exact dr',Qv dz'⟩
theorem Fv{m:Bool}(aH:Step cz Y U s ag aa aq)(ay:Inv Z ag aa aq.heap)(h0:∀a,s.heap.get? a=none->Z.h₀.get? a=none)(hw:∀a∈T.wr,s.heap.get? a=none/\a∉ag)
   (Op:Opened Z A T ag (c5 I.2.2 aa) aq.heap) (hlk:∀n,I.2.2=some n->aa[n]?=some (.lst I.2.1)) (hrl:r.length<=LIM) (hCs:s.heap.get? C=none) (hfpC:C∉T.fp) (L:Lp Z A cz T ag (c5 I.2.2 aa) aq X βk ae s') (hnC:s'.heap.Ns C mC) (hCk:C∉βk) (db:βk[aa.length]?=some Dd) (dc:ae[aa.length]?=some .busy)
   (dh:s'.heap.get? Dd=some (eP ys mm)) (dr:RelAll (TT βk ae) s'.heap ys.toList r) (hkz:Kp T s'.heap sz.heap) (hgz:sz.gens=s'.gens) (hoz:sz.os=s'.os) (hv:bh m r ((bx I.2.2 I.2.1 ae).take aa.length)=.ok v σ'):CompDone Z Y U s v σ' (.ref Dd) C sz:=by
 obtain⟨Sx,Ix,ttx⟩:=lD aH ay hlk L.st0 L.inv (λx z=>z.elim) (λa q=>(Op.noseq 0 _ Op.start a q).2) (λa q=>(hw a q).1);have hUn:(bx I.2.2 I.2.1 ae)[aa.length]?=some .busy:=by
   cases hlk':I.2.2 with
   |none=>exact dc
   |some n=>show (ae.set n _)[aa.length]?=_;rw[d3 (QG (PB.mp (hlk n hlk')).1)];exact dc
 generalize bx I.2.2 I.2.1 ae=Ua at *;have hnβ:Y.length<=aa.length:=by obtain⟨e,q,_⟩:=aH.ext;rw[<- ay.len,q,PC];exact PW _ _
 have hnsI:∀a,a∈T.wr->¬ cj s'.heap a:=λa q=>(L.live a q).2;have dU:=dr.mono λx o _ _ e _ t=>⟨e,λz=>t ((ttx x).mp z)⟩;have key:∀{βf:List Addr},Step cz Y U s βf σ' s'->Inv Z βf σ' s'.heap->(∀a∈T.wr,a∉βf)->C∉βf->aE βf σ' s'.heap (.ref Dd) v->CompDone Z Y U s v σ' (.ref Dd) C sz:=by intro βf Sf If nI nC rv;refine⟨βf,mC,Sf.tail (W:=(·∈T.wr)) (λa q=>(hw a q).1) hkz hgz hoz,If.touch (W:=(·∈T.wr)) nI (λa q=>h0 a (hw a q).1) hnsI hkz,j9 (W:=(·∈T.wr)) hkz hnsI rv,?_,hCs,nC⟩;obtain⟨o,es,ep,ho,q⟩:=hnC;exact⟨o,es,ep,hkz _ _ (λq=>hfpC (Op.sub _ q)) ho,q⟩
 cases m with
 |false=>
   cases (hv);refine key (βf:=βk.take aa.length) (Sx.takeN hnβ) (Ix.take _) (λa ha q=>L.nm a ha (Qa q)) (λq=>hCk (Qa q)) ?_;refine .list dh (λz=>?_) hrl (dU.mono λx o _ _ e _ t=>⟨e,λz=>t (oa z)⟩);obtain⟨j,c',q1,_,_⟩:=z;rw[Rm]at q1;by_cases hj:j < aa.length
   . rw[if_pos hj]at q1;exact L.inv.addr_ne db q1 (Sm hj) rfl
   . rw[if_neg hj]at q1;injection q1
 |true=>
   cases (hv);have So:Step cz Y U s βk (Ua.set aa.length (.lst r)) s':=⟨Sx.ext,λj c' hj hc'=>by rw[d3 (Sm (Qt hj hnβ))]at hc';exact Sx.mono j c' hj hc',Sx.keepW,Sx.alive,Sx.gens,Sx.os⟩
   have htk:(Ua.take aa.length).length=aa.length:=by rw[Qn];exact Qo (Qg (PB.mp hUn).1)
   have e1:(Ua.set aa.length (.lst r)).take (aa.length+1)=Ua.take aa.length++[.lst r]:=by rw[List.take_add_one];rw[dg hUn,List.take_set_of_le (Qb _)];rfl
   exact key (βf:=βk.take (aa.length+1)) (e1▸So.takeN (Qv hnβ)) (e1▸(Ix.openBusy db hUn dh dU hrl).take _) (λa ha q=>L.nm a ha (Qa q)) (λq=>hCk (Qa q)) ⟨Dd,by rw[htk,Rm,if_pos (RP _)];exact db,rfl⟩
theorem Cj{c:EL}(hc:Iw Z P gn G cf d c)(he:PE Z P gn G cf d e) 
   (N:CompNames ks sc scope (fS tx) (da t) sc') (hmt:o6 sc' t tx=true) (hh:A.handled=none) (hmc:(match ifs with | []=>AB P gn scope.names sc' c none | [x]=>AB P gn scope.names sc' c (some x) | _=>false)=true) (hme:mE P gn scope.names sc' e elt=true)
   (h2:∀x c,cl.lookup x=some c->env.cells.lookup x=some c) (h3:∀x,(x,NameKind.free)∈scope.names->(cl.lookup x).isSome=true) (h4:∀x,(cl.lookup x).isSome=true->(x,NameKind.free)∈scope.names)
   (hA:lT Z d A) (Iv:Inv Z Y U s.heap) {I:j2} {T:Itr} (hsh:T.shown=I.1) (hen:yU t=true\/T.en=false)
   (aH:Step cz Y U s ag aa aq) (ay:Inv Z ag aa aq.heap) (hw:∀a∈T.wr,s.heap.get? a=none/\a∉ag) (Op:Opened Z A T ag (c5 I.2.2 aa) aq.heap) (hlk:∀n,I.2.2=some n->aa[n]?=some (.lst I.2.1)) (hlen:I.1.length<=LIM)
   (Ga:FrameOk Z env ks sc K Y U s.heap) {m:Bool} {r:List PyData} {ae:ac} (hr:iH (xE G cf t c e K) I.1 (c5 I.2.2 aa++[.busy])=.ok r ae) {v:V} {σ':ac} (hv:bh m r ((bx I.2.2 I.2.1 ae).take aa.length)=.ok v σ') :
   WP Z A (newList []) (λacc aW=>WP Z A (newFunctionEnv scope env.globals cl [] env.qual none .none (some env)) (λcenv dJ=>
     codeAny (model Z.prog Z.w) A (.compStart (.ListComp elt [⟨tx,iter,ifs,0⟩] scope pos) 0 (.ref T.Ia) acc { cenv with scope:=relabel scope env }) (λr s'=>match r with | .ok _=>CompDone Z Y U s v σ' acc cenv.locals s' | .error _=>False) dJ) (λ_ _=>False) aW) (λ_ _=>False) aq:=by
 rw[<- hsh]at hlen hr;have F:=Ga.step aH;have h0:∀a,s.heap.get? a=none->Z.h₀.get? a=none:=λa ha=>by
   cases q:Z.h₀.get? a with
   |none=>rfl
   |some o=>rw[Iv.base a o q]at ha;injection ha
 have h0':∀a,aq.heap.get? a=none->s.heap.get? a=none:=aH.alive;have q9:=AC ay hlk;have IL:=q9.1;have SL:=q9.2;generalize hσL:c5 I.2.2 aa=σL at *;have hlL:σL.length=aa.length:=by clear hr;subst hσL;cases I.2.2 with|none=>rfl|some n=>exact Sr
 have hn0:ag.length=aa.length:=ay.len;refine wpAny_newList ?_ (by simp);generalize hDd:aq.heap.objs.size=Dd;have hDf:aq.heap.get? Dd=none:=by exact hDd▸bo _
 refine wpAny_newFunctionEnv N.nocell (by intro y hy;simp at hy) (λbj rJ vc=>?_) N.kind;dsimp only at rJ vc ⊢;generalize hH3:aq.heap.push { cls:=.type "list",dict:=none,data:=.seq ([]:List Value).toArray }=H3 at rJ vc ⊢;have hk23:∀b o,aq.heap.get? b=some o->H3.get? b=some o:=λb o e=>by exact hH3▸PI _ e
 have hD3:H3.get? Dd=some (eP #[] 0):=by exact hH3▸hDd▸PX _ rfl
 generalize hC:H3.objs.size=C at rJ vc ⊢;have hCf3:H3.get? C=none:=by exact hC▸bo _
 have hCf:aq.heap.get? C=none:=by
   cases q:aq.heap.get? C with
   |none=>rfl
   |some o=>rw[hk23 _ _ q]at hCf3;injection hCf3
 have hDC:Dd≠C:=λq=>by rw[q,hCf3]at hD3;injection hD3
 have hk34:∀b o,H3.get? b=some o->bj.get? b=some o:=λb o e=>(vc.2 b (λq=>by rw[q,hCf3]at e;injection e)).trans (PI _ e);have hk24:∀b o,aq.heap.get? b=some o->bj.get? b=some o:=λb o e=>hk34 b o (hk23 b o e)
 -- the state behind
 have NB:=uQ (O:=cz) (s:=aq) (ai:={ aq with heap:=bj,toks:=aq.toks+([]:List (Str×Value)).length }) (a:=Dd) (c:=.busy) IL hk24 hDf rfl rfl ⟨_,hk34 _ _ hD3⟩;have hC4:∃o,bj.get? C=some o:=by obtain⟨o,_,_,ho,_⟩:=rJ;exact⟨o,ho⟩
 have hCβ:C∉ag++[Dd]:=λmm=>by
   rcases PT.mp mm with q|q
   . exact ay.notMem hCf q
   . simp at q;exact hDC q.symm
 have FC:FrameOk Z (compEnvC scope cl C env) scope.names sc' (CP (da t) K) (ag++[Dd]) (σL++[.busy]) bj:=
   Cm N F h2 h3 h4 hCf hCβ (h0 C (h0' C hCf)) rJ hk24 (λw v q=>(SL.trans NB.1).vrel0 q) λa o ho hb mm=>by
     rcases PT.mp mm with q|q
     . exact hb q
     . simp at q;rw[q,hDf]at ho;injection ho
 have vJ:Lp Z A cz T ag σL aq (T.St 0) ag σL aq:=Lp.start Op IL (λa q=>(hw a q).2) λa q=>h0 a (hw a q).1;have NJ:Lp Z A cz T ag σL aq (T.St 0) (ag++[Dd]) (σL++[.busy]) { aq with heap:=bj,toks:=aq.toks+([]:List (Str×Value)).length }:=
   vJ.step NB.1 NB.2 (λx z=>z.elim) λ_ _=>id
 have hfpC:C∉T.fp:=λq=>by obtain⟨o,ho⟩:=vJ.exAll C q;rw[hCf]at ho;injection ho
 have hfpD:Dd∉T.fp:=λq=>by obtain⟨o,ho⟩:=vJ.exAll Dd q;rw[hDf]at ho;injection ho
 have ownC:∀a,own (compEnvC scope cl C env) a->a=C\/∃o,aq.heap.get? a=some o:=λa ha=>by
   rcases ha with q|⟨x,hx⟩
   . exact .inl q
   . obtain⟨o,ho,_⟩:=F.ownSome (.inr ⟨x,h2 x a hx⟩);exact .inr ⟨o,ho⟩
 have hIaOwn:∀a∈T.wr,¬ own (compEnvC scope cl C env) a:=λa ha z=>by
   rcases z with q|⟨x,hx⟩
   . have q:a=C:=q;exact hfpC (Op.sub _ (q▸ha))
   . obtain⟨o,ho,_⟩:=Ga.ownSome (.inr ⟨x,h2 x a hx⟩);rw[(hw a ha).1]at ho;injection ho
 -- what a turn keeps
 let Pk:Nat->Nat->List PyData->List Addr->ac->Shared->Fm->Prop:=CompPk Z A T ag σL aq (compEnvC scope cl C env) scope.names sc' aa.length Dd
 let Ue:Nat->Shared->Prop:=CompJ Z A T ag σL aq (compEnvC scope cl C env) scope.names sc' aa.length Dd (CP (da t) K) (xE G cf t c e K) r ae
 have loop:∀aW:Shared,aW={ aq with heap:=bj,toks:=aq.toks+([]:List (Str×Value)).length }->
     codeAny (model Z.prog Z.w) A (.compLoop (.ListComp elt [⟨tx,iter,ifs,0⟩] scope pos) 0 (.ref T.Ia) (.ref Dd) (compEnvC scope cl C env)) (λr s'=>match r with | .ok _=>CompDone Z Y U s v σ' (.ref Dd) C s' | .error _=>False) aW:=by
   rintro aW rfl
   refine Ci Ue ?_ (T.shown.length+1) ⟨0,_,_,[],r,rfl,PU _,⟨NJ,FC,by rw[<- hn0];simp,by rw[<- hlL];simp,#[],0,hk34 _ _ hD3,.nil,Qb _⟩,by simpa using hr,rfl⟩
   rintro n s' ⟨k,βk,σk,done,rest,rfl,hkl,pk,hrest,hdone⟩
   obtain⟨L,Fr,db,dc,ys,mm,dh,dr,dz⟩:=pk;by_cases hlt:k < T.shown.length
   . refine L.next hlt λw dd sa Lm hdd lZ hka=>?_;obtain⟨o,σb,GS,hf,EA,er⟩:=zi hdd hrest;obtain⟨ρt,hbt,hf⟩:=Fx hf;obtain⟨hb1,hb2⟩:=Cw hbt;refine Lm.goT (pt:=hmt) hen λsa' La hk'=>?_;replace hka:Kp T s'.heap sa'.heap:=λb o hb e=>hk' b o hb (hka b o hb e);replace lZ:Rel (TT βk σk) sa'.heap w dd:=j9 (W:=(·∈T.wr)) (v:=.d dd) hk' (λa q=>(Lm.live a q).2) lZ;clear hk' Lm;have Fa:FrameOk Z (compEnvC scope cl C env) scope.names sc' (CP (da t) K) βk σk sa'.heap:=Fr.touch (W:=(·∈T.wr)) (λa q=>Ga.frs.not (hw a q).1) hIaOwn (λa q=>(L.live a q).2) hka;have sqa:cg βk σk s'.heap βk σk sa'.heap:=λx o vs n e d t=>⟨hka x o (λq=>(L.live x q).2 ⟨o,vs,n,e,d⟩) e,t⟩;refine FF hh hmt (λx hx=>lookup_relabel_local (N.x0 x hx).1) Fa La.inv (dd:=dd) lZ hb1 λsb Fb Sb Ib kC=>?_;have nsC:¬ cj sa'.heap C:=Fa.notSeq C (.inl rfl);have Lb:=La.off (a:=C) hCf hfpC Ib (λo vs n e d=>absurd ⟨o,vs,n,e,d⟩ nsC) kC Sb.gens Sb.os;refine Ch hc he hmc hme hA hDf hfpD (iv (Qg hlt) (Iy _ hlen)) (⟨Lb,Fb,db,dc,ys,mm,kC _ _ hDC (hka _ _ (λq=>hfpD (Op.sub _ q)) dh),(dr.mono sqa).mono (λx o vs n e d t=>⟨kC x o (λq=>by have q:x=C:=q;rw[q]at e;exact nsC ⟨o,vs,n,e,d⟩) e,t⟩),dz⟩) hf λβd gm pk=>?_;obtain⟨Ld,Fd,db',dc',ys',mm',dh',dr',dz'⟩:=pk;exact⟨T.shown.length+1 - (k+1),zT hlt,k+1,βd,σb,done++o.toList,GS,rfl,hlt,⟨Ld,Fd.less λj v h1 h2=>(qi h1 h2).2▸hb2 j (qi h1 h2).1,db',dc',ys',mm',dh',dr',dz'⟩,EA,by rw[hdone,er,PV]⟩
   . have hke:k=T.shown.length:=RB hkl (QF hlt);refine L.done hke λsz hkz hgz hoz=>?_;refine kk λUc k=>?_;replace hrest:=Sk▸hke▸hrest;cases (hrest);rw[P6]at hdone;have hrl:r.length<=LIM:=by rw[hdone,<- dr.length,P1];exact iv dz (iv hkl hlen)
     obtain⟨mC,hnC,_⟩:=Fr.ns;rw[<- hσL]at L;refine k ?_;exact Fv aH ay h0 hw (hσL▸Op) hlk hrl (h0' C hCf) hfpC L hnC (Fr.apart C (.inl rfl)).1 db dc dh (hdone▸dr) hkz hgz hoz hv
 exact codeAny_compStart_list (loop _ rfl) (Op.self 0 _ _ _ NJ.st (loop _ rfl))variable {it:It}theorem o4(h:qU iter=true)(x:Value):foldedSetIterable iter env x=pure x:=by cases iter<;>first|rfl|injection h
inductive CompX(P:Nat->Option Fn)(gn:Nat->Str)(ks:KS)(sc:SC)(t:Tgt)(it:It)(c:EL)(e:E)(ex:Expr):Prop where
 |mk (elt tx iter:Expr) (ifs:List Expr) (scope:Scope) (pos:Pos) (h1:ex=.ListComp elt [⟨tx,iter,ifs,0⟩] scope pos) (h2:o6 (dE sc scope.names t tx) t tx=true) (h3:yU t=true\/yX it=false) (h4:M0 P gn ks sc it iter=true) (h5:qU iter=true) (h6:CompNames ks sc scope (fS tx) (da t) (dE sc scope.names t tx))
     (h7:(match (generalizing:=false) ifs with | []=>AB P gn scope.names (dE sc scope.names t tx) c none | [x]=>AB P gn scope.names (dE sc scope.names t tx) c (some x) | _=>false)=true)
     (h8:mE P gn scope.names (dE sc scope.names t tx) e elt=true) (h9:(P 0).isSome=true):CompX P gn ks sc t it c e ex
theorem rZ{m:Bool}{ex:Expr}(hm:mE P gn ks sc (.comp m t it c e) ex=true):CompX P gn ks sc t it c e ex:=by
 refine kk λUc k=>?_;replace hm:=av hm;obtain⟨⟨elt,gs,scope⟩,h0,hm⟩:=hm;refine k ?_;apply gj (ET h0);intro pos;replace hm:=av hm;obtain⟨⟨target,iter,ifs,as⟩,h00,hm⟩:=hm;replace h00:=dC h00;clear h0;subst h00;simp only[P5,decide_eq_true_eq,Bool.or_eq_true,QD]at hm;obtain⟨⟨⟨⟨⟨⟨⟨⟨⟨h0',he⟩,h1⟩,h2⟩,h3⟩,h4⟩,h5⟩,h5'⟩,h6⟩,hP⟩:=hm;subst h0';refine⟨elt,target,iter,ifs,scope,pos,rfl,h4,he,h1,h2,Ck h3,?_,h6,hP⟩;cases ifs with
 |nil=>exact h5'
 |cons a l=>cases l with
   |nil=>exact h5'
   |cons _ _=>exact absurd h5 (by simp)
theorem t8(D:Wd Z P gn G cf d){m:Bool}(hi:LJ Z P gn G cf d it)(hc:Iw Z P gn G cf d c)(he:PE Z P gn G cf d e){iter:Expr}{pos pos':Pos}
   (hmt:o6 (dE sc scope.names t tx) t tx=true) (hen:yU t=true\/yX it=false) (h1:M0 P gn ks sc it iter=true) (h2:qU iter=true) (N:CompNames ks sc scope (fS tx) (da t) (dE sc scope.names t tx))
   (h5:(match ifs with | []=>AB P gn scope.names (dE sc scope.names t tx) c none | [x]=>AB P gn scope.names (dE sc scope.names t tx) c (some x) | _=>false)=true)
   (h6:mE P gn scope.names (dE sc scope.names t tx) e elt=true) (hA:lT Z d A) (hh:A.handled=none) (F:FrameOk Z env ks sc K Y U s.heap) (I:Inv Z Y U s.heap) {v:V} {σ':ac} (ev:af G cf (.comp m t it c e) K U=.ok v σ')
   {use:Option (Value->Sem Unit)} {Q:VP} (q:∀acc C s',CompDone Z Y U s v σ' acc C s'->compPost (model Z.prog Z.w) A (λ_ _=>False) use Q acc C (.ok .next) s') :
   WP Z A (comprehension (.ListComp elt [⟨tx,iter,ifs,0⟩] scope pos) scope env pos' (newList []) false (eval iter env) use) Q (λ_ _=>False) s:=by
 refine kk λUc k=>?_;rw[zd]at ev;obtain⟨It,aa,hit,ev⟩:=Res.bind_ok ev;obtain⟨r,ae,hr,hv⟩:=Res.bind_ok ev;have hcells:∀x∈scope.names,x.2=.free->∃c,env.cells.lookup x.1=some c:=λx hx hf=>by
   obtain⟨n,k⟩:=x;subst hf;have q9:=N.free n hx;have hks:=q9.2.1;obtain⟨i,hi⟩:=Qj.mp q9.2.2.1;have hk:env.kindOf n=some .cell\/env.kindOf n=some .free:=by
     rcases hks with q|q
     . exact(F.kinds n _ q).elim .inl λz=>by cases z.1
     . exact(F.kinds n _ q).elim .inr λz=>.inl z.2
   rcases (F.bound n i hi).1 with q|⟨_,q⟩
   . rcases hk with z|z<;>rw[q]at z<;>(injection z with e;injection e)
   . exact q
 obtain⟨cl,hcl,c2,c3,c4⟩:=sO hcells;refine k ?_;refine wpAny_comprehension_free (use:=use) rfl (λx=>o4 h2 x) hcl N.kind N.loc ?_;refine PQ (hi ks sc iter env K A Y U s It aa h1 hA hh F I hit) (λx ai h=>PQ h (λitv aq h=>?_) λ_ _ x=>x) λ_ _ x=>x;obtain⟨ag,T,rfl,hsh,hen',aH,ay,hw,Op,hlk,hlen⟩:=h;refine PQ (Cj hc he N hmt hh h5 h6 c2 c3 c4 hA I hsh (hen.imp id hen'.trans) aH ay hw Op hlk hlen F hr hv (iter:=iter) (pos:=pos)) (λacc aW h=>PQ h (λcenv dJ h=>codeAny_mono h λr s' hr=>?_) λ_ _ x=>x) λ_ _ x=>x;cases r with
 |ok f=>have:=q acc cenv.locals s' hr;clear k q;cases use<;>exact this
 |error x=>exact hr.elim
theorem Kk(D:Wd Z P gn G cf d){m:Bool}(hi:LJ Z P gn G cf d it)(hc:Iw Z P gn G cf d c)(he:PE Z P gn G cf d e):PE Z P gn G cf d (.comp m t it c e):=λks sc ex env K A Y U s hm hA F I=>by
 obtain⟨elt,tx,iter,ifs,scope,pos,rfl,hmt,hen,h1,h2,N,h5,h6,hP⟩:=rZ hm;refine ir.plain rfl λv σ' ev=>?_;rw[arm_eval_ListComp];refine t8 D hi hc he hmt hen h1 h2 N h5 h6 hA (hA.1 (D.q hP)) F I ev (use:=none) λacc C s' h=>?_;obtain⟨β',mm,S,I',rv,hn,hC,hCb⟩:=h;refine⟨mm,hn,λh' hs'=>?_⟩;have hk:∀b o,b≠C->s'.heap.get? b=some o->h'.get? b=some o:=λb o hb e=>(hs'.2 b hb).trans e;have h0:Z.h₀.get? C=none:=by
   cases q:Z.h₀.get? C with
   |none=>rfl
   |some o=>rw[I.base C o q]at hC;injection hC
 exact⟨β',S.tail (W:=(·=C)) (λ_ q=>q▸hC) hk rfl rfl,I'.touch (W:=(·=C)) (λ_ q=>q▸hCb) (λ_ q=>q▸h0) (λ_ q=>q▸nh hn) hk,gF hk (nh hn) rv⟩
mutual
theorem ko(D:Wd Z P gn G cf d):∀e,PE Z P gn G cf d e
 |.none=>Kc
 |.bool b=>Kn b
 |.int i=>MM i
 |.str x=>ME x
 |.var i=>MC i
 |.glob g=>Kh D g
 |.bin op m a b=>MQ (ko D a) (ko D b)
 |.neg a=>MJ (ko D a)
 |.not a=>MH (ko D a)
 |.bop k es=>MP (qT D es)
 |.cmp op a b=>MO D (ko D a) (ko D b)
 |.cmp2 bD fW a b c=>Kl D (ko D a) (ko D b) (ko D c)
 |.ite c a b=>MK (ko D c) (ko D a) (ko D b)
 |.tup es=>MD (qT D es)
 |.list m es=>Ke (qT D es)
 |.dict0=>G3
 |.idx a i=>MN (ko D a) (ko D i)
 |.slc m a lo hi=>MF (ko D a) (G2 D lo) (G2 D hi)
 |.comp m t it c e=>Kk D (Kf D it) (G2 D c) (ko D e)
 |.call f es=>Km D (qT D es)
 |.bi b m es=>N9 D (qT D es)
 |.meth b o es=>Kd D (ko D o) (qT D es)
 |.isx k e=>ML D (ko D e)
 |.freeze e=>D2 (ko D e)theorem qT(D:Wd Z P gn G cf d):∀es,CR Z P gn G cf d es
 |.nil=>MI
 |.cons e es=>Kj (ko D e) (qT D es)theorem G2(D:Wd Z P gn G cf d):∀e,Iw Z P gn G cf d e
 |.nil=>N8
 |.cons e _=>MB (ko D e)theorem Kf(D:Wd Z P gn G cf d):∀e,LJ Z P gn G cf d e
 |.seq e=>MG (ko D e)
 |.range e=>G0 D (ko D e)
 |.range2 a b=>DY D (ko D a) (ko D b)
 |.enum e=>Ki D (ko D e)
end
def nv(ex:Expr):Bool:=(tW ex).isSome
noncomputable def Mh(ex:Expr):Nat:=Expr.casesOn (motive_1:=λ_=>Nat) ex (λ_ _ _=>0) (λ_ _ _=>0) (λ_ _ _ _=>0) (λ_ _ _=>0) (λ_ _ _ _=>0) (λ_ _ _ _=>0) (λ_ _ _=>0) (λ_ _ _=>0) (λ_ _ _ _=>1) (λ_ _ _ _=>2) (λ_ _ _ _ _=>2) (λ_ _ _ _=>0) (λ_ _=>0) (λ_ _=>0) (λ_ _=>0) (λ_ _ _ _=>0) (λ_ _ _ _=>0) (λ_ _ _ _=>0) (λ_ _=>0) (λ_ _ _=>0) (λ_ _ _=>0) (λ_ _ _=>0) (λ_ _=>0) (λ_ _=>0) (λ_ _=>0) (λ_ _ _=>0) (λ_ _ _ _=>0)noncomputable def Fq:E->Bool
 |.comp ..=>true
 |_=>(false)theorem Fp(h:Fq e=true):X5 λm t it c e'=>e=.comp m t it c e':=by cases e<;>first|exact⟨_,_,_,_,_,rfl⟩|exact Q5 h
def Jn(e:E)(v:Expr):Bool:=match Mh v with
 |0=>true
 |1=>Fq e
 |_=>(false)def DF(ex:Stmt):Option (Expr):=cT ex.ctorIdx 24 λe=>Stmt.Expr.elim (motive_2:=λ_=>Expr) ex e λa0 _=>(a0)theorem wt{ex:Stmt}{t:Expr}(h:DF ex=some t):∃p,ex=.Expr t p:=by refine(a8 h).elim λe q=>?_;exact Stmt.Expr.elim (motive_2:=λex=>∀e:ex.ctorIdx=24,(Stmt.Expr.elim (motive_2:=λ_=>Expr) ex e λa0 _=>a0)=t->∃p,ex=.Expr t p) ex e (λ_ p _ q=>q▸⟨p,rfl⟩) e (q)theorem JY{ex:Stmt}{t:List Expr×Expr}(h:yv ex=some t):∃p,ex=.Assign t.1 t.2 p:=by refine(a8 h).elim λe q=>?_;exact Stmt.Assign.elim (motive_2:=λex=>∀e:ex.ctorIdx=5,(Stmt.Assign.elim (motive_2:=λ_=>List Expr×Expr) ex e λa0 a1 _=>(a0,a1))=t->∃p,ex=.Assign t.1 t.2 p) ex e (λ_ _ p _ q=>q▸⟨p,rfl⟩) e (q)variable {v:Expr}theorem nc{ex:Stmt}{t:List Expr}(h:yv ex=some (t,v)):∃p,ex=.Assign t v p:=JY (h)def NP(ex:Stmt):Option (Expr×List Stmt×List Stmt):=cT ex.ctorIdx 12 λe=>Stmt.If.elim (motive_2:=λ_=>Expr×List Stmt×List Stmt) ex e λa0 a1 a2 _=>(a0,a1,a2)theorem Mr{ex:Stmt}{t:Expr×List Stmt×List Stmt}(h:NP ex=some t):∃p,ex=.If t.1 t.2.1 t.2.2 p:=by refine(a8 h).elim λe q=>?_;exact Stmt.If.elim (motive_2:=λex=>∀e:ex.ctorIdx=12,(Stmt.If.elim (motive_2:=λ_=>Expr×List Stmt×List Stmt) ex e λa0 a1 a2 _=>(a0,a1,a2))=t->∃p,ex=.If t.1 t.2.1 t.2.2 p) ex e (λ_ _ _ p _ q=>q▸⟨p,rfl⟩) e (q)variable {b:List Stmt}theorem DE{ex:Stmt}{t:Expr}{a:List Stmt}(h:NP ex=some (t,a,b)):∃p,ex=.If t a b p:=Mr (h)def JX(ex:Stmt):Option (Expr×Expr×List Stmt×List Stmt):=cT ex.ctorIdx 9 λe=>Stmt.For.elim (motive_2:=λ_=>Expr×Expr×List Stmt×List Stmt) ex e λa0 a1 a2 a3 _=>(a0,a1,a2,a3)theorem JW{ex:Stmt}{t:Expr×Expr×List Stmt×List Stmt}(h:JX ex=some t):∃p,ex=.For t.1 t.2.1 t.2.2.1 t.2.2.2 p:=by refine(a8 h).elim λe q=>?_;exact Stmt.For.elim (motive_2:=λex=>∀e:ex.ctorIdx=9,(Stmt.For.elim (motive_2:=λ_=>Expr×Expr×List Stmt×List Stmt) ex e λa0 a1 a2 a3 _=>(a0,a1,a2,a3))=t->∃p,ex=.For t.1 t.2.1 t.2.2.1 t.2.2.2 p) ex e (λ_ _ _ _ p _ q=>q▸⟨p,rfl⟩) e (q)theorem GQ{ex:Stmt}{t i:Expr}{o:List Stmt}(h:JX ex=some (t,i,b,o)):∃p,ex=.For t i b o p:=JW (h)def Dx(ex:Stmt):Option (Option Expr):=cT ex.ctorIdx 3 λe=>Stmt.Return.elim (motive_2:=λ_=>Option Expr) ex e λa0 _=>(a0)theorem p7{ex:Stmt}{t:Option Expr}(h:Dx ex=some t):∃p,ex=.Return t p:=by refine(a8 h).elim λe q=>?_;exact Stmt.Return.elim (motive_2:=λex=>∀e:ex.ctorIdx=3,(Stmt.Return.elim (motive_2:=λ_=>Option Expr) ex e λa0 _=>a0)=t->∃p,ex=.Return t p) ex e (λ_ p _ q=>q▸⟨p,rfl⟩) e (q)def IS(ex:Stmt):Option (Unit):=cT ex.ctorIdx 25 λe=>Stmt.Pass.elim (motive_2:=λ_=>Unit) ex e λ_=>()theorem Dz{ex:Stmt}{t:Unit}(h:IS ex=some t):∃p,ex=.Pass p:=by refine(a8 h).elim λe q=>?_;exact Stmt.Pass.elim (motive_2:=λex=>∀e:ex.ctorIdx=25,(Stmt.Pass.elim (motive_2:=λ_=>Unit) ex e λ_=>())=t->∃p,ex=.Pass p) ex e (λp _ _=>⟨p,rfl⟩) e (q)def yu(ex:Stmt):Option (Option Expr×Option Expr):=cT ex.ctorIdx 16 λe=>Stmt.Raise.elim (motive_2:=λ_=>Option Expr×Option Expr) ex e λa0 a1 _=>(a0,a1)theorem Dy{ex:Stmt}{t:Option Expr×Option Expr}(h:yu ex=some t):∃p,ex=.Raise t.1 t.2 p:=by refine(a8 h).elim λe q=>?_;exact Stmt.Raise.elim (motive_2:=λex=>∀e:ex.ctorIdx=16,(Stmt.Raise.elim (motive_2:=λ_=>Option Expr×Option Expr) ex e λa0 a1 _=>(a0,a1))=t->∃p,ex=.Raise t.1 t.2 p) ex e (λ_ _ p _ q=>q▸⟨p,rfl⟩) e (q)theorem BF{ex:Stmt}{a b:Option Expr}(h:yu ex=some (a,b)):∃p,ex=.Raise a b p:=Dy (h)def JQ(ex:Stmt):Option (List Stmt×List ExceptHandler×List Stmt×List Stmt):=cT ex.ctorIdx 17 λe=>Stmt.Try.elim (motive_2:=λ_=>List Stmt×List ExceptHandler×List Stmt×List Stmt) ex e λa0 a1 a2 a3 _=>(a0,a1,a2,a3)theorem JP{ex:Stmt}{t:List Stmt×List ExceptHandler×List Stmt×List Stmt}(h:JQ ex=some t):∃p,ex=.Try t.1 t.2.1 t.2.2.1 t.2.2.2 p:=by refine(a8 h).elim λe q=>?_;exact Stmt.Try.elim (motive_2:=λex=>∀e:ex.ctorIdx=17,(Stmt.Try.elim (motive_2:=λ_=>List Stmt×List ExceptHandler×List Stmt×List Stmt) ex e λa0 a1 a2 a3 _=>(a0,a1,a2,a3))=t->∃p,ex=.Try t.1 t.2.1 t.2.2.1 t.2.2.2 p) ex e (λ_ _ _ _ p _ q=>q▸⟨p,rfl⟩) e (q)theorem GI{ex:Stmt}{a c d:List Stmt}{b:List ExceptHandler}(h:JQ ex=some (a,b,c,d)):∃p,ex=.Try a b c d p:=JP (h)def OS(sc:SC):RT->Stmt->Option Expr
 |.drop,st=>DF st
 |.var i,st=>(yv st).bind λq=>(one q.1).bind λtx=>(fc tx).bind λx=>if sc.lookup x=some i then some q.2 else none
 |.ret,st=>(Dx st).bind id
 |.retL,st=>((Dx st).bind id).bind λv=>(EQ v).bind (one)def O2:ExceptHandler->Option (Str×Option Str×Expr)
 |.ExceptHandler ty nm bd _=>ty.bind λt=>(fc t).bind λx=>(one bd).bind λst=>(Dx st).bind λo=>o.bind λv=>some (x,nm,v)variable {eh:ExceptHandler}{nm:Option Str}theorem K2(h:O2 eh=some (x,nm,v)):X3 λxp rp hp=>eh=.ExceptHandler (some (.Name x xp)) nm [.Return (some v) rp] hp:=by refine kk λUc k=>?_;obtain⟨ty,nm',bd,hp⟩:=eh;obtain⟨t,h1,h⟩:=PM.mp h;obtain⟨x',h2,h⟩:=PM.mp h;obtain⟨st,h3,h⟩:=PM.mp h;obtain⟨o,h4,h⟩:=PM.mp h;obtain⟨v',h5,h⟩:=PM.mp h;have g1:=Prod.mk.inj (Option.some.inj h);have g2:=Prod.mk.inj g1.2;obtain⟨xp,e2⟩:=bO h2;obtain⟨rp,e4⟩:=p7 h4;refine k ?_;exact⟨xp,rp,hp,by rw[h1,dC h3,e4,h5,e2,g1.1,g2.1,g2.2]⟩def Oe (P:Nat->Option Fn) (ks:KS) (f:Nat) (n:Str) (v:Expr):Bool:=ob (rN v) λz=>ob (one z.2) λa=>ob (fc a) λn'=>decide (n'=n)&&decide ((P f).map (·.name)=some z.1)&&decide (z.1=("_law_kind":Str))&&rF ks (z.1)def OX(ks:KS)(sc:SC)(i:Nat)(n:Str):Bool:=decide (sc.lookup n=some i)&&co n&&decide (ks.lookup n=some .local)def OY(P:Nat->Option Fn)(ks:KS)(sc:SC)(h:Hk)(nm:Option Str)(v:Expr):Bool:=oc h (λz=>ob nm λn=>ob (B8 v) λxs=>OX ks sc z.1 n&&ob (JF xs) λq=>Oe P ks z.2.1 n q.1&&(if z.2.2 then ob (two q.2) λr=>I1 n j6 r.1&&I1 n dG r.2 else q.2.isEmpty)) (nm.isNone&&(AN v).isSome)def Ku(P:Nat->Option Fn)(ks:KS)(sc:SC):List Hd->List ExceptHandler->Bool
 |[],_=>true
 |h::hs,es=>ob (JF es) λq=>ob (O2 q.1) λg=>decide (g.1=j7 h.1)&&rF ks g.1&&decide (h.1<=6)&&OY P ks sc h.2 g.2.1 g.2.2&&Ku P ks sc hs q.2
section
variable (P:Nat->Option Fn)(gn:Nat->Str)def NE(v:Expr):Bool:=(B9 v).isSome||nv v||(fc v).isSome
mutual
def mS(ks:KS)(sc:SC):S->Stmt->Bool
 |.expr e,st=>ob (DF st) λv=>nv v&&mE P gn ks sc e v
 |.asg t e,st=>ob (yv st) λq=>ob (one q.1) λtx=>MZ sc t tx&&Jn e q.2&&mE P gn ks sc e q.2
 |.asgT l e,st=>ob (yv st) λq=>ob (one q.1) λtx=>ob (B8 tx) λxs=>ku sc l xs&&NE q.2&&(P 0).isSome&&mE P gn ks sc e q.2
 |.put o i e,st=>ob (yv st) λq=>ob (one q.1) λtx=>ob (B9 tx) λp=>wM p.2&&mE P gn ks sc o p.1&&mE P gn ks sc i p.2&&mE P gn ks sc e q.2
 |.ite c a b,st=>ob (NP st) λq=>mE P gn ks sc c q.1&&Eg ks sc a q.2.1&&Eg ks sc b q.2.2
 |.forr t it b,st=>ob (JX st) λq=>q.2.2.2.isEmpty&&o6 sc t q.1&&qU q.2.1&&M0 P gn ks sc it q.2.1&&Eg ks sc b q.2.2.1&&(yU t||!yX it)&&(P 0).isSome
 |.ret e,st=>ob (Dx st) λo=>ob o λv=>mE P gn ks sc e v
 |.pass,st=>ob (IS st) λ_=>true
 |.stop,_=>true
 |.calls t f es,st=>ob (OS sc t st) λv=>ob (rN v) λq=>decide ((P f).map (·.name)=some q.1)&&rF ks q.1&&rn P gn ks sc es q.2
 |.raise k es,st=>ob (yu st) λq=>ob q.1 λex=>ob (rN ex) λz=>q.2.isNone&&decide (z.1=j7 k)&&rF ks z.1&&decide (1<=k/\k<=6)&&(P 0).isSome&&rn P gn ks sc es z.2&&decide (z.2.length<=1000)
 |.tryS b hs,st=>ob (JQ st) λq=>q.2.2.1.isEmpty&&q.2.2.2.isEmpty&&Eg ks sc b q.1&&(P 0).isSome&&(JF q.2.1).isSome&&Ku P ks sc hs q.2.1
 |.iteC f es i x b,st=>ob (NP st) λq=>mE P gn ks sc (.cmp .ne (.idx (.call f es) i) x) q.1&&Eg ks sc b q.2.1&&q.2.2.isEmpty
def Eg(ks:KS)(sc:SC):SL->List Stmt->Bool
 |.nil,xs=>xs.isEmpty
 |.cons s r,xs=>ob (JF xs) λq=>mS ks sc s q.1&&Eg ks sc r q.2
end
end
variable {c:E}{Q:Flow->Shared->Prop}{sp px:Pos}{st:S}{r:SL}def FR(Z:Cx)(env:Env)(ks:KS)(sc:SC)(f:Flow)(o:Out)(Y:List Addr)(U:ac)(h:Heap):Prop:=match o with
 |.next ρ'=>f=.next/\FrameOk Z env ks sc ρ' Y U h
 |.ret v=>∃w,f=.ret w/\aE Y U h w v
 |.exc _ _=>(False)def x5(A:Around)(env:Env):Prop:=X2 λouter f=>A.frames=some (env::outer)/\env.frame=some f
def PS(Z:Cx)(P:Nat->Option Fn)(gn:Nat->Str)(G:GD)(cf:CF)(d:Nat)(st:S):Prop:=
 ∀ks sc x env K A Y U s,mS P gn ks sc st x=true->lT Z d A->FrameOk Z env ks sc K Y U s.heap->Inv Z Y U s.heap->x5 A env->vM env.frame Z (own env) A (PySem.exec x env) (exec G cf st K U) (FR Z env ks sc) (FrameOk Z env ks sc []) Y U s
def F1(Z:Cx)(P:Nat->Option Fn)(gn:Nat->Str)(G:GD)(cf:CF)(d:Nat)(st:SL):Prop:=
 ∀ks sc xs env K A Y U s,Eg P gn ks sc st xs=true->lT Z d A->FrameOk Z env ks sc K Y U s.heap->Inv Z Y U s.heap->x5 A env->vM env.frame Z (own env) A (PySem.execs xs env) (execs G cf st K U) (FR Z env ks sc) (FrameOk Z env ks sc []) Y U s
theorem oS{t:Option Expr}(h:nv v=true):swapsWith v t n env=pure false:=by refine(Qj.mp h).elim λq e=>?_;rw[vj e];rfl
theorem wv{x:Expr}{E:VP}(hk:env.scope.kind=.function)(hx:nv x=true)(h:WP Z A (eval x env) (λ_ ai=>Q .next ai) E s):WP Z A (PySem.exec (.Expr x sp) env) Q E s:=by
 have hi:interactive env=false:=by unfold interactive;rw[hk];rfl
 rw[arm_exec_Expr];refine OL (QA ?_);rw[hi,oS hx];show wpAny _ _ (do dropValue x sp (<- eval x env)) _ _ _;exact OL (PQ h (λa ai q=>wpAny_dropValue q) λ_ _ x=>x)
theorem Af{n:Str}{E:VP}(hs:swapsWith v (some (.Name n px)) sp.line env=pure false)(hw:swappedStores [.Name n px] v env=pure none)
   (h:WP Z A (eval v env) (λu ai=>WP Z A (assign (.Name n px) env u) (λ_ aq=>Q .next aq) E ai) E s):WP Z A (PySem.exec (.Assign [.Name n px] v sp) env) Q E s:=by
 rw[arm_exec_Assign];refine OL (QA ?_);refine(?_:wpAny _ _ (swapsWith v (some (.Name n px)) sp.line env >>= λb=>if b=true then _ else _) _ _ _);rw[hs];refine OL (PJ ?_);rw[if_neg P0];refine OL (PQ h (λu ai q=>?_) λ_ _ x=>x);rw[hw];refine OL (PJ ?_);show wpAny _ _ (assign (.Name n px) env u >>= λ_=>pure Flow.next) _ _ _;exact OL (PQ q (λ_ _ q=>PJ q) λ_ _ x=>x)
theorem DH{E:VP}(hs:swapsWith v (some (.Tuple xs k p)) sp.line env=pure false)(hw:swappedStores [.Tuple xs k p] v env=pure none)
   (h:WP Z A (eval v env) (λu ai=>WP Z A (assign (.Tuple xs k p) env u) (λ_ aq=>Q .next aq) E ai) E s):WP Z A (PySem.exec (.Assign [.Tuple xs k p] v sp) env) Q E s:=by
 rw[arm_exec_Assign];refine OL (QA ?_);refine(?_:wpAny _ _ (swapsWith v (some (.Tuple xs k p)) sp.line env >>= λb=>if b=true then _ else _) _ _ _);rw[hs];refine OL (PJ ?_);rw[if_neg P0];refine OL (PQ h (λu ai q=>?_) λ_ _ x=>x);rw[hw];refine OL (PJ ?_);show wpAny _ _ (assign (.Tuple xs k p) env u >>= λ_=>pure Flow.next) _ _ _;exact OL (PQ q (λ_ _ q=>PJ q) λ_ _ x=>x)theorem Ae{x:Expr}{E:VP}(h:WP Z A (eval x env) (λu ai=>Q (.ret u) ai) E s):WP Z A (PySem.exec (.Return (some x) sp) env) Q E s:=by rw[arm_exec_Return];refine OL (QA ?_);show wpAny _ _ (eval x env >>= λr=>pure (Flow.ret r)) _ _ _;exact OL (PQ h (λ_ _ q=>PJ q) λ_ _ x=>x)
theorem GN(D:Wd Z P gn G cf d):PS Z P gn G cf d (.expr e):=λks sc x env K A Y U s hm hA F I hE=>vM.of <| by
 replace hm:=av hm;obtain⟨v,h0,hm⟩:=hm;apply gj (wt h0);intro pos
 . simp only[P5]at hm;intro c σ' ev;rw[Jx]at ev;obtain⟨w,aa,h1,h2⟩:=Res.bind_ok ev;clear ev;injection h2 with e f;subst e;subst f;exact wv F.kind hm.1 (PQ (((ko D e) ks sc v env K A Y U s hm.2 hA F I).1 _ _ h1) (λa ai ⟨ag,S,ay,q⟩=>⟨ag,S.ofNo,ay,rfl,F.step S⟩) λ_ _ x=>x)
theorem sk{v:V}{w:Value}{Q:Unit->Shared->Prop}{E:VP}(F:FrameOk Z env ks sc K Y U s.heap)(I:Inv Z Y U s.heap)(hx:sc.lookup x=some i)(r:aE Y U s.heap w v)
   (q:∀s',FrameOk Z env ks sc (K.set i v) Y U s'.heap->Step (own env) Y U s Y U s'->Inv Z Y U s'.heap->Q () s'):WP Z A (storeName env x w) Q E s:=
 F.store I hx r λs' F' S' I' _ _=>q s' F' S' I'
inductive SwapX(e:E)(v:Expr):Prop where
 |mk (m:Bool) (t:Tgt) (it:It) (c:EL) (e':E) (a:Expr) (g:List Comprehension) (s:Scope) (p:Pos) (h1:e=.comp m t it c e') (h2:v=.ListComp a g s p):SwapX e v
set_option tactic.hygienic true in
theorem wf(h:Jn e v=true):swapsWith v (some (.Name x px)) n env=pure false\/(swapsWith v (some (.Name x px)) n env=pure true/\SwapX e v):=by
 cases v
 case ListComp a g s p=>
   obtain⟨m,t,it,c,e',rfl⟩:=Fp (h:Fq e=true);have hb:swapsWith (.ListComp a g s p) (some (.Name x px)) n env=pure (env.blockKind==.function&&env.kindOf x==some .local&&px.line==(Expr.ListComp a g s p).pos.line&&!(s.names.any λ(n,k)=>n==x&&(k==.local||k==.cell))):=rfl;generalize (env.blockKind==.function&&env.kindOf x==some .local&&px.line==(Expr.ListComp a g s p).pos.line&&!(s.names.any λ(n,k)=>n==x&&(k==.local||k==.cell)))=b at hb;cases b with
   |false=>exact .inl hb
   |true=>exact .inr ⟨hb,_,_,_,_,_,_,_,_,_,rfl,rfl⟩
 all_goals first
   |exact .inl rfl
   |exact Q5 (h:false=true)
theorem JV(D:Wd Z P gn G cf d):PS Z P gn G cf d (.asg t e):=λks sc x env K A Y U s hm hA F I hE=>vM.of <| by
 replace hm:=av hm;obtain⟨⟨txs,v⟩,hz,hm⟩:=hm;apply gj (nc hz);intro pos;clear hz;replace hm:=av hm;obtain⟨tx,h00,hm⟩:=hm;apply iY (dC h00:txs=[tx]);clear h00
 . obtain⟨h1,h0,h2⟩:=xZ hm;replace h1:=Hf h1;clear hm;obtain⟨i,x,px,rfl,rfl,h1,_⟩:=h1
   . intro c σ' ev;obtain⟨w,aa,h3,h4⟩:=Res.bind_ok ev;apply uW h4;intro ρ' hb;clear ev;injection hb with e;subst e;rcases wf (env:=env) (x:=x) (px:=px) (n:=pos.line) h0 with hq|⟨hq,m,t,it,c,e',a,g,oX,p,rfl,rfl⟩
     . exact Af hq rfl (PQ ((ko D e ks sc v env K A Y U s h2 hA F I).1 _ _ h3) (λu ai ⟨ag,S,ay,q⟩=>wpAny_assign_Name (sk (F.step S) ay h1 q λs' F' S' I'=>⟨ag,S.ofNo.trans S',I',rfl,F'⟩)) λ_ _ x=>x)
     . rw[arm_exec_Assign];refine OL (QA ?_);refine(?_:wpAny _ _ (swapsWith (.ListComp a g oX p) (some (.Name x px)) pos.line env >>= λb=>if b=true then _ else _) _ _ _);refine hq▸?_;refine OL (PJ ?_);rw[if_pos rfl];refine kk λUc k=>?_;obtain⟨elt,tgx,iter,ifs,scope,pos',q,kt,k0,k1,k2,N,k5,k6,hP⟩:=rZ h2;clear h2 hq h0;cases (q);refine k ?_;rw[arm_evalThenUse_ListComp];refine OL (OL ?_);show wpAny _ _ (comprehension _ oX env _ (newList []) false (eval iter env) (some λv=>assign (.Name x px) env v)) _ _ _;refine t8 D (Kf D it) (G2 D c) (ko D e') kt k0 k1 k2 N k5 k6 hA (hA.1 (D.q hP)) F I h3 λacc C s' h=>?_;obtain⟨β',mm,S,I',rv,hn,hC,hCb⟩:=h;have h0:Z.h₀.get? C=none:=by
         cases q:Z.h₀.get? C with
         |none=>rfl
         |some o=>rw[I.base C o q]at hC;injection hC
       have hnC:¬ own env C:=λz=>by obtain⟨o,ho,_⟩:=F.ownSome z;rw[hC]at ho;injection ho
       refine(?_:wpAny _ _ (assign (.Name x px) env acc) _ _ _);refine wpAny_assign_Name (sk (F.step S) I' h1 rv λs'' F'' S'' I''=>?_);have hn'':∃m,s''.heap.Ns C m:=by
         obtain⟨o,es,ep,ho,q⟩:=hn;rcases S''.keepW C o ho (λz=>hCb z.tt.mem) hnC with e|⟨_,_,sl,e⟩
         . exact⟨mm,o,es,ep,e,q⟩
         . exact⟨mm,_,es,ep,e,q⟩
       obtain⟨m'',hn''⟩:=hn'';refine⟨m'',hn'',λh' hs'=>?_⟩;have hk:∀b o,b≠C->s''.heap.get? b=some o->h'.get? b=some o:=λb o hb e=>(hs'.2 b hb).trans e;refine PJ (PJ ⟨β',(S.ofNo.trans S'').tail (W:=(·=C)) (λ_ q=>q▸hC) hk rfl rfl,I''.touch (W:=(·=C)) (λ_ q=>q▸hCb) (λ_ q=>q▸h0) (λ_ q=>q▸nh hn'') hk,rfl,F''.touch (W:=(·=C)) (λ_ q=>q▸F.frs.not hC) (λ_ q=>q▸hnC) (λ_ q=>q▸nh hn'') hk⟩)
theorem Bu(h:NE v=true):swapsWith v (some (.Tuple xs k p)) n env=pure false/\swappedStores [.Tuple xs k p] v env=pure none:=by
 rcases Qc.mp h with h|h
 rotate_left
 . obtain⟨q,e⟩:=Qj.mp h;obtain⟨p',e⟩:=bO e;rw[e];exact⟨rfl,rfl⟩
 rcases Qc.mp h with h|h
 . obtain⟨q,e⟩:=Qj.mp h;obtain⟨p',e⟩:=EN e;rw[e];exact⟨rfl,rfl⟩
 . obtain⟨q,e⟩:=Qj.mp h;rw[vj e];exact⟨rfl,rfl⟩theorem GP(D:Wd Z P gn G cf d){l:List Nat}:PS Z P gn G cf d (.asgT l e):=λks sc x env K A Y U s hm hA F I hE=>vM.of <| by replace hm:=av hm;obtain⟨⟨txs,v⟩,hz,hm⟩:=hm;apply gj (nc hz);intro pos;clear hz;replace hm:=av hm;obtain⟨tx,hz,hm⟩:=hm;apply iY (dC hz:txs=[tx]);clear hz;replace hm:=av hm;obtain⟨xs,hz,hm⟩:=hm;apply zb (lv hz);intro k p;clear hz;obtain⟨h1,h2,hP,h4⟩:=sC hm;intro c σ' ev;rw[Jy]at ev;refine kk λUc kz=>?_;replace ev:=Res.bind_ok ev;obtain⟨w,aa,e1,ev⟩:=ev;replace ev:=iz ev;obtain⟨ds,hw,ev⟩:=ev;replace ev:=AH ev;obtain⟨hl,ev⟩:=ev;refine kz ?_;clear kz;cases (ev);rw[eu hw]at e1;clear hw;obtain⟨q1,q2⟩:=Bu (env:=env) (xs:=xs) (k:=k) (p:=p) (n:=pos.line) h2;refine DH q1 q2 (PQ ((ko D e ks sc v env K A Y U s h4 hA F I).1 _ _ e1) (λu ai ⟨ag,S,ay,q⟩=>?_) λ_ _ x=>x);apply (qq q).el;intro a vs n ha ht hz r;have hn:=mM (env:=env) h1;have hz:=r.length;simp only[P1]at hz;refine wpAny_assign_Tuple (hA.1 (D.q hP)) ⟨_,ha,rfl,_,rfl⟩ (by rw[hn.1,hz,hl]) hn.2 λh' he=>?_;have hk:∀b o,ai.heap.get? b=some o->h'.get? b=some o:=λb o e=>he b o (QG (Qz e)) e;have S2:Step cz ag σ' ai ag σ' { ai with heap:=h' }:=Step.grow hk rfl rfl;refine oU h1 hl (r.mono λx o _ _ e _ t=>⟨hk _ _ e,t⟩) ((F.step S).step S2) (ay.grow hk) λs' F' S' I' _=>⟨ag,(S.trans S2).ofNo.trans S',I',rfl,F'⟩theorem Bv{o i:Expr}:swapsWith v (some (.Subscript o i p)) n env=pure false:=by cases v<;>rfl
theorem JT(D:Wd Z P gn G cf d){o i:E}:PS Z P gn G cf d (.put o i e):=λks sc x env K A Y U s hm hA F I hE=>vM.of <| by
 replace hm:=av hm;obtain⟨⟨txs,v⟩,hz,hm⟩:=hm;apply gj (nc hz);intro pos;clear hz;replace hm:=av hm;obtain⟨tx,h00,hm⟩:=hm;apply iY (dC h00:txs=[tx]);clear h00;replace hm:=av hm;obtain⟨⟨ox,ix⟩,h00,hm⟩:=hm;apply gj (qh h00);intro p
 . refine kk λUc k=>?_;obtain⟨h0,h1,h2,h3⟩:=sC hm;refine k ?_;intro c σ' ev;rw[L8]at ev;refine kk λUc kz=>?_;replace ev:=Res.bind_ok ev;obtain⟨x,aa,e1,ev⟩:=ev;replace ev:=Res.bind_ok ev;obtain⟨a,ae,e2,ev⟩:=ev;replace ev:=Res.bind_ok ev;obtain⟨k,aF,e3,ev⟩:=ev;obtain⟨xd,hx,ev⟩:=iz ev;obtain⟨n,ks',ha,hk,ev⟩:=Jl ev;replace ev:=iz ev;obtain⟨l,hl,ev⟩:=ev;obtain⟨hlim,evF⟩:=AH ev;clear ev;clear ev;replace hl:=jp hl;rw[b9 hx]at e1;rw[jK ha]at e2;rw[eA hk]at e3;clear ev hx ha hk
   . skip
     . skip
       . skip
         refine kz ?_;clear kz;injection evF with e f;subst e;subst f;refine wpAny_Assign_Subscript ?_ Bv;refine PQ ((ko D e ks sc v env K A Y U s h3 hA F I).1 _ _ e1) (λu ai ⟨ag,aH,ay,ru⟩=>?_) λ_ _ x=>x;refine PQ ((ko D o ks sc ox env K A ag aa ai h1 hA (F.step aH) ay).1 _ _ e2) (λov aq ⟨a5,cC,cD,ro⟩=>?_) λ_ _ x=>x;refine PQ ((ko D i ks sc ix env K A a5 ae aq h2 hA ((F.step aH).step cC) cD).1 _ _ e3) (λiv aW ⟨vS,vH,CL,ri⟩=>?_) λ_ _ x=>x;apply LV (vH.vrel0 ro);intro ad hb;apply xr (oq ri);intro t g;have S:=(aH.trans cC).trans vH;refine BK (O:=cz) CL hb hl g (vH.rel0 (cC.rel0 ru)) hlim λs' S' I'=>?_;exact⟨vS,(S.trans S').ofNo,I',rfl,F.step (S.trans S')⟩
theorem JS(D:Wd Z P gn G cf d):PS Z P gn G cf d (.ret e):=λks sc x env K A Y U s hm hA F I hE=>vM.of <| by
 replace hm:=av hm;obtain⟨o,h0,hm⟩:=hm;apply gj (p7 h0);intro pos;replace hm:=av hm;obtain⟨v,h00,hm⟩:=hm;subst h00
 . intro c σ' ev;rw[L7]at ev;replace ev:=Res.bind_ok ev;obtain⟨y,aa,e1,ev⟩:=ev;injection ev with e f;subst e;subst f;rw[arm_exec_Return];refine OL (QA ?_);show wpAny _ _ (eval v env >>= λr=>pure (Flow.ret r)) _ _ _;exact OL (PQ ((ko D e ks sc v env K A Y U s hm hA F I).1 _ _ e1) (λu ai ⟨ag,aH,ay,ru⟩=>PJ ⟨ag,aH.ofNo,ay,u,rfl,ru⟩) λ_ _ x=>x)theorem GK:PS Z P gn G cf d .pass:=λks sc x env K A Y U s hm hA F I hE=>vM.of <| by replace hm:=av hm;obtain⟨_,h0,hm⟩:=hm;apply gj (Dz h0);intro pos;rw[arm_exec_Pass];exact Ev.standAt (Ev.pure I ⟨rfl,F⟩)
theorem DC(D:Wd Z P gn G cf d){a b:SL}(ha:F1 Z P gn G cf d a)(hb:F1 Z P gn G cf d b):PS Z P gn G cf d (.ite c a b):=λks sc x env K A Y U s hm hA F I hE=>by
 refine kk λUc k=>?_;replace hm:=av hm;obtain⟨⟨t,x,y⟩,h0,hm⟩:=hm;refine k ?_;apply gj (DE h0);intro pos
 . refine kk λUc k=>?_;obtain⟨h1,h2,h3⟩:=xZ hm;refine k ?_;have ev:exec G cf (.ite c a b) K U=(mU (af G cf c K U)).bind λt aa=>if t then execs G cf a K aa else execs G cf b K aa:=by have ev0:exec G cf (.ite c a b) K U=(af G cf c K U).bind (λx aa=>(bv (truthy aa x) aa).bind λt aa=>if t then execs G cf a K aa else execs G cf b K aa):=rfl;rw[ev0];unfold mU;cases af G cf c K U<;>rfl
   rw[ev,arm_exec_If];refine vM.standAt (vM.bindO (ko D c ks sc t env K A Y U s h1 hA F I).2 λv w ag aa ai aH ay q _=>?_);subst q;cases v with
   |true=>exact ha ks sc x env K A ag aa ai h2 hA (F.step aH) ay hE
   |false=>exact hb ks sc y env K A ag aa ai h3 hA (F.step aH) ay (hE)theorem DB:F1 Z P gn G cf d .nil:=λks sc xs env K A Y U s hm hA F I hE=>by replace hm:=gc hm;subst hm;exact vM.of (Ev.pure I ⟨rfl,F⟩)
theorem GO(hs:PS Z P gn G cf d st)(hr:F1 Z P gn G cf d r):F1 Z P gn G cf d (.cons st r):=λks sc xs env K A Y U s hm hA F I hE=>by
 replace hm:=av hm;obtain⟨⟨x,xs⟩,h0,hm⟩:=hm;replace h0:=ou h0;subst h0
 . simp only[P5]at hm;rw[arm_execs_cons];intro c σ' ev;rw[Gg]at ev;obtain⟨o,aa,h1,h2⟩:=Res.bind_ok ev;refine OL (PQ (hs ks sc x env K A Y U s hm.1 hA F I hE o aa h1) (λf ai ⟨ag,aH,ay,q⟩=>?_) λv ai ⟨k,ds,q,fq⟩=>?_)
   . clear h1 ev;cases o with
     |next ρ'=>obtain⟨rfl,F'⟩:=q;exact PQ (hr ks sc xs env ρ' A ag aa ai hm.2 hA F' ay hE c σ' h2) (λf aq ⟨a5,cC,cD,q⟩=>⟨a5,aH.trans cC,cD,q⟩) λv aq ⟨k,ds,q,fq⟩=>⟨k,ds,q,fq.back aH⟩
     |ret v=>obtain⟨w,rfl,q⟩:=q;injection h2 with e f;subst e;subst f;exact PJ ⟨ag,aH,ay,w,rfl,q⟩
     |exc k ds=>exact q.elim
   . clear ev;subst q;injection h2 with e f;subst e;subst f;exact⟨k,ds,rfl,fq⟩variable {e:Addr}{hk:Hk}{hs:List Hd}{us:List Value}{f:Nat}{L:Option Addr}{tp np rp:Pos}{x y z:PyData}{b:SL}{aW:Shared}{fx:Str}{mL:Str->Option Value}
structure Landed(Z:Cx)(env:Env)(ks:KS)(sc:SC)(L:Option Addr)(Y:List Addr)(U:ac)(s:Shared)(β':List Addr)(σ':ac)(s':Shared)(e:Addr)(k:Nat)(ds:List PyData):Prop where
 st:Step (own env) Y U s β' σ' s'
 inv:Inv Z β' σ' s'.heap
 nb:e∉β'
 fl:Fl L s.heap s'.heap e k ds
 fr:FrameOk Z env ks sc [] β' σ' s'.heap
 xd:k=6->XD s.heap β' σ' s'.heap e ds
theorem FlyQ.elim{Q:Prop}{v:Value}(q:FlyQ L Z (own env) Y U s σ' k ds (FrameOk Z env ks sc []) v s')(f:∀β' e,v=.ref e->Landed Z env ks sc L Y U s β' σ' s' e k ds->Q):Q:=by obtain⟨β',e,h0,h1,h2,h3,h4,h5,h6⟩:=q;exact f β' e h0 ⟨h1,h2,h3,h4,h5,h6⟩theorem Landed.q(q:Landed Z env ks sc L Y U s β' σ' s' e k ds):FlyQ L Z (own env) Y U s σ' k ds (FrameOk Z env ks sc []) (.ref e) s':=⟨β',e,rfl,q.st,q.inv,q.nb,q.fl,q.fr,q.xd⟩theorem Fl.elim{Q:Prop}(q:Fl L h0 h e k ds)(f:∀oe vs,h.get? e=some oe->oe.cls=.ref (KA k)->oe.data=.fields vs->iO L h e vs->(∀T,vs[1]?=some (.ref T)->h0.get? T=none)->Q):Q:=by obtain⟨_,_,oe,vs,h1,h2,h3,h4,h5⟩:=q;exact f oe vs h1 h2 h3 h4 (h5)theorem x5.elim{Q:Prop}(hE:x5 A env)(hA:lT Z d A)(f:∀outer L,A.frames=some (env::outer)->env.frame=some L->(env::outer).filterMap (·.frame)=Z.fr->(∀x∈env::outer,x.scope.kind=.function/\∃f',x.frame=some f'/\f'∈Z.fr)->Q):Q:=by obtain⟨outer,L,hfr,hfL⟩:=hE;obtain⟨l,hl,hlf,hlk⟩:=hA.2.2.2;rw[hfr]at hl;injection hl with e;subst e;obtain⟨hfm,hfx⟩:=Cb hlf;exact f outer L hfr hfL hfm λx hx=>⟨hlk x hx,hfx x hx⟩theorem Landed.frames(q:Landed Z env ks sc L Y U s β' σ' s' e k ds){l:List Env}(h:∀x∈l,x.scope.kind=.function/\∃f',x.frame=some f'/\f'∈Z.fr):s'.heap.FunFrames kr l:=tX λx hx'=>by refine kk λUc kz=>?_;obtain⟨h1,f',hf1,hf2⟩:=h x hx';obtain⟨⟨o',q1,q2⟩,_⟩:=q.fr.frs f' hf2;exact kz (⟨by rw[h1];decide,f',o',hf1,q1,q2⟩)
theorem Landed.noted{L':Option Addr}(q:Landed Z env ks sc L Y U s β' σ' s' e k ds)(F:gk Z Y s.heap)(I:Inv Z Y U s.heap)(hfv:fv=.none\/∃l,L'=some l/\fv=rawInt l)(hfs:∀f∈fs,f∈Z.fr)
   (he:s'.heap.get? e=some oe) (hc:oe.cls=.ref (KA k)) (hd:oe.data=.fields vs) (hL:iO L s'.heap e vs) (hT:∀T,vs[1]?=some (.ref T)->s.heap.get? T=none) (N:Noted fv fs e oe vs s'.heap h'):Landed Z env ks sc L' Y U s β' σ' { s' with heap:=h' } e k ds:=by
 have base0:∀a,s.heap.get? a=none->Z.h₀.get? a=none:=λa q=>by
   cases z:Z.h₀.get? a with
   |none=>rfl
   |some o'=>rw[I.base a o' z]at q;injection q
 exact⟨q.st.noted N q.fl.1 hT λf' hf=>⟨(q.fr.frs f' (hfs f' hf)).1,(F f' (hfs f' hf)).2.1⟩,q.inv.noted N he hd hL (λf' hf=>q.fr.frs f' (hfs f' hf)) (base0 _ q.fl.1) λT z=>base0 _ (hT T z),q.nb,Fl.noted N hfv q.st.alive q.fl.1 hT q.fl.2.1 hc,q.fr.noted N he hd hL λf' hf=>(q.fr.frs f' (hfs f' hf)).1,λz=>(q.xd z).noted N he hd hL λf' hf=>⟨(q.fr.frs f' (hfs f' hf)).1,λy=>by obtain⟨⟨o,y',_⟩,_⟩:=F f' (hfs f' hf);rw[y]at y';injection y'⟩⟩
theorem E4{out:Out}{v:Value}(hA:lT Z d A)(hE:x5 A env)(F:gk Z Y s.heap)(I:Inv Z Y U s.heap)(ho:out=.exc k ds)(fq:FlyQ env.frame Z (own env) Y U s σ' k ds (FrameOk Z env ks sc []) v aW) :
   notedBy (model Z.prog Z.w) A env (cameBackBy (model Z.prog Z.w) A env (λv s'=>X2 λk ds=>out=.exc k ds/\FlyQ env.frame Z (own env) Y U s σ' k ds (FrameOk Z env ks sc []) v s')) v aW:=
 fq.elim λβ' e hv q=>hE.elim hA λouter L hfr hfL hfm hfx=>q.fl.elim λoe vs he hc hd hL hT=>by clear fq;subst hv;exact Ek hfr (q.frames hfx) hfL he hd hL λgg N=>⟨k,ds,ho,(q.noted F I (.inr ⟨L,hfL,rfl⟩) (λf' hf=>hfm▸hf) he hc hd hL hT N).q⟩theorem zM(t:RT)(k:Nat)(ds:List PyData)(K:Fm)(U:ac):jV t (.exc k ds) K U=.ok (.exc k ds) U:=(rfl)theorem gD{v:V}(h:nJ v=none)(t:RT)(K:Fm)(U:ac):jV t v K U=OU t v K U:=by unfold jV;rw[h]theorem FlyQ.own{v:Value}(F:FrameOk Z env ks sc K Y U s.heap)(q:FlyQ none Z cz Y U s σ' k ds (λ_ _ _=>True) v s'):FlyQ env.frame Z (own env) Y U s σ' k ds (FrameOk Z env ks sc []) v s':=by obtain⟨β',e,rfl,S,I,n,f,_,y⟩:=q;obtain⟨f1,f2,oe,vs,f3,f4,f5,f6,f7⟩:=f;exact⟨β',e,rfl,S.ofNo,I,n,⟨f1,f2,oe,vs,f3,f4,f5,f6.any,f7⟩,(F.step S).bare,y⟩theorem HW{t:RT}{v:V}{c:Out}(F:FrameOk Z env ks sc K Y U s.heap)(ev:jV t v K ae=.ok c σ'):(X2 λk ds=>v=.exc k ds/\FlyQ none Z cz Y U s ae k ds (λ_ _ _=>True) u s')->X2 λk ds=>c=.exc k ds/\FlyQ env.frame Z (own env) Y U s σ' k ds (FrameOk Z env ks sc []) u s':=λ⟨k,ds,q,fq⟩=>by rw[q,zM]at ev;injection ev with e f;subst e;subst f;exact⟨k,ds,rfl,fq.own F⟩theorem DG{x:Expr}{lp:Pos}{E:VP}(hx:backTo lp (starEach [x] env)=[(false,eval x env)])(h:WP Z A (eval x env) (λu ai=>WP Z A (newList [u]) (λr aq=>Q (.ret r) aq) E ai) E s):WP Z A (PySem.exec (.Return (some (.List [x] lp)) sp) env) Q E s:=by refine Ae ?_;rw[arm_eval_List,hx];exact OL (QA (OL (spliced_cons (PQ h (λu ai q=>spliced_nil q) λ_ _ x=>x))))
theorem Cn{t:RT}{x:Stmt}{v:V}{c:Out}{E:VP}(hx:OS sc t x=some (.Call (.Name fx p) args [] pos))(F:FrameOk Z env ks sc K Y U s.heap)(ev:jV t v K ae=.ok c σ')(C:WP Z A (eval (.Call (.Name fx p) args [] pos) env) (λa ai=>nJ v=none/\Po Z cz Y U s ae ai λβ'=>aE β' ae ai.heap a v) E s)
   (fin:∀f s',(Po Z (own env) Y U s σ' s' λβ'=>FR Z env ks sc f c β' σ' s'.heap)->Q f s'):WP Z A (PySem.exec x env) Q E s:=by
 cases t with
 |drop=>apply gj (wt hx);intro sp;refine wv F.kind rfl (PQ C (λa ai ⟨z,ag,S,ay,q⟩=>?_) λ_ _ x=>x);rw[gD z]at ev;injection ev with e f;subst e;subst f;exact fin _ _ ⟨ag,S.ofNo,ay,rfl,F.step S⟩
 |var i=>
   replace hx:=PM.mp hx;obtain⟨⟨txs,w⟩,hz,hx⟩:=hx;replace hx:=PM.mp hx;obtain⟨tx,h00,hx⟩:=hx;replace hx:=PM.mp hx;obtain⟨n,hn,hx⟩:=hx;apply gj (nc hz);intro sp;apply iY (dC h00:txs=[tx]);apply gj (bO hn);intro px;by_cases hl:sc.lookup n=some i
   . rw[if_pos hl]at hx;apply iY (Option.some.inj hx:w=(.Call (.Name fx p) args [] pos));refine Af (oS rfl) rfl (PQ C (λu ai ⟨z,ag,S,ay,q⟩=>?_) λ_ _ x=>x);rw[gD z]at ev;injection ev with e f;subst e;subst f;exact wpAny_assign_Name (sk (F.step S) ay hl q λs' F' S' I'=>fin _ _ ⟨ag,S.ofNo.trans S',I',rfl,F'⟩)
   . rw[if_neg hl]at hx;injection hx
 |ret=>replace hx:=PM.mp hx;obtain⟨o,hz,hx⟩:=hx;apply gj (p7 hz);intro sp;apply iY (show o=some (.Call (.Name fx p) args [] pos) from hx);refine Ae (PQ C (λu ai ⟨z,ag,S,ay,q⟩=>?_) λ_ _ x=>x);rw[gD z]at ev;injection ev with e f;subst e;subst f;exact fin _ _ ⟨ag,S.ofNo,ay,u,rfl,q⟩
 |retL=>replace hx:=PM.mp hx;obtain⟨w,hz,hx⟩:=hx;replace hz:=PM.mp hz;obtain⟨o,hz,hw⟩:=hz;apply gj (p7 hz);intro sp;apply iY (show o=some w from hw);replace hx:=PM.mp hx;obtain⟨xs,hg,hx⟩:=hx;apply gj (xk hg);intro lp;apply iY (dC hx);refine DG rfl (PQ C (λu ai ⟨z,ag,S,ay,q⟩=>?_) λ_ _ x=>x);rw[gD z]at ev;have ev:oc (bN v) (λx=>Res.ok (Out.ret (.d (.list [x]))) ae) .bad=.ok c σ':=ev;replace ev:=iz ev;obtain⟨y,hy,ev⟩:=ev;injection ev with e f;subst e;subst f;rw[b9 hy]at q;exact PQ (gI (O:=cz) (A:=A) (m:=false) (l:=[y]) (t:=newList [u]) ay (by simp[LIM]) (wpAny_newList (by exact⟨_,_,0,rfl,bo _,PX _ rfl,bw _,rfl,rfl,by simpa using RelAll.one q⟩) (by simp[sizeLine])) _ _ rfl) (λr aq ⟨a5,cC,cD,yz⟩=>fin _ _ ⟨a5,(S.trans cC).ofNo,cD,r,rfl,yz⟩) λ_ _ x=>(x.elim)theorem DD(D:Wd Z P gn G cf d){t:RT}:PS Z P gn G cf d (.calls t f es):=λks sc x env K A Y U s hm hA F I hE=>by refine kk λUc k=>?_;replace hm:=av hm;obtain⟨v,hx,hm⟩:=hm;replace hm:=av hm;obtain⟨⟨fx,args⟩,h0,hm⟩:=hm;obtain⟨p,pos,e0⟩:=eU h0;rw[e0]at hx;obtain⟨h1,h3⟩:=PK.mp hm;obtain⟨h1,h2⟩:=PK.mp h1;have h1:=of_decide_eq_true h1;clear h0 e0 hm;refine k λc σ' ev=>?_;clear k;have ev:((aU G cf es K U).bind λvs aa=>(cf f vs aa).bind λv ae=>jV t v K ae)=.ok c σ':=ev;obtain⟨vs,σa,ea,ev⟩:=Res.bind_ok ev;obtain⟨v,ae,eb,ev⟩:=Res.bind_ok ev;have C:=sg (p:=p) (pos:=pos) D (qT D _) h1 h2 h3 hA F I v ae (ea▸eb);clear h1 h2 h3 eb ea;exact Cn hx F ev (PQ C (λ_ _ x=>x) λ_ _=>HW F ev) λ_ _ q=>q
theorem GM(D:Wd Z P gn G cf d){i x:E}(hb:F1 Z P gn G cf d b):PS Z P gn G cf d (.iteC f es i x b):=λks sc st env K A Y U s hm hA F I hE c σ' ev=>by
 have ev:((aU G cf es K U).bind λvs aa=>(cf f vs aa).bind λv ae=>oc (nJ v) (λp=>.ok (.exc p.1 p.2) ae) (exec G cf (.ite (.cmp .ne (.idx (.call f es) i) x) b .nil) K U))=.ok c σ':=ev;replace ev:=Res.bind_ok ev;obtain⟨vs,σa,ea,ev⟩:=ev;replace ev:=Res.bind_ok ev;obtain⟨v,ae,eb,ev⟩:=ev;cases hx:nJ v with
 |none=>rw[hx]at ev;exact DC D hb (DB) ks sc st env K A Y U s hm hA F I hE c σ' ev
 |some p=>
   rw[hx]at ev;refine kk λUc kx=>?_;replace hm:=av hm;obtain⟨⟨t,y,w⟩,h0,hm⟩:=hm;obtain⟨pos,e1⟩:=DE h0;have q9:=xZ hm;have hm:=q9.1;replace hm:=av hm;obtain⟨⟨l,os,rs⟩,h0,hm⟩:=hm;obtain⟨pos2,e2⟩:=vi h0;replace hm:=av hm;obtain⟨o,_,hm⟩:=hm;replace hm:=av hm;obtain⟨r,_,hm⟩:=hm;obtain⟨_,_,hm,_⟩:=sC hm;replace hm:=av hm;obtain⟨⟨u,ix⟩,h0,hm⟩:=hm;obtain⟨pos3,e3⟩:=qh h0;obtain⟨_,hm,_⟩:=xZ hm;replace hm:=av hm;obtain⟨⟨fx,args⟩,h0,hm⟩:=hm;obtain⟨p4,pos4,e4⟩:=eU h0;obtain⟨h1,h2,h3⟩:=xZ hm;refine kx ?_;clear kx;rw[show st=_ from e1,show t=_ from e2,show l=_ from e3,show u=_ from e4];rw[arm_exec_If];refine OL (QA (OL ?_));rw[arm_isTrue_Compare];refine OL ?_;rw[arm_eval_Subscript];refine OL (PQ (sg D (qT D _) (of_decide_eq_true h1) h2 h3 hA F I v ae (by rw[ea];exact eb)) (λa ai z=>?_) λe s' q=>?_)
   . have:=z.1;rw[hx]at this;injection this
   . obtain⟨k,ds,q,fq⟩:=q;rw[q]at hx;injection hx with e;subst e;injection ev with e f;subst e;subst f;exact⟨k,ds,rfl,fq.own F⟩
theorem eY.two{vs:List Value}(r:eY Y U h vs [.d x,.d y]):X2 λv1 v2=>A3 (vs=[v1,v2]) (Rel (TT Y U) h v1 x) (Rel (TT Y U) h v2 y):=by
 cases r with
 |cons r1 r=>cases r with
   |cons r2 r=>cases r;exact⟨_,_,rfl,r1,r2⟩
theorem JZ(D:Wd Z P gn G cf d){pos:Pos}{Q:Flow->Shared->Prop}{E:VP}(hg:rF ks (j7 6)=true)(h3:rn P gn ks sc es args=true)(hh:A.handled=none)(hA:lT Z d A)(F:FrameOk Z env ks sc K Y U s.heap)(I:Inv Z Y U s.heap)(he:aU G cf es K U=.ok [.d x,.d y] σ')
   (k:∀v s',FlyQ env.frame Z (own env) Y U s σ' 6 [x,y] (FrameOk Z env ks sc []) v s'->E v s'):WP Z A (PySem.exec (.Raise (some (.Call (.Name (j7 6) p) args [] pos)) none sp) env) Q E s:=by
 have es':=eV (env:=env) (pos:=pos) h3;rw[arm_exec_Raise];refine OL (QA ?_);refine XAt.elim (D.x.own 6 (Qb 6)).2 λnm q' N bs hdct sn sub ab col dd k0 k1 k2 k3 k5 mN hC hN _ _=>?_;refine yy (C:=KA 6) (nm:=nm) (q:=q') (N:=N) (bs:=bs) (bm:=d7 6) (hdct:=hdct) (sn:=sn) (sub:=sub) (ab:=ab) (col:=col) (dd:=dd) (k0:=k0) (k1:=k1) (k2:=k2) (k3:=k3) (k5:=k5) (newId:="ValueError.__new__") (by rw[jb (by decide),QK];rfl) hh ?_;refine OL (PQ (Q:=λv ai=>X4 λe t D sl=>A4 (v=.ref e) (ai.heap.get? (KA 6)=some (excClassObj nm q' (KA 6) N bs (d7 6) hdct sn sub ab col dd k0 k1 k2 k3 k5 "ValueError.__new__")) (ai.heap.get? e=some { cls:=.ref (KA 6),dict:=D,data:=.fields #[.ref t,.none,.none,.none,.bool false,.none],slots:=sl }) (E (.ref e) ai)) ?_ (λv aW oK=>OL (QA (PJ oK))) λ_ _ z=>z);refine PyProof.Rows.Call_Name es'.1 (jL D F I hg (D.x.own 6 (Qb 6)).1 ?_);unfold callWith;refine OL (QT (gL (qT D es) h3 hA F I he λws β' s' S I' r=>OL (QA ?_)));obtain⟨v1,v2,rfl,r1,r2⟩:=r.two;have hlim:=(D.w.keeps I').2.2;have hC':=I'.base _ _ hC;obtain⟨hp,g,dr,tk,os⟩:=s';rw[es'.2];refine OL (wpAny_keeperOf_exc hC' ?_);refine OL (zo (prog:=Z.prog) (w:=Z.w) (h:=hp) (g:=g) (d:=dr) (t:=tk) (os:=os) (v1:=v1) (v2:=v2) (Fy (D.x.at I' (Qb 6)) (D.x.at I' (PU _))) hlim (P8 (Qd (PW _ d) (by decide)) hA.2.1) λh' tk' e M=>OL (QT (wpAny_point (PJ ?_))));obtain⟨t,Dd,sl,m,kp,e1,e2,e3,e4,e5⟩:=M;have G':Step cz β' σ' ⟨hp,g,dr,tk,os⟩ β' σ' ⟨h',g,dr,tk',os⟩:=Step.grow kp rfl rfl;refine⟨e,t,_,sl,rfl,kp _ _ hC',e2,k _ _ ⟨β',e,rfl,(S.trans G').ofNo,I'.grow kp,I'.notMem e1,⟨S.alive _ e1,⟨by decide,by decide⟩,_,_,e2,rfl,rfl,.inl rfl,λT q=>by (injection q with e;injection e)⟩,((F.step S).step G').bare,λ_=>⟨_,Dd,m,v1,v2,x,y,rfl,e2,rfl,⟨S.alive _ e3,(I'.notMem e3)⟩,e4,e5,G'.rel0 r1,G'.rel0 r2⟩⟩⟩
theorem J0(D:Wd Z P gn G cf d){pos:Pos}{vs:List V}{E:VP}(hk:1<=k/\k<=5)(hg:rF ks (j7 k)=true)(h3:rn P gn ks sc es args=true)(hlen:args.length<=1000)(hh:A.handled=none)(hA:lT Z d A)(F:FrameOk Z env ks sc K Y U s.heap)(I:Inv Z Y U s.heap)(he:aU G cf es K U=.ok vs σ')
   (fin:∀v s',FlyQ env.frame Z (own env) Y U s σ' k [] (FrameOk Z env ks sc []) v s'->E v s'):WP Z A (PySem.exec (.Raise (some (.Call (.Name (j7 k) p) args [] pos)) none sp) env) Q E s:=by
 refine XAt.elim (D.x.own k (Qv hk.2)).2 λnm q N bs hdct sn sub ab col dd k0 k1 k2 k3 k5 mN hC hN hq hi=>?_;refine XAt.elim (D.x.own 0 (PU _)).2 λnm' q' N' bs' hdct' sn' sub' ab' col' dd' k0' k1' k2' k3' k5' mN' hC' hN' hq' hi'=>?_;have es':=eV (env:=env) (pos:=pos) h3;refine wpAny_Raise_call_subT (C:=KA k) (nm:=nm) (q:=q) (N:=N) (bs:=bs) (bm:=d7 k) (hdct:=hdct) (sn:=sn) (sub:=sub) (ab:=ab) (col:=col) (dd:=dd) (k0:=k0) (k1:=k1) (k2:=k2) (k3:=k3) (k5:=k5)
   PySem.F.excBase_ValueError (mN:=mN) (by rw[jb hk.1,QK];rfl) hh (by rw[es'.1];exact es'.2) (hi hk.2) (jL D F I hg ((D.x.own k (Qv hk.2)).1) ⟨rfl,?_⟩)
 rw[es'.1];refine gL (qT D es) h3 hA F I he λws β' s' S I' r=>⟨rfl,?_,I'.base _ _ hC,hN.keeps I'.base,?_,λh' e M=>?_⟩
 . show ws.length<=sizeLine;rw[gl r,lB h3 he];exact iv hlen (by decide)
 . rw[jb hk.1];exact .own (I'.base _ _ hC') (hN'.keeps I'.base) (hi' (PU _)) .base
 . obtain⟨t,ht,_,_⟩:=M.there;have G':Step cz β' σ' s' β' σ' { s' with heap:=h' }:=Step.grow M.keeps rfl rfl;exact fin _ _ ⟨β',e,rfl,(S.trans G').ofNo,I'.grow M.keeps,I'.notMem M.new,⟨S.alive _ M.new,⟨hk.1,Qv hk.2⟩,_,_,ht,rfl,rfl,.inl rfl,λT q=>by (injection q with e;injection e)⟩,((F.step S).step G').bare,λz=>absurd (z▸hk.2) (by decide)⟩
theorem DA(D:Wd Z P gn G cf d):PS Z P gn G cf d (.raise k es):=λks sc x env K A Y U s hm hA F I hE=>by
 replace hm:=av hm;obtain⟨⟨ox,oc⟩,h0,hm⟩:=hm;apply gj (BF h0);intro sp;replace hm:=av hm;obtain⟨ex,h00,hm⟩:=hm;apply iY (show ox=some ex from h00);replace hm:=av hm;obtain⟨⟨z,args⟩,h01,hm⟩:=hm;apply zb (eU h01);intro p pos;refine kk λUc kx=>?_;obtain⟨hm,hlen⟩:=PK.mp hm;obtain⟨hm,h3⟩:=PK.mp hm;obtain⟨hm,hP⟩:=PK.mp hm;obtain⟨hm,hk⟩:=PK.mp hm;replace hm:=PK.mp hm;obtain⟨hm,hg⟩:=hm;obtain⟨hn,hz⟩:=PK.mp hm;replace hk:=of_decide_eq_true hk;replace hz:z=j7 k:=of_decide_eq_true hz;replace hn:oc=none:=QC.mp hn;rw[hz]at hg;refine kx ?_;clear kx h0 h00 h01 hm;apply iY hz;apply iY hn;clear hz hn;intro c σ' ev;have ev:((aU G cf es K U).bind λvs aa=>NR k vs aa)=.ok c σ':=ev;refine kk λUc kz=>?_;replace ev:=Res.bind_ok ev;obtain⟨vs,aa,he,ev⟩:=ev;unfold NR at ev;clear hm;by_cases hk5:k<=5
 . rw[if_pos ⟨hk.1,hk5⟩]at ev;refine kz ?_;clear kz;cases (ev);exact J0 D ⟨hk.1,hk5⟩ hg h3 (of_decide_eq_true hlen) (hA.1 (D.q hP)) hA F I he λv s' q=>⟨k,[],rfl,q⟩
 . have hk6:k=6:=RB hk.2 (Nat.lt_of_not_le hk5);rw[if_neg λz=>hk5 z.2,if_pos hk6]at ev;replace ev:=iz ev;obtain⟨⟨a,b⟩,h2,ev⟩:=ev;replace ev:=Jl ev;obtain⟨x,y,hx,hy,ev⟩:=ev;rw[jx h2,show a=.d x from b9 hx,show b=.d y from b9 hy]at he;refine kz ?_;clear kz;injection ev with e f;subst e;subst f;clear h2 hx hy;subst hk6;exact JZ D hg h3 (hA.1 (D.q hP)) hA F I he λv s' q=>⟨6,[x,y],rfl,q⟩
theorem B0 (D:Wd Z P gn G cf d) {n:Str} {v:V} {E:VP} (h1:(P f).map (·.name)=some fx) (h1':fx=("_law_kind":Str)) (h2:rF ks fx=true) (hn:sc.lookup n=some i) (hno:co n=true)
   (hA:lT { Z with q:=true } d A) (F:FrameOk Z env ks sc K Y U s.heap) (I:Inv Z Y U s.heap) (hv:K[i]?=some (.exc k ds)) (hc:cf f [.exc k ds] U=.ok v σ') (hx:nJ v=none) :
   WP Z A (eval (.Call (.Name fx p) [.Name n np] [] pos) env) (λa s'=>Po Z cz Y U s σ' s' λβ'=>aE β' σ' s'.heap a v) E s:=by
 obtain⟨fn,hf,rfl⟩:=Ql.mp h1;obtain⟨a,o,fd,hg,ho,hd,hcall⟩:=D.k f fn hf h1';refine PyProof.Rows.Call_Name rfl (jL D F I h2 hg ?_);refine callWith_function (o:=o) (fd:=fd) (evalArgs_plain (spliced_cons (wpAny_Name (F.load hn hv (by simp) λw hw=>spliced_nil ⟨⟨I.base a o ho,hd⟩,?_⟩) (cV hno).1)));refine PQ (hcall A Y U s [w] [.exc k ds] hA F.frs I (.cons hw .nil) v σ' hc) (λu s'' q=>q.2) λu s'' ⟨k',ds',q,_⟩=>?_;subst q;injection hx
theorem Eh {n:Str} {Q:Prop} (hm:Oe P ks f n v=true) (q:∀fp np fpos,v=.Call (.Name "_law_kind" fp) [.Name n np] [] fpos->(P f).map (·.name)=some "_law_kind"->rF ks "_law_kind"=true->Q):Q:=by replace hm:=av hm;obtain⟨⟨fx,fargs⟩,q5,hm⟩:=hm;obtain⟨fp,fpos,rfl⟩:=eU q5;replace hm:=av hm;obtain⟨ax,q6,hm⟩:=hm;replace q6:fargs=[ax]:=dC q6;clear q5;subst q6;replace hm:=av hm;obtain⟨n',q7,hm⟩:=hm;obtain⟨np,rfl⟩:=bO q7;simp only[P5,decide_eq_true_eq]at hm;obtain⟨⟨⟨q8,hf⟩,hf'⟩,hgf⟩:=hm;subst q8;subst hf';exact q fp np fpos rfl hf (hgf)theorem yQ{n x:Str}(hm:I1 n x v=true):X2 λnp p=>v=.Attribute (.Name n np) x p:=by replace hm:=av hm;obtain⟨⟨o,y,p⟩,h0,hm⟩:=hm;apply iY (xn h0);replace hm:=av hm;obtain⟨n',h1,hm⟩:=hm;obtain⟨np,h1⟩:=bO h1;subst h1;simp only[P5,decide_eq_true_eq]at hm;obtain⟨rfl,h2⟩:=hm;subst h2;exact⟨np,p,rfl⟩
theorem BU{n:Str}{v:V}{f:Flow}{E:VP}(hkl:env.kindOf n=some .local)(F:FrameOk Z env ks sc K Y U s.heap)(I:Inv Z Y U s.heap)(r:aE Y U s.heap u v)(q:∀s',Step (own env) Y U s Y U s'->Inv Z Y U s'.heap->aE Y U s'.heap u v->Q f s') :
   WP Z A (do bindName env n .none;unbindBehindTheSuite env n pos) (λ_ s'=>Q f s') E s:=by
 obtain⟨Pj,OG,_⟩:=F.ns;refine wpAny_nameGoes hkl OG (by refine F.kind▸?_;rfl) λM7 Pi OF I3=>?_;have hk6':∀b' o',b'≠env.locals->s.heap.get? b'=some o'->M7.get? b'=some o':=λb' o' q z=>(I3.2 b' q).trans z;have nS:=F.notSeq env.locals (.inl rfl);refine q _ ⟨⟨[],by simp,by simp⟩,λk c' _ e=>⟨c',e,id,id,id⟩,Jc λb' o' z _ hb'=>hk6' b' o' (λq=>hb' (.inl q)) z,λb' z=>?_,rfl,rfl⟩ (I.touch (W:=(·=env.locals)) (λ_ q=>q▸(F.apart _ (.inl rfl)).1) (λ_ q=>q▸(F.apart _ (.inl rfl)).2) (λ_ q=>q▸nS) hk6') (gF hk6' nS r);by_cases q:b'=env.locals
 . subst q;obtain⟨o',_,_,z',_⟩:=OF;have z:M7.get? env.locals=none:=z;rw[z']at z;injection z
 . exact(I3.2 b' q).symm.trans z
def IA(Z:Cx)(A:Around)(env:Env)(v:Expr)(σ':ac)(x:V)(Y:List Addr)(U:ac)(s:Shared):Prop:=
 WP Z A (eval v env) (λu ai=>Po Z cz Y U s σ' ai λβ'=>aE β' σ' ai.heap u x) (λ_ _=>False) s
theorem De{x:V}{n:Str}{v:Expr}{E NM:VP}(q:Landed Z env ks sc none Y U s β' aa ai e k ds)(Ga:FrameOk Z env ks sc K Y U s.heap)
   (hni:sc.lookup n=some i) (hkl:env.kindOf n=some .local)
   (hv:∀ρ' dJ,ρ'[i]?=some (.exc k ds)->FrameOk Z env ks sc ρ' β' aa dJ.heap->Inv Z β' aa dJ.heap->Step (own env) β' aa ai β' aa dJ->(k=6->XD s.heap β' aa dJ.heap e ds)->(X2 λo vs=>A3 (dJ.heap.get? e=some o) (o.cls=.ref (KA k)) (o.data=.fields vs))->(∃m,dJ.heap.Ns env.locals m/\m n=some (.ref e))->IA Z (A.mark (some (.ref e))) env v σ' x β' aa dJ)
   (k':∀mV u gm,Step (own env) Y U s mV σ' gm->Inv Z mV σ' gm.heap->aE mV σ' gm.heap u x->Q (.ret u) gm) :
   WP Z (A.mark (some (.ref e))) (storeName env n (.ref e)) (λ_ aq=>WP Z (A.mark (some (.ref e))) (PySem.execs [.Return (some v) rp] env)
     (λf aW=>WP Z A (do bindName env n .none;unbindBehindTheSuite env n pos) (λ_ s'=>Q f s') E' aW) E aq) NM ai:=by
 refine q.fl.elim λoe vs he hc hd _ _=>(q.fr.empty:FrameOk Z env ks sc (List.replicate (i+1) .un) β' aa ai.heap).store (v:=.exc k ds) q.inv hni ⟨e,oe,vs,rfl,he,⟨hc,hd,q.fl.2.1⟩,λz=>q.nb z.mem⟩ λdJ CM NI F4 kv kl=>?_;obtain⟨keepL,hNm⟩:=kl hkl;have lo:s.heap.get? env.locals≠none:=λz=>by obtain⟨o,ho,_⟩:=Ga.ownSome (.inl rfl);rw[z]at ho;injection ho
 have eL:e≠env.locals:=λz=>lo (z▸q.fl.1);rw[arm_execs_cons,arm_exec_Return];refine OL (OL (QA ?_));show wpAny _ _ (eval v env >>= λr=>pure (Flow.ret r)) _ _ _;refine OL (PQ (hv _ dJ (by simp) CM F4 NI (λz=>(q.xd z).move (λ_ y=>y) (λo y=>⟨o,keepL e o eL y,rfl⟩) (λD o y _ nb hn=>⟨nb,o.slots,keepL D o (λy'=>lo (y'▸hn)) y⟩) λu y r=>kv u (.d y) r) ⟨oe,vs,keepL e oe eL he,hc,hd⟩ hNm) (λu gm ⟨mV,CJ,F3,r⟩=>PJ (PJ ?_)) λ_ _ z=>z.elim);exact BU hkl (CM.step CJ) F3 r λNX OE OJ N5=>k' mV u NX (((q.st.trans NI).trans CJ.ofNo).trans OE) OJ N5
theorem sy (D:Wd Z P gn G cf d) {n y:Str} {m:Str->Option Value} {Q:VP} {E:VP} (hy:y∈fh) (hB:typeLookup (.type "ValueError") y=pure none) (hno:co n=true) (hk:env.scope.kind=.function) (hkl:env.kindOf n=some .local) (I:Inv Z Y U s.heap)
   (hNm:s.heap.Ns env.locals mL) (hn':mL n=some (.ref e)) (he:s.heap.get? e=some oe) (hc:oe.cls=.ref (KA 6)) (hd:oe.data=.fields vs) (hD:oe.dict=some Dd) (hn:s.heap.Ns1 Dd m) (hu:m y=some u) (r:Rel (TT Y U) s.heap u z) (q:∀tk,Q u { s with toks:=tk }) :
   WP Z A (eval (.Attribute (.Name n np) y pos) env) Q E s:=by
 refine PyProof.Rows.Attribute_name (wpAny_Name (wpAny_loadName_local hk hkl hNm hn' ?_) (cV hno).1);obtain⟨mN,mN',T,qn,_⟩:=Fy (D.x.at I (Qb 6)) (D.x.at I (PU _));have n1:=qn "__getattribute__" (.head _);have n2:=qn "__getattr__" (.tail _ (.head _));have n3:=qn y hy;obtain⟨hp,g,dr,tk,os⟩:=s;exact xh T n1.1 n1.2 n2.1 n2.2 n3.1 n3.2 hB he hc hd hD hn hu (by clear hu q;cases r<;>rfl) λt'=>q t'
theorem zU{xs:List PyData}{E:VP}(I:Inv Z Y U s.heap)(r:RelAll (TT Y U) s.heap us xs)(hl:xs.length<=1000):WP Z A (newTuple us) (λw s'=>Po Z cz Y U s U s' λβ'=>aE β' U s'.heap w (.d (.tuple xs))) E s:=by exact MW (rX (O:=cz) I (iv hl (by decide)) (wpAny_newTuple ⟨_,_,0,rfl,bo _,PX _ rfl,bw _,rfl,rfl,by simpa using r⟩ (by rw[r.length];exact iv hl (by decide))) _ _ rfl)
theorem XD.step(X:XD h0 Y U s.heap e ds)(S:Step cz Y U s ag aa ai)(he:s.heap.get? e=some oe)(hd:oe.data=.fields vs)(nb:e∉Y):XD h0 ag aa ai.heap e ds:=
 X.move (λ_ z=>z) (λo z=>⟨o,S.keep e o z (λy=>nb y.tt.mem) id (by rw[he]at z;injection z with e;subst e;exact eJ hd),rfl⟩) (λD o z hf nb' _=>⟨(λy=>by
     obtain⟨l,rfl,g⟩:=S.ext;rcases PT.mp y with y|y
     . exact nb' y
     . rw[g D y]at z;injection z),(S.keepW D o z (λy=>nb' y.tt.mem) id).elim (λy=>⟨o.slots,y⟩) λy=>y.2.2⟩) λv x r=>S.rel0 r
theorem Ey(D:Wd Z P gn G cf d){a:Bool}{n:Str}{q:Expr}{xs:List Expr}{kk:Nat}(hq:Oe P ks f n q=true)(hxs:(if a then ob (two xs) λr=>I1 n j6 r.1&&I1 n dG r.2 else xs.isEmpty)=true)(hak:a=true->k=6)
   (hni:sc.lookup n=some i) (hno:co n=true) (hkl:env.kindOf n=some .local) (hA:lT { Z with q:=true } d A) (F:FrameOk Z env ks sc K Y U s.heap) (I:Inv Z Y U s.heap) (hv:K[i]?=some (.exc k ds)) (ec:cf f [.exc k ds] U=.ok (.d x) σ')
   (nb:e∉Y) (xd:k=6->XD h0 Y U s.heap e ds) (he:s.heap.get? e=some oe) (hc:oe.cls=.ref (KA k)) (hd:oe.data=.fields vs) (hNm:s.heap.Ns env.locals mL) (hn:mL n=some (.ref e)):IA Z A env (.Tuple (q::xs) kk tp) σ' (.d (.tuple (x::if a then ds else []))) Y U s:=by
 refine Eh hq λfp np fpos q0 hf hgf=>?_;clear hq;subst q0;have C:=B0 (p:=fp) (np:=np) (pos:=fpos) D hf rfl hgf hni hno hA F I hv ec rfl (E:=λ_ _=>False);unfold IA;cases a with
 |false=>apply iY (gc hxs:xs=[]);have trees:backTo tp (starEach [.Call (.Name "_law_kind" fp) [.Name n np] [] fpos] env)=[(false,eval (.Call (.Name "_law_kind" fp) [.Name n np] [] fpos) env)]:=rfl;rw[arm_eval_Tuple,trees];exact OL (QA (OL (spliced_cons (PQ C (λu ai ⟨ag,S,ay,r⟩=>spliced_nil (PQ (zU ay (RelAll.one r) (P7 rfl)) (λw aq ⟨a5,cC,cD,uF⟩=>⟨a5,S.trans cC,cD,uF⟩) λ_ _ z=>z)) λ_ _ z=>z))))
 |true=>
   have hk:=hak rfl;clear hak;subst hk;have hxs:(ob (two xs) λr=>I1 n j6 r.1&&I1 n dG r.2)=true:=hxs;replace hxs:=av hxs;obtain⟨⟨y1,y2⟩,h2,hxs⟩:=hxs;apply iY (jx h2:xs=[y1,y2]);obtain⟨m1,m2⟩:=PK.mp hxs;apply zb (yQ m1:X2 λa b=>y1=_);intro np1 p1;apply zb (yQ m2:X2 λa b=>y2=_);intro np2 p2;clear ec m1 m2 hxs h2;have trees:backTo tp (starEach [.Call (.Name "_law_kind" fp) [.Name n np] [] fpos,.Attribute (.Name n np1) j6 p1,.Attribute (.Name n np2) dG p2] env)=[(false,eval (.Call (.Name "_law_kind" fp) [.Name n np] [] fpos) env),(false,eval (.Attribute (.Name n np1) j6 p1) env),(false,eval (.Attribute (.Name n np2) dG p2) env)]:=rfl;rw[arm_eval_Tuple,trees];refine OL (QA (OL (spliced_cons (PQ C (λu ai ⟨ag,S,ay,r⟩=>?_) λ_ _ z=>z))));have tS:=S.keep e oe he (λy=>nb y.tt.mem) id (eJ hd);obtain⟨oe',Dd,m,v1,v2,x1,x2,rfl,z2,z3,z4,z5,z6,z7,z8⟩:=(xd rfl).step S he hd nb;replace z2:=tS▸z2;injection z2 with e;subst e;have vd:∃mL,ai.heap.Ns env.locals mL/\mL n=some (.ref e):=by
     obtain⟨o,es,ep,ho,rr⟩:=hNm;rcases S.keepW _ o ho (λy=>(F.apart _ (.inl rfl)).1 y.tt.mem) id with y|⟨_,_,sl,y⟩
     . exact⟨mL,⟨o,es,ep,y,rr⟩,hn⟩
     . exact⟨mL,⟨_,es,ep,y,rr⟩,hn⟩
   obtain⟨mL',vd,nz⟩:=vd;refine spliced_cons (sy D (.tail _ (.tail _ (.tail _ (.tail _ (.head _))))) tM hno F.kind hkl ay vd nz tS hc hd z3 z5 z6.1 z7 λtk=>spliced_cons (sy (s:={ ai with toks:=tk }) D (.tail _ (.tail _ (.tail _ (.tail _ (.tail _ (.head _)))))) pg hno F.kind hkl ay vd nz tS hc hd z3 z5 z6.2 z8 λtk'=>spliced_nil ?_));exact PQ (zU (s:={ ai with toks:=tk' }) (us:=[u,v1,v2]) (xs:=[x,x1,x2]) ay (.cons r (.cons z7 (.cons z8 .nil))) (by simp)) (λw aq ⟨a5,cC,cD,uF⟩=>⟨a5,(S.trans (Step.grow (s:=ai) (ai:={ ai with toks:=tk' }) (λ_ _ z=>z) rfl rfl)).trans cC,cD,uF⟩) λ_ _ z=>z
def NV(Z:Cx)(A:Around)(env:Env)(ks:KS)(sc:SC)(Y:List Addr)(U:ac)(s:Shared)(β':List Addr)(aa:ac)(aq:Shared)(e:Addr)(k:Nat)(ds:List PyData):Prop:=
 ∀(Q:Unit->Shared->Prop) (E:VP),(∀aW,Landed Z env ks sc none Y U s β' aa aW e k ds->Q () aW)->WP Z (A.mark (some (.ref e))) (setFlight (.ref e) none) Q E aq
section
variable {c:Out}{hp:Pos}abbrev HQ(Z:Cx)(env:Env)(ks:KS)(sc:SC)(Y:List Addr)(U:ac)(s:Shared)(σ':ac)(c:Out)(f:Flow)(aW:Shared):Prop:=Po Z (own env) Y U s σ' aW λβ'=>FR Z env ks sc f c β' σ' (aW.heap)theorem Hz(fly:NV Z A env ks sc Y U s β' aa aq e k ds)(hv:(AN v).isSome=true)(ev:lu cf .none k ds aa=.ok c σ')(hR:∀f aW,HQ Z env ks sc Y U s σ' c f aW->R (.ok f) aW):codeAny (model Z.prog Z.w) (A.mark (some (.ref e))) (.handlers (.ref e) [.ExceptHandler none none [.Return (some v) rp] hp] env) R aq:=by refine(Qj.mp hv).elim λu n2=>?_;apply zb (xj n2);intro _ _;injection ev with e f;subst e;subst f;refine codeAny_handlers_suite (fly _ _ λaW qN=>?_);rw[arm_execs_cons,arm_exec_Return];refine OL (OL (QA ?_));show wpAny _ _ (eval (.Constant .none _ _) env >>= λr=>pure (Flow.ret r)) _ _ _;exact OL (wpAny_Constant_none (PJ (PJ (hR _ _ ⟨β',qN.st,qN.inv,.none,rfl,.none⟩))))
theorem Hy{n:Str}{x:V}{E:VP}(fly:NV Z A env ks sc Y U s β' aa aq e k ds)(F:FrameOk Z env ks sc K Y U s.heap)(hmn:OX ks sc i n=true)
   (hv:∀ρ' dJ,co n=true->sc.lookup n=some i->env.kindOf n=some .local->ρ'[i]?=some (.exc k ds)->FrameOk Z env ks sc ρ' β' aa dJ.heap->Inv Z β' aa dJ.heap->(k=6->XD s.heap β' aa dJ.heap e ds)->(X2 λo vs=>A3 (dJ.heap.get? e=some o) (o.cls=.ref (KA k)) (o.data=.fields vs))->(∃m,dJ.heap.Ns env.locals m/\m n=some (.ref e))->IA Z (A.mark (some (.ref e))) env v σ' x β' aa dJ)
   (hR:∀f aW,WP Z A (do bindName env n .none;unbindBehindTheSuite env n hp) (λ_ s'=>HQ Z env ks sc Y U s σ' (.ret x) f s') E aW->R (.ok f) aW):codeAny (model Z.prog Z.w) (A.mark (some (.ref e))) (.handlers (.ref e) [.ExceptHandler none (some n) [.Return (some v) rp] hp] env) R aq:=by
 refine(PK.mp hmn).elim λh1 h2=>?_;obtain⟨h1,hno⟩:=PK.mp h1;have hni:=of_decide_eq_true h1;have hkl:env.kindOf n=some .local:=(F.kinds n _ (of_decide_eq_true h2)).elim id λz=>by cases z.1
 refine codeAny_handlers_suite_as (fly _ _ λaW qN=>?_);refine PQ (De (Q:=HQ Z env ks sc Y U s σ' (.ret x)) (E':=E) (E:=λ_ _=>False) (NM:=λ_ _=>False) qN F hni hkl (λρ' dJ hv' CM F4 _ xd ho hN=>hv ρ' dJ hno hni hkl hv' CM F4 xd ho hN) λmV u gm CJ F3 N6=>⟨mV,CJ,F3,u,rfl,N6⟩) (λ_ dJ h=>PQ h (λf gm h=>hR f gm h) λ_ _ z=>z.elim) λ_ _ z=>z.elim
theorem KX(D:Wd Z P gn G cf d){E:VP}(fly:NV Z A env ks sc Y U s β' aa aq e k ds)(hA:lT Z d A)(F:FrameOk Z env ks sc K Y U s.heap)(nb:e∉β')(hmk:OY P ks sc hk nm v=true)(ev:lu cf hk k ds aa=.ok c σ')
   (hR:∀f aW,(match nm with|none=>HQ Z env ks sc Y U s σ' c f aW|some n=>WP Z A (do bindName env n .none;unbindBehindTheSuite env n hp) (λ_ s'=>HQ Z env ks sc Y U s σ' c f s') E aW)->R (.ok f) aW):codeAny (model Z.prog Z.w) (A.mark (some (.ref e))) (.handlers (.ref e) [.ExceptHandler none nm [.Return (some v) rp] hp] env) R aq:=by
 have hA':lT { Z with q:=true } d (A.mark (some (.ref e))):=⟨(λz=>by injection z),hA.2⟩
 cases hk with
 |none=>
   obtain⟨n1,n2⟩:=PK.mp hmk;have n1:nm=none:=by clear hmk hR;cases nm with|none=>rfl|some _=>injection n1
   subst n1;exact Hz fly n2 ev hR
 |some z=>obtain⟨i,f,a⟩:=z;obtain⟨n,n1,hmk⟩:=av hmk;subst n1;obtain⟨xs,n2,hmk2⟩:=av hmk;apply zb (lv n2);intro kk tp;obtain⟨hmn,hmk3⟩:=PK.mp hmk2;obtain⟨⟨y,ys⟩,n3,hmk4⟩:=av hmk3;have n3:=ou n3;clear hmk3 hmk2;subst n3;obtain⟨m1,m2⟩:=PK.mp hmk4;replace ev:=Res.bind_ok (ev:((cf f [.exc k ds] aa).bind λv aa=>oc (bN v) (λx=>if a=true->k=6 then Res.ok (Out.ret (.d (.tuple (x::if a then ds else [])))) aa else .bad) .bad)=.ok c σ');obtain⟨vr,σa,ec,ev⟩:=ev;obtain⟨x,hx,ev2⟩:=iz ev;obtain⟨hak,ev3⟩:=AH ev2;have hx:=b9 hx;clear ev2 ev;subst hx;injection ev3 with e f;subst e;subst f;exact Hy fly F hmn (λρ' dJ hno hni hkl hv CM F4 xd ⟨o,vs',y1,y2,y3⟩ ⟨mL,y4,y5⟩=>Ey D m1 m2 hak hni hno hkl hA' CM F4 hv ec nb xd y1 y2 y3 y4 y5) hR
theorem xf(D:Wd Z P gn G cf d){E:VP}(fly:NV Z A env ks sc Y U s β' aa aq e k ds)(hA:lT Z d A)(F:FrameOk Z env ks sc K Y U s.heap)(q:Landed Z env ks sc none Y U s β' aa aq e k ds)(he:aq.heap.get? e=some oe)(hc:oe.cls=.ref (KA k))(hs:List Hd):∀(ehs:List ExceptHandler),Ku P ks sc hs ehs=true->kJ cf hs k ds aa=.ok c σ'->WP Z A (handleBy (.ref e) env ehs) (HQ Z env ks sc Y U s σ' c) E aq:=by
 induction hs with
 |nil=>intro ehs _ ev;injection ev
 |cons h hs ih=>
   intro ehs hm ev;obtain⟨⟨eh,es⟩,g0,hm1⟩:=av hm;have g0':=ou g0;clear hm g0;subst g0';obtain⟨⟨x,nm,v⟩,g1,hm2⟩:=av hm1;obtain⟨xp,rp,hp,g1'⟩:=K2 g1;clear g1 hm1;subst g1';obtain⟨hm3,hms⟩:=PK.mp hm2;obtain⟨hm4,hmk⟩:=PK.mp hm3;obtain⟨hm5,hj⟩:=PK.mp hm4;obtain⟨g2,hgx⟩:=PK.mp hm5;have g2:x=j7 h.1:=of_decide_eq_true g2;clear hm5 hm4 hm3 hm2;subst g2;have hj6:=of_decide_eq_true hj;have hk6:=q.fl.2.1;refine wpAny_handleBy_cons (codeAny_handlers_test (jL D q.fr q.inv hgx (D.x.own h.1 hj6).1 (za (D.x.at q.inv hk6.2) (D.x.at q.inv hj6) he hc (IF D.x hk6.1 hk6.2 hj6) ?_))) (by intro q;injection q);have ev:(if h.1=k\/h.1=0 then lu cf h.2 k ds aa else kJ cf hs k ds aa)=.ok c σ':=ev;by_cases hit:h.1=k\/h.1=0
   . rw[if_pos hit]at ev;have hb:(h.1==k||h.1==0)=true:=by rcases hit with z|z<;>rw[z]<;>simp
     rw[hb];exact KX D fly hA F q.nb hmk ev λf aW h=>h
   . rw[if_neg hit]at ev;have hb:(h.1==k||h.1==0)=false:=by rw[beq_eq_false_iff_ne.mpr λz=>hit (.inl z),beq_eq_false_iff_ne.mpr λz=>hit (.inr z)];rfl
     rw[hb];exact ih es hms ev
end
theorem JR(D:Wd Z P gn G cf d)(hb:F1 Z P gn G cf d b):PS Z P gn G cf d (.tryS b hs):=λks sc x env K A Y U s hm hA F I hE=>by
 refine kk λUc kz=>?_;replace hm:=av hm;obtain⟨⟨body,hds,els,fin⟩,h0,hm⟩:=hm;refine kz ?_;apply gj (GI h0);intro sp;obtain⟨h1,h2,h3,hP,hne,hm⟩:=zJ hm;apply iY (gc h1:els=[]);apply iY (gc h2:fin=[]);obtain⟨⟨hd0,hds'⟩,hne⟩:=Qj.mp hne;replace hne:hds=hd0::hds':=ou hne;rw[show (body,hds,els,fin).2.1=_ from hne]at hm;apply iY hne;clear h0 h1 h2 hP hne;intro c σ' ev;obtain⟨o,aa,e1,ev⟩:=Res.bind_ok (ev:((execs G cf b K U).bind λo aa=>match o with | .exc k ds=>kJ cf hs k ds aa|o=>.ok o aa)=.ok c σ');refine wpAny_Try_except (PQ (hb ks sc body env K A Y U s h3 hA F I hE o aa e1) (λf ai ⟨ag,aH,ay,q⟩=>?_) λv ai ⟨k,ds,q,fq⟩=>?_)
 . clear e1;cases o with
   |next ρ'=>obtain⟨rfl,F'⟩:=q;injection ev with e f;subst e;subst f;exact wpAny_execs_nil ⟨ag,aH,ay,rfl,F'⟩
   |ret w=>obtain⟨u,rfl,q⟩:=q;injection ev with e f;subst e;subst f;exact⟨ag,aH,ay,u,rfl,q⟩
   |exc k ds=>exact q.elim
 . subst q;refine fq.elim λβ' e hv q=>hE.elim hA λouter L hfr hfL hfm hfx=>q.fl.elim λoe vs he hc hd hL hT=>?_;subst hv;refine wK (fo:=none) hfr (q.frames hfx) hfL he hd hL λgg N=>?_;have yz:=q.noted (L':=none) F.frs I (.inl rfl) (λf' hf=>hfm▸hf) he hc hd hL hT N;refine N.then (v':=.none) λT MS oT Mb ts pp M9 Nc hTe hT2 hdT h3T _=>yz.fl.elim λMR Ma po I4 tT Nb AJ=>?_;clear e1 q hc hd hL hT he hfr hfL hfm hfx N;have z:MR=MS:=Option.some.inj (po.symm.trans pp);subst z;have z:Ma=Mb:=by have:=tT.symm.trans M9;cases (this);rfl
   subst z;exact xf D (λQ E hq=>mI (fo:=none) po tT Nc hTe hT2 hdT h3T λoK OH=>hq _ (yz.noted (L':=none) F.frs I (.inl rfl) (λf' hf=>by cases hf) po I4 tT Nb AJ OH)) hA F yz po I4 hs (hd0::hds') hm (ev)def rq(G:GD)(cf:CF)(t:Tgt)(b:SL):PyData->Fm->ac->Res Out:=λx ρ' σ'=>match fe t x ρ' with
 |none=>.bad
 |some ρ''=>execs G cf b ρ'' (σ')variable {o:Out}
theorem El(h:rq G cf t b x K U=.ok o σ'):∃ρ',fe t x K=some ρ'/\execs G cf b ρ' U=.ok o σ':=by
 unfold rq at h;cases hb:fe t x K with
 |none=>rw[hb]at h;injection h
 |some ρ'=>rw[hb]at h;exact⟨ρ',rfl,h⟩theorem Cd(G:GD)(cf:CF)(t:Tgt)(it:It)(b:SL)(K:Fm)(U:ac):exec G cf (.forr t it b) K U=(cA G cf it K U).bind λI aa=>(ba (rq G cf t b) I.1 K (c5 I.2.2 aa)).bind λo ae=>.ok o (bx I.2.2 I.2.1 ae):=(rfl)variable {f:PyData->Fm->ac->Res Out}
theorem yR{d:PyData}(hd:l[k]?=some d)(h:ba f (l.drop k) K U=.ok o σ') :
   X2 λbD aa=>f d K U=.ok bD aa/\((∃bV,bD=.next bV/\ba f (l.drop (k+1)) bV aa=.ok o σ')\/(∃v,A3 (bD=.ret v) (o=.ret v) (σ'=aa))\/(X2 λk ds=>A3 (bD=.exc k ds) (o=.exc k ds) (σ'=aa))):=by
 have hlt:=(PB.mp hd).1;have hd':=(PB.mp hd).2;replace h:=hd'▸(QV hlt)▸h;rw[Hj]at h;obtain⟨bD,aa,h1,h2⟩:=Res.bind_ok h;clear h;cases bD with
 |next bV=>exact⟨_,aa,h1,.inl ⟨bV,rfl,h2⟩⟩
 |ret v=>injection h2 with e f;subst e;subst f;exact⟨_,_,h1,.inr (.inl ⟨v,rfl,rfl,rfl⟩)⟩
 |exc k ds=>injection h2 with e f;subst e;subst f;exact⟨_,_,h1,.inr (.inr ⟨k,ds,rfl,rfl,rfl⟩)⟩variable {ρk:Fm}{X:Fm->Prop}{body:List Stmt}{k':Nat}{J:ac}
inductive ForJ(Z:Cx)(A:Around)(env:Env)(ks:KS)(sc:SC)(T:Itr)(ag:List Addr)(σL:ac)(aq:Shared)(f:PyData->Fm->ac->Res Out)(out:Out)(ae:ac)(n:Nat)(s':Shared):Prop where
 |mk (k:Nat) (βk:List Addr) (σk:ac) (ρk:Fm) (h1:n=T.shown.length+1 - k) (h2:k<=T.shown.length) (L:Lp Z A (own env) T ag σL aq (T.St k) βk σk s') (Fr:FrameOk Z env ks sc ρk βk σk s'.heap) (hr:ba f (T.shown.drop k) ρk σk=.ok out ae):ForJ Z A env ks sc T ag σL aq f out ae n s'
theorem EZ{It:j2}{sa:Shared}{bD out:Out}{E:VP}(hb:F1 Z P gn G cf d b)(h4:Eg P gn ks sc b body=true)(hA:lT Z d A)(hE:x5 A env)
   (aH:Step cz Y U s ag aa aq) (ay:Inv Z ag aa aq.heap) (hlk:∀n,It.2.2=some n->aa[n]?=some (.lst It.2.1)) (hw:∀a∈T.wr,s.heap.get? a=none/\a∉ag) (hwOwn:∀a∈T.wr,¬ own env a) (ownS:∀x,own env x->¬ cj aq.heap x)
   (La:Lp Z A (own env) T ag (c5 It.2.2 aa) aq (T.St k') βk σk sa) (Fa:FrameOk Z env ks sc ρk βk σk sa.heap) (Fb:FrameOk Z env ks sc ρt βk σk sb.heap) (Sb:Step (own env) βk σk sa βk σk sb) (Ib:Inv Z βk σk sb.heap)
   (hf:execs G cf b ρt σk=.ok bD σc) (hor:(∃bV,bD=.next bV/\X bV)\/(∃v,A3 (bD=.ret v) (out=.ret v) (ae=σc))\/(X2 λk ds=>A3 (bD=.exc k ds) (out=.exc k ds) (ae=σc)))
   (q1:∀bV βc aW,X bV->Lp Z A (own env) T ag (c5 It.2.2 aa) aq (T.St k') βc σc aW->FrameOk Z env ks sc bV βc σc aW.heap->Q .next aW)
   (q2:∀u βc aW,Step (own env) Y U s βc (bx It.2.2 It.2.1 ae) aW->Inv Z βc (bx It.2.2 It.2.1 ae) aW.heap->FR Z env ks sc (.ret u) out βc (bx It.2.2 It.2.1 ae) aW.heap->Q (.ret u) aW)
   (q3:∀k ds v aW,out=.exc k ds->FlyQ env.frame Z (own env) Y U s (bx It.2.2 It.2.1 ae) k ds (FrameOk Z env ks sc []) v aW->E v aW):WP Z A (PySem.execs body env) Q E sb:=by
 have Lb:=La.step Sb Ib (λx z=>⟨(Fa.apart x z).1,Fa.notSeq x z⟩) hwOwn;have own2:∀x,own env x->x∉βk/\¬ cj sb.heap x:=λx z=>⟨(Fb.apart x z).1,Fb.notSeq x z⟩;have IX:∀a∈T.wr,¬ cj aq.heap a:=λa q=>(La.op.noseq 0 _ La.op.start a q).2;refine PQ (hb ks sc body env _ A βk σk sb h4 hA Fb Ib hE bD σc hf) (λf aW ⟨βc,Sc,Ic,q⟩=>?_) λv aW ⟨kx,dx,hx,fq⟩=>fq.elim λβc ea hv q=>?_
 . have Lc:=Lb.step Sc Ic own2 hwOwn;rcases hor with⟨bV,e,x⟩|⟨v,e,e',e''⟩|⟨k',ds',e,_⟩
   . refine kk λUc k=>?_;rw[e]at q;obtain⟨ef,Fc⟩:=q;refine k ?_;rw[ef];exact q1 bV βc aW x Lc Fc
   . rw[e]at q;obtain⟨u,ef,ru⟩:=q;rw[ef];rw[e'']at q2;obtain⟨Sx,Ix,ttx⟩:=lD aH.ofNo ay hlk Lc.st0 Lc.inv ownS IX λa q=>(hw a q).1;refine q2 u βc aW Sx Ix ?_;rw[e'];exact⟨u,rfl,cg.vrel (λx o vs n e d t=>⟨e,λz=>t ((ttx x).mp z)⟩) ru⟩
   . rw[e]at q;exact q.elim
 . have hor':out=.exc kx dx/\ae=σc:=by
     rw[hx]at hor;rcases hor with⟨bV,z,_⟩|⟨v,z,_⟩|⟨k',ds',z,z',z''⟩
     . injection z
     . injection z
     . injection z with e f;subst e;subst f;exact⟨z',z''⟩
   replace q3:=hor'.2▸q3;have Lc:=Lb.step q.st q.inv own2 hwOwn;obtain⟨Sx,Ix,ttx⟩:=lD aH.ofNo ay hlk Lc.st0 Lc.inv ownS IX λa q=>(hw a q).1;exact q3 kx dx v aW hor'.1 ⟨βc,ea,hv,Sx,Ix,q.nb,q.fl.back λa q=>aH.alive a (Lb.st0.alive a q),q.fr.map (cg.vrel λx o vs n e d t=>⟨e,λz=>t ((ttx x).mp z)⟩) (λb _ o e=>e) (λb _ o e=>e),λz=>(q.xd z).same (λa q=>aH.alive a (Lb.st0.alive a q)) (λ_ z=>z) λa=>(ttx a).mp⟩
theorem HO{It:j2}(F:FrameOk Z env ks sc K Y U s.heap)(aH:Step cz Y U s ag aa aq)(ay:Inv Z ag aa aq.heap)(h0:∀a,s.heap.get? a=none->Z.h₀.get? a=none)(hlk:∀n,It.2.2=some n->aa[n]?=some (.lst It.2.1))(hw:∀a∈T.wr,s.heap.get? a=none/\a∉ag)(hwOwn:∀a∈T.wr,¬ own env a)(ownS:∀x,own env x->¬ cj aq.heap x)
   (L:Lp Z A (own env) T ag (c5 It.2.2 aa) aq (T.St k') βk ae s') (Fr:FrameOk Z env ks sc ρk βk ae s'.heap) (hkz:Kp T s'.heap sz.heap) (hgz:sz.gens=s'.gens) (hoz:sz.os=s'.os):Po Z (own env) Y U s (bx It.2.2 It.2.1 ae) sz λβ'=>FR Z env ks sc .next (.next ρk) β' (bx It.2.2 It.2.1 ae) sz.heap:=by
 obtain⟨Sx,Ix,ttx⟩:=lD aH.ofNo ay hlk L.st0 L.inv ownS (λa q=>(L.op.noseq 0 _ L.op.start a q).2) (λa q=>(hw a q).1);have hnsI:∀a,a∈T.wr->¬ cj s'.heap a:=λa q=>(L.live a q).2;exact⟨βk,Sx.tail (W:=(·∈T.wr)) (λa q=>(hw a q).1) hkz hgz hoz,Ix.touch (W:=(·∈T.wr)) L.nm (λa q=>h0 a (hw a q).1) hnsI hkz,rfl,(Fr.map (cg.vrel λx o vs n e d t=>⟨e,λz=>t ((ttx x).mp z)⟩) (λb _ o e=>e) λb _ o e=>e).touch (W:=(·∈T.wr)) (λa q=>F.frs.not (hw a q).1) hwOwn hnsI hkz⟩theorem DX{a b:B}(h:Res.ok a U=.ok b J):a=b/\U=J:=by injection h with e f;subst e;subst f;exact⟨rfl,rfl⟩
theorem E0{out:Out}(hb:F1 Z P gn G cf d b)(h1:o6 sc t tx=true)(h4:Eg P gn ks sc b body=true)(h5:(yU t||!yX it)=true)(hh:A.handled=none)(hA:lT Z d A)(F:FrameOk Z env ks sc K Y U s.heap)(Iv:Inv Z Y U s.heap)(hE:x5 A env)
   (hen:T.en=yX it) (aH:Step cz Y U s ag aa aq) (ay:Inv Z ag aa aq.heap) (hw:∀a∈T.wr,s.heap.get? a=none/\a∉ag) (Op:Opened Z A T ag (c5 I.2.2 aa) aq.heap) (hlk:∀n,I.2.2=some n->aa[n]?=some (.lst I.2.1)) (hr:ba (rq G cf t b) T.shown K (c5 I.2.2 aa)=.ok out ae)
   (r1:∀f s',(f=.next\/∃u,f=.ret u)->(Po Z (own env) Y U s (bx I.2.2 I.2.1 ae) s' λβ'=>FR Z env ks sc f out β' (bx I.2.2 I.2.1 ae) s'.heap)->R (.ok f) s')
   (r3:∀k ds v aW,out=.exc k ds->FlyQ env.frame Z (own env) Y U s (bx I.2.2 I.2.1 ae) k ds (FrameOk Z env ks sc []) v aW->notedBy (model Z.prog Z.w) A env (λe s'=>R (.error e) s') v aW):codeAny (model Z.prog Z.w) A (.forLoop tx (.ref T.Ia) body [] env) R aq:=by
 have h0:∀a,s.heap.get? a=none->Z.h₀.get? a=none:=λa ha=>by
   cases q:Z.h₀.get? a with
   |none=>rfl
   |some o=>rw[Iv.base a o q]at ha;injection ha
 obtain⟨IL,SL⟩:=AC ay hlk;have hwOwn:∀a∈T.wr,¬ own env a:=λa ha z=>by obtain⟨o,ho,_⟩:=F.ownSome z;rw[(hw a ha).1]at ho;injection ho
 have ownS:∀x,own env x->¬ cj aq.heap x:=(F.step aH).notSeq;refine codeAny_forLoop_any (ForJ Z A env ks sc T ag (c5 I.2.2 aa) aq (rq G cf t b) out ae) ?_ (T.shown.length+1) ⟨0,_,_,K,rfl,PU _,Lp.start Op IL (λa q=>(hw a q).2) λa q=>h0 a (hw a q).1,(F.step aH).step SL,hr⟩;clear hr IL SL
 rintro n s' ⟨k,βk,σk,ρk,en,hkl,L,Fr,hrest⟩
 refine en▸?_;clear en;by_cases hlt:k < T.shown.length
 . refine L.next hlt λw dd sa Lm hdd lZ hka=>?_;have Fa:FrameOk Z env ks sc ρk βk σk sa.heap:=Fr.touch (W:=(·∈T.wr)) (λa q=>F.frs.not (hw a q).1) hwOwn (λa q=>(L.live a q).2) hka;obtain⟨bD,σc,hf0,hor⟩:=yR hdd hrest;obtain⟨ρt,hbt,hf⟩:=El hf0;clear hf0 hrest hka L Fr hdd;have turn:=λ{sa'} (La:Lp Z A (own env) T ag (c5 I.2.2 aa) aq (T.St (k+1)) βk σk sa') (Fa:FrameOk Z env ks sc ρk βk σk sa'.heap) {sb} (Fb:FrameOk Z env ks sc ρt βk σk sb.heap) (Sb:Step (own env) βk σk sa' βk σk sb) (Ib:Inv Z βk σk sb.heap)=>EZ (Q:=λf aW=>match f with | .next | .cont=>∃m,m < T.shown.length+1 - k/\ForJ Z A env ks sc T ag (c5 I.2.2 aa) aq (rq G cf t b) out ae m aW | .brk=>R (.ok .next) aW | .ret v=>R (.ok (.ret v)) aW) hb h4 hA hE aH ay hlk hw hwOwn ownS La Fa Fb Sb Ib hf hor (λbV βc aW x Lc Fc=>⟨T.shown.length+1 - (k+1),zT hlt,k+1,βc,σc,bV,rfl,hlt,Lc,Fc,x⟩) (λu βc aW Sx Ix fr=>r1 _ _ (.inr ⟨u,rfl⟩) ⟨βc,Sx,Ix,fr⟩) r3
   clear hor hf;cases t with
   |var i=>replace h1:=av h1;obtain⟨x,h0,hx⟩:=h1;apply gj (bO h0);intro p;have La:=Lm.skip (hen.trans (wL h5));rw[<- Option.some.inj hbt]at turn;refine PJ (a:=()) ?_;exact wpAny_assign_Name (Fa.store La.inv (of_decide_eq_true hx) (v:=.d dd) lZ λsb Fb Sb Ib _ _=>turn La Fa Fb Sb Ib)
   |tup l=>replace h1:=av h1;obtain⟨xs,h0,h1⟩:=h1;apply zb (lv h0);intro k' p;refine Lm.go λsa' La hk'=>?_;have Fa':FrameOk Z env ks sc ρk βk σk sa'.heap:=Fa.touch (W:=(·∈T.wr)) (λa q=>F.frs.not (hw a q).1) hwOwn (λa q=>(Lm.live a q).2) hk';exact sB hh h1 Fa' La.inv (j9 (W:=(·∈T.wr)) hk' (λa q=>(Lm.live a q).2) lZ) hbt λsb Fb Sb Ib _=>turn La Fa' Fb Sb Ib
 . have hke:k=T.shown.length:=RB hkl (QF hlt);refine L.done hke λsz hkz hgz hoz=>?_;rw[hke,Sk,Kx]at hrest;have e:=DX hrest;rw[e.2]at L Fr;exact wpAny_execs_nil (r1 _ _ (.inl rfl) (e.1▸HO F aH ay h0 hlk hw hwOwn ownS L Fr hkz hgz hoz))
inductive ForX(G:GD)(cf:CF)(t:Tgt)(it:It)(b:SL)(K:Fm)(U:ac)(out:Out)(σ':ac):Prop where
 |mk (I:j2) (aa ae:ac) (h1:cA G cf it K U=.ok I aa) (h2:ba (rq G cf t b) I.1 K (c5 I.2.2 aa)=.ok out ae) (h3:σ'=bx I.2.2 I.2.1 ae):ForX G cf t it b K U out σ'
theorem Nn{out:Out}(ev:exec G cf (.forr t it b) K U=.ok out σ'):ForX G cf t it b K U out σ':=by rw[Cd]at ev;obtain⟨I,aa,hit,ev⟩:=Res.bind_ok ev;obtain⟨o,ae,hr,hv⟩:=Res.bind_ok ev;have e:=DX hv;exact⟨I,aa,ae,hit,e.1▸hr,e.2.symm⟩theorem JU(D:Wd Z P gn G cf d)(hb:F1 Z P gn G cf d b):PS Z P gn G cf d (.forr t it b):=λks sc x env K A Y U s hm hA F I hE=>by replace hm:=av hm;obtain⟨⟨tx,iter,body,els⟩,h0,hm⟩:=hm;apply gj (GQ h0);intro pos;refine kk λUc kx=>?_;obtain⟨hm,hP⟩:=PK.mp hm;obtain⟨hm,h5⟩:=PK.mp hm;obtain⟨hm,h4⟩:=PK.mp hm;obtain⟨hm,h3⟩:=PK.mp hm;obtain⟨hm,h2⟩:=PK.mp hm;obtain⟨hm,h1⟩:=PK.mp hm;have hh:=hA.1 (D.q hP);refine kx λout σ' ev=>?_;apply iY (show els=[] from gc hm);clear kx hm hP h0;obtain⟨I',aa,ae,hit,hr,e⟩:=Nn ev;refine e▸?_;refine wpAny_For ?_ (λx=>o4 h2 x);refine PQ (Kf D it ks sc iter env K A Y U s I' aa h3 hA hh F I hit) (λx ai h=>PQ h (λitv aq h=>?_) λ_ _ x=>x.elim) λ_ _ x=>x.elim;obtain⟨ag,T,ei,hsh,hen,aH,ay,hw,Op,hlk,hlen⟩:=h;exact ei▸(E0 hb h1 h4 h5 hh hA F I hE hen aH ay hw Op hlk (hsh▸hr) (λf s' hf q=>q) λk ds v aW hx fq=>E4 hA hE F.frs I hx fq)theorem GJ:PS Z P gn G cf d .stop:=λks sc x env K A Y U s hm hA F I hE=>by intro c σ' ev;injection ev
mutual
theorem Ph(D:Wd Z P gn G cf d):∀st,PS Z P gn G cf d st
 |.expr e=>GN D
 |.asg t e=>JV D
 |.asgT l e=>GP D
 |.put o i e=>JT D
 |.ite c a b=>DC D (yH D a) (yH D b)
 |.forr t it b=>JU D (yH D b)
 |.ret e=>JS D
 |.pass=>GK
 |.stop=>GJ
 |.calls t f es=>DD D
 |.raise k es=>DA D
 |.tryS b h=>JR D (yH D b)
 |.iteC f es i x b=>GM D (yH D b)theorem yH(D:Wd Z P gn G cf d):∀st,F1 Z P gn G cf d st
 |.nil=>DB
 |.cons s r=>GO (Ph D s) (yH D r)
end
def pZ(names:KS)(slots:SC)(ps:List Str)(np ns:Nat):Bool:=
 (slots.all λp=>(decide (names.lookup p.1=some .local)||(decide (names.lookup p.1=some .cell)))&&co p.1)&&decide (slots.map (·.2)).Nodup&&decide (ps.length=np)&&
 (ps.zipIdx.all λp=>decide (slots.lookup p.1=some p.2))&&decide (np<=ns)&&(slots.all λp=>decide (p.2 < ns))
inductive FnX(Z:Cx)(P:Nat->Option Fn)(gn:Nat->Str)(fn:Fn):Prop where
 |mk (a:Addr) (o:Obj) (fd:FuncData) (body:List Stmt) (ps:List Str) (h1:Z.mg fn.name=some (.ref a)) (h2:Z.h₀.get? a=some o) (h3:o.data=.func fd) (h4:fd.body=.stmts body) (h5:fd.closure=[]) (h6:Z.h₀.CodeRec fd.code fd.qualname) (h7:fd.globals=mainGlobals) (h8:fd.builtins=builtinsNs)
   (h9:fd.scope.kind=.function) (h10:fd.scope.isCoroutine=false) (h11:fd.scope.isGenerator=false) (h12:∀vals:List Value,vals.length=ps.length->bindArgs fd ⟨vals,[]⟩=pure (ps.zip vals))
   (h13:pZ fd.scope.names fn.slots ps fn.np fn.ns=true) (h14:Eg P gn fd.scope.names fn.slots fn.body body=true):FnX Z P gn fn
set_option tactic.hygienic true in
theorem fP:∀{names:KS} {n:Nat} {acc:List (Str×Addr)} {x:Str},(x,NameKind.cell)∈names\/(acc.lookup x).isSome=true->((cellsFrom n names acc).lookup x).isSome=true
 |[],n,acc,x,h=>by
   rcases h with h|h
   . cases h
   . exact h
 |(y,k)::r,n,acc,x,h=>by
   unfold cellsFrom;split
   . rename_i hk;refine fP ?_;rcases h with h|h
     . rcases PO.mp h with h|h
       . injection h with e f;subst e;subst f;right;simp[P4]
       . exact .inl h
     . right;rw[P4];split
       . rfl
       . exact h
   . rename_i hk;refine fP ?_;rcases h with h|h
     . rcases PO.mp h with h|h
       . injection h with e f;subst e;subst f;simp at hk
       . exact .inl h
     . exact .inr (h)variable {x:Str}{kindOf:Str->Option NameKind}
theorem xT(hx:kindOf x=some .local):∀{ps:List Str} {vals:List Value} {m:Str->Option Value},ps.Nodup->(∀(i:Nat) (v:Value),ps[i]?=some x->vals[i]?=some v->bindL kindOf (ps.zip vals) m x=some v)/\(x∉ps->bindL kindOf (ps.zip vals) m x=m x)
 |[],vals,m,_=>⟨λi v h=>by simp at h,λ_=>rfl⟩
 |p::ps,[],m,_=>⟨λi v _ h=>by simp at h,λ_=>rfl⟩
 |p::ps,w::vals,m,hn=>by
   have q9:=QY.mp hn;have h1:=q9.1;have e:∀y,bindL kindOf ((p::ps).zip (w::vals)) m y=bindL kindOf (ps.zip vals) (if kindOf p=some .local then λy=>if y=p then some w else m y else m) y:=λ_=>rfl;have ih:=λm'=>xT hx (ps:=ps) (vals:=vals) (m:=m') q9.2;refine⟨λi v hi hv=>?_,λhx'=>?_⟩
   . rw[e];cases i with
     |zero=>simp at hi hv;subst hi hv;rw[(ih _).2 h1,if_pos hx];simp
     |succ i=>exact(ih _).1 i v (by simpa using hi) (by simpa using hv)
   . simp only[PO,not_or]at hx';rw[e,(ih _).2 hx'.2];split
     . show (if x=p then some w else m x)=m x;exact(if_neg hx'.1)
     . rfl
theorem xU(hx:kindOf x≠some .local):∀{ps:List Str} {vals:List Value} {m:Str->Option Value},ps.Nodup->(∀(i:Nat) (v:Value),ps[i]?=some x->vals[i]?=some v->bindC kindOf (ps.zip vals) m x=some v)/\(x∉ps->bindC kindOf (ps.zip vals) m x=m x)
 |[],vals,m,_=>⟨λi v h=>by simp at h,λ_=>rfl⟩
 |p::ps,[],m,_=>⟨λi v _ h=>by simp at h,λ_=>rfl⟩
 |p::ps,w::vals,m,hn=>by
   have q9:=QY.mp hn;have h1:=q9.1;have e:∀y,bindC kindOf ((p::ps).zip (w::vals)) m y=bindC kindOf (ps.zip vals) (if kindOf p=some .local then m else λy=>if y=p then some w else m y) y:=λ_=>rfl;have ih:=λm'=>xU hx (ps:=ps) (vals:=vals) (m:=m') q9.2;refine⟨λi v hi hv=>?_,λhx'=>?_⟩
   . rw[e];cases i with
     |zero=>simp at hi hv;subst hi hv;rw[(ih _).2 h1,if_neg hx];simp
     |succ i=>exact(ih _).1 i v (by simpa using hi) (by simpa using hv)
   . simp only[PO,not_or]at hx';rw[e,(ih _).2 hx'.2];split
     . rfl
     . show (if x=p then some w else m x)=m x;exact(if_neg hx'.1)variable {fd:FuncData}{ps:List Str}{xs:List V}{vs vals:List Value}{p:pV}{slots:SC}{v v':V}
theorem eY.get(r:eY Y U h vs xs){x:V}(e:xs[i]?=some x):∃v,vs[i]?=some v/\aE Y U h v x:=by
 induction r generalizing i with
 |nil=>cases (e)
 |cons r rs ih=>
   cases i with
   |zero=>injection e with e;subst e;exact⟨_,rfl,r⟩
   |succ i=>exact ih e
theorem kg{np ns:Nat}(h:pZ names slots ps np ns=true) :
   A5 (∀x i,slots.lookup x=some i->(names.lookup x=some .local\/names.lookup x=some .cell)/\co x=true) (slots.map (·.2)).Nodup (ps.length=np) (∀i x,ps[i]?=some x->slots.lookup x=some i) (np<=ns):=by
 obtain⟨h1,h2,h3,h4,h5,h6⟩:=zJ h;refine⟨λx i hx=>?_,of_decide_eq_true h2,of_decide_eq_true h3,λi x hx=>of_decide_eq_true (QP.mp h4 (x,i) (List.mem_zipIdx_iff_getElem?.mpr hx)),of_decide_eq_true h5⟩;have q:=PK.mp (QP.mp h1 (x,i) (mem_of_lookup hx));exact⟨(Qc.mp q.1).imp of_decide_eq_true of_decide_eq_true,q.2⟩theorem wC(h:∀i x,ps[i]?=some x->slots.lookup x=some i):ps.Nodup:=by unfold List.Nodup;rw[List.pairwise_iff_getElem];intro i j hi hj hij e;have h1:=h i _ (PD hi);rw[e,(h j _ (PD hj))]at h1;exact QG hij (Option.some.inj h1).symm
noncomputable abbrev Cx.at(Z:Cx)(l:List Addr):Cx:={ Z with fr:=l }theorem Inv.fr(l:List Addr)(I:Inv Z Y U h):Inv (Z.at l) Y U h:=⟨I.len,I.nodup,I.base,I.fresh,λk a c h1 h2=>by have:=I.cell k a c h1 h2;cases c<;>exact this⟩
theorem Cs(hs:pZ fd.scope.names fn.slots ps fn.np fn.ns=true)(hk:fd.scope.kind=.function)(hg:fd.globals=mainGlobals)(hb:fd.builtins=builtinsNs)
   (Fs:gk Z Y s.heap) (I:Inv Z Y U s.heap) (r:eY Y U s.heap vals xs) (hl:xs.length=fn.np)
   (x:InCallC s (callEnvC fd s.heap.objs.size a).locals (bindL (callEnvC fd s.heap.objs.size a).kindOf (ps.zip vals) λ_=>none) (callEnvC fd s.heap.objs.size a).cells (bindC (callEnvC fd s.heap.objs.size a).kindOf (ps.zip vals) λ_=>none) ai) :
   A4 (FrameOk (Z.at (s.heap.objs.size::Z.fr)) (callEnvC fd s.heap.objs.size a) fd.scope.names fn.slots (xs++List.replicate (fn.ns - fn.np) .un) Y U ai.heap) (Step (own (callEnvC fd s.heap.objs.size a)) Y U s Y U ai) (Inv (Z.at (s.heap.objs.size::Z.fr)) Y U ai.heap) (∀y,own (callEnvC fd s.heap.objs.size a) y->s.heap.get? y=none):=by
 refine kk λUc k=>?_;obtain⟨f1,f2,f3,f4,f5⟩:=kg hs;have pn:=wC f4;obtain⟨h',tk,rfl,hkeep⟩:=x.done;refine k ?_;have S:Step (own (callEnvC fd s.heap.objs.size a)) Y U s Y U { s with heap:=h',toks:=tk }:=Step.grow hkeep rfl rfl;have Sn:Step cz Y U s Y U { s with heap:=h',toks:=tk }:=Step.grow hkeep rfl rfl;have fresh:∀y,own (callEnvC fd s.heap.objs.size a) y->s.heap.get? y=none:=λy hy=>by
   rcases hy with rfl|⟨n,hn⟩
   . exact hX x.toInCall.fresh
   . exact hX (Qg (P8 x.toInCall.fresh (x.above n y (mem_of_lookup hn))))
 have argAt:∀{x:Str} {i:Nat} {v:V},fn.slots.lookup x=some i->(xs++List.replicate (fn.ns - fn.np) .un)[i]?=some v->v≠.un->ps[i]?=some x/\∃w,vals[i]?=some w/\aE Y U h' w v:=by
   intro x i v hx hv hu;have hi:i < fn.np:=by
     rcases S3 i fn.np with q|q
     . exact q
     . rw[PY (by rw[hl];exact q)]at hv;have:=PF hv;rw[Ss]at this;exact absurd this.2 hu
   rw[P3 (by rw[hl];exact hi)]at hv;obtain⟨w,h1,h2⟩:=r.get hv;have hp:i < ps.length:=by rw[f3];exact hi
   have h3:=f4 i _ (PD hp);exact⟨by rw[PD hp,(lj f2 hx h3)],w,h1,Sn.vrel0 h2⟩
 refine⟨⟨hk,hg,hb,λy k hy=>.inl hy,λy i hy=>?_,λy z i hy hz=>lj f2 hy hz,⟨_,x.toInCall.ns,λy i hy hl v hv hu=>?_⟩,λy c hc=>⟨_,x.cell y c hc,λi hy hk' v hv hu=>?_⟩,λy hy=>?_,λy z c hy hz=>name_of_addr x.apart (mem_of_lookup hy) (mem_of_lookup hz),λy hy=>?_,λf hf=>?_⟩,S,(I.grow hkeep).fr _,fresh⟩
 . obtain⟨h1,h2⟩:=f1 y i hy;refine⟨?_,(cV h2).2⟩;rcases h1 with h1|h1
   . exact .inl h1
   . exact .inr ⟨.inl h1,Qj.mp (fP (.inl (mem_of_lookup h1)))⟩
 . obtain⟨h1,w,h2,h3⟩:=argAt hy hv hu;exact⟨w,(xT hl pn).1 i w h1 h2,h3⟩
 . obtain⟨h1,w,h2,h3⟩:=argAt hy hv hu;exact⟨w,(xU (by rcases hk' with q|q<;>rw[q]<;>simp) pn).1 i w h1 h2,h3⟩
 . refine⟨I.notMem (fresh y hy),?_⟩;cases q:Z.h₀.get? y with
   |none=>rfl
   |some o=>have:=I.base y o q;rw[fresh y hy]at this;injection this
 . exact Rt _ (x.above y _ (mem_of_lookup hy))
 . rcases PO.mp hf with rfl|hf
   . have q:s.heap.get? s.heap.objs.size=none:=fresh _ (.inl rfl);obtain⟨o,es,ep,ho,hd,_⟩:=x.toInCall.ns;refine⟨⟨o,ho,es,ep,hd⟩,I.notMem q,?_⟩;cases z:Z.h₀.get? s.heap.objs.size with
     |none=>rfl
     |some o=>have:=I.base _ o z;rw[q]at this;injection this
   . obtain⟨⟨o,e,q⟩,r⟩:=Fs f hf;exact⟨⟨o,hkeep f o e,q⟩,r⟩
theorem pr{Q:V->ac->Prop}{c:V}(h:nG n v U=.ok c σ')(h1:∀x,v=.d x->Q (.d x) (U.take n))(h3:∀k c',v=.loc k->¬ k < n->U[k]?=some c'->Q (.loc n) (U.take n++[c'])):Q c σ':=by
 cases v with
 |d x=>injection h with e f;subst e;subst f;exact h1 x rfl
 |loc k=>
   have h:(if k < n then Res.bad else match U[k]? with|some (.lst l)=>.ok (.loc n) (U.take n++[.lst l]) | some (.dct l)=>.ok (.loc n) (U.take n++[.dct l]) | _=>.bad)=.ok c σ':=h;by_cases hk:k < n
   . rw[if_pos hk]at h;injection h
   . rw[if_neg hk]at h;cases hc:U[k]? with
     |none=>rw[hc]at h;injection h
     |some c'=>
       replace h:=hc▸h;cases c' with
       |lst l=>injection h with e f;subst e;subst f;exact h3 k _ rfl hk hc
       |dct l=>injection h with e f;subst e;subst f;exact h3 k _ rfl hk hc
       |_=>injection h
 |_=>injection h
theorem rT{w:Value}(S:Step O Y U s ag aa ai)(I:Inv Z Y U s.heap)(ay:Inv Z ag aa ai.heap)(r:aE ag aa ai.heap w v)(h:nG U.length v aa=.ok v' σ'):Po Z O Y U s σ' ai λβ'=>aE β' σ' ai.heap w v':=by
 have hl:=I.len;apply pr h
 . intro x e;rw[e]at r;exact⟨_,S.take hl ay.len,ay.take _,Gw r⟩
 . intro k c' e hk hc;rw[e]at r;obtain⟨a,hb,ew⟩:=r;have hlen:(ag.take U.length).length=U.length:=by obtain⟨e,q,_⟩:=S.ext;rw[q,Qn,PC];exact Qo (by rw[<- hl];exact PW _ _)
   have E:=HU S hl ay (QF hk) hb hc;exact⟨_,E.1,E.2,a,by rw[PY (Qm hlen),hlen];simp,ew⟩
theorem rU{c:V}(h:nG n v U=.ok c σ'):nJ c=none:=
 pr (Q:=λc _=>nJ c=none) h (λ_ _=>rfl) λ_ _ _ _ _=>(rfl)def Iu(Z:Cx)(p:pV)(gn:Nat->Str):Prop:=∀k x,p.1 k=some x->∃v,Z.mg (gn k)=some v/\∀T h,Rel T h v x
noncomputable def Ir (Z:Cx) (p:pV) (gn:Nat->Str):Prop:=∀i fn,p.2 i=some fn->fn.name=("_law_kind":Str)->FnX Z (λ_=>none) gn fn
structure Static(Z:Cx)(p:pV)(gn:Nat->Str):Prop where
 w:World0 Z
 y:CQ Z
 b:BiOk Z
 g:Iu Z p gn
 f:∀i fn,p.2 i=some fn->FnX Z p.2 gn fn
 x:XOk Z
 k:Ir Z p gn
noncomputable abbrev Cx.of(Z:Cx)(l:List Addr)(q:Bool):Cx:={ Z with fr:=l,q:=q }theorem Inv.of(l:List Addr)(q:Bool)(I:Inv Z Y U h):Inv (Z.of l q) Y U h:=⟨I.len,I.nodup,I.base,I.fresh,λk a c h1 h2=>by have:=I.cell k a c h1 h2;cases c<;>exact this⟩theorem Inv.ofBack{l:List Addr}{q:Bool}(I:Inv (Z.of l q) Y U h):Inv Z Y U h:=⟨I.len,I.nodup,I.base,I.fresh,λk a c h1 h2=>by have:=I.cell k a c h1 h2;clear h2;cases c<;>exact this⟩
theorem FnX.of(h:FnX Z P gn fn)(l:List Addr)(q:Bool):FnX (Z.of l q) P gn fn:=by
 cases h with
 |mk a o fd body ps h1 h2 h3 h4 h5 h6 h7 h8 h9 h10 h11 h12 h13 h14=>exact .mk a o fd body ps h1 h2 h3 h4 h5 h6 h7 h8 h9 h10 h11 h12 h13 h14
theorem Static.of(T:Static Z p gn)(l:List Addr)(q:Bool):Static (Z.of l q) p gn:=
 ⟨{ T.w with },T.y,{ T.b with },T.g,λi fn h=>(T.f i fn h).of _ _,{ T.x with },λi fn h h'=>(T.k i fn h h').of _ _⟩
set_option tactic.hygienic true in
theorem E2{f:Nat}{q:Bool}(T:Static Z p gn)(hf:p.2 f=some fn)(Fn:FnX Z P gn fn)(ih:∀l,Wd (Z.of l q) P gn p.1 (aj p d) d):NU Z (aj p (d+1)) (d+1) f fn q:=by
 obtain⟨a,o,fd,body,ps,h1,h2,h3,h4,h5,h6,h7,h8,h9,h10,h11,h12,h13,h14⟩:=Fn;refine⟨a,o,fd,h1,h2,h3,λA Y U s vs xs hA Fs I r c σ' ev=>?_⟩;have ev:(match p.2 f with|none=>Res.bad|some fn=>if xs.length=fn.np then (execs p.1 (aj p d) fn.body (xs++List.replicate (fn.ns - fn.np) V.un) U).bind λo aa=>nH U.length o aa else .bad)=.ok c σ':=ev;replace ev:=hf▸ev;dsimp only at ev;split at ev
 . rename_i hl;obtain⟨out,aa,e1,e2⟩:=Res.bind_ok ev;obtain⟨f1,f2,f3,f4,f5⟩:=kg h13;have hvl:vs.length=ps.length:=by rw[gl r,hl,f3]
   have k3:=(T.w.keeps I).2.2;refine wpAny_call (codeAny_call_cells (P8 (iv (PW _ (d+1)) (PW _ 2)) hA.2.1) (I.base a o h2) h3 k3 (h6.keeps I.base) h4 (h12 vs hvl) h5 (λy hy=>?_) (λai x=>?_) h10 h11 h9)
   . obtain⟨i,hi⟩:=Q2 (TD hy).1;rcases (f1 _ i (f4 i _ hi)).1 with q|q
     . exact .inl q
     . exact .inr ⟨q,fP (.inl (mem_of_lookup q))⟩
   . obtain⟨Fr,S,ay,fresh⟩:=Cs (Z:=Z.of Z.fr q) h13 h9 h7 h8 Fs (I.of Z.fr q) r hl x;have hA2:=hA.deeper (callEnvC fd s.heap.objs.size a) rfl h9;obtain⟨_,_,_,l0,hl0,_⟩:=hA;have hfr:=Around.frames_deeper (env:=callEnvC fd s.heap.objs.size a) hl0;refine PQ (yH (ih (s.heap.objs.size::Z.fr)) fn.body _ _ body _ _ _ Y U ai h14 hA2 Fr ay ⟨_,_,hfr,rfl⟩ out aa e1) (λfl aq ⟨a5,cC,cD,q⟩=>?_) λv aq ⟨k,ds,q,fq⟩=>?_
     . have S':=(S.trans cC).drop fresh;have cD:=cD.ofBack;cases out with
       |next ρ'=>obtain⟨rfl,_⟩:=q;have e2:nG U.length (.d .none) aa=.ok c σ':=e2;exact⟨rU e2,rT S' I cD (v:=.d .none) .none e2⟩
       |ret v=>obtain⟨w,rfl,q⟩:=q;have e2:nG U.length v aa=.ok c σ':=e2;exact⟨rU e2,rT S' I cD q e2⟩
       |exc k ds=>exact q.elim
     . clear ev e1;subst q;injection e2 with e f;subst e;subst f;refine fq.elim λa5 e hv q=>x5.elim ⟨_,_,hfr,rfl⟩ hA2 λouter L hfr' hfL hfm hfx=>q.fl.elim λoe vs' he hc hd hL hT=>?_;clear fq;subst hv;refine wZ hfr' (q.frames hfx) hfL he hd hL λoK N=>?_;have qN:=q.noted (L':=none) Fr.frs ay (.inl rfl) (λf' hf=>hfm▸hf) he hc hd hL hT N;exact⟨k,ds,rfl,a5.take U.length,e,rfl,((S.trans qN.st).drop fresh).take I.len qN.inv.len,qN.inv.ofBack.take _,λm=>qN.nb (Qa m),qN.fl.back S.alive,trivial,λz=>(qN.xd z).same S.alive (λ_=>Qa) λ_=>oa⟩
 . injection ev
theorem DK(T:Static Z p gn):Wd Z (λ_=>none) gn p.1 cf d:=⟨T.w,T.y,T.b,T.g,(λf fn hf=>by injection hf),(λh=>by injection h)
 ,T.x,λf fn hf=>by injection hf⟩
theorem Gi(p:pV)(gn:Nat->Str)(Z:Cx)(T:Static Z p gn)(hz:Z.q=false)(hcf:∀f xs U,cf f xs U=.bad):Wd Z p.2 gn p.1 cf 0:=
 have H:∀{P:Nat->Option Fn} {fn:Fn} {f:Nat} {q:Bool},FnX Z P gn fn->NU Z cf 0 f fn q:=λx=>by obtain⟨a,o,fd,body,ps,h1,h2,h3,_⟩:=x;exact⟨a,o,fd,h1,h2,h3,λA Y U s vs xs _ _ _ _=>by rw[hcf];exact LO.bad⟩
 ⟨T.w,T.y,T.b,T.g,λf fn hf=>H (T.f f fn hf),λ_=>hz,T.x,λf fn hf hn=>H (T.k f fn hf hn)⟩
theorem vW(p:pV)(gn:Nat->Str):∀(d:Nat) (Z:Cx) (T:Static Z p gn) (hz:Z.q=false),Wd Z p.2 gn p.1 (aj p d) d
 |0=>@λZ T hz=>Gi p gn Z T hz λ_ _ _=>rfl
 |d+1=>@λZ T hz=>⟨T.w,T.y,T.b,T.g,λf fn hf=>E2 T hf (T.f f fn hf) λl=>vW p gn d (Z.of l Z.q) (T.of _ _) hz,λ_=>hz,T.x,
     λf fn hf hn=>E2 T hf (T.k f fn hf hn) λl=>DK (T.of l true)⟩theorem xo{f g:B->Option γ}:∀{l:List B},(∀n∈l,f n=g n)->l.filterMap f=l.filterMap g
 |[]=>@λ_=>rfl
 |a::l=>@λh=>by rw[Rz,Rz,h a (PH ..),xo λn hn=>h n (PG _ hn)]
set_option tactic.hygienic true in
theorem qo:∀{ps:List Str} {vals:List Value},ps.Nodup->vals.length=ps.length->(∀n∈ps,((ps.zip vals).lookup n).isSome=true)/\(ps.filterMap λn=>((ps.zip vals).lookup n).map (n,·))=ps.zip vals
 |[],[]=>@λ_ _=>⟨(λn h=>by cases h),rfl⟩
 |[],_::_=>@λ_ h=>by simp at h
 |_::_,[]=>@λ_ h=>by simp at h
 |p::ps,v::vals=>@λhn hl=>by
   obtain⟨h1,h2⟩:=QY.mp hn;have ih:=qo h2 (by simpa using hl);refine⟨λn hm=>?_,?_⟩
   . rw[List.zip_cons_cons,P4];split
     . rfl
     . rename_i hne;clear hl;rcases PO.mp hm with rfl|hm
       . simp at hne
       . exact ih.1 n hm
   . rw[List.zip_cons_cons,Rz,P4];simp only[beq_self_eq_true,Sz];rw[xo (g:=λn=>((ps.zip vals).lookup n).map (n,·)) λn hm=>?_,ih.2];rw[P4];have:(n==p)=false:=by
       simp only[beq_eq_false_iff_ne]
       rintro rfl;exact h1 hm
     rw[this]variable {as:List Arg}
theorem sm{qual:Str}{pm code doc:Value}(hn:(as.map (·.arg)).Nodup)(hl:vals.length=(as.map (·.arg)).length) :
   bindArgs (PyProof.Rows.methDef name qual ⟨[],as,none,[],[],none,[]⟩ body scope pm code doc) ⟨vals,[]⟩=pure ((as.map (·.arg)).zip vals):=by
 refine(qo hn hl).elim λz1 z2=>?_;refine Eq.trans (b:=if (decide (vals.length > (as.map Arg.arg).length)&&true)=true then _ else _) rfl ((if_neg (by refine hl▸?_;simp)).trans ?_);refine Eq.trans (b:=if (!(List.filter (λn=>(List.lookup n ((as.map Arg.arg).zip vals)).isNone) (List.take ((as.map Arg.arg).length - (List.drop (0 - (as.map Arg.arg).length) ([]:List Value)).length) (as.map Arg.arg))).isEmpty)=true then _ else _) rfl ((if_neg ?_).trans ?_)
 . rw[RE.mpr λn hn=>?_]
   . simp
   . rw[QC,<- Option.not_isSome_iff_eq_none];exact not_not_intro (z1 n (Qa hn))
 . show (forIn (List.zip (List.drop _ (as.map Arg.arg)) (List.drop (0 - (as.map Arg.arg).length) ([]:List Value))) ((as.map Arg.arg).zip vals) _ >>= λ_=>_)=_;rw[List.drop_nil,List.zip_nil_right];show (pure (List.filterMap _ (as.map Arg.arg++[])):Sem _)=_;rw[P6];exact congrArg pure (z2)theorem wE{a:Arguments}(h:kj a=true):a=⟨[],a.args,none,[],[],none,[]⟩:=by obtain⟨p,as,v,k,kd,kw,d⟩:=a;obtain⟨h1,h2,h3,h4,h5,h6⟩:=zJ h;rw[show p=[] from RQ.mp h1,show v=none from QC.mp h2,show k=[] from RQ.mp h3,show kd=[] from RQ.mp h4,show kw=none from QC.mp h5,show d=[] from RQ.mp h6]def lF(rs:List DefRec)(P:Nat->Option Fn)(gn:Nat->Str)(fn:Fn):Bool:=ob (rs.find? λr=>decide (r.name=fn.name)) λr=>kj r.params&&decide (r.scope.kind=.function)&&!r.scope.isCoroutine&&!r.scope.isGenerator&&pZ r.scope.names fn.slots (r.params.args.map (·.arg)) fn.np fn.ns&&Eg P gn r.scope.names fn.slots fn.body r.body
variable {view:Program}
theorem AR(TA:∀e:PyProof.Rows.DefItem,e∈List.map PySem.W.itemOf (PyProof.Rows.recsOf view)->e.params.defaults=[]->e.At Z.mg Z.h₀)
   (h:lF (PyProof.Rows.recsOf view) P gn fn=true):FnX Z P gn fn:=by
 replace h:=av h;obtain⟨r,hr,h⟩:=h
 . skip
   obtain⟨h1,h2,h3,h4,h5,h6⟩:=zJ h;replace h2:=of_decide_eq_true h2;replace h3:=wL h3;replace h4:=wL h4;have hn:r.name=fn.name:=by simpa using List.find?_some hr
   have hp:=wE h1;obtain⟨a,c,P',o,pm,doc,q1,q2,q3,q4,_⟩:=TA (PySem.W.itemOf r) (Qk.mpr ⟨r,(List.mem_of_find?_eq_some hr),rfl⟩) (by show r.params.defaults=[];exact congrArg _ hp);obtain⟨f1,f2,f3,f4,f5⟩:=kg h5;refine⟨a,o,_,r.body,r.params.args.map (·.arg),(hn▸q1),q2,q3,rfl,rfl,q4,rfl,rfl,h2,h3,h4,λvals hl=>?_,h5,h6⟩;refine(?_:bindArgs (docDef r.name r.params r.body r.scope pm (.ref c) doc) ⟨vals,[]⟩=_);exact hp▸(sm (qual:=r.name) (wC f4) hl)noncomputable def nV:List Str:=["len","list","int","max","tuple","sorted","set","any","all","isinstance","bool","str","range","enumerate"]def tY(names:List Str):Bool:=nV.all λx=>!names.contains x&&!PySem.bootMainNames.contains (x)theorem Lz (b:Bi):sv b∈nV:=by cases b<;>first|decide|exact(by decide:("isinstance":Str)∈nV)theorem NA (b:Bi):sv b≠"__name__":=by cases b<;>first|decide|exact(by decide:("isinstance":Str)≠"__name__")variable {consts:List (Str×PyData)}{names:List Str}{mg mb:Str->Option Value}
theorem static_of{prog:Program}{y7:List Fn}
   (GL:PyProof.Rows.Glob 0 mg mb (List.map PySem.W.itemOf (PyProof.Rows.recsOf view)) consts [] names ai.heap)
   (TA:∀e:PyProof.Rows.DefItem,e∈List.map PySem.W.itemOf (PyProof.Rows.recsOf view)->e.params.defaults=[]->e.At mg ai.heap)
   (hchk:(y7.all λfn=>lF (PyProof.Rows.recsOf view) p.2 gn fn)=true)
   (hP:p.2=λn=>y7[n]?) (hfree:tY names=true)
   (hg:∀k x,p.1 k=some x->∃v,mg (gn k)=some v/\∀T h,Rel T h v x)
   (hkd:(y7.all λfn=>!decide (fn.name=("_law_kind":Str))||lF (PyProof.Rows.recsOf view) (λ_=>none) gn fn)=true)
   (X:XOk ⟨prog,w,ai.heap,mg,mb,[],false⟩):Static ⟨prog,w,ai.heap,mg,mb,[],false⟩ p gn:=by
 have fr:∀x∈nV,mg x=none:=λx hx=>by have:=QP.mp hfree x hx;simp only[P5,QD,TM,decide_eq_false_iff_not]at this;exact GL.free x this.1 this.2
 have bt:∀x:Str,x≠"__name__"->mb x=bootBuiltins x:=GL.builtins;refine⟨⟨GL.g,GL.b,GL.nolimit⟩,?_,⟨λb=>⟨?_,?_⟩,λt=>⟨?_,?_⟩,⟨fr _ (by decide),?_⟩
   ,⟨fr _ (by decide),?_⟩
   ,⟨fr _ (by decide),?_⟩
   ⟩,hg,λi fn hf=>?_,X,λi fn hf hn=>?_
   ⟩
 . obtain⟨mm,⟨o,es,ep,e,_⟩,_⟩:=GL.seer.mods;exact⟨o,e⟩
 . exact fr _ (Lz b)
 . show mb (sv b)=_;rw[bt _ (NA b)];cases b<;>rfl
 . exact fr _ (by cases t<;>first|decide|exact(by decide:mX (.tuple ())∈nV))
 . show mb (mX t)=_;rw[bt _ (by cases t<;>first|decide|exact(by decide:mX (.tuple ())≠Str.ofString "__name__"))];cases t<;>rfl
 . show mb "range"=_;rw[bt _ (by decide)];rfl
 . show mb "enumerate"=_;rw[bt _ (by decide)];rfl
 . show mb "set"=_;rw[bt _ (by decide)];rfl
 . rw[hP]at hf;exact AR (Z:=⟨prog,w,ai.heap,mg,mb,[],false⟩) TA (QP.mp hchk fn (PF hf))
 . rw[hP]at hf;have:=QP.mp hkd fn (PF hf);rw[decide_eq_true hn,Sy,SO]at this;exact AR (Z:=⟨prog,w,ai.heap,mg,mb,[],false⟩) TA (this)variable {T:Addr->Prop}{v:Value}theorem tB{g:Heap}{i:Int}{as:List Addr}(r:Reads h v (.int i) as):Rel T g v (.int i):=by cases r;exact .int _ (_)variable {Pm:Params}
theorem yp{l:List Int}(hT:¬ T a)(hl:l.length<=LIM)(hw:PySem.W.Well Pm h (.ref a) (PySem.W.ofPy (.list (l.map .int)))):Rel T h (.ref a) (.list (l.map .int)):=by
 have all:∀{l:List Int} {vs:List Value},PySem.W.WellAll Pm h vs (PySem.W.ofPys (l.map .int))->RelAll T h vs (l.map .int):=by
   intro l
   induction l with
   |nil=>intro vs w;cases w;exact .nil
   |cons i l ih=>
     intro vs w;cases w with
     |cons w ws=>exact .cons (tB (PySem.W.flat_of_well rfl w h)) (ih ws)
 cases hw with
 |list e ws=>exact .list (n:=0) e hT (by simpa using hl) (by simpa using all ws)theorem zI(hz:Z.fr=[])(h:d<=600):lT Z d callerA:=⟨λ_=>rfl,by show 1+claimMargin+d+2 < recursionLimit;unfold claimMargin recursionLimit;omega,by show 4+8 * d+200 < cLine;unfold cLine;omega,[],rfl,by rw[hz];rfl,λ_ h=>by cases h⟩
theorem run_law{prog:Program}{w:PySem.World}{fa:Addr}{l:List Int}(T:Static ⟨prog,w,ai.heap,mg,mb,[],false⟩ p gn)(hf:p.2 i=some fn)(hmg:mg fn.name=some (.ref fa))
   (hw:PySem.W.Well w.params ai.heap (.ref a) (PySem.W.ofPy (.list (l.map .int)))) (hl:l.length<=LIM) (hd:d<=600) (hrun:aj p d i [.d (.list (l.map .int))] []=.ok (.d (.bool true)) σ') {Q E:VP}
   (q:∀s',(∀b o,ai.heap.get? b=some o->s'.heap.get? b=some o)->s'.os=ai.os->s'.gens=ai.gens->Q (.bool true) s'):wpAny (model prog w) callerA (call (.ref fa) [.ref a]) Q E ai:=by
 obtain⟨a',o,fd,h1,_,_,hc⟩:=(vW p gn d _ T rfl).c i fn hf;have:a'=fa:=by have h1:mg fn.name=some (.ref a'):=h1;rw[hmg]at h1;clear hc;injection h1 with e;injection e with e;subst e;rfl
 subst this;have hr:eY [] [] ai.heap [.ref a] [.d (.list (l.map .int))]:=.cons (yp (λ⟨k,c,h,_,_⟩=>by simp at h) hl hw) .nil;refine PQ (hc callerA [] [] ai _ _ (zI rfl hd) (λ_ h=>by cases h) (⟨rfl,.nil,λ_ _ e=>e,(λ_ h=>by cases h),λk a c h=>by simp at h⟩) hr _ _ hrun) (λv s' ⟨_,β',S,I',rv⟩=>?_) λ_ _ ⟨_,_,q,_⟩=>by injection q
 cases rv;exact q s' (λb o e=>I'.base b o e) S.os (S.gens)def xq:PyData->Bool
 |.int _=>true
 |.str y=>AK y
 |_=>(false)variable {ds:List PyProof.Rows.DefItem}
theorem globs_of(GL:PyProof.Rows.Glob 0 mg mb ds consts [] names bj)
   (h:∀k x,p.1 k=some x->(gn k,x)∈consts/\xq x=true):∀k x,p.1 k=some x->∃v,mg (gn k)=some v/\∀T h,Rel T h v x:=λk x hk=>by
 refine(h k x hk).elim λh1 h2=>?_;obtain⟨v,q1,q2⟩:=GL.bound _ h1;refine⟨v,q1,λT h=>?_⟩;have r:Reads h v x []:=q2 h;clear hk h1 q2 q1;cases x with
 |int i=>exact tB r
 |str y=>cases r;exact .str _ _ (xg h2)
 |_=>injection h2
noncomputable def gnames:Nat->Str
 |0=>""
 |1=>"LETTERS"
 |_=>"LONGEST"
theorem d6{a b:Bool}(h:(a&&b)=true):a=true/\b=true:=PK.mp (h)variable {st:Stmt}theorem wU{p f n:Str}(h:Ef p f n st=true):X4 λn1 n2 n3 n4=>st=.Assign [.Attribute (.Name p n1) f n2] (.Name n n3) n4:=by refine kk λUc k=>?_;obtain⟨⟨ts,v⟩,z1,h1⟩:=av h;obtain⟨t,z2,h2⟩:=av h1;have h3:=d6 h2;obtain⟨n1,n2,u1⟩:=yQ h3.1;obtain⟨m,z3,h4⟩:=av h3.2;obtain⟨n3,u2⟩:=bO z3;obtain⟨n4,u3⟩:=nc z1;refine k ?_;have u5:v=.Name m n3:=u2;exact⟨n1,n2,n3,n4,by rw[u3,(dC z2:ts=[t]),u1,u5,of_decide_eq_true h4]⟩variable {b:List Stmt}theorem Ca{f:FuncBody}(h:EO f=some b):f=.stmts b:=by cases f<;>first | ((injection h with e;subst e);rfl) | injection h
theorem G4{a:Bool}(h:(!a)=true):a=false:=by cases a<;>first|rfl|injection h
theorem Bt{l:List Str}{a b c:Str}(h:Db l=some (a,b,c)):l=[a,b,c]:=by
 match l,h with
 |[x,y,z],h=>injection h with e;injection e with e f;subst e;injection f with e f;subst e;subst f;rfl
theorem Np(e0:fd.params=⟨[],as,none,[],[],none,[]⟩)(e1:fd.body=.stmts b)(e2:fd.globals=mainGlobals)(e3:fd.closure=[])(e4:fd.defaults=.none)(e5:fd.kwdefaults=.none)(e6:fd.annotations=none)(e7:fd.closureTuple=.none)(e8:fd.builtins=builtinsNs) :
   fd=PyProof.Rows.methDef fd.name fd.qualname ⟨[],as,none,[],[],none,[]⟩ b fd.scope fd.pyModule fd.code fd.doc:=
 congr (congr (congr (congr (congr (congr (congr (congr (congrArg (λp b g c d k a t u=>FuncData.mk fd.name fd.qualname p b fd.scope g c d k fd.doc fd.pyModule a fd.code t u) e0) e1) e2) e3) e4) e5) e6) e7) e8
theorem Ko(w:p1≠p0/\p2≠p0/\p2≠p1):[p0,p1,p2].Nodup:=
 QY.mpr ⟨λz=>(PO.mp z).elim (λz=>w.1 z.symm) λz=>w.2.1 (PN.mp z).symm,QY.mpr ⟨λz=>w.2.2 (PN.mp z).symm,QY.mpr ⟨QI,SI⟩⟩⟩theorem Nz{as:List Arg}(e:fd=PyProof.Rows.methDef fd.name fd.qualname ⟨[],as,none,[],[],none,[]⟩ b fd.scope fd.pyModule fd.code fd.doc)(w4:as.map (·.arg)=[p0,p1,p2])(w6:p1≠p0/\p2≠p0/\p2≠p1)(u v w:Value):bindArgs fd ⟨[u,v,w],[]⟩=pure [(p0,u),(p1,v),(p2,w)]:=by have:=sm (name:=fd.name) (qual:=fd.qualname) (as:=as) (body:=b) (scope:=fd.scope) (pm:=fd.pyModule) (code:=fd.code) (doc:=fd.doc) (vals:=[u,v,w]) (w4▸Ko w6) (by refine w4▸?_;rfl);rw[w4,<- e]at this;exact(this)theorem KV(h:O0 fd p0 p1 p2 b=true):X4 λn1 n2 n3 n4=>X4 λn5 n6 n7 n8=>b=[.Assign [.Attribute (.Name p0 n1) j6 n2] (.Name p1 n3) n4,.Assign [.Attribute (.Name p0 n5) dG n6] (.Name p2 n7) n8]:=by refine kk λUc k=>?_;obtain⟨q,z1,h1⟩:=av h;have h2:=d6 h1;obtain⟨n1,n2,n3,n4,u3⟩:=wU h2.1;obtain⟨n5,n6,n7,n8,u4⟩:=wU h2.2;refine k ?_;exact⟨n1,n2,n3,n4,n5,n6,n7,n8,by rw[jx z1,u3,u4]⟩variable {ns:Addr}{o:Obj}theorem Hs (h1:h.nsMap ns "__init__"=some (.ref a)) (h2:h.get? a=some o) (x0:o.cls=.type "function") (h3:o.data=.func fd) (x:OZ h fd=true):InitX h (h.nsMap ns):=by have x1:=d6 x;have x2:=d6 x1.2;refine kk λUc k=>?_;obtain⟨b,z1,y1⟩:=av x2.2;obtain⟨⟨p0,p1,p2⟩,z2,y2⟩:=av y1;have y3:=d6 y2;obtain⟨n1,n2,n3,n4,n5,n6,n7,n8,hb⟩:=KV y3.1;refine k ?_;have w:=d6 y3.2;have s1:=d6 x2.1;have s2:=d6 s1.2;have s3:=d6 s2.2;have s4:=d6 s3.2;have s5:=d6 s4.2;have s6:=d6 s5.2;have s7:=d6 s6.2;have s8:=d6 s7.2;have s9:=d6 s8.2;have s10:=d6 s9.2;have eb:=Ca z1;exact⟨a,o,fd,p0,p1,p2,n1,n2,n3,n4,n5,n6,n7,n8,h1,h2,x0,h3,eb.trans (congrArg FuncBody.stmts hb),gc s2.1,.of_ok s8.1,⟨of_decide_eq_true s9.1,G4 s10.1,G4 s10.2⟩,Nz (Np (wE x1.1) eb (of_decide_eq_true s1.1) (gc s2.1) (of_decide_eq_true s3.1) (of_decide_eq_true s4.1) (QC.mp s5.1) (of_decide_eq_true s6.1) (of_decide_eq_true s7.1)) (Bt z2) (of_decide_eq_true w.2),λp hp=>⟨of_decide_eq_true (d6 (QP.mp w.1 p hp)).1,(d6 (QP.mp w.1 p hp)).2⟩,of_decide_eq_true w.2⟩
theorem Hr(x:KU h ns=true):InitX h (h.nsMap ns):=by
 unfold KU at x;cases hf:h.fnAt ns "__init__" with
 |none=>rw[hf]at x;injection x
 |some y=>refine kk λUc k=>?_;obtain⟨a,o,fd⟩:=y;rw[hf]at x;obtain⟨h1,h2,h3⟩:=Heap.fnAt_spec hf;refine k ?_;exact Hs h1 h2 (of_decide_eq_true (d6 x).1) h3 (d6 x).2
def XF(mg:Str->Option Value)(h:Heap):Prop:=∀k,k<=6->mg (j7 k)=some (.ref (KA k))/\XAt h (k)variable {cd:ClassData}theorem Jw (ho:h.get? (KA k)=some o) (hd:o.data=.cls cd) (h1:o.cls=.type "type") (h2:cd.mro=.ref (KA k)::d7 k) (h3:cd.hasDel=false) (h4:o.slots.size=6) (h5:o.slots[4]?=some (some (.builtin "ValueError.__new__"))) (h6:h.isNs cd.ns=true) (h7:∀n∈fh,h.nsMap cd.ns n=none) (h8:k<=5->h.nsMap cd.ns "__init__"=none) (h9:k=6->cd.hasDict=true/\InitX h (h.nsMap cd.ns)):XAt h k:=by obtain⟨oc,dd,dt,sl⟩:=o;obtain⟨nm,bs,mro,N,q,hdct,sn,sub,ab,col,hdel⟩:=cd;obtain⟨l⟩:=sl;obtain⟨k0,k1,k2,k3,k5,rfl⟩:=six_places (l:=l) h4 (by simpa using h5);clear h4 h5;subst h1;subst hd;subst h3;subst h2;exact⟨nm,q,N,bs,hdct,sn,sub,ab,col,dd,k0,k1,k2,k3,k5,h.nsMap N,ho,.of_isNs h6,h7,h8,h9⟩
theorem xf_of(x:L9 h=true):XF (h.nsMap mainGlobals) h:=λk hk=>by
 have x:=QP.mp x k (Rf.mpr (SH hk));unfold IG at x;cases hc:h.clsAt mainGlobals (j7 k) with
 |none=>rw[hc]at x;injection x
 |some y=>obtain⟨a,o,cd⟩:=y;rw[hc]at x;obtain⟨hn,ho,hd⟩:=Heap.clsAt_spec hc;have s9:=d6 x;have s8:=d6 s9.1;have s7:=d6 s8.1;have s6:=d6 s7.1;have s5:=d6 s6.1;have s4:=d6 s5.1;have s3:=d6 s4.1;have s2:=d6 s3.1;have s1:=d6 s2.1;rw[(of_decide_eq_true s1.1)]at hn ho;exact⟨hn,Jw ho hd (eq_of_beq s1.2) (eq_of_beq s2.2) (G4 s3.2) (eq_of_beq s4.2) (eq_of_beq s5.2) s6.2 (λn hn=>QC.mp (QP.mp s7.2 n hn)) (λh5=>(Qc.mp s8.2).elim (λz=>absurd (of_decide_eq_true z) (λz=>by rw[z]at h5;exact absurd h5 (by decide))) QC.mp) λh6=>(Qc.mp s9.2).elim (λz=>absurd h6 (of_decide_eq_false (G4 z))) λz=>⟨(d6 z).1,Hr (d6 z).2⟩⟩theorem XF.keeps(x:XF mg h)(hk:∀b o,h.get? b=some o->h'.get? b=some o):XF mg h':=λk hk6=>⟨(x k hk6).1,(x k hk6).2.keeps hk⟩
theorem LL:∀i j,i<=6->j<=6->KA i=KA j->i=j:=by
 have:∀i,i < 7->∀j,j < 7->KA i=KA j->i=j:=by decide +kernel
 exact λi j hi hj=>this i (SH hi) j (SH hj)
theorem xok_of {prog:Program} (GL:PyProof.Rows.Glob 0 mg mb ds consts [] names ai.heap) (hve:(!names.contains ("ValueError":Str)&&!PySem.bootMainNames.contains "ValueError")=true) (X:XF mg ai.heap):XOk ⟨prog,w,ai.heap,mg,mb,[],false⟩:=by
 refine⟨λk hk=>⟨(X k hk).1,(X k hk).2⟩,LL,?_,?_⟩
 . simp only[P5,QD,TM,decide_eq_false_iff_not]at hve;exact GL.free _ hve.1 hve.2
 . show mb "ValueError"=_;rw[GL.builtins _ (by decide)];rfl
namespace L11
noncomputable def bz:Str:=⟨#[110,97,109,101]⟩noncomputable def cL:Str:=⟨#[110,117,109]⟩noncomputable def iu:Str:=⟨#[115,101,116]⟩noncomputable def mu:Str:=⟨#[116,101,108,108]⟩noncomputable def jE:Str:=⟨#[119,104,101,110]⟩noncomputable def bA:Str:=⟨#[99,97,108,108]⟩noncomputable def dq:Str:=⟨#[97,103,97,105,110]⟩noncomputable def lY:Str:=⟨#[110,111,32,115,117,99,104,32,112,108,97,99,101]⟩noncomputable def wq:Str:=⟨#[110,111,32,99,97,108,108]⟩noncomputable def az:Str:=⟨#[97,98,99,100,101,102,103,104,105,106,107,108,109,110,111,112,113,114,115,116,117,118,119,120,121,122]⟩noncomputable def Ad:Str:=⟨#[115,117,109]⟩noncomputable def uD:Str:=⟨#[108,101,115,115]⟩noncomputable def p6:Str:=⟨#[116,105,109,101,115]⟩noncomputable def jZ:Str:=⟨#[110,111,116,32,115,111,32,109,97,110,121,32,114,111,119,115]⟩noncomputable def fb:Str:=⟨#[97,32,102,117,110,99,116,105,111,110,32,111,102,32,116,104,97,116,32,110,97,109,101]⟩noncomputable def gu:Str:=⟨#[112,108,97,99,101]⟩noncomputable def kY:Str:=⟨#[116,97,107,101,110]⟩noncomputable def gR:Str:=⟨#[117,110,108,105,107,101]⟩noncomputable def eG:Str:=⟨#[99,108,97,115,104]⟩noncomputable def NO:Str:=⟨#[97]⟩noncomputable def iR:Str:=⟨#[122,122]⟩noncomputable def zx(a b:E):E:=.idx a (b)noncomputable def aV:E:=.var 0
noncomputable def cn:E:=.int 0
noncomputable def aN(s:Str):E:=.str (s)noncomputable def dI(a b:E):E:=.cmp .eq a (b)noncomputable def bq:E:=.int 1
noncomputable def bn:E:=.var 1
noncomputable def gM(a b:E):E:=.cmp .notIn a (b)noncomputable def aB(a:E):EL:=.cons a .nil
noncomputable def bp(a:S):SL:=.cons a .nil
noncomputable def bX(c:E)(l:SL):S:=.ite c l .nil
noncomputable def uh(a b:E):E:=.cmp .ne a (b)noncomputable def zc(f:Nat)(l:EL):E:=.call f (l)noncomputable def aO(a b:E):EL:=.cons a (.cons b .nil)noncomputable def dw:E:=.int 2
noncomputable def ug(a b:S):SL:=.cons a (.cons b .nil)noncomputable def ar(k:Nat)(e:E):S:=.asg (.var k) (e)noncomputable def zr(e:E):S:=.ret (e)noncomputable def qm(a b c:S):SL:=.cons a (.cons b (.cons c .nil))noncomputable def on(l:EL):E:=.bop false (l)noncomputable def gN:E:=.int 3
noncomputable def Bl(a b c d:S):SL:=.cons a (.cons b (.cons c (.cons d .nil)))noncomputable def br:E:=.var 3
noncomputable def bk:E:=.var 2
noncomputable def gO(k:Nat)(i:It)(l:SL):S:=.forr (.var k) i (l)noncomputable def zt(l:EL):E:=.tup (l)noncomputable def bR:E:=.var 4
noncomputable def ek(a:E):E:=.cmp .isNotN a .none
noncomputable def fg(l:EL):E:=.bop true (l)noncomputable def Bm(a b:E):E:=.cmp .gt a (b)noncomputable def cF:E:=.var 5
noncomputable def yf(a b:E):E:=.cmp .lt a (b)noncomputable def CY(k f:Nat)(l:EL):S:=.calls (.var k) f (l)noncomputable def gE:E:=.var 6
noncomputable def Bj:E:=.var 9
noncomputable def ff:E:=.var 7
noncomputable def iZ:E:=.var 8
noncomputable def Jv(a b c d e:S):SL:=.cons a (.cons b (.cons c (.cons d (.cons e .nil))))noncomputable def NW(a b c d e f:S):SL:=.cons a (.cons b (.cons c (.cons d (.cons e (.cons f .nil)))))noncomputable def pG(a b c d:E):EL:=.cons a (.cons b (.cons c (.cons d .nil)))noncomputable def js(a b c:E):EL:=.cons a (.cons b (.cons c .nil))noncomputable def ja(a b:E):E:=.cmp .isIn a (b)noncomputable def ij:E:=.var 10
noncomputable def om:E:=.var 12
noncomputable def Bk(a b c d e f g:S):SL:=.cons a (.cons b (.cons c (.cons d (.cons e (.cons f (.cons g .nil))))))noncomputable def CW(a:E):E:=.cmp .isN a .none
noncomputable def vQ(a b c d e:E):EL:=.cons a (.cons b (.cons c (.cons d (.cons e .nil))))noncomputable def CX:E:=.int 6
noncomputable def CO:E:=.int 4
noncomputable def NN(a b c d e f:E):EL:=.cons a (.cons b (.cons c (.cons d (.cons e (.cons f .nil)))))noncomputable def O9(a b:E):E:=.cmp (.ge ()) a (b)noncomputable def zw:List Nat->List Nat->List Str
 |[],a=>[⟨a.toArray⟩]
 |c::l,a=>bif c.beq 32 then ⟨a.toArray⟩::zw l [] else zw l (a++bif c.beq 76 then [95,108,97,119,95] else [c])noncomputable def OO:Nat->List Str->List (Str×Nat)
 |_,[]=>[]
 |k,x::l=>(x,k)::OO (k+1) (l)def Pa(n m:Nat)(b:SL)(l:List Str):Fn:={ name:=l.head?.getD default,np:=n,slots:=OO 0 l.tail,ns:=m,body:=b }def dy(s:String)(n m:Nat)(b:SL):Fn:=Pa n m b (zw (Str.ofString s).cps.toList [])noncomputable def vP:E:=.list false .nil
def CV:E:=.bi .len false (aB bn)def IE:E:=.bi .len false (aB bk)def ql:E:=zx bn (cn)def Jr:E:=.slc false bn (aB bq) .nil
def pF:E:=zx aV (bq)def ON:S:=bX (fg (aO (ek pF) (uh (zx bn gN) (zt (aO (aN bz) pF))))) (bp (ar 2 (.bin .add false bk (zt (aB (zt (js (aN iu) pF (zx bn gN))))))))def ID:E:=.bi .len false (aB aV)def LZ:E:=zc 25 (aO aV (.bin .add false bn dw))def vT:E:=zx aV (cn)def CT:E:=.slc false aV .nil (aB bR)def OM:S:=bX (dI CV bq) (bp (zr (.bin .add false (.bin .add false CT br) (.slc false aV (aB (.bin .add false bR bk)) .nil))))def CU:E:=.bin .add false aV (zt (aB br))def L6:E:=zc 32 (vQ cF bn ff (.bin .sub false br bq) (.bin .add false bq (.bin .mod false (.bin .fdiv false aV (.int 9)) gN)))def vV:E:=zx bn (.neg bq)def Ju:E:=.slc false aV (aB (.bin .add false bR bq)) .nil
def Jt:E:=zx bk (.bin .mod false (zc 25 (aO aV bq)) IE)def pC:EL:=aO aV (bn)def CS:E:=.bin .fdiv false aV (CX)def L5:E:=on (aO (dI (zx br cn) (aN jE)) (fg (aO (dI (zx br cn) (aN dq)) (Bm (zx br bq) cn))))def Js:E:=.slc false bn (aB bq) (aB (.neg bq))def L4:SL:=ug (bX (on (aO (dI vT (aN iu)) (dI vT (aN bA)))) (bp (zr pF))) (zr .none)def sE:E:=zx bk (dw)noncomputable def vU:E:=.bool (true)def me:SL:=bp (.put bn br vU)def mc:SL:=bp (gO 3 (.seq (zc 1 (aB bk))) me)def mD:SL:=ug (.expr (.meth .append bk (aB (zt (aO CU bR))))) (.expr (.meth .extend bk (aB (zc 7 (aO CU (zc 6 (aB bR)))))))def fL:SL:=ug (bX (ek (zc 4 (aB bk))) (bp (.put bn (zc 4 (aB bk)) vU))) (bX (fg (aO (dI (zx bk cn) (aN dq)) (Bm (zx bk bq) cn))) (bp (.expr (.meth .update bn (aB (zc 8 (aB sE)))))))def gz:SL:=bp (bX (gM cF bk) (bp (.put bn cF vU)))def cP:SL:=Bl (ar 4 (zc 3 (aB br))) (bX L5 (bp (ar 4 (.bin .add false bR (.bi .list false (aB (zc 9 (aB (zx br dw))))))))) (gO 5 (.seq bR) gz) (.expr (.meth .update bk (aB (zc 8 (aB (zt (aB br)))))))def jM:SL:=ug (bX (on (aO (.not (.cmp2 .le .lt cn br IE)) (.not (zc 5 (aB (zx bk br)))))) (bp (.raise 1 (aB (aN lY))))) (ar 2 (zx (zx bk br) dw))def jO:SL:=Jv (ar 6 (.slc false br (aB (.bin .add false (zx bn cF) bq)) .nil)) (ar 7 (zc 8 (aB gE))) (ar 4 (.bin .add false (.bi .list false (aB (zc 9 (aB gE)))) (.comp false (.var 9) (.seq bR) (aB (gM Bj ff)) Bj))) (ar 8 (zx br (zx bn cF))) (bX (yf cF (.bin .sub false CV bq)) (ug (ar 3 (zx iZ dw)) (bX (fg (aO (dI (zx iZ cn) (aN dq)) (Bm (zx iZ bq) bq))) (bp (ar 4 (.bin .add false bR (.bi .list false (aB (zc 9 (aB br))))))))))def dM:SL:=bp (bX (dI (zx br cn) bn) (bp (zr bk)))def gW:SL:=bp (bX (ja (zx (zx bk bq) br) (zc 1 (aB (zx (zx bn gN) bR)))) (bp (zr (zt (aO CU (.bin .add false aV (zt (aB bR))))))))def kB:SL:=bp (gO 4 (.range2 (.bin .add false br bq) (.bi .len false (aB (zx bn gN)))) gW)def g7:SL:=bp (bX (.bi .any false (aB (.comp false (.var 13) (.seq (zc 3 (aB ij))) .nil (ja (.var 13) iZ)))) (bp (zr (zt (aO Bj bn)))))def pi:SL:=bp (.put bR (zx (zx br bq) cF) (.bin .add false aV (zt (aB cF))))def kE:SL:=bp (bX (fg (aO (ek (zc 4 (aB ff))) (gM (zc 4 (aB ff)) bR))) (bp (.put bR (zc 4 (aB ff)) gE)))def jN:SL:=bp (bX (Bm gE bn) (bp (zr gE)))def gY:SL:=bp (bX (ja cF bR) (bp (zr (zt (aO (zx bR cF) (zc 21 (js aV bn cF)))))))def dO:SL:=bp (bX (fg (aO (dI (zx bR cn) (aN bA)) (dI (zx bR dw) bn))) (bp (zr vU)))def mf:SL:=bp (.forr (.tup [3,4]) (.seq (zc 7 (aO (zt .nil) sE))) dO)def sw:SL:=Bl (ar 2 (.ite (yf bn ID) (zx aV bn) cn)) (ar 3 (.bin .mod false (.bin .mul false (.bin .add false (.bin .mod false bk (.int 2147483629)) (.bin .mul false (.int 7919) (.bin .add false bn bq))) (.int 48271)) (.int 2147483647))) (ar 3 (.bin .mod false (.bin .mul false (.bin .mod false (.bin .mul false br br) (.int 2147483629)) (.int 69621)) (.int 2147483647))) (zr (.bin .add false (.bin .mul false (.bin .add false (.bin .mul false (.bin .fdiv false bk (.int 2147483629)) (.int 2147483647)) br) (.int 2147483629)) (.bin .mod false (.bin .mul false br br) (.int 2147483629))))def kG:SL:=bp (ar 4 (zt (aB (zt (js (aN jE) (zt (aO (aN cL) (.bin .add false bq gE))) bR)))))def cU:SL:=qm (ar 7 (zc 34 (pG (zc 25 (aO aV (.bin .add false (.bin .add false bn gN) gE))) (zx br gE) bk (.bi .list false (aB (.slc false bR .nil (aB gN))))))) (bX (fg (aO (dI gE cn) (dI (.bin .mod false (.bin .fdiv false LZ (.int 4096)) (.int 8)) bq))) (bp (ar 7 (zt (pG (zx br cn) (zt .nil) (zt .nil) (zx ff gN)))))) (ar 4 (.bin .add false bR (zt (aB ff))))def kF:SL:=bp (ar 2 (.bin .add false bk (zc 37 (aB br))))def gZ:SL:=ug (.expr (.meth .append bk (aB (zt (aO CU (zx bn br)))))) (ar 2 (.bin .add true bk (zc 41 (aO CU (zc 40 (aB (zx bn br)))))))def gy:SL:=qm (ar 2 (on (aO bk (ja bn (zc 38 (aB br)))))) (bX L5 (qm (ar 4 (zc 42 (aO (zx br dw) bn))) (ar 2 (on (aO bk (zx bR cn)))) (bX (fg (aO (dI (zx br cn) (aN dq)) (.not (zx bR bq)))) (bp (zr (zt (aO bk (.bool false)))))))) (bX (dI (zc 39 (aB br)) bn) (bp (zr (zt (aO bk (.bool false))))))def g6:SL:=Jv (ar 7 (zc 42 (aO (.slc false bR (aB (.bin .add false gE bq)) .nil) bk))) (ar 5 (on (aO (zx ff cn) (fg (aO (zx ff bq) cF))))) (ar 8 (zx bR gE)) (ar 4 (zx iZ dw)) (bX (fg (aO (dI (zx iZ cn) (aN dq)) (Bm (zx iZ bq) bq))) (bp (ar 5 (on (aO cF (zx (zc 42 (aO bR bk)) cn))))))def kH:SL:=bp (ar 1 (.bin .add false bn (zc 41 (aO (zt (aB bk)) (zx (zx aV bk) dw)))))def iU:SL:=bp (bX (ja (zx (zx bR bq) ff) (zc 37 (aB (zx (zx bk gN) iZ)))) (bp (.expr (.meth .append gE (aB (zt (aO (.bin .add false bn (zt (aB ff))) (.bin .add false bn (zt (aB iZ))))))))))def iT:SL:=bp (gO 8 (.range2 (.bin .add false ff bq) (.bi .len false (aB (zx bk gN)))) iU)def fN:SL:=bp (bX (uh (.comp false (.var 14) (.seq ij) (aB (zc 50 (aO bR (.var 14)))) (.var 14)) vP) (bp (.expr (.meth .append gE (aB (zt (aO Bj bn)))))))def iS:SL:=bp (bX (ja om ij) (bp (.expr (.meth .append gE (aB (zt (aO Bj (.var 13))))))))def fM:SL:=bp (bX (fg (js (ek om) (uh om (zx bk bq)) (zc 43 (js aV bn om)))) (bp (.forr (.tup [13,10]) (.seq (zc 47 (aO aV ql))) iS)))def pq:Fn:=dy "Lpairs Lprogram_here Lplace Lrow_here Lat Lfunction_here Lkept_here Lfound Li Lj Lthere Lnames_here Lgivers Lname Lother" 3 18 (.cons (ar 3 (zc 48 (aO aV sE))) (.cons (ar 4 (zx aV br)) (.cons (ar 5 (zc 49 (aO bk bR))) (Bk (ar 6 (.list true .nil)) (gO 7 (.seq cF) iT) (.forr (.tup [9,10]) (.seq (zc 47 (aO aV br))) fN) (ar 11 (.comp false (.var 15) (.seq cF) .nil (zt (aO (.bin .add false bn (zt (aB (.var 15)))) (zx (zx bR bq) (.var 15)))))) (ar 11 (.bin .add false (.var 11) (.comp false (.tup [16,17]) (.seq (zc 41 (aO (zt (aB br)) (zx bR dw)))) .nil (zt (aO (.var 16) (zc 39 (aB (.var 17)))))))) (.forr (.tup [9,12]) (.seq (.var 11)) fM) (zr (.freeze gE))))))def tZ:Fn:=dy "is_name word" 1 2 (bp (zr (fg (aO (.cmp2 .le .le bq ID (.glob 2)) (.bi .all false (aB (.comp false (.var 1) (.seq aV) .nil (ja bn (.glob 1)))))))))def dl:SL:=.cons (CY 6 10 pC) (.cons (bX (on (js (yf bk cn) (yf vV cn) (Bm (.bin .add false vV bk) (.bi .len false (aB gE))))) (bp (.raise 1 (aB (aN jZ))))) (.cons (ar 7 aV) (.cons (ar 8 bn) (Bk (bX (ek cF) (Bl (bX (.not (.cmp2 .le .le cn bR ql)) (bp (.raise 1 (aB (aN ⟨#[110,111,32,110,117,109,98,101,114,32,102,111,114,32,116,104,101,32,102,117,110,99,116,105,111,110]⟩))))) (bX (ek (zc 15 (aO aV (zx cF cn)))) (bp (.raise 3 (aB (aN fb))))) (ar 7 (.bin .add false (.bin .add false CT (zt (aB cF))) (.slc false aV (aB bR) .nil))) (ar 8 (.bin .add false (zt (aB (.bin .add false ql bq))) Jr)))) (bX (uh (zx br cn) (aN bA)) (bp (.raise 4 (aB (aN wq))))) (ar 9 (zc 15 (aO ff (zx br dw)))) (bX (on (js (CW Bj) (O9 Bj (zx iZ cn)) (uh (.bi .len false (aB (zx br gN))) (.bi .len false (aB (zx (zx ff Bj) bq)))))) (bp (.raise 4 (aB (aN ⟨#[110,111,32,99,97,108,108,32,111,102,32,97,32,102,117,110,99,116,105,111,110,32,97,104,101,97,100]⟩))))) (ar 10 (zc 14 (pG ff iZ bk (zt (aB br))))) (.iteC 24 (aO ij iZ) cn aV (bp (.raise 5 (aB (aN ⟨#[97,110,111,116,104,101,114,32,112,114,111,103,114,97,109]⟩))))) (zr ij)))))def rS:Fn:=dy "folded program place many row at function rows whole spot number outcome" 6 11 (dl)def eQ:SL:=bp (bX (fg (aO (ek (zc 4 (aB ff))) (gM (zc 4 (aB ff)) bk))) (bp (.put bk (zc 4 (aB ff)) gE)))def gX:SL:=ug (ar 5 (.bin .add false (.slc false aV .nil (aB (.neg bq))) (zt (aB (.bin .add false (zx aV (.neg bq)) br))))) (.forr (.tup [6,7]) (.seq (.bin .add false (.list false (aB (zt (aO cF bR)))) (zc 7 (aO cF (zc 6 (aB bR)))))) eQ)def fD:Fn:=dy "Lkind Lerror Lfound" 1 2 (Bl (ar 1 (.list false (js (.isx 1 aV) (.isx 2 aV) (.isx 3 aV)))) (ar 1 (.bin .add false bn (.list false (js (.isx 4 aV) (.isx 5 aV) (.isx 6 aV))))) (bX (on (js (.not (.isx 0 aV)) (.not (.isx 7 aV)) (uh (.meth .count bn (aB vU)) bq))) (bp (zr (aN ⟨#[115,101,118,101,114,97,108]⟩)))) (zr (zx (.list false (NN (aN gu) (aN bz) (aN kY) (aN bA) (aN gR) (aN eG))) (.meth .index bn (aB vU)))))def jQ:Fn:=dy "Ltold Lprogram_here Lfive Lerror" 2 3 (bp (.tryS (bp (.calls .retL 54 (NN aV ql (zx bn bq) (zx bn dw) (zx bn gN) (zx bn CO)))) [(6,some (2,56,true)),(0,some (2,56,false))]))def dX:Fn:=dy "drawn program place many name rows found last both target result parameters call after" 4 15 (.cons (.calls .drop 11 pC) (.cons (ar 4 (.slc false (zc 10 pC) (aB vV) (aB (.bin .add false vV (.bi .max false (aO cn bk)))))) (.cons (bX (on (aO (yf bk bq) (yf (.bi .len false (aB bR)) bk))) (bp (.raise 1 (aB (aN jZ))))) (.cons (bX (.not (zc 52 (aB br))) (bp (.raise 2 (aB (aN ⟨#[110,111,32,110,97,109,101]⟩))))) (.cons (bX (ek (zc 15 (aO aV br))) (bp (.raise 3 (aB (aN fb))))) (.cons (ar 5 (zc 55 (aO bn bR))) (.cons (ar 6 (.bin .add false (.slc false bn .nil (aB (.neg bq))) (zt (aB (.bin .sub false (.bin .add false vV bk) bq))))) (.cons (ar 7 (.comp false (.var 13) (.seq (zc 12 (aO aV gE))) (aB (ja (.var 13) cF)) (.var 13))) (.cons (bX (Bm (.bi .len false (aB ff)) bq) (bp (.raise 6 (aO (zx cF (zx ff cn)) (zx cF (zx ff bq)))))) (.cons (ar 8 .none) (.cons (ar 9 (zt (aO (aN cL) cn))) (Bk (ar 10 (.bi .list true (aB (zc 9 (aB bR))))) (bX (uh ff vP) (qm (ar 8 (zx ff cn)) (ar 9 (zt (aO (aN bz) iZ))) (bX (gM iZ (zc 8 (aB bR))) (bp (.expr (.meth .append ij (aB iZ))))))) (ar 10 (.bi .tuple false (aB (.bi .sortedSet false (aB ij))))) (ar 11 (zt (pG (aN bA) iZ br (.bi .tuple false (aB (.comp false (.var 14) (.seq ij) .nil (zt (aO (aN bz) (.var 14))))))))) (ar 12 (zc 14 (pG aV bn bk (zt (aB (.var 11)))))) (ar 12 (.bin .add false (.bin .add false (.slc false om .nil (aB ql)) (zt (aB (zt (pG br ij bR Bj))))) (.slc false om (aB ql) .nil))) (zr (zt (aO om (.bin .add false (zt (aB (.bin .add false ql bq))) Jr))))))))))))))))def jP:SL:=ug (bX (on (aO (.not (.cmp2 .le .lt cn br IE)) (gM (zx (zx bk br) cn) (zt (aO (aN dq) (aN jE)))))) (bp (zr (.neg bq)))) (ar 2 (zc 40 (aB (zx bk br))))def cX:SL:=qm (ar 2 (.comp false (.var 7) (.seq (zc 44 (aB bn))) (aB (dI (zx (zx ff bq) cn) (aN bA))) ff)) (bX (fg (aO (dI (.bin .mod false (zc 25 (aO aV cn)) gN) cn) (uh bk vP))) (bp (zr (zc 62 (js aV bn bk))))) (.tryS (.cons (bX (fg (aO (dI (.bin .mod false (zc 25 (aO aV cn)) gN) bq) (uh bk vP))) (bp (.calls .ret 24 (aO bn (zx Jt cn))))) (Bk (ar 2 (zc 44 (aB bn))) (bX (dI bk vP) (bp (zr .none))) (ar 3 (zx Jt cn)) (ar 4 (zx (.comp false (.var 8) (.seq (zc 27 (aO (zc 25 (aO aV gN)) (.int 24)))) (aB (gM iZ (.comp false (.var 9) (.seq bn) .nil (zx Bj cn)))) iZ) cn)) (ar 5 (.bin .add false bq (.bin .mod false (zc 25 (aO aV dw)) (.bin .sub false (zc 61 (aO bn br)) (zx br (.neg bq)))))) (CY 6 59 (pG bn br cF bR)) (.calls .ret 24 (aO (zx gE cn) (zx gE bq))))) [(0,none)])def cB:SL:=.cons (.asgT [3,4,5,6,7] bn) (.cons (ar 8 (.bin .mod false (.bin .fdiv false bk (.int 9)) (.bin (.pow ()) false (.int 10) (.int 20)))) (.cons (ar 9 (.list false (vQ (.bin .add false (.slc false br .nil (aB (.neg bq))) (zt (aB (.bin .sub false (.neg bq) iZ)))) (zt .nil) (.slc false br .nil (aB bq)) (zt (aO (.bin .add false ID iZ) cn)) (.bin .add false br (zt (aB cn)))))) (.cons (ar 10 (.list true (aO (zt (vQ br (.bin .add false (.bin .add false bR (.int 200)) iZ) cF gE ff)) (zt (vQ (zx Bj (.bin .mod false (.bin .fdiv false bk (.int 11)) (.int 5))) bR cF gE ff))))) (.cons (.expr (.meth .append ij (aB (zt (vQ br bR cF (zx (.list false (aO (.bin .add false (.bin .add false (zx br cn) bq) iZ) (.bin .sub false (.neg bq) iZ))) (.bin .mod false (.bin .fdiv false bk (.int 9)) dw)) ff))))) (.cons (.expr (.meth .append ij (aB (zt (vQ br bR (zx (.list false (aO (zt (aO (aN mu) (zt (aO (aN cL) bq)))) (zt (js (aN iu) (aN NO) (zt (aO (aN cL) bq)))))) (.bin .mod false iZ dw)) gE ff))))) (.cons (.expr (.meth .append ij (aB (zt (vQ br bR (.bin .add false (.slc false cF .nil (aB gN)) (zt (aB (.bin .add false (zx cF gN) (zt (aB (zt (aO (aN cL) (.int 5))))))))) gE ff))))) (.cons (ar 11 (.comp false (.var 13) (.seq (.slc false aV (aB (zx br cn)) .nil)) (aB (dI (.bi .len false (aB (zx (.var 13) bq))) (.bi .len false (aB (zx cF gN))))) (zx (.var 13) cn))) (.cons (ar 12 (zt (aB (zx (.bin .add false (.list false (aB (aN iR))) (.var 11)) (.bin .mod false iZ (.bin .add false bq (.bi .len false (aB (.var 11))))))))) (Bk (.expr (.meth .append ij (aB (zt (vQ br bR (.bin .add false (.bin .add false (.slc false cF .nil (aB dw)) om) (.slc false cF (aB gN) .nil)) gE ff))))) (.expr (.meth .append ij (aB (zt (vQ br (.bin .sub false (.neg bq) iZ) cF gE ff))))) (.expr (.meth .append ij (aB (zt (vQ br (.bi .max false (aO cn (.bin .sub false (.bin .add false bR bq) (.bin .mul false dw (.bin .mod false iZ dw))))) cF gE ff))))) (.expr (.meth .append ij (aB (zt (vQ br bR (.bin .add false (.bin .add false (.slc false cF .nil (aB bq)) (zt (aB (zx (.list false (aO (aN iR) .none)) (.bin .mod false iZ dw))))) (.slc false cF (aB dw) .nil)) gE ff))))) (.expr (.meth .append ij (aB (zt (vQ br bR (.bin .add false (.slc false cF .nil (aB gN)) (zt (aB (.bi .tuple false (aB (.comp false (.var 14) (.seq (zx cF gN)) .nil (zt (aO (aN cL) (.int 7))))))))) gE ff))))) (bX (ek ff) (bp (.expr (.meth .append ij (aB (zt (vQ br bR cF gE (.bin .add false (zt (aB (zx (zx aV (.bin .mod false iZ ID)) cn))) (.slc false ff (aB bq) .nil))))))))) (zr (zx ij (.bin .mod false bk (.bi .len false (aB ij))))))))))))))def rR:Fn:=dy "Lbent Lprogram_here Lfive Lcell_here Lplace Lmany Lrow_here Lat Lfunction_here Lfar Lnone Lsome Lmany_of Lother" 3 15 (cB)def cW:SL:=.cons (.asgT [2,3,4,5,6] bn) (.cons (bX (on (pG (yf (zc 61 (aO aV bk)) cn) (yf (zx bk (.neg bq)) cn) (yf br cn) (Bm (.bin .add false (zx bk (.neg bq)) br) (zc 61 (aO aV bk))))) (bp (zr (.list false (aB (zt (aB (aN gu)))))))) (.cons (ar 7 bk) (.cons (ar 8 aV) (.cons (bX (ek gE) (Bl (bX (on (aO (yf cF cn) (Bm cF (zx bk cn)))) (bp (zr (.list false (aB (zt (aB (aN gu)))))))) (bX (ja (zx gE cn) (.comp false (.var 11) (.seq aV) .nil (zx (.var 11) cn))) (bp (zr (.list false (aB (zt (aB (aN kY)))))))) (ar 7 (.bin .add false (zt (aB (.bin .add false (zx bk cn) bq))) (.slc false bk (aB bq) .nil))) (ar 8 (.bin .add false (.bin .add false (.slc false aV .nil (aB cF)) (zt (aB gE))) (.slc false aV (aB cF) .nil))))) (Bk (ar 9 (.comp false (.var 12) (.seq (.slc false iZ .nil (aB (zx ff cn)))) (aB (fg (js (dI (zx bR cn) (aN bA)) (dI (zx om cn) (zx bR dw)) (dI (.bi .len false (aB (zx om bq))) (.bi .len false (aB (zx bR gN))))))) om)) (bX (dI Bj vP) (bp (zr (.list false (aB (zt (aB (aN bA)))))))) (ar 8 (zc 46 (pG iZ ff br (zt (aB bR))))) (ar 10 (zc 51 (js iZ ff bR))) (bX (uh ij vP) (bp (zr (.comp false (.tup [13,14]) (.seq ij) .nil (zt (js (aN eG) (.var 13) (.var 14))))))) (bX (uh (zc 53 (js iZ ff bR)) aV) (bp (zr (.list false (aB (zt (aB (aN gR)))))))) (zr (.list false (aO iZ ff))))))))def oL:Fn:=dy "Ldue Lprogram_here Lfive Lplace Lmany Lrow_here Lat Lfunction_here Lthere Lfound Lsome Lpairs_here" 2 15 (cW)def xW:SL:=.cons (ar 1 (zc 63 (aO aV (zc 36 (aO aV (.int 5)))))) (.cons (bX (CW bn) (bp (zr vU))) (.cons (.asgT [2,3] bn) (Bk (bX (dI (.bin .mod false (.bin .fdiv false (zc 25 (aO aV cn)) gN) dw) bq) (bp (ar 3 (zc 64 (js bk br (zc 25 (aO aV CO))))))) (ar 4 (zc 65 (aO bk br))) (ar 5 (zc 58 (aO bk br))) (bX (.bi (.isinst .str) false (aB (zx (zx bR cn) cn))) (bp (zr (uh (.comp false (.var 8) (.seq bR) (aB (zc 57 (aO cF iZ))) iZ) vP)))) (bX (on (aO (.not (.bi (.isinst .list) false (aB cF))) (.not (zc 57 (aO (zx cF cn) (zx bR cn)))))) (bp (zr (.bool false)))) (.asgT [6,7] (zc 24 (aO (zx cF cn) (zx bR bq)))) (zr (fg (aO (zc 57 (aO gE bk)) (zc 57 (aO (.slc false ff .nil (aB gN)) (.slc false br .nil (aB gN))))))))))def f_law:Fn:=dy "law Lscript Lmade Lprogram_here Lfive Ldue_here Lfound Ltold_here Lback" 1 9 (xW)def y7:List Fn:=[dy "gather term found" 2 2 (bp (.ite (dI vT (aN bz)) (bp (bX (gM pF bn) (bp (.expr (.meth .append bn (aB pF)))))) (bp (bX (uh vT (aN cL)) (ug (.expr (zc 0 (aO pF bn))) (.expr (zc 0 (aO (zx aV dw) bn)))))))),dy "names_in term found" 1 2 (qm (ar 1 (.list true .nil)) (.expr (zc 0 pC)) (zr (.freeze bn))),dy "own_terms row" 1 1 (Bl (bX (dI vT (aN iu)) (bp (zr (.list false (aB (zx aV dw)))))) (bX (on (aO (dI vT (aN mu)) (dI vT (aN jE)))) (bp (zr (.list false (aB pF))))) (bX (dI vT (aN bA)) (bp (zr (.bi .list false (aB (zx aV gN)))))) (zr vP)),dy "own_names row found term name" 1 4 (qm (ar 1 .dict0) (gO 2 (.seq (zc 2 (aB aV))) mc) (zr (.bi .list false (aB bn)))),dy "own_set row" 1 1 (L4),dy "has_rows row" 1 1 (bp (zr (on (aO (dI vT (aN jE)) (dI vT (aN dq)))))),dy "rows_within row" 1 1 (ug (bX (zc 5 (aB aV)) (bp (zr (zx aV dw)))) (zr (zt .nil))),dy "walked at rows found number row" 2 5 (qm (ar 2 (.list true .nil)) (.forr (.tup [3,4]) (.enum bn) mD) (zr (.freeze bk))),dy "surely_in rows found row" 1 3 (qm (ar 1 .dict0) (gO 2 (.seq aV) fL) (zr bn)),dy "first_in rows found known row names name" 1 6 (Bl (ar 1 .dict0) (ar 2 .dict0) (gO 3 (.seq aV) cP) (zr bn)),dy "tuple_at program place rows number" 2 4 (Bl (bX (on (aO (yf CV dw) (.not (.cmp2 .le .lt cn ql ID)))) (bp (.raise 1 (aB (aN lY))))) (ar 2 (zx (zx aV ql) dw)) (gO 3 (.seq Js) jM) (zr bk)),dy "row_at program place rows" 2 3 (qm (CY 2 10 pC) (bX (.not (.cmp2 .le .lt cn vV IE)) (bp (.raise 1 (aB (aN ⟨#[110,111,32,114,111,119,32,115,116,97,110,100,115,32,116,104,101,114,101]⟩))))) (zr (zx bk vV))),dy "needed program place function rows names depth behind sure row" 2 10 (NW (.calls .drop 11 pC) (ar 2 (zx aV ql)) (ar 3 sE) (ar 4 (zc 1 (aB (zx bk gN)))) (gO 5 (.range2 bq CV) jO) (zr (.bi .sortedSet false (aB bR)))),dy "with_rows_in rows path many news at row" 4 6 (Bl (ar 4 ql) OM (ar 5 (zx aV bR)) (zr (.bin .add false (.bin .add false CT (zt (aB (zt (js (zx cF cn) (zx cF bq) (zc 13 (pG (zx cF dw) Jr bk br))))))) Ju))),dy "with_rows program place many news name parameters rows result function" 4 9 (qm (.asgT [4,5,6,7] (zx aV ql)) (ar 8 (zt (pG bR cF (zc 13 (pG gE Jr bk br)) ff))) (zr (.bin .add false (.bin .add false (.slc false aV .nil (aB ql)) (zt (aB iZ))) (.slc false aV (aB (.bin .add false ql bq)) .nil)))),dy "number_of program name number function" 2 4 (ug (.forr (.tup [2,3]) (.enum aV) dM) (zr .none)),dy "numbers_set row function" 2 4 (bp (zr (.comp false (.tup [2,3]) (.enum (zx bn bq)) (aB (uh (zx (zx aV gN) bk) (zt (aO (aN bz) br)))) bk))),dy "rows_put row function news" 2 4 (qm (ar 2 (.bin .add false (.bi .tuple false (aB (.comp false (.var 3) (.seq (zc 16 pC)) .nil (zt (js (aN iu) (zx (zx bn bq) br) (zx (zx aV gN) br)))))) (zx bn dw))) ON (zr bk)),dy "term_clash place row function k other" 3 5 (ug (gO 3 (.seq (zc 16 (aO bn bk))) kB) (zr .none)),dy "bare_clash program place number parameters rows result sure names bare spot row" 3 14 (Bk (.asgT [3,4,5] (.slc false (zx aV bk) (aB bq) .nil)) (ar 6 (zc 8 (aB bR))) (ar 7 (.bin .add false (.bi .list false (aB (zc 9 (aB bR)))) (.comp false (.var 11) (.seq (zc 1 (aB cF))) (aB (gM (.var 11) gE)) (.var 11)))) (ar 8 (.comp false (.var 12) (.seq ff) (aB (gM om br)) om)) (bX (dI iZ vP) (bp (zr .none))) (.forr (.tup [9,10]) (.seq (zc 7 (aO (zt (aB bk)) bR))) g7) (zr (zt (aO (zt (aO bk (.bi .len false (aB bR)))) bn)))),dy "setters place row number function found k spot one" 4 8 (Jv (ar 4 .dict0) (gO 5 (.seq (zc 16 (aO bn br))) pi) (.forr (.tup [6,7]) (.seq (zc 7 (aO (zt (aB bk)) (zx br dw)))) kE) (.expr (.meth .pop bR (aO (zx bn bq) .none))) (zr bR)),dy "reader program place name rows result spots spot" 3 9 (Jv (.asgT [3,4] (.slc false (zx aV ql) (aB dw) .nil)) (ar 5 (.comp true (.tup [7,8]) (.seq (zc 7 (aO (zt (aB ql)) br))) (aB (ja bk (zc 3 (aB iZ)))) ff)) (bX (ja bk (zc 1 (aB bR))) (bp (.expr (.meth .append cF (aB (zt (aO ql (.bi .len false (aB br))))))))) (gO 6 (.seq cF) jN) (zr (zx cF cn))),dy "lost_clash program place row number found name" 4 6 (qm (ar 4 (zc 20 (pG bn bk br (zx aV br)))) (gO 5 (.seq (zc 12 pC)) gY) (zr .none)),dy "is_called program name function spot row" 2 5 (ug (gO 2 (.seq aV) mf) (zr (.bool false))),dy "put program place row number function clash news after" 2 8 (.cons (CY 2 11 pC) (.cons (bX (uh (zx bk cn) (aN bA)) (bp (.raise 4 (aB (aN wq))))) (.cons (ar 3 (zc 15 (aO aV sE))) (.cons (ar 4 (zx aV br)) (.cons (ar 5 (zc 18 (js bn bk bR))) (.cons (bX (CW cF) (bp (ar 5 (zc 19 (js aV bn br))))) (Bk (bX (CW cF) (bp (CY 5 22 (pG aV bn bk br)))) (bX (ek cF) (bp (.raise 6 (aO (zx cF cn) (zx cF bq))))) (ar 6 (zc 17 (aO bk bR))) (ar 7 (zc 14 (pG aV bn bq gE))) (bX (zc 23 (aO ff sE)) (bp (zr (zt (aO ff (zt (vQ bn (.bi .len false (aB gE)) bk br .none))))))) (ar 7 (.bin .add false (.slc false ff .nil (aB br)) (.slc false ff (aB (.bin .add false br bq)) .nil))) (zr (zt (aO ff (zt (vQ (.bin .add false (zt (aB (.bin .sub false ql bq))) Jr) (.bi .len false (aB gE)) bk br bR)))))))))))),dy "Lcell Lscript Lk Lcell_here Lmark" 2 4 sw,dy "Lmixed Lcell_here Lk Lmark" 2 3 (ug (ar 2 (.bin .mod false (.bin .add false (.bin .mul false aV (.int 48271)) (.bin .mul false (.bin .add false bn bq) (.int 1299721))) (.int 2147483647))) (zr (.bin .mod false (.bin .mul false bk (.bin .add false (.bin .mod false (.bin .fdiv false bk (.int 7)) (.int 65536)) gN)) (.int 2147483647)))),dy "Lwords Lcell_here Lmany Lletters Lbase Lat" 2 7 (Jv (ar 2 (aN az)) (ar 3 (.bin .mul false (zx bk (.bin .mod false aV (.int 26))) (.bin .add false bq (.bin .mod false (.bin .fdiv false aV (.int 26)) (.int 8))))) (ar 4 (.bin .mod false (.bin .fdiv false aV (.int 208)) (.bi .len false (aB br)))) (bX (dI (.bin .mod false (.bin .fdiv false aV (.int 1664)) gN) bq) (bp (zr (.comp false (.var 5) (.range bn) .nil (.bin .mul false (zx bk (.bin .mod false aV (.int 26))) (.bin .add false bq cF)))))) (zr (.comp false (.var 6) (.range bn) .nil (.bin .add false (.bin .add false (.slc false br .nil (aB bR)) (zx bk (.bin .mod false (.bin .add false (.bin .fdiv false aV (.int 4992)) (.bin .mul false (.int 5) gE)) (.int 26)))) (.slc false br (aB (.bin .add false bR bq)) .nil))))),dy "Lterm Lcell_here Lwords_here Ldeep Lkind_here Lword" 3 5 (NW (ar 3 (.bin .mod false aV CX)) (bX (dI br cn) (bp (zr (zt (aO (aN cL) (.bin .mod false CS gN)))))) (bX (dI br bq) (bp (zr (zt (aO (aN cL) (.bin .mod false CS (.int 1000003))))))) (bX (on (aO (yf br CO) (dI bk cn))) (bp (zr (zt (aO (aN bz) (zx bn (.bin .mod false CS CV))))))) (ar 4 (zx (.list false (js (aN Ad) (aN uD) (aN p6))) (.bin .mod false CS gN))) (zr (zt (js bR (zc 28 (js (zc 26 (aO aV bq)) bn (.bin .sub false bk bq))) (zc 28 (js (zc 26 (aO aV dw)) bn (.bin .sub false bk bq))))))),dy "Lgiven Lcell_here Lwords_here Lname" 3 3 (ug (bX (dI (.bin .mod false aV dw) cn) (bp (zr (zt (aO (aN bz) bk))))) (zr (zc 28 (js (.bin .fdiv false aV dw) bn bq)))),dy "Lcall Lcell_here Lwords_here Lheads Lhead Lterms Ltarget_here" 3 7 (Bl (ar 3 (zx bk (.bin .mod false (.bin .fdiv false aV (.int 7)) IE))) (ar 4 (.comp false (.var 6) (.range (.bi .len false (aB (zx br bq)))) .nil (zc 29 (js (zc 26 (aO aV (.bin .add false (.int 10) gE))) bn (zx (zx br bq) gE))))) (ar 5 (.ite (dI (.bin .mod false aV gN) cn) .none (zx bn (.bin .mod false (.bin .fdiv false aV (.int 49)) CV)))) (zr (zt (pG (aN bA) cF (zx br cn) (.bi .tuple false (aB bR)))))),dy "Lrow Lcell_here Lwords_here Lheads Ldeep Lkind_here Lrest Lword Lfew Lrows_here Lcount" 4 10 (.cons (ar 4 (.bin .mod false aV (.int 9))) (.cons (ar 5 (zc 26 (aO aV gN))) (Bk (ar 6 (zx bn (.bin .mod false (.bin .fdiv false aV (.int 9)) CV))) (ar 7 (.slc false bk .nil (aB (.bin .add false bq (.bi .int false (aB (dI (.bin .mod false (.bin .fdiv false aV (.int 3645)) (.int 8)) bq))))))) (bX (on (aO (dI bR dw) (dI bR (.int 8)))) (bp (zr (zt (aO (aN mu) (zc 28 (js cF bn dw))))))) (bX (fg (js (yf dw bR) (yf bR CX) (uh bk vP))) (bp (zr (zc 30 (js cF bn bk))))) (bX (fg (aO (dI bR CX) (Bm br cn))) (ug (ar 8 L6) (zr (zt (js (aN jE) (zc 28 (js (zc 26 (aO aV CO)) bn bq)) iZ))))) (bX (fg (aO (dI bR (.int 7)) (Bm br cn))) (qm (ar 9 (zx (.list false (pG dw bq dw cn)) (.bin .mod false (.bin .fdiv false aV (.int 27)) CO))) (bX (fg (aO (dI bk vP) (dI br dw))) (bp (ar 9 (zx (.list false (vQ dw gN bq (.bin .mod false (.bin .fdiv false aV (.int 135)) (.int 10)) cn)) (.bin .mod false (.bin .fdiv false aV (.int 27)) (.int 5)))))) (zr (zt (js (aN dq) Bj L6))))) (zr (zt (js (aN iu) gE (zc 28 (js cF bn (.bin .add false bq (.bin .mod false bR dw)))))))))),dy "Lrows Lcell_here Lwords_here Lheads Ldeep Lmany" 5 6 (bp (zr (.bi .tuple false (aB (.comp false (.var 5) (.range bR) .nil (zc 31 (pG (zc 26 (aO aV (.bin .add false (.int 20) cF))) bn bk br))))))),dy "Llooped Lprogram_here Lcell_here Lname Lnames_here Lrows_here Lresult Lk" 2 7 (Bl (bX (on (aO (dI (.bin .mod false bn dw) cn) (dI (zx (zx aV (.neg bq)) dw) (zt .nil)))) (bp (zr aV))) (.asgT [2,3,4,5] (zx aV (.neg bq))) (bX (dI (.bin .mod false (.bin .fdiv false bn CO) CO) bq) (bp (gO 6 (.range CX) kG))) (zr (.bin .add false (.slc false aV .nil (aB (.neg bq))) (zt (aB (zt (pG bk br (zt (aB (zt (js (aN dq) (.bin .add false dw (.bin .mod false (.bin .fdiv false bn dw) dw)) bR)))) cF))))))),dy "Lfunction Lcell_here Lname Lwords_here Lheads Lfirst Lnames_here Lmany Lrows_here" 4 9 (Bk (ar 4 (.bin .mod false CS IE)) (ar 5 (.bi .tuple false (aB (.comp false (.var 8) (.range (zx (.list false (NN cn bq dw dw gN CO)) (.bin .mod false aV CX))) .nil (zx bk (.bin .mod false (.bin .add false bR (.bin .mul false dw iZ)) IE)))))) (ar 6 (zx (.list false (NN gN CO dw (.int 5) cn CX)) (.bin .mod false (.bin .fdiv false aV (.int 30)) CX))) (bX (dI (.bin .mod false (.bin .fdiv false aV (.int 180)) (.int 12)) bq) (bp (ar 6 (.bin .mod false (.bin .fdiv false aV (.int 2160)) (.int 30))))) (bX (Bm gE CX) (bp (ar 3 vP))) (ar 7 (zc 32 (vQ (zc 26 (aO aV (.int 5))) bk br (.bin .sub false dw (.bi .int false (aB (Bm gE CX)))) gE))) (zr (zt (pG bn cF ff (zc 28 (js (zc 26 (aO aV CX)) bk bq)))))),dy "Lvariables Lscript Lat" 2 2 (bp (zr (zc 27 (aO (zc 25 pC) (.bin .add false (.int 5) (.bin .mul false dw (.bi .int false (aB (dI (.bin .mod false (.bin .fdiv false LZ (.int 512)) (.int 8)) bq))))))))),dy "Lprogram Lscript Lat Lwords_here Lnames_here Lprogram_here Lcount Lk Lfunction_here" 2 8 (Bk (ar 2 (zc 35 pC)) (ar 3 (zc 27 (aO (zc 25 (aO aV (.bin .sub false (.bin .add false bn bq) (.bi .int false (aB (dI (.bin .mod false (zc 25 (aO aV (.bin .add false bn bq))) (.int 8)) gN)))))) (.int 8)))) (ar 4 (zt .nil)) (ar 5 (.bin .add false bq (.bin .mod false (.bin .add false LZ dw) CO))) (bX (dI (.bin .mod false (.bin .fdiv false LZ (.int 64)) (.int 8)) bq) (bp (ar 5 (.bin .add false cF CO)))) (gO 6 (.range cF) cU) (zr (zc 33 (aO bR (.bin .fdiv false LZ CO))))),dy "Lnames Lterm_here" 1 1 (qm (bX (dI vT (aN bz)) (bp (zr (.list false (aB pF))))) (bX (dI vT (aN cL)) (bp (zr vP))) (zr (.bin .add false (zc 37 (aB pF)) (zc 37 (aB (zx aV dw)))))),dy "Lown Lrow_here Lterms Lfound Lterm_here" 1 4 (Bk (bX (dI vT (aN dq)) (bp (zr vP))) (ar 1 (.list false (aB pF))) (bX (dI vT (aN iu)) (bp (ar 1 (.list false (aB (zx aV dw)))))) (bX (dI vT (aN bA)) (bp (ar 1 (.bi .list false (aB (zx aV gN)))))) (ar 2 vP) (gO 3 (.seq bn) kF) (zr bk)),dy "Ltarget Lrow_here" 1 1 (L4),dy "Lblock Lrow_here" 1 1 (ug (bX (on (aO (dI vT (aN jE)) (dI vT (aN dq)))) (bp (zr (zx aV dw)))) (zr (zt .nil))),dy "Lplaces Lplace Lrows_here Lfound Lat" 2 4 (qm (ar 2 (.list true .nil)) (gO 3 (.range CV) gZ) (zr (.freeze bk))),dy "Lscan Lrows_here Lname Lread Lrow_here Ltold_here" 2 5 (qm (ar 2 (.bool false)) (gO 3 (.seq aV) gy) (zr (zt (aO bk vU)))),dy "Lneeded Lprogram_here Lplace Lname Lfunction_here Lrows_here Llater Lat Ltold_here Lrow_here" 3 9 (NW (ar 3 (zx aV ql)) (ar 4 (zx br dw)) (ar 5 (ja bk (zc 37 (aB (zx br gN))))) (gO 6 (.seq Js) g6) (ar 7 (zc 42 (aO (.slc false bR (aB (.bin .add false vV bq)) .nil) bk))) (zr (on (aO (zx ff cn) (fg (aO (zx ff bq) cF)))))),dy "Lall Lprogram_here Lfound Lnumber_here" 1 3 (qm (ar 1 vP) (gO 2 (.range ID) kH) (zr bn)),dy "Lwithin Lrows_here Lsteps Lmany Lothers Lat Lrow_here Linner" 4 7 (Jv (ar 4 ql) OM (ar 5 (zx aV bR)) (ar 6 (zc 45 (pG (zx cF dw) Jr bk br))) (zr (.bin .add false (.bin .add false CT (zt (aB (zt (js (zx cF cn) (zx cF bq) gE))))) Ju))),dy "Lwith Lprogram_here Lplace Lmany Lothers Lat Lfunction_here Lrows_here Lmade" 4 8 (Jv (ar 4 ql) (ar 5 (zx aV bR)) (ar 6 (zc 45 (pG (zx cF dw) Jr bk br))) (ar 7 (zt (pG (zx cF cn) (zx cF bq) gE (zx cF gN)))) (zr (.bin .add false (.bin .add false CT (zt (aB ff))) Ju))),dy "Lreaders Lprogram_here Lnumber_here Lfunction_here Lfound" 2 6 (qm (ar 2 (zx aV bn)) (ar 3 (.comp false (.tup [4,5]) (.seq (zc 41 (aO (zt (aB bn)) sE))) .nil (zt (aO bR (zc 38 (aB cF)))))) (zr (.bin .add false br (.list false (aB (zt (aO (zt (aO bn (.bi .len false (aB sE)))) (zc 37 (aB (zx bk gN)))))))))),dy "Lnumber Lprogram_here Lname" 2 3 (bp (zr (.meth .index (.comp false (.var 2) (.seq aV) .nil (zx bk cn)) (aB bn)))),dy "Lkept Lrow_here Lfunction_here" 2 3 (bp (zr (.comp false (.var 2) (.range (.bi .len false (aB (zx aV gN)))) (aB (uh (zx (zx aV gN) bk) (zt (aO (aN bz) (zx (zx bn bq) bk))))) bk))),dy "Lbare Lfunction_here Lname Ltold_here" 2 3 (ug (ar 2 (zc 42 (aO (zx aV dw) bn))) (zr (fg (aO (gM bn pF) (on (aO (zx bk cn) (fg (aO (zx bk bq) (ja bn (zc 37 (aB (zx aV gN)))))))))))),pq,tZ,dy "Lput Lprogram_here Lplace Lrow_here Lat Lfound" 3 6 (Bl (ar 3 (zc 48 (aO aV sE))) (ar 4 (zc 46 (pG aV bn bq (zc 60 (aO bk (zx aV br)))))) (bX (uh (.comp false (.var 5) (.seq (zc 44 (aB bR))) (aB (fg (aO (dI (zx (zx cF bq) cn) (aN bA)) (dI (zx (zx cF bq) dw) sE)))) cF) vP) (bp (zr bR))) (zr (.bin .add false (.slc false bR .nil (aB br)) (.slc false bR (aB (.bin .add false br bq)) .nil)))),rS,dy "setters_in place rows found k row spot where one" 2 8 (qm (ar 2 .dict0) (.forr (.tup [3,4]) (.enum bn) gX) (zr bk)),fD,dy "Lalike Lfound Ldue_here" 2 3 (qm (bX (.bi (.isinst (.tuple ())) false (aB bn)) (ug (bX (on (aO (.not (.bi (.isinst (.tuple ())) false (aB aV))) (uh ID CV))) (bp (zr (.bool false)))) (zr (.not (.comp false (.var 2) (.range CV) (aB (.not (zc 57 (aO (zx aV bk) (zx bn bk))))) bk))))) (bX (on (aO (CW bn) (.bi (.isinst .str) false (aB bn)))) (bp (zr (fg (aO (dI aV bn) (dI (.bi (.isinst .str) false (aB aV)) (.bi (.isinst .str) false (aB bn)))))))) (zr (fg (js (.bi (.isinst .int) false (aB aV)) (.not (.bi (.isinst .bool) false (aB aV))) (dI aV bn))))),jQ,dX,dy "Lrows_of Lrow_here Lfunction_here Lrows_here" 2 4 (qm (ar 2 (.bin .add false (.bi .tuple false (aB (.comp false (.var 3) (.seq (zc 49 pC)) .nil (zt (js (aN iu) (zx (zx bn bq) br) (zx (zx aV gN) br)))))) (zx bn dw))) ON (zr bk)),dy "Lleft Lprogram_here Lplace Lrows_here Lat" 2 4 (Bl (bX (on (aO (yf CV dw) (.not (.cmp2 .le .lt cn ql ID)))) (bp (zr (.neg bq)))) (ar 2 (zx (zx aV ql) dw)) (gO 3 (.seq Js) jP) (zr IE)),dy "Lwritten Lscript Lprogram_here Lpairs_here Lplace Lrow_here Lrows_here" 3 6 (qm (.asgT [3,4] Jt) (ar 5 (zc 60 (aO bR (zx bn (zc 48 (aO bn (zx bR dw))))))) (zr (zt (aO (zc 46 (pG bn br cn cF)) (zt (vQ br (.bi .len false (aB cF)) bR (.bin .sub false (.bin .mod false (zc 25 (aO aV dw)) (.bin (.pow ()) false (.int 10) (.int 20))) (.int 9)) .none)))))),dy "Lchanged Lscript Lprogram_here Lpairs_here Lplace Lname Lmany Lmade" 2 10 cX,rR,oL,f_law]noncomputable def Nd:Nat->Option PyData
 |2=>some (.int 8)
 |1=>some (.str ⟨#[97,98,99,100,101,102,103,104,105,106,107,108,109,110,111,112,113,114,115,116,117,118,119,120,121,122]⟩)
 |_=>(none)def prog:pV:=(Nd,λn=>y7[n]?)noncomputable abbrev pc(d i:Nat)(a:List V)(U:ac)(v:V):Prop:=aj prog d i a U=.ok v (U)noncomputable def iJ(l:List Int)(k:Nat):Int:=(l[k]?).getD 0
noncomputable def Ed(c k:Int):Int:=(c % 2147483629+7919 * (k+1)) * 48271 % 2147483647
noncomputable def Ee(m:Int):Int:=m * m % 2147483629 * 69621 % 2147483647
def bG(l:List Int)(k:Nat):Int:=(iJ l k / 2147483629 * 2147483647+Ee (Ed (iJ l k) k)) * 2147483629+Ee (Ed (iJ l k) k) * Ee (Ed (iJ l k) k) % 2147483629
theorem o1(h:n<=d):∃e,d=e+n:=⟨d - n,(Nat.sub_add_cancel h).symm⟩theorem jI(d:Nat){a b:Nat}(h:a < b):a < d+b:=Qt h (P9 b d)theorem lH(e:Nat):((e+1:Nat):Int) - 1=(e:Int):=SD (e:Int) 1
variable {p:Prop}theorem dT[Decidable p](h:p):some (decide p)=some true:=congrArg some (decide_eq_true h)theorem dF[Decidable p](h:¬ p):some (decide p)=some false:=congrArg some (decide_eq_false h)abbrev same(U:ac):U.take U.length=U:=List.take_length
theorem bY(d:Nat)(l:List Int)(k:Nat)(U:ac):pc (d+1) 25 [al (l.map .int),ak k] U (ak (bG l k)):=by
 have first:af prog.1 (aj prog d) (.ite (.cmp .lt (.var 1) (.bi .len false (.cons (.var 0) (.nil)))) (.idx (.var 0) (.var 1)) (.int 0)) [al (l.map .int),ak k,.un,.un] U=.ok (ak (iJ l k)) U:=by
   by_cases h:k < l.length
   . exact Md (Gm (cq rfl rfl rfl) (decide_eq_true (by rw[Pd];exact Qr.mpr h))) (bZ rfl rfl (by rw[jn _ (Qi k)];simp[iJ,h]))
   . refine Mf (Gm (cq rfl rfl rfl) (decide_eq_false (by rw[Pd];exact λq=>h (Qr.mp q)))) ?_;simp only[iJ,Rh (QF h)];rfl
 exact cI rfl rfl (aT (ki first) ((ch prog.1 (aj prog d) (tl sw) [al (l.map .int),ak k,ak (iJ l k),.un] U 26960 (LT _ _ (by decide)) (Od _ _ (by decide) (by decide)) (LT _ _ (by decide)) (LT _ _ (by decide)) ((λ(x:Int)=>LT false U (by decide)) _) (Od _ _ (by decide) (by decide)))))theorem lG(d:Nat)(l:List Int)(U:ac)(k:Nat)(i:Int)(hi:i=(k:Int)):pc (d+1) 25 [al (l.map .int),ak i] U (ak (bG l k)):=by subst hi;exact bY d l k (U)noncomputable def j5(c k:Int):Int:=(c * 48271+(k+1) * 1299721) % 2147483647 * ((c * 48271+(k+1) * 1299721) % 2147483647 / 7 % 65536+3) % 2147483647
theorem d4(d:Nat)(c k:Int)(U:ac):pc (d+1) 26 [ak c,ak k] U (ak (j5 c k)):=
 (aX prog 26 d [ak c,ak k] U rfl 261 (LT _ _ (by decide)) (LT _ _ (by decide)) (Od _ _ (by decide) (by decide)) (same U))theorem wQ(h:0 < d)(c k:Int)(U:ac):pc d 26 [ak c,ak k] U (ak (j5 c k)):=by obtain⟨e,rfl⟩:∃e,d=e+1:=o1 h;exact d4 e c k U
inductive Tm where
 |num (i:Int)
 |name (x:Str)
 |op (k:Nat) (a b:Tm)noncomputable def Tm.ctorIdx(t:Tm):Nat:=by cases (t);exact 0;exact 1;exact 2
def yG:Nat->Str
 |0=>Ad
 |1=>uD
 |_=>(p6)def a9:Tm->PyData
 |.num i=>.tuple [.str cL,.int i]
 |.name x=>.tuple [.str bz,.str x]
 |.op k a b=>.tuple [.str (yG k),a9 a,a9 b]noncomputable def ht:Tm->Nat
 |.op _ a b=>max (ht a) (ht b)+1
 |_=>0
theorem tF(k:Nat):yG k=Ad\/yG k=uD\/yG k=p6:=match k with
 |0=>.inl rfl
 |1=>.inr (.inl rfl)
 |_+2=>.inr (.inr rfl)variable {c:Cell}theorem Ab(h:U[n]?=some c):(U.set n c')[n]?=some c':=by have:=(PB.mp h).1;simp[this]
theorem wo(hc:U[n]?=some c):U.set n c=U:=by
 apply SG;intro k;by_cases hk:n=k
 . subst hk;rw[Ab hc,hc]
 . simp[hk]theorem aK(U:ac)(c:Cell):(U++[c])[U.length]?=some c:=by simp
theorem fU(U:ac)(c c':Cell):(U++[c]).set U.length c'=U++[c']:=by simp
theorem ly(U:ac)(l:List PyData):K9 (.loc U.length) (U++[.lst l])=.ok (al l) (U++[.gone]):=by rw[K8 (aK _ _),fU]theorem Aa(n:Nat)(c:Cell):(U.set n c).take U.length=U.set n c:=RD (by simp)variable {i:Int}
theorem Em(h0:0<=i)(h:i < 26)(U:ac):cK (aA az) (ak i) U=some (aA (aD [97+i.toNat])):=by
 have hl:(aG az).length=26:=by decide
 have ha:∀n,n < 26->(aG az)[n]?=some (97+n):=by decide
 rw[Hu,index,hl,if_pos h0,if_pos (show i < ((26:Nat):Int) from h)];show ((aG az)[i.toNat]?).map _=_;rw[ha _ ((Sp h0).mpr h)];(rfl)theorem eB(l:List Nat):aG (aD l)=l:=by simp[aG,aD]theorem vq(l:List Nat):(aD l).cps.size=l.length:=by simp[aD]theorem Ai(a:Nat):∀n:Nat,(List.replicate n [a]).flatten=List.replicate n a
 |0=>rfl
 |n+1=>by rw[SS,List.flatten_cons,Ai a n];(rfl)theorem Jj(a:Nat){n:Int}(h0:0<=n)(h:n<=1000)(m:Bool)(U:ac):dj .mul m (aA (aD [a])) (ak n) U=.ok (aA (aD (List.replicate n.toNat a))) U:=by rw[LA ⟨h0,h,by rw[vq];simp⟩,eB,Ai]theorem tq(l:List B)(lo hi:Option Int):(aC l lo hi).length<=l.length:=by unfold aC;rw[Qn,Qy];exact iv (RO _ _) (Th _ _)theorem tK{g:Nat->Str}(h:∀i j,i < n->j < n->g i=g j->i=j):((List.range n).map g).Nodup:=by rw[List.Nodup,List.pairwise_map];refine List.Pairwise.imp_of_mem (λ{a b} ha hb hne=>?_) (List.nodup_range);exact λe=>hne (h a b (Rf.mp ha) (Rf.mp hb) e)theorem uT(g:Nat->Str)(n:Nat):(List.range n).map (λk=>PyData.str (g k))=((List.range n).map g).map .str:=by rw[Qx];(rfl)theorem p8:(0:Int) < 8:=by decide
theorem p4:(0:Int) < 4:=by decide
theorem gw:cO none=some none:=(rfl)theorem fu(i:Int):cO (some (ak i))=some (some i):=(rfl)theorem E5:∀i j:Fin 26,(5 * i.val) % 26=(5 * j.val) % 26->i=j:=by decide
theorem Ha(m:Int){i:Nat}(hi:i < 26)(hj:j < 26)(h:((m+5 * (i:Int)) % 26).toNat=((m+5 * (j:Int)) % 26).toNat):i=j:=by
 have h3:(m+5 * (i:Int)) % 26=(m+5 * (j:Int)) % 26:=by rw[<- Re (R4 (m+5 * (i:Int)) (by decide:(26:Int)≠0)),<- Re (R4 (m+5 * (j:Int)) (by decide:(26:Int)≠0)),h]
 have h4:((5 * i:Nat):Int) % ((26:Nat):Int)=((5 * j:Nat):Int) % ((26:Nat):Int):=Int.emod_add_cancel_left.mp h3;rw[<- Int.natCast_emod,<- Int.natCast_emod]at h4;exact congrArg Fin.val (E5 ⟨i,hi⟩ ⟨j,hj⟩ (SE.mp h4))def II(base:List Nat)(at' m:Int):Str:=aD (aC base none (some at')++[97+(m % 26).toNat]++aC base (some (at'+1)) none)
theorem kO(n k:Nat):jq n (k:Int)=min k n:=by
 unfold jq;rw[if_neg (RI.mpr (Qi k))];rcases TZ k n with h|h
 . rw[SU (QX.mpr h),Sj (Qi _),Qu,Qo h]
 . rw[Int.min_eq_right (QX.mpr h),Sj (Qi _),Qu,Tp h]theorem qC(l:List B)(k:Nat):aC l none (some (k:Int))=l.take k:=by show (l.drop 0).take (jq l.length k - 0)=_;rw[kO,List.drop_zero,Nat.sub_zero,TF,Nat.min_assoc,T0]
theorem mt(l:List B)(k:Nat):aC l (some (k:Int)) none=l.drop k:=by
 show (l.drop (jq l.length k)).take (l.length - jq l.length k)=_;rw[kO,RD (Qm Qy)];rcases TZ k l.length with h|h
 . rw[Qo h]
 . rw[Tp h,Sk,Tt h]
theorem mQ(c many:Int)(hm:0<=many/\many<=26)(d:Nat)(U:ac):∃ws:List Str,A3 (ws.length=many.toNat) (ws.Nodup) (∀(d:Nat) (U:ac),pc (d+1) 27 [ak c,ak many] U (al (ws.map .str))):=by
 have iy:∀σ',cK (aA az) (ak (c % 26)) σ'=some (aA (aD [97+(c % 26).toNat])):=λσ'=>Em (cQ c (by decide)).1 (cQ c (by decide)).2 σ';have hn:=cQ (c / 26) p8;have ib:=λU=>Jj (97+(c % 26).toNat) (Ry (by decide) hn.1) (QN (SW (R5 hn.2) 1) (by decide)) false U;generalize hbase:List.replicate (1+c / 26 % 8).toNat (97+(c % 26).toNat)=base at ib;have hbl:0 < (((aG (aD base)).length:Nat):Int):=by rw[eB,<- hbase,SK,Re (Ry (by decide) hn.1)];exact Su (by decide) (R9 hn.1)
 have hbu:base.length<=8:=by rw[<- hbase,SK];exact Ri.mpr (by rw[S5];exact hn.2)
 have hat:=cQ (c / 208) hbl;rw[eB]at hat;have im:∀U,dj .mod false (ak (c / 208)) (ak ((aG (aD base)).length:Int)) U=.ok (ak (c / 208 % (base.length:Int))) U:=λU=>by rw[ee _ _ hbl,eB]
 generalize c / 208 % (base.length:Int)=at' at im hat;by_cases hk:c / 1664 % 3=1
 . refine⟨(List.range many.toNat).map λ(k:Nat)=>aD (List.replicate (1+(k:Int)).toNat (97+(c % 26).toNat)),by simp,tK λi j _ _ e=>?_,λd U=>?_⟩
   . have:=congrArg (λx=>(aG x).length) e;simp only[eB,SK]at this;lia
   . rw[<- uT];exact(aX prog 27 d [ak c,ak many] U rfl 4386 (iy _) (ib _) (im _) (dT hk) (vY _ rfl ⟨hm.1,QN hm.2 (by decide)⟩ λk hk=>jX (bZ rfl rfl (iy _)) rfl (Jj _ (by lia) (by lia) _ _)) (same U))
 . refine⟨(List.range many.toNat).map λ(k:Nat)=>II base at' (c / 4992+5 * (k:Int)),by simp,tK λi j hi hj e=>?_,λd U=>?_⟩
   . have:=congrArg aG e;simp only[II,eB]at this;have:=List.append_cancel_left (List.append_cancel_right this);simp only[List.cons.injEq,and_true]at this;exact Ha (c / 4992) (Qt hi (Ri.mpr hm.2)) (Qt hj (Ri.mpr hm.2)) (Nat.add_left_cancel this)
   . have s1:=tq base none (some at');have s2:=tq base (some (at'+1)) none;have cat:∀(a b:List Nat) (m:Bool) (J:ac),a.length+b.length<=100->dj .add m (aA (aD a)) (aA (aD b)) J=.ok (aA (aD (a++b))) J:=λa b m J h=>by rw[NC (by rw[vq,vq];unfold LIM;lia),eB,eB]
     rw[<- uT];exact(aX prog 27 d [ak c,ak many] U rfl 4386 (iy _) (ib _) (im _) (dF hk) (vY _ rfl ⟨hm.1,QN hm.2 (by decide)⟩ λk hk=>jX (jX (qr rfl rfl rfl ((λm J=>by rw[z0 _ _ gw (fu _),eB]:∀m J,gq m (aA (aD base)) none (some (ak at')) J=.ok (aA (aD (aC base none (some at')))) J) _ _)) (bZ rfl rfl (Em (cQ _ (by decide)).1 (cQ _ (by decide)).2 _)) (cat _ _ _ _ (by rw[QS];lia))) (qr rfl rfl rfl ((λm J=>by rw[z0 _ _ (fu _) gw,eB]:∀m J,gq m (aA (aD base)) (some (ak (at'+1))) none J=.ok (aA (aD (aC base (some (at'+1)) none))) J) _ _)) (cat _ _ _ _ (by rw[PC,QS];lia))) (same U))variable {ws:List Str}theorem Gj(h0:0<=i)(h:i < ws.length)(U:ac):∃w:Str,w∈ws/\cK (al (ws.map .str)) (ak i) U=some (aA w):=by have:i.toNat < ws.length:=(Sp h0).mpr h;exact⟨ws[i.toNat],Rp _,by rw[jn _ h0];simp[this]⟩
theorem j8(hw:0 < ws.length)(x:Int)(U:ac):0 < (((ws.map PyData.str).length:Nat):Int)/\∃w:Str,w∈ws/\cK (al (ws.map .str)) (ak (x % ((ws.map PyData.str).length:Int))) U=some (aA w):=by
 have hwl:0 < (((ws.map PyData.str).length:Nat):Int):=by rw[Pd];exact Qr.mpr hw
 have:=cQ x hwl;exact⟨hwl,Gj this.1 (by rw[Pd]at this ⊢;exact this.2) U⟩
theorem Mz(x:Int)(U:ac):∃k:Nat,cK (al [.str Ad,.str uD,.str p6]) (ak (x % 3)) U=some (aA (yG k)):=by
 have h0:=cQ x (show (0:Int) < 3 by decide);have h2:(x % 3).toNat < 3:=(Sp h0.1).mpr h0.2;rw[jn _ h0.1];generalize (x % 3).toNat=n at h2;exact⟨n,match n,h2 with
   |0,_=>rfl
   |1,_=>rfl
   |2,_=>rfl⟩noncomputable def cJ:Tm->List Str
 |.num _=>[]
 |.name x=>[x]
 |.op _ a b=>cJ a++cJ (b)def T1(ws:List Str)(deep:Nat)(t:Tm):Prop:=(∀x∈cJ t,x∈ws)/\ht t<=deep
theorem oR(ws:List Str)(deep:Nat)(i:Int):T1 ws deep (.num i):=⟨λ_ h=>(by cases h),PU _⟩theorem oi(deep:Nat)(h:x∈ws):T1 ws deep (.name x):=⟨λ_ q=>PN.mp q▸h,PU _⟩def zN(ws:List Str)(deep:Nat):Prop:=∀(d:Nat) (c:Int) (U:ac),deep+1 < d->∃t,T1 ws deep t/\pc d 28 [.d (.int c),.d (.list (ws.map .str)),.d (.int deep)] U (.d (a9 t))variable {deep:Nat}
theorem zV(hw:0 < ws.length)(H:∀e,deep=e+1->zN ws e):zN ws deep:=by
 intro d c U hd;obtain⟨d,rfl⟩:∃e,d=e+1:=o1 (iv (P9 1 _) hd);obtain⟨hwl,w,hwm,iw⟩:=j8 hw (c / 6) U;have R:=λ(D:Int)=>aX prog 28 d [ak c,al (ws.map .str),ak D] U rfl;by_cases h0:c % 6=0
 . exact⟨.num (c / 6 % 3),oR ..,(R deep 4 (dT h0) (same U))⟩
 by_cases h1:c % 6=1
 . exact⟨.num (c / 6 % 1000003),oR ..,(R deep 20 (dF h0) (dT h1) (same U))⟩
 by_cases h4:c % 6 < 4
 . exact⟨.name w,oi _ hwm,(R deep 6548 (dF h0) (dF h1) (dT h4) (dT h4) (ee _ _ hwl) iw (same U))⟩
 cases deep with
 |zero=>exact⟨.name w,oi _ hwm,(R 0 12436 (dF h0) (dF h1) (dF h4) (ee _ _ hwl) iw (same U))⟩
 |succ deep=>obtain⟨k,hk⟩:=Mz (c / 6) U;have hd:=RX hd;obtain⟨a,ha,ea⟩:=H deep rfl d (j5 c 1) U hd;obtain⟨b,hb,eb⟩:=H deep rfl d (j5 c 2) U hd;have hD:((deep+1:Nat):Int)≠0:=λq=>absurd (SE.mp q) (To deep);have hd0:0 < d:=Qt (Rx _) (Qg hd);rw[<- lH deep]at ea eb;generalize ((deep+1:Nat):Int)=D at *;exact⟨.op k a b,⟨λx hx=>(PT.mp hx).elim (ha.1 x) (hb.1 x),PP (QE.mpr ⟨ha.2,hb.2⟩)⟩,(R D 4756 (dF h0) (dF h1) (dF h4) (dF hD) hk (wQ hd0 c 1 U) ea (wQ hd0 c 2 U) eb (same U))⟩
theorem ed(ws:List Str)(hw:0 < ws.length):∀deep,zN ws deep
 |0=>zV hw λe h=>by injection h
 |n+1=>zV hw λe h=>by injection h with e;subst e;exact ed ws hw (n)theorem uP:∀t:Tm,(cJ t).length<=2 ^ ht t
 |.num _=>PU _
 |.name _=>Qb _
 |.op _ a b=>by show (cJ a++cJ b).length<=2 ^ (max (ht a) (ht b)+1);rw[PC,Nat.pow_succ,Nat.mul_two];exact Qd (iv (uP a) (SN (by decide) (RC ..))) (iv (uP b) (SN (by decide) (Rq ..)))noncomputable def iq(L:List Str)(x:Str):List Str:=if x∈L then L else L++[x]
theorem FX(L:List Str)(x:Str):(iq L x).length<=L.length+1:=by
 unfold iq;by_cases h:x∈L
 . rw[if_pos h];exact Sl _
 . rw[if_neg h,PC];exact Qb _
theorem FV(L:List Str)(x y:Str):y∈iq L x↔y∈L\/y=x:=by
 unfold iq;by_cases h:x∈L
 . rw[if_pos h];exact⟨.inl,λq=>q.elim id λe=>e▸h⟩
 . rw[if_neg h,PT,PN]def xi:Tm->List Str->List Str
 |.num _,L=>L
 |.name x,L=>iq L x
 |.op _ a b,L=>xi b (xi a L)theorem uS{a b:Nat}(h:max a b+1 < d+1):a < d/\b < d:=⟨P8 (RC _ _) (RX h),P8 (Rq _ _) (RX h)⟩theorem rM:∀(t:Tm) (L:List Str),(xi t L).length<=L.length+(cJ t).length
 |.num _=>@λL=>Qb _
 |.name x=>@λL=>FX L x
 |.op _ a b=>@λL=>by show _<=L.length+(cJ a++cJ b).length;rw[PC,<- Qq];exact iv (rM b (xi a L)) (PL (rM a L) _)
theorem vF(L:List Str)(x:Str):((L.map PyData.str).any λy=>y.eqv (.str x))=decide (x∈L):=by
 induction L with
 |nil=>rfl
 |cons y L ih=>
   rw[Qs,RM,ih,HX];by_cases h:y=x
   . rw[h,decide_eq_true rfl,decide_eq_true (PH ..)];rfl
   . rw[decide_eq_false h,SO];exact decide_eq_decide.mpr ⟨λq=>PG _ q,λq=>(PO.mp q).resolve_left (Ne.symm h)⟩theorem eR(L:List Str)(x:Str)(U:ac):bC .isIn (aA x) (al (L.map .str)) U=some (decide (x∈L)):=by rw[Oz,Ht,vF]variable {L:List Str}theorem Pq(h:U[n]?=some (.lst (L.map .str)))(x:Str):bC .notIn (aA x) (.loc n) U=some (!decide (x∈L)):=by rw[A0,KQ x h,vF];(rfl)theorem Ap(k:Nat):decide (yG k=cL)=false:=by rcases tF k with h|h|h<;>exact h▸rfl<;>decide
theorem wH(k:Nat):decide (yG k=bz)=false:=by rcases tF k with h|h|h<;>exact h▸rfl<;>decide
theorem FL(h:U[n]?=some (.lst l))(hl:l.length<=900000)(x:PyData):yb .append (.loc n) U [.d x] U=.ok (.d .none) (U.set n (.lst (l++[x]))):=by unfold yb;rw[wT h];exact LG h (P8 hl (by decide)) (x)variable {b:Bool}theorem nT(h:b=false):some (!b)=some true:=congrArg (λb=>some (!b)) (h)theorem nF(h:b=true):some (!b)=some false:=congrArg (λb=>some (!b)) (h)theorem bT(h:b=true):some b=some true:=congrArg some (h)theorem bF(h:b=false):some b=some false:=congrArg some h
theorem kR(n:Nat):∀(t:Tm) (d:Nat) (U:ac) (L:List Str),ht t < d->U[n]?=some (.lst (L.map .str))->L.length+(cJ t).length<=1000->aj prog d 0 [.d (a9 t),.loc n] U=.ok (.d .none) (U.set n (.lst ((xi t L).map .str)))
 |.num i,0=>@λ_ _ hd _ _=>by cases hd
 |.name i,0=>@λ_ _ hd _ _=>by cases hd
 |.op ..,0=>@λ_ _ hd _ _=>by cases hd
 |.num i,d+1=>@λU L hd hc hl=>by show _=Res.ok (V.d .none) (U.set n (.lst (L.map .str)));rw[wo hc];exact((ww prog 0 d [.d (a9 (.num i)),.loc n] U rfl 0)).trans (nB _ (same U))
 |.name x,d+1=>@λU L hd hc hl=>by
   have ck:=Pq hc x;refine(?_:_=Res.ok (V.d .none) (U.set n (.lst ((iq L x).map .str))));unfold iq;by_cases hx:x∈L
   . rw[if_pos hx,wo hc];rw[decide_eq_true hx]at ck;exact((ww prog 0 d [.d (a9 (.name x)),.loc n] U rfl 16 ck)).trans (nB _ (same U))
   . rw[if_neg hx,PR];rw[decide_eq_false hx]at ck;exact((ww prog 0 d [.d (a9 (.name x)),.loc n] U rfl 16 ck (FL hc (by rw[Pd];exact iv (Q1 hl) (by decide)) _))).trans (nB _ (Aa _ _))
 |.op k a b,d+1=>@λU L hd hc hl=>by have hl:L.length+(cJ a++cJ b).length<=1000:=hl;rw[PC,<- Qq]at hl;have h2:=kR n b d _ (xi a L) (uS hd).2 (Ab hc) (iv (PL (rM a L) _) hl);rw[List.set_set]at h2;exact((ww prog 0 d [.d (a9 (.op k a b)),.loc n] U rfl 36 (bF (wH k)) (nT (Ap k)) (kR n a d U L (uS hd).1 hc (iv (PW _ _) hl)) h2)).trans (nB _ (Aa _ _))def lP(ws:List Str)(t:Tm):Prop:=T1 ws 2 (t)variable {t:Tm}theorem uN(h:lP ws t):(cJ t).length<=4:=iv (uP t) (SN (by decide) h.2)theorem my(hd:deep<=2)(h:T1 ws deep t):lP ws t:=⟨h.1,iv h.2 hd⟩
structure St(Uc:List Str)(P:Str->Prop):Prop where
 nd:Uc.Nodup
 mem:∀x,x∈Uc↔P x
variable {Uc:List Str}theorem St.few{P:Str->Prop}(h:St Uc P)(w7:ws.length<=8)(hp:∀x,P x->x∈ws):Uc.length<=8:=iv (h.nd.length_le_of_subset λx hx=>hp x ((h.mem x).mp hx)) w7
theorem St.add{P:Str->Prop}(h:St Uc P)(y:Str):St (iq Uc y) λx=>P x\/x=y:=by
 refine⟨?_,λx=>by rw[FV,h.mem x]⟩;unfold iq;by_cases q:y∈Uc
 . rw[if_pos q];exact h.nd
 . rw[if_neg q];exact RH.mpr ⟨h.nd,Tj _ y,λa ha b hb e=>q (PN.mp hb▸e▸ha)⟩theorem St.nil:St [] λ_=>False:=⟨SI,λx=>⟨(λh=>by cases h),False.elim⟩⟩theorem St.of{P Q:Str->Prop}(h:St Uc P)(e:∀x,P x↔Q x):St Uc Q:=⟨h.nd,λx=>(h.mem x).trans (e x)⟩
theorem vh:∀(t:Tm) {L:List Str} {P:Str->Prop},St L P->St (xi t L) λx=>P x\/x∈cJ t
 |.num _,L,P,h=>h.of λx=>⟨.inl,λq=>q.elim id λq=>by cases q⟩
 |.name y,L,P,h=>(h.add y).of λx=>or_congr Iff.rfl PN.symm
 |.op _ a b,L,P,h=>(vh b (vh a h)).of λx=>by show _↔P x\/x∈cJ a++cJ b;rw[PT,or_assoc]theorem dQ(h:lP ws t)(d:Nat)(U:ac):∃L:List Str,St L (·∈cJ t)/\pc (d+4) 1 [.d (a9 t)] U (al (L.map .str)):=by have e:=kR U.length t (d+3) (U++[.lst []]) [] (P8 h.2 (jI d (by decide))) (aK _ _) (by rw[Q8,Rk];exact iv (uN h) (by decide));rw[fU]at e;exact⟨xi t [],(vh t St.nil).of λx=>⟨λq=>q.resolve_left id,.inr⟩,(aX prog 1 (d+3) [.d (a9 t)] U rfl 0 e (ly _ _) (cG _ _))⟩theorem kT{a b:List PyData}(h:a.length+b.length<=100000)(U:ac):dj .add false (al a) (al b) U=.ok (al (a++b)) U:=LC (iv h (by decide)) _ (_)theorem ie{a b:List PyData}(h:a.length+b.length<=100000)(U:ac):dj .add false (ah a) (ah b) U=.ok (ah (a++b)) U:=LB (iv h (by decide)) _ _
theorem mR:∀(t:Tm) (d:Nat) (U:ac),ht t < d->(cJ t).length<=1000->pc d 37 [.d (a9 t)] U (al ((cJ t).map .str))
 |.num i,0=>@λ_ hd _=>by cases hd
 |.name i,0=>@λ_ hd _=>by cases hd
 |.op ..,0=>@λ_ hd _=>by cases hd
 |.num i,d+1=>@λU hd hl=>(aX prog 37 d [.d (a9 (.num i))] U rfl 0 (same U))
 |.name x,d+1=>@λU hd hl=>(aX prog 37 d [.d (a9 (.name x))] U rfl 0 (same U))
 |.op k a b,d+1=>@λU hd hl=>by have hl:(cJ a++cJ b).length<=1000:=hl;rw[PC]at hl;rw[show cJ (.op k a b)=cJ a++cJ b from rfl,PR];exact(aX prog 37 d [.d (a9 (.op k a b))] U rfl 292 (bF (wH k)) (bF (Ap k)) (mR a d U (uS hd).1 (iv (PW _ _) hl)) (mR b d U (uS hd).2 (iv (P9 _ _) hl)) (kT (by rw[Pd,Pd];exact iv hl (by decide)) _) (same U))theorem lJ(h:lP ws t)(d:Nat)(U:ac):pc (d+3) 37 [.d (a9 t)] U (al ((cJ t).map .str)):=mR t (d+3) U (P8 h.2 (jI d (by decide))) (iv (uN h) (by decide))
mutual
inductive Rw where
 |set (x:Str) (t:Tm)
 |tell (t:Tm)
 |call (o:Option Str) (f:Str) (ts:List Tm)
 |whn (t:Tm) (b:RL)
 |aga (n:Int) (b:RL)
inductive RL where
 |nil
 |cons (r:Rw) (b:RL)
end
noncomputable def Rw.ctorIdx(t:Rw):Nat:=by cases (t);exact 0;exact 1;exact 2;exact 3;exact 4
noncomputable def RL.ctorIdx(t:RL):Nat:=by cases (t);exact 0;exact 1
noncomputable def fX:Option Str->PyData
 |none=>.none
 |some x=>.str x
mutual
def aI:Rw->PyData
 |.set x t=>.tuple [.str iu,.str x,a9 t]
 |.tell t=>.tuple [.str mu,a9 t]
 |.call o f ts=>.tuple [.str bA,fX o,.str f,.tuple (ts.map a9)]
 |.whn t b=>.tuple [.str jE,a9 t,.tuple (am b)]
 |.aga n b=>.tuple [.str dq,.int n,.tuple (am b)]def am:RL->List PyData
 |.nil=>[]
 |.cons r b=>aI r::am b
end
mutual
def hR:Rw->Nat
 |.whn _ b=>hL b+1
 |.aga _ b=>hL b+1
 |_=>0
def hL:RL->Nat
 |.nil=>0
 |.cons r b=>max (hR r) (hL b)
end
mutual
def nR:Rw->Nat
 |.whn _ b=>nL b+1
 |.aga _ b=>nL b+1
 |_=>1
def nL:RL->Nat
 |.nil=>0
 |.cons r b=>nR r+nL b
end
mutual
def ma(ws:List Str)(cs:SC):Rw->Prop
 |.set x t=>x∈ws/\lP ws t
 |.tell t=>lP ws t
 |.call o f ts=>(∀x,o=some x->x∈ws)/\(∀t∈ts,lP ws t)/\ts.length<=7/\(f,ts.length)∈cs
 |.whn t b=>lP ws t/\fH ws cs b
 |.aga _ b=>fH ws cs (b)def fH(ws:List Str)(cs:SC):RL->Prop
 |.nil=>True
 |.cons r b=>ma ws cs r/\fH ws cs b
end
noncomputable def jH:List Rw->RL
 |[]=>.nil
 |r::l=>.cons r (jH l)theorem jA:∀l:List Rw,am (jH l)=l.map aI
 |[]=>rfl
 |r::l=>congrArg (aI r::·) (jA l)variable {cs:SC}theorem mz:∀l:List Rw,(∀r∈l,ma ws cs r)->fH ws cs (jH l)
 |[]=>@λ_=>trivial
 |r::l=>@λh=>⟨h r (PH ..),mz l λx hx=>h x (PG _ hx)⟩theorem rK:∀l:List Rw,(∀r∈l,hR r<=n)->hL (jH l)<=n
 |[]=>@λ_=>PU _
 |r::l=>@λh=>QE.mpr ⟨h r (PH ..),rK l λx hx=>h x (PG _ hx)⟩theorem IZ:∀l:List Rw,(∀r∈l,nR r<=n)->nL (jH l)<=l.length * n
 |[]=>@λ_=>PU _
 |r::l=>@λh=>by show nR r+nL (jH l)<=(l.length+1) * n;rw[S6,Qw];exact Qd (IZ l λx hx=>h x (PG _ hx)) (h r (PH ..))
structure Fd where
 nm:Str
 ps:List Str
 rs:RL
 t:Tm
def ao(f:Fd):PyData:=.tuple [.str f.nm,.tuple (f.ps.map .str),.tuple (am f.rs),a9 f.t]noncomputable def f8(f:Fd):Str×Nat:=(f.nm,f.ps.length)def Kg(ws:List Str)(cs:SC)(f:Fd):Prop:=(∀x∈f.ps,x∈ws)/\f.ps.length<=7/\f8 f∈cs
structure okF(ws:List Str)(cs:SC)(f:Fd):Prop where
 ps:∀x∈f.ps,x∈ws
 p4:f.ps.length<=7
 rs:fH ws cs f.rs
 h9:hL f.rs<=18
 n4:nL f.rs<=820
 t:lP ws f.t
theorem gp(m:Bool)(x:List PyData){l h:Option Int}(hl:cO lo=some l)(hh:cO hi=some h)(U:ac):gq m (ah x) lo hi U=.ok (ah (aC x l h)) U:=by unfold gq;rw[hl,hh];(rfl)theorem tn{Y:Type}(f:B->Y)(l:List B)(lo hi:Option Int):aC (l.map f) lo hi=(aC l lo hi).map f:=by unfold aC;rw[Pd,Q9,Rg]theorem BB{l:List B}{lo hi:Option Int}{x:B}(h:x∈aC l lo hi):x∈l:=QH (Qa h)theorem nK(l:List PyData)(U:ac):bC .eq (al l) (al []) U=some l.isEmpty:=by show Nq (.list l) (.list [])=_;rw[nM (iv (RO _ _) (by decide))];cases l<;>rfl
theorem KT(h0:0<=i)(h:i < l.length)(U:ac):∃x,x∈l/\cK (al l) (ak i) U=some (.d x):=by have:i.toNat < l.length:=(Sp h0).mpr h;exact⟨l[i.toNat],Rp _,by rw[jn _ h0,PD this];rfl⟩
theorem ls(φ:B->PyData){l:List B}(h:0 < l.length)(x:Int):0 < (((l.map φ).length:Nat):Int)/\∃a,a∈l/\∀U,cK (al (l.map φ)) (ak (x % ((l.map φ).length:Int))) U=some (.d (φ a)):=by
 have hl:0 < (((l.map φ).length:Nat):Int):=by rw[Pd];exact Qr.mpr h
 have b:=cQ x hl;have:(x % ((l.map φ).length:Int)).toNat < l.length:=Nat.lt_of_lt_of_eq ((Sp b.1).mpr b.2) (Pd φ);exact⟨hl,l[(x % ((l.map φ).length:Int)).toNat],Rp _,λU=>by rw[jn _ b.1,Qe,PD this];rfl⟩
theorem GA(a0:B){p:Nat->Prop}{Q:Nat->B->Prop}(h:∀k,p k->∃r,Q k r):∃g:Nat->B,∀k,p k->Q k (g k):=by
 classical exact⟨λk=>if hk:p k then Classical.choose (h k hk) else a0,λk hk=>by refine(?_:Q k (if hk:p k then Classical.choose (h k hk) else a0));rw[dif_pos hk];exact Classical.choose_spec (h k hk)⟩
theorem zA(hw:0 < ws.length)(hx:x∈ws)(c:Int)(d:Nat)(U:ac):∃t,lP ws t/\pc (d+4) 29 [ak c,al (ws.map .str),aA x] U (.d (a9 t)):=by
 by_cases h:c % 2=0
 . exact⟨.name x,oi _ hx,(aX prog 29 (d+3) [ak c,al (ws.map .str),aA x] U rfl 4 (dT h) (same U))⟩
 . obtain⟨t,h1,h2⟩:=ed ws hw 1 (d+3) (c / 2) U (jI d (by decide));exact⟨t,my (by decide) h1,(aX prog 29 (d+3) [ak c,al (ws.map .str),aA x] U rfl 4 (dF h) h2 (same U))⟩variable {fs:List Fd}
theorem Cp(hw:0 < ws.length)(hf:0 < fs.length)(hok:∀f∈fs,Kg ws cs f)(c:Int)(d:Nat)(U:ac):∃r,(ma ws cs r/\hR r=0/\nR r=1)/\pc (d+6) 30 [ak c,al (ws.map .str),al (fs.map ao)] U (.d (aI r)):=by
 refine kk λUc k=>?_;obtain⟨hfl,f,hf1,ih⟩:=ls ao hf (c / 7);have ih:=ih U;have of:=hok f hf1;obtain⟨hwl,w,hwm,iw⟩:=j8 hw (c / 49) U;have hsk:∀k:Nat,k < f.ps.length->∃t,lP ws t/\pc (d+5) 29 [ak (j5 c (10+k)),al (ws.map .str),aA ((f.ps[k]?).getD bz)] (U++[.busy]) (.d (a9 t)):=λk hk=>zA hw (of.1 _ (by rw[PD hk];exact Rp _)) _ (d+1) _
 obtain⟨g,hg⟩:=GA (.num 0) hsk;have hlen:(f.ps.map PyData.str).length=f.ps.length:=Pd _;have comp:=vY (G:=prog.1) (i:=6) (eb:=.bi .len false (.cons (.idx (.var 3) (.int 1)) (.nil))) (e:=.call 29 (.cons (.call 26 (.cons (.var 0) (.cons (.bin .add false (.int 10) (.var 6)) (.nil)))) (.cons (.var 1) (.cons (.idx (.idx (.var 3) (.int 1)) (.var 6)) (.nil)))))
   (K:=(F7 (ak c) (al (ws.map .str)) (al (fs.map ao)) (.d (ao f)) .un .un .un)) (λk=>a9 (g k)) rfl ⟨Qi _,by rw[hlen];exact QX.mpr (iv of.2.1 (by decide))⟩ (λk hk=>by rw[hlen,Qu]at hk;exact aM (d0 (aM rfl (d4 (d+4) c (10+k) _)) (d0 rfl (iB (bZ rfl rfl (by rw[df,Qe,PD hk];rfl))))) (by have:=(hg k hk).2;rw[PD hk]at this;exact this))
 rw[hlen,Qu]at comp;have okts:(∀t∈(List.range f.ps.length).map g,lP ws t)/\((List.range f.ps.length).map g).length=f.ps.length:=by refine⟨λt ht=>?_,by rw[Pd,Rc]⟩;obtain⟨k,hk,rfl⟩:=Qk.mp ht;exact(hg k (Rf.mp hk)).1
 have e:(List.range f.ps.length).map (λk=>a9 (g k))=((List.range f.ps.length).map g).map a9:=by rw[Qx];rfl
 rw[e]at comp;refine k ?_;generalize (List.range f.ps.length).map g=ts at comp okts;have okc:∀o:Option Str,(∀x,o=some x->x∈ws)->ma ws cs (.call o f.nm ts):=λo ho=>⟨ho,okts.1,okts.2▸of.2.1,okts.2.symm▸of.2.2⟩;by_cases h3:c % 3=0
 . exact⟨.call none f.nm ts,⟨okc none (λx hx=>by injection hx),rfl,rfl⟩,(aX prog 30 (d+5) [ak c,al (ws.map .str),al (fs.map ao)] U rfl 76 (ee _ _ hfl) ih comp (dT h3) (same U))⟩
 . exact⟨.call (some w) f.nm ts,⟨okc (some w) (λx hx=>by injection hx with e;subst e;exact hwm),rfl,rfl⟩,(aX prog 30 (d+5) [ak c,al (ws.map .str),al (fs.map ao)] U rfl 1612 (ee _ _ hfl) ih comp (dF h3) (ee _ _ hwl) iw (same U))⟩noncomputable def KK:Nat->Nat
 |0=>1
 |n+1=>1+3 * KK (n)theorem LK:∀n,1<=KK n
 |0=>Qb _
 |n+1=>PW ..
def Jp(ws:List Str)(deep:Nat):Prop:=∀(cs:SC) (fs:List Fd) (c:Int) (d:Nat) (U:ac),(∀f∈fs,Kg ws cs f)->2 * deep+8<=d->∃r,(ma ws cs r/\hR r<=deep/\nR r<=KK deep)/\
 pc d 31 [.d (.int c),.d (.list (ws.map .str)),.d (.list (fs.map ao)),.d (.int (deep:Int))] U (.d (aI r))
def zO(ws:List Str)(deep:Nat):Prop:=∀(cs:SC) (fs:List Fd) (c many:Int) (d:Nat) (U:ac),(∀f∈fs,Kg ws cs f)->0<=many/\many<=30->2 * deep+9<=d->∃rs,(fH ws cs rs/\hL rs<=deep/\nL rs<=many.toNat * KK deep)/\
 aj prog d 32 (F5 (.d (.int c)) (.d (.list (ws.map .str))) (.d (.list (fs.map ao))) (.d (.int (deep:Int))) (.d (.int many))) U=.ok (.d (.tuple (am rs))) U
theorem GX(h:(n:Int) > 0):∃e,n=e+1:=o1 (Qr.mp h)variable {x:Int}theorem Lg(h:0<=x/\x < 3):0<=1+x/\1+x<=30:=⟨Ry (by decide) h.1,QN (SW (R5 h.2) 1) (by decide)⟩theorem Aq(h:0<=x/\x < 2):∃n:Nat,1+x=(n:Int)/\n<=2:=⟨(1+x).toNat,(Re (Ry (by decide) h.1)).symm,Ri.mpr (by rw[S5];exact h.2)⟩
theorem oY(H:Jp ws deep):zO ws deep:=by
 intro cs fs c many d U hok hm hd;obtain⟨d,rfl⟩:∃e,d=e+2:=o1 (iv (P9 2 (2 * deep+7)) hd);have hsk:∀k:Nat,True->∃r,(ma ws cs r/\hR r<=deep/\nR r<=KK deep)/\pc (d+1) 31 [ak (j5 c (20+k)),al (ws.map .str),al (fs.map ao),ak (deep:Int)] (U++[.busy]) (.d (aI r)):=λk _=>H cs fs _ (d+1) _ hok (RF hd)
 obtain⟨g,hg⟩:=GA (.tell (.num 0)) hsk;refine⟨jH ((List.range many.toNat).map g),⟨mz _ λr hr=>?_,rK _ λr hr=>?_,?_⟩,?_⟩
 . obtain⟨k,_,rfl⟩:=Qk.mp hr;exact(hg k trivial).1.1
 . obtain⟨k,_,rfl⟩:=Qk.mp hr;exact(hg k trivial).1.2.1
 . have:=IZ ((List.range many.toNat).map g) λr hr=>by obtain⟨k,_,rfl⟩:=Qk.mp hr;exact(hg k trivial).1.2.2
   simpa using this
 . rw[jA,Qx];exact(aX prog 32 (d+1) (F5 (ak c) (al (ws.map .str)) (al (fs.map ao)) (ak (deep:Int)) (ak many)) U rfl 0 (vY (λk=>aI (g k)) rfl ⟨hm.1,QN hm.2 (by decide)⟩ λk hk=>aM (d0 (aM rfl (d4 d c (20+k) _)) rfl) (hg k trivial).2) (same U))variable {e:Nat}{rs:RL}theorem qG{c:Int}(hm:0<=c / 9 % 3/\c / 9 % 3 < 3)(h:nL rs<=(1+c / 9 % 3).toNat * KK e):nL rs+1<=1+3 * KK e:=by rw[Qw];exact Qh (iv h (Rs (KK e) (Ri.mpr (by rw[S5];exact hm.2)))) 1
theorem ny(l:List Int)(h0:0<=i)(h:i < l.length)(U:ac):∃n,n∈l/\cK (al (l.map .int)) (ak i) U=some (ak n):=by refine kk λUc k=>?_;obtain⟨x,hx,e⟩:=KT (l:=l.map .int) h0 (by simpa using h) U;obtain⟨n,hn,rfl⟩:=Qk.mp hx;refine k ?_;exact⟨n,hn,e⟩theorem iA(l:List PyData)(U:ac):bC .ne (al l) (al []) U=some (!l.isEmpty):=by show (bC .eq (al l) (al []) U).map _=_;rw[nK];rfl
set_option maxHeartbeats 999999 in
theorem DI(hw:0 < ws.length)(H:∀e,deep=e+1->zO ws e):Jp ws deep:=by
 intro cs fs c d U hok hd;obtain⟨d,rfl⟩:∃e,d=e+7:=o1 (iv (P9 7 (2 * deep+1)) hd);refine kk λUc kz=>?_;obtain⟨hwl,w,hwm,iw⟩:=j8 hw (c / 9) U;obtain⟨few,fok,few'⟩:∃few:List Fd,(∀f∈few,Kg ws cs f)/\gq false (al (fs.map ao)) none (some (ak (1+if decide (c / 3645 % 8=1) then 1 else 0))) U=.ok (al (few.map ao)) U:=
   ⟨aC fs none (some (1+if decide (c / 3645 % 8=1) then 1 else 0)),λf hf=>hok f (BB hf),congrArg (λl=>Res.ok (al l) U) (tn ..)⟩
 have kp:=LK deep;have hm:=cQ (c / 9) (show (0:Int) < 3 by decide);have R:=λ(D:Int)=>aX prog 31 (d+6) [ak c,al (ws.map .str),al (fs.map ao),ak D] U rfl;have m3:=d4 (d+5) c 3 U;have bm:=ee (x:=c / 9) U false hwl;by_cases h1:c % 9=2
 . obtain⟨t,ht,et⟩:=ed ws hw 2 (d+6) (j5 c 3) U (jI d (by decide));exact kz ⟨.tell t,⟨my (by decide) ht,PU _,kp⟩,(R deep 25624 m3 bm iw few' (dT h1) (dT h1) et (same U))⟩
 by_cases h1':c % 9=8
 . obtain⟨t,ht,et⟩:=ed ws hw 2 (d+6) (j5 c 3) U (jI d (by decide));exact kz ⟨.tell t,⟨my (by decide) ht,PU _,kp⟩,(R deep 42008 m3 bm iw few' (dF h1) (dT h1') et (same U))⟩
 have k2:=λ(D:Int)=>lV (G:=prog.1) (cf:=aj prog (d+6)) (e:=.cmp .lt (.int 2) (.var 4)) (e':=.cmp .lt (.var 4) (.int 6)) (es:=.cons (.cmp .ne (.var 2) (.list false (.nil))) (.nil)) (K:=(IC (ak c) (al (ws.map .str)) (al (fs.map ao)) (ak D) (ak (c % 9)) (ak (j5 c 3)) (aA w) (al (few.map ao)) .un .un)) (cq rfl rfl rfl) λ_=>lV (cq rfl rfl rfl) λ_=>cN (cq rfl rfl (iA _ U));cases h2:(decide (2 < c % 9)&&(decide (c % 9 < 6)&&!(fs.map ao).isEmpty)) with
 |true=>
   have hf:0 < fs.length:=by
     clear kz hok few' k2 R;cases fs with
     |nil=>rw[RG,List.isEmpty_nil,Sy,Tb,Tb]at h2;injection h2
     |cons _ _=>exact Rx _
   obtain⟨r,⟨h5,h6,h7⟩,er⟩:=Cp hw hf hok (j5 c 3) d U;exact kz ⟨r,⟨h5,h6▸PU _,h7▸kp⟩,(R deep 238616 m3 bm iw few' (dF h1) (dF h1') (k2 deep) (bT h2) er (same U))⟩
 |false=>
   by_cases hD:(deep:Int) > 0
   . obtain⟨e,rfl⟩:∃e,deep=e+1:=GX hD;obtain⟨rs,⟨a1,a2,a3⟩,ers⟩:=H e rfl cs few (j5 c 3) (1+c / 9 % 3) (d+6) U fok (Lg hm) (RF hd);replace ers:=(lH e)▸ers;generalize ((e+1:Nat):Int)=D at *;by_cases h3:c % 9=6
     . obtain⟨t,ht,et⟩:=ed ws hw 1 (d+6) (j5 c 4) U (jI d (by decide));exact kz ⟨.whn t rs,⟨⟨my (by decide) ht,a1⟩,PP a2,qG hm a3⟩,(R D 5481496 m3 bm iw few' (dF h1) (dF h1') (k2 D) (bF h2) (dT h3) (dT hD) ers (d4 (d+5) c 4 U) et (same U))⟩
     by_cases h4:c % 9=7
     . have b4:=cQ (c / 27) p4;have b5:=cQ (c / 27) (show (0:Int) < 5 by decide);obtain⟨n4,m4,i4⟩:=ny [2,1,2,0] b4.1 b4.2 U;obtain⟨n5,m5,i5⟩:=ny [2,3,1,c / 135 % 10,0] b5.1 b5.2 U;have k5:=lV (G:=prog.1) (cf:=aj prog (d+6)) (e:=.cmp .eq (.var 2) (.list false (.nil))) (e':=.cmp .eq (.var 3) (.int 2)) (K:=(IC (ak c) (al (ws.map .str)) (al (fs.map ao)) (ak D) (ak (c % 9)) (ak (j5 c 3)) (aA w) (al (few.map ao)) .un (ak n4))) (cq rfl rfl (nK _ U)) λ_=>cN (cq rfl rfl rfl);cases h5:((fs.map ao).isEmpty&&decide (D=2)) with
       |true=>exact kz ⟨.aga n5 rs,⟨a1,PP a2,qG hm a3⟩,(R D 72564843544 m3 bm iw few' (dF h1) (dF h1') (k2 D) (bF h2) (dF h3) (dF h3) (dT h4) (dT hD) i4 k5 (bT h5) i5 ers (same U))⟩
       |false=>exact kz ⟨.aga n4 rs,⟨a1,PP a2,qG hm a3⟩,(R D 3845366808 m3 bm iw few' (dF h1) (dF h1') (k2 D) (bF h2) (dF h3) (dF h3) (dT h4) (dT hD) i4 k5 (bF h5) ers (same U))⟩
     obtain⟨n,hn,hn2⟩:∃n:Nat,1+c % 9 % 2=(n:Int)/\n<=2:=Aq (cQ (c % 9) (by decide));obtain⟨t,ht,et⟩:=ed ws hw n (d+6) (j5 c 3) U (P8 (PP hn2) (jI d (by decide)));replace et:=hn▸et;exact kz ⟨.set w t,⟨⟨hwm,my hn2 ht⟩,PU _,kp⟩,(R D 53715992 m3 bm iw few' (dF h1) (dF h1') (k2 D) (bF h2) (dF h3) (dF h3) (dF h4) (dF h4) et (same U))⟩
   . obtain⟨n,hn,hn2⟩:∃n:Nat,1+c % 9 % 2=(n:Int)/\n<=2:=Aq (cQ (c % 9) (by decide));obtain⟨t,ht,et⟩:=ed ws hw n (d+6) (j5 c 3) U (P8 (PP hn2) (jI d (by decide)));rw[<- hn]at et;refine kz ⟨.set w t,⟨⟨hwm,my hn2 ht⟩,PU _,kp⟩,?_⟩;by_cases h3:c % 9=6
     . have h4:¬ c % 9=7:=λq=>by rw[h3]at q;injection q with e;injection e with e;injection e with e;injection e with e;injection e with e;injection e with e;injection e with e;injection e
       exact(R deep 106144792 m3 bm iw few' (dF h1) (dF h1') (k2 deep) (bF h2) (dT h3) (dF hD) (dF h4) (dF h4) et (same U))
     by_cases h4:c % 9=7
     . exact(R deep 87270424 m3 bm iw few' (dF h1) (dF h1') (k2 deep) (bF h2) (dF h3) (dF h3) (dT h4) (dF hD) et (same U))
     exact(R deep 53715992 m3 bm iw few' (dF h1) (dF h1') (k2 deep) (bF h2) (dF h3) (dF h3) (dF h4) (dF h4) et (same U))
theorem Ag(hw:0 < ws.length):∀deep,zO ws deep
 |0=>oY (DI hw λe h=>by injection h)
 |n+1=>oY (DI hw λe h=>by injection h with e;subst e;exact Ag hw n)def LS(ws:List Str)(cs:SC)(f:Fd):Prop:=okF ws cs f/\hL f.rs<=2/\nL f.rs<=390
theorem sU(hw:0 < ws.length)(hok:∀f∈fs,Kg ws cs f)(c:Int)(nm:Str)(d:Nat)(U:ac):∃f,(LS ws cs f/\f.nm=nm)/\
   pc (d+16) 34 [ak c,aA nm,al (ws.map .str),al (fs.map ao)] U (.d (ao f)):=by
 have b6:=cQ c (show (0:Int) < 6 by decide);have b6':=cQ (c / 30) (show (0:Int) < 6 by decide);refine kk λUc kz=>?_;obtain⟨n0,hn0,i0⟩:=ny [0,1,2,2,3,4] b6.1 b6.2 U;obtain⟨n6,hn6,i6⟩:=ny [3,4,2,5,0,6] b6'.1 b6'.2 U;have b0:0<=n0/\n0<=7:=(by decide:∀x∈([0,1,2,2,3,4]:List Int),0<=x/\x<=7) n0 hn0;have b6:0<=n6/\n6<=6:=(by decide:∀x∈([3,4,2,5,0,6]:List Int),0<=x/\x<=6) n6 hn6;have hwl:=(j8 hw 0 U).1;obtain⟨g,hg⟩:=GA bz (λk _=>(j8 hw _ _).2);obtain⟨t,ht,et⟩:=ed ws hw 1 (d+15) (j5 c 6) U (jI d (by decide));refine kz ?_;have okp:((List.range n0.toNat).map g).length<=7:=by rw[Pd,Rc];exact Ri.mpr b0.2
 have okw:∀x∈(List.range n0.toNat).map g,x∈ws:=λx hx=>by obtain⟨k,_,rfl⟩:=Qk.mp hx;exact(hg k trivial).1
 have cm:af prog.1 (aj prog (d+15)) (.comp false (.var 8) (.range (.idx (.list false (.cons (.int 0) (.cons (.int 1) (.cons (.int 2) (.cons (.int 2) (.cons (.int 3) (.cons (.int 4) (.nil)))))))) (.bin .mod false (.var 0) (.int 6)))) .nil (.idx (.var 2) (.bin .mod false (.bin .add false (.var 4) (.bin .mul false (.int 2) (.var 8))) (.bi .len false (.cons (.var 2) (.nil)))))) (F9 (ak c) (aA nm) (al (ws.map .str)) (al (fs.map ao)) (ak (c / 6 % ((ws.map PyData.str).length:Int))) .un .un .un .un) U=.ok (al (((List.range n0.toNat).map g).map .str)) U:=by rw[<- uT];exact vY (λk=>.str (g k)) (bZ rfl rfl i0) ⟨b0.1,QN b0.2 (by decide)⟩ λk hk=>bZ rfl (jX rfl rfl (ee _ _ hwl)) (hg k trivial).2
 generalize (List.range n0.toNat).map g=ps at cm okp okw;have R:=aX prog 34 (d+15) [ak c,aA nm,al (ws.map .str),al (fs.map ao)] U rfl;have fin:∀(M:Int) (hs:List Fd) (deep:Nat),0<=M/\M<=30->(∀f∈hs,Kg ws cs f)->deep<=2->∃rs,aj prog (d+15) 32 (F5 (ak (j5 c 5)) (al (ws.map .str)) (al (hs.map ao)) (ak deep) (ak M)) U=.ok (ah (am rs)) U/\LS ws cs ⟨nm,ps,rs,t⟩:=λM hs deep bM hok' hd2=>by obtain⟨rs,hrs,ers⟩:=Ag hw deep cs hs (j5 c 5) M (d+15) U hok' bM (iv (PL (Q6 2 hd2) 9) (iv (by decide) (P9 15 d)));have hn:nL rs<=390:=iv hrs.2.2 (TP (Ri.mpr bM.2) ((by decide:∀n,n < 3->KK n<=13) deep (SH hd2)));exact⟨rs,ers,⟨okw,okp,hrs.1,iv hrs.2.1 (iv hd2 (by decide)),iv hn (by decide),my (by decide) ht⟩,iv hrs.2.1 hd2,hn⟩
 have bl:=ee (x:=c / 6) U false hwl;have m5:=d4 (d+14) c 5 U;have m6:=d4 (d+14) c 6 U;have one:∀b:Bool,some (b:Bool)=some b:=λ_=>rfl;by_cases h1:c / 180 % 12=1
 . have bM:=cQ (c / 2160) (show (0:Int) < 30 by decide);by_cases h2:c / 2160 % 30 > 6
   . obtain⟨rs,e,ok⟩:=fin (c / 2160 % 30) [] 1 ⟨bM.1,R5 bM.2⟩ (λf hf=>by cases hf) (by decide);exact⟨_,⟨ok,rfl⟩,(R 83012 bl cm i6 (dT h1) (dT h2) m5 ((show xV .int false [.d (.bool (decide (c / 2160 % 30 > 6)))] U=.ok (ak 1) U by rw[decide_eq_true h2];rfl)) e m6 et (same U))⟩
   . obtain⟨rs,e,ok⟩:=fin (c / 2160 % 30) fs 2 ⟨bM.1,R5 bM.2⟩ hok (by decide);exact⟨_,⟨ok,rfl⟩,(R 83012 bl cm i6 (dT h1) (dF h2) m5 ((show xV .int false [.d (.bool (decide (c / 2160 % 30 > 6)))] U=.ok (ak 0) U by rw[decide_eq_false h2];rfl)) e m6 et (same U))⟩
 . have h2:¬ n6 > 6:=RI.mpr b6.2;obtain⟨rs,e,ok⟩:=fin n6 fs 2 ⟨b6.1,QN b6.2 (by decide)⟩ hok (by decide);exact⟨_,⟨ok,rfl⟩,(R 21572 bl cm i6 (dF h1) (dF h2) m5 ((show xV .int false [.d (.bool (decide (n6 > 6)))] U=.ok (ak 0) U by rw[decide_eq_false h2];rfl)) e m6 et (same U))⟩
theorem r8(l:List Int)(a:Nat):∃ws:List Str,(5<=ws.length/\ws.length<=7)/\∀(d:Nat) (U:ac),pc (d+3) 35 [al (l.map .int),ak (a:Int)] U (al (ws.map .str)):=by
 generalize hM:(5+2 * (if decide (bG l (a+2) / 512 % 8=1) then 1 else 0):Int)=M;have bM:5<=M/\M<=7:=by rw[<- hM];cases decide (bG l (a+2) / 512 % 8=1)<;>decide
 obtain⟨ws,h1,_,h3⟩:=mQ (bG l a) M ⟨QN (by decide) bM.1,QN bM.2 (by decide)⟩ 0 [];refine⟨ws,⟨h1▸Int.toNat_le_toNat bM.1,h1▸Int.toNat_le_toNat bM.2⟩,λd U=>?_⟩;have h3:=h3 (d+1) U;rw[<- hM]at h3;exact(aX prog 35 (d+2) [al (l.map .int),ak (a:Int)] U rfl 0 (bY (d+1) l a U) (lG (d+1) l U (a+2) _ rfl) h3 (same U))theorem Kq(n:Nat):(-1:Int)+((n+1:Nat):Int)=(n:Int):=by rw[S5];exact lH n
theorem xc(a:List PyData)(x:PyData)(U:ac):cK (ah (a++[x])) (ak (-1)) U=some (.d x):=by
 rw[AI];have e:(-1:Int)+((a++[x]).length:Int)=(a.length:Int):=by rw[PC,QS];exact Kq _
 have:index (a++[x]).length (-1)=some a.length:=by unfold index;rw[if_neg (by decide),e,if_pos (Qi _)];rfl
 rw[this];show ((a++[x])[a.length]?).map V.d=_;rw[PY (Qb _),S7];rfl
theorem qD(a:List B)(x:B):aC (a++[x]) none (some (-1))=a:=by
 have e:(-1:Int)+((a++[x]).length:Int)=(a.length:Int):=by rw[PC,QS];exact Kq _
 have h:jq (a++[x]).length (-1)=a.length:=by unfold jq;rw[if_pos (by decide),e,SU (QX.mpr (by rw[PC];exact PW ..)),Sj (Qi _)];rfl
 refine(?_:((a++[x]).drop 0).take (jq (a++[x]).length (-1) - 0)=a);rw[h];exact TG (rfl)theorem HZ(l:List PyData)(U:ac):bC .eq (ah l) (ah []) U=some l.isEmpty:=by show Nq (.tuple l) (.tuple [])=_;rw[nM (iv (RO _ _) (by decide))];cases l<;>rfl
noncomputable def yg:List Nat->RL->RL
 |[],b=>b
 |k::ks,b=>yg ks (.cons (.whn (.num (1+(k:Int))) b) .nil)
theorem Bn(cf:Nat->List V->ac->Res V)(v0 v1 v2 v3 v5:V)(U:ac):∀(ks:List Nat) (b:RL) (v:V),∃v',ba (aL prog.1 cf (.var 6) kG) (ks.map λ(k:Nat)=>PyData.int (k:Int)) (F7 v0 v1 v2 v3 (ah (am b)) v5 v) U=.ok (.next (F7 v0 v1 v2 v3 (ah (am (yg ks b))) v5 v')) U:=by
 intro xs_
 induction xs_ with
 |nil=>intro b v;exact⟨v,rfl⟩
 |cons k ks ih_=>intro b v;obtain⟨v',ih⟩:=ih_ (.cons (.whn (.num (1+(k:Int))) b) .nil) (ak (k:Int));exact⟨v',a6 (aP rfl) ih⟩
theorem Gh:∀(ks:List Nat) (b:RL),fH ws cs b->fH ws cs (yg ks b)/\hL (yg ks b)=hL b+ks.length/\nL (yg ks b)=nL b+ks.length:=by
 intro xs_
 induction xs_ with
 |nil=>intro b h;exact⟨h,rfl,rfl⟩
 |cons k ks ih_=>
   intro b h;obtain⟨h1,h2,h3⟩:=ih_ (.cons (.whn (.num (1+(k:Int))) b) .nil) ⟨⟨oR ..,h⟩,trivial⟩;have e2:hL (.cons (.whn (.num (1+(k:Int))) b) .nil)=hL b+1:=Nat.max_eq_left (PU _);refine⟨h1,?_,?_⟩
   . show hL (yg ks _)=_;rw[h2,e2,PZ,Qq,Qw 1]
   . show nL (yg ks _)=_;rw[h3,PZ,Qw ks.length,<- Qq];(rfl)variable {f:Fd}
theorem xM(hf:LS ws cs f)(hl:fs.length<=100)(c:Int)(d:Nat)(U:ac):∃f',(okF ws cs f'/\f8 f'=f8 f/\hL f'.rs<=9/\nL f'.rs<=400)/\pc (d+1) 33 [ah ((fs++[f]).map ao),ak c] U (ah ((fs++[f']).map ao)):=by
 have em:∀g,(fs++[g]).map ao=fs.map ao++[ao g]:=λg=>by rw[PR];rfl
 have il:=xc (fs.map ao) (ao f) U;rw[em];have R:=aX prog 33 d [ah (fs.map ao++[ao f]),ak c] U rfl;by_cases h1:c % 2=0
 . exact⟨f,⟨hf.1,rfl,iv hf.2.1 (by decide),iv hf.2.2 (by decide)⟩,by rw[em];exact(R 24 (dT h1) (dT h1) (same U))⟩
 have en:=HZ (am f.rs) U;cases h2:(am f.rs).isEmpty with
 |true=>replace en:=h2▸en;exact⟨f,⟨hf.1,rfl,iv hf.2.1 (by decide),iv hf.2.2 (by decide)⟩,by rw[em];exact(R 88 (dF h1) il en (same U))⟩
 |false=>
   replace en:=h2▸en;have hlen:∀x:PyData,(fs.map ao).length+List.length [x]<=100000:=λx=>by rw[Pd,QS];exact iv (PP hl) (by decide)
   have sl:gq false (ah (fs.map ao++[ao f])) none (some (ak (-1))) U=.ok (ah (fs.map ao)) U:=by rw[gp _ _ gw (fu _),qD]
   have hfin:∀b:RL,hL b<=8->hL (.cons (.aga (2+c / 2 % 2) b) .nil)<=9:=λb w2=>QE.mpr ⟨PP w2,PU _⟩;have fin:∀b:RL,fH ws cs b->hL b<=8->nL b<=396->okF ws cs ⟨f.nm,f.ps,.cons (.aga (2+c / 2 % 2) b) .nil,f.t⟩:=λb w1 w2 w3=>⟨hf.1.ps,hf.1.p4,⟨w1,trivial⟩,iv (hfin b w2) (by decide),iv (PP w3) (by decide),hf.1.t⟩
   by_cases h4:c / 4 % 4=1
   . refine(Bn (aj prog d) (ah (fs.map ao++[ao f])) (ak c) (aA f.nm) (ah (f.ps.map .str)) (.d (a9 f.t)) U (List.range 6) f.rs .un).elim λv' lp=>?_;obtain⟨w1,w2,w3⟩:=Gh (List.range 6) f.rs hf.1.rs;rw[Rc]at w2 w3;refine⟨_,⟨fin _ w1 (w2▸PL hf.2.1 6) (w3▸PL hf.2.2 6),rfl,hfin _ (w2▸PL hf.2.1 6),iv (PP (w3▸PL hf.2.2 6)) (by decide)⟩,?_⟩;rw[em];exact(R 143704 (dF h1) il en il (dT h4) (a7 (iC rfl (by decide)) lp) sl (ie (hlen _) _) (same U))
   . refine⟨_,⟨fin f.rs hf.1.rs (iv hf.2.1 (by decide)) (iv hf.2.2 (by decide)),rfl,hfin f.rs (iv hf.2.1 (by decide)),iv (PP hf.2.2) (by decide)⟩,?_⟩;rw[em];exact(R 143704 (dF h1) il en il (dF h4) sl (ie (hlen _) _) (same U))variable {cs':SC}
mutual
theorem DZ(h:∀x∈cs,x∈cs'):∀r:Rw,ma ws cs r->ma ws cs' r
 |.set _ _=>@λq=>q
 |.tell _=>@λq=>q
 |.call _ _ _=>@λq=>⟨q.1,q.2.1,q.2.2.1,h _ q.2.2.2⟩
 |.whn _ b=>@λq=>⟨q.1,ji h b q.2⟩
 |.aga _ b=>@λq=>ji h b (q)theorem ji(h:∀x∈cs,x∈cs'):∀b:RL,fH ws cs b->fH ws cs' b
 |.nil=>@λ_=>trivial
 |.cons r b=>@λq=>⟨DZ h r q.1,ji h b q.2⟩
end
theorem ng(h:∀x∈cs,x∈cs')(q:okF ws cs f):okF ws cs' f:={ q with rs:=ji h _ q.rs }noncomputable def bK(fs:List Fd):List Str:=fs.map (·.nm)def D1(ws:List Str)(fs:List Fd):Prop:=∀(k:Nat) (f:Fd),fs[k]?=some f->LS ws ((fs.take k).map f8) (f)variable {l:List B}{a:B}theorem rf{x:B}(h:x∈l++[a]):x∈l\/x=a:=(PT.mp h).imp id PN.mp
theorem zZ{x:B}(h:(l++[a])[k]?=some x):((l++[a]).take k=l.take k/\l[k]?=some x)\/((l++[a]).take k=l/\x=a):=by
 rcases S3 k l.length with q|q
 . exact .inl ⟨RR (Qg q),(P3 q).symm.trans h⟩
 . rw[PY q]at h;cases e:k - l.length with
   |zero=>rw[e]at h;have:k=l.length:=RB (Tx e) q;exact .inr ⟨by rw[this,List.take_left],(Option.some.inj h).symm⟩
   |succ i=>rw[e]at h;injection h
theorem BS(h:D1 ws fs)(hf:LS ws (fs.map f8) f):D1 ws (fs++[f]):=λk g hg=>by
 rcases zZ hg with⟨h1,h2⟩|⟨h1,h2⟩
 . rw[h1];exact h k g h2
 . rw[h1,h2];exact(hf)def NQ(ws:List Str)(fs:List Fd):Prop:=∀(k:Nat) (f:Fd),fs[k]?=some f->okF ws ((fs.take k).map f8) f/\hL f.rs<=9/\nL f.rs<=400
theorem Hx(k:Nat):∀x∈(fs.take k).map f8,x∈fs.map f8:=λx hx=>by obtain⟨f,hf,rfl⟩:=Qk.mp hx;exact QB (Qa hf)theorem xb{l:List Str}(h:k < l.length)(U:ac):cK (al (l.map .str)) (ak (k:Int)) U=some (.d (.str l[k])):=by rw[jn _ (Qi k)];show ((l.map PyData.str)[k]?).map V.d=_;rw[Qe,PD h];rfl
theorem BM{cJ:List Str}(hw:0 < ws.length)(hn:cJ.length=8)(l:List Int)(a:Nat)(hok:D1 ws fs)(hk:fs.length < 8)(d:Nat)(v5 v6 v7:V)(U:ac) :
   X2 λ(f:Fd) (v7':V)=>(LS ws (fs.map f8) f/\some f.nm=cJ[fs.length]?)/\
     aL prog.1 (aj prog (d+16)) (.var 6) cU (.int (fs.length:Int)) (F8 (al (l.map .int)) (ak (a:Int)) (al (ws.map .str)) (al (cJ.map .str)) (ah (fs.map ao)) v5 v6 v7) U =
     .ok (.next (F8 (al (l.map .int)) (ak (a:Int)) (al (ws.map .str)) (al (cJ.map .str)) (ah ((fs++[f]).map ao)) v5 (ak (fs.length:Int)) v7')) U:=by
 have h8:fs.length < cJ.length:=hn▸hk;have h0:0 < cJ.length:=hn▸(by decide)
 have ck:=lG (d+15) l U (a+3+fs.length) ((a:Int)+3+(fs.length:Int)) rfl;have c4:=lG (d+15) l U (a+2) ((a:Int)+2) rfl;have hokh:∀f∈fs.take 3,Kg ws (fs.map f8) f:=λf hf=>by have hf:=Qa hf;obtain⟨k,hk⟩:=Q2 hf;exact⟨(hok k f hk).1.ps,(hok k f hk).1.p4,QB hf⟩
 refine kk λUc k=>?_;obtain⟨f,⟨okf,nmf⟩,ef⟩:=sU hw hokh (bG l (a+3+fs.length)) cJ[fs.length] d U;refine k ?_;have sl:gq false (ah (fs.map ao)) none (some (ak 3)) U=.ok (ah ((fs.take 3).map ao)) U:=by rw[gp _ _ gw (fu _),tn];exact congrArg (λx=>Res.ok (ah (x.map ao)) U) (qC fs 3)
 have ad:∀g:Fd,dj .add false (ah (fs.map ao)) (ah [ao g]) U=.ok (ah ((fs++[g]).map ao)) U:=λg=>by rw[PR];exact ie (by rw[Pd,QS];exact iv hk (by decide)) U
 have R:=ch prog.1 (aj prog (d+16)) cU (F8 (al (l.map .int)) (ak (a:Int)) (al (ws.map .str)) (al (cJ.map .str)) (ah (fs.map ao)) v5 (ak (fs.length:Int)) v7) U;have i1:=xb h8 U;have nof:some f.nm=cJ[fs.length]?:=by rw[nmf];exact(PD h8).symm
 by_cases hz:(fs.length:Int)=0
 . by_cases h:bG l (a+2) / 4096 % 8=1
   . refine⟨⟨cJ[0],[],.nil,f.t⟩,.d (ao ⟨cJ[0],[],.nil,f.t⟩),⟨⟨⟨(λx hx=>by cases hx),PU _,trivial,PU _,PU _,okf.1.t⟩,PU _,PU _⟩,?_⟩,aP ?_⟩
     . rw[(SE.mp hz)];exact(PD h0).symm
     . exact(R 45196 ck i1 sl ef (dT hz) c4 (dT h) (xb h0 U) (ad ⟨cJ[0],[],.nil,f.t⟩))
   . exact⟨f,.d (ao f),⟨okf,nof⟩,aP ((R 12428 ck i1 sl ef (dT hz) c4 (dF h) (ad f)))⟩
 . exact⟨f,.d (ao f),⟨okf,nof⟩,aP ((R 908 ck i1 sl ef (dF hz) (dF hz) (ad f)))⟩def O8(l:List Int)(a:Nat)(ws cJ:List Str)(U:ac)(N:Nat)(v5:V):List Nat->Fm->ac->Prop:=λrest K J=>X3 λ(fs:List Fd) (v6:V) (v7:V)=>A6 (rest=List.range' fs.length (N - fs.length)) (fs.length<=N) (D1 ws fs) (bK fs=cJ.take fs.length) (K=(F8 (.d (.list (l.map .int))) (.d (.int (a:Int))) (.d (.list (ws.map .str))) (.d (.list (cJ.map .str))) (.d (.tuple (fs.map ao))) v5 v6 v7)) (J=U)theorem wh{N:Nat}(h:m < N):N - m=(N - (m+1))+1:=by rw[Nat.sub_add_eq,Nat.sub_add_cancel (Nat.sub_pos_of_lt h)]
theorem BN{cJ:List Str}(hw:0 < ws.length)(hn:cJ.length=8)(l:List Int)(a d N:Nat)(hN:N<=8)(v5:V)(U:ac):X2 λρ' τ'=>ba (aL prog.1 (aj prog (d+16)) (.var 6) cU) ((List.range N).map λ(k:Nat)=>PyData.int (k:Int)) (F8 (al (l.map .int)) (ak (a:Int)) (al (ws.map .str)) (al (cJ.map .str)) (ah []) v5 .un .un) U=.ok (.next ρ') τ'/\O8 l a ws cJ U N v5 [] ρ' τ':=by
 refine Ej (λ(k:Nat)=>PyData.int (k:Int)) (O8 l a ws cJ U N v5) ?_ (List.range N) _ _ ⟨[],.un,.un,by rw[Sg];rfl,PU _,(λk f h=>by rw[List.getElem?_nil]at h;injection h),rfl,rfl,rfl⟩
 rintro x xs K J ⟨fs,v6,v7,h1,h2,h3,h4,rfl,rfl⟩
 have hlt:fs.length < N:=by
   rcases S3 fs.length N with h|h
   . exact h
   . rw[TH h]at h1;injection h1
 rw[wh hlt,Tq]at h1;injection h1 with hx hxs;subst hx;have h8:=Qt hlt hN;obtain⟨f,v7',⟨a1,a2⟩,e⟩:=BM hw hn l a h3 h8 d v5 v6 v7 J;have el:(fs++[f]).length=fs.length+1:=PC;refine⟨_,_,e,fs++[f],ak (fs.length:Int),v7',by rw[el,hxs],by rw[el];exact hlt,BS h3 a1,?_,rfl,rfl⟩;have en:bK (fs++[f])=bK fs++[f.nm]:=PR;have h8:fs.length < cJ.length:=hn▸h8;rw[PD h8]at a2;rw[en,el,h4,Option.some.inj a2,List.take_succ_eq_append_getElem h8]variable {f':Fd}{hs:List Fd}
theorem D0{g:Fd}(h:D1 ws (hs++[g]))(hf:okF ws (hs.map f8) f')(h4:hL f'.rs<=9/\nL f'.rs<=400):NQ ws (hs++[f']):=by
 intro k f q;rcases zZ q with⟨h1,h2⟩|⟨h1,h2⟩
 . have q:=h k f ((P3 (PB.mp h2).1).trans h2);rw[h1];rw[RR (Qg (PB.mp h2).1)]at q;exact⟨q.1,iv q.2.1 (by decide),iv q.2.2 (by decide)⟩
 . rw[h1,h2];exact⟨hf,h4⟩theorem OV(h:0<=x)(h4:x < 4):1<=(1+x+4).toNat/\(1+x+4).toNat<=8:=by obtain⟨n,rfl⟩:=QU h;exact⟨P9 1 (1+n+3),PL (Qh (R8 (Qr.mp h4)) 1) 4⟩
theorem OW(h:0<=x)(h4:x < 4):1<=(1+x).toNat/\(1+x).toNat<=8:=
 ⟨(Int.le_toNat (R9 h |> QN (by decide))).mpr (R9 h),iv (Ri.mpr (SW (R5 h4) 1)) (by decide)⟩
theorem vx(l:List Int)(a d:Nat)(U:ac):X2 λ(ws:List Str) (fs:List Fd)=>(ws.length<=7/\0 < fs.length/\fs.length<=8/\NQ ws fs/\(bK fs).Nodup)/\pc (d+17) 36 [al (l.map .int),ak (a:Int)] U (ah (fs.map ao)):=by
 refine kk λUc kz=>?_;obtain⟨ws,hw,hv⟩:=r8 l a;have c3:=lG (d+15) l U (a+1) ((a:Int)+1) rfl;have c4:=lG (d+15) l U (a+2) ((a:Int)+2) rfl;obtain⟨k,hk⟩:∃k:Nat,((a:Int)+1 - (if decide (bG l (a+1) % 8=3) then 1 else 0):Int)=(k:Int):=by
   cases decide (bG l (a+1) % 8=3) with
   |true=>exact⟨a,SD _ 1⟩
   |false=>exact⟨a+1,TX _⟩
 obtain⟨cJ,hn,hnd,h3⟩:=mQ (bG l k) 8 (by decide) 0 [];have ck:=lG (d+15) l U k _ hk;have bm:=cQ (bG l (a+2)+2) p4;have R:=aX prog 36 (d+16) [al (l.map .int),ak (a:Int)] U rfl;have main:∀N:Nat,1<=N->N<=8->X4 λ(fs:List Fd) (fs':List Fd) (v6:V) (v7:V)=>A3 ((0 < fs'.length/\fs'.length<=8/\NQ ws fs'/\(bK fs').Nodup)) (exec prog.1 (aj prog (d+16)) (.forr (.var 6) (.range (.var 5)) cU) (F8 (al (l.map .int)) (ak (a:Int)) (al (ws.map .str)) (al (cJ.map .str)) (ah []) (ak (N:Int)) .un .un) U=.ok (.next (F8 (al (l.map .int)) (ak (a:Int)) (al (ws.map .str)) (al (cJ.map .str)) (ah (fs.map ao)) (ak (N:Int)) v6 v7)) U) (pc (d+16) 33 [ah (fs.map ao),ak (bG l (a+2) / 4)] U (ah (fs'.map ao))):=λN hN1 hN8=>by
   refine kk λUc k=>?_;clear kz c4 c3 ck R;obtain⟨ρ',τ',lp,fs,v6,v7,h1,h2,h3,h4,rfl,rfl⟩:=BN (Qt (by decide) hw.1) hn l a d N hN8 (ak (N:Int)) U;have hlen:fs.length=N:=by
     rcases S3 fs.length N with h|h
     . rw[wh h,Tq]at h1;injection h1
     . exact RB h2 h
   have hne:fs≠[]:=λh=>by replace hN1:=h▸hlen▸hN1;cases hN1
   clear h1;obtain⟨hs,g,rfl⟩:X2 λhs g=>fs=hs++[g]:=⟨fs.dropLast,fs.getLast hne,(List.dropLast_concat_getLast hne).symm⟩
   have hlen:hs.length+1=N:=by rw[<- hlen,PC];rfl
   obtain⟨f',⟨hf',hf2,hf4⟩,ef⟩:=xM (fs:=hs) (cs:=hs.map f8) (by have:=h3 hs.length g (by rw[PY (Qb _),S7];rfl);rw[List.take_left]at this;exact this) (by rw[<- hlen]at hN8;exact iv (Q1 hN8) (by decide)) (bG l (a+2) / 4) (d+15) τ';rw[<- fk]at lp;refine k ?_;refine⟨hs++[g],hs++[f'],v6,v7,⟨by rw[PC];exact Rx _,by rw[PC];exact hlen▸hN8,D0 h3 hf' hf4,?_⟩,a7 (iC rfl ⟨QN (by decide) (Qi N),QX.mpr (iv hN8 (by decide))⟩) lp,ef⟩;have:bK (hs++[f'])=bK (hs++[g]):=by unfold bK;rw[PR,PR,RZ,RZ];exact congrArg (λx=>hs.map (·.nm)++[x]) (congrArg Prod.fst hf2)
   rw[this,h4];exact(R7 _ _).nodup hnd
 have w:=hw.2;by_cases h:bG l (a+2) / 64 % 8=1
 . obtain⟨N,hN,hN1,hN8⟩:∃N:Nat,A3 (1+(bG l (a+2)+2) % 4+4=(N:Int)) (1<=N) (N<=8):=⟨_,(Re (Ry (Ry (by decide) bm.1) (by decide))).symm,(OV bm.1 bm.2).1,(OV bm.1 bm.2).2⟩
   obtain⟨fs,fs',v6,v7,ok,e1,e2⟩:=main N hN1 hN8;rw[<- hN]at e1;exact kz (⟨ws,fs',⟨w,ok⟩,(R 16384 (hv (d+13) U) c3 ck (h3 (d+15) U) c4 c4 (dT h) e1 c4 e2 (same U))⟩)
 . obtain⟨N,hN,hN1,hN8⟩:∃N:Nat,A3 (1+(bG l (a+2)+2) % 4=(N:Int)) (1<=N) (N<=8):=⟨_,(Re (Ry (by decide) bm.1)).symm,(OW bm.1 bm.2).1,(OW bm.1 bm.2).2⟩
   obtain⟨fs,fs',v6,v7,ok,e1,e2⟩:=main N hN1 hN8;rw[<- hN]at e1;exact kz (⟨ws,fs',⟨w,ok⟩,(R 16384 (hv (d+13) U) c3 ck (h3 (d+15) U) c4 c4 (dF h) e1 c4 e2 (same U))⟩)noncomputable def lst:RL->List Rw
 |.nil=>[]
 |.cons r b=>r::lst (b)theorem c8:∀b:RL,am b=(lst b).map aI
 |.nil=>rfl
 |.cons r b=>congrArg (aI r::·) (c8 b)theorem uU:∀l:List Rw,lst (jH l)=l
 |[]=>rfl
 |r::l=>congrArg (r::·) (uU l)theorem yN:∀b:RL,jH (lst b)=b
 |.nil=>rfl
 |.cons r b=>congrArg (RL.cons r) (yN b)variable {b:RL}{r:Rw}theorem rg{Q:Rw->Prop}(h1:Q r)(h2:∀x∈lst b,Q x):∀x∈lst (.cons r b),Q x:=λx hx=>(PO.mp hx).elim (λe=>e▸h1) (h2 x)
theorem bS:∀{b:RL},fH ws cs b->∀r∈lst b,ma ws cs r
 |.nil=>@λ_ r hr=>by cases hr
 |.cons r b=>@λh x hx=>rg h.1 (bS h.2) x hx
theorem cp:∀{b:RL},∀r∈lst b,hR r<=hL b
 |.nil=>@λr hr=>by cases hr
 |.cons r b=>@λx hx=>rg (RC ..) (λx hx=>iv (cp x hx) (Rq ..)) x hx
theorem Ea:∀{b:RL},∀r∈lst b,nR r<=nL b
 |.nil=>@λr hr=>by cases hr
 |.cons r b=>@λx hx=>rg (PW ..) (λx hx=>iv (Ea x hx) (P9 ..)) x (hx)noncomputable def dH:Rw->RL
 |.whn _ b=>b
 |.aga _ b=>b
 |_=>.nil
theorem ic(h:ma ws cs r):fH ws cs (dH r):=by
 cases r with
 |whn t b=>exact h.2
 |aga n b=>exact h
 |_=>(trivial)theorem Bb(r:Rw):nL (dH r)+1=nR r:=by cases r<;>rfl
theorem zE(h:r∈lst b)(hn:nL b<=n):nL (dH r)<=n:=iv (Q1 (iv (Qm (Bb r)) (Ea r h))) (hn)variable {h:Nat}
theorem pA(hh:hR r<=h+1):hL (dH r)<=h:=by
 cases r with
 |whn t b=>exact RF hh
 |aga n b=>exact RF hh
 |_=>exact PU _
theorem nU(h:hR r<=0):dH r=.nil:=by
 cases r with
 |whn t b=>cases h
 |aga n b=>cases h
 |_=>(rfl)noncomputable def jB:Rw->List Tm
 |.set _ t=>[t]
 |.tell t=>[t]
 |.call _ _ ts=>ts
 |.whn t _=>[t]
 |.aga _ _=>[]def own(r:Rw):List Str:=(jB r).flatMap (cJ)noncomputable def Gc:Rw->Option Str
 |.set x _=>some x
 |.call o _ _=>o
 |_=>none
theorem qv(h:ma ws cs r):(∀t∈jB r,lP ws t)/\(jB r).length<=7:=by
 have one:∀t,lP ws t->(∀u∈[t],lP ws u)/\[t].length<=7:=λt h=>⟨λu hu=>PN.mp hu▸h,P9 1 6⟩;cases r with
 |set x t=>exact one t h.2
 |tell t=>exact one t h
 |call o f ts=>exact⟨h.2.1,h.2.2.1⟩
 |whn t b=>exact one t h.1
 |aga n b=>exact⟨(λu hu=>by cases hu),PU _⟩variable {x:Str}theorem oF(h:ma ws cs r)(hx:x∈own r):x∈ws:=by obtain⟨t,ht,q⟩:=Rr.mp hx;exact((qv h).1 t ht).1 x q
theorem JH(h:ma ws cs r)(hx:Gc r=some x):x∈ws:=by
 cases r with
 |set y t=>injection hx with e;subst e;exact h.1
 |call o f ts=>exact h.1 x hx
 |_=>injection hx
theorem sh(r:Rw)(d:Nat)(U:ac):pc (d+1) 40 [.d (aI r)] U (ah (am (dH r))):=cI rfl rfl (by cases r<;>rfl)theorem pw(r:Rw)(d:Nat)(U:ac):pc (d+1) 39 [.d (aI r)] U (.d (fX (Gc r))):=cI rfl rfl (by cases r<;>rfl)theorem jT(r:Rw)(d:Nat)(U:ac):pc (d+1) 4 [.d (aI r)] U (.d (fX (Gc r))):=cI rfl rfl (by cases r<;>rfl)theorem sd(r:Rw)(d:Nat)(U:ac):pc (d+1) 2 [.d (aI r)] U (al ((jB r).map a9)):=cI rfl rfl (by cases r<;>rfl)noncomputable def sL:Rw->Bool
 |.whn _ _=>true
 |.aga _ _=>true
 |_=>(false)theorem mn(r:Rw)(d:Nat)(U:ac):pc (d+1) 5 [.d (aI r)] U (.d (.bool (sL r))):=cI rfl rfl (by cases r<;>rfl)theorem pv(r:Rw)(d:Nat)(U:ac):pc (d+2) 6 [.d (aI r)] U (ah (am (dH r))):=by have e:=mn r d U;have R:=aX prog 6 (d+1) [.d (aI r)] U rfl;cases r<;>exact(R 0 e (same U))
theorem DU(d:Nat)(v0 v1:V)(U:ac):∀(ts:List Tm) (acc:List Str) (v3:V),(∀t∈ts,lP ws t)->acc.length+ts.length * 4<=1000->∃v3',ba (aL prog.1 (aj prog (d+3)) (.var 3) kF) (ts.map a9) [v0,v1,al (acc.map .str),v3] U=.ok (.next [v0,v1,al ((acc++ts.flatMap cJ).map .str),v3']) U:=by
 intro xs_
 induction xs_ with
 |nil=>intro acc v3 _ _;exact⟨v3,by rw[List.flatMap_nil,P6];rfl⟩
 |cons t ts ih_=>
   intro acc v3 h hl;have ht:=h t (PH ..);have hl:(acc++cJ t).length+ts.length * 4<=1000:=by rw[PZ,S6,Qw _ 4,<- Qq]at hl;rw[PC];exact iv (PL (Qh (uN ht) _) _) hl
   refine(ih_ (acc++cJ t) (.d (a9 t)) (λu hu=>h u (PG _ hu)) hl).elim λv3' ih=>?_;have ad:=kT (a:=acc.map .str) (b:=(cJ t).map .str) (by rw[Pd,Pd,<- PC];exact iv (QO hl) (by decide)) U;rw[<- PR]at ad;refine⟨v3',a6 (aP ((ch prog.1 (aj prog (d+3)) kF [v0,v1,al (acc.map .str),.d (a9 t)] U 1 (lJ ht d U) ad))) ?_⟩;rw[RJ,<- PV];exact ih
theorem xL(h:ma ws cs r)(d:Nat)(U:ac):pc (d+4) 38 [.d (aI r)] U (al ((own r).map .str)):=by
 refine(qv h).elim λt1 t2=>?_;obtain⟨v',lp⟩:=DU d (.d (aI r)) (al ((jB r).map a9)) U (jB r) [] .un t1 (by rw[Q8,Rk];exact iv (Rs 4 t2) (by decide));have lp:=a7 (it:=.seq (.var 1)) (aZ rfl rfl) lp;have R:=aX prog 38 (d+3) [.d (aI r)] U rfl;clear t2 h t1;cases r with
 |aga n b=>exact cI rfl rfl rfl
 |set _ _=>exact(R 0 lp (same U))
 |tell _=>exact(R 0 lp (same U))
 |call _ _ _=>exact(R 0 lp (same U))
 |whn _ _=>exact(R 0 lp (same U))noncomputable def dk(L:List Str):List (Str×PyData):=L.map λk=>(k,.bool true)
theorem Lu(L:List Str)(k:Str):(dk L).any (λx=>decide (x.1=k))=decide (k∈L):=by
 induction L with
 |nil=>rfl
 |cons y L ih=>
   show (decide (y=k)||(dk L).any (λx=>decide (x.1=k)))=_;rw[ih];by_cases h:y=k
   . rw[h,decide_eq_true rfl,decide_eq_true (PH ..)];rfl
   . rw[decide_eq_false h,SO];exact decide_eq_decide.mpr ⟨λq=>PG _ q,λq=>(PO.mp q).resolve_left (Ne.symm h)⟩
theorem Am(L:List Str)(k:Str):eZ k (.bool true) (dk L)=dk (iq L k):=by
 unfold eZ iq;rw[Lu];by_cases h:k∈L
 . rw[if_pos (decide_eq_true h),if_pos h];unfold dk;rw[Qx];refine RA λy _=>?_;refine(?_:(if y=k then (y,PyData.bool true) else (y,PyData.bool true))=_);exact ite_self _
 . rw[if_neg λq=>h (of_decide_eq_true q),if_neg h];unfold dk;rw[PR];(rfl)theorem zh(L:List Str):(dk L).length=L.length:=Pd _
theorem eO{m:Bool}(h:U[n]?=some (.dct (dk L))):xV .list m [.loc n] U=bh m (L.map .str) U:=by refine(?_:oc (iF U (.loc n)) (λkvs=>bh m (kvs.map λx=>.str x.1) U) .bad=_);rw[gJ h];exact congrArg (bh m · U) (Qx)theorem g0(U:ac)(a:Cell)(g:List Cell):(U++a::g)[U.length]?=some a:=by rw[PY (Qb _),S7];(rfl)theorem st0(U:ac)(a a':Cell)(g:List Cell):(U++a::g).set U.length a'=U++a'::g:=by rw[TI _ _ (Qb _),S7];(rfl)variable {e:E}{g:List Cell}{F:List Str}{cf:Nat->List V->ac->Res V}theorem yr{o i:E}{k:Str}(h1:af prog.1 cf e K (U++.dct (dk F)::g)=.ok (.d (.bool true)) (U++.dct (dk F)::g))(h2:af prog.1 cf o K (U++.dct (dk F)::g)=.ok (.loc U.length) (U++.dct (dk F)::g))(h3:af prog.1 cf i K (U++.dct (dk F)::g)=.ok (aA k) (U++.dct (dk F)::g))(hl:F.length<=8):exec prog.1 cf (.put o i e) K (U++.dct (dk F)::g)=.ok (.next K) (U++.dct (dk (iq F k))::g):=by refine(IQ h1 h2 h3 (g0 _ _ _) (by rw[zh];exact P8 hl (by decide))).trans ?_;rw[st0,Am]
theorem DM(w7:ws.length<=8)(cf:Nat->List V->ac->Res V)(v0 v2:V)(U:ac):∀(ns F:List Str) (P:Str->Prop) (v3:V),(∀x∈ns,x∈ws)->(∀x,P x->x∈ws)->St F P->X2 λF' v3'=>St F' (λx=>P x\/x∈ns)/\ba (aL prog.1 cf (.var 3) me) (ns.map .str) [v0,.loc U.length,v2,v3] (U++[.dct (dk F)])=.ok (.next [v0,.loc U.length,v2,v3']) (U++[.dct (dk F')]):=by
 intro xs_
 induction xs_ with
 |nil=>intro F P v3 _ _ h;exact⟨F,v3,h.of λx=>⟨.inl,λq=>q.elim id λq=>by cases q⟩,rfl⟩
 |cons y ns ih_=>intro F P v3 hn hp h;obtain⟨F',v3',h',e⟩:=ih_ (iq F y) _ (aA y) (λx hx=>hn x (PG _ hx)) (λx q=>q.elim (hp x) λe=>e▸hn y (PH ..)) (h.add y);exact⟨F',v3',h'.of λx=>by rw[or_assoc,PO],a6 (aP (aT (yr rfl rfl rfl (h.few w7 hp)) rfl)) e⟩
theorem yM(w7:ws.length<=8)(d:Nat)(v0:V)(U:ac):∀(ts:List Tm) (F:List Str) (P:Str->Prop) (v2 v3:V),(∀t∈ts,lP ws t)->(∀x,P x->x∈ws)->St F P->X3 λF' v2' v3'=>St F' (λx=>P x\/x∈ts.flatMap cJ)/\ba (aL prog.1 (aj prog (d+4)) (.var 2) mc) (ts.map a9) [v0,.loc U.length,v2,v3] (U++[.dct (dk F)])=.ok (.next [v0,.loc U.length,v2',v3']) (U++[.dct (dk F')]):=by
 intro xs_
 induction xs_ with
 |nil=>intro F P v2 v3 _ _ h;exact⟨F,v2,v3,h.of λx=>⟨.inl,λq=>q.elim id λq=>by cases q⟩,rfl⟩
 |cons t ts ih_=>intro F P v2 v3 hn hp h;have ht:=hn t (PH ..);refine kk λUc k=>?_;obtain⟨L,hL,e⟩:=dQ ht d (U++[.dct (dk F)]);obtain⟨LM,C4,bj,lp⟩:=DM w7 (aj prog (d+4)) v0 (.d (a9 t)) U L F P v3 (λx hx=>ht.1 x ((hL.mem x).mp hx)) hp h;obtain⟨F',v2',v3',h',ih⟩:=ih_ LM _ (.d (a9 t)) C4 (λu hu=>hn u (PG _ hu)) (λx q=>q.elim (hp x) λq=>ht.1 x ((hL.mem x).mp q)) bj;refine k ?_;exact⟨F',v2',v3',h'.of λx=>by rw[or_assoc,RJ,PT,hL.mem x],a6 (aP (aT (a7 (aZ (aM rfl e) rfl) lp) rfl)) ih⟩theorem hZ(w7:ws.length<=8)(h:ma ws cs r)(d:Nat)(U:ac):∃L:List Str,St L (·∈own r)/\pc (d+5) 3 [.d (aI r)] U (al (L.map .str)):=by obtain⟨F,v2',v3',hF,lp⟩:=yM w7 d (.d (aI r)) U (jB r) [] _ .un .un (qv h).1 (λ_ q=>q.elim) St.nil;exact⟨F,hF.of λx=>⟨λq=>q.resolve_left id,.inr⟩,(aX prog 3 (d+4) [.d (aI r)] U rfl 1 (a7 (aZ (aM rfl (sd r (d+3) _)) rfl) lp) (eO (aK _ _)) (cG _ _))⟩
mutual
def Bx(x:Str):Rw->Bool
 |.set y _=>decide (y=x)
 |.call o _ _=>decide (o=some x)
 |.aga n b=>decide (n > 0)&&gP x b
 |.tell _=>false
 |.whn _ _=>(false)def gP(x:Str):RL->Bool
 |.nil=>false
 |.cons r b=>Bx x r||gP x b
end
mutual
def ye(x:Str):Rw->Bool
 |.set y t=>decide (x∈own (.set y t))
 |.tell t=>decide (x∈own (.tell t))
 |.call o f ts=>decide (x∈own (.call o f ts))
 |.whn t b=>decide (x∈own (.whn t b))||dv x b
 |.aga n b=>decide (n > 0)&&dv x (b)def dv(x:Str):RL->Bool
 |.nil=>false
 |.cons r b=>ye x r||(!Bx x r&&dv x b)
end
theorem HN(x:Str)(t:Tm)(b:RL):ye x (.whn t b)=(decide (x∈own (.whn t b))||dv x b):=(rfl)theorem AQ(x:Str)(n:Int)(b:RL):ye x (.aga n b)=(decide (n > 0)&&dv x b):=rfl
mutual
theorem uv(x:Str):∀r:Rw,ma ws cs r->Bx x r=true->x∈ws
 |.set y _,h,q=>of_decide_eq_true q▸h.1
 |.call o _ _,h,q=>h.1 x (of_decide_eq_true q)
 |.aga _ b,h,q=>uw x b h (PK.mp q).2
theorem uw(x:Str):∀b:RL,fH ws cs b->gP x b=true->x∈ws
 |.cons r b,h,q=>(Qc.mp q).elim (uv x r h.1) (uw x b h.2)
end
mutual
theorem EY(x:Str):∀r:Rw,ma ws cs r->ye x r=true->x∈ws
 |.set _ _=>@λh q=>oF h (of_decide_eq_true q)
 |.tell _=>@λh q=>oF h (of_decide_eq_true q)
 |.call _ _ _=>@λh q=>oF h (of_decide_eq_true q)
 |.whn t b=>@λh q=>(Qc.mp q).elim (λq=>oF h (of_decide_eq_true q)) (du x b h.2)
 |.aga _ b=>@λh q=>du x b h (PK.mp q).2
theorem du(x:Str):∀b:RL,fH ws cs b->dv x b=true->x∈ws
 |.cons r b,h,q=>(Qc.mp q).elim (EY x r h.1) λq=>du x b h.2 (PK.mp q).2
end
noncomputable def j0(a b:Bool):PyData:=.tuple [.bool a,.bool b]
theorem Ka(o:Option Str)(x:Str)(U:ac):bC .eq (.d (fX o)) (aA x) U=some (decide (o=some x)):=by
 cases o with
 |none=>rw[decide_eq_false (λh=>by injection h)];rfl
 |some y=>show bC .eq (aA y) (aA x) U=_;rw[xP];exact congrArg some (decide_eq_decide.mpr Option.some_inj.symm)noncomputable def jY(s:Bool)(a b:Res Out):Res Out:=match s with
 |true=>a
 |false=>b
theorem BD(hr:ma ws cs r)(x:Str)(d:Nat)(v0:V)(U:ac)(H:pc (d+4) 42 [ah (am (dH r)),aA x] U (.d (j0 (dv x (dH r)) (!gP x (dH r)))))(rd:Bool)(v3 v4:V) :
   ∃v4',aL prog.1 (aj prog (d+4)) (.var 3) gy (aI r) (F5 v0 (aA x) (.d (.bool rd)) v3 v4) U=jY (Bx x r) (.ok (.ret (.d (j0 (rd||ye x r) false))) U) (.ok (.next (F5 v0 (aA x) (.d (.bool (rd||ye x r))) (.d (aI r)) v4')) U):=by
 have s1:=C3 (G:=prog.1) (e:=.var 2) (e':=.cmp .isIn (.var 1) (.call 38 (.cons (.var 3) .nil))) (K:=(F5 v0 (aA x) (.d (.bool rd)) (.d (aI r)) v4)) rfl λ_=>cN (cq rfl (aM rfl (xL hr d U)) (eR _ _ _));have R:=ch prog.1 (aj prog (d+4)) gy (F5 v0 (aA x) (.d (.bool rd)) (.d (aI r)) v4) U;have tg:=pw r (d+3) U;have te:=Ka (Gc r) x U;have s2:=λb (v:V)=>C3 (G:=prog.1) (cf:=aj prog (d+4)) (e:=.var 2) (e':=.idx (.var 4) (.int 0)) (K:=(F5 v0 (aA x) (.d (.bool (rd||decide (x∈own r)))) (.d (aI r)) (.d (j0 b (!gP x (dH r)))))) (U:=U) rfl λ_=>cN rfl;clear hr;cases r with
 |set y t=>
   show ∃_,_=jY (decide (y=x)) _ _;by_cases h:y=x
   . rw[decide_eq_true h];exact⟨v4,aP ((R 3073 s1 tg te (dT (congrArg some h))))⟩
   . rw[decide_eq_false h];exact⟨v4,aP ((R 3073 s1 tg te (dF λq=>h (Option.some.inj q))))⟩
 |tell t=>exact⟨v4,aP ((R 1 s1 tg))⟩
 |call o f ts=>
   show ∃_,_=jY (decide (o=some x)) _ _;by_cases h:o=some x
   . rw[decide_eq_true h];exact⟨v4,aP ((R 3073 s1 tg te (dT h)))⟩
   . rw[decide_eq_false h];exact⟨v4,aP ((R 3073 s1 tg te (dF h)))⟩
 |whn t b=>have e:(rd||ye x (.whn t b))=((rd||decide (x∈own (.whn t b)))||dv x b):=(Bool.or_assoc ..).symm;exact e▸⟨_,aP ((R 129 s1 H (s2 _ .un) tg))⟩
 |aga n b=>
   have e:(rd||decide (x∈own (.aga n b)))=rd:=Ru rd;refine(?_:∃_,_=jY (decide (n > 0)&&gP x b) (.ok (.ret (.d (j0 (rd||(decide (n > 0)&&dv x b)) false))) U) (.ok (.next (F5 v0 (aA x) (.d (.bool (rd||(decide (n > 0)&&dv x b)))) _ _)) U));rw[e]at s1 s2;by_cases h:n > 0
   . rw[decide_eq_true h,RN,RN];cases h2:gP x b with
     |true=>exact⟨v4,aP ((R 534529 s1 (dT h) H (s2 _ .un) (nT (congrArg (!·) h2))))⟩
     |false=>exact⟨_,aP ((R 534529 s1 (dT h) H (s2 _ .un) (nF (congrArg (!·) h2)) tg))⟩
   . rw[decide_eq_false h,RU,RU,Ru];exact⟨v4,aP ((R 2049 s1 (dF h) tg))⟩
theorem tA(x:Str)(d:Nat)(v0:V)(U:ac):∀(b:RL),fH ws cs b->(∀r∈lst b,pc (d+4) 42 [ah (am (dH r)),aA x] U (.d (j0 (dv x (dH r)) (!gP x (dH r)))))->∀(rd:Bool) (v3 v4:V),
   X2 λv3' v4'=>ba (aL prog.1 (aj prog (d+4)) (.var 3) gy) (am b) (F5 v0 (aA x) (.d (.bool rd)) v3 v4) U=jY (gP x b) (.ok (.ret (.d (j0 (rd||dv x b) false))) U) (.ok (.next (F5 v0 (aA x) (.d (.bool (rd||dv x b))) v3' v4')) U)
 |.nil=>@λ_ _ rd v3 v4=>⟨v3,v4,by rw[show dv x .nil=false from rfl,Ru];rfl⟩
 |.cons r b=>@λh H rd v3 v4=>by
   obtain⟨vZ,e⟩:=BD h.1 x d v0 U (H r (PH ..)) rd v3 v4;obtain⟨v3',v4',ih⟩:=tA x d v0 U b h.2 (λq hq=>H q (PG _ hq)) (rd||ye x r) (.d (aI r)) vZ;refine⟨v3',v4',?_⟩;refine(show gP x (.cons r b)=(Bx x r||gP x b) from rfl)▸(show dv x (.cons r b)=(ye x r||(!Bx x r&&dv x b)) from rfl)▸?_;cases hs:Bx x r with
   |true=>rw[hs]at e;rw[Sy,RU,Ru];exact jJ e
   |false=>rw[hs]at e;rw[Bool.not_false,RN,<- Bool.or_assoc];exact a6 e ih
theorem lI(x:Str):∀(h:Nat) (b:RL) (d:Nat) (U:ac),fH ws cs b->hL b<=h->pc (d+h+5) 42 [ah (am b),aA x] U (.d (j0 (dv x b) (!gP x b))):=by
 have fin:∀(b:RL) (d:Nat) (U:ac),fH ws cs b->(∀r∈lst b,pc (d+4) 42 [ah (am (dH r)),aA x] U (.d (j0 (dv x (dH r)) (!gP x (dH r)))))->pc (d+5) 42 [ah (am b),aA x] U (.d (j0 (dv x b) (!gP x b))):=λb d U ok H=>by
   obtain⟨v3',v4',e⟩:=tA x d (ah (am b)) U b ok H false .un .un;have R:=aX prog 42 (d+4) [ah (am b),aA x] U rfl;cases h2:gP x b with
   |true=>rw[h2]at e;exact(R 0 (a7 (aZ rfl rfl) e) (same U))
   |false=>rw[h2]at e;exact(R 0 (a7 (aZ rfl rfl) e) (same U))
 intro h
 induction h with
 |zero=>exact λb d U ok hh=>fin b d U ok λr hr=>by rw[nU (iv (cp r hr) hh)];exact(λd U=>cI rfl rfl rfl) d U
 |succ h ih=>exact λb d U ok hh=>fin b (d+h+1) U ok λr hr=>ih (dH r) d U (ic (bS ok r hr)) (pA (iv (cp r hr) hh))
theorem zY:∀(M:List Str) {F:List Str} {P:Str->Prop},St F P->St (M.foldl iq F) λx=>P x\/x∈M:=by
 intro xs_
 induction xs_ with
 |nil=>intro F P h;exact h.of λx=>⟨.inl,λq=>q.elim id λq=>by cases q⟩
 |cons y M ih_=>intro F P h;exact(ih_ (h.add y)).of λx=>by rw[or_assoc,PO]
theorem BL:∀(M L:List Str),eH (dk L) (dk M)=dk (M.foldl iq L):=by
 intro xs_
 induction xs_ with
 |nil=>intro L;exact rfl
 |cons x M ih_=>intro L;have e:eH (dk L) (dk (x::M))=eH (eZ x (.bool true) (dk L)) (dk M):=rfl;rw[e,Am,ih_,Tu]
theorem IK{S:List Str}(hn:J[n]?=some (.dct (dk F)))(h1:F.length<=8)(h2:S.length<=8):yb .update (.loc n) J [.loc J.length] (J++[.dct (dk S)])=.ok (.d .none) ((J.set n (.dct (dk (S.foldl iq F))))++[.dct (dk S)]):=by
 have hlt:=(PB.mp hn).1;have e:sK .update J (.loc n)=true:=by show (iF J (.loc n)).isSome=true;rw[gJ hn];rfl
 unfold yb;rw[e];show Gd .update (.loc n) [.loc J.length] (J++[.dct (dk S)])=_;rw[Bq (by rw[P3 hlt];exact hn) (aK _ _) (QG hlt) (by rw[zh,zh];exact iv (Qd h1 h2) (by decide)),BL,List.set_append_left _ _ hlt]theorem OC(U g:ac)(a c:Cell):(U++a::g)++[c]=U++a::(g++[c]):=PV ..
def ig(b:RL)(d:Nat):Prop:=∀U,∃S,St S (λx=>gP x b=true)/\aj prog d 8 [.d (.tuple (am b))] U=.ok (.loc U.length) (U++[.dct (dk S)])
theorem Bw(w7:ws.length<=8)(d:Nat)(v0:V)(U:ac){P:Str->Prop}(h:St F P)(hp:∀x,P x->x∈ws)(g:List Cell)(r:Rw)(ok:ma ws cs r)(H:ig (dH r) (d+1))(v2:V) :
   X2 λF' g'=>St F' (λx=>P x\/Bx x r=true)/\aL prog.1 (aj prog (d+1)) (.var 2) fL (aI r) [v0,.loc U.length,v2] (U++.dct (dk F)::g)=.ok (.next [v0,.loc U.length,.d (aI r)]) (U++.dct (dk F')::g'):=by
 have e:=jT r d (U++.dct (dk F)::g);have R:=ch prog.1 (aj prog (d+1)) fL [v0,.loc U.length,.d (aI r)] (U++.dct (dk F)::g);have no:St F λx=>P x\/false=true:=h.of λx=>⟨.inl,λq=>q.elim id λq=>by injection q⟩;have some1:∀y,St (iq F y) λx=>P x\/decide (y=x)=true:=λy=>(h.add y).of λx=>or_congr Iff.rfl ⟨λq=>decide_eq_true q.symm,λq=>(of_decide_eq_true q).symm⟩;have pt:=λy (h:Gc r=some y)=>yr (K:=[v0,.loc U.length,.d (aI r)]) (o:=.var 1) (i:=.call 4 (.cons (.var 2) .nil)) (e:=.bool true) rfl rfl (aM rfl (by rw[h]at e;exact e)) (St.few ‹_› w7 hp);cases r with
 |set y t=>exact⟨_,g,some1 y,aP ((R 0 e (pt y rfl)))⟩
 |tell t=>exact⟨F,g,no,aP ((R 0 e))⟩
 |whn t b=>exact⟨F,g,no,aP ((R 0 e))⟩
 |call o f ts=>
   clear H ok;cases o with
   |none=>exact⟨F,g,no,aP ((R 0 e))⟩
   |some y=>exact⟨_,g,(some1 y).of λx=>or_congr Iff.rfl (by show _↔decide (some y=some x)=true;rw[decide_eq_true_iff,decide_eq_true_iff,Option.some_inj]),aP ((R 0 e (pt y rfl)))⟩
 |aga n b=>
   refine(?_:X2 λF' g'=>St F' (λx=>P x\/(decide (n > 0)&&gP x b)=true)/\_);by_cases q:n > 0
   . obtain⟨S,hS,eS⟩:=H (U++.dct (dk F)::g);have u:=IK (g0 U (.dct (dk F)) g) (h.few w7 hp) (hS.few w7 λx=>uw x b ok);rw[st0,OC U g (.dct (dk (S.foldl iq F)))]at u;refine⟨S.foldl iq F,g++[.dct (dk S)],(zY S h).of λx=>?_,aP ((R 256 e (dT q) eS u))⟩;rw[decide_eq_true q,RN,hS.mem x];rfl
   . rw[decide_eq_false q];exact⟨F,g,no,aP ((R 256 e (dF q)))⟩
theorem th(w7:ws.length<=8)(d:Nat)(v0:V)(U:ac):∀(b:RL) {F:List Str} {P:Str->Prop} (g:List Cell) (v2:V),St F P->(∀x,P x->x∈ws)->fH ws cs b->(∀r∈lst b,ig (dH r) (d+1))->
   X3 λF' g' v2'=>St F' (λx=>P x\/gP x b=true)/\ba (aL prog.1 (aj prog (d+1)) (.var 2) fL) (am b) [v0,.loc U.length,v2] (U++.dct (dk F)::g)=.ok (.next [v0,.loc U.length,v2']) (U++.dct (dk F')::g')
 |.nil,F,P,g,v2,h,_,_,_=>⟨F,g,v2,h.of λx=>⟨.inl,λq=>q.elim id λq=>by injection q⟩,rfl⟩
 |.cons r b,F,P,g,v2,h,hp,ok,H=>by refine kk λUc k=>?_;obtain⟨LM,EH,bj,e⟩:=Bw w7 d v0 U h hp g r ok.1 (H r (PH ..)) v2;obtain⟨F',g',v2',h',ih⟩:=th w7 d v0 U b EH (.d (aI r)) bj (λx q=>q.elim (hp x) (uv x r ok.1)) ok.2 λq hq=>H q (PG _ hq);refine k ?_;exact⟨F',g',v2',h'.of λx=>by rw[or_assoc,<- Qc];rfl,a6 e ih⟩
theorem xJ(w7:ws.length<=8):∀(h:Nat) (b:RL) (d:Nat),fH ws cs b->hL b<=h->ig b (d+h+2):=by
 have fin:∀(b:RL) (d:Nat),fH ws cs b->(∀r∈lst b,ig (dH r) (d+1))->ig b (d+2):=λb d ok H U=>by obtain⟨F,g',v2',h,e⟩:=th w7 d (ah (am b)) U b [] .un St.nil (λ_ q=>q.elim) ok H;exact⟨F,h.of λx=>⟨λq=>q.resolve_left id,.inr⟩,Fz (g:=[]) (g':=g') rfl rfl (aT (ki rfl) (aT (a7 (aZ rfl rfl) e) (l4 (Dv rfl)))) rfl (.inr ⟨_,rfl⟩)⟩
 intro h
 induction h with
 |zero=>exact λb d ok hh=>fin b d ok λr hr=>by rw[nU (iv (cp r hr) hh)];exact(λd U=>⟨[],St.nil.of λx=>⟨False.elim,λq=>by injection q⟩,Fz (g:=[]) (g':=[]) rfl rfl rfl rfl (.inr ⟨_,rfl⟩)⟩:∀d,ig .nil (d+1)) d
 |succ h ih=>exact λb d ok hh=>fin b (d+h+1) ok λr hr=>ih (dH r) d (ic (bS ok r hr)) (pA (iv (cp r hr) hh))
theorem Ig(L:List Str)(x:Str):((dk L).lookup x).isSome=decide (x∈L):=by
 induction L with
 |nil=>rfl
 |cons y L ih=>
   show (List.lookup x ((y,PyData.bool true)::dk L)).isSome=_;rw[P4];by_cases h:x=y
   . rw[h,beq_self_eq_true,decide_eq_true (PH ..)];rfl
   . rw[beq_false_of_ne h];exact ih.trans (decide_eq_decide.mpr ⟨λq=>PG _ q,λq=>(PO.mp q).resolve_left h⟩)
theorem Hp(h:U[n]?=some (.dct (dk L)))(x:Str):bC .isIn (aA x) (.loc n) U=some (decide (x∈L)):=by
 have e:aQ U (.loc n)=none:=by show U[n]?.bind Kw=_;rw[h];rfl
 refine(?_:oc (aQ U (.loc n)) (λl=>xa (.str x) l) (oc (iF U (.loc n)) (λkvs=>some (kvs.lookup x).isSome) none)=_);rw[e,gJ h];exact congrArg some (Ig L x)theorem nj(h:U[n]?=some (.dct (dk L)))(x:Str):bC .notIn (aA x) (.loc n) U=some (!decide (x∈L)):=by show (bC .isIn (aA x) (.loc n) U).map _=_;rw[Hp h];(rfl)theorem g1(U:ac)(a b:Cell)(g:List Cell):(U++a::b::g)[U.length+1]?=some b:=by rw[PY (PW _ 1),Rv];(rfl)theorem Pg(U:ac)(a b b':Cell)(g:List Cell):(U++a::b::g).set (U.length+1) b'=U++a::b'::g:=by rw[TI _ _ (PW _ 1),Rv];rfl
theorem HR(w7:ws.length<=8)(cf:Nat->List V->ac->Res V)(v0 v3 v4:V)(U:ac)(Uc:List Str)(g:List Cell)(hm:m=U.length+1):∀(ns:List Str) {F:List Str} {P:Str->Prop} (v5:V),(∀x∈ns,x∈ws)->(∀x,P x->x∈ws)->St F P->X2 λF' v5'=>St F' (λx=>P x\/(x∈ns/\x∉Uc))/\ba (aL prog.1 cf (.var 5) gz) (ns.map .str) (F6 v0 (.loc U.length) (.loc m) v3 v4 v5) (U++.dct (dk F)::.dct (dk Uc)::g)=.ok (.next (F6 v0 (.loc U.length) (.loc m) v3 v4 v5')) (U++.dct (dk F')::.dct (dk Uc)::g):=by
 intro xs_
 induction xs_ with
 |nil=>intro F P v5 _ _ h;exact⟨F,v5,h.of λx=>⟨.inl,λq=>q.elim id λq=>by cases q.1⟩,rfl⟩
 |cons y ns ih_=>
   intro F P v5 hn hp h;have hy:=hn y (PH ..);have hn:=λx hx=>hn x (PG _ hx);have ck:=nj (U:=U++.dct (dk F)::.dct (dk Uc)::g) (by exact hm▸g1 ..) y;by_cases q:y∈Uc
   . rw[decide_eq_true q]at ck;obtain⟨F',v5',h',e⟩:=ih_ (aA y) hn hp h;refine⟨F',v5',h'.of λx=>or_congr Iff.rfl ⟨λz=>⟨PG _ z.1,z.2⟩,λz=>⟨(PO.mp z.1).resolve_left λe=>z.2 (e▸q),z.2⟩⟩,a6 (aP ?_) e⟩;exact(ch prog.1 cf gz (F6 v0 (.loc U.length) (.loc m) v3 v4 (aA y)) (U++.dct (dk F)::.dct (dk Uc)::g) 1 ck)
   . rw[decide_eq_false q]at ck;obtain⟨F',v5',h',e⟩:=ih_ (aA y) hn (λx z=>z.elim (hp x) λe=>e▸hy) (h.add y);refine⟨F',v5',h'.of λx=>?_,a6 (aP ?_) e⟩
     . rw[or_assoc,PO,or_and_right];exact or_congr Iff.rfl (or_congr ⟨λe=>⟨e,e▸q⟩,And.left⟩ Iff.rfl)
     . exact(ch prog.1 cf gz (F6 v0 (.loc U.length) (.loc m) v3 v4 (aA y)) (U++.dct (dk F)::.dct (dk Uc)::g) 1 ck (yr rfl rfl rfl (h.few w7 hp)))def lM(b:RL)(d:Nat):Prop:=∀U,∃S,St S (λx=>dv x b=true)/\aj prog d 9 [.d (.tuple (am b))] U=.ok (.loc U.length) (U++[.dct (dk S)])
theorem y8(w7:ws.length<=8)(d:Nat)(v0:V)(U:ac){P Q:Str->Prop}(hF:St F P)(hp:∀x,P x->x∈ws)(hK:St Uc Q)(hq:∀x,Q x->x∈ws)(g:List Cell)(hm:m=U.length+1)(r:Rw)(ok:ma ws cs r)(HS:ig (.cons r .nil) (d+5))(H:lM (dH r) (d+5))(v3 v4 v5:V) :
   X5 λF' K' g' v4' v5'=>A3 (St F' (λx=>P x\/(ye x r=true/\¬ Q x))) (St K' (λx=>Q x\/Bx x r=true)) (aL prog.1 (aj prog (d+5)) (.var 3) cP (aI r) (F6 v0 (.loc U.length) (.loc m) v3 v4 v5) (U++.dct (dk F)::.dct (dk Uc)::g)=.ok (.next (F6 v0 (.loc U.length) (.loc m) (.d (aI r)) v4' v5')) (U++.dct (dk F')::.dct (dk K')::g')):=by
 obtain⟨L,hL,eL⟩:=hZ w7 ok d (U++.dct (dk F)::.dct (dk Uc)::g)
 -- the names are found: what follows
 have tail:∀(N:List Str) (g:List Cell),(∀x∈N,x∈ws)->X4 λF' K' g' v5'=>A3 (St F' (λx=>P x\/(x∈N/\¬ Q x))) (St K' (λx=>Q x\/Bx x r=true)) (∀{q:Res Out},q=.ok (.next (F6 v0 (.loc U.length) (.loc m) (.d (aI r)) (al (N.map .str)) v5')) (U++.dct (dk F')::.dct (dk K')::g')->execs prog.1 (aj prog (d+5)) (tl (tl cP)) (F6 v0 (.loc U.length) (.loc m) (.d (aI r)) (al (N.map .str)) v5) (U++.dct (dk F)::.dct (dk Uc)::g)=q):=λN g hN=>by
   obtain⟨F',v5',h',e⟩:=HR w7 (aj prog (d+5)) v0 (.d (aI r)) (al (N.map .str)) U Uc g hm N v5 hN hp hF;obtain⟨S,hS,eS⟩:=HS (U++.dct (dk F')::.dct (dk Uc)::g);have hS:=hS.of λx=>by show (Bx x r||false)=true↔_;rw[Ru]
   have u:=IK (J:=U++.dct (dk F')::.dct (dk Uc)::g) (n:=m) (by rw[hm];exact g1 ..) (hK.few w7 hq) (hS.few w7 λx=>uv x r ok);have es:(U++Cell.dct (dk F')::.dct (dk Uc)::g).set m (.dct (dk (S.foldl iq Uc)))++[.dct (dk S)]=U++.dct (dk F')::.dct (dk (S.foldl iq Uc))::(g++[.dct (dk S)]):=by rw[hm,Pg];exact PV ..
   rw[es]at u;refine⟨F',S.foldl iq Uc,g++[.dct (dk S)],v5',h'.of λx=>by rw[hK.mem x],(zY S hK).of λx=>by rw[hS.mem x],λ{q} hq=>?_⟩;rw[hq];exact(ch prog.1 (aj prog (d+5)) (tl (tl cP)) (F6 v0 (.loc U.length) (.loc m) (.d (aI r)) (al (N.map .str)) v5) (U++.dct (dk F)::.dct (dk Uc)::g) 0 (a7 (aZ rfl rfl) e) eS u)
 have lw:∀x∈L,x∈ws:=λx hx=>oF ok ((hL.mem x).mp hx)
 -- with the names within,if they count
 have within:X2 λ(N:List Str) (g':List Cell)=>A3 ((∀x,x∈N↔ye x r=true)) ((∀x∈N,x∈ws)) (∀{q:Res Out},execs prog.1 (aj prog (d+5)) (tl (tl cP)) (F6 v0 (.loc U.length) (.loc m) (.d (aI r)) (al (N.map .str)) v5) (U++.dct (dk F)::.dct (dk Uc)::g')=q->execs prog.1 (aj prog (d+5)) (tl cP) (F6 v0 (.loc U.length) (.loc m) (.d (aI r)) (al (L.map .str)) v5) (U++.dct (dk F)::.dct (dk Uc)::g)=q):=by
   clear tail HS;have plain:(∀x,ye x r=decide (x∈own r))->∀x,x∈L↔ye x r=true:=λh x=>by rw[h x,hL.mem x,decide_eq_true_iff]
   have both:∃M:List Str,A4 ((∀x,x∈M↔dv x (dH r)=true)) ((fH ws cs (dH r))) (M.length<=8) (∃J,A4 (aj prog (d+5) 9 [ah (am (dH r))] (U++.dct (dk F)::.dct (dk Uc)::g)=.ok (.loc (U++.dct (dk F)::.dct (dk Uc)::g).length) J) (J=U++.dct (dk F)::.dct (dk Uc)::(g++[Cell.dct (dk M)])) (xV .list false [.loc (U++.dct (dk F)::.dct (dk Uc)::g).length] J=.ok (al (M.map .str)) J) (dj .add false (al (L.map .str)) (al (M.map .str)) J=.ok (al ((L++M).map .str)) J)):=by refine(H (U++.dct (dk F)::.dct (dk Uc)::g)).elim λM q9=>?_;have hM:=q9.1;have m7:=hM.few w7 λx=>du x _ (ic ok);refine⟨M,hM.mem,ic ok,m7,_,q9.2,PV ..,eO (aK _ _),?_⟩;rw[PR];exact kT (by rw[Pd,Pd];exact iv (Qd (hL.few w7 λx=>oF ok) m7) (by decide)) _
   clear H eL;clear ok;cases r with
   |set y t=>exact⟨L,g,plain λ_=>rfl,lw,λh=>uI rfl h⟩
   |tell t=>exact⟨L,g,plain λ_=>rfl,lw,λh=>uI rfl h⟩
   |call o f ts=>exact⟨L,g,plain λ_=>rfl,lw,λh=>uI rfl h⟩
   |whn t b=>refine kk λUc k=>?_;obtain⟨M,hM,okb,m7,J,e1,rfl,e3,e4⟩:=both;refine k ?_;refine⟨L++M,g++[Cell.dct (dk M)],λx=>?_,λx hx=>(PT.mp hx).elim (lw x) λq=>du x _ okb ((hM x).mp q),λ{q} h=>aT (IR rfl (aT (ki (jX rfl (JE (iB (au e1 rfl)) e3) e4)) rfl)) h⟩;rw[PT,hM x,hL.mem x,HN,Qc,decide_eq_true_iff];rfl
   |aga n b=>
     have nown:∀x,¬ x∈L:=λx hx=>by cases (hL.mem x).mp hx
     by_cases h:n > 0
     . refine kk λUc k=>?_;obtain⟨M,hM,okb,m7,J,e1,rfl,e3,e4⟩:=both;refine k ?_;refine⟨L++M,g++[Cell.dct (dk M)],λx=>?_,λx hx=>(PT.mp hx).elim (lw x) λq=>du x _ okb ((hM x).mp q),λ{q} z=>aT (IR (C2 rfl (cN (qs rfl (cN (Gm (cq rfl rfl rfl) (decide_eq_true h)))))) (aT (ki (jX rfl (JE (iB (au e1 rfl)) e3) e4)) rfl)) z⟩;rw[PT,hM x,AQ,decide_eq_true h,RN];exact⟨λq=>q.resolve_left (nown x),.inr⟩
     . refine⟨L,g,λx=>?_,lw,λz=>uI (C2 rfl (cN (qs rfl (cN (Gm (cq rfl rfl rfl) (decide_eq_false h)))))) z⟩;rw[AQ,decide_eq_false h,RU];exact⟨λq=>(nown x q).elim,λq=>by injection q⟩
 refine kk λUc k=>?_;obtain⟨N,g',hN,hw,e1⟩:=within;obtain⟨F',K',g'',v5',h1,h2,e2⟩:=tail N g' hw;refine k ?_;exact⟨F',K',g'',_,v5',h1.of λx=>by rw[hN x],h2,aP (aT (ki (aM rfl eL)) (e1 (e2 rfl)))⟩
theorem rQ(w7:ws.length<=8)(d:Nat)(v0:V)(U:ac)(hm:m=U.length+1):∀(b:RL) {F Uc:List Str} {P Q:Str->Prop} (g:List Cell) (v3 v4 v5:V),St F P->(∀x,P x->x∈ws)->St Uc Q->(∀x,Q x->x∈ws)->fH ws cs b->(∀r∈lst b,ig (.cons r .nil) (d+5))->(∀r∈lst b,lM (dH r) (d+5))->
   X6 λF' c g' v3' v4' v5'=>St F' (λx=>P x\/(dv x b=true/\¬ Q x))/\ba (aL prog.1 (aj prog (d+5)) (.var 3) cP) (am b) (F6 v0 (.loc U.length) (.loc m) v3 v4 v5) (U++.dct (dk F)::.dct (dk Uc)::g)=.ok (.next (F6 v0 (.loc U.length) (.loc m) v3' v4' v5')) (U++.dct (dk F')::c::g')
 |.nil,F,Uc,P,Q,g,v3,v4,v5,h,_,_,_,_,_,_=>⟨F,_,g,v3,v4,v5,h.of λx=>⟨.inl,λq=>q.elim id λq=>by cases q.1⟩,rfl⟩
 |.cons r b,F,Uc,P,Q,g,v3,v4,v5,hF,hp,hK,hq,ok,HS,H=>by refine kk λUc k=>?_;obtain⟨LM,Pz,EH,vZ,Mk,bj,KC,e⟩:=y8 w7 d v0 U hF hp hK hq g hm r ok.1 (HS r (PH ..)) (H r (PH ..)) v3 v4 v5;obtain⟨F',c,g',v3',v4',v5',h',ih⟩:=rQ w7 d v0 U hm b EH (.d (aI r)) vZ Mk bj (λx q=>q.elim (hp x) λq=>EY x r ok.1 q.1) KC (λx q=>q.elim (hq x) (uv x r ok.1)) ok.2 (λq hq=>HS q (PG _ hq)) λq hq=>H q (PG _ hq);refine k ?_;refine⟨F',c,g',v3',v4',v5',h'.of λx=>?_,a6 e ih⟩;show _↔P x\/((ye x r||(!Bx x r&&dv x b))=true/\¬ Q x);rw[or_assoc];refine or_congr Iff.rfl ?_;cases ye x r<;>cases Bx x r<;>cases dv x b<;>simp
variable {l:List (Str×PyData)}
theorem nE(h1:J.take U.length=U)(h2:J[U.length]?=some (.dct l)):nH U.length (.ret (.loc U.length)) J=.ok (.loc U.length) (U++[.dct l]):=by
 show (if U.length < U.length then _ else match J[U.length]? with
   |some (.lst l)=>Res.ok (V.loc U.length) (J.take U.length++[Cell.lst l])
   |some (.dct l)=>.ok (.loc U.length) (J.take U.length++[Cell.dct l])
   |_=>.bad)=_
 rw[if_neg (Rt _),h2,h1]theorem cS(U g:ac):(U++g).take U.length=U:=TG rfl
theorem uu(w7:ws.length<=8)(ok:fH ws cs b){D:Nat}(h:hL b+2<=D):ig b D:=by obtain⟨d,rfl⟩:=o1 h;exact xJ w7 (hL b) b d ok (Qb _)theorem wg(w7:ws.length<=8){b:RL}(ok:fH ws cs b)(hr:r∈lst b){D:Nat}(hh:hL b<=h)(hD:h+2<=D):ig (.cons r .nil) D:=uu (b:=.cons r .nil) w7 ⟨bS ok r hr,trivial⟩ (iv (PL (QE.mpr ⟨iv (cp r hr) hh,PU _⟩) 2) hD)
theorem jU(w7:ws.length<=8):∀(h:Nat) (b:RL) (d:Nat),fH ws cs b->hL b<=h->lM b (d+h+6):=by
 have fin:∀(b:RL) (d:Nat),fH ws cs b->(∀r∈lst b,ig (.cons r .nil) (d+5))->(∀r∈lst b,lM (dH r) (d+5))->lM b (d+6):=λb d ok HS H U=>by
   obtain⟨F,c,g',v3',v4',v5',h,e⟩:=rQ w7 d (ah (am b)) U (m:=(U++[Cell.dct []]).length) PC b [] .un .un .un St.nil (λ_ q=>q.elim) St.nil (λ_ q=>q.elim) ok HS H;have ea:U++Cell.dct (dk [])::.dct (dk [])::[]=(U++[.dct []])++[.dct []]:=by rw[PV];rfl
   rw[ea]at e;exact⟨F,h.of λx=>⟨λq=>(q.resolve_left id).1,λq=>.inr ⟨q,id⟩⟩,((ww prog 9 (d+5) [ah (am b)] U rfl 0 (a7 (aZ rfl rfl) e))).trans (nE (cS ..) (g0 ..))⟩
 intro h
 induction h with
 |zero=>exact λb d ok hh=>fin b d ok (λr hr=>wg w7 ok hr hh (iv (by decide) (P9 5 d))) λr hr=>by rw[nU (iv (cp r hr) hh)];exact(λd U=>⟨[],St.nil.of λx=>⟨False.elim,λq=>by injection q⟩,((ww prog 9 d [ah (am .nil)] U rfl 0 (a7 (aZ rfl rfl) rfl))).trans (nE (by rw[PV];exact cS ..) (by rw[PV];exact g0 ..))⟩:∀d,lM .nil (d+1)) (d+4)
 |succ h ih=>exact λb d ok hh=>fin b (d+h+1) ok (λr hr=>wg w7 ok hr hh (by rw[Qq d,Qq d];exact iv (Qh (by decide) _) (P9 _ d))) λr hr=>ih (dH r) d (ic (bS ok r hr)) (pA (iv (cp r hr) hh))noncomputable def nI(k:Nat):PyData:=.int (k:Int)def pD(p:List Nat):PyData:=.tuple (p.map nI)def aR(p:List Nat×Rw):PyData:=.tuple [pD p.1,aI p.2]
mutual
def vR(pl:List Nat):Rw->List (List Nat×Rw)
 |.whn _ b=>jt pl 0 b
 |.aga _ b=>jt pl 0 b
 |.set _ _=>[]
 |.tell _=>[]
 |.call _ _ _=>[]def jt(pl:List Nat)(k:Nat):RL->List (List Nat×Rw)
 |.nil=>[]
 |.cons r b=>(pl++[k],r)::(vR (pl++[k]) r++jt pl (k+1) b)
end
theorem uL(pl:List Nat)(k:Nat):jt pl k .nil=[]:=(rfl)theorem uK(pl:List Nat)(r:Rw):vR pl r=jt pl 0 (dH r):=by cases r<;>rfl
mutual
theorem qd(pl:List Nat):∀r:Rw,(vR pl r).length+1=nR r
 |.whn _ b=>congrArg (·+1) (eI pl 0 b)
 |.aga _ b=>congrArg (·+1) (eI pl 0 b)
 |.set _ _=>rfl
 |.tell _=>rfl
 |.call _ _ _=>(rfl)theorem eI(pl:List Nat)(k:Nat):∀b:RL,(jt pl k b).length=nL b
 |.nil=>rfl
 |.cons r b=>by show (vR (pl++[k]) r++jt pl (k+1) b).length+1=nR r+nL b;rw[PC,eI pl (k+1) b,<- qd (pl++[k]) r,QR]
end
theorem pT{pl:List Nat}(h:pl.length<=100)(k:Nat)(U:ac):dj .add false (.d (pD pl)) (ah [.int (k:Int)]) U=.ok (.d (pD (pl++[k]))) U:=by unfold pD;rw[PR];exact ie (by rw[Pd];exact iv (PP h) (by decide)) (U)theorem O7(L M N:List B)(x:B):(L++[x]++M)++N=L++x::(M++N):=by rw[PV,PV];(rfl)variable {l:List PyData}theorem mT(hl:l.length<=900000)(x:PyData):yb .append (.loc U.length) (U++[.lst l]) [.d x] (U++[.lst l])=.ok (.d .none) (U++[.lst (l++[x])]):=by rw[FL (aK _ _) hl,fU]theorem Lh{y:List PyData}(hl:l.length+y.length<=100000):yb .extend (.loc U.length) (U++[.lst l]) [al y] (U++[.lst l])=.ok (.d .none) (U++[.lst (l++y)]):=by have e:sK .extend (U++[.lst l]) (.loc U.length)=true:=wT (aK _ _);unfold yb;rw[e];show Gd .extend (.loc U.length) [al y] (U++[.lst l])=_;rw[Cc (aK _ _) rfl (iv hl (by decide)),fU]
theorem An{a:Nat}(pl:List Nat)(k:Nat)(r:Rw)(b:RL)(h:a+nL (.cons r b)<=n):a<=n/\a+1+(vR (pl++[k]) r).length+nL b<=n:=by
 have e:a+1+(vR (pl++[k]) r).length+nL b=a+nL (.cons r b):=by show _=a+(nR r+nL b);rw[<- qd (pl++[k]) r,Qq a,Qw 1,Qq]
 exact⟨iv (PW _ _) h,e▸h⟩def kU(f:Nat)(b:RL)(pl:List Nat)(d:Nat):Prop:=∀U,pc d f [.d (pD pl),.d (.tuple (am b))] U (.d (.list ((jt pl 0 b).map aR)))
theorem sY{pl:List Nat}(hpl:pl.length<=100)(d:Nat)(v1:V)(U:ac):∀(b:RL) (k:Nat) (L:List PyData) (v3 v4:V),L.length+nL b<=9000->(∀r∈lst b,∀k,kU 7 (dH r) (pl++[k]) (d+2))->
   X2 λv3' v4'=>ba (aL prog.1 (aj prog (d+2)) (.tup [3,4]) mD) (((am b).zipIdx k).map λp=>.tuple [.int p.2,p.1]) (F5 (.d (pD pl)) v1 (.loc U.length) v3 v4) (U++[.lst L])=.ok (.next (F5 (.d (pD pl)) v1 (.loc U.length) v3' v4')) (U++[.lst (L++(jt pl k b).map aR)])
 |.nil=>@λk L v3 v4 _ _=>⟨v3,v4,by rw[uL,RG,P6];rfl⟩
 |.cons r b=>@λk L v3 v4 hl IH=>by
   obtain⟨h1,h2⟩:=An pl k r b hl;have hl2:(L++[aR (pl++[k],r)]++(vR (pl++[k]) r).map aR).length+nL b<=9000:=by rw[PC,PC,Pd];exact h2
   obtain⟨v3',v4',ih⟩:=sY hpl d v1 U b (k+1) (L++[aR (pl++[k],r)]++(vR (pl++[k]) r).map aR) (.d (nI k)) (.d (aI r)) hl2 λx hx=>IH x (PG _ hx);have w:=IH r (PH ..) k (U++[.lst (L++[aR (pl++[k],r)])]);rw[<- uK]at w;rw[O7,<- PR]at ih;exact⟨v3',v4',a6 (d8 rfl ((ch prog.1 (aj prog (d+2)) mD (F5 (.d (pD pl)) v1 (.loc U.length) (ak (k:Int)) (.d (aI r))) (U++[Cell.lst L]) 3 (pT hpl k _) (mT (iv h1 (by decide)) _) (pT hpl k _) (pv r d _) w (Lh (by rw[<- PC];exact iv (QO hl2) (by decide)))))) ih⟩theorem Gl{pl:List Nat}(hpl:pl.length<=100)(d:Nat)(hn:nL b<=9000)(IH:∀r∈lst b,∀k,kU 7 (dH r) (pl++[k]) (d+2)):kU 7 b pl (d+3):=λU=>by obtain⟨v3',v4',lp⟩:=sY hpl d (ah (am b)) U b 0 [] .un .un (by rw[Q8,Rk];exact hn) IH;exact(aX prog 7 (d+2) [.d (pD pl),ah (am b)] U rfl 0 (a7 (oJ rfl) lp) (ly _ _) (cG _ _))
theorem oQ{F:RL->List Nat->Nat->Prop}{c:Nat}(h0:∀pl d,F .nil pl (d+c))(h:∀(b:RL) (pl:List Nat) (d:Nat),pl.length<=100->nL b<=9000->(∀r∈lst b,∀k,F (dH r) (pl++[k]) (d+c))->F b pl (d+c+1)):∀(n:Nat) (b:RL) (pl:List Nat) (d:Nat),hL b<=n->nL b<=9000->pl.length+n<=100->F b pl (d+n+c+1)
 |0=>@λb pl d hh hn hp=>h b pl d hp hn λr hr k=>by rw[nU (iv (cp r hr) hh)];exact h0 _ d
 |n+1=>@λb pl d hh hn hp=>h b pl (d+n+1) (iv (PW _ _) hp) hn λr hr k=>by have:=oQ h0 h n (dH r) (pl++[k]) d (pA (iv (cp r hr) hh)) (zE hr hn) (by rw[PC,Qq,Qw _ n];exact hp);rw[QR (d+n) 1 c];exact(this)theorem gb:∀(n:Nat) (b:RL) (pl:List Nat) (d:Nat),hL b<=n->nL b<=9000->pl.length+n<=100->kU 7 b pl (d+n+3):=oQ (λpl d U=>(aX prog 7 (d+1) [.d (pD pl),ah (am .nil)] U rfl 0 (a7 (oJ rfl) rfl) (ly _ _) (cG _ _))) λb pl d hp hn H=>Gl hp d hn (H)theorem LD{x:List PyData}(h:U[n]?=some (.lst x))(y:List PyData)(hl:x.length+y.length<=100000):dj .add true (.loc n) (al y) U=.ok (.loc U.length) (U++[.lst (x++y)]):=by show b2 (aQ U (.loc n)) (some y) (λx y=>if x.length+y.length<=LIM then bh true (x++y) U else .bad) .bad=_;rw[gV h];exact if_pos (iv hl (by decide))
theorem kM{l0 l:List B}(h:l0.drop k=a::l):l0[k]?=some a/\l0.drop (k+1)=l:=by
 constructor
 . have:=congrArg (λl=>l[0]?) h;rw[R3,Nat.add_zero]at this;exact this
 . rw[<- List.drop_drop,h];rfl
theorem o2{pl:List Nat}(hpl:pl.length<=100)(d:Nat)(b0:RL)(U:ac):∀(b:RL) (k:Nat) (L:List PyData) (g:ac) (v3:V),(am b0).drop k=am b->L.length+nL b<=9000->(∀r∈lst b,∀k,kU 41 (dH r) (pl++[k]) (d+1))->
   X2 λg' v3'=>ba (aL prog.1 (aj prog (d+1)) (.var 3) gZ) ((List.range' k (am b).length).map λ(k:Nat)=>PyData.int (k:Int)) [.d (pD pl),ah (am b0),.loc (U++g).length,v3] ((U++g)++[.lst L])=.ok (.next [.d (pD pl),ah (am b0),.loc (U++g').length,v3']) ((U++g')++[.lst (L++(jt pl k b).map aR)])
 |.nil=>@λk L g v3 _ _ _=>⟨g,v3,by rw[uL,RG,P6];rfl⟩
 |.cons r b=>@λk L g v3 hd hl IH=>by
   have q9:=An pl k r b hl;have h1:=q9.1;have hl2:(L++[aR (pl++[k],r)]++(vR (pl++[k]) r).map aR).length+nL b<=9000:=by rw[PC,PC,Pd];exact q9.2
   have q9:=kM hd;have hk:=q9.1;have hI:∀J:ac,cK (ah (am b0)) (ak (k:Int)) J=some (.d (aI r)):=λJ=>by rw[df,hk];rfl
   obtain⟨g',v3',ih⟩:=o2 hpl d b0 U b (k+1) (L++[aR (pl++[k],r)]++(vR (pl++[k]) r).map aR) (g++[.lst (L++[aR (pl++[k],r)])]) (ak (k:Int)) q9.2 hl2 λx hx=>IH x (PG _ hx);have w:=IH r (PH ..) k ((U++g)++[.lst (L++[aR (pl++[k],r)])]);rw[<- uK]at w;rw[O7,<- PR,<- PV]at ih;exact⟨g',v3',a6 (aP ((ch prog.1 (aj prog (d+1)) gZ [.d (pD pl),ah (am b0),.loc (U++g).length,ak (k:Int)] ((U++g)++[Cell.lst L]) 31 (pT hpl k _) (hI _) (mT (iv h1 (by decide)) _) (pT hpl k _) (hI _) (sh r d _) w (LD (aK (U++g) (.lst (L++[aR (pl++[k],r)]))) ((vR (pl++[k]) r).map aR) (by rw[<- PC];exact iv (QO hl2) (by decide)))))) ih⟩theorem gS:∀b:RL,(am b).length<=nL b
 |.nil=>Qb _
 |.cons r b=>by show (am b).length+1<=nR r+nL b;rw[Qw,<- Bb r];exact Qd (P9 ..) (gS b)theorem qH(h:n<=9000):-100000<=(n:Int)/\(n:Int)<=100000:=⟨QN (by decide) (Qi n),QX.mpr (iv h (by decide))⟩theorem BP{pl:List Nat}(hpl:pl.length<=100)(d:Nat)(hn:nL b<=9000)(IH:∀r∈lst b,∀k,kU 41 (dH r) (pl++[k]) (d+1)):kU 41 b pl (d+2):=λU=>by obtain⟨g',v3',lp⟩:=o2 hpl d b U b 0 [] [] .un rfl (by rw[Q8,Rk];exact hn) IH;rw[P6,<- Sg,<- fk]at lp;exact(aX prog 41 (d+1) [.d (pD pl),ah (am b)] U rfl 0 (a7 (iC rfl (qH (iv (gS b) hn))) lp) (ly _ _) (by rw[PV];exact cS ..))theorem kP:∀(n:Nat) (b:RL) (pl:List Nat) (d:Nat),hL b<=n->nL b<=9000->pl.length+n<=100->kU 41 b pl (d+n+2):=oQ (λpl d U=>(aX prog 41 d [.d (pD pl),ah (am .nil)] U rfl 0 (a7 (iC rfl (by decide)) rfl) (ly _ _) (cG _ _))) λb pl d hp hn H=>BP hp d hn (H)noncomputable def pI(a:Int)(ms:List Int)(z:Int):PyData:=.tuple (.int a::(ms.map PyData.int++[.int z]))noncomputable def gi{B:Type}(l:List B)(i:Int):Option B:=if 0<=i then l[i.toNat]? else none
theorem g9(l:List B)(k:Nat):gi l (k:Int)=l[k]?:=if_pos (Qi k)variable {l:List B}
theorem AM(hn:l.length=n):(0<=i/\i < (n:Int))↔(gi l i).isSome=true:=by
 subst hn;unfold gi;by_cases h:0<=i
 . obtain⟨k,rfl⟩:=QU h;rw[if_pos h];show (0<=(k:Int)/\(k:Int) < (l.length:Int))↔(l[k]?).isSome=true;rw[Qj];exact⟨λq=>⟨_,PD (Qr.mp q.2)⟩,λ⟨a,q⟩=>⟨h,Qr.mpr (PB.mp q).1⟩⟩
 . rw[if_neg h];exact⟨λq=>(h q.1).elim,λq=>by injection q⟩variable {G:Nat->Option PyData}
theorem C1{a b:E}{n:Int}(h1:af G cf a K U=.ok (ak i) U)(h2:af G cf b K U=.ok (ak n) U):af G cf (.cmp2 .le .lt (.int 0) a b) K U=.ok (.d (.bool (decide (0<=i/\i < n)))) U:=by
 rw[vm];refine au rfl (au h1 (au rfl ?_));by_cases h:0<=i
 . rw[decide_eq_true h];refine(au h2 rfl:_=Res.ok (V.d (.bool (decide (i < n)))) U).trans ?_;rw[decide_eq_decide.mpr (show (i < n)↔(0<=i/\i < n) from ⟨λq=>⟨h,q⟩,And.right⟩)]
 . rw[decide_eq_false h];show Res.ok (V.d (.bool false)) U=_;rw[decide_eq_false λq=>h q.1]
theorem Bp{a b:E}(hn:l.length=n)(h1:af G cf a K U=.ok (ak i) U)(h2:af G cf b K U=.ok (ak n) U):af G cf (.cmp2 .le .lt (.int 0) a b) K U=.ok (.d (.bool (gi l i).isSome)) U:=by
 rw[C1 h1 h2];cases hs:(gi l i).isSome with
 |true=>rw[decide_eq_true ((AM hn).mpr hs)]
 |false=>rw[decide_eq_false λq=>by rw[(AM hn).mp q]at hs;injection hs]theorem bB(b:RL):(lst b).length=(am b).length:=by rw[c8,Pd]
theorem jo(h:gi (lst b) i=some r)(U:ac):cK (ah (am b)) (ak i) U=some (.d (aI r)):=by
 unfold gi at h;by_cases q:0<=i
 . obtain⟨k,rfl⟩:=QU q;rw[if_pos q]at h;have h:(lst b)[k]?=some r:=h;show cK _ (ak (k:Int)) U=_;rw[df,c8,Qe,h];rfl
 . rw[if_neg q]at h;injection h
theorem bE(h:fs[j]?=some f)(U:ac):cK (ah (fs.map ao)) (ak (j:Int)) U=some (.d (ao f)):=by rw[df,Qe,h];(rfl)theorem vB(h:sL r=true)(U:ac):cK (.d (aI r)) (ak 2) U=some (ah (am (dH r))):=by cases r<;>first|rfl|injection h
theorem lh(a:Int)(ms:List Int)(z:Int)(U:ac):cK (.d (pI a ms z)) (ak (-1)) U=some (ak z):=xc (.int a::ms.map PyData.int) (.int z) U
theorem BA(a:B)(l:List B)(x:B):aC (a::(l++[x])) (some 1) (some (-1))=l:=by
 have e:(-1:Int)+((a::(l++[x])).length:Int)=((l.length+1:Nat):Int):=by rw[PZ,PC,QS];exact Kq _
 have h:jq (a::(l++[x])).length (-1)=l.length+1:=by unfold jq;rw[if_pos (by decide),e,SU (QX.mpr (by rw[PZ,PC];exact PW ..)),Sj (Qi _)];rfl
 refine(?_:((a::(l++[x])).drop (jq (a::(l++[x])).length ((1:Nat):Int))).take (jq (a::(l++[x])).length (-1) - jq (a::(l++[x])).length ((1:Nat):Int))=l);rw[h,kO,Qo (by rw[PZ];exact P9 ..),Nat.add_sub_cancel];exact TG (rfl)theorem yB(a:Int)(ms:List Int)(z:Int)(U:ac):gq false (.d (pI a ms z)) (some (ak 1)) (some (ak (-1))) U=.ok (ah (ms.map PyData.int)) U:=by unfold pI;rw[gp _ _ (fu _) (fu _),BA]theorem lg(a:Int)(ms:List Int)(z:Int):¬ (((PyData.int a::(ms.map PyData.int++[.int z])).length:Nat):Int) < 2:=λq=>by rw[PZ,PC]at q;exact absurd (Qr.mp q) (SQ.mpr (P9 2 _))def j3(b:RL):List Int->Option RL
 |[]=>some b
 |i::is=>match gi (lst b) i with
   |some r=>match sL r with
     |true=>j3 (dH r) is
     |false=>none
   |none=>(none)theorem uj(b:RL)(i:Int)(is:List Int):j3 b (i::is)=(match gi (lst b) i with|some r=>(match sL r with|true=>j3 (dH r) is|false=>none) | none=>none):=(rfl)theorem ui(h:gi (lst b) i=none)(is:List Int):j3 b (i::is)=none:=by rw[uj,h]theorem oo(h:gi (lst b) i=some r)(hb:sL r=false)(is:List Int):j3 b (i::is)=none:=by rw[uj,h];show (match sL r with|true=>_|false=>_)=_;rw[hb]theorem pW(h:gi (lst b) i=some r)(hb:sL r=true)(is:List Int):j3 b (i::is)=j3 (dH r) is:=by rw[uj,h];show (match sL r with|true=>_|false=>_)=_;rw[hb]noncomputable def Px(o:Option RL)(f:RL->Fm)(U:ac):Res Out:=match o with
 |some c=>.ok (.next (f c)) U
 |none=>.ok (.exc 1 []) (U)def O6(o:Option RL):V:=match o with
 |some c=>.d (.tuple (am c))
 |none=>.exc 1 []theorem kn(a:Int)(ms:List Int)(z:Int)(U:ac):cK (.d (pI a ms z)) (ak 0) U=some (ak a):=df ..
theorem Im(d:Nat)(v0 v1:V)(U:ac):∀(ms:List Int) (b:RL) (v3:V),∃v3',ba (aL prog.1 (aj prog (d+1)) (.var 3) jM) (ms.map PyData.int) [v0,v1,ah (am b),v3] U=Px (j3 b ms) (λc=>[v0,v1,ah (am c),v3']) U:=by
 intro xs_
 induction xs_ with
 |nil=>intro b v3;exact⟨v3,rfl⟩
 |cons i is ih_=>
   intro b v3;have c1:=Bp (G:=prog.1) (cf:=aj prog (d+1)) (a:=.var 3) (b:=.bi .len false (.cons (.var 2) .nil)) (K:=[v0,v1,ah (am b),ak i]) (U:=U) (bB b) rfl rfl;have R:=ch prog.1 (aj prog (d+1)) jM [v0,v1,ah (am b),ak i] U;cases hr:gi (lst b) i with
   |none=>rw[hr]at c1;rw[ui hr];exact⟨.un,Ei (aP ((R 0 c1)))⟩
   |some r=>
     replace c1:=hr▸c1;have gr:=jo hr U;have hh:=mn r d U;cases hb:sL r with
     |false=>rw[hb]at hh;rw[oo hr hb];exact⟨.un,Ei (aP ((R 4 c1 gr hh)))⟩
     |true=>rw[hb]at hh;rw[pW hr hb];refine(ih_ (dH r) (ak i)).elim λv3' ih=>?_;exact⟨v3',a6 (aP ((R 52 c1 gr hh gr (vB hb U)))) ih⟩
theorem kb(hj:fs[j]?=some f)(ms:List Int)(z:Int)(d:Nat)(U:ac):pc (d+2) 10 [ah (fs.map ao),.d (pI (j:Int) ms z)] U (O6 (j3 f.rs ms)):=by
 refine(Im d (ah (fs.map ao)) (.d (pI (j:Int) ms z)) U ms f.rs .un).elim λv3' lp=>?_;have c0:=Bp (G:=prog.1) (cf:=aj prog (d+1)) (a:=.idx (.var 1) (.int 0)) (b:=.bi .len false (.cons (.var 0) .nil)) (K:=[ah (fs.map ao),.d (pI (j:Int) ms z),.un,.un]) (U:=U) (Pd _).symm (bZ rfl rfl (kn ..)) rfl;rw[g9,hj]at c0;have R:=aX prog 10 (d+1) [ah (fs.map ao),.d (pI (j:Int) ms z)] U rfl;have gf:=bE hj U;have it:=aZ (qr (G:=prog.1) (cf:=aj prog (d+1)) (a:=.var 1) (lo:=.cons (.int 1) .nil) (hi:=.cons (.neg (.int 1)) .nil) (K:=[ah (fs.map ao),.d (pI (j:Int) ms z),ah (am f.rs),.un]) rfl rfl rfl (yB (j:Int) ms z U)) rfl;cases hw:j3 f.rs ms with
 |some c=>rw[hw]at lp;exact(R 104 (dF (lg _ _ _)) c0 (kn (j:Int) ms z U) gf (a7 it lp) (same U))
 |none=>replace lp:=hw▸lp;exact(R 104 (dF (lg _ _ _)) c0 (kn (j:Int) ms z U) gf (a7 it lp) (same U))theorem um{a:Int}(ha:gi fs a=none)(ms:List Int)(z:Int)(d:Nat)(U:ac):pc (d+2) 10 [ah (fs.map ao),.d (pI a ms z)] U (.exc 1 []):=by have c0:=Bp (G:=prog.1) (cf:=aj prog (d+1)) (a:=.idx (.var 1) (.int 0)) (b:=.bi .len false (.cons (.var 0) .nil)) (K:=[ah (fs.map ao),.d (pI a ms z),.un,.un]) (U:=U) (Pd _).symm (bZ rfl rfl (kn ..)) rfl;rw[ha]at c0;exact(aX prog 10 (d+1) [ah (fs.map ao),.d (pI a ms z)] U rfl 8 (dF (lg _ _ _)) c0 (same U))def N7:Option Rw->V
 |some r=>.d (aI r)
 |none=>.exc 1 []variable {z:Int}{ms:List Int}{v:PyData}{c:RL}
theorem BG{a:Int}(d:Nat)(U:ac)(h:pc (d+2) 10 [.d v,.d (pI a ms z)] U (ah (am c))):pc (d+3) 11 [.d v,.d (pI a ms z)] U (N7 (gi (lst c) z)):=by
 have c0:=Bp (G:=prog.1) (cf:=aj prog (d+2)) (a:=.idx (.var 1) (.neg (.int 1))) (b:=.bi .len false (.cons (.var 2) .nil)) (K:=[.d v,.d (pI a ms z),ah (am c)]) (bB c) (bZ rfl rfl (lh a ms z U)) rfl;have R:=aX prog 11 (d+2) [.d v,.d (pI a ms z)] U rfl;cases hz:gi (lst c) z with
 |none=>rw[hz]at c0;exact(R 0 h c0 (same U))
 |some r=>rw[hz]at c0;exact(R 6 h c0 (lh a ms z U) (jo hz U) (same U))
inductive Pth:RL->List Nat->RL->Prop
 |nil (b:RL):Pth b [] b
 |cons {b c:RL} {r:Rw} {k:Nat} {ks:List Nat}:(lst b)[k]?=some r->sL r=true->Pth (dH r) ks c->Pth b (k::ks) c
noncomputable def iN(p:List Nat):List Int:=p.map λ(k:Nat)=>(k:Int)noncomputable def aJ(j:Nat)(pre:List Nat)(z:Nat):List Nat:=j::(pre++[z])theorem l9(j:Nat)(pre:List Nat)(z:Nat):pD (aJ j pre z)=pI (j:Int) (iN pre) (z:Int):=by unfold pD aJ pI iN;rw[Qs,PR,Qx];(rfl)variable {pre:List Nat}
theorem qp(h:Pth b pre c):j3 b (iN pre)=some c:=by
 induction h with
 |nil b=>rfl
 |@cons b c r k ks hk hb _ ih=>exact(pW ((g9 _ k).trans hk) hb (iN ks)).trans (ih)variable {z:Nat}theorem iK(hj:fs[j]?=some f)(hp:Pth f.rs pre c)(hz:(lst c)[z]?=some r)(d:Nat)(U:ac):pc (d+3) 11 [ah (fs.map ao),.d (pD (aJ j pre z))] U (.d (aI r)):=by have e:=kb hj (iN pre) (z:Int) d U;rw[qp hp]at e;unfold pc;rw[l9,BG d U e,g9,hz];rfl
mutual
theorem DQ(pl:List Nat):∀(r:Rw) (p:List Nat×Rw),p∈vR pl r->sL r=true/\X3 λ(pre:List Nat) (z:Nat) (c:RL)=>A3 (p.1=pl++(pre++[z])) (Pth (dH r) pre c) ((lst c)[z]?=some p.2)
 |.whn t b=>@λp hp=>⟨rfl,km pl b b 0 rfl p hp⟩
 |.aga n b=>@λp hp=>⟨rfl,km pl b b 0 rfl p hp⟩
 |.set _ _=>@λp hp=>by cases hp
 |.tell _=>@λp hp=>by cases hp
 |.call _ _ _=>@λp hp=>by cases hp
theorem km(pl:List Nat)(b0:RL):∀(b:RL) (k:Nat),(lst b0).drop k=lst b->∀p∈jt pl k b,X3 λ(pre:List Nat) (z:Nat) (c:RL)=>A3 (p.1=pl++(pre++[z])) (Pth b0 pre c) ((lst c)[z]?=some p.2)
 |.nil=>@λk _ p hp=>by cases hp
 |.cons r b=>@λk hd p hp=>by
   obtain⟨g,hd'⟩:=kM hd;rcases PO.mp hp with rfl|hp
   . exact⟨[],k,b0,rfl,.nil b0,g⟩
   . rcases PT.mp hp with hp|hp
     . obtain⟨hb,pre,z,c,e,h1,h2⟩:=DQ _ r p hp;exact⟨k::pre,z,c,by rw[e,PV];rfl,.cons g hb h1,h2⟩
     . exact km pl b0 b (k+1) hd' p hp
end
theorem gv(h:Pth b pre c):pre.length<=hL b:=by
 induction h with
 |nil b=>exact PU _
 |@cons b c r k ks hk hb _ ih=>
   have h2:hL (dH r)+1=hR r:=by cases r<;>first|rfl|injection hb
   exact iv (PP ih) (iv (Qm h2) (cp r (PF hk)))def bQ(n:Nat)(b:RL):RL:=jH ((lst b).drop n)theorem vn(h:fH ws cs b):fH ws cs (bQ n b):=mz _ λr hr=>bS h r (QH hr)theorem vp(h:hL b<=m):hL (bQ n b)<=m:=rK _ λr hr=>iv (cp r (QH hr)) h
theorem fj(b:RL)(k:Nat)(U:ac):gq false (ah (am b)) (some (ak ((k:Int)+1))) none U=.ok (ah (am (bQ (k+1) b))) U:=by
 have e:am (bQ (k+1) b)=(am b).drop (k+1):=by unfold bQ;rw[jA,c8,Rg]
 rw[gp _ _ (fu _) gw,e];exact congrArg (λx=>Res.ok (ah x) U) (mt (am b) (k+1))def lO(x:Str)(Ud:RL)(l:Bool):Bool:=dv x Ud||(!gP x Ud&&l)def Lk(x:Str)(r:Rw)(l:Bool):Bool:=match r with
 |.aga n b=>l||(decide (n > 1)&&dv x b)
 |_=>(l)def uY(x:Str):RL->List Nat->Nat->Bool->Bool
 |b,[],z,l=>lO x (bQ (z+1) b) l
 |b,k::ks,z,l=>match (lst b)[k]? with
   |some r=>uY x (dH r) ks z (Lk x r (lO x (bQ (k+1) b) l))
   |none=>(l)theorem Es(x:Str)(b:RL)(k:Nat)(ks:List Nat)(z:Nat)(l:Bool):uY x b (k::ks) z l=(match (lst b)[k]? with|some r=>uY x (dH r) ks z (Lk x r (lO x (bQ (k+1) b) l)) | none=>l):=(rfl)theorem rD(h:(lst b)[k]?=some r)(ks:List Nat)(z:Nat)(l:Bool):uY x b (k::ks) z l=uY x (dH r) ks z (Lk x r (lO x (bQ (k+1) b) l)):=by rw[Es,h]variable {i:Nat}
theorem IJ{Ud:RL}{l:Bool}(h1:af prog.1 cf (.var i) K U=.ok (.d (j0 (dv x Ud) (!gP x Ud))) U)(h2:af prog.1 cf (.var 5) K U=.ok (.d (.bool l)) U):af prog.1 cf (.bop false (.cons (.idx (.var i) (.int 0)) (.cons (.bop true (.cons (.idx (.var i) (.int 1)) (.cons (.var 5) .nil))) .nil))) K U=.ok (.d (.bool (lO x Ud l))) U:=
 C3 (bZ h1 rfl rfl) λ_=>cN (lV (bZ h1 rfl rfl) λ_=>cN h2)
theorem Hl(d:Nat)(x:Str)(v0 v1 v3:V)(U:ac):∀(pre:List Nat) (b c:RL) (l:Bool) (v6 v7 v8:V),Pth b pre c->fH ws cs b->hL b<=18->X4 λl' v6' v7' v8'=>A4 (ba (aL prog.1 (aj prog (d+23)) (.var 6) g6) ((iN pre).map PyData.int) (F9 v0 v1 (aA x) v3 (ah (am b)) (.d (.bool l)) v6 v7 v8) U=.ok (.next (F9 v0 v1 (aA x) v3 (ah (am c)) (.d (.bool l')) v6' v7' v8')) U) ((∀z,uY x b pre z l=uY x c [] z l')) (fH ws cs c) (hL c<=18):=by
 intro xs_
 induction xs_ with
 |nil=>intro b c l v6 v7 v8 h ok h9;cases h;exact⟨l,v6,v7,v8,rfl,λz=>rfl,ok,h9⟩
 |cons k ks ih_=>
   intro b c l v6 v7 v8 h ok h9;cases h with
   |@cons _ _ r _ _ hk hb hp=>
   have hr:=PF hk;have okr:=bS ok r hr;have h8:hL (dH r)<=18:=pA (iv (iv (cp r hr) h9) (by decide));obtain⟨l',v6',v7',v8',ih,h2,h3,h4⟩:=ih_ (dH r) c (Lk x r (lO x (bQ (k+1) b) l)) (ak (k:Int)) (.d (j0 (dv x (bQ (k+1) b)) (!gP x (bQ (k+1) b)))) (.d (aI r)) hp (ic okr) h8;have sc:=lI x 18 (bQ (k+1) b) d U (vn ok) (vp h9);have sc2:=lI x 18 (dH r) d U (ic okr) h8;have gr:=jo ((g9 _ k).trans hk) U;have sl:=fj b k U;have R:=ch prog.1 (aj prog (d+23)) g6 (F9 v0 v1 (aA x) v3 (ah (am b)) (.d (.bool l)) (ak (k:Int)) v7 v8) U;have vo:=IJ (cf:=aj prog (d+23)) (K:=(F9 v0 v1 (aA x) v3 (ah (am b)) (.d (.bool l)) (ak (k:Int)) (.d (j0 (dv x (bQ (k+1) b)) (!gP x (bQ (k+1) b)))) v8)) (U:=U) (i:=7) rfl rfl;refine⟨l',v6',v7',v8',a6 (aP ?_) ih,λz=>by rw[rD hk,h2 z],h3,h4⟩;clear ih;clear h2;clear hr okr h8 hp hk;cases r with
   |whn t b'=>exact(R 14 sl sc vo gr)
   |aga n b'=>
     have e:Lk x (.aga n b') (lO x (bQ (k+1) b) l)=(lO x (bQ (k+1) b) l||(decide (n > 1)&&dv x b')):=rfl;rw[e];by_cases h:n > 1
     . rw[decide_eq_true h,RN];exact(R 6158 sl sc vo gr (dT h) (C3 rfl λ_=>cN (bZ (aM rfl sc2) rfl rfl)))
     . rw[decide_eq_false h,RU,Ru];exact(R 2062 sl sc vo gr (dF h))
   |set _ _=>injection hb
   |tell _=>injection hb
   |call _ _ _=>injection hb
theorem vy(hj:fs[j]?=some f)(of:okF ws cs f)(hp:Pth f.rs pre c)(x:Str)(d:Nat)(U:ac):pc (d+24) 43 [ah (fs.map ao),.d (pD (aJ j pre z)),aA x] U (.d (.bool (uY x f.rs pre z (decide (x∈cJ f.t))))):=by obtain⟨l',v6',v7',v8',lp,h2,h3,h4⟩:=Hl d x (ah (fs.map ao)) (.d (pI (j:Int) (iN pre) (z:Int))) (.d (ao f)) U pre f.rs c (decide (x∈cJ f.t)) .un .un .un hp of.rs of.h9;rw[h2 z,l9];have sc:=lI x 18 (bQ (z+1) c) d U (vn h3) (vp h4);exact(aX prog 43 (d+23) [ah (fs.map ao),.d (pI (j:Int) (iN pre) (z:Int)),aA x] U rfl 435 (kn ..) (bE hj U) (lJ of.t (d+20) U) (eR ..) (a7 (aZ (qr (G:=prog.1) (cf:=aj prog (d+23)) (m:=false) (a:=.var 1) (lo:=.cons (.int 1) .nil) (hi:=.cons (.neg (.int 1)) .nil) (K:=(F9 (ah (fs.map ao)) (.d (pI (j:Int) (iN pre) (z:Int))) (aA x) (.d (ao f)) (ah (am f.rs)) (.d (.bool (decide (x∈cJ f.t)))) .un .un .un)) rfl rfl rfl (yB (j:Int) (iN pre) (z:Int) U)) rfl) lp) (lh ..) ((fj c z U)) sc (IJ rfl rfl) (same U))
structure Nm(ws N:List Str)(P:Str->Bool)(n:Nat):Prop where
 mem:∀x,x∈N↔P x=true
 inw:∀x∈N,x∈ws
 len:N.length<=n
theorem dp(Q:List Nat)(h:Q[m]?=some k)(U:ac):cK (.d (pD Q)) (ak (m:Int)) U=some (ak (k:Int)):=by unfold pD;rw[df,Qe,h];(rfl)theorem wb(J:ac)(a b c:Cell):((J++[a])++[b]++[c])[J.length]?=some a:=by rw[PV,PV];exact g0 ..
variable {N:List Str}
theorem Ax(w7:ws.length<=8)(d:Nat)(v0 v2:V){Q:List Nat}(hm:Q[m]?=some k){b:RL}(hk:(lst b)[k]?=some r)(ok:fH ws cs b)(h9:hL b<=18){P:Str->Bool}(hN:Nm ws N P n)(h1:n<=1000)(v5 v6 v7 v8 v9:V)(J:ac)(more:Bool)(hmore:decide ((m:Int) < ((Q.map nI).length:Int) - 1)=more)(hb:more=true->sL r=true) :
   X4 λN' g v6' v7'=>Nm ws N' (λx=>bif more then Lk x r (lO x (bQ (k+1) b) (P x)) else lO x (bQ (k+1) b) (P x)) (n+16)/\aL prog.1 (aj prog (d+25)) (.var 5) jO (.int (m:Int)) (IC v0 (.d (pD Q)) v2 (ah (am b)) (al (N.map .str)) v5 v6 v7 v8 v9) J=.ok (.next (IC v0 (.d (pD Q)) v2 (ah (am (bif more then dH r else b))) (al (N'.map .str)) (ak (m:Int)) v6' v7' (.d (aI r)) v9)) (J++g):=by
 have ya:fH ws cs (bQ (k+1) b):=vn ok;obtain⟨S,hS,eS⟩:=uu w7 ya (iv (PL (vp h9) 2) (iv (by decide) (P9 25 d))) J;refine(jU w7 18 _ (d+1) ya (vp h9) (J++[.dct (dk S)])).elim λF q9=>?_;have hF:=q9.1;have eF:=q9.2;have fw:=λx (q:x∈F)=>du x _ ya ((hF.mem x).mp q);have c:=fi (G:=prog.1) (cf:=aj prog (d+25)) (i:=9) (it:=.seq (.var 4)) (c:=.cmp .notIn (.var 9) (.var 7)) (e:=.var 9) (K:=(IC v0 (.d (pD Q)) v2 (ah (am b)) (al (N.map .str)) (ak (m:Int)) (ah (am (bQ (k+1) b))) (.loc J.length) v8 v9)) (U:=(J++[Cell.dct (dk S)])++[Cell.dct (dk F)]) PyData.str PyData.str (λx=>!decide (x∈S)) (aZ rfl rfl) (λp hp=>cq rfl rfl (nj (wb ..) p)) (λp hp _=>rfl);have l1:F.length+(N.filter λx=>!decide (x∈S)).length<=n+8:=by rw[Qw];exact Qd (iv (Rj ..) hN.len) (hF.few w7 λx=>du x _ ya)
 have ad:=kT (a:=F.map PyData.str) (b:=(N.filter λx=>!decide (x∈S)).map .str) (by rw[Pd,Pd];exact iv l1 (iv (PL h1 8) (by decide))) ((J++[Cell.dct (dk S)])++[Cell.dct (dk F)]);replace ad:=PR▸ad;have hN1:Nm ws (F++N.filter λx=>!decide (x∈S)) (λx=>lO x (bQ (k+1) b) (P x)) (n+8):=by refine⟨λx=>?_,λx hx=>(PT.mp hx).elim (fw x) λq=>hN.inw x (QQ.mp q).1,by rw[PC];exact l1⟩;unfold lO;rw[PT,QQ,hF.mem x,hN.mem x,Qc,PK,QD,QD,decide_eq_false_iff_not,hS.mem x,Bool.not_eq_true];exact or_congr Iff.rfl and_comm
 generalize F++(N.filter λx=>!decide (x∈S))=N1 at ad hN1;have R:=ch prog.1 (aj prog (d+25)) jO (IC v0 (.d (pD Q)) v2 (ah (am b)) (al (N.map .str)) (ak (m:Int)) v6 v7 v8 v9) J;have gr:=λU=>jo ((g9 _ k).trans hk) U;have hq:=λU=>dp Q hm U;have as2:(J++[Cell.dct (dk S)])++[Cell.dct (dk F)]=J++[Cell.dct (dk S),Cell.dct (dk F)]:=PV ..;have up:Nm ws N1 (λx=>lO x (bQ (k+1) b) (P x)) (n+16):={ hN1 with len:=iv hN1.len (Qh (by decide) n) }
 cases more with
 |false=>refine⟨N1,[.dct (dk S),.dct (dk F)],ah (am (bQ (k+1) b)),.loc J.length,up,aP ?_⟩;exact as2▸(R 1149 (hq _) ((fj b k J)) eS eF (eO (aK _ _)) c ad (hq _) (gr _) (bF hmore))
 |true=>
   cases r with
   |whn t b'=>refine⟨N1,[.dct (dk S),.dct (dk F)],ah (am (bQ (k+1) b)),.loc J.length,up,aP ?_⟩;exact as2▸(R 1149 (hq _) ((fj b k J)) eS eF (eO (aK _ _)) c ad (hq _) (gr _) (bT hmore))
   |aga i b'=>
     have okr:=bS ok _ (PF hk);by_cases h:i > 1
     . obtain⟨M,hM,eM⟩:=jU w7 18 b' (d+1) okr (pA (iv (iv (cp _ (PF hk)) h9) (by decide))) ((J++[Cell.dct (dk S)])++[Cell.dct (dk F)]);have m7:=hM.few w7 λx=>du x _ okr;have ad2:=kT (a:=N1.map PyData.str) (b:=M.map .str) (by rw[Pd,Pd];exact iv (Qd hN1.len m7) (iv (PL h1 16) (by decide))) ((J++[Cell.dct (dk S)])++[Cell.dct (dk F)]++[Cell.dct (dk M)]);rw[<- PR]at ad2;have as3:(J++[Cell.dct (dk S)])++[Cell.dct (dk F)]++[Cell.dct (dk M)]=J++[Cell.dct (dk S),Cell.dct (dk F),Cell.dct (dk M)]:=by rw[PV,PV];rfl
       refine⟨N1++M,[.dct (dk S),.dct (dk F),.dct (dk M)],ah (am (bQ (k+1) b)),.loc J.length,⟨λx=>?_,λx hx=>(PT.mp hx).elim (hN1.inw x) λq=>du x _ okr ((hM.mem x).mp q),by rw[PC];exact(Qd hN1.len m7:_<=n+8+8)⟩,aP ?_⟩
       . show _↔(lO x (bQ (k+1) b) (P x)||(decide (i > 1)&&dv x b'))=true;rw[PT,hN1.mem x,hM.mem x,decide_eq_true h,RN,Qc]
       . exact as3▸(R 1836157 (hq _) ((fj b k J)) eS eF (eO (aK _ _)) c ad (hq _) (gr _) (bT hmore) (dT h) eM (eO (aK _ _)) ad2)
     . refine⟨N1,[.dct (dk S),.dct (dk F)],ah (am (bQ (k+1) b)),.loc J.length,{ up with mem:=λx=>?_ },aP ?_⟩
       . show _↔(lO x (bQ (k+1) b) (P x)||(decide (i > 1)&&dv x b'))=true;rw[hN1.mem x,decide_eq_false h,RU,Ru]
       . exact as2▸(R 263293 (hq _) ((fj b k J)) eS eF (eO (aK _ _)) c ad (hq _) (gr _) (bT hmore) (dF h))
   |set _ _=>cases hb rfl
   |tell _=>cases hb rfl
   |call _ _ _=>cases hb (rfl)theorem KB(h:n - m=1):¬ ((m:Int) < (n:Int) - 1):=λq=>Sm (Nat.lt_sub_of_add_lt ((Qw 1 m).symm▸Qr.mp (Int.add_lt_of_lt_sub_right q):1+m < n)) (h)theorem Kz(h:n - m=k+1+1):(m:Int) < (n:Int) - 1:=Int.lt_sub_right_of_add_lt (Qr.mpr (Nat.add_lt_of_lt_sub' (h▸Nat.succ_lt_succ (Rx k):1 < n - m)))
theorem G9(w7:ws.length<=8)(d:Nat)(v0 v2 v9:V)(Q:List Nat)(z:Nat)(rz:Rw)(U:ac):∀(pre:List Nat) (b c:RL) (N:List Str) (P:Str->Bool) (n:Nat) (g:ac) (m:Nat) (v5 v6 v7 v8:V),Pth b pre c->(lst c)[z]?=some rz->Q.drop m=pre++[z]->fH ws cs b->hL b<=18->Nm ws N P n->n+16 * pre.length<=1000->
   X3 λN' g' v3'=>X4 λv5' v6' v7' v8'=>Nm ws N' (λx=>uY x b pre z (P x)) (n+16 * pre.length+16)/\ba (aL prog.1 (aj prog (d+25)) (.var 5) jO) ((List.range' m (pre.length+1)).map nI) (IC v0 (.d (pD Q)) v2 (ah (am b)) (al (N.map .str)) v5 v6 v7 v8 v9) (U++g)=.ok (.next (IC v0 (.d (pD Q)) v2 v3' (al (N'.map .str)) v5' v6' v7' v8' v9)) (U++g'):=by
 intro xs_
 induction xs_ with
 |nil=>
   intro b c N P n g m v5 v6 v7 v8 hp hz hq ok h9 hN hl;refine kk λUc k=>?_;cases hp;obtain⟨q1,q2⟩:=kM hq;have q3:¬ ((m:Int) < ((Q.map nI).length:Int) - 1):=by have:=congrArg List.length hq;rw[Qy]at this;rw[Pd];exact KB this
   obtain⟨N',g',v6',v7',h,e⟩:=Ax w7 d v0 v2 q1 hz ok h9 hN hl v5 v6 v7 v8 v9 (U++g) false (decide_eq_false q3) (λq=>by injection q);rw[PV]at e;refine k ?_;exact⟨N',g++g',_,_,v6',v7',_,h,a6 e rfl⟩
 |cons k ks ih_=>
   intro b c N P n g m v5 v6 v7 v8 hp hz hq ok h9 hN hl;cases hp with
   |@cons _ _ r _ _ hk hb hp=>
   refine kk λUc k=>?_;obtain⟨q1,q2⟩:=kM hq;have q3:(m:Int) < ((Q.map nI).length:Int) - 1:=by have:=congrArg List.length hq;rw[Qy,PC,PZ]at this;rw[Pd];exact Kz this
   have hr:=PF hk;rw[PZ,Nat.mul_succ,Qw (16 * ks.length),<- Qq]at hl;obtain⟨OI,EH,Mj,Mi,h,e⟩:=Ax w7 d v0 v2 q1 hk ok h9 hN (iv (PW _ _) (iv (PW _ _) hl)) v5 v6 v7 v8 v9 (U++g) true (decide_eq_true q3) (λ_=>hb);obtain⟨N',g',v3',v5',v6',v7',v8',h',ih⟩:=ih_ (dH r) c OI _ (n+16) (g++EH) (m+1) (ak (m:Int)) Mj Mi (.d (aI r)) hp hz q2 (ic (bS ok r hr)) (pA (iv (iv (cp r hr) h9) (by decide))) h hl;rw[<- PV]at ih;refine k ?_;refine⟨N',g',v3',v5',v6',v7',v8',⟨λx=>?_,h'.inw,?_⟩,?_⟩
   . rw[rD hk];exact h'.mem x
   . rw[PZ,Nat.mul_succ,Qw (16 * ks.length),<- Qq];exact h'.len
   . rw[PZ,Tq];exact a6 e (ih)theorem pX:∀L:List Str,iP (L.map .str)=some L
 |[]=>rfl
 |x::L=>by show (iP (L.map .str)).map (x::·)=_;rw[pX L];(rfl)theorem xz(y:Str)(l:List Str):cM (y::l)=if y∈l then cM l else y::cM l:=(rfl)theorem w9(x y:Str)(r:List Str):iV x (y::r)=if lW y x then y::iV x r else x::y::r:=rfl
theorem bJ(x:Str):∀l:List Str,x∈cM l↔x∈l
 |[]=>Iff.rfl
 |y::l=>by
   rw[xz];by_cases h:y∈l
   . rw[if_pos h,bJ x l,PO];exact⟨.inr,λq=>q.elim (λe=>e▸h) id⟩
   . rw[if_neg h,PO,bJ x l,PO]
theorem cw:∀l:List Str,(cM l).Nodup
 |[]=>SI
 |y::l=>by
   rw[xz];by_cases h:y∈l
   . rw[if_pos h];exact cw l
   . rw[if_neg h];exact QY.mpr ⟨λq=>h ((bJ y l).mp q),cw l⟩
theorem Ay(x y:Str):∀l:List Str,x∈iV y l↔x=y\/x∈l
 |[]=>PO
 |a::l=>by
   rw[w9];cases lW a y with
   |true=>rw[if_pos rfl,PO,Ay x y l,PO];exact or_left_comm
   |false=>rw[if_neg P0,PO]theorem re(x:Str):∀l:List Str,x∈cu l↔x∈l
 |[]=>Iff.rfl
 |y::l=>(Ay x y _).trans (by rw[re x l,PO])theorem BH(n:Nat):b8 1 ((n+1:Nat):Int)=(List.range' 1 n).map nI:=by unfold b8;rw[Ti,Qx,show (((n+1:Nat):Int) - 1).toNat=n from congrArg Int.toNat (lH n)];refine RA λk _=>?_;show PyData.int (1+(k:Int))=.int ((1+k:Nat):Int);rw[RK];rfl
theorem py(w7:ws.length<=8)(hj:fs[j]?=some f)(of:okF ws cs f)(hp:Pth f.rs pre c)(hz:(lst c)[z]?=some r)(d:Nat)(U:ac):∃L:List Str,(∀x,x∈L↔uY x f.rs pre z (decide (x∈cJ f.t))=true)/\pc (d+26) 12 [ah (fs.map ao),.d (pD (aJ j pre z))] U (al (L.map .str)):=by
 refine kk λUc k=>?_;obtain⟨N0,h0,e0⟩:=dQ of.t (d+21) U;have hl:=iv (gv hp) of.h9;have hb:8+16 * pre.length<=296:=Qh (Q6 16 hl) 8;obtain⟨N,g',v3',v5',v6',v7',v8',hN,lp⟩:=G9 w7 d (ah (fs.map ao)) (.d (ao f)) .un (aJ j pre z) z r U pre f.rs c N0 _ 8 [] 1 .un .un .un .un hp hz rfl of.rs of.h9 (⟨λx=>by rw[h0.mem x,decide_eq_true_iff],λx hx=>of.t.1 x ((h0.mem x).mp hx),h0.few w7 of.t.1⟩:Nm ws N0 (λx=>decide (x∈cJ f.t)) 8) (iv hb (by decide));rw[P6,<- BH]at lp;have so:xV .sortedSet false [al (N.map .str)] (U++g')=.ok (al ((cu (cM N)).map .str)) (U++g'):=by show oc (iP (N.map .str)) (λl=>if l.length < 2000/\(cM l).length < 64 then bh false ((cu (cM l)).map .str) (U++g') else .bad) .bad=_;rw[pX];exact if_pos ⟨P8 (iv hN.len (PL hb 16)) (by decide),(P8 (iv ((cw N).length_le_of_subset λx hx=>hN.inw x ((bJ x N).mp hx)) w7) (by decide))⟩
 have ln:(aJ j pre z).map nI=(aJ j pre z).map nI:=rfl;have le:((aJ j pre z).map nI).length=pre.length+1+1:=by rw[Pd];exact congrArg (·+1) PC
 rw[<- le]at lp;refine k ?_;refine⟨cu (cM N),λx=>by rw[re,bJ,hN.mem x],?_⟩;exact(aX prog 12 (d+25) [ah (fs.map ao),.d (pD (aJ j pre z))] U rfl 19 (iK hj hp hz (d+22) U) (dp (aJ j pre z) rfl U) (bE hj U) e0 (a7 (rI rfl rfl (⟨by decide,qH (by rw[le];exact iv (PL hl 2) (by decide))⟩)) lp) so (cS ..))theorem dY(l:List PyData)(k:Nat)(U:ac):gq false (ah l) none (some (ak (k:Int))) U=.ok (ah (l.take k)) U:=by rw[gp _ _ gw (fu _),qC]theorem yn(l:List PyData)(k m:Nat)(U:ac):gq false (ah l) (some (ak ((k:Int)+(m:Int)))) none U=.ok (ah (l.drop (k+m))) U:=by rw[gp _ _ (fu _) gw];exact congrArg (λx=>Res.ok (ah x) U) (mt l (k+m))theorem jC(l:List PyData)(k:Nat)(U:ac):gq false (ah l) (some (ak ((k:Int)+1))) none U=.ok (ah (l.drop (k+1))) U:=yn l k 1 (U)theorem iQ(k:Nat)(p:List Nat)(U:ac):gq false (.d (pD (k::p))) (some (ak 1)) none U=.ok (.d (pD p)) U:=jC ((k::p).map nI) 0 (U)theorem bI(k:Nat)(p:List Nat)(U:ac):cK (.d (pD (k::p))) (ak 0) U=some (ak (k:Int)):=df (k:=0) ..
noncomputable def ik{B:Type}(m:Nat)(l:List B)(k:Nat)(news:List B):List B:=l.take k++news++l.drop (k+m)noncomputable abbrev ci{B:Type}(l:List B)(k:Nat)(news:List B):List B:=ik 1 l k (news)theorem wx{Y:Type}(φ:B->Y)(m:Nat)(l:List B)(k:Nat)(news:List B):(ik m l k news).map φ=ik m (l.map φ) k (news.map φ):=by unfold ik;rw[PR,PR,Q9,Rg]theorem wy{Y:Type}(φ:B->Y)(l:List B)(k:Nat)(news:List B):(ci l k news).map φ=ci (l.map φ) k (news.map φ):=wx φ 1 l k news
theorem AV(m:Nat)(l:List B)(k:Nat):(l.take k).length+(l.drop (k+m)).length<=l.length:=by have h:=congrArg List.length (QL k l);rw[PC]at h;exact iv (Qh (by rw[Qy,Qy];exact Nat.sub_le_sub_left (PW k m) _) _) (Qm h)theorem Ih(l:List B)(k:Nat):(l.take k).length+(l.drop (k+1)).length<=l.length:=AV 1 l k
theorem qI{l news:List PyData}(h:l.length+news.length<=90000)(m k:Nat)(U:ac):dj .add false (ah (l.take k)) (ah news) U=.ok (ah (l.take k++news)) U/\dj .add false (ah (l.take k++news)) (ah (l.drop (k+m))) U=.ok (ah (ik m l k news)) U:=by
 refine⟨ie (iv (iv (PL (TN ..) _) h) (by decide)) U,ie ?_ U⟩;have h2:(l.take k++news).length+(l.drop (k+m)).length<=(l.length+news.length)+0:=by rw[PC,QR];exact PL (AV m l k) _
 exact iv h2 (iv h (by decide))noncomputable def sH:Rw->RL->Rw
 |.whn t _,b=>.whn t b
 |.aga n _,b=>.aga n b
 |r,_=>(r)def cE(m:Nat)(news:RL)(z:Nat):RL->List Nat->RL
 |b,[]=>jH (ik m (lst b) z (lst news))
 |b,k::ks=>match (lst b)[k]? with
   |some r=>jH (ci (lst b) k [sH r (cE m news z (dH r) ks)])
   |none=>(b)noncomputable abbrev OP(news:RL)(z:Nat)(b:RL)(pre:List Nat):RL:=cE 1 news z b (pre)theorem jd(m:Nat)(news:RL)(z:Nat)(b:RL):cE m news z b []=jH (ik m (lst b) z (lst news)):=(rfl)theorem CZ(m:Nat)(news:RL)(z:Nat)(b:RL)(k:Nat)(ks:List Nat):cE m news z b (k::ks)=(match (lst b)[k]? with|some r=>jH (ci (lst b) k [sH r (cE m news z (dH r) ks)]) | none=>b):=(rfl)theorem jv(h:(lst b)[k]?=some r)(m:Nat)(news:RL)(z:Nat)(ks:List Nat):cE m news z b (k::ks)=jH (ci (lst b) k [sH r (cE m news z (dH r) ks)]):=by rw[CZ,h]theorem oz(m:Nat)(b:RL)(k:Nat)(news:List Rw):am (jH (ik m (lst b) k news))=ik m (am b) k (news.map aI):=by rw[jA,wx,<- c8]def vG(f m:Nat)(news:RL)(z:Nat)(b:RL)(pre:List Nat)(d:Nat):Prop:=∀U,pc d f [.d (.tuple (am b)),.d (pD (pre++[z])),.d (.int (m:Int)),.d (.tuple (am news))] U (.d (.tuple (am (cE m news z b pre))))theorem mY(pre:List Nat)(k z:Nat):¬ (((k::(pre++[z])).map nI).length:Int)=1:=λq=>by rw[Pd,PZ,PC]at q;exact absurd (Nat.succ.inj (SE.mp q)) (To pre.length)theorem Ep(h:nL b<=9000)(hn:n<=9000):(am b).length+n<=90000:=iv (Qd (iv (gS b) h) hn) (by decide)
theorem Gk(m:Nat){news:RL}(hn:nL news<=9000)(z:Nat):∀(pre:List Nat) (b:RL) (d:Nat),Pth b pre c->nL b<=9000->vG 13 m news z b pre (d+pre.length+1)/\vG 45 m news z b pre (d+pre.length+1):=by
 intro xs_
 induction xs_ with
 |nil=>
   intro b d _ h;have ra:=λU=>qI (Ep h (iv (gS news) hn)) m z U;have e:am (cE m news z b [])=ik m (am b) z (am news):=by rw[jd,oz,<- c8]
   unfold vG;exact e▸(⟨λU=>(aX prog 13 d [ah (am b),.d (pD [z]),ak (m:Int),ah (am news)] U rfl 432 ((dY ..)) ((ra U).1) ((yn ..)) ((ra U).2) (same U)),
     λU=>(aX prog 45 d [ah (am b),.d (pD [z]),ak (m:Int),ah (am news)] U rfl 432 ((dY ..)) ((ra U).1) ((yn ..)) ((ra U).2) (same U))⟩)
 |cons k ks ih_=>
   intro b d hp h;cases hp with
   |@cons _ _ r _ _ hk hb hp=>
   obtain⟨i1,i2⟩:=ih_ (dH r) d hp (zE (PF hk) h);have ra:=λx U=>qI (news:=[x]) (Ep h (P7 rfl)) 1 k U;have e:am (cE m news z b (k::ks))=ci (am b) k [aI (sH r (cE m news z (dH r) ks))]:=by rw[jv hk];exact oz ..
   have gr:=λU=>jo ((g9 _ k).trans hk) U;unfold vG;refine e▸?_;clear e;have R:=λU=>aX prog 13 (d+ks.length+1) [ah (am b),.d (pD (k::(ks++[z]))),ak (m:Int),ah (am news)] U rfl;have R':=λU=>aX prog 45 (d+ks.length+1) [ah (am b),.d (pD (k::(ks++[z]))),ak (m:Int),ah (am news)] U rfl;cases r with
   |whn t b'=>exact⟨λU=>(R U 13881 (bI ..) (dF (mY ks k z)) (gr U) ((dY ..)) ((iQ ..)) (i1 U) ((ra _ U).1) ((jC ..)) ((ra _ U).2) (same U)),λU=>(R' U 13529 (bI ..) (dF (mY ks k z)) (gr U) ((iQ ..)) (i2 U) ((dY ..)) ((ra _ U).1) ((jC ..)) ((ra _ U).2) (same U))⟩
   |aga n b'=>exact⟨λU=>(R U 13881 (bI ..) (dF (mY ks k z)) (gr U) ((dY ..)) ((iQ ..)) (i1 U) ((ra _ U).1) ((jC ..)) ((ra _ U).2) (same U)),λU=>(R' U 13529 (bI ..) (dF (mY ks k z)) (gr U) ((iQ ..)) (i2 U) ((dY ..)) ((ra _ U).1) ((jC ..)) ((ra _ U).2) (same U))⟩
   |set _ _=>injection hb
   |tell _=>injection hb
   |call _ _ _=>injection hb
def bL(m:Nat)(news:RL)(pre:List Nat)(z:Nat)(f:Fd):Fd:={ f with rs:=cE m news z f.rs pre }
theorem gK(m:Nat){news:RL}(hn:nL news<=9000)(hj:fs[j]?=some f)(h8:fs.length<=9)(hp:Pth f.rs pre c)(hf:nL f.rs<=9000)(h9:hL f.rs<=18)(d:Nat)(U:ac):pc (d+20) 14 [ah (fs.map ao),.d (pD (aJ j pre z)),ak (m:Int),ah (am news)] U (ah ((ci fs j [bL m news pre z f]).map ao))/\
   pc (d+20) 46 [ah (fs.map ao),.d (pD (aJ j pre z)),ak (m:Int),ah (am news)] U (ah ((ci fs j [bL m news pre z f]).map ao)):=by
 refine kk λUc k=>?_;obtain⟨e,he⟩:=o1 (iv (gv hp) h9);obtain⟨i1,i2⟩:=Gk m hn z pre f.rs (d+e) hp hf;refine k ?_;have h10:d+e+pre.length+1=d+19:=by rw[Qq d e,<- he]
 rw[h10]at i1 i2;have ra:=qI (l:=fs.map ao) (news:=[ao (bL m news pre z f)]) (by rw[Pd];exact iv (PL h8 1) (by decide)) 1 j U;rw[wy];have gf:=bE hj U;exact⟨(aX prog 14 (d+19) [ah (fs.map ao),.d (pD (aJ j pre z)),ak (m:Int),ah (am news)] U rfl 895 (bI ..) gf ((iQ ..)) (i1 U) (bI ..) ((dY ..)) ra.1 (bI ..) ((jC ..)) ra.2 (same U)),
   (aX prog 46 (d+19) [ah (fs.map ao),.d (pD (aJ j pre z)),ak (m:Int),ah (am news)] U rfl 3467 (bI ..) gf ((iQ ..)) (i2 U) ((dY ..)) ra.1 ((jC ..)) ra.2 (same U))⟩
theorem D7(cf:Nat->List V->ac->Res V)(x:Str)(v0:V)(U:ac):∀(fs:List Fd) (k:Nat) (v2 v3:V),x∈bK fs->ba (aL prog.1 cf (.tup [2,3]) dM) (((fs.map ao).zipIdx k).map λp=>.tuple [.int p.2,p.1]) [v0,aA x,v2,v3] U=.ok (.ret (ak ((k+(bK fs).idxOf x:Nat):Int))) U:=by
 intro xs_
 induction xs_ with
 |nil=>intro k v2 v3 h;cases h
 |cons f fs ih_=>
   intro k v2 v3 h;have R:=ch prog.1 cf dM [v0,aA x,ak (k:Int),.d (ao f)] U;have e:bK (f::fs)=f.nm::bK fs:=rfl;rw[e]at h ⊢;by_cases q:f.nm=x
   . rw[q,TO];exact jJ (d8 rfl ((R 4 (dT q))))
   . rw[List.idxOf_cons,beq_false_of_ne q,cond_false,Qw ((bK fs).idxOf x),<- Qq];exact a6 (d8 rfl ((R 4 (dF q)))) (ih_ (k+1) (ak (k:Int)) (.d (ao f)) ((PO.mp h).resolve_left (Ne.symm q)))theorem di(h:x∈bK fs)(d:Nat)(U:ac):pc (d+1) 15 [ah (fs.map ao),aA x] U (ak ((bK fs).idxOf x:Nat)):=by have lp:=D7 (aj prog d) x (ah (fs.map ao)) U fs 0 .un .un h;rw[Rk]at lp;exact(aX prog 15 d [ah (fs.map ao),aA x] U rfl 0 (a7 (oJ rfl) lp) (same U))theorem yY(h:x∈L)(U:ac):yb .index (al (L.map .str)) U [aA x] U=.ok (ak (L.idxOf x:Nat)) U:=by show b2 (j4 (aA x)) (iP (L.map .str)) (λx l=>if l.idxOf x < l.length then Res.ok (ak (l.idxOf x:Nat)) U else .bad) .bad=_;rw[pX];exact if_pos (Rn.mpr h)
theorem kQ(h:x∈bK fs)(d:Nat)(U:ac):pc (d+1) 48 [ah (fs.map ao),aA x] U (ak ((bK fs).idxOf x:Nat)):=by
 have c:=lU (G:=prog.1) (cf:=aj prog d) (i:=2) (it:=.seq (.var 0)) (e:=.idx (.var 2) (.int 0)) (K:=[ah (fs.map ao),aA x,.un]) (U:=U) ao (λf=>.str f.nm) (aZ rfl rfl) λf _=>rfl;have e:fs.map (λf=>PyData.str f.nm)=(bK fs).map .str:=by unfold bK;rw[Qx];rfl
 rw[e]at c;exact(aX prog 48 d [ah (fs.map ao),aA x] U rfl 0 c (yY h U) (same U))def rE(ts:List Tm)(ps:List Str)(k:Nat):Bool:=match ts[k]?,ps[k]? with
 |some t,some p=>!(a9 t).eqv (a9 (.name p))
 |_,_=>(false)def dP(ts:List Tm)(ps:List Str):List Nat:=(List.range ts.length).filter (rE ts ps)theorem qf(t:Tm)(p:Str)(U:ac):bC .ne (.d (a9 t)) (ah [.str bz,.str p]) U=some (!(a9 t).eqv (a9 (.name p))):=by show (Nq (a9 t) (.tuple [.str bz,.str p])).map _=_;rw[nM (iv (RO _ _) (P7 rfl))];(rfl)variable {ts:List Tm}theorem lr(hl:ts.length=ps.length)(hk:k < ts.length):X2 λt p=>A3 (ts[k]?=some t) (ps[k]?=some p) (rE ts ps k=!(a9 t).eqv (a9 (.name p))):=by have h1:ts[k]?=some ts[k]:=PD hk;have h2:ps[k]?=some (ps[k]'(hl▸hk)):=PD (hl▸hk);exact⟨_,_,h1,h2,by unfold rE;rw[h1,h2]⟩theorem oH(h:ts[k]?=some t)(U:ac):cK (ah (ts.map a9)) (ak (k:Int)) U=some (.d (a9 t)):=by rw[df,Qe,h];(rfl)theorem mH{p:Str}(h:ps[k]?=some p)(U:ac):cK (ah (ps.map .str)) (ak (k:Int)) U=some (aA p):=by rw[df,Qe,h];(rfl)variable {l:List Nat}{ds:List PyData}
theorem Ba{c:E}{b:Bool}(hl:l.length=ds.length)(hc:af G cf c (b7 l ds K) U=.ok (.d (.bool b)) U)(h:b=true->af G cf e (b7 l ds K) U=.ok (.d y) U):jS G cf (.tup l) (.cons c .nil) e K (.tuple ds) U=.ok (if b then some y else none) U:=by
 have eb:fe (.tup l) (.tuple ds) K=some (b7 l ds K):=if_pos hl;unfold jS;rw[eb];show (dD G cf (.cons c .nil) (b7 l ds K) U).bind _=_;rw[Ar hc,tC];cases b with
 |true=>show (af G cf e (b7 l ds K) U).bind _=_;rw[h rfl];rfl
 |false=>(rfl)variable {g:Fd}{o:Option Str}{fn:Str}
theorem fE(hl:ts.length=g.ps.length)(d:Nat)(U:ac):pc (d+1) 16 [.d (aI (.call o fn ts)),.d (ao g)] U (al ((dP ts g.ps).map nI)):=by
 have c:=mq (G:=prog.1) (cf:=aj prog d) (m:=false) (t:=.tup [2,3]) (it:=.enum (.idx (.var 1) (.int 1))) (c:=.cons (.cmp .ne (.idx (.idx (.var 0) (.int 3)) (.var 2)) (.tup (.cons (.str bz) (.cons (.var 3) .nil)))) .nil) (e:=.var 2) (K:=[.d (aI (.call o fn ts)),.d (ao g),.un,.un]) (U:=U) (oJ rfl) (iG (λp:PyData×Nat=>.tuple [.int p.2,p.1]) (λp=>if rE ts g.ps p.2 then some (nI p.2) else none) ((g.ps.map PyData.str).zipIdx) λp hp=>by
   have hk:=List.mem_zipIdx hp;obtain⟨t,q,h1,h2,h3⟩:=lr hl (by rw[hl];have:=hk.2.1;rw[Pd,Rk]at this;exact this);have e:p.1=.str q:=by
     have:=hk.2.2;have h4:(g.ps.map PyData.str)[p.2]?=some (.str q):=by rw[Qe,h2];rfl
     rw[this];exact Option.some.inj ((PD _).symm.trans h4)
   rw[e,h3];exact Ba rfl (cq (bZ rfl rfl (oH h1 _)) rfl (qf ..)) λ_=>rfl)
 have e:(((g.ps.map PyData.str).zipIdx).filterMap λp=>if rE ts g.ps p.2 then some (nI p.2) else none)=(dP ts g.ps).map nI:=by
   rw[E6 (λp:PyData×Nat=>rE ts g.ps p.2) (λp=>nI p.2)];have h1:((g.ps.map PyData.str).zipIdx).map (·.2)=List.range ts.length:=by rw[List.zipIdx_map_snd,Pd,hl,Sg]
   unfold dP;rw[<- h1,List.filter_map,Qx];rfl
 rw[e]at c;exact(aX prog 16 d [.d (aI (.call o fn ts)),.d (ao g)] U rfl 0 c (same U))
theorem ua(hl:ts.length=g.ps.length)(h4:ts.length<=7)(d:Nat)(U:ac):pc (d+1) 49 [.d (aI (.call o fn ts)),.d (ao g)] U (al ((dP ts g.ps).map nI)):=by
 have hI:=iC (G:=prog.1) (cf:=aj prog d) (e:=.bi .len false (.cons (.idx (.var 0) (.int 3)) .nil)) (K:=[.d (aI (.call o fn ts)),.d (ao g),.un]) (U:=U) rfl (qH (by rw[Pd];exact iv h4 (by decide)));rw[Pd,fk]at hI;have c:=fi (i:=2) (c:=.cmp .ne (.idx (.idx (.var 0) (.int 3)) (.var 2)) (.tup (.cons (.str bz) (.cons (.idx (.idx (.var 1) (.int 1)) (.var 2)) .nil)))) (e:=.var 2) (λ(k:Nat)=>PyData.int (k:Int)) nI (rE ts g.ps) hI (λk hk=>by obtain⟨t,p,h1,h2,h3⟩:=lr hl (Rf.mp hk);rw[h3];exact cq (bZ rfl rfl (oH h1 _)) (sZ (d0 rfl (iB (bZ rfl rfl (mH h2 _)))) rfl) (qf ..)) λk _ _=>rfl
 exact(aX prog 49 d [.d (aI (.call o fn ts)),.d (ao g)] U rfl 0 c (same U))noncomputable def lN(ts:List Tm)(ps:List Str)(k:Nat):Rw:=match ts[k]?,ps[k]? with
 |some t,some p=>.set p t
 |_,_=>.tell (.num 0)def tO(o:Option Str)(t:Tm):List Rw:=match o with
 |some y=>if (a9 t).eqv (a9 (.name y)) then [] else [.set y t]
 |none=>[]theorem nq{y:Str}(h:(a9 t).eqv (a9 (.name y))=true):tO (some y) t=[]:=if_pos (h)theorem nu{y:Str}(h:(a9 t).eqv (a9 (.name y))=false):tO (some y) t=[.set y t]:=if_neg (by rw[h];exact P0)def aS(o:Option Str)(ts:List Tm)(g:Fd):RL:=jH ((dP ts g.ps).map (lN ts g.ps)++lst g.rs++tO o g.t)theorem lq(h:k∈dP ts ps):k < ts.length:=Rf.mp (QQ.mp h).1
theorem fZ(ts:List Tm)(ps:List Str):(dP ts ps).length<=ts.length:=iv (Rj ..) (Qm Rc)
theorem tv{a b:Nat}(hl:ts.length=g.ps.length)(h1:af prog.1 cf e K U=.ok (al ((dP ts g.ps).map nI)) U)(ha:∀k U,af prog.1 cf (.var a) (K.set i (.d (nI k))) U=.ok (.d (ao g)) U)(hb:∀k U,af prog.1 cf (.var b) (K.set i (.d (nI k))) U=.ok (.d (aI (.call o fn ts))) U)(hi:∀k U,af prog.1 cf (.var i) (K.set i (.d (nI k))) U=.ok (.d (nI k)) U) :
   af prog.1 cf (.comp false (.var i) (.seq e) .nil (.tup (.cons (.str iu) (.cons (.idx (.idx (.var a) (.int 1)) (.var i)) (.cons (.idx (.idx (.var b) (.int 3)) (.var i)) .nil))))) K U=.ok (al (((dP ts g.ps).map (lN ts g.ps)).map aI)) U:=by
 rw[Qx];exact lU nI (λk=>aI (lN ts g.ps k)) (aZ h1 rfl) λk hk=>by
   obtain⟨t,p,h1,h2,h3⟩:=lr hl (lq hk);have e:lN ts g.ps k=.set p t:=by unfold lN;rw[h1,h2]
   rw[e];exact sZ (d0 rfl (d0 (bZ (bZ (ha k _) rfl rfl) (hi k _) (mH h2 _)) (iB (bZ (bZ (hb k _) rfl rfl) (hi k _) (oH h1 _))))) (rfl)theorem s0(o:Option Str)(ts:List Tm)(g:Fd):am (aS o ts g)=(((dP ts g.ps).map (lN ts g.ps)).map aI++am g.rs)++(tO o g.t).map aI:=by unfold aS;rw[jA,PR,PR,<- c8]
theorem wO(h4:ts.length<=7)(hn:nL g.rs<=820)(U:ac):dj .add false (ah (((dP ts g.ps).map (lN ts g.ps)).map aI)) (ah (am g.rs)) U=.ok (ah (((dP ts g.ps).map (lN ts g.ps)).map aI++am g.rs)) U/\∀x,dj .add false (ah (((dP ts g.ps).map (lN ts g.ps)).map aI++am g.rs)) (ah [x]) U=.ok (ah ((((dP ts g.ps).map (lN ts g.ps)).map aI++am g.rs)++[x])) U:=by
 have h:(((dP ts g.ps).map (lN ts g.ps)).map aI).length+(am g.rs).length<=827:=by rw[Pd,Pd];exact Qd (iv (fZ ..) h4) (iv (gS _) hn)
 exact⟨ie (iv h (by decide)) U,λx=>ie (by rw[PC];exact iv (PP h) (by decide)) U⟩
theorem sT(hl:ts.length=g.ps.length)(h4:ts.length<=7)(hn:nL g.rs<=820)(d:Nat)(U:ac):pc (d+2) 17 [.d (aI (.call o fn ts)),.d (ao g)] U (ah (am (aS o ts g))):=by
 have c:=tv (K:=[.d (aI (.call o fn ts)),.d (ao g),.un,.un]) (i:=3) (a:=1) (b:=0) (e:=.call 16 (.cons (.var 0) (.cons (.var 1) .nil))) hl (aM rfl (fE hl d U)) (λ_ _=>rfl) (λ_ _=>rfl) (λ_ _=>rfl);obtain⟨a1,a2⟩:=wO h4 hn U;have R:=aX prog 17 (d+1) [.d (aI (.call o fn ts)),.d (ao g)] U rfl;rw[s0];cases o with
 |none=>refine(?_:_=Res.ok (ah (_++[])) U);rw[P6];exact(R 4 c a1 (same U))
 |some y=>
   have ne:=qf g.t y U;cases h:(a9 g.t).eqv (a9 (.name y)) with
   |true=>rw[h]at ne;rw[nq h,RG,P6];exact(R 516 c a1 ne (same U))
   |false=>rw[h]at ne;rw[nu h];exact(R 8708 c a1 ne (a2 _) (same U))noncomputable def u8(x:Str):Rw->Bool
 |.call _ f _=>decide (f=x)
 |_=>false
mutual
def zK:Rw->List Rw
 |.whn _ b=>jr b
 |.aga _ b=>jr b
 |.set _ _=>[]
 |.tell _=>[]
 |.call _ _ _=>[]def jr:RL->List Rw
 |.nil=>[]
 |.cons r b=>r::(zK r++jr b)
end
mutual
theorem GY(pl:List Nat):∀r:Rw,(vR pl r).map (·.2)=zK r
 |.whn _ b=>k7 pl 0 b
 |.aga _ b=>k7 pl 0 b
 |.set _ _=>rfl
 |.tell _=>rfl
 |.call _ _ _=>rfl
theorem k7(pl:List Nat)(k:Nat):∀b:RL,(jt pl k b).map (·.2)=jr b
 |.nil=>rfl
 |.cons r b=>by
   show r::(vR (pl++[k]) r++jt pl (k+1) b).map (·.2)=r::(zK r++jr b)
   rw[PR,GY (pl++[k]) r,k7 pl (k+1) b]
end
def bU(x:Str)(fs:List Fd):Bool:=fs.any λf=>(jr f.rs).any (u8 x)
theorem Ij(Ud:SL)(hB:Ud=dO)(cf:Nat->List V->ac->Res V)(x:Str)(v0 v2:V)(U:ac):∀(L:List (List Nat×Rw)) (v3 v4:V),X2 λv3' v4'=>ba (aL prog.1 cf (.tup [3,4]) Ud) (L.map aR) (F5 v0 (aA x) v2 v3 v4) U=jY ((L.map (·.2)).any (u8 x)) (.ok (.ret (.d (.bool true))) U) (.ok (.next (F5 v0 (aA x) v2 v3' v4')) U):=by
 intro xs_
 induction xs_ with
 |nil=>intro v3 v4;exact⟨v3,v4,rfl⟩
 |cons p L ih_=>
   intro v3 v4;obtain⟨v3',v4',ih⟩:=ih_ (.d (pD p.1)) (.d (aI p.2));have st:aL prog.1 cf (.tup [3,4]) Ud (aR p) (F5 v0 (aA x) v2 v3 v4) U=jY (u8 x p.2) (.ok (.ret (.d (.bool true))) U) (.ok (.next (F5 v0 (aA x) v2 (.d (pD p.1)) (.d (aI p.2)))) U):=by
     clear ih;obtain⟨q,r⟩:=p;refine d8 rfl ?_;have R:=ch prog.1 cf dO (F5 v0 (aA x) v2 (.d (pD q)) (.d (aI r))) U;have go:execs prog.1 cf dO (F5 v0 (aA x) v2 (.d (pD q)) (.d (aI r))) U=jY (u8 x r) (.ok (.ret (.d (.bool true))) U) (.ok (.next (F5 v0 (aA x) v2 (.d (pD q)) (.d (aI r)))) U):=by
       cases r with
       |call o f ts=>
         show _=jY (decide (f=x)) _ _;by_cases h:f=x
         . rw[decide_eq_true h];exact(R 64 (dT h))
         . rw[decide_eq_false h];exact(R 64 (dF h))
       |set _ _=>exact(R 0)
       |tell _=>exact(R 0)
       |whn _ _=>exact(R 0)
       |aga _ _=>exact(R 0)
     rw[hB];exact go
   refine⟨v3',v4',?_⟩;refine(?_:_=jY (u8 x p.2||(L.map (·.2)).any (u8 x)) _ _);cases h:u8 x p.2 with
   |true=>rw[h]at st;exact jJ st
   |false=>rw[h]at st;exact a6 st ih
theorem Hv(d:Nat)(x:Str)(v0:V)(U:ac):∀(fs:List Fd) (v2 v3 v4:V),(∀f∈fs,hL f.rs<=36/\nL f.rs<=9000)->X3 λv2' v3' v4'=>ba (aL prog.1 (aj prog (d+39)) (.var 2) mf) (fs.map ao) (F5 v0 (aA x) v2 v3 v4) U=jY (bU x fs) (.ok (.ret (.d (.bool true))) U) (.ok (.next (F5 v0 (aA x) v2' v3' v4')) U):=by
 intro xs_
 induction xs_ with
 |nil=>intro v2 v3 v4 _;exact⟨v2,v3,v4,rfl⟩
 |cons f fs ih_=>
   intro v2 v3 v4 h;refine kk λUc k=>?_;obtain⟨h1,h2⟩:=h f (PH ..);obtain⟨C4,vZ,lp⟩:=Ij dO rfl (aj prog (d+39)) x v0 (.d (ao f)) U (jt [] 0 f.rs) v3 v4;rw[k7]at lp;obtain⟨v2',v3',v4',ih⟩:=ih_ (.d (ao f)) C4 vZ λg hg=>h g (PG _ hg);refine k ?_;have it:=aZ (G:=prog.1) (e:=.call 7 (.cons (.tup .nil) (.cons (.idx (.var 2) (.int 2)) .nil))) (K:=(F5 v0 (aA x) (.d (ao f)) v3 v4)) (aM rfl (gb 36 f.rs [] d h1 h2 (by decide) U)) rfl;refine⟨v2',v3',v4',?_⟩;refine(?_:_=jY ((jr f.rs).any (u8 x)||bU x fs) _ _);cases q:(jr f.rs).any (u8 x) with
   |true=>rw[q]at lp;exact jJ (aP (l4 (a7 it lp)))
   |false=>rw[q]at lp;exact a6 (aP (aT (a7 it lp) rfl)) ih
theorem sf(h:∀f∈fs,hL f.rs<=36/\nL f.rs<=9000)(x:Str)(d:Nat)(U:ac):pc (d+40) 23 [ah (fs.map ao),aA x] U (.d (.bool (bU x fs))):=by
 obtain⟨v2',v3',v4',lp⟩:=Hv d x (ah (fs.map ao)) U fs .un .un .un h;cases q:bU x fs with
 |true=>rw[q]at lp;exact(aX prog 23 (d+39) [ah (fs.map ao),aA x] U rfl 0 (a7 (aZ rfl rfl) lp) (same U))
 |false=>rw[q]at lp;exact(aX prog 23 (d+39) [ah (fs.map ao),aA x] U rfl 0 (a7 (aZ rfl rfl) lp) (same U))variable {f:PyData->Fm->ac->Res Out}
theorem kA(φ:B->PyData)(Fr:Fm->Prop)(C:B->Prop)(val:B->V->Prop)(U:ac):∀(xs:List B) (K:Fm),(∀x∈xs,∀K,Fr K->(∃ρ',A3 (Fr ρ') (¬ C x) (f (φ x) K U=.ok (.next ρ') U))\/∃v,A3 (C x) (val x v) (f (φ x) K U=.ok (.ret v) U))->Fr K->
   (∃ρ',A3 (Fr ρ') ((∀x∈xs,¬ C x)) (ba f (xs.map φ) K U=.ok (.next ρ') U))\/X2 λx v=>A4 (x∈xs) (C x) (val x v) (ba f (xs.map φ) K U=.ok (.ret v) U):=by
 intro xs_
 induction xs_ with
 |nil=>intro K _ h;exact .inl ⟨K,h,(λx hx=>by cases hx),rfl⟩
 |cons x xs ih_=>
   intro K H h;rcases H x (PH ..) K h with⟨bV,bj,n,e⟩|⟨v,c,q,e⟩
   . rcases ih_ bV (λy hy=>H y (PG _ hy)) bj with⟨qk,gg,m,lR⟩|⟨y,v,hy,c,q,lR⟩
     . exact .inl ⟨qk,gg,λy hy=>(PO.mp hy).elim (λe=>e▸n) (m y),a6 e lR⟩
     . exact .inr ⟨y,v,PG _ hy,c,q,a6 e lR⟩
   . exact .inr ⟨x,v,PH ..,c,q,jJ e⟩
theorem hW{Y:Type}(φ:B->PyData)(D:Y->PyData)(Fr:Fm->Prop)(g:B->List Y)(w:Nat)(U:ac):∀(xs:List B) (K:Fm) (L:List Y),(∀x∈xs,(g x).length<=w/\∀K L,Fr K->L.length+w<=900000->∃ρ',Fr ρ'/\f (φ x) K (U++[.lst (L.map D)])=.ok (.next ρ') (U++[.lst ((L++g x).map D)]))->Fr K->L.length+xs.length * w<=900000->∃ρ',Fr ρ'/\ba f (xs.map φ) K (U++[.lst (L.map D)])=.ok (.next ρ') (U++[.lst ((L++xs.flatMap g).map D)]):=by
 intro xs_
 induction xs_ with
 |nil=>intro K L _ h _;exact⟨K,h,by rw[List.flatMap_nil,P6];rfl⟩
 |cons x xs ih_=>intro K L H h hl;refine kk λUc k=>?_;rw[PZ,S6,Qw _ w,<- Qq]at hl;obtain⟨hw,hx⟩:=H x (PH ..);obtain⟨bV,bj,e⟩:=hx K L h (QO hl);obtain⟨qk,gg,lR⟩:=ih_ bV (L++g x) (λy hy=>H y (PG _ hy)) bj (by rw[PC];exact iv (PL (Qh hw _) _) hl);rw[PV,<- RJ]at lR;refine k ?_;exact⟨qk,gg,a6 e lR⟩def dZ(j:Nat)(f:Fd):List (List Nat×List Str):=(jt [j] 0 f.rs).map (λp=>(p.1,own p.2))++[([j,(am f.rs).length],cJ f.t)]def LQ(q:List Nat×List Str):PyData:=.tuple [pD q.1,.list (q.2.map .str)]theorem zD(hl:l.length=ds.length)(h:af G cf e (b7 l ds K) U=.ok (.d y) U):jS G cf (.tup l) .nil e K (.tuple ds) U=.ok (some y) U:=by have eb:fe (.tup l) (.tuple ds) K=some (b7 l ds K):=if_pos hl;unfold jS;rw[eb];show (af G cf e (b7 l ds K) U).bind _=_;rw[h];rfl
mutual
theorem J4(pl:List Nat):∀r:Rw,ma ws cs r->∀p∈vR pl r,ma ws cs p.2
 |.set _ _=>@λ_ _ hp=>absurd hp QI
 |.tell _=>@λ_ _ hp=>absurd hp QI
 |.call _ _ _=>@λ_ _ hp=>absurd hp QI
 |.whn _ b=>@λh p hp=>mx pl 0 b h.2 p hp
 |.aga _ b=>@λh p hp=>mx pl 0 b h p hp
theorem mx(pl:List Nat)(k:Nat):∀b:RL,fH ws cs b->∀p∈jt pl k b,ma ws cs p.2
 |.nil=>@λ_ _ hp=>absurd hp QI
 |.cons r b=>@λh p hp=>by
   rcases PO.mp hp with e|hp
   . rw[e];exact h.1
   . exact(PT.mp hp).elim (J4 _ r h.1 p) (mx pl (k+1) b h.2 p)
end
theorem uG{f:Fd}(of:okF ws cs f)(j:Nat):(dZ j f).length<=821:=by unfold dZ;rw[PC,Pd,eI];exact PP of.n4
theorem nO{f:Fd}(hj:fs[j]?=some f)(of:okF ws cs f)(d:Nat)(U:ac):pc (d+21) 47 [ah (fs.map ao),ak (j:Int)] U (al ((dZ j f).map LQ)):=by
 have c:=mq (G:=prog.1) (m:=false) (t:=.tup [4,5]) (it:=.seq (.call 41 (.cons (.tup (.cons (.var 1) .nil)) (.cons (.idx (.var 2) (.int 2)) .nil)))) (e:=.tup (.cons (.var 4) (.cons (.call 38 (.cons (.var 5) .nil)) .nil))) (K:=(F6 (ah (fs.map ao)) (ak (j:Int)) (.d (ao f)) .un .un .un)) (aZ (aM rfl (kP 18 f.rs [j] d of.h9 (iv of.n4 (by decide)) (P9 19 81) U)) rfl) (iG aR (λp=>some (LQ (p.1,own p.2))) (jt [j] 0 f.rs) λp hp=>zD rfl (sZ (d0 rfl (iB (aM rfl (xL (mx [j] 0 f.rs of.rs p hp) (d+16) _)))) rfl));rw[RV]at c;have e:(dZ j f).map LQ=(jt [j] 0 f.rs).map (λp=>LQ (p.1,own p.2))++[.tuple [.tuple [.int (j:Int),.int (am f.rs).length],.list ((cJ f.t).map .str)]]:=by unfold dZ;rw[PR,Qx];rfl
 rw[e];exact(aX prog 47 (d+20) [ah (fs.map ao),ak (j:Int)] U rfl 17 (bE hj U) c (lJ of.t (d+17) U) (kT (by rw[Pd,eI];exact iv (PP of.n4) (by decide)) _) (same U))def mo(f:Fd)(x:Str):Bool:=!decide (x∈f.ps)&&(dv x f.rs||(!gP x f.rs&&decide (x∈cJ f.t)))theorem tH(L:List Str)(x:Str)(U:ac):bC .notIn (aA x) (ah (L.map .str)) U=some (!decide (x∈L)):=by rw[A0,KO,vF];(rfl)theorem Cr{f:Fd}(of:okF ws cs f)(x:Str)(d:Nat)(U:ac):pc (d+24) 50 [.d (ao f),aA x] U (.d (.bool (mo f x))):=by exact(aX prog 50 (d+23) [.d (ao f),aA x] U rfl 2 (lI x 18 f.rs d U of.rs of.h9) (lV (cq rfl rfl (tH ..)) λ_=>cN (C3 rfl λ_=>cN (lV rfl λ_=>cN (cq rfl (aM rfl (lJ of.t (d+20) U)) (eR ..))))) (same U))def TC(ts:List Tm)(ps:List Str)(k o:Nat):Prop:=X2 λp t=>A3 (ps[k]?=some p) (ts[o]?=some t) (p∈cJ t)def iX(p:List Nat×List Nat):PyData:=.tuple [pD p.1,pD p.2]theorem qM(k n:Nat):b8 ((k:Int)+1) (n:Int)=(List.range' (k+1) (n - (k+1))).map nI:=by unfold b8;have e:((n:Int) - ((k:Int)+1)).toNat=n - (k+1):=Int.toNat_sub n (k+1);rw[Ti,Qx,e];refine RA λi _=>?_;show PyData.int ((k:Int)+1+(i:Int))=.int ((k+1+i:Nat):Int);rw[RK];rfl
theorem gT{o:Nat}:o∈List.range' (k+1) (n - (k+1))↔k < o/\o < n:=by
 rw[List.mem_range'_1];refine⟨λh=>⟨h.1,?_⟩,λh=>⟨h.1,?_⟩⟩
 . by_cases q:k+1<=n
   . rw[QZ q]at h;exact h.2
   . rw[TH (Qg (Nat.lt_of_not_le q))]at h;exact absurd (P8 h.1 h.2) (Rt _)
 . rw[QZ (Qg (P8 h.1 h.2))];exact(h.2)theorem Ah(hk:k < n)(h4:n<=7):(-100000<=(k:Int)+1/\(k:Int)+1<=100000)/\(-100000<=(n:Int)/\(n:Int)<=100000):=⟨⟨QN (by decide:(-100000:Int)<=0) (Ry (Qi k) (by decide)),QN (Int.add_le_add_right (QX.mpr (Qg (Qt hk h4))) 1) (by decide)⟩,QN (by decide:(-100000:Int)<=0) (Qi n),QN (QX.mpr h4) (by decide)⟩
theorem pP{pl:List Nat}(hpl:pl.length<=100)(hl:ts.length=g.ps.length)(h4:ts.length<=7)(ok:∀t∈ts,lP ws t)(d:Nat)(U:ac):∃v,pc (d+5) 18 [.d (pD pl),.d (aI (.call o fn ts)),.d (ao g)] U (.d v)/\((v=.none/\∀k∈dP ts g.ps,∀i,k < i->i < ts.length->¬ TC ts g.ps k i)\/X2 λk i=>A5 (k∈dP ts g.ps) (k < i) (i < ts.length) (TC ts g.ps k i) (v=iX (pl++[k],pl++[i]))):=by
 have inner:=λk (hk:k∈dP ts g.ps) (v3 v4:V)=>kA (f:=aL prog.1 (aj prog (d+4)) (.var 4) gW) nI (λK=>∃v4,K=(F5 (.d (pD pl)) (.d (aI (.call o fn ts))) (.d (ao g)) (.d (nI k)) v4)) (TC ts g.ps k) (λi v=>v=.d (iX (pl++[k],pl++[i]))) U (List.range' (k+1) (ts.length - (k+1))) (F5 (.d (pD pl)) (.d (aI (.call o fn ts))) (.d (ao g)) (.d (nI k)) v4) (by
   rintro i hi _ ⟨v4,rfl⟩
   refine kk λUc kz=>?_;obtain⟨hki,hin⟩:=gT.mp hi;obtain⟨p,hp⟩:=(λk hk=>⟨_,PD (hl▸hk)⟩:∀k,k < ts.length->∃p,g.ps[k]?=some p) k (TB hki hin);obtain⟨t,ht,okt⟩:=(λk hk=>⟨_,PD hk,ok _ (Rp _)⟩:∀k,k < ts.length->∃t,ts[k]?=some t/\lP ws t) i hin;obtain⟨L,hL,e⟩:=dQ okt d U;have R:=ch prog.1 (aj prog (d+4)) gW (F5 (.d (pD pl)) (.d (aI (.call o fn ts))) (.d (ao g)) (.d (nI k)) (.d (nI i))) U;have ip:=mH hp U;have it:=oH ht U;have ins:=eR L p U;by_cases q:p∈L
   . exact kz (.inr ⟨_,⟨p,t,hp,ht,(hL.mem p).mp q⟩,rfl,aP ((R 250 ip it e ins (dT q) (pT hpl k U) (pT hpl i U)))⟩)
   . refine kz (.inl ⟨_,⟨.d (nI i),rfl⟩,λ⟨p',t',h1,h2,h3⟩=>q ?_,aP ((R 58 ip it e ins (dF q)))⟩);rw[hp]at h1;rw[ht]at h2;injection h1 with e;subst e;injection h2 with e;subst e;exact(hL.mem p).mpr h3) ⟨v4,rfl⟩
 have outer:=kA (f:=aL prog.1 (aj prog (d+4)) (.var 3) kB) nI (λK=>X2 λv3 v4=>K=(F5 (.d (pD pl)) (.d (aI (.call o fn ts))) (.d (ao g)) v3 v4)) (λk=>∃i,i∈List.range' (k+1) (ts.length - (k+1))/\TC ts g.ps k i) (λk v=>∃i,A3 (i∈List.range' (k+1) (ts.length - (k+1))) (TC ts g.ps k i) (v=.d (iX (pl++[k],pl++[i])))) U (dP ts g.ps) (F5 (.d (pD pl)) (.d (aI (.call o fn ts))) (.d (ao g)) .un .un) (by
   rintro k hk _ ⟨v3,v4,rfl⟩
   have it:=rI (G:=prog.1) (cf:=aj prog (d+4)) (e:=.bin .add false (.var 3) (.int 1)) (e':=.bi .len false (.cons (.idx (.var 1) (.int 3)) .nil)) (K:=(F5 (.d (pD pl)) (.d (aI (.call o fn ts))) (.d (ao g)) (.d (nI k)) v4)) (U:=U) rfl rfl (by rw[Pd];exact Ah (lq hk) h4);rw[Pd,qM]at it;rcases inner k hk v3 v4 with⟨_,⟨v4',rfl⟩,n,e⟩|⟨i,v,hi,c,rfl,e⟩
   . exact .inl ⟨_,⟨.d (nI k),v4',rfl⟩,λ⟨i,hi,c⟩=>n i hi c,aP (aT (a7 it e) rfl)⟩
   . exact .inr ⟨_,⟨i,hi,c⟩,⟨i,hi,c,rfl⟩,aP (l4 (a7 it e))⟩) ⟨.un,.un,rfl⟩
 have it:=aZ (G:=prog.1) (e:=.call 16 (.cons (.var 1) (.cons (.var 2) .nil))) (K:=(F5 (.d (pD pl)) (.d (aI (.call o fn ts))) (.d (ao g)) .un .un)) (aM rfl (fE hl (d+3) U)) rfl;have R:=aX prog 18 (d+4) [.d (pD pl),.d (aI (.call o fn ts)),.d (ao g)] U rfl;rcases outer with⟨_,⟨v3,v4,rfl⟩,n,e⟩|⟨k,v,hk,c,⟨i,hi,c',rfl⟩,e⟩
 . exact⟨.none,(R 0 (a7 it e) (same U)),.inl ⟨rfl,λk hk i h1 h2 c=>n k hk ⟨i,gT.mpr ⟨h1,h2⟩,c⟩⟩⟩
 . exact⟨_,(R 0 (a7 it e) (same U)),.inr ⟨k,i,hk,(gT.mp hi).1,(gT.mp hi).2,c',rfl⟩⟩theorem sj(b:B->Bool):∀L:List B,c7 (L.map λx=>.bool (b x))=some (L.map b)
 |[]=>rfl
 |x::L=>by show (c7 (L.map λx=>.bool (b x))).map (b x::·)=_;rw[sj b L];(rfl)theorem CG(b:B->Bool)(L:List B)(U:ac):xV .any false [al (L.map λx=>.bool (b x))] U=.ok (.d (.bool (L.any b))) U:=by show oc (c7 (L.map λx=>.bool (b x))) (λl=>Res.ok (V.d (.bool (l.any id))) U) .bad=_;rw[sj];show Res.ok (V.d (.bool ((L.map b).any id))) U=_;rw[Tv];rfl
mutual
theorem EX(x:Str):∀r:Rw,ye x r=true->x∈own r\/∃q∈zK r,x∈own q
 |.set _ _=>@λh=>.inl (of_decide_eq_true h)
 |.tell _=>@λh=>.inl (of_decide_eq_true h)
 |.call _ _ _=>@λh=>.inl (of_decide_eq_true h)
 |.whn _ b=>@λh=>(Qc.mp h).imp of_decide_eq_true (gH x b)
 |.aga _ b=>@λh=>.inr (gH x b (PK.mp h).2)
theorem gH(x:Str):∀b:RL,dv x b=true->∃q∈jr b,x∈own q
 |.cons r b,h=>by
   rcases Qc.mp h with h|h
   . rcases EX x r h with h|⟨q,hq,h⟩
     . exact⟨r,PH ..,h⟩
     . exact⟨q,PG _ (Q3 _ hq),h⟩
   . obtain⟨q,hq,h⟩:=gH x b (PK.mp h).2;exact⟨q,PG _ (QJ _ hq),h⟩
end
theorem FM(h:r∈jr b)(pl:List Nat)(k:Nat):∃p∈jt pl k b,p.2=r:=by rw[<- k7 pl k b]at h;exact Qk.mp (h)def Bh(g:Fd)(q:List Nat×List Str):Prop:=∃x∈q.2,mo g x=true
theorem pR(w7:ws.length<=8)(hn:fs[n]?=some g)(og:okF ws cs g)(pl:List Nat)(d:Nat)(U:ac):∃v,pc (d+26) 19 [ah (fs.map ao),.d (pD pl),ak (n:Int)] U (.d v)/\((v=.none/\∀x,mo g x=false)\/∃q∈dZ n g,Bh g q/\v=iX (q.1,pl)):=by
 refine kk λUc k=>?_;obtain⟨S,hS,eS⟩:=uu w7 og.rs (iv (PL og.h9 2) (iv (by decide) (P9 25 d))) U;obtain⟨F,hF,eF⟩:=jU w7 18 _ (d+1) og.rs og.h9 (U++[.dct (dk S)]);obtain⟨N,hN,eN⟩:=dQ og.t (d+21) ((U++[.dct (dk S)])++[.dct (dk F)]);refine k ?_;generalize hτ:(U++[Cell.dct (dk S)])++[Cell.dct (dk F)]=J at eF eN;have ht:(J++[Cell.busy])[U.length]?=some (.dct (dk S)):=by exact hτ▸wb ..
 have hf:J[(U++[Cell.dct (dk S)]).length]?=some (.dct (dk F)):=by rw[<- hτ];exact aK ..
 have hb:J.take U.length=U:=by rw[<- hτ,PV];exact cS ..
 have c1:=fi (G:=prog.1) (i:=11) (it:=.seq (.call 1 (.cons (.var 5) .nil))) (c:=.cmp .notIn (.var 11) (.var 6)) (e:=.var 11) (K:=(LN (ah (fs.map ao)) (.d (pD pl)) (ak (n:Int)) (ah (g.ps.map .str)) (ah (am g.rs)) (.d (a9 g.t)) (.loc U.length) .un .un .un .un .un .un .un)) PyData.str PyData.str (λx=>!decide (x∈S)) (aZ (aM rfl eN) rfl) (λp hp=>cq rfl rfl (nj ht p)) (λp hp _=>rfl);have ad:=kT (a:=F.map PyData.str) (b:=(N.filter λx=>!decide (x∈S)).map .str) (by rw[Pd,Pd];exact iv (Qd (hF.few w7 λx=>du x _ og.rs) (iv (Rj ..) (hN.few w7 og.t.1))) (by decide)) J;replace ad:=PR▸ad;have hM:∀x,x∈(F++N.filter λx=>!decide (x∈S)).filter (λx=>!decide (x∈g.ps))↔mo g x=true:=λx=>by unfold mo;rw[QQ,PT,QQ,hF.mem x,hN.mem x,PK,Qc,PK,QD,QD,QD,decide_eq_false_iff_not,decide_eq_false_iff_not,hS.mem x,Bool.not_eq_true,decide_eq_true_iff];exact and_comm.trans (and_congr Iff.rfl (or_congr Iff.rfl and_comm))
 have c2:=λ(M:List Str)=>fi (G:=prog.1) (cf:=aj prog (d+25)) (i:=12) (it:=.seq (.var 7)) (c:=.cmp .notIn (.var 12) (.var 3)) (e:=.var 12) (K:=(LN (ah (fs.map ao)) (.d (pD pl)) (ak (n:Int)) (ah (g.ps.map .str)) (ah (am g.rs)) (.d (a9 g.t)) (.loc U.length) (al (M.map .str)) .un .un .un .un .un .un)) (U:=J) PyData.str PyData.str (λx=>!decide (x∈g.ps)) (aZ rfl rfl) (λp hp=>cq rfl rfl (tH ..)) (λp hp _=>rfl);have c2:=c2 (F++N.filter λx=>!decide (x∈S));generalize hB:(F++N.filter λx=>!decide (x∈S)).filter (λx=>!decide (x∈g.ps))=Ud at hM c2;generalize F++(N.filter λx=>!decide (x∈S))=M at ad c2;have R:=aX prog 19 (d+25) [ah (fs.map ao),.d (pD pl),ak (n:Int)] U rfl;have en:=nK (Ud.map PyData.str) J;rw[Q0]at en;cases hE:Ud.isEmpty with
 |true=>
   replace en:=hE▸en;refine⟨.none,(R 29 (bE hn U) eS eF (eO hf) c1 ad c2 en hb),.inl ⟨rfl,λx=>?_⟩⟩;cases q:mo g x with
   |false=>rfl
   |true=>replace hM:=(RQ.mp hE)▸hM;cases (hM x).mpr q
 |false=>
   replace en:=hE▸en;have lp:=kA (f:=aL prog.1 (aj prog (d+25)) (.tup [9,10]) g7) aR (λK=>X2 λv9 v10=>K=(LN (ah (fs.map ao)) (.d (pD pl)) (ak (n:Int)) (ah (g.ps.map .str)) (ah (am g.rs)) (.d (a9 g.t)) (.loc U.length) (al (M.map .str)) (al (Ud.map .str)) v9 v10 .un .un .un)) (λp=>Bh g (p.1,own p.2)) (λp v=>v=.d (iX (p.1,pl))) J (jt [n] 0 g.rs) (LN (ah (fs.map ao)) (.d (pD pl)) (ak (n:Int)) (ah (g.ps.map .str)) (ah (am g.rs)) (.d (a9 g.t)) (.loc U.length) (al (M.map .str)) (al (Ud.map .str)) .un .un .un .un .un) (by
     rintro p hp _ ⟨v9,v10,rfl⟩
     obtain⟨L,hL,eL⟩:=hZ w7 (mx [n] 0 g.rs og.rs p hp) (d+20) J;have c3:=lU (G:=prog.1) (i:=13) (it:=.seq (.call 3 (.cons (.var 10) .nil))) (e:=.cmp .isIn (.var 13) (.var 8)) (K:=(LN (ah (fs.map ao)) (.d (pD pl)) (ak (n:Int)) (ah (g.ps.map .str)) (ah (am g.rs)) (.d (a9 g.t)) (.loc U.length) (al (M.map .str)) (al (Ud.map .str)) (.d (pD p.1)) (.d (aI p.2)) .un .un .un)) PyData.str (λx=>.bool (decide (x∈Ud))) (aZ (aM rfl eL) rfl) λx _=>cq rfl rfl (eR ..);have R:=ch prog.1 (aj prog (d+25)) g7 (LN (ah (fs.map ao)) (.d (pD pl)) (ak (n:Int)) (ah (g.ps.map .str)) (ah (am g.rs)) (.d (a9 g.t)) (.loc U.length) (al (M.map .str)) (al (Ud.map .str)) (.d (pD p.1)) (.d (aI p.2)) .un .un .un) J;have an:=CG (λx=>decide (x∈Ud)) L J;have iff:(L.any λx=>decide (x∈Ud))=true↔Bh g (p.1,own p.2):=by rw[Si];exact exists_congr λx=>and_congr (hL.mem x) (decide_eq_true_iff.trans (hM x))
     cases q:L.any λx=>decide (x∈Ud) with
     |true=>exact .inr ⟨_,iff.mp q,rfl,d8 rfl ((R 3 c3 an (bT q)))⟩
     |false=>exact .inl ⟨_,⟨_,_,rfl⟩,λc=>P0 (q.symm.trans (iff.mpr c)),d8 rfl ((R 3 c3 an (bF q)))⟩) ⟨.un,.un,rfl⟩
   have it:=aZ (G:=prog.1) (e:=.call 7 (.cons (.tup (.cons (.var 2) .nil)) (.cons (.var 4) .nil))) (K:=(LN (ah (fs.map ao)) (.d (pD pl)) (ak (n:Int)) (ah (g.ps.map .str)) (ah (am g.rs)) (.d (a9 g.t)) (.loc U.length) (al (M.map .str)) (al (Ud.map .str)) .un .un .un .un .un)) (aM rfl (gb 18 g.rs [n] (d+4) og.h9 (iv og.n4 (by decide)) (P9 19 81) J)) rfl;rcases lp with⟨_,⟨v9,v10,rfl⟩,no,e⟩|⟨p,v,hp,c,rfl,e⟩
   . refine⟨_,(R 29 (bE hn U) eS eF (eO hf) c1 ad c2 en (a7 it e) hb),.inr ⟨([n,(am g.rs).length],cJ g.t),QJ _ (PN.mpr rfl),?_,rfl⟩⟩;clear e;clear it;clear c2;obtain⟨x,hx⟩:∃x,x∈Ud:=by
       clear en hM;cases Ud with
       |nil=>injection hE
       |cons x _=>exact⟨x,PH ..⟩
     have q:=(hM x).mp hx;rcases Qc.mp (PK.mp q).2 with h|h
     . refine kk λUc k=>?_;obtain⟨r,hr,hx⟩:=gH x g.rs h;obtain⟨p,hp,rfl⟩:=FM hr [n] 0;refine k ?_;exact(no p hp ⟨x,hx,q⟩).elim
     . exact⟨x,of_decide_eq_true (PK.mp h).2,q⟩
   . exact⟨_,(R 29 (bE hn U) eS eF (eO hf) c1 ad c2 en (a7 it e) hb),.inr ⟨(p.1,own p.2),Q3 _ (QB hp),c,rfl⟩⟩
theorem wV:∀(p q:List Nat),∃b,Hg (p.map nI) (q.map nI)=some b
 |[],[]=>⟨_,rfl⟩
 |[],_::_=>⟨_,rfl⟩
 |_::_,[]=>⟨_,rfl⟩
 |a::p,b::q=>by
   show ∃c,(if (a:Int)=(b:Int) then Hg (p.map nI) (q.map nI) else some (decide ((a:Int) < (b:Int))))=some c;by_cases h:(a:Int)=(b:Int)
   . rw[if_pos h];exact wV p q
   . rw[if_neg h];exact⟨_,rfl⟩variable {l:List PyData}theorem M6(h:af G cf e K U=.ok (.loc n) aa)(hc:aa[n]?=some (.lst l)):cA G cf (.seq e) K U=.ok ⟨l,l,some n⟩ aa:=au h (by rw[DV hc];rfl)theorem JO{t:Tgt}{b:SL}{o:Out}(hI:cA G cf it K U=.ok ⟨l,l,some n⟩ aa)(hl:ba (aL G cf t b) l K (aa.set n .busy)=.ok o ae):exec G cf (.forr t it b) K U=.ok o (ae.set n (.lst l)):=au hI (au hl rfl)noncomputable def pM(x:Str)(q:List Nat×List Str):Bool:=decide (x∈q.2)
theorem xK(w7:ws.length<=8){f:Fd}(hj:fs[j]?=some f)(of:okF ws cs f)(hx:∃q∈dZ j f,x∈q.2)(p:List Nat)(d:Nat)(U:ac):∃q∈dZ j f,x∈q.2/\pc (d+22) 21 [ah (fs.map ao),.d (pD (j::p)),aA x] U (.d (pD q.1)):=by
 obtain⟨N,hN,eN⟩:=dQ of.t (d+17) (U++[.lst (((jt [j] 0 f.rs).filter λp=>decide (x∈own p.2)).map λp=>pD p.1)]);have c:=mq (G:=prog.1) (cf:=aj prog (d+21)) (m:=true) (t:=.tup [7,8]) (it:=.seq (.call 7 (.cons (.tup (.cons (.idx (.var 1) (.int 0)) .nil)) (.cons (.var 3) .nil)))) (c:=.cons (.cmp .isIn (.var 2) (.call 3 (.cons (.var 8) .nil))) .nil) (e:=.var 7) (K:=(F9 (ah (fs.map ao)) (.d (pD (j::p))) (aA x) (ah (am f.rs)) (.d (a9 f.t)) .un .un .un .un)) (aZ (aM (d0 (sZ (iB (bZ rfl rfl (bI ..))) rfl) rfl) (gb 18 f.rs [j] d of.h9 (iv of.n4 (by decide)) (P9 19 81) U)) rfl) (iG aR (λp=>if decide (x∈own p.2) then some (pD p.1) else none) (jt [j] 0 f.rs) λp hp=>by refine(hZ w7 (mx [j] 0 f.rs of.rs p hp) (d+16) (U++[.busy])).elim λL q9=>?_;have eL:=q9.2;exact Ba rfl (cq rfl (aM rfl eL) (by rw[eR];exact congrArg some (decide_eq_decide.mpr (q9.1.mem x)))) λ_=>rfl)
 rw[E6 (λp:List Nat×Rw=>decide (x∈own p.2)) (λp=>pD p.1)]at c;have R:=aX prog 21 (d+21) [ah (fs.map ao),.d (pD (j::p)),aA x] U rfl;have ins:=eR N x (U++[.lst (((jt [j] 0 f.rs).filter λp=>decide (x∈own p.2)).map λp=>pD p.1)]);have eL:∀b:Bool,decide (x∈cJ f.t)=b->((dZ j f).filter (pM x)).map (·.1)=((jt [j] 0 f.rs).filter λp=>decide (x∈own p.2)).map (·.1)++(bif b then [[j,(am f.rs).length]] else []):=λb hb=>by unfold dZ;rw[List.filter_append,PR,List.filter_map,Qx];have h2:pM x ([j,(am f.rs).length],cJ f.t)=b:=hb;rw[Tr,h2];clear hb h2;cases (b)<;>rfl
 have sub:∀q∈((dZ j f).filter (pM x)).map (·.1),∃r∈dZ j f,x∈r.2/\q=r.1:=λq hq=>by obtain⟨r,hr,rfl⟩:=Qk.mp hq;exact⟨r,(QQ.mp hr).1,of_decide_eq_true (QQ.mp hr).2,rfl⟩
 have ne:((dZ j f).filter (pM x)).map (·.1)≠[]:=λh=>by obtain⟨q,hq,hx⟩:=hx;have:q.1∈((dZ j f).filter (pM x)).map (·.1):=QB (QQ.mpr ⟨hq,decide_eq_true hx⟩);replace this:=h▸this;cases this
 have lL:(((jt [j] 0 f.rs).filter λp=>decide (x∈own p.2)).map λp=>pD p.1).length<=820:=by rw[Pd];exact iv (Rj ..) (by rw[eI];exact of.n4)
 have mp:((jt [j] 0 f.rs).filter λp=>decide (x∈own p.2)).map (λp=>pD p.1)=(((jt [j] 0 f.rs).filter λp=>decide (x∈own p.2)).map (·.1)).map pD:=by rw[Qx];rfl
 generalize hA:((jt [j] 0 f.rs).filter λp=>decide (x∈own p.2)).map (·.1)=A at eL mp;rw[mp]at c eN ins lL;generalize hQ:((dZ j f).filter (pM x)).map (·.1)=Q at eL sub ne;have lp:=kA (f:=aL prog.1 (aj prog (d+21)) (.var 6) jN) pD (λK=>∃v6,K=(F9 (ah (fs.map ao)) (.d (pD (j::p))) (aA x) (ah (am f.rs)) (.d (a9 f.t)) (.loc U.length) v6 .un .un)) (λq=>Hg ((j::p).map nI) (q.map nI)=some true) (λq v=>v=.d (pD q)) (U++[.busy]) Q (F9 (ah (fs.map ao)) (.d (pD (j::p))) (aA x) (ah (am f.rs)) (.d (a9 f.t)) (.loc U.length) .un .un .un) (by
   rintro q hq _ ⟨v6,rfl⟩
   obtain⟨b,hb⟩:=wV (j::p) q;have R:=ch prog.1 (aj prog (d+21)) jN (F9 (ah (fs.map ao)) (.d (pD (j::p))) (aA x) (ah (am f.rs)) (.d (a9 f.t)) (.loc U.length) (.d (pD q)) .un .un) (U++[Cell.busy]);cases b with
   |true=>exact .inr ⟨_,hb,rfl,aP ((R 1 hb))⟩
   |false=>exact .inl ⟨_,⟨_,rfl⟩,(λh=>by rw[hb]at h;(injection h with e;injection e)),aP ((R 1 hb))⟩) ⟨.un,rfl⟩
 have lp':=λo (h:ba (aL prog.1 (aj prog (d+21)) (.var 6) jN) (Q.map pD) (F9 (ah (fs.map ao)) (.d (pD (j::p))) (aA x) (ah (am f.rs)) (.d (a9 f.t)) (.loc U.length) .un .un .un) (U++[.busy])=.ok o (U++[.busy]))=>JO (it:=.seq (.var 5)) (M6 rfl (aK _ _)) (by rw[fU];exact h);rw[fU]at lp';clear mp hA hQ;obtain⟨q0,Q',rfl⟩:X2 λq0 Q'=>Q=q0::Q':=by
   clear lp' sub lp;cases Q with
   |nil=>exact(ne rfl).elim
   |cons a b=>exact⟨a,b,rfl⟩
 have i0:cK (.loc U.length) (ak 0) (U++[.lst ((q0::Q').map pD)])=some (.d (pD q0)):=by show oc (aQ (U++[.lst ((q0::Q').map pD)]) (.loc U.length)) (λl=>if (0:Int)<=0 then (l[(0:Int).toNat]?).map V.d else none) none=_;rw[gV (aK _ _)];rfl
 cases hb:decide (x∈cJ f.t) with
 |true=>
   have eL:=eL true hb;have ap:=mT (U:=U) (iv lL (by decide)) (pD [j,(am f.rs).length]);have e2:A.map pD++[pD [j,(am f.rs).length]]=(q0::Q').map pD:=by rw[eL,PR];rfl
   replace ap:=e2▸ap;have q:x∈N:=(hN.mem x).mpr (of_decide_eq_true hb);clear ne e2 eL;rcases lp with⟨_,⟨v6,rfl⟩,no,e⟩|⟨q1,v,hq,_,rfl,e⟩
   . refine kk λUc k=>?_;clear no;obtain⟨r,h1,h2,rfl⟩:=sub q0 (PH ..);refine k ?_;exact⟨r,h1,h2,(R 187 (bI ..) (bE hj U) c eN ins (dT q) (bI ..) ap (lp' _ e) i0 (cG ..))⟩
   . obtain⟨r,h1,h2,rfl⟩:=sub q1 hq;exact⟨r,h1,h2,(R 59 (bI ..) (bE hj U) c eN ins (dT q) (bI ..) ap (lp' _ e) (cG ..))⟩
 |false=>
   have eL:=eL false hb;rw[cond_false,P6]at eL;subst eL;clear eL;have q:¬ x∈N:=λq=>of_decide_eq_false hb ((hN.mem x).mp q);rcases lp with⟨_,⟨v6,rfl⟩,no,e⟩|⟨q1,v,hq,_,rfl,e⟩
   . obtain⟨r,h1,h2,rfl⟩:=sub q0 (PH ..);exact⟨r,h1,h2,(R 59 (bI ..) (bE hj U) c eN ins (dF q) (lp' _ e) i0 (cG ..))⟩
   . refine kk λUc k=>?_;obtain⟨r,h1,h2,rfl⟩:=sub q1 hq;refine k ?_;exact⟨r,h1,h2,(R 27 (bI ..) (bE hj U) c eN ins (dF q) (lp' _ e) (cG ..))⟩
theorem tD(k:Str)(v:PyData)(x:Str):∀kvs:List (Str×PyData),(eZ k v kvs).lookup x=if x=k then some v else kvs.lookup x:=by
 have rep:∀kvs:List (Str×PyData),(kvs.map λy=>if y.1=k then (y.1,v) else y).lookup x=if x=k then (if kvs.any (λy=>decide (y.1=k)) then some v else none) else kvs.lookup x:=λkvs=>by
   induction kvs with
   |nil=>exact(ite_self _).symm
   |cons a l ih=>
     obtain⟨y,w⟩:=a;rw[Qs];by_cases h:y=k
     . rw[if_pos h,P4,ih,RM,decide_eq_true h,Bool.true_or,if_pos rfl,P4,h];by_cases q:x=k
       . rw[if_pos q,if_pos q,beq_iff_eq.mpr q]
       . rw[if_neg q,if_neg q,beq_false_of_ne q]
     . rw[if_neg h,P4,ih,RM,decide_eq_false h,SO,P4];by_cases q:x=k
       . rw[if_pos q,if_pos q,beq_false_of_ne λe=>h (e.symm.trans q)]
       . rw[if_neg q,if_neg q]
 have no:∀kvs:List (Str×PyData),kvs.any (λy=>decide (y.1=k))=false->kvs.lookup k=none:=λkvs h=>by
   induction kvs with
   |nil=>rfl
   |cons a l ih=>obtain⟨y,w⟩:=a;rw[RM,Se]at h;rw[P4,beq_false_of_ne λe=>of_decide_eq_false h.1 e.symm];exact ih h.2
 intro kvs;unfold eZ;cases h:kvs.any λy=>decide (y.1=k) with
 |true=>rw[if_pos rfl,rep,h,if_pos rfl]
 |false=>
   rw[if_neg P0,List.lookup_append,P4];by_cases q:x=k
   . rw[if_pos q,q,no kvs h,beq_self_eq_true];rfl
   . rw[if_neg q,beq_false_of_ne q];exact Option.or_none
theorem lA(k x:Str):∀kvs:List (Str×PyData),(kvs.filter λy=>!decide (y.1=k)).lookup x=if x=k then none else kvs.lookup x
 |[]=>(ite_self _).symm
 |(y,w)::l=>by
   rw[Tr];by_cases h:y=k
   . rw[decide_eq_true h,Sy,if_neg P0,lA k x l,P4];by_cases q:x=k
     . rw[if_pos q,if_pos q]
     . rw[if_neg q,if_neg q,beq_false_of_ne λe=>q (e.trans h)]
   . rw[decide_eq_false h,Bool.not_false,if_pos rfl,P4,lA k x l,P4];by_cases q:x=k
     . rw[if_pos q,if_pos q,beq_false_of_ne λe=>h (e.symm.trans q)]
     . rw[if_neg q,if_neg q]
theorem DO(k:Str)(v:PyData)(kvs:List (Str×PyData)):(eZ k v kvs).length<=kvs.length+1:=by
 unfold eZ;cases kvs.any λx=>decide (x.1=k) with
 |true=>rw[if_pos rfl,Pd];exact Sl _
 |false=>rw[if_neg P0,PC];exact Qb (_)abbrev IB:=List (List Nat×Option Str)
structure Dm(kvs:List (Str×PyData))(G:IB):Prop where
 some:∀x v,kvs.lookup x=some v->∃q,v=pD q/\(q,Option.some x)∈G
 none:∀x,kvs.lookup x=none->∀q,(q,Option.some x)∉G
 len:kvs.length<=G.length
variable {kvs:List (Str×PyData)}
theorem Dm.put{G:IB}(h:Dm kvs G)(k:Str)(q:List Nat):Dm (eZ k (pD q) kvs) (G++[(q,Option.some k)]):=by
 refine⟨λx v e=>?_,λx e p m=>?_,by exact PC▸iv (DO ..) (PP h.len)⟩
 . rw[tD]at e;by_cases c:x=k
   . rw[if_pos c]at e;exact⟨q,(Option.some.inj e).symm,c▸QJ _ (PN.mpr rfl)⟩
   . rw[if_neg c]at e;obtain⟨p,h1,h2⟩:=h.some x v e;exact⟨p,h1,Q3 _ h2⟩
 . rw[tD]at e;by_cases c:x=k
   . rw[if_pos c]at e;injection e
   . rw[if_neg c]at e;rcases rf m with m|m
     . exact h.none x e p m
     . exact c (Option.some.inj (congrArg Prod.snd m))
theorem Dm.skip{G:IB}(h:Dm kvs G)(q:List Nat)(o:Option Str)(ho:∀x,o=Option.some x->(kvs.lookup x).isSome=true):Dm kvs (G++[(q,o)]):=by
 refine⟨λx v e=>?_,λx e p m=>?_,by rw[PC];exact iv h.len (PW _ _)⟩
 . obtain⟨p,h1,h2⟩:=h.some x v e;exact⟨p,h1,Q3 _ h2⟩
 . rcases rf m with m|m
   . exact h.none x e p m
   . have:=ho x (congrArg Prod.snd m).symm;rw[e]at this;injection this
theorem yt{o i:E}{k:Str}{x:PyData}(h1:af prog.1 cf e K (U++[.dct kvs])=.ok (.d x) (U++[.dct kvs]))(h2:af prog.1 cf o K (U++[.dct kvs])=.ok (.loc U.length) (U++[.dct kvs]))(h3:af prog.1 cf i K (U++[.dct kvs])=.ok (aA k) (U++[.dct kvs]))(hl:kvs.length<=9000):exec prog.1 cf (.put o i e) K (U++[.dct kvs])=.ok (.next K) (U++[.dct (eZ k x kvs)]):=by refine(IQ h1 h2 h3 (aK _ _) (P8 hl (by decide))).trans ?_;rw[fU]
theorem oO(φ:B->PyData)(Fr:Fm->Prop)(γ:B->List Nat×Option Str)(U:ac):∀(xs:List B) (K:Fm) (kvs:List (Str×PyData)) (G:IB),(∀x∈xs,∀K kvs G,Fr K->Dm kvs G->G.length<=9000->X2 λρ' kvs'=>A3 (Fr ρ') (Dm kvs' (G++[γ x])) (f (φ x) K (U++[.dct kvs])=.ok (.next ρ') (U++[.dct kvs'])))->Fr K->Dm kvs G->G.length+xs.length<=9000->X2 λρ' kvs'=>A3 (Fr ρ') (Dm kvs' (G++xs.map γ)) (ba f (xs.map φ) K (U++[.dct kvs])=.ok (.next ρ') (U++[.dct kvs'])):=by
 intro xs_
 induction xs_ with
 |nil=>intro K kvs G _ h hd _;exact⟨K,kvs,h,by rw[RG,P6];exact hd,rfl⟩
 |cons x xs ih_=>intro K kvs G H h hd hl;refine kk λUc k=>?_;rw[PZ,Qw xs.length,<- Qq]at hl;obtain⟨bV,KC,bj,Ol,e⟩:=H x (PH ..) K kvs G h hd (iv (PW _ _) (iv (PW _ _) hl));obtain⟨qk,Ho,gg,Nt,lR⟩:=ih_ bV KC (G++[γ x]) (λy hy=>H y (PG _ hy)) bj Ol (by rw[PC];exact hl);rw[PV]at Nt;refine k ?_;exact⟨qk,Ho,gg,Nt,a6 e lR⟩noncomputable def Ge(pl:List Nat)(g:Fd)(k:Nat):List Nat×Option Str:=(pl++[k],g.ps[k]?)def EI(p:List Nat×Rw):List Nat×Option Str:=(p.1,Gc p.2)def tU(pl:List Nat)(n:Nat)(ts:List Tm)(g:Fd):IB:=(dP ts g.ps).map (Ge pl g)++(jt [n] 0 g.rs).map EI
theorem yW(h:U[n]?=some (.dct kvs))(x:Str):bC .isIn (aA x) (.loc n) U=some (kvs.lookup x).isSome:=by
 have e:aQ U (.loc n)=none:=by show U[n]?.bind Kw=_;rw[h];rfl
 refine(?_:oc (aQ U (.loc n)) (λl=>xa (.str x) l) (oc (iF U (.loc n)) (λkvs=>some (kvs.lookup x).isSome) none)=_);rw[e,gJ h];(rfl)theorem As(h:U[n]?=some (.dct kvs))(x:Str):bC .notIn (aA x) (.loc n) U=some (!(kvs.lookup x).isSome):=by show (bC .isIn (aA x) (.loc n) U).map _=_;rw[yW h];rfl
structure Sets(kvs:List (Str×PyData))(G:IB)(o:Option Str):Prop where
 some:∀x v,kvs.lookup x=some v->(∃q,v=pD q/\(q,Option.some x)∈G)/\o≠Option.some x
 none:∀x,kvs.lookup x=none->(∀q,(q,Option.some x)∉G)\/o=Option.some x
set_option maxHeartbeats 2000000 in
theorem vw{pl:List Nat}(hpl:pl.length<=100)(hl:ts.length=g.ps.length)(h4:ts.length<=7)(og:okF ws cs g)(n d:Nat)(U:ac):∃kvs,Sets kvs (tU pl n ts g) o/\aj prog (d+22) 20 [.d (pD pl),.d (aI (.call o fn ts)),ak (n:Int),.d (ao g)] U=.ok (.loc U.length) (U++[.dct kvs]):=by
 refine kk λUc k=>?_;obtain⟨_,k1,⟨v5,rfl⟩,d1,e1⟩:=oO (f:=aL prog.1 (aj prog (d+21)) (.var 5) pi) nI (λK=>∃v5,K=(F8 (.d (pD pl)) (.d (aI (.call o fn ts))) (ak (n:Int)) (.d (ao g)) (.loc U.length) v5 .un .un)) (Ge pl g) U (dP ts g.ps) (F8 (.d (pD pl)) (.d (aI (.call o fn ts))) (ak (n:Int)) (.d (ao g)) (.loc U.length) .un .un .un) [] [] (by
   rintro k hk _ kvs G ⟨v5,rfl⟩ hd hG
   obtain⟨t,p,h1,h2,h3⟩:=lr hl (lq hk);have e:Ge pl g k=(pl++[k],some p):=by unfold Ge;exact congrArg _ h2
   rw[e];exact⟨_,_,⟨.d (nI k),rfl⟩,hd.put p (pl++[k]),aP (aT (yt (jX rfl rfl (pT hpl k _)) rfl (bZ rfl rfl (mH h2 _)) (iv hd.len hG)) rfl)⟩) ⟨.un,rfl⟩ ⟨(λx v h=>by injection h),(λx _ q h=>by cases h),Qb _⟩ (by rw[Q8,Rk];exact iv (fZ ..) (iv h4 (by decide)))
 obtain⟨_,k2,⟨v6,v7,rfl⟩,d2,e2⟩:=oO (f:=aL prog.1 (aj prog (d+21)) (.tup [6,7]) kE) aR (λK=>X2 λv6 v7=>K=(F8 (.d (pD pl)) (.d (aI (.call o fn ts))) (ak (n:Int)) (.d (ao g)) (.loc U.length) v5 v6 v7)) EI U (jt [n] 0 g.rs) (F8 (.d (pD pl)) (.d (aI (.call o fn ts))) (ak (n:Int)) (.d (ao g)) (.loc U.length) v5 .un .un) k1 _ (by
   rintro⟨q,r⟩ hp _ kvs G ⟨v6,v7,rfl⟩ hd hG
   have eo:=jT r (d+20) (U++[.dct kvs]);have R:=ch prog.1 (aj prog (d+21)) kE (F8 (.d (pD pl)) (.d (aI (.call o fn ts))) (ak (n:Int)) (.d (ao g)) (.loc U.length) v5 (.d (pD q)) (.d (aI r))) (U++[Cell.dct kvs]);refine(?_:X2 λρ' kvs'=>A3 (_) (Dm kvs' (G++[(q,Gc r)])) (_));cases ht:Gc r with
   |none=>rw[ht]at eo;exact⟨_,kvs,⟨.d (pD q),.d (aI r),rfl⟩,hd.skip q none (λx h=>by injection h),d8 rfl ((R 0 eo))⟩
   |some y=>
     rw[ht]at eo;have ni:=As (aK U (.dct kvs)) y;cases hi:(kvs.lookup y).isSome with
     |true=>rw[hi]at ni;exact⟨_,kvs,⟨.d (pD q),.d (aI r),rfl⟩,hd.skip q (some y) (λx h=>by injection h with e;subst e;exact hi),d8 rfl ((R 8 eo eo ni))⟩
     |false=>rw[hi]at ni;exact⟨_,_,⟨.d (pD q),.d (aI r),rfl⟩,hd.put y q,d8 rfl ((R 8 eo eo ni (yt rfl rfl (aM rfl eo) (iv hd.len hG))))⟩) ⟨.un,.un,rfl⟩ d1 (by rw[SX,Pd,eI];exact iv (Qd (iv (fZ ..) h4) og.n4) (by decide))
 have it1:=aZ (G:=prog.1) (e:=.call 16 (.cons (.var 1) (.cons (.var 3) .nil))) (K:=(F8 (.d (pD pl)) (.d (aI (.call o fn ts))) (ak (n:Int)) (.d (ao g)) (.loc U.length) .un .un .un)) (aM rfl (fE hl (d+20) (U++[Cell.dct []]))) rfl;have it2:=aZ (G:=prog.1) (e:=.call 7 (.cons (.tup (.cons (.var 2) .nil)) (.cons (.idx (.var 3) (.int 2)) .nil))) (K:=(F8 (.d (pD pl)) (.d (aI (.call o fn ts))) (ak (n:Int)) (.d (ao g)) (.loc U.length) v5 .un .un)) (aM rfl (gb 18 g.rs [n] d og.h9 (iv og.n4 (by decide)) (P9 19 81) (U++[Cell.dct k1]))) rfl;have R:=ww prog 20 (d+21) [.d (pD pl),.d (aI (.call o fn ts)),ak (n:Int),.d (ao g)] U rfl;have mk:sK .pop (U++[.dct k2]) (.loc U.length)=true:=by show (iF (U++[.dct k2]) (.loc U.length)).isSome=true;rw[gJ (aK _ _)];rfl
 have hk:hY (U++[.dct k2]) U.length=some k2:=kN (aK _ _);have ex:=λl=>nE (J:=U++[.dct l]) (cS ..) (aK ..);rw[SX]at d2;refine k ?_;cases o with
 |none=>
   have pop:yb .pop (.loc U.length) (U++[.dct k2]) [.d .none,.d .none] (U++[.dct k2])=.ok (.d .none) (U++[.dct k2]):=by unfold yb;rw[mk,if_pos rfl];show oc (hY (U++[.dct k2]) U.length) (λkvs=>Res.ok (V.d .none) (U++[.dct k2])) .bad=_;rw[hk];rfl
   exact⟨k2,⟨λx v e=>⟨d2.some x v e,λq=>by injection q⟩,λx e=>.inl (d2.none x e)⟩,((R 0 (a7 it1 e1) (a7 it2 e2) pop)).trans (ex k2)⟩
 |some y=>
   have pop:yb .pop (.loc U.length) (U++[.dct k2]) [aA y,.d .none] (U++[.dct k2])=.ok (.d ((k2.lookup y).getD .none)) (U++[.dct (k2.filter λx=>!decide (x.1=y))]):=by unfold yb;rw[mk,if_pos rfl];show oc (hY (U++[.dct k2]) U.length) (λkvs=>Res.ok (V.d ((kvs.lookup y).getD .none)) ((U++[Cell.dct k2]).set U.length (Cell.dct (kvs.filter λx=>!decide (x.1=y))))) .bad=_;exact hk▸congrArg (Res.ok _) (fU ..)
   refine⟨k2.filter λx=>!decide (x.1=y),⟨λx v e=>?_,λx e=>?_⟩,((R 0 (a7 it1 e1) (a7 it2 e2) pop)).trans (ex _)⟩
   . rw[lA]at e;by_cases c:x=y
     . rw[if_pos c]at e;injection e
     . rw[if_neg c]at e;exact⟨d2.some x v e,λq=>c (Option.some.inj q).symm⟩
   . rw[lA]at e;by_cases c:x=y
     . exact .inr (congrArg some c.symm)
     . rw[if_neg c]at e;exact .inl (d2.none x e)def DJ(x:Str)(b:RL):Prop:=∃q∈jr b,x∈own q
theorem Bd(h:r∈lst b):∀q∈jr (dH r),q∈jr b:=by
 have e:∀r:Rw,zK r=jr (dH r):=λr=>by cases r<;>rfl
 induction b using RL.rec (motive_1:=λ_=>True) with
 |nil=>cases h
 |cons a c _ ih=>
   intro q hq;rcases PO.mp h with rfl|h
   . exact PG _ (Q3 _ (e r▸hq))
   . exact PG _ (QJ _ (ih h q hq))
 |_=>trivial
theorem x3{q:Rw}:∀(n:Nat) (b:RL),q∈jr (bQ n b)->q∈jr b
 |0,b=>@λh=>by unfold bQ at h;rw[List.drop_zero,yN]at h;exact h
 |n+1,.nil=>@λh=>h
 |n+1,.cons r b=>@λh=>PG _ (QJ _ (x3 n b h))
theorem wI{l:Bool}(h:lO x (bQ n b) l=true):l=true\/DJ x b:=by
 rcases Qc.mp h with h|h
 . obtain⟨q,hq,hx⟩:=gH x _ h;exact .inr ⟨q,x3 n b hq,hx⟩
 . exact .inl (PK.mp h).2
theorem E9(hr:r∈lst b){l:Bool}(h:Lk x r l=true):l=true\/DJ x b:=by
 cases r with
 |aga n c=>
   rcases Qc.mp h with h|h
   . exact .inl h
   . obtain⟨q,hq,hx⟩:=gH x _ (PK.mp h).2;exact .inr ⟨q,Bd hr q hq,hx⟩
 |_=>exact .inl h
theorem Er(z:Nat):∀(pre:List Nat) (b:RL) (l:Bool),uY x b pre z l=true->l=true\/DJ x b:=by
 intro xs_
 induction xs_ with
 |nil=>intro b l h;exact wI h
 |cons k ks ih_=>
   intro b l h;cases hk:(lst b)[k]? with
   |none=>rw[Es,hk]at h;exact .inl h
   |some r=>
     rw[rD hk]at h;have hr:=PF hk;rcases ih_ _ _ h with h|⟨q,hq,hx⟩
     . exact(E9 hr h).elim wI .inr
     . exact .inr ⟨q,Bd hr q hq,hx⟩variable {f:Fd}
theorem Ky(h:uY x f.rs pre z (decide (x∈cJ f.t))=true)(j:Nat):∃q∈dZ j f,x∈q.2:=by
 rcases Er z pre f.rs _ h with h|⟨r,hr,hx⟩
 . exact⟨_,QJ _ (PN.mpr rfl),of_decide_eq_true h⟩
 . obtain⟨p,hp,rfl⟩:=FM hr [j] 0;exact⟨(p.1,own p.2),Q3 _ (QB hp),hx⟩def Bg(G:IB)(o:Option Str)(f:Fd)(pre:List Nat)(z:Nat)(q:List Nat)(x:Str):Prop:=(q,some x)∈G/\o≠some x/\uY x f.rs pre z (decide (x∈cJ f.t))=true
theorem vb(h:U[n]?=some (.dct kvs))(hx:kvs.lookup x=some v):cK (.loc n) (aA x) U=some (.d v):=by show b2 (some x) (iF U (.loc n)) (λk kvs=>(kvs.lookup k).map V.d) none=_;rw[gJ h];show (kvs.lookup x).map V.d=_;rw[hx];rfl
theorem Co(w7:ws.length<=8){f:Fd}{o:Option Str}{fn:Str}(hj:fs[j]?=some f)(of:okF ws cs f)(hp:Pth f.rs pre c)(hz:(lst c)[z]?=some (.call o fn ts))(hn:fs[n]?=some g)(og:okF ws cs g)(hl:ts.length=g.ps.length)(h4:ts.length<=7)(d:Nat)(U:ac):∃v,pc (d+27) 22 [ah (fs.map ao),.d (pD (aJ j pre z)),.d (aI (.call o fn ts)),ak (n:Int)] U (.d v)/\((v=.none/\∀q x,¬ Bg (tU (aJ j pre z) n ts g) o f pre z q x)\/X3 λq x r=>A4 (Bg (tU (aJ j pre z) n ts g) o f pre z q x) (r∈dZ j f) (x∈r.2) (v=iX (q,r.1))):=by
 have h100:(aJ j pre z).length<=100:=by show (pre++[z]).length+1<=100;rw[PC];exact iv (PL (iv (gv hp) of.h9) 2) (by decide)
 refine(vw (o:=o) (fn:=fn) h100 hl h4 og n (d+4) U).elim λkvs q9=>?_;have hs:=q9.1;have es:=q9.2;refine(py w7 hj of hp hz d (U++[.dct kvs])).elim λL q9=>?_;have hL:=q9.1;have it:=aZ (G:=prog.1) (cf:=aj prog (d+26)) (e:=.call 12 (.cons (.var 0) (.cons (.var 1) .nil))) (K:=(F6 (ah (fs.map ao)) (.d (pD (aJ j pre z))) (.d (aI (.call o fn ts))) (ak (n:Int)) (.loc U.length) .un)) (aM rfl q9.2) rfl;have R:=aX prog 22 (d+26) [ah (fs.map ao),.d (pD (aJ j pre z)),.d (aI (.call o fn ts)),ak (n:Int)] U rfl;have lp:=kA (f:=aL prog.1 (aj prog (d+26)) (.var 5) gY) PyData.str (λK=>∃v5,K=(F6 (ah (fs.map ao)) (.d (pD (aJ j pre z))) (.d (aI (.call o fn ts))) (ak (n:Int)) (.loc U.length) v5)) (λx=>(kvs.lookup x).isSome=true) (λx v=>X2 λq r=>A4 (Bg (tU (aJ j pre z) n ts g) o f pre z q x) (r∈dZ j f) (x∈r.2) (v=.d (iX (q,r.1)))) (U++[.dct kvs]) L (F6 (ah (fs.map ao)) (.d (pD (aJ j pre z))) (.d (aI (.call o fn ts))) (ak (n:Int)) (.loc U.length) .un) (by
   rintro x hx _ ⟨v5,rfl⟩
   have ii:=yW (aK U (.dct kvs)) x;have R:=ch prog.1 (aj prog (d+26)) gY (F6 (ah (fs.map ao)) (.d (pD (aJ j pre z))) (.d (aI (.call o fn ts))) (ak (n:Int)) (.loc U.length) (aA x)) (U++[Cell.dct kvs]);cases hk:kvs.lookup x with
   |none=>rw[hk]at ii;exact .inl ⟨_,⟨_,rfl⟩,P0,aP ((R 1 ii))⟩
   |some v=>refine kk λUc k=>?_;rw[hk]at ii;obtain⟨⟨q,rfl,hq⟩,ho⟩:=hs.some x v hk;have hn:=(hL x).mp hx;obtain⟨r,h1,h2,er⟩:=xK w7 hj of (Ky hn j) (pre++[z]) (d+4) (U++[.dct kvs]);refine k ?_;exact .inr ⟨_,rfl,⟨q,r,⟨hq,ho,hn⟩,h1,h2,rfl⟩,aP ((R 5 ii (vb (aK ..) hk) er))⟩) ⟨.un,rfl⟩
 refine kk λUc kz=>?_;rcases lp with⟨_,⟨v5,rfl⟩,no,e⟩|⟨x,v,hx,_,⟨q,r,h1,h2,h3,rfl⟩,e⟩
 . refine kz ⟨.none,(R 1 (bE hn U) es (a7 it e) (cS ..)),.inl ⟨rfl,λq x ⟨a,b,c⟩=>?_⟩⟩;have:=no x ((hL x).mpr c);cases hk:kvs.lookup x with
   |none=>exact(hs.none x hk).elim (λh=>h q a) b
   |some v=>rw[hk]at this;exact this rfl
 . exact kz (⟨_,(R 1 (bE hn U) es (a7 it e) (cS ..)),.inr ⟨q,x,r,h1,h2,h3,rfl⟩⟩)theorem mB:∀l:List Rw,nL (jH l)=(l.map nR).sum
 |[]=>rfl
 |r::l=>congrArg (nR r+·) (mB l)theorem nk(b:RL):nL b=((lst b).map nR).sum:=by rw[<- mB,yN]theorem Py(a n d r:Nat):a+n+d+r=a+(r+d)+n:=by rw[QR a n d,QR (a+d) n r,Qq a d r,Qw d r]
theorem qw(m:Nat)(l:List Rw)(k:Nat)(news:List Rw):((ik m l k news).map nR).sum+(((l.drop k).take m).map nR).sum=(l.map nR).sum+(news.map nR).sum:=by
 have e:l=l.take k++((l.drop k).take m++l.drop (k+m)):=by rw[<- List.drop_drop,QL,QL]
 have e2:(l.map nR).sum=((l.take k).map nR).sum+((((l.drop k).take m).map nR).sum+((l.drop (k+m)).map nR).sum):=by
   conv=>lhs;rw[e]
   rw[PR,PR,R6,R6]
 unfold ik;rw[PR,PR,R6,R6,e2];exact Py ..
variable {l:List B}theorem Dc{r:B}(h:l[k]?=some r):(l.drop k).take 1=[r]:=by rw[QV ((PB.mp h).1),(PB.mp h).2];(rfl)def gA(z m:Nat)(c:RL):RL:=jH (((lst c).drop z).take m)theorem JK(h:sL r=true)(b:RL):nR (sH r b)=nL b+1:=by cases r<;>first|rfl|injection h
theorem qj(h:sL r=true)(b:RL):dH (sH r b)=b/\sL (sH r b)=true:=by cases r<;>first|exact⟨rfl,rfl⟩|injection h
theorem JL(h:sL r=true)(b:RL):hR (sH r b)=hL b+1:=by cases r<;>first|rfl|injection h
theorem FE(h:sL r=true):hL (dH r)+1=hR r:=by cases r<;>first|rfl|injection h
theorem GC(h:ma ws cs r)(hb:fH ws cs b):ma ws cs (sH r b):=by
 cases r with
 |whn t _=>exact⟨h.1,hb⟩
 |aga n _=>exact hb
 |set _ _=>exact h
 |tell _=>exact h
 |call _ _ _=>exact h
theorem eK{news:List B}{x:B}(h:x∈ik m l k news):x∈l\/x∈news:=by
 rcases PT.mp h with h|h
 . exact(PT.mp h).imp Qa id
 . exact .inl (QH h)
theorem fV(m:Nat)(h:k<=l.length)(x:B):(ik m l k [x])[k]?=some x:=by
 unfold ik;have hk:(l.take k).length=k:=by rw[Qn];exact Qo h
 rw[PV,PY (Qm hk),hk,S7];(rfl)variable {news:RL}
theorem jc(m:Nat)(z:Nat)(hp:Pth b pre c):A3 (fH ws cs b->fH ws cs news->fH ws cs (cE m news z b pre)) (hL (cE m news z b pre)<=hL b+hL news) (nL (cE m news z b pre)+nL (gA z m c)=nL b+nL news):=by
 induction hp with
 |nil b=>refine⟨λh1 h2=>mz _ λq hq=>(eK hq).elim (bS h1 q) (bS h2 q),rK _ λq hq=>(eK hq).elim (λh=>iv (cp q h) (PW ..)) λh=>iv (cp q h) (P9 ..),?_⟩;unfold gA;rw[jd,mB,mB,qw,<- nk,<- nk]
 |@cons b c q k ks hk hb hp ih=>
   obtain⟨i1,i2,i3⟩:=ih;have hq:=PF hk;rw[jv hk];refine⟨λh1 h2=>mz _ λx hx=>?_,rK _ λx hx=>?_,?_⟩
   . rcases eK hx with hx|hx
     . exact bS h1 x hx
     . rw[PN.mp hx];exact GC (bS h1 q hq) (i1 (ic (bS h1 q hq)) h2)
   . rcases eK hx with hx|hx
     . exact iv (cp x hx) (PW ..)
     . rw[PN.mp hx,JL hb];refine iv (PP i2) ?_;rw[<- Nat.succ_add];exact PL (iv (Qm (FE hb)) (cp q hq)) _
   . have h1:=qw 1 (lst b) k [sH q (cE m news z (dH q) ks)];rw[Dc hk,RZ,List.sum_singleton,RZ,List.sum_singleton,JK hb,<- Bb q]at h1
     rw[mB,nk b];lia
variable {r':Rw}
theorem wB(m:Nat)(z:Nat)(hz:z<=(lst c).length)(hp:Pth b pre c):Pth (cE m (.cons r' .nil) z b pre) pre (cE m (.cons r' .nil) z c [])/\(lst (cE m (.cons r' .nil) z c []))[z]?=some r':=by
 refine⟨?_,by rw[jd,uU];exact fV m hz r'⟩
 induction hp with
 |nil b=>exact .nil _
 |@cons b c q k ks hk hb hp ih=>rw[jv hk];exact .cons (by rw[uU];exact fV 1 (Qg (PB.mp hk).1) _) (qj hb _).2 (by rw[(qj hb _).1];exact ih hz)noncomputable def io(fs:List Fd)(n:Nat):List Fd:=fs.take n++fs.drop (n+1)def NH(ts:List Tm)(g:Fd)(pl a b:List Nat):Prop:=X2 λk i=>A6 (k∈dP ts g.ps) (k < i) (i < ts.length) (TC ts g.ps k i) (a=pl++[k]) (b=pl++[i])
def Cl(j n:Nat)(f g:Fd)(pre:List Nat)(z:Nat)(o:Option Str)(ts:List Tm)(a b:List Nat):Prop:=
 NH ts g (aJ j pre z) a b\/(∃q∈dZ n g,Bh g q/\a=q.1/\b=aJ j pre z)\/X2 λx r=>A4 (Bg (tU (aJ j pre z) n ts g) o f pre z a x) (r∈dZ j f) (x∈r.2) (b=r.1)
def uJ(fs:List Fd)(j n:Nat)(f g:Fd)(pre:List Nat)(z:Nat)(o:Option Str)(fn:Str)(ts:List Tm):PyData:=
 bif bU fn (ci fs j [bL 1 (aS o ts g) pre z f]) then .tuple [.tuple ((ci fs j [bL 1 (aS o ts g) pre z f]).map ao),.tuple [pD (aJ j pre z),.int (am (aS o ts g)).length,aI (.call o fn ts),.int (n:Int),.none]]
 else .tuple [.tuple ((io (ci fs j [bL 1 (aS o ts g) pre z f]) n).map ao),.tuple [.tuple (.int ((j:Int) - 1)::(pre++[z]).map nI),.int (am (aS o ts g)).length,aI (.call o fn ts),.int (n:Int),ao g]]
structure At(ws:List Str)(cs:SC)(fs:List Fd)(j n:Nat)(f g:Fd)(pre:List Nat)(z:Nat)(c:RL)(o:Option Str)(fn:Str)(ts:List Tm):Prop where
 w7:ws.length<=8
 h8:fs.length<=9
 all:∀f∈fs,okF ws cs f
 hj:fs[j]?=some f
 hp:Pth f.rs pre c
 hz:(lst c)[z]?=some (.call o fn ts)
 hn:fs[n]?=some g
 num:n=(bK fs).idxOf fn
 mem:fn∈bK fs
 nm:g.nm=fn
 hl:ts.length=g.ps.length
 h4:ts.length<=7
 ok:∀t∈ts,lP ws t
theorem At.of(h:At ws cs fs j n f g pre z c o fn ts):okF ws cs f:=h.all f (PF h.hj)theorem At.og(h:At ws cs fs j n f g pre z c o fn ts):okF ws cs g:=h.all g (PF h.hn)theorem At.pl(h:At ws cs fs j n f g pre z c o fn ts):(aJ j pre z).length<=20:=by show (pre++[z]).length+1<=20;rw[PC];exact PL (iv (gv h.hp) h.of.h9) 2
theorem qY(o:Option Str)(ts:List Tm)(g:Fd):nL (aS o ts g)<=ts.length+nL g.rs+1/\hL (aS o ts g)<=hL g.rs:=by
 have k1:∀k,hR (lN ts g.ps k)=0/\nR (lN ts g.ps k)=1:=λk=>by
   unfold lN;cases ts[k]? with
   |none=>exact⟨rfl,rfl⟩
   |some t=>cases g.ps[k]?<;>exact⟨rfl,rfl⟩
 have l1:∀r∈tO o g.t,hR r=0/\nR r=1:=λr hr=>by
   cases o with
   |none=>cases hr
   |some y=>
     cases q:(a9 g.t).eqv (a9 (.name y)) with
     |true=>replace hr:=(nq q)▸hr;cases hr
     |false=>rw[nu q]at hr;exact(PN.mp hr)▸⟨rfl,rfl⟩
 have l2:(tO o g.t).length<=1:=by
   clear l1;cases o with
   |none=>exact PU _
   |some y=>
     cases q:(a9 g.t).eqv (a9 (.name y)) with
     |true=>rw[nq q];exact PU _
     |false=>rw[nu q];exact Qb _
 have s1:∀l:List Rw,(∀r∈l,nR r=1)->(l.map nR).sum=l.length:=λl=>by
   induction l with
   |nil=>exact λ_=>rfl
   |cons r l ih=>exact λh=>by rw[Qs,List.sum_cons,h r (PH ..),ih λx hx=>h x (PG _ hx),Qw];rfl
 refine⟨?_,rK _ λr hr=>?_⟩
 . unfold aS;rw[mB,PR,PR,R6,R6,<- nk,s1 _ λr hr=>(l1 r hr).2,s1 _ λr hr=>by obtain⟨k,_,rfl⟩:=Qk.mp hr;exact(k1 k).2,Pd];exact Qd (PL (fZ ts g.ps) _) l2
 . rcases PT.mp hr with hr|hr
   . rcases PT.mp hr with hr|hr
     . obtain⟨k,_,e9⟩:=Qk.mp hr;refine e9▸?_;rw[(k1 k).1];exact PU _
     . exact cp r hr
   . rw[(l1 r hr).1];exact PU _
theorem gG(h:At ws cs fs j n f g pre z c o fn ts):nL (aS o ts g)<=828/\hL (aS o ts g)<=18:=
 ⟨iv (qY o ts g).1 (PP (Qd h.h4 h.og.n4)),iv (qY o ts g).2 h.og.h9⟩
theorem At.after(h:At ws cs fs j n f g pre z c o fn ts):∀q∈ci fs j [bL 1 (aS o ts g) pre z f],hL q.rs<=36/\nL q.rs<=9000:=λq hq=>by
 refine(gG h).elim λn1 n2=>?_;rcases eK hq with hq|hq
 . exact⟨iv (h.all q hq).h9 (by decide),iv (h.all q hq).n4 (by decide)⟩
 . obtain⟨_,w2,w3⟩:=jc (ws:=ws) (cs:=cs) 1 (news:=aS o ts g) z h.hp;rw[PN.mp hq];exact⟨iv w2 (Qd h.of.h9 n2),iv (iv (PW _ _) (Qm w3)) (iv (Qd h.of.n4 n1) (by decide))⟩
theorem dK(x:B)(hk:k < l.length):(ci l k [x]).length=l.length:=by
 delta ci ik
 rw[PC,PC,Qn,Qy,Qo (Qg hk)];exact QZ (hk)theorem At.len(h:At ws cs fs j n f g pre z c o fn ts)(x:Fd):(ci fs j [x]).length<=9:=iv (Qm (dK x (PB.mp h.hj).1)) (h.h8)theorem AX{l:List PyData}(h:l.length<=9)(k:Nat)(U:ac):dj .add false (ah (l.take k)) (ah (l.drop (k+1))) U=.ok (ah (l.take k++l.drop (k+1))) U:=ie (iv (Ih l k) (iv h (by decide))) U
set_option maxHeartbeats 4000000 in
theorem r9(h:At ws cs fs j n f g pre z c o fn ts)(d:Nat)(U:ac):(X2 λa b=>Cl j n f g pre z o ts a b/\pc (d+41) 24 [ah (fs.map ao),.d (pD (aJ j pre z))] U (.exc 6 [pD a,pD b]))\/((∀a b,¬ Cl j n f g pre z o ts a b)/\pc (d+41) 24 [ah (fs.map ao),.d (pD (aJ j pre z))] U (.d (uJ fs j n f g pre z o fn ts))):=by
 have R:=aX prog 24 (d+40) [ah (fs.map ao),.d (pD (aJ j pre z))] U rfl;have e1:=iK h.hj h.hp h.hz (d+37) U;have e2:=di h.mem (d+39) U;replace e2:=h.num▸e2;have e3:=bE h.hn U;refine kk λUc kz=>?_;obtain⟨v1,t1,q1⟩:=pP (o:=o) (fn:=fn) (iv h.pl (by decide)) h.hl h.h4 h.ok (d+35) U;rcases q1 with⟨rfl,no1⟩|⟨k,i,a1,a2,a3,a4,rfl⟩
 . obtain⟨v2,t2,q2⟩:=pR h.w7 h.hn h.og (aJ j pre z) (d+14) U;rcases q2 with⟨rfl,no2⟩|⟨q,hq,hb,rfl⟩
   . obtain⟨v3,t3,q3⟩:=Co h.w7 h.hj h.of h.hp h.hz h.hn h.og h.hl h.h4 (d+13) U;rcases q3 with⟨rfl,no3⟩|⟨q,x,r,b1,b2,b3,rfl⟩
     . refine kz (.inr ⟨λa b q=>?_,?_⟩)
       . rcases q with⟨k,i,a1,a2,a3,a4,_,_⟩|⟨q,_,⟨x,_,hx⟩,_,_⟩|⟨x,r,b1,_⟩
         . exact no1 k a1 i a2 a3 a4
         . rw[no2 x]at hx;injection hx
         . exact no3 a x b1
       . have e4:=sT (o:=o) (fn:=fn) h.hl h.h4 h.og.n4 (d+38) U;have e5:=(gK 1 (news:=aS o ts g) (iv ((gG h).1) (by decide)) h.hj h.h8 h.hp (iv h.of.n4 (by decide)) h.of.h9 (z:=z) (d+20) U).1;have e6:=sf h.after fn d U;unfold uJ;cases hc:bU fn (ci fs j [bL 1 (aS o ts g) pre z f]) with
         |true=>rw[hc]at e6;exact(R 16 e1 e2 e3 t1 t2 t3 e4 e5 e6 (same U))
         |false=>
           rw[hc]at e6;have l8:((ci fs j [bL 1 (aS o ts g) pre z f]).map ao).length<=9:=by rw[Pd];exact h.len _
           have e7:(io (ci fs j [bL 1 (aS o ts g) pre z f]) n).map ao=((ci fs j [bL 1 (aS o ts g) pre z f]).map ao).take n++((ci fs j [bL 1 (aS o ts g) pre z f]).map ao).drop (n+1):=by unfold io;rw[PR,Q9,Rg]
           rw[e7];exact(R 1810448 e1 e2 e3 t1 t2 t3 e4 e5 e6 ((dY ..)) ((jC ..)) (AX l8 n U) (bI ..) ((iQ ..)) (ie (by rw[Pd];exact iv (Qh (iv (Sl _) h.pl) 1) (by decide)) U) (same U))
     . exact kz (.inl ⟨q,r.1,.inr (.inr ⟨x,r,b1,b2,b3,rfl⟩),(R 16 e1 e2 e3 t1 t2 t3 (same U))⟩)
   . exact kz (.inl ⟨q.1,aJ j pre z,.inr (.inl ⟨q,hq,hb,rfl,rfl⟩),(R 16 e1 e2 e3 t1 t2 (same U))⟩)
 . exact kz (.inl ⟨_,_,.inl ⟨k,i,a1,a2,a3,a4,rfl,rfl⟩,(R 16 e1 e2 e3 t1 (same U))⟩)def Mn(ts:List Tm)(ps:List Str)(k i:Nat):Bool:=match ps[k]?,ts[i]? with
 |some p,some t=>decide (p∈cJ t)
 |_,_=>false
theorem zW(ts:List Tm)(ps:List Str)(k i:Nat):Mn ts ps k i=true↔TC ts ps k i:=by
 unfold Mn TC;cases ps[k]? with
 |none=>exact⟨λq=>(by injection q),λ⟨_,_,q,_,_⟩=>by injection q⟩
 |some p=>cases ts[i]? with
   |none=>exact⟨λq=>(by injection q),λ⟨_,_,_,q,_⟩=>by injection q⟩
   |some t=>exact⟨λq=>⟨p,t,rfl,rfl,of_decide_eq_true q⟩,λ⟨_,_,q1,q2,q3⟩=>by injection q1 with e;subst e;injection q2 with e;subst e;exact decide_eq_true q3⟩def yc(q:List Nat×Option Str):PyData:=.tuple [pD q.1,fX q.2]
theorem Kr(o:Option Str)(x:Str)(U:ac):bC .ne (aA x) (.d (fX o)) U=some (!decide (o=some x)):=by
 cases o with
 |none=>rw[decide_eq_false (λh=>by injection h)];rfl
 |some y=>show bC .ne (aA x) (aA y) U=_;rw[Nv];exact congrArg (λb=>some (!b)) (decide_eq_decide.mpr ⟨λe=>congrArg some e.symm,λe=>(Option.some.inj e).symm⟩)
theorem mJ(b:B->Bool):∀l:List B,(!(l.filter b).isEmpty)=l.any b
 |[]=>rfl
 |x::l=>by
   rw[Tr,RM];cases b x with
   |true=>rfl
   |false=>exact mJ b (l)def FP(fs:List Fd)(pl:List Nat)(o:Option Str)(fn:Str)(ts:List Tm)(n:Nat)(g:Fd)(b:Nat)(v7 v8 v9 v10 v11 v12 v13:V):Fm:=(PA (.d (.tuple (fs.map ao))) (.d (pD pl)) (.d (aI (.call o fn ts))) (.d (.int (n:Int))) (.d (ao g)) (.d (.list ((dP ts g.ps).map nI))) (.loc b) v7 v8 v9 v10 v11 v12 v13 .un .un .un .un)def I8(ts:List Tm)(g:Fd)(pl:List Nat)(k i:Nat):List (List Nat×List Nat):=bif Mn ts g.ps k i then [(pl++[k],pl++[i])] else []
theorem lK(b:Bool)(x:B):(bif b then [x] else []).length<=1:=by
 cases b with
 |true=>exact Qb _
 |false=>exact PU _
theorem J8(h:At ws cs fs j n f g pre z c o fn ts)(d:Nat)(U:ac)(v9 v10 v11 v12 v13:V):X2 λv7' v8'=>exec prog.1 (aj prog (d+29)) (.forr (.var 7) (.seq (.var 5)) iT) (FP fs (aJ j pre z) o fn ts n g U.length .un .un v9 v10 v11 v12 v13) (U++[.lst (([]:List (List Nat×List Nat)).map iX)])=.ok (.next (FP fs (aJ j pre z) o fn ts n g U.length v7' v8' v9 v10 v11 v12 v13)) (U++[.lst (((dP ts g.ps).flatMap λk=>(List.range' (k+1) (ts.length - (k+1))).flatMap (I8 ts g (aJ j pre z) k)).map iX)]):=by
 have inner:=λk (hk:k∈dP ts g.ps) (v8:V) (L:List (List Nat×List Nat)) (hL:L.length+7<=900000)=>hW (f:=aL prog.1 (aj prog (d+29)) (.var 8) iU) nI iX (λK=>∃v8,K=FP fs (aJ j pre z) o fn ts n g U.length (.d (nI k)) v8 v9 v10 v11 v12 v13) (I8 ts g (aJ j pre z) k) 1 U (List.range' (k+1) (ts.length - (k+1))) (FP fs (aJ j pre z) o fn ts n g U.length (.d (nI k)) v8 v9 v10 v11 v12 v13) L (λi hi=>⟨lK _ _,by
   rintro _ L ⟨v8,rfl⟩ hL
   obtain⟨hki,hin⟩:=gT.mp hi;have hp:g.ps[k]?=some (g.ps[k]'(h.hl▸TB hki hin)):=PD _;have ht:ts[i]?=some ts[i]:=PD hin;generalize g.ps[k]'(h.hl▸TB hki hin)=p at hp;have okt:=h.ok ts[i] (Rp _);generalize ts[i]=t at ht okt;have e:Mn ts g.ps k i=decide (p∈cJ t):=by unfold Mn;rw[hp,ht]
   have R:=ch prog.1 (aj prog (d+29)) iU (FP fs (aJ j pre z) o fn ts n g U.length (.d (nI k)) (.d (nI i)) v9 v10 v11 v12 v13) (U++[Cell.lst (L.map iX)]);have ins:=eR (cJ t) p (U++[Cell.lst (L.map iX)]);refine⟨_,⟨.d (nI i),rfl⟩,aP ?_⟩;unfold I8;rw[e];by_cases q:p∈cJ t
   . rw[decide_eq_true q,cond_true,PR];exact(R 250 (mH hp _) (oH ht _) (lJ okt (d+26) _) ins (dT q) (pT (iv h.pl (by decide)) k _) (pT (iv h.pl (by decide)) i _) (mT (by rw[Pd];exact QO hL) _))
   . rw[decide_eq_false q,cond_false,P6];exact(R 58 (mH hp _) (oH ht _) (lJ okt (d+26) _) ins (dF q))⟩) ⟨v8,rfl⟩ (iv (Qh (by rw[TS,S8];exact iv (Th ..) h.h4) _) hL)
 refine kk λUc k=>?_;obtain⟨_,⟨v7',v8',rfl⟩,e⟩:=hW (f:=aL prog.1 (aj prog (d+29)) (.var 7) iT) nI iX (λK=>X2 λv7 v8=>K=FP fs (aJ j pre z) o fn ts n g U.length v7 v8 v9 v10 v11 v12 v13) (λk=>(List.range' (k+1) (ts.length - (k+1))).flatMap (I8 ts g (aJ j pre z) k)) 7 U (dP ts g.ps) (FP fs (aJ j pre z) o fn ts n g U.length .un .un v9 v10 v11 v12 v13) [] (λk hk=>⟨by
   have:∀l:List Nat,(l.flatMap (I8 ts g (aJ j pre z) k)).length<=l.length:=λl=>by
     induction l with
     |nil=>exact Qb _
     |cons i l ih=>rw[RJ,PC,PZ,Qw];exact Qd ih (lK _ _)
   exact iv (this _) (by rw[S8];exact iv (Th ..) h.h4),by
   rintro _ L ⟨v7,v8,rfl⟩ hL
   obtain⟨_,⟨v8',rfl⟩,e⟩:=inner k hk v8 L hL;have it:=rI (G:=prog.1) (cf:=aj prog (d+29)) (e:=.bin .add false (.var 7) (.int 1)) (e':=.bi .len false (.cons (.idx (.var 2) (.int 3)) .nil)) (K:=FP fs (aJ j pre z) o fn ts n g U.length (.d (nI k)) v8 v9 v10 v11 v12 v13) (U:=U++[Cell.lst (L.map iX)]) rfl rfl (by rw[Pd];exact Ah (lq hk) h.h4);rw[Pd,qM]at it;exact⟨_,⟨.d (nI k),v8',rfl⟩,aP (aT (a7 it e) rfl)⟩⟩) ⟨.un,.un,rfl⟩ (by rw[Q8,Rk];exact iv (Rs 7 (iv (fZ ..) h.h4)) (by decide))
 rw[SX]at e;refine k ?_;exact⟨v7',v8',a7 (aZ rfl rfl) e⟩def LU(g:Fd)(pl:List Nat)(q:List Nat×List Str):List (List Nat×List Nat):=bif q.2.any (mo g) then [(q.1,pl)] else []
theorem J7(h:At ws cs fs j n f g pre z c o fn ts)(d:Nat)(U:ac)(v7 v8 v11 v12 v13:V)(L0:List (List Nat×List Nat))(h0:L0.length<=1000):X2 λv9' v10'=>exec prog.1 (aj prog (d+29)) (.forr (.tup [9,10]) (.seq (.call 47 (.cons (.var 0) (.cons (.var 3) .nil)))) fN) (FP fs (aJ j pre z) o fn ts n g U.length v7 v8 .un .un v11 v12 v13) (U++[.lst (L0.map iX)])=.ok (.next (FP fs (aJ j pre z) o fn ts n g U.length v7 v8 v9' v10' v11 v12 v13)) (U++[.lst ((L0++(dZ n g).flatMap (LU g (aJ j pre z))).map iX)]):=by
 refine kk λUc k=>?_;obtain⟨_,⟨v9',v10',rfl⟩,e⟩:=hW (f:=aL prog.1 (aj prog (d+29)) (.tup [9,10]) fN) LQ iX (λK=>X2 λv9 v10=>K=FP fs (aJ j pre z) o fn ts n g U.length v7 v8 v9 v10 v11 v12 v13) (LU g (aJ j pre z)) 1 U (dZ n g) (FP fs (aJ j pre z) o fn ts n g U.length v7 v8 .un .un v11 v12 v13) L0 (λq hq=>⟨lK _ _,by
   rintro _ L ⟨v9,v10,rfl⟩ hL
   have cm:=fi (G:=prog.1) (i:=14) (it:=.seq (.var 10)) (c:=.call 50 (.cons (.var 4) (.cons (.var 14) .nil))) (e:=.var 14) (K:=FP fs (aJ j pre z) o fn ts n g U.length v7 v8 (.d (pD q.1)) (al (q.2.map .str)) v11 v12 v13) (U:=U++[Cell.lst (L.map iX)]) PyData.str PyData.str (mo g) (aZ rfl rfl) (λx _=>aM rfl (Cr h.og x (d+5) _)) λx _ _=>rfl;have nn:=iA ((q.2.filter (mo g)).map PyData.str) (U++[Cell.lst (L.map iX)]);rw[Q0,mJ]at nn;have R:=ch prog.1 (aj prog (d+29)) fN (FP fs (aJ j pre z) o fn ts n g U.length v7 v8 (.d (pD q.1)) (al (q.2.map .str)) v11 v12 v13) (U++[Cell.lst (L.map iX)]);refine⟨_,⟨.d (pD q.1),al (q.2.map .str),rfl⟩,d8 rfl ?_⟩;unfold LU;cases hb:q.2.any (mo g) with
   |true=>rw[hb]at nn;rw[cond_true,PR];exact(R 1 cm nn (mT (by rw[Pd];exact QO hL) _))
   |false=>rw[hb]at nn;rw[cond_false,P6];exact(R 1 cm nn)⟩) ⟨.un,.un,rfl⟩ (iv (Qd h0 (by rw[TS];exact uG h.og n)) (by decide))
 refine k ?_;exact⟨v9',v10',a7 (aZ (aM rfl (nO h.hn h.og (d+8) _)) rfl) e⟩def I7(o:Option Str)(f:Fd)(j:Nat)(pre:List Nat)(z:Nat)(q:List Nat×Option Str):List (List Nat×List Nat):=match q.2 with
 |some x=>bif !decide (o=some x)&&uY x f.rs pre z (decide (x∈cJ f.t)) then (dZ j f).flatMap λr=>bif pM x r then [(q.1,r.1)] else [] else []
 |none=>[]theorem rO{Y:Type}(p:B->Bool)(φ:B->Y):∀l:List B,(l.flatMap λr=>bif p r then [φ r] else []).length<=l.length
 |[]=>Qb _
 |r::l=>by rw[RJ,PC,PZ,Qw];exact Qd (rO p φ l) (lK _ _)
set_option maxHeartbeats 999999 in
theorem J6(h:At ws cs fs j n f g pre z c o fn ts)(d:Nat)(U:ac)(v7 v8 v9 v10:V)(L0:List (List Nat×List Nat))(h0:L0.length<=2000):∃ρ',exec prog.1 (aj prog (d+29)) (.forr (.tup [9,12]) (.seq (.var 11)) fM) (FP fs (aJ j pre z) o fn ts n g U.length v7 v8 v9 v10 (al ((tU (aJ j pre z) n ts g).map yc)) .un .un) (U++[.lst (L0.map iX)])=.ok (.next ρ') (U++[.lst ((L0++(tU (aJ j pre z) n ts g).flatMap (I7 o f j pre z)).map iX)])/\ρ'[6]?=some (.loc U.length):=by
 have inner:=λ(q:List Nat) (x:Str) (v10 v13:V) (L:List (List Nat×List Nat)) (hL:L.length+821<=900000)=>hW (f:=aL prog.1 (aj prog (d+29)) (.tup [13,10]) iS) LQ iX (λK=>X2 λv10 v13=>K=FP fs (aJ j pre z) o fn ts n g U.length v7 v8 (.d (pD q)) v10 (al ((tU (aJ j pre z) n ts g).map yc)) (aA x) v13) (λr=>bif pM x r then [(q,r.1)] else []) 1 U (dZ j f) (FP fs (aJ j pre z) o fn ts n g U.length v7 v8 (.d (pD q)) v10 (al ((tU (aJ j pre z) n ts g).map yc)) (aA x) v13) L (λr hr=>⟨lK _ _,by
   rintro _ L ⟨v10,v13,rfl⟩ hL
   have R:=ch prog.1 (aj prog (d+29)) iS (FP fs (aJ j pre z) o fn ts n g U.length v7 v8 (.d (pD q)) (al (r.2.map .str)) (al ((tU (aJ j pre z) n ts g).map yc)) (aA x) (.d (pD r.1))) (U++[Cell.lst (L.map iX)]);have ins:=eR r.2 x (U++[Cell.lst (L.map iX)]);refine⟨_,⟨al (r.2.map .str),.d (pD r.1),rfl⟩,d8 rfl ?_⟩;unfold pM;by_cases q:x∈r.2
   . rw[decide_eq_true q,cond_true,PR];exact(R 3 ins (dT q) (mT (by rw[Pd];exact QO hL) _))
   . rw[decide_eq_false q,cond_false,P6];exact(R 3 ins (dF q))⟩) ⟨v10,v13,rfl⟩ (iv (Qh (by rw[TS];exact uG h.of j) _) hL)
 obtain⟨_,⟨v9',v10',v12',v13',rfl⟩,e⟩:=hW (f:=aL prog.1 (aj prog (d+29)) (.tup [9,12]) fM) yc iX (λK=>X4 λv9 v10 v12 v13=>K=FP fs (aJ j pre z) o fn ts n g U.length v7 v8 v9 v10 (al ((tU (aJ j pre z) n ts g).map yc)) v12 v13) (I7 o f j pre z) 821 U (tU (aJ j pre z) n ts g) (FP fs (aJ j pre z) o fn ts n g U.length v7 v8 v9 v10 (al ((tU (aJ j pre z) n ts g).map yc)) .un .un) L0 (λq hq=>⟨by
   unfold I7;cases q.2 with
   |none=>exact PU _
   |some x=>
     show List.length (bif _ then _ else _)<=_;cases !decide (o=some x)&&uY x f.rs pre z (decide (x∈cJ f.t)) with
     |true=>exact iv (rO _ _ _) (uG h.of j)
     |false=>exact PU _,by
   rintro _ L ⟨v9,v10,v12,v13,rfl⟩ hL
   obtain⟨q,y⟩:=q;have R:=ch prog.1 (aj prog (d+29)) fM (FP fs (aJ j pre z) o fn ts n g U.length v7 v8 (.d (pD q)) v10 (al ((tU (aJ j pre z) n ts g).map yc)) (.d (fX y)) v13) (U++[Cell.lst (L.map iX)]);cases y with
   |none=>refine⟨_,⟨.d (pD q),v10,.d .none,v13,rfl⟩,d8 rfl ?_⟩;show _=Res.ok _ (U++[.lst ((L++[]).map iX)]);rw[P6];exact(R 0)
   |some x=>
     have ne:=Kr o x (U++[Cell.lst (L.map iX)]);have nd:=vy (z:=z) h.hj h.of h.hp x (d+5) (U++[Cell.lst (L.map iX)]);by_cases ho:o=some x
     . rw[decide_eq_true ho]at ne;have e0:I7 o f j pre z (q,some x)=[]:=by show (bif !decide (o=some x)&&_ then _ else _)=_;rw[decide_eq_true ho];rfl
       rw[e0,P6];exact⟨_,⟨.d (pD q),v10,aA x,v13,rfl⟩,d8 rfl ((R 16 ne))⟩
     . rw[decide_eq_false ho]at ne;cases hl:uY x f.rs pre z (decide (x∈cJ f.t)) with
       |false=>
         rw[hl]at nd;have e0:I7 o f j pre z (q,some x)=[]:=by show (bif !decide (o=some x)&&_ then _ else _)=_;rw[hl,Tb];rfl
         rw[e0,P6];exact⟨_,⟨.d (pD q),v10,aA x,v13,rfl⟩,d8 rfl ((R 16 ne nd))⟩
       |true=>
         rw[hl]at nd;have e0:I7 o f j pre z (q,some x)=(dZ j f).flatMap λr=>bif pM x r then [(q,r.1)] else []:=by show (bif !decide (o=some x)&&_ then _ else _)=_;rw[hl,decide_eq_false ho];rfl
         rw[e0];refine kk λUc k=>?_;obtain⟨_,⟨v10',v13',rfl⟩,e⟩:=inner q x v10 v13 L hL;refine k ?_;exact⟨_,⟨.d (pD q),v10',aA x,v13',rfl⟩,d8 rfl ((R 16 ne nd (a7 (aZ (aM (d0 rfl (iB (bZ rfl rfl (bI ..)))) (nO h.hj h.of (d+8) (U++[Cell.lst (L.map iX)]))) rfl) e)))⟩⟩) ⟨v9,v10,.un,.un,rfl⟩ (by
   have:(tU (aJ j pre z) n ts g).length<=827:=by unfold tU;rw[PC,Pd,Pd,eI];exact Qd (iv (fZ ..) h.h4) h.og.n4
   exact iv (Qd h0 (Rs 821 this)) (by decide))
 exact⟨_,a7 (aZ rfl rfl) e,rfl⟩
theorem ll{b:Bool}{x y:B}:y∈(bif b then [x] else [])↔b=true/\y=x:=by
 cases b with
 |true=>exact⟨λq=>⟨rfl,PN.mp q⟩,λq=>PN.mpr q.2⟩
 |false=>exact⟨λq=>(by cases q),λq=>by cases q.1⟩
theorem BQ(h:At ws cs fs j n f g pre z c o fn ts)(a b:List Nat):(a,b)∈((dP ts g.ps).flatMap λk=>(List.range' (k+1) (ts.length - (k+1))).flatMap (I8 ts g (aJ j pre z) k))++(dZ n g).flatMap (LU g (aJ j pre z))++(tU (aJ j pre z) n ts g).flatMap (I7 o f j pre z)↔Cl j n f g pre z o ts a b:=by
 rw[PT,PT,or_assoc];refine or_congr ?_ (or_congr ?_ ?_)
 . rw[Rr];constructor
   . rintro⟨k,hk,q⟩
     replace q:=Rr.mp q;obtain⟨i,hi,q⟩:=q;obtain⟨q1,q2⟩:=ll.mp q;obtain⟨h1,h2⟩:=gT.mp hi;injection q2 with e f;subst e;subst f;exact⟨k,i,hk,h1,h2,(zW ..).mp q1,rfl,rfl⟩
   . rintro⟨k,i,hk,h1,h2,q,rfl,rfl⟩
     exact⟨k,hk,Rr.mpr ⟨i,gT.mpr ⟨h1,h2⟩,ll.mpr ⟨(zW ..).mpr q,rfl⟩⟩⟩
 . rw[Rr];constructor
   . rintro⟨q,hq,m⟩
     obtain⟨q1,q2⟩:=ll.mp m;injection q2 with e f;subst e;subst f;exact⟨q,hq,Si.mp q1,rfl,rfl⟩
   . rintro⟨q,hq,hb,rfl,rfl⟩
     exact⟨q,hq,ll.mpr ⟨Si.mpr hb,rfl⟩⟩
 . rw[Rr];constructor
   . rintro⟨⟨q,y⟩,hq,m⟩
     cases y with
     |none=>cases m
     |some x=>
       have m:(a,b)∈(bif !decide (o=some x)&&uY x f.rs pre z (decide (x∈cJ f.t)) then (dZ j f).flatMap (λr=>bif pM x r then [(q,r.1)] else []) else []):=m;cases hc:!decide (o=some x)&&uY x f.rs pre z (decide (x∈cJ f.t)) with
       |false=>rw[hc]at m;cases m
       |true=>rw[hc]at m;replace m:=Rr.mp m;obtain⟨r,hr,m⟩:=m;obtain⟨q1,q2⟩:=ll.mp m;clear m;injection q2 with e f;subst e;subst f;have hc:=PK.mp hc;exact⟨x,r,⟨hq,of_decide_eq_false (QD _▸hc.1),hc.2⟩,hr,of_decide_eq_true q1,rfl⟩
   . rintro⟨x,r,⟨hq,ho,hl⟩,hr,hx,rfl⟩
     refine⟨(a,some x),hq,?_⟩;show (a,r.1)∈(bif !decide (o=some x)&&uY x f.rs pre z (decide (x∈cJ f.t)) then (dZ j f).flatMap (λr=>bif pM x r then [(a,r.1)] else []) else []);rw[decide_eq_false ho,hl];exact Rr.mpr ⟨r,hr,ll.mpr ⟨decide_eq_true hx,rfl⟩⟩
theorem zv(h:At ws cs fs j n f g pre z c o fn ts)(d:Nat)(U:ac):∃Ls:List (List Nat×List Nat),(∀a b,(a,b)∈Ls↔Cl j n f g pre z o ts a b)/\pc (d+30) 51 [ah (fs.map ao),.d (pD (aJ j pre z)),.d (aI (.call o fn ts))] U (al (Ls.map iX)):=by
 have e1:=kQ h.mem (d+28) U;rw[<- h.num]at e1;have e2:=bE h.hn U;have e3:=ua (o:=o) (fn:=fn) h.hl h.h4 (d+28) U;obtain⟨v7,v8,l1⟩:=J8 h d U .un .un .un .un .un;have len1:((dP ts g.ps).flatMap λk=>(List.range' (k+1) (ts.length - (k+1))).flatMap (I8 ts g (aJ j pre z) k)).length<=49:=by
   have fl:∀(l:List Nat) (φ:Nat->List (List Nat×List Nat)) (w:Nat),(∀x∈l,(φ x).length<=w)->(l.flatMap φ).length<=l.length * w:=λl φ w=>by
     induction l with
     |nil=>exact λ_=>PU _
     |cons x l ih=>exact λhw=>by rw[RJ,PC,PZ,S6,Qw];exact Qd (ih λy hy=>hw y (PG _ hy)) (hw x (PH ..))
   exact iv (fl _ _ 7 λk _=>iv (fl _ _ 1 λi _=>lK _ _) (by rw[TS,S8];exact iv (Th ..) h.h4)) (Rs 7 (iv (fZ ..) h.h4))
 have mem:=BQ h;generalize ((dP ts g.ps).flatMap λk=>(List.range' (k+1) (ts.length - (k+1))).flatMap (I8 ts g (aJ j pre z) k))=L1 at l1 len1 mem;obtain⟨v9,v10,l2⟩:=J7 h d U v7 v8 .un .un .un L1 (iv len1 (by decide));have len2:(L1++(dZ n g).flatMap (LU g (aJ j pre z))).length<=2000:=by rw[PC];exact iv (Qd len1 (iv (rO _ _ _) (uG h.og n))) (by decide)
 generalize (L1++(dZ n g).flatMap (LU g (aJ j pre z)))=L2 at l2 len2 mem;have c1:=lU (G:=prog.1) (cf:=aj prog (d+29)) (i:=15) (it:=.seq (.var 5)) (e:=.tup (.cons (.bin .add false (.var 1) (.tup (.cons (.var 15) .nil))) (.cons (.idx (.idx (.var 4) (.int 1)) (.var 15)) .nil))) (K:=FP fs (aJ j pre z) o fn ts n g U.length v7 v8 v9 v10 .un .un .un) (U:=U++[Cell.lst (L2.map iX)]) nI (λk=>yc (Ge (aJ j pre z) g k)) (aZ rfl rfl) λk hk=>by
   obtain⟨t,p,h1,h2,h3⟩:=lr h.hl (lq hk);have e:Ge (aJ j pre z) g k=(aJ j pre z++[k],some p):=by unfold Ge;rw[h2]
   rw[e];exact sZ (d0 (jX rfl rfl (pT (iv h.pl (by decide)) k _)) (iB (bZ rfl rfl (mH h2 _)))) rfl
 have c2:=λ(v11:V)=>mq (G:=prog.1) (cf:=aj prog (d+29)) (m:=false) (t:=.tup [16,17]) (it:=.seq (.call 41 (.cons (.tup (.cons (.var 3) .nil)) (.cons (.idx (.var 4) (.int 2)) .nil)))) (c:=.nil) (e:=.tup (.cons (.var 16) (.cons (.call 39 (.cons (.var 17) .nil)) .nil))) (K:=FP fs (aJ j pre z) o fn ts n g U.length v7 v8 v9 v10 v11 .un .un) (U:=U++[Cell.lst (L2.map iX)]) (aa:=U++[Cell.lst (L2.map iX)]) (aZ (aM rfl (kP 18 g.rs [n] (d+9) h.og.h9 (iv h.og.n4 (by decide)) (P9 19 81) (U++[Cell.lst (L2.map iX)]))) rfl) (iG aR (λp=>some (yc (EI p))) (jt [n] 0 g.rs) λp _=>zD rfl (sZ (d0 rfl (iB (aM rfl (pw p.2 (d+28) _)))) rfl));have c2:=c2 (al ((dP ts g.ps).map λk=>yc (Ge (aJ j pre z) g k)));rw[RV]at c2;have eg:(tU (aJ j pre z) n ts g).map yc=(dP ts g.ps).map (λk=>yc (Ge (aJ j pre z) g k))++(jt [n] 0 g.rs).map (λp=>yc (EI p)):=by unfold tU;rw[PR,Qx,Qx];rfl
 have ad:=kT (a:=(dP ts g.ps).map λk=>yc (Ge (aJ j pre z) g k)) (b:=(jt [n] 0 g.rs).map λp=>yc (EI p)) (by rw[Pd,Pd,eI];exact iv (Qd (iv (fZ ..) h.h4) h.og.n4) (by decide)) (U++[Cell.lst (L2.map iX)]);rw[<- eg]at ad;obtain⟨ρ',l3,h6⟩:=J6 h d U v7 v8 v9 v10 L2 len2;refine⟨_,mem,?_⟩;generalize L2++(tU (aJ j pre z) n ts g).flatMap (I7 o f j pre z)=L3 at l3;have fz:af prog.1 (aj prog (d+29)) (.freeze (.var 6)) ρ' (U++[.lst (L3.map iX)])=.ok (al (L3.map iX)) (U++[.gone]):=by refine Mg ?_ (ly _ _);rw[Fj,h6];rfl
 exact oP (fn:=pq) (d:=d+29) rfl rfl (aT (ki (aM rfl e1)) (aT (ki (bZ rfl rfl e2)) (aT (ki (aM rfl e3)) (aT (ki rfl) (aT l1 (aT l2 (aT (ki c1) (aT (ki (jX rfl c2 ad)) (aT l3 (l4 (Dv fz))))))))))) (cG ..)def AL(d:Nat)(x y:PyData)(b:Bool):Prop:=∀U,pc d 57 [.d x,.d y] U (.d (.bool b))
theorem FQ(s:Str)(d:Nat):AL (d+1) (.str s) (.str s) true:=λU=>by
 have e:bC .eq (aA s) (aA s) U=some true:=by rw[xP,decide_eq_true rfl]
 exact(aX prog 57 d [aA s,aA s] U rfl 512 e (same U))theorem FS(i k:Int)(d:Nat):AL (d+1) (.int i) (.int k) (decide (i=k)):=λU=>(aX prog 57 d [ak i,ak k] U rfl 0 (same U))theorem Iq(d:Nat):AL (d+1) .none .none true:=λU=>(aX prog 57 d [.d .none,.d .none] U rfl 0 (same U))variable {xs ys:List PyData}
theorem zL(hx:ys.length<=9000)(H:∀(k:Nat) x y,xs[k]?=some x->ys[k]?=some y->∃b,AL d x y b):∃b,AL (d+1) (.tuple xs) (.tuple ys) b/\(xs.length=ys.length->(∀(k:Nat) x y,xs[k]?=some x->ys[k]?=some y->AL d x y true)->b=true):=by
 by_cases hl:xs.length=ys.length
 . obtain⟨g,hg⟩:∃g:Nat->Bool,∀k,k < ys.length->∀x y,xs[k]?=some x->ys[k]?=some y->AL d x y (g k):=by
     have:=GA true (p:=λk=>k < ys.length) (Q:=λk b=>∀x y,xs[k]?=some x->ys[k]?=some y->AL d x y b) λk hk=>by obtain⟨b,hb⟩:=H k xs[k] ys[k] (PD (hl▸hk)) (PD hk);exact⟨b,λx y h1 h2=>by rw[PD (hl▸hk)]at h1;rw[PD hk]at h2;injection h1 with e;subst e;injection h2 with e;subst e;exact hb⟩
     exact this
   refine⟨((List.range ys.length).filter λk=>!g k).isEmpty,λU=>?_,λ_ h=>?_⟩
   . have hI:=iC (G:=prog.1) (cf:=aj prog d) (K:=[ah xs,ah ys,.un]) (U:=U) (aa:=U) (e:=.bi .len false (.cons (.var 1) (.nil))) (b:=(ys.length:Int)) rfl (qH hx);rw[fk]at hI;have cm:=fi (i:=2) (c:=.not (.call 57 (.cons (.idx (.var 0) (.var 2)) (.cons (.idx (.var 1) (.var 2)) (.nil))))) (e:=.var 2) (λ(k:Nat)=>PyData.int (k:Int)) nI (λk=>!g k) hI (λk hk=>by have hk:=Rf.mp hk;have e1:xs[k]?=some (xs[k]'(hl▸hk)):=PD _;have e2:ys[k]?=some ys[k]:=PD hk;exact JC (aM (d0 (bZ rfl rfl (by rw[df,e1];rfl)) (iB (bZ rfl rfl (by rw[df,e2];rfl)))) (hg k hk _ _ e1 e2 _))) (λk hk q=>rfl)
     unfold pc;rw[((aX prog 57 d [ah xs,ah ys] U rfl 256 (nF (decide_eq_true (congrArg _ hl))) cm (same U)))];show Res.ok (V.d (.bool (!(!(((List.range ys.length).filter λk=>!g k).map nI).isEmpty)))) U=_;rw[Bool.not_not,Q0]
   . rw[RQ,RE];intro k hk q;have hk:=Rf.mp hk;have e1:xs[k]?=some (xs[k]'(hl▸hk)):=PD _;have e2:ys[k]?=some ys[k]:=PD hk;have a:=h k _ _ e1 e2 [];unfold pc at a;rw[hg k hk _ _ e1 e2 []]at a;injection a with a;injection a with a;injection a with a;rw[a]at q;injection q
 . exact⟨false,λU=>(aX prog 57 d [ah xs,ah ys] U rfl 256 (nT (decide_eq_false λq=>hl (SE.mp q))) (same U)),λh=>(hl h).elim⟩def SA(n:Nat)(x:PyData):Prop:=∀d,AL (d+n+1) x x (true)variable {x:PyData}theorem SA.up(h:SA n x)(hm:n<=m):SA m x:=λd=>by obtain⟨e,rfl⟩:=o1 hm;rw[<- Qq];exact h (d+e)theorem dB(n:Nat)(s:Str):SA n (.str s):=λd=>FQ s (d+n)theorem uC(n:Nat)(i:Int):SA n (.int i):=λd=>by have:=FS i i (d+n);rw[decide_eq_true rfl]at this;exact(this)theorem GE(n:Nat):SA n .none:=λd=>Iq (d+n)variable {l:List PyData}
theorem kh(hl:l.length<=9000)(h:∀y∈l,SA n y):SA (n+1) (.tuple l):=λd=>by
 have q:∀(k:Nat) x y,l[k]?=some x->l[k]?=some y->AL (d+n+1) x y true:=λk x y h1 h2=>by rw[h1]at h2;injection h2 with h2;subst h2;exact h x (PF h1) d
 obtain⟨b,h1,h2⟩:=zL hl λk x y a b=>⟨true,q k x y a b⟩;rw[h2 rfl q]at h1;exact(h1)theorem sI(hx:SA n x)(h:∀y∈l,SA n y):∀y∈x::l,SA n y:=λy hy=>(PO.mp hy).elim (λe=>e▸hx) (h y)theorem GG:∀y∈([]:List PyData),SA n y:=λy hy=>by exact nomatch (hy)theorem JN{a b:PyData}(ha:SA n a)(hb:SA n b):SA (n+1) (.tuple [a,b]):=kh (P7 rfl) (sI ha (sI hb GG))theorem BE{a b c:PyData}(ha:SA n a)(hb:SA n b)(hc:SA n c):SA (n+1) (.tuple [a,b,c]):=kh (P7 rfl) (sI ha (sI hb (sI hc GG)))theorem Mp{a b c d:PyData}(ha:SA n a)(hb:SA n b)(hc:SA n c)(hd:SA n d):SA (n+1) (.tuple [a,b,c,d]):=kh (P7 rfl) (sI ha (sI hb (sI hc (sI hd GG))))theorem uB(φ:B->PyData){l:List B}(hl:l.length<=9000)(h:∀a∈l,SA n (φ a)):SA (n+1) (.tuple (l.map φ)):=kh (by rw[Pd];exact hl) λy hy=>by obtain⟨a,ha,rfl⟩:=Qk.mp hy;exact h a (ha)theorem JM:∀t:Tm,SA (ht t+1) (a9 t)
 |.num i=>JN (dB _ _) (uC _ _)
 |.name x=>JN (dB _ _) (dB _ _)
 |.op k a b=>BE (dB _ _) ((JM a).up (PP (RC ..))) ((JM b).up (PP (Rq ..)))theorem wp(h:lP ws t):SA 3 (a9 t):=(JM t).up (PP h.2)
theorem N3(n:Nat)(o:Option Str):SA n (fX o):=by
 cases o with
 |none=>exact GE n
 |some x=>exact dB n (x)theorem Lf(n:Nat)(h:m<=5):m<=n+5:=iv h (P9 5 n)
mutual
theorem Mo:∀r:Rw,ma ws cs r->nR r<=9000->SA (2 * hR r+5) (aI r)
 |.set x t=>@λh _=>(BE (dB 3 _) (dB 3 _) (wp h.2)).up (Lf _ (by decide))
 |.tell t=>@λh _=>(JN (dB 3 _) (wp h)).up (Lf _ (by decide))
 |.whn t b=>@λh n=>BE (dB _ _) ((wp h.1).up (iv (by decide) (P9 6 _))) (kh (iv (gS b) (Q1 n)) (GF b h.2 (Q1 n)))
 |.aga k b=>@λh n=>BE (dB _ _) (uC _ _) (kh (iv (gS b) (Q1 n)) (GF b h (Q1 n)))
 |.call o f ts=>@λh _=>(Mp (dB 4 _) (N3 _ _) (dB _ _) (uB a9 (iv h.2.2.1 (by decide)) λt ht=>wp (h.2.1 t ht))).up (Lf _ (by decide))
theorem GF:∀b:RL,fH ws cs b->nL b<=9000->∀y∈am b,SA (2 * hL b+5) y
 |.nil=>@λ_ _ y hy=>by cases hy
 |.cons r b=>@λh n y hy=>by
   rcases PO.mp hy with rfl|hy
   . exact(Mo r h.1 (iv (PW ..) n)).up (PL (Q6 2 (RC ..)) 5)
   . exact(GF b h.2 (iv (P9 ..) n) y hy).up (PL (Q6 2 (Rq ..)) 5)
end
theorem N4(h1:f.ps.length<=7)(h2:fH ws cs f.rs)(h3:hL f.rs<=36)(h4:nL f.rs<=9000)(h5:lP ws f.t):SA 79 (ao f):=
 Mp (dB _ _) ((uB (n:=0) PyData.str (iv h1 (by decide)) λx _=>dB _ _).up (by decide)) ((kh (iv (gS f.rs) h4) (GF f.rs h2 h4)).up (PP (PL (Q6 2 h3) 5))) ((wp h5).up (by decide))theorem Dt(p:List Nat)(h:p.length<=9000):SA 1 (pD p):=uB nI h λk _=>uC _ _
theorem KI(d:Nat)(U:ac):pc (d+1) 56 [.exc 1 []] U (aA gu):=cI (fn:=fD) rfl rfl (rfl)theorem KG(d:Nat)(U:ac):pc (d+1) 56 [.exc 4 []] U (aA bA):=cI (fn:=fD) rfl rfl (rfl)theorem KD(x y:PyData)(d:Nat)(U:ac):pc (d+1) 56 [.exc 6 [x,y]] U (aA eG):=cI (fn:=fD) rfl rfl (rfl)theorem EG{f:Nat}{a:Bool}(h:cf f [.exc k ds] U=.ok (.d x) U)(hk:a=true->k=6):lu cf (some (i,f,a)) k ds U=.ok (.ret (ah (x::if a then ds else []))) U:=by show ((cf f [.exc k ds] U).bind λv aa=>oc (bN v) (λx=>if a=true->k=6 then Res.ok (Out.ret (ah (x::if a then ds else []))) aa else .bad) .bad)=_;exact h▸if_pos (hk)theorem KH(d:Nat)(U:ac):pc (d+1) 56 [.exc 3 []] U (aA kY):=cI (fn:=fD) rfl rfl (rfl)theorem KF(d:Nat)(U:ac):pc (d+1) 56 [.exc 5 []] U (aA gR):=cI (fn:=fD) rfl rfl (rfl)variable {s:Str}
section
variable {P a b c e f:PyData}
theorem Gu(h:pc d 54 [.d P,.d a,.d b,.d c,.d e,.d f] U (.d x)):pc (d+1) 58 [.d P,ah [a,b,c,e,f]] U (al [x]):=
 cI (fn:=jQ) rfl rfl (l4 (Du (l4 (uE rfl h rfl))))
theorem ur(hk:pc (d+1) 56 [.exc k []] U (aA s))(hx:∀q,lu (aj prog (d+1)) (some (2,56,false)) k [] U=q->kJ (aj prog (d+1)) [(6,some (2,56,true)),(0,some (2,56,false))] k [] U=q)(h:pc (d+1) 54 [.d P,.d a,.d b,.d c,.d e,.d f] U (.exc k [])):pc (d+2) 58 [.d P,ah [a,b,c,e,f]] U (ah [.str s]):=
 cI (fn:=jQ) rfl rfl (l4 (yq (IU (uE rfl h rfl)) (hx _ (EG (i:=2) (a:=false) hk (λq=>by injection q)))))
theorem JG(h:pc (d+1) 54 [.d P,.d a,.d b,.d c,.d e,.d f] U (.exc 6 [x,y])):pc (d+2) 58 [.d P,ah [a,b,c,e,f]] U (ah [.str eG,x,y]):=
 cI (fn:=jQ) rfl rfl (l4 (yq (IU (uE rfl h rfl)) (EG (i:=2) (a:=true) (KD x y d U) (λ_=>rfl))))
end
def qP:Nat->List Fd->List (List Nat×Rw)
 |_,[]=>[]
 |k,f::fs=>jt [k] 0 f.rs++qP (k+1) (fs)noncomputable def ub:Rw->Bool
 |.call _ _ _=>true
 |_=>(false)theorem En{a w:Nat}(h:a+(n+1) * w<=m){b:Nat}(hb:b<=w):a+b<=m/\(a+b)+n * w<=m:=by rw[S6,Qw _ w,<- Qq]at h;exact⟨iv (Qh hb _) (QO h),iv (PL (Qh hb _) _) h⟩
theorem FN(d:Nat)(fs0:List Fd)(U:ac):∀(fs:List Fd) (k:Nat) (L:List PyData) (v2:V),fs0.drop k=fs->(∀f∈fs,hL f.rs<=36/\nL f.rs<=9000)->L.length+fs.length * 9000<=90000->
   ∃v2',ba (aL prog.1 (aj prog (d+38)) (.var 2) kH) ((List.range' k fs.length).map λ(k:Nat)=>PyData.int (k:Int)) [ah (fs0.map ao),al L,v2] U=.ok (.next [ah (fs0.map ao),al (L++(qP k fs).map aR),v2']) U:=by
 intro xs_
 induction xs_ with
 |nil=>intro k L v2 _ _ _;exact⟨v2,by rw[show qP k []=[] from rfl,RG,P6];rfl⟩
 |cons f fs ih_=>intro k L v2 hd hf hl;obtain⟨f9,f4⟩:=hf f (PH ..);obtain⟨hk,hd'⟩:=kM hd;obtain⟨h1,h2⟩:=En hl f4;obtain⟨v2',ih⟩:=ih_ (k+1) (L++(jt [k] 0 f.rs).map aR) (ak (k:Int)) hd' (λx hx=>hf x (PG _ hx)) (by rw[PC,Pd,eI];exact h2);rw[PV,<- PR]at ih;exact⟨v2',a6 (aP ((ch prog.1 (aj prog (d+38)) kH [ah (fs0.map ao),al L,ak (k:Int)] U 5 (bE hk U) (kP 36 f.rs [k] d f9 (iv f4 (by decide)) (P9 37 63) U) (kT (by rw[Pd,eI];exact iv h1 (by decide)) U)))) ih⟩theorem si(hf:∀f∈fs,hL f.rs<=36/\nL f.rs<=9000)(h8:fs.length<=9)(d:Nat)(U:ac):pc (d+39) 44 [ah (fs.map ao)] U (al ((qP 0 fs).map aR)):=by obtain⟨v2',lp⟩:=FN d fs U fs 0 [] .un rfl hf (by rw[Q8,Rk];exact iv (Rs 9000 h8) (by decide));have hl:(fs.map ao).length=fs.length:=Pd _;rw[SX,<- Sg,<- fk,<- hl]at lp;exact(aX prog 44 (d+38) [ah (fs.map ao)] U rfl 0 (a7 (iC rfl (qH (by rw[hl];exact iv h8 (by decide)))) lp) (same U))
theorem J5:∀(fs:List Fd) (k:Nat) (p:List Nat×Rw),p∈qP k fs->X2 λj f=>fs[j]?=some f/\p∈jt [k+j] 0 f.rs:=by
 intro xs_
 induction xs_ with
 |nil=>intro k p h;cases h
 |cons f fs ih_=>
   intro k p h;rcases PT.mp h with h|h
   . exact⟨0,f,rfl,h⟩
   . obtain⟨j,g,hj,hp⟩:=ih_ (k+1) p h;exact⟨j+1,g,hj,by rw[Qq,Qw 1]at hp;exact hp⟩variable {p:List Nat×Rw}theorem qO(h:p∈qP 0 fs):X5 λj f pre z c=>A4 (fs[j]?=some f) (p.1=aJ j pre z) (Pth f.rs pre c) ((lst c)[z]?=some p.2):=by refine kk λUc k=>?_;obtain⟨j,f,hj,hp⟩:=J5 fs 0 p h;rw[Rk]at hp;obtain⟨pre,z,c,e,h1,h2⟩:=km _ f.rs f.rs 0 rfl p hp;refine k ?_;exact⟨j,f,pre,z,c,hj,e,h1,h2⟩
theorem nN{o:Option Str}{fn:Str}{g:Fd}(hl:ts.length=g.ps.length)(h4:ts.length<=7)(hn:nL g.rs<=820)(d:Nat)(U:ac):pc (d+2) 60 [.d (aI (.call o fn ts)),.d (ao g)] U (ah (am (aS o ts g))):=by
 have c:=tv (cf:=aj prog (d+1)) (K:=[.d (aI (.call o fn ts)),.d (ao g),.un,.un]) (U:=U) (i:=3) (a:=1) (b:=0) (e:=.call 49 (.cons (.var 0) (.cons (.var 1) .nil))) (o:=o) (fn:=fn) hl (aM rfl (ua hl h4 d U)) (λ_ _=>rfl) (λ_ _=>rfl) (λ_ _=>rfl);obtain⟨a1,a2⟩:=wO (g:=g) h4 hn U;have R:=aX prog 60 (d+1) [.d (aI (.call o fn ts)),.d (ao g)] U rfl;rw[s0];cases o with
 |none=>refine(?_:_=Res.ok (ah (_++[])) U);rw[P6];exact(R 4 c a1 (same U))
 |some y=>
   have ne:=qf g.t y U;cases h:(a9 g.t).eqv (a9 (.name y)) with
   |true=>rw[h]at ne;rw[nq h,RG,P6];exact(R 516 c a1 ne (same U))
   |false=>rw[h]at ne;rw[nu h];exact(R 8708 c a1 ne (a2 _) (same U))
theorem Bc(x:Str):∀(fs:List Fd) (k:Nat),(qP k fs).any (λp=>u8 x p.2)=bU x fs
 |[],_=>rfl
 |f::fs,k=>by
   show (jt [k] 0 f.rs++qP (k+1) fs).any _=((jr f.rs).any (u8 x)||bU x fs)
   rw[List.any_append,Bc x fs,<- k7 [k] 0 f.rs,Tv];(rfl)def lS(fs:List Fd)(j:Nat)(f g:Fd)(pre:List Nat)(z:Nat)(o:Option Str)(ts:List Tm):List Fd:=ci fs j [bL 1 (aS o ts g) pre z f]
def mv(fs:List Fd)(j n:Nat)(f g:Fd)(pre:List Nat)(z:Nat)(o:Option Str)(fn:Str)(ts:List Tm):List Fd:=
 bif bU fn (lS fs j f g pre z o ts) then lS fs j f g pre z o ts else io (lS fs j f g pre z o ts) n
theorem vz(h:At ws cs fs j n f g pre z c o fn ts)(d:Nat)(U:ac):pc (d+40) 53 [ah (fs.map ao),.d (pD (aJ j pre z)),.d (aI (.call o fn ts))] U (ah ((mv fs j n f g pre z o fn ts).map ao)):=by
 have e1:=kQ h.mem (d+38) U;rw[<- h.num]at e1;have e2:=bE h.hn U;have e3:=nN (o:=o) (fn:=fn) h.hl h.h4 h.og.n4 (d+37) U;have e5:=(gK 1 (news:=aS o ts g) (iv ((gG h).1) (by decide)) h.hj h.h8 h.hp (iv h.of.n4 (by decide)) h.of.h9 (z:=z) (d+19) U).2;have e6:=si h.after (h.len _) d U;have R:=aX prog 53 (d+39) [ah (fs.map ao),.d (pD (aJ j pre z)),.d (aI (.call o fn ts))] U rfl;have l8:((ci fs j [bL 1 (aS o ts g) pre z f]).map ao).length<=9:=by rw[Pd];exact h.len _
 have ca:=AX l8 n U;refine(?_:_=Res.ok (ah (List.map ao (bif bU fn (ci fs j [bL 1 (aS o ts g) pre z f]) then ci fs j [bL 1 (aS o ts g) pre z f] else io (ci fs j [bL 1 (aS o ts g) pre z f]) n))) U);generalize ci fs j [bL 1 (aS o ts g) pre z f]=A at e5 e6 ca ⊢;have cm:=fi (G:=prog.1) (cf:=aj prog (d+39)) (i:=5) (it:=.seq (.call 44 (.cons (.var 4) .nil))) (c:=.bop true (.cons (.cmp .eq (.idx (.idx (.var 5) (.int 1)) (.int 0)) (.str bA)) (.cons (.cmp .eq (.idx (.idx (.var 5) (.int 1)) (.int 2)) (.idx (.var 2) (.int 2))) .nil))) (e:=.var 5) (K:=F6 (ah (fs.map ao)) (.d (pD (aJ j pre z))) (.d (aI (.call o fn ts))) (ak (n:Int)) (ah (A.map ao)) .un) (U:=U) (aa:=U) (base:=(qP 0 A).map aR) aR aR (λp=>u8 fn p.2) (ps:=qP 0 A) (aZ (aM rfl e6) rfl) (λp _=>by
   obtain⟨q,r⟩:=p;cases r with
   |call o' fn' ts'=>exact qs rfl (cN (cq rfl rfl (xP ..)))
   |set _ _=>exact jw rfl
   |tell _=>exact jw rfl
   |whn _ _=>exact jw rfl
   |aga _ _=>exact jw rfl) λp _ _=>rfl
 have nn:=iA (((qP 0 A).filter λp=>u8 fn p.2).map aR) U;rw[Q0,mJ,Bc]at nn;cases hc:bU fn A with
 |true=>replace nn:=hc▸nn;exact(R 6 e1 e2 e3 e5 cm nn (same U))
 |false=>
   rw[hc]at nn;show _=Res.ok (ah ((io A n).map ao)) U;have e7:(io A n).map ao=(A.map ao).take n++(A.map ao).drop (n+1):=by unfold io;rw[PR,Q9,Rg]
   exact e7▸(R 214 e1 e2 e3 e5 cm nn ((dY ..)) ((jC ..)) ca (same U))noncomputable def Pn(o:Option RL)(f:RL->Fm)(U:ac):Res Out:=match o with
 |some c=>.ok (.next (f c)) U
 |none=>.ok (.ret (.d (.int (-1)))) (U)def Pp(o:Option RL):Int:=match o with
 |some c=>((am c).length:Int)
 |none=>-1
theorem BZ(d:Nat)(v0 v1:V)(U:ac):∀(ms:List Int) (b:RL) (v3:V),∃v3',ba (aL prog.1 (aj prog (d+1)) (.var 3) jP) (ms.map PyData.int) [v0,v1,ah (am b),v3] U=Pn (j3 b ms) (λc=>[v0,v1,ah (am c),v3']) U:=by
 intro xs_
 induction xs_ with
 |nil=>intro b v3;exact⟨v3,rfl⟩
 |cons i is ih_=>
   intro b v3;have c1:=Bp (G:=prog.1) (cf:=aj prog (d+1)) (a:=.var 3) (b:=.bi .len false (.cons (.var 2) .nil)) (K:=[v0,v1,ah (am b),ak i]) (U:=U) (bB b) rfl rfl;have R:=ch prog.1 (aj prog (d+1)) jP [v0,v1,ah (am b),ak i] U;cases hr:gi (lst b) i with
   |none=>rw[hr]at c1;rw[ui hr];exact⟨.un,jJ (aP (R 0 c1))⟩
   |some r=>
     replace c1:=hr▸c1;have gr:=jo hr U;have hh:=sh r d U;cases hb:sL r with
     |false=>
       rw[oo hr hb];clear hh;cases r with
       |set _ _=>exact⟨.un,jJ (aP (R 4 c1 gr))⟩
       |tell _=>exact⟨.un,jJ (aP (R 4 c1 gr))⟩
       |call _ _ _=>exact⟨.un,jJ (aP (R 4 c1 gr))⟩
       |whn _ _=>injection hb
       |aga _ _=>injection hb
     |true=>
       rw[pW hr hb];refine(ih_ (dH r) (ak i)).elim λv3' ih=>?_;clear hr;cases r with
       |set _ _=>injection hb
       |tell _=>injection hb
       |call _ _ _=>injection hb
       |whn _ _=>exact⟨v3',a6 (aP (R 68 c1 gr gr hh)) ih⟩
       |aga _ _=>exact⟨v3',a6 (aP (R 68 c1 gr gr hh)) ih⟩def ND(fs:List Fd)(a:Int)(ms:List Int):Option RL:=match gi fs a with
 |some f=>j3 f.rs ms
 |none=>(none)variable {a:Int}theorem xX(h:gi fs a=some f)(ms:List Int):ND fs a ms=j3 f.rs ms:=by show (match gi fs a with|some f=>j3 f.rs ms|none=>none)=_;rw[h]theorem FI(h:gi fs a=none)(ms:List Int):ND fs a ms=none:=by show (match gi fs a with|some f=>j3 f.rs ms|none=>none)=_;rw[h]variable {i:Int}{l:List B}
theorem tV{x:B}(h:gi l i=some x):∃k:Nat,i=(k:Int)/\l[k]?=some x:=by
 by_cases q:0<=i
 . exact⟨i.toNat,(Re q).symm,(if_pos q).symm.trans h⟩
 . exact absurd ((if_neg q).symm.trans h) nofun
theorem sX:∀{ms:List Int} {b c:RL},j3 b ms=some c->∃pre,ms=iN pre/\Pth b pre c
 |[],b,c,h=>⟨[],rfl,Option.some.inj h▸.nil b⟩
 |i::is,b,c,h=>by
   cases hr:gi (lst b) i with
   |none=>rw[ui hr]at h;injection h
   |some r=>
     cases hb:sL r with
     |false=>rw[oo hr hb]at h;injection h
     |true=>rw[pW hr hb]at h;obtain⟨pre,e,hp⟩:=sX h;obtain⟨k,rfl,hk⟩:=tV hr;exact⟨k::pre,congrArg ((k:Int)::·) e,.cons hk hb hp⟩
structure Spot(fs:List Fd)(x:PyData)(o:Option RL)(z:Int):Prop where
 tu:∀d U,pc (d+2) 10 [.d (.tuple (fs.map ao)),.d x] U (O6 o)
 lf:∀d U,pc (d+2) 61 [.d (.tuple (fs.map ao)),.d x] U (.d (.int (Pp o)))
 yes:∀c,o=some c->X3 λ(j:Nat) (f:Fd) (pre:List Nat)=>A3 (fs[j]?=some f) (Pth f.rs pre c) (x=pI (j:Int) (iN pre) z)
theorem qB{P:List PyData}(hP:P.length < 2)(z:Int):Spot fs (.tuple P) none z:=by
 refine⟨λd U=>?_,λd U=>?_,λc h=>by injection h⟩
 . exact(aX prog 10 (d+1) [ah (fs.map ao),ah P] U rfl 24 (dT (Qr.mpr hP)) (dT (Qr.mpr hP)) (same U))
 . exact(aX prog 61 (d+1) [ah (fs.map ao),ah P] U rfl 24 (dT (Qr.mpr hP)) (dT (Qr.mpr hP)) (same U))
theorem kX(fs:List Fd)(a:Int)(ms:List Int)(z:Int):Spot fs (pI a ms z) (ND fs a ms) z:=by
 have c0:=λd U=>Bp (G:=prog.1) (cf:=aj prog (d+1)) (a:=.idx (.var 1) (.int 0)) (b:=.bi .len false (.cons (.var 0) .nil)) (K:=[ah (fs.map ao),.d (pI a ms z),.un,.un]) (U:=U) (l:=fs) (i:=a) (Pd _).symm (bZ rfl rfl (kn ..)) rfl;cases ha:gi fs a with
 |none=>rw[ha]at c0;rw[FI ha];exact⟨λd U=>um ha ms z d U,λd U=>(aX prog 61 (d+1) [ah (fs.map ao),.d (pI a ms z)] U rfl 8 (dF (lg _ _ _)) (c0 d U) (same U)),λc h=>by injection h⟩
 |some f=>
   rw[ha]at c0;obtain⟨j,rfl,hj⟩:=tV ha;rw[xX ha];refine⟨λd U=>kb hj ms z d U,λd U=>?_,λc h=>?_⟩
   . obtain⟨v3',lp⟩:=BZ d (ah (fs.map ao)) (.d (pI (j:Int) ms z)) U ms f.rs .un;have R:=aX prog 61 (d+1) [ah (fs.map ao),.d (pI (j:Int) ms z)] U rfl;have gf:=bE hj U;have it:=aZ (qr (G:=prog.1) (cf:=aj prog (d+1)) (m:=false) (a:=.var 1) (lo:=.cons (.int 1) .nil) (hi:=.cons (.neg (.int 1)) .nil) (K:=[ah (fs.map ao),.d (pI (j:Int) ms z),ah (am f.rs),.un]) rfl rfl rfl (yB (j:Int) ms z U)) rfl;cases hw:j3 f.rs ms with
     |some c=>rw[hw]at lp;exact(R 104 (dF (lg _ _ _)) (c0 d U) (kn (j:Int) ms z U) gf (a7 it lp) (same U))
     |none=>replace lp:=hw▸lp;exact(R 104 (dF (lg _ _ _)) (c0 d U) (kn (j:Int) ms z U) gf (a7 it lp) (same U))
   . clear c0;obtain⟨pre,rfl,hp⟩:=sX h;exact⟨j,f,pre,hj,hp,rfl⟩
structure okQ(H Ud:Nat)(ws:List Str)(fs:List Fd):Prop where
 w8:ws.length<=8
 ne:0 < fs.length
 n9:fs.length<=9
 nd:(bK fs).Nodup
 ok:∀f∈fs,okF ws (fs.map f8) f
 hB:∀f∈fs,hL f.rs<=H/\nL f.rs<=Ud
theorem J3(h:Pth b pre c):fH ws cs b->fH ws cs c:=by
 induction h with
 |nil b=>exact id
 |@cons b c r k ks hk hb hp ih=>exact λo=>ih (ic (bS o r (PF hk)))
theorem Lw(nd:(bK fs).Nodup)(hm:(fn,k)∈fs.map f8):∃g,A4 (fs[(bK fs).idxOf fn]?=some g) (g.nm=fn) (g.ps.length=k) (fn∈bK fs):=by
 obtain⟨g,hg,e⟩:=Qk.mp hm;obtain⟨e1,e2⟩:=Prod.mk.inj e;have hf:fn∈bK fs:=e1▸QB (f:=λf:Fd=>f.nm) hg;obtain⟨i,hi⟩:=Q2 hg;have hn:=Rn.mpr hf;have h1:(bK fs)[i]?=some fn:=by unfold bK;rw[Qe,hi,<- e1];rfl
 have h2:(bK fs)[(bK fs).idxOf fn]?=some fn:=by rw[PD hn,S9]
 exact⟨g,by rw[((Td hn nd).mp (h2.trans h1.symm))];exact hi,e1,e2,hf⟩
theorem Jo(p q:List Nat)(hq:q.length<=9000)(d:Nat):∃b,AL (d+2) (pD p) (pD q) b:=by
 obtain⟨b,h,_⟩:=zL (d:=d+1) (xs:=p.map nI) (ys:=q.map nI) (by rw[Pd];exact hq) λk x y h1 h2=>by
   rw[Qe]at h1 h2;cases e1:p[k]? with
   |none=>rw[e1]at h1;injection h1
   |some a=>
     cases e2:q[k]? with
     |none=>rw[e2]at h2;injection h2
     |some a'=>rw[e1]at h1;rw[e2]at h2;injection h1 with e;subst e;injection h2 with e;subst e;exact⟨_,FS _ _ d⟩
 exact⟨b,h⟩
theorem FT(a b a' b':List Nat)(h1:a'.length<=9000)(h2:b'.length<=9000)(d:Nat):∃q,AL (d+3) (.tuple [.str eG,pD a,pD b]) (.tuple [.str eG,pD a',pD b']) q:=by
 obtain⟨q,h,_⟩:=zL (d:=d+2) (xs:=[.str eG,pD a,pD b]) (ys:=[.str eG,pD a',pD b']) (P7 rfl) λk x y e1 e2=>by
   match k,e1,e2 with
   |0,e1,e2=>injection e1 with e;subst e;injection e2 with e;subst e;exact⟨_,FQ _ (d+1)⟩
   |1,e1,e2=>injection e1 with e;subst e;injection e2 with e;subst e;exact Jo a a' h1 d
   |2,e1,e2=>injection e1 with e;subst e;injection e2 with e;subst e;exact Jo b b' h2 d
 exact⟨q,h⟩theorem DR(h9:hL b<=18)(j:Nat)(h:p∈jt [j] 0 b):p.1.length<=20:=by obtain⟨pre,z,c,e,h1,_⟩:=km _ b b 0 rfl p h;rw[e,PC,PC,Qw];exact PL (PL (iv (gv h1) h9) 1) 1
variable {Ud H:Nat}
theorem IT(of:okF ws cs f){q:List Nat×List Str}(h:q∈dZ j f):q.1.length<=20:=by
 rcases rf h with h|rfl
 . obtain⟨p,hp,rfl⟩:=Qk.mp h;exact DR of.h9 j hp
 . exact P9 2 18
theorem Cl.len(h:At ws cs fs j n f g pre z c o fn ts){a b:List Nat}(q:Cl j n f g pre z o ts a b):a.length<=21/\b.length<=21:=by
 have one:∀k:Nat,(aJ j pre z++[k]).length<=21:=λk=>by rw[PC];exact PP h.pl
 rcases q with⟨k,i,_,_,_,_,rfl,rfl⟩|⟨q,hq,_,rfl,rfl⟩|⟨x,r,hl,hr,_,rfl⟩
 . exact⟨one k,one i⟩
 . exact⟨iv (IT h.og hq) (by decide),iv h.pl (by decide)⟩
 . refine⟨?_,iv (IT h.of hr) (by decide)⟩;rcases PT.mp hl.1 with m|m
   . obtain⟨k,_,e⟩:=Qk.mp m;have:a=aJ j pre z++[k]:=(congrArg Prod.fst e).symm;rw[this];exact one k
   . obtain⟨p,hp,e⟩:=Qk.mp m;have:a=p.1:=(congrArg Prod.fst e).symm;rw[this];exact iv (DR h.og.h9 n hp) (by decide)
theorem G8(h:At ws cs fs j n f g pre z c o fn ts)(ho:∀x,o=some x->x∈ws):fH ws cs (aS o ts g):=mz _ λr hr=>by
 rcases PT.mp hr with hr|hr
 . rcases PT.mp hr with hr|hr
   . obtain⟨k,hk,e9⟩:=Qk.mp hr;refine e9▸?_;obtain⟨t,p,h1,h2,h3⟩:=lr h.hl (lq hk);have e:lN ts g.ps k=.set p t:=by unfold lN;rw[h1,h2]
     exact e▸⟨h.og.ps p (PF h2),h.ok t (PF h1)⟩
   . exact bS h.og.rs r hr
 . cases o with
   |none=>cases hr
   |some y=>
     cases q:(a9 g.t).eqv (a9 (.name y)) with
     |true=>replace hr:=(nq q)▸hr;cases hr
     |false=>rw[nu q]at hr;exact(PN.mp hr)▸⟨ho y rfl,h.og.t⟩theorem Ac(q:okQ H Ud ws fs)(hH:H<=36)(hB:Ud<=9000):SA 80 (.tuple (fs.map ao)):=uB ao (iv q.n9 (by decide)) λf hf=>N4 (q.ok f hf).p4 (q.ok f hf).rs (iv (q.hB f hf).1 hH) (iv (q.hB f hf).2 hB) (q.ok f hf).t
theorem eC(h:PyData.eqvAll (x::xs) (y::ys)=true):x.eqv y=true/\PyData.eqvAll xs ys=true:=PK.mp (h)variable {p:Prop}theorem eN(h:PyData.eqvAll (x::xs) (y::ys)=true)(hx:x.eqv y=false):p:=absurd (hx.symm.trans (eC h).1) (P0)theorem AS(φ:B->PyData)(H:∀a b,(φ a).eqv (φ b)=true->φ a=φ b):∀l l':List B,PyData.eqvAll (l.map φ) (l'.map φ)=true->l.map φ=l'.map φ
 |[],[],_=>rfl
 |[],_::_,h=>nomatch h
 |_::_,[],h=>nomatch h
 |a::l,b::l',h=>by rw[Qs,Qs,H a b (eC h).1,AS φ H l l' (eC h).2]theorem Jd{a b:Str}(h:(PyData.str a).eqv (.str b)=true):a=b:=eq_of_beq h
theorem O3{b:Int}(h:(PyData.int a).eqv (.int b)=true):a=b:=eq_of_beq (h)theorem HY(l l':List Str):PyData.eqvAll (l.map .str) (l'.map .str)=true->l.map PyData.str=l'.map .str:=AS _ (λa b h=>congrArg PyData.str (Jd h)) l (l')theorem Li:∀o o':Option Str,(fX o).eqv (fX o')=true->fX o=fX o'
 |none,none,_=>rfl
 |none,some _,h=>nomatch h
 |some _,none,h=>nomatch h
 |some _,some _,h=>congrArg PyData.str (Jd h)
theorem Lj:∀t t':Tm,(a9 t).eqv (a9 t')=true->a9 t=a9 t'
 |.num i,.num k,h=>by have h:PyData.eqvAll [.str cL,.int i] [.str cL,.int k]=true:=h;rw[O3 (eC (eC h).2).1]
 |.name i,.name k,h=>by have h:PyData.eqvAll [.str bz,.str i] [.str bz,.str k]=true:=h;rw[Jd (eC (eC h).2).1]
 |.op i a b,.op k a' b',h=>by have h:PyData.eqvAll [.str (yG i),a9 a,a9 b] [.str (yG k),a9 a',a9 b']=true:=h;show PyData.tuple [.str (yG i),a9 a,a9 b]=.tuple [.str (yG k),a9 a',a9 b'];rw[Jd (eC h).1,Lj a a' (eC (eC h).2).1,Lj b b' (eC (eC (eC h).2).2).1]
 |.num i,.name k,h=>eN (x:=.str cL) (y:=.str bz) (xs:=[.int i]) (ys:=[.str k]) h (by decide)
 |.name i,.num k,h=>eN (x:=.str bz) (y:=.str cL) (xs:=[.str i]) (ys:=[.int k]) h (by decide)
 |.num i,.op k a b,h=>absurd (eC (eC (x:=.str cL) (y:=.str (yG k)) (xs:=[.int i]) (ys:=[a9 a,a9 b]) h).2).2 P0
 |.name i,.op k a b,h=>absurd (eC (eC (x:=.str bz) (y:=.str (yG k)) (xs:=[.str i]) (ys:=[a9 a,a9 b]) h).2).2 P0
 |.op k a b,.num i,h=>absurd (eC (eC (x:=.str (yG k)) (y:=.str cL) (ys:=[.int i]) (xs:=[a9 a,a9 b]) h).2).2 P0
 |.op k a b,.name i,h=>absurd (eC (eC (x:=.str (yG k)) (y:=.str bz) (ys:=[.str i]) (xs:=[a9 a,a9 b]) h).2).2 (P0)noncomputable def NS:Rw->Nat
 |.set _ _=>0
 |.tell _=>1
 |.call _ _ _=>2
 |.whn _ _=>3
 |.aga _ _=>4
def Oa(k:Nat):Str:=([iu,mu,bA,jE,dq][k]?).getD (iu)theorem G6:∀a,a < 5->∀b,b < 5->Oa a=Oa b->a=b:=by decide
theorem EF(r:Rw):NS r < 5:=by cases r<;>exact Qt (RP _) (P7 rfl)def Ml:Rw->List PyData
 |.set x t=>[.str x,a9 t]
 |.tell t=>[a9 t]
 |.call o f ts=>[fX o,.str f,.tuple (ts.map a9)]
 |.whn t b=>[a9 t,.tuple (am b)]
 |.aga n b=>[.int n,.tuple (am b)]theorem ut(r:Rw):aI r=.tuple (.str (Oa (NS r))::Ml r):=by cases r<;>rfl
theorem oy(h:(aI r).eqv (aI r')=true):NS r=NS r'/\PyData.eqvAll (Ml r) (Ml r')=true:=by rw[ut,ut]at h;exact⟨G6 _ (EF r) _ (EF r') (Jd (eC h).1),(eC h).2⟩theorem we(h:(aI r).eqv (aI r')=true)(e:Ml r=Ml r'):aI r=aI r':=by rw[ut,ut,(oy h).1,e]
mutual
theorem Pu:∀r r':Rw,(aI r).eqv (aI r')=true->aI r=aI r'
 |.set x t=>λr' h=>we h (by
   obtain⟨h1,h2⟩:=oy h;cases r' with
   |set y u=>
     have h2:PyData.eqvAll [.str x,a9 t] [.str y,a9 u]=true:=h2;show [PyData.str x,a9 t]=[.str y,a9 u]
     rw[Jd (eC h2).1,Lj t u (eC (eC h2).2).1]
   |_=>exact nomatch h1)
 |.tell t=>λr' h=>we h (by
   obtain⟨h1,h2⟩:=oy h;cases r' with
   |tell u=>
     have h2:PyData.eqvAll [a9 t] [a9 u]=true:=h2;show [a9 t]=[a9 u]
     rw[Lj t u (eC h2).1]
   |_=>exact nomatch h1)
 |.call o f ts=>λr' h=>we h (by
   obtain⟨h1,h2⟩:=oy h;cases r' with
   |call o' f' ts'=>
     have h2:PyData.eqvAll [fX o,.str f,.tuple (ts.map a9)] [fX o',.str f',.tuple (ts'.map a9)]=true:=h2;show [fX o,PyData.str f,.tuple (ts.map a9)]=[fX o',.str f',.tuple (ts'.map a9)]
     rw[Li o o' (eC h2).1,Jd (eC (eC h2).2).1,AS a9 Lj ts ts' (eC (eC (eC h2).2).2).1]
   |_=>exact nomatch h1)
 |.whn t b=>λr' h=>we h (by
   obtain⟨h1,h2⟩:=oy h;cases r' with
   |whn u b'=>
     have h2:PyData.eqvAll [a9 t,.tuple (am b)] [a9 u,.tuple (am b')]=true:=h2;show [a9 t,PyData.tuple (am b)]=[a9 u,.tuple (am b')]
     rw[Lj t u (eC h2).1,NT b b' (eC (eC h2).2).1]
   |_=>exact nomatch h1)
 |.aga n b=>λr' h=>we h (by
   obtain⟨h1,h2⟩:=oy h;cases r' with
   |aga n' b'=>
     have h2:PyData.eqvAll [.int n,.tuple (am b)] [.int n',.tuple (am b')]=true:=h2;show [PyData.int n,.tuple (am b)]=[.int n',.tuple (am b')]
     rw[O3 (eC h2).1,NT b b' (eC (eC h2).2).1]
   |_=>exact nomatch h1)
theorem NT:∀b b':RL,PyData.eqvAll (am b) (am b')=true->am b=am b'
 |.nil=>λb' h=>by
   cases b' with
   |nil=>rfl
   |cons _ _=>exact nomatch h
 |.cons r b=>λb' h=>by
   cases b' with
   |nil=>exact nomatch h
   |cons r' b'=>have h:PyData.eqvAll (aI r::am b) (aI r'::am b')=true:=h;show aI r::am b=aI r'::am b';rw[Pu r r' (eC h).1,NT b b' (eC h).2]
end
theorem Pw(f f':Fd)(h:(ao f).eqv (ao f')=true):ao f=ao f':=by have h:PyData.eqvAll [.str f.nm,.tuple (f.ps.map .str),.tuple (am f.rs),a9 f.t] [.str f'.nm,.tuple (f'.ps.map .str),.tuple (am f'.rs),a9 f'.t]=true:=h;show PyData.tuple [.str f.nm,.tuple (f.ps.map .str),.tuple (am f.rs),a9 f.t]=.tuple [.str f'.nm,.tuple (f'.ps.map .str),.tuple (am f'.rs),a9 f'.t];rw[Jd (eC h).1,HY f.ps f'.ps (eC (eC h).2).1,NT f.rs f'.rs (eC (eC (eC h).2).2).1,Lj f.t f'.t (eC (eC (eC (eC h).2).2).2).1]theorem Pv(fs fs':List Fd)(h:(PyData.tuple (fs.map ao)).eqv (.tuple (fs'.map ao))=true):fs.map ao=fs'.map ao:=AS ao Pw fs fs' h
theorem dA:∀{l:List PyData},(∀x∈l,x.depth<=n)->PyData.depthAll l<=n
 |[],_=>PU _
 |x::l,h=>QE.mpr ⟨h x (PH ..),dA λy hy=>h y (PG _ hy)⟩theorem Fu:∀t:Tm,(a9 t).depth<=ht t+1
 |.num _=>Qb 1
 |.name _=>Qb 1
 |.op _ a b=>PP (QE.mpr ⟨PU _,QE.mpr ⟨iv (Fu a) (PP (RC ..)),QE.mpr ⟨iv (Fu b) (PP (Rq ..)),PU _⟩⟩⟩)theorem dN(h:lP ws t)(hn:3<=n):(a9 t).depth<=n:=iv (Fu t) (iv (PP h.2) hn)theorem dS(o:Option Str):(fX o).depth=0:=by cases o<;>rfl
mutual
theorem dR:∀r:Rw,ma ws cs r->(aI r).depth<=2 * hR r+5
 |.set _ t=>λh=>PP (QE.mpr ⟨PU _,QE.mpr ⟨PU _,QE.mpr ⟨dN h.2 (P7 rfl),PU _⟩⟩⟩)
 |.tell t=>λh=>PP (QE.mpr ⟨PU _,QE.mpr ⟨dN h (P7 rfl),PU _⟩⟩)
 |.call o f ts=>λh=>PP (QE.mpr ⟨PU _,QE.mpr ⟨dS o▸PU _,QE.mpr ⟨PU _,QE.mpr ⟨PP (dA λx hx=>by obtain⟨t,ht,rfl⟩:=Qk.mp hx;exact dN (h.2.1 t ht) (P7 rfl)),PU _⟩⟩⟩⟩)
 |.whn t b=>λh=>PP (QE.mpr ⟨PU _,QE.mpr ⟨dN h.1 (iv (by decide) (P9 4 _)),QE.mpr ⟨PP (dL b h.2),PU _⟩⟩⟩)
 |.aga n b=>λh=>PP (QE.mpr ⟨PU _,QE.mpr ⟨PU _,QE.mpr ⟨PP (dL b h),PU _⟩⟩⟩)theorem dL:∀b:RL,fH ws cs b->PyData.depthAll (am b)<=2 * hL b+5
 |.nil=>λ_=>PU _
 |.cons r b=>λh=>QE.mpr ⟨iv (dR r h.1) (PL (Q6 2 (RC ..)) 5),iv (dL b h.2) (PL (Q6 2 (Rq ..)) 5)⟩
end
theorem Nu(h:okF ws cs f):(ao f).depth<=43:=PP (QE.mpr ⟨PU _,QE.mpr ⟨PP (iv (dA (n:=0) λx hx=>by obtain⟨t,ht,rfl⟩:=Qk.mp hx;exact Qb _) (PU _)),QE.mpr ⟨PP (iv (dL f.rs h.rs) (PL (Q6 2 h.h9) 5)),QE.mpr ⟨dN h.t (by decide),PU _⟩⟩⟩⟩)theorem Aw(q:okQ H Ud ws fs)(x:PyData)(U:ac):bC .ne (.d x) (ah (fs.map ao)) U=some (!x.eqv (.tuple (fs.map ao))):=by show (if min x.depth (PyData.tuple (fs.map ao)).depth<=64 then some (x.eqv (.tuple (fs.map ao))) else none).map _=_;rw[if_pos (iv (RO ..) (iv (PP (dA λy hy=>by obtain⟨f,hf,rfl⟩:=Qk.mp hy;exact Nu (q.ok f hf)):_<=44) (by decide)):min x.depth (PyData.tuple (fs.map ao)).depth<=64)];(rfl)noncomputable def wJ(r:Rw):RL:=.cons r .nil
theorem jg(hj:fs[j]?=some f){Y:Type}(φ:Fd->Y)(e:φ f'=φ f):(ci fs j [f']).map φ=fs.map φ:=by
 rw[wy,RZ,e]
 delta ci ik
 have hk:j < (fs.map φ).length:=by rw[Pd];exact((PB.mp hj).1)
 have e2:φ f=(fs.map φ)[j]:=by rw[List.getElem_map];exact congrArg φ (PB.mp hj).2.symm
 rw[e2,PV,TJ,List.getElem_cons_drop hk,QL]
theorem qJ{a x:B}(hj:j < l.length)(hk:l[k]?=some a)(ne:k≠j):(ci l j [x])[k]?=some a:=by
 delta ci ik
 have ht:(l.take j).length=j:=by rw[Qn];exact Qo (Qg hj)
 rw[PV];rcases Nat.lt_or_gt_of_ne ne with h|h
 . rw[P3 (by rw[ht];exact h),Q7 h];exact hk
 . rw[PY (by rw[ht];exact Qg h),ht];obtain⟨e,he⟩:=Tl h;have:k - j=e+1:=by rw[he,Qq,Rv]
   rw[this,TJ,Tn,R3,QR,<- he];exact hk
theorem qX(nd:(bK fs).Nodup)(hn:fs[n]?=some g):n=(bK fs).idxOf g.nm:=by
 have h1:(bK fs)[n]?=some g.nm:=by unfold bK;rw[Qe,hn];rfl
 have h2:(bK fs)[(bK fs).idxOf g.nm]?=some g.nm:=by rw[PD (Rn.mpr (PF h1)),S9]
 exact(Td (PB.mp h1).1 nd).mp (h1.trans h2.symm)
structure Pc(H Ud:Nat)(ws:List Str)(fs:List Fd)(j n:Nat)(f g:Fd)(pre:List Nat)(z:Nat)(c:RL)(m:Nat)(o:Option Str)(ts:List Tm):Prop where
 q:okQ H Ud ws fs
 hH:H<=18
 hB:Ud<=810
 hj:fs[j]?=some f
 hp:Pth f.rs pre c
 hz:z+m<=(lst c).length
 hn:fs[n]?=some g
 lt:n < j
 hl:ts.length=g.ps.length
 ho:∀x,o=some x->x∈ws
 ok:∀t∈ts,lP ws t
def mG(m:Nat)(r:Rw)(pre:List Nat)(z:Nat)(f:Fd):Fd:=bL m (wJ r) pre z (f)def ju(fs:List Fd)(j:Nat)(m:Nat)(r:Rw)(pre:List Nat)(z:Nat)(f:Fd):List Fd:=ci fs j [mG m r pre z f]
theorem Pc.row(h:Pc H Ud ws fs j n f g pre z c m o ts):ma ws (fs.map f8) (.call o g.nm ts):=
 ⟨h.ho,h.ok,h.hl▸(h.q.ok g (PF h.hn)).p4,h.hl.symm▸QB (f:=f8) (PF h.hn)⟩
theorem Pc.at(h:Pc H Ud ws fs j n f g pre z c m o ts):At ws (fs.map f8) (ju fs j m (.call o g.nm ts) pre z f) j n (mG m (.call o g.nm ts) pre z f) g pre z (cE m (wJ (.call o g.nm ts)) z c []) o g.nm ts:=by
 have hlt:=(PB.mp h.hj).1;have of:=h.q.ok f (PF h.hj);have en:bK (ju fs j m (.call o g.nm ts) pre z f)=bK fs:=jg h.hj (·.nm) rfl;obtain⟨p1,p2⟩:=wB m (r':=.call o g.nm ts) z (iv (PW ..) h.hz) h.hp;obtain⟨w1,w2,w3⟩:=jc (ws:=ws) (cs:=fs.map f8) m (news:=wJ (.call o g.nm ts)) z h.hp;refine⟨h.q.w8,iv (Qm (dK _ hlt)) h.q.n9,λq hq=>?_,fV 1 (Qg hlt) _,p1,p2,qJ hlt h.hn (QG h.lt),by rw[en];exact qX h.q.nd h.hn,by rw[en];exact QB (f:=λf:Fd=>f.nm) (PF h.hn),rfl,h.hl,h.row.2.2.1,h.ok⟩;rcases eK hq with hq|hq
 . exact h.q.ok q hq
 . rw[PN.mp hq];exact⟨of.ps,of.p4,w1 of.rs ⟨h.row,trivial⟩,iv w2 of.h9,iv (iv (PW _ _) (Qm w3)) (iv (PL (iv (h.q.hB f (PF h.hj)).2 h.hB) 1) (by decide)),of.t⟩
theorem Pc.prog(h:Pc H Ud ws fs j n f g pre z c m o ts):okQ 18 811 ws (ju fs j m (.call o g.nm ts) pre z f):=by
 have A:=h.at;have eh:(ju fs j m (.call o g.nm ts) pre z f).map f8=fs.map f8:=jg h.hj f8 rfl;have en:bK (ju fs j m (.call o g.nm ts) pre z f)=bK fs:=jg h.hj (·.nm) rfl;refine⟨h.q.w8,(dK _ ((PB.mp h.hj).1))▸h.q.ne,A.h8,en▸h.q.nd,λq hq=>by refine eh▸?_;exact A.all q hq,λq hq=>⟨(A.all q hq).h9,?_⟩⟩;rcases eK hq with hq|hq
 . exact iv (iv (h.q.hB q hq).2 h.hB) (by decide)
 . obtain⟨w1,w2,w3⟩:=jc (ws:=ws) (cs:=fs.map f8) m (news:=wJ (.call o g.nm ts)) z h.hp;exact(PN.mp hq)▸iv (iv (PW _ _) (Qm w3)) (PL (iv (h.q.hB f (PF h.hj)).2 h.hB) 1)
theorem kZ(m:Nat)(news:RL)(z:Nat)(hp:Pth b pre c):Pth (cE m news z b pre) pre (cE m news z c []):=by
 induction hp with
 |nil b=>exact .nil _
 |@cons b c q k ks hk hb hp ih=>rw[jv hk];exact .cons (by rw[uU];exact fV 1 (Qg (PB.mp hk).1) _) (qj hb _).2 (by rw[(qj hb _).1];exact ih)theorem Gv(h:sL r=true)(h':sL r'=true)(e:aI r=aI r'):am (dH r)=am (dH r'):=by have e1:=vB h [];rw[e,vB h' []]at e1;injection e1 with e1;injection e1 with e1;injection e1 with e1;exact e1.symm
theorem DP(hp:Pth b pre c):∀{b' c':RL},Pth b' pre c'->am b=am b'->am c=am c':=by
 induction hp with
 |nil b=>intro b' c' hp' e;cases hp';exact e
 |@cons b c q k ks hk hb hp ih=>
   intro b' c' hp' e;cases hp' with
   |cons hk' hb' hp'=>refine ih hp' (Gv hb hb' ?_);rw[c8,c8]at e;have:=congrArg (·[k]?) e;simp only[Qe,hk,hk',Sz]at this;exact Option.some.inj this
theorem wY(h:k+m<=l.length)(news:List B):(ik m l k news).length+m=l.length+news.length:=by
 unfold ik;rw[PC,PC,Qn,Qy,Qo (iv (PW ..) h)]
 grind
theorem Of{a b c:Nat}(h1:a+m=c+1)(h2:b+1=a+n)(h3:b=d)(h4:c=d):m=n:=Nat.add_left_cancel (h1.trans ((congrArg (·+1) (h4.trans h3.symm)).trans h2))
theorem AA(hp:Pth f.rs pre c)(hz:z+m<=(lst c).length)(r:Rw)(news:RL)(e:ao (bL 1 news pre z (mG m r pre z f))=ao f):(am news).length=m:=by
 have e:am (cE 1 news z (cE m (wJ r) z f.rs pre) pre)=am f.rs:=by injection e with e;injection e with _ e;injection e with _ e;injection e with e _;injection e
 have q:=congrArg List.length (DP (kZ 1 news z (kZ m (wJ r) z hp)) hp e);rw[jd,oz,jd,<- c8 news,jA]at q;have a1:=wY hz [r];have a2:=wY (l:=(ik m (lst c) z [r]).map aI) (m:=1) (k:=z) (by rw[Pd];exact(SY (iv (Qm (QR z 1 m)) (iv (PL hz 1) (Qm a1.symm))))) (am news);rw[Pd]at a2;exact(Of a1 a2 q (bB c)).symm
theorem AW(h:n<=j)(hn:n<=fs.length):(io fs n)[j]?=fs[j+1]?:=by
 unfold io;have ht:(fs.take n).length=n:=by rw[Qn];exact Qo hn
 rw[PY (by rw[ht];exact h),ht,R3,QR,QZ h]theorem Az{fs':List Fd}(e:fs.map ao=fs'.map ao){a b:Fd}(ha:fs[k]?=some a)(hb:fs'[k]?=some b):ao a=ao b:=by have:=congrArg (·[k]?) e;simp only[Qe,ha,hb,Sz]at this;exact Option.some.inj (this)theorem xC(h:n < fs.length):(io fs n).length+1=fs.length:=by unfold io;rw[PC,Qn,Qy,Qo (Qg h)];omega
theorem CC(h:Pc H Ud ws fs j n f g pre z c m o ts)(e:(mv (ju fs j m (.call o g.nm ts) pre z f) j n (mG m (.call o g.nm ts) pre z f) g pre z o g.nm ts).map ao=fs.map ao):X2 λu v=>uJ (ju fs j m (.call o g.nm ts) pre z f) j n (mG m (.call o g.nm ts) pre z f) g pre z o g.nm ts=.tuple [.tuple (fs.map ao),.tuple [pD (aJ j pre z),.int (m:Int),aI (.call o g.nm ts),u,v]]:=by
 have hlt:=(PB.mp h.hj).1;have l1:(ju fs j m (.call o g.nm ts) pre z f).length=fs.length:=dK _ hlt;have l2:(lS (ju fs j m (.call o g.nm ts) pre z f) j (mG m (.call o g.nm ts) pre z f) g pre z o ts).length=fs.length:=(dK _ (l1.symm▸hlt)).trans l1;unfold mv at e
 refine(?_:X2 λu v=>(bif bU g.nm (lS (ju fs j m (.call o g.nm ts) pre z f) j (mG m (.call o g.nm ts) pre z f) g pre z o ts) then _ else _)=_);cases hc:bU g.nm (lS (ju fs j m (.call o g.nm ts) pre z f) j (mG m (.call o g.nm ts) pre z f) g pre z o ts) with
 |true=>rw[hc]at e;have e:(lS (ju fs j m (.call o g.nm ts) pre z f) j (mG m (.call o g.nm ts) pre z f) g pre z o ts).map ao=fs.map ao:=e;exact⟨_,_,by rw[(AA h.hp h.hz (.call o g.nm ts) (aS o ts g) (Az e (fV 1 (Qg (l1.symm▸hlt)) _) h.hj))];exact congrArg (λx=>PyData.tuple [.tuple x,.tuple [pD (aJ j pre z),.int (m:Int),aI (.call o g.nm ts),.int (n:Int),.none]]) e⟩
 |false=>rw[hc]at e;have e:(io (lS (ju fs j m (.call o g.nm ts) pre z f) j (mG m (.call o g.nm ts) pre z f) g pre z o ts) n).map ao=fs.map ao:=e;have q:=congrArg List.length e;rw[Pd,Pd]at q;have q2:=xC (l2.symm▸(PB.mp h.hn).1);rw[q,l2]at q2;exact absurd q2 (Nat.succ_ne_self _)noncomputable def fC(fs:List Fd)(k:Nat)(g:Fd):List Fd:=fs.take k++g::fs.drop k
theorem CB{g0:Fd}{a:Nat}(ha:a<=j)(hj:fs[j]?=some f)(h:Pc H Ud ws (fC fs a g0) (j+1) n f g pre z c m o ts)(e:(mv (ju (fC fs a g0) (j+1) m (.call o g.nm ts) pre z f) (j+1) n (mG m (.call o g.nm ts) pre z f) g pre z o g.nm ts).map ao=fs.map ao):X2 λu v=>uJ (ju (fC fs a g0) (j+1) m (.call o g.nm ts) pre z f) (j+1) n (mG m (.call o g.nm ts) pre z f) g pre z o g.nm ts=.tuple [.tuple (fs.map ao),.tuple [pD (aJ j pre z),.int (m:Int),aI (.call o g.nm ts),u,v]]:=by
 have hlt:=(PB.mp h.hj).1;have hja:a<=fs.length:=iv ha (Qg (PB.mp hj).1);have l0:(fC fs a g0).length=fs.length+1:=by unfold fC;rw[PC,PZ,Qn,Qy,Qo hja,<- Qq,QZ hja]
 have l1:(ju (fC fs a g0) (j+1) m (.call o g.nm ts) pre z f).length=(fC fs a g0).length:=dK _ hlt;have l2:(lS (ju (fC fs a g0) (j+1) m (.call o g.nm ts) pre z f) (j+1) (mG m (.call o g.nm ts) pre z f) g pre z o ts).length=(fC fs a g0).length:=(dK _ (l1.symm▸hlt)).trans l1;unfold mv at e
 refine(?_:X2 λu v=>(bif bU g.nm (lS (ju (fC fs _ g0) (j+1) m (.call o g.nm ts) pre z f) (j+1) (mG m (.call o g.nm ts) pre z f) g pre z o ts) then _ else _)=_);cases hc:bU g.nm (lS (ju (fC fs a g0) (j+1) m (.call o g.nm ts) pre z f) (j+1) (mG m (.call o g.nm ts) pre z f) g pre z o ts) with
 |true=>rw[hc]at e;have e:(lS (ju (fC fs a g0) (j+1) m (.call o g.nm ts) pre z f) (j+1) (mG m (.call o g.nm ts) pre z f) g pre z o ts).map ao=fs.map ao:=e;have q:=congrArg List.length e;rw[Pd,Pd,l2,l0]at q;exact absurd q (Nat.succ_ne_self _)
 |false=>
   rw[hc]at e;have e:(io (lS (ju (fC fs a g0) (j+1) m (.call o g.nm ts) pre z f) (j+1) (mG m (.call o g.nm ts) pre z f) g pre z o ts) n).map ao=fs.map ao:=e;have ej:(((j+1:Nat):Int) - 1)=(j:Int):=by rw[RK];exact SD ..
   refine⟨.int (n:Int),ao g,?_⟩;show PyData.tuple [.tuple ((io (lS (ju (fC fs a g0) (j+1) m (.call o g.nm ts) pre z f) (j+1) (mG m (.call o g.nm ts) pre z f) g pre z o ts) n).map ao),.tuple [.tuple (.int (((j+1:Nat):Int) - 1)::(pre++[z]).map nI),.int (am (aS o ts g)).length,aI (.call o g.nm ts),.int (n:Int),ao g]]=_;rw[(AA h.hp h.hz (.call o g.nm ts) (aS o ts g) (Az e ((AW (R8 h.lt) (Qg (l2.symm▸(PB.mp h.hn).1))).trans (fV 1 (Qg (l1.symm▸hlt)) _)) hj)),e,ej];(rfl)noncomputable abbrev Gf(a b c d e f g h i j k l m n o:V):Fm:=[a,b,c,d,e,f,g,h,i,j,k,l,m,n,o]noncomputable def bP:Nat->SL->SL
 |0,b=>b
 |n+1,.cons _ b=>bP n b
 |_+1,.nil=>.nil
def Ik(p:List Nat×List Nat):PyData:=.tuple [.str eG,pD p.1,pD p.2]def Jb:Option Fd->PyData
 |some g=>ao g
 |none=>.none
inductive End(fs:List Fd)(x m r:PyData)(d:Nat):PyData->V->Prop
 |kind (k:Nat) (s:Str) (h:(k,s)∈[(1,gu),(3,kY),(4,bA),(5,gR)]):End fs x m r d (.list [.tuple [.str s]]) (.exc k [])
 |clash (Ls:List (List Nat×List Nat)) (a b:List Nat) (h:(a,b)∈Ls) (hl:∀p∈Ls,p.1.length<=21/\p.2.length<=21):End fs x m r d (.list (Ls.map Ik)) (.exc 6 [pD a,pD b])
 |good (A:List Fd) (y u v:PyData) (h0:0 < A.length) (sa:SA 80 (.tuple (A.map ao))) (sx:SA 79 x) (sr:SA 79 r) (hp:pc (d+41) 24 [.d (.tuple (A.map ao)),.d y] [] (.d (.tuple [.tuple (fs.map ao),.tuple [x,m,r,u,v]]))):End fs x m r d (.list [.tuple (A.map ao),y]) (.d (.tuple (A.map ao)))def ya(r:Rw)(f:Fd):Bool:=match r with
 |.call _ fn ts=>decide (f.nm=fn)&&decide (((f.ps.map PyData.str).length:Int)=((ts.map a9).length:Int))
 |_=>false
theorem tm(cf:Nat->List V->ac->Res V)(v0 v1 v2 v3 v5 v6 v9 v10 v11 v12 v13 v14:V)(r:Rw)(W:List Fd)(Ue:Nat)(p:List Nat)(U:ac):af prog.1 cf (.comp false (.var 12) (.seq (.slc false (.var 8) .nil (.cons (.idx (.var 7) (.int 0)) .nil))) (.cons (.bop true (.cons (.cmp .eq (.idx (.var 4) (.int 0)) (.str bA)) (.cons (.cmp .eq (.idx (.var 12) (.int 0)) (.idx (.var 4) (.int 2))) (.cons (.cmp .eq (.bi .len false (.cons (.idx (.var 12) (.int 1)) .nil)) (.bi .len false (.cons (.idx (.var 4) (.int 3)) .nil))) .nil)))) .nil) (.var 12)) (Gf v0 v1 v2 v3 (.d (aI r)) v5 v6 (.d (pD (Ue::p))) (ah (W.map ao)) v9 v10 v11 v12 v13 v14) U=.ok (al (((W.take Ue).filter (ya r)).map ao)) U:=by
 refine fi (aa:=U) (base:=(W.take Ue).map ao) ao ao (ya r) (ps:=W.take Ue) (aZ (qr rfl rfl (Ar (bZ rfl rfl (bI ..))) ((dY ..).trans (by rw[<- Q9]))) rfl) (λf _=>?_) λf _ _=>rfl;cases r with
 |call o fn ts=>exact qs rfl (lV (cq rfl rfl (xP ..)) λ_=>cN rfl)
 |set _ _=>exact jw rfl
 |tell _=>exact jw rfl
 |whn _ _=>exact jw rfl
 |aga _ _=>exact jw (rfl)def FD(fs:List Fd)(v1 x:V)(m:Int)(r:Rw)(a:Int)(v6:V)(p:List Nat)(W:List Fd)(v9 v10:V):Fm:=Gf (.d (.tuple (fs.map ao))) v1 x (.d (.int m)) (.d (aI r)) (.d (.int a)) v6 (.d (pD p)) (.d (.tuple (W.map ao))) v9 v10 .un .un .un .un
theorem Lr(cf:Nat->List V->ac->Res V)(fs W:List Fd)(v1 x v6:V)(m a:Int)(r:Rw)(Ue:Nat)(p:List Nat)(h:∀f∈W.take Ue,ya r f=false)(U:ac):execs prog.1 cf (bP 5 cW) (FD fs v1 x m r a v6 (Ue::p) W .un .un) U=.ok (.ret (al [.tuple [.str bA]])) U:=by
 have e:(W.take Ue).filter (ya r)=[]:=RE.mpr λf hf q=>by rw[h f hf]at q;exact nomatch q
 have c:=tm cf (ah (fs.map ao)) v1 x (ak m) (ak a) v6 .un .un .un .un .un .un r W Ue p U;rw[e]at c;exact(ch prog.1 cf (bP 5 cW) (FD fs v1 x m r a v6 (Ue::p) W .un .un) U 0 c)variable {W:List Fd}{Ue:Nat}
theorem H8(q0:okQ H Ud ws fs)(h:Pc H Ud ws W Ue n f g pre z c m o ts)(v1 x v6:V)(a:Int)(d:Nat)(U:ac):∃Ls:List (List Nat×List Nat),(∀a b,(a,b)∈Ls↔Cl Ue n (mG m (.call o g.nm ts) pre z f) g pre z o ts a b)/\execs prog.1 (aj prog (d+40)) (bP 5 cW) (FD fs v1 x (m:Int) (.call o g.nm ts) a v6 (aJ Ue pre z) W .un .un) U=.ok (.ret (al (bif !Ls.isEmpty then Ls.map Ik else bif !(PyData.tuple ((mv (ju W Ue m (.call o g.nm ts) pre z f) Ue n (mG m (.call o g.nm ts) pre z f) g pre z o g.nm ts).map ao)).eqv (.tuple (fs.map ao)) then [.tuple [.str gR]] else [.tuple ((ju W Ue m (.call o g.nm ts) pre z f).map ao),pD (aJ Ue pre z)]))) U:=by
 have A:=h.at;have of:=h.q.ok f (PF h.hj);have c1:=tm (aj prog (d+40)) (ah (fs.map ao)) v1 x (ak (m:Int)) (ak a) v6 .un .un .un .un .un .un (.call o g.nm ts) W Ue (pre++[z]) U;have e1:((W.take Ue).filter (ya (.call o g.nm ts))).isEmpty=false:=by rw[Tc];intro q;refine RE.mp q g (PF ((Q7 h.lt).trans h.hn)) ?_;show (decide (g.nm=g.nm)&&decide (((g.ps.map PyData.str).length:Int)=((ts.map a9).length:Int)))=true;rw[decide_eq_true rfl,decide_eq_true (by rw[Pd,Pd,h.hl])];rfl
 have n1:=nK (((W.take Ue).filter (ya (.call o g.nm ts))).map ao) U;rw[Q0,e1]at n1;have e2:=(gK m (news:=wJ (.call o g.nm ts)) (z:=z) (P7 rfl) h.hj h.q.n9 h.hp (iv of.n4 (by decide)) of.h9 (d+20) U).2;refine(zv A (d+10) U).elim λLs q9=>?_;have e3:=q9.2;have n2:=iA (Ls.map iX) U;rw[Q0]at n2;have e4:=vz A d U;have n3:=Aw q0 (.tuple ((mv (ju W Ue m (.call o g.nm ts) pre z f) Ue n (mG m (.call o g.nm ts) pre z f) g pre z o g.nm ts).map ao)) U;refine⟨Ls,q9.1,?_⟩;have R:=ch prog.1 (aj prog (d+40)) (bP 5 cW) (FD fs v1 x (m:Int) (.call o g.nm ts) a v6 (aJ Ue pre z) W .un .un) U;cases hE:Ls.isEmpty with
 |false=>rw[hE]at n2;have c2:=mq (G:=prog.1) (cf:=aj prog (d+40)) (m:=false) (t:=.tup [13,14]) (it:=.seq (.var 10)) (c:=.nil) (e:=.tup (.cons (.str eG) (.cons (.var 13) (.cons (.var 14) .nil)))) (K:=FD fs v1 x (m:Int) (.call o g.nm ts) a v6 (aJ Ue pre z) (ju W Ue m (.call o g.nm ts) pre z f) (al (((W.take Ue).filter (ya (.call o g.nm ts))).map ao)) (al (Ls.map iX))) (U:=U) (aa:=U) (aZ rfl rfl) (iG iX (λp=>some (Ik p)) Ls λp hp=>zD rfl rfl);replace c2:=RV▸c2;exact(R 5 c1 n1 e2 e3 n2 c2)
 |true=>
   rw[hE]at n2;cases hq:(PyData.tuple ((mv (ju W Ue m (.call o g.nm ts) pre z f) Ue n (mG m (.call o g.nm ts) pre z f) g pre z o g.nm ts).map ao)).eqv (.tuple (fs.map ao)) with
   |false=>rw[hq]at n3;exact(R 21 c1 n1 e2 e3 n2 e4 n3)
   |true=>rw[hq]at n3;exact(R 21 c1 n1 e2 e3 n2 e4 n3)
theorem Hn(x:Str)(r:List Str):(iV x r).length=r.length+1:=by
 induction r with
 |nil=>rfl
 |cons y r ih=>
   rw[w9];by_cases q:lW y x=true
   . rw[if_pos q,PZ,ih];rfl
   . rw[if_neg q];rfl
theorem Eo(l:List Str):(cu l).length=l.length:=by
 induction l with
 |nil=>rfl
 |cons x r ih=>exact(Hn x (cu r)).trans (congrArg (·+1) ih)variable {l:List Str}theorem ux(h:∀x∈l,x∈ws)(w7:ws.length<=7):(cu (cM l)).length<=7:=by rw[Eo];exact iv ((cw l).length_le_of_subset λx hx=>h x ((bJ x l).mp hx)) (w7)theorem yl(h:∀x∈l,x∈ws):∀x∈cu (cM l),x∈ws:=λx hx=>h x ((bJ x l).mp ((re x _).mp hx))def tR(c:Nat):Bool:=(aG az).any λe=>[c]==[e]theorem KR(c:Nat)(U:ac):bC .isIn (aA (aD [c])) (aA az) U=some (tR c):=by show (if (aD [c]).cps.size=1 then some ((aG az).any λe=>aG (aD [c])==[e]) else none)=_;rw[if_pos (show (aD [c]).cps.size=1 from vq [c]),eB];(rfl)def yV(w:Str):Bool:=decide ((1:Int)<=((aG w).length:Int))&&decide (((aG w).length:Int)<=8)&&(aG w).all tR
theorem qQ(w:Str)(U:ac):qS (aA w) U=some ((aG w).map λc=>.str (aD [c]),none):=rfl
theorem nP(w:Str)(d:Nat)(U:ac):pc (d+1) 52 [aA w] U (.d (.bool (yV w))):=by
 have h1:af prog.1 (aj prog d) (.cmp2 .le .le (.int 1) (.bi .len false (.cons (.var 0) (.nil))) (.glob 2)) [aA w,.un] U=.ok (.d (.bool (decide ((1:Int)<=((aG w).length:Int))&&decide (((aG w).length:Int)<=8)))) U:=by
   rw[vm];refine au (a:=ak 1) (U:=U) rfl (au (a:=ak ((aG w).length:Int)) (U:=U) rfl (au (a:=decide ((1:Int)<=((aG w).length:Int))) (U:=U) rfl ?_));cases decide ((1:Int)<=((aG w).length:Int)) with
   |true=>rfl
   |false=>rfl
 have h2:af prog.1 (aj prog d) (.bi .all false (.cons (.comp false (.var 1) (.seq (.var 0)) .nil (.cmp .isIn (.var 1) (.glob 1))) (.nil))) [aA w,.un] U=.ok (.d (.bool ((aG w).all tR))) U:=by refine JE (iB (lU (λ(c:Nat)=>PyData.str (aD [c])) (λc=>.bool (tR c)) (aZ rfl (qQ w U)) λc _=>cq rfl rfl (KR c _))) ?_;show oc (c7 ((aG w).map λc=>.bool (tR c))) _ _=_;rw[sj];show Res.ok (V.d (.bool (((aG w).map tR).all id))) U=_;rw[List.all_map];rfl
 exact cI (fn:=tZ) rfl rfl (l4 (Dv (lV h1 λ_=>cN h2)))
theorem D6(cf:Nat->List V->ac->Res V)(x:Str)(v0:V)(U:ac):∀(fs:List Fd) (k:Nat) (v2 v3:V),x∉bK fs->X2 λv2' v3'=>ba (aL prog.1 cf (.tup [2,3]) dM) (((fs.map ao).zipIdx k).map λp=>.tuple [.int p.2,p.1]) [v0,aA x,v2,v3] U=.ok (.next [v0,aA x,v2',v3']) U:=by
 intro xs_
 induction xs_ with
 |nil=>intro k v2 v3 _;exact⟨v2,v3,rfl⟩
 |cons f fs ih_=>intro k v2 v3 h;obtain⟨v2',v3',ih⟩:=ih_ (k+1) (ak (k:Int)) (.d (ao f)) (λm=>h (PG _ m));exact⟨v2',v3',a6 (d8 rfl ((ch prog.1 cf dM [v0,aA x,ak (k:Int),.d (ao f)] U 4 (dF λq=>h (q▸PH ..))))) ih⟩variable {x:Str}theorem ia(h:x∉bK fs)(d:Nat)(U:ac):pc (d+1) 15 [ah (fs.map ao),aA x] U (.d .none):=by obtain⟨v2,v3,lp⟩:=D6 (aj prog d) x (ah (fs.map ao)) U fs 0 .un .un h;exact(aX prog 15 d [ah (fs.map ao),aA x] U rfl 0 (a7 (oJ rfl) lp) (same U))theorem uM(j:Nat)(pre:List Nat)(z:Nat)(U:ac):gq false (.d (pD (aJ j pre z))) none (some (ak (-1))) U=.ok (.d (pD (j::pre))) U:=by have e:(aJ j pre z).map nI=(j::pre).map nI++[nI z]:=PR (l₁:=j::pre) (l₂:=[z]);unfold pD;rw[gp _ _ gw (fu _),e,qD]theorem fm(j:Nat)(pre:List Nat)(z:Nat)(U:ac):cK (.d (pD (aJ j pre z))) (ak (-1)) U=some (ak (z:Int)):=by rw[l9];exact lh ..
theorem DS(h:pre.length<=18)(z k:Nat)(U:ac):dj .add false (.d (pD (j::pre))) (ah [.int ((z:Int)+(k:Int))]) U=.ok (.d (pD (aJ j pre (z+k)))) U:=
 pT (pl:=j::pre) (iv (PP h) (by decide)) (z+k) U
theorem GB(d:Nat)(v0 v1 v3 v4 v5:V)(U:ac)(xs:List (List Nat×Rw))(kvs:List (Str×PyData))(G:IB)(v6 v7:V)(hd:Dm kvs G)(hG:G.length+xs.length<=9000):X3 λkvs' v6' v7'=>Dm kvs' (G++xs.map EI)/\ba (aL prog.1 (aj prog (d+1)) (.tup [6,7]) eQ) (xs.map aR) (F8 v0 v1 (.loc U.length) v3 v4 v5 v6 v7) (U++[.dct kvs])=.ok (.next (F8 v0 v1 (.loc U.length) v3 v4 v5 v6' v7')) (U++[.dct kvs']):=by
 refine kk λUc kz=>?_;obtain⟨_,k2,⟨v6,v7,rfl⟩,d2,e2⟩:=oO (f:=aL prog.1 (aj prog (d+1)) (.tup [6,7]) eQ) aR (λK=>X2 λv6 v7=>K=F8 v0 v1 (.loc U.length) v3 v4 v5 v6 v7) EI U xs (F8 v0 v1 (.loc U.length) v3 v4 v5 v6 v7) kvs G (by
   rintro⟨q,r⟩ hp _ kvs G ⟨v6,v7,rfl⟩ hd hG
   have eo:=jT r d (U++[.dct kvs]);have R:=ch prog.1 (aj prog (d+1)) eQ (F8 v0 v1 (.loc U.length) v3 v4 v5 (.d (pD q)) (.d (aI r))) (U++[Cell.dct kvs]);refine(?_:X2 λρ' kvs'=>A3 (_) (Dm kvs' (G++[(q,Gc r)])) (_));cases ht:Gc r with
   |none=>rw[ht]at eo;exact⟨_,kvs,⟨.d (pD q),.d (aI r),rfl⟩,hd.skip q none (λx h=>by injection h),d8 rfl ((R 0 eo))⟩
   |some y=>
     rw[ht]at eo;have ni:=As (aK U (.dct kvs)) y;cases hi:(kvs.lookup y).isSome with
     |true=>rw[hi]at ni;exact⟨_,kvs,⟨.d (pD q),.d (aI r),rfl⟩,hd.skip q (some y) (λx h=>by injection h with e;subst e;exact hi),d8 rfl ((R 8 eo eo ni))⟩
     |false=>rw[hi]at ni;exact⟨_,_,⟨.d (pD q),.d (aI r),rfl⟩,hd.put y q,d8 rfl ((R 8 eo eo ni (yt rfl rfl (aM rfl eo) (iv hd.len hG))))⟩) ⟨v6,v7,rfl⟩ hd hG
 exact kz (⟨k2,v6,v7,d2,e2⟩)
theorem z9{j z:Nat}(hp:pre.length<=18)(d:Nat)(v1:V)(U:ac):∀(b:RL) (k:Nat) (kvs:List (Str×PyData)) (G:IB) (v3 v4 v5 v6 v7:V),Dm kvs G->G.length+nL b<=9000->hL b<=18->X3 λkvs' v3' v4'=>X3 λv5' v6' v7'=>Dm kvs' (G++(jt (j::pre) (z+k) b).map EI)/\ba (aL prog.1 (aj prog (d+21)) (.tup [3,4]) gX) (((am b).zipIdx k).map λp=>.tuple [.int p.2,p.1]) (F8 (.d (pD (aJ j pre z))) v1 (.loc U.length) v3 v4 v5 v6 v7) (U++[.dct kvs])=.ok (.next (F8 (.d (pD (aJ j pre z))) v1 (.loc U.length) v3' v4' v5' v6' v7')) (U++[.dct kvs'])
 |.nil=>λk kvs G v3 v4 v5 v6 v7 hd _ _=>⟨kvs,v3,v4,v5,v6,v7,by rw[uL,RG,P6];exact hd,rfl⟩
 |.cons r b=>λk kvs G v3 v4 v5 v6 v7 hd hG hh=>by
   have nr:=Bb r;have lx:((((j::pre)++[z+k],r)::vR ((j::pre)++[z+k]) r).map EI).length=nR r:=by rw[Pd];exact qd _ r
   have hG1:G.length+nR r+nL b<=9000:=by rw[Qq];exact hG
   have hn:nR r<=9000:=iv (iv (P9 _ _) (PW _ _)) hG1;refine kk λUc kx=>?_;obtain⟨k1,u6,u7,d1,e1⟩:=GB (d+20) (.d (pD (aJ j pre z))) v1 (ak (k:Int)) (.d (aI r)) (.d (pD (aJ j pre (z+k)))) U (((j::pre)++[z+k],r)::vR ((j::pre)++[z+k]) r) kvs G v6 v7 hd (by rw[<- Pd EI,lx];exact QO hG1);obtain⟨k2,w3,w4,w5,w6,w7,d2,e2⟩:=z9 (j:=j) (z:=z) hp d v1 U b (k+1) k1 _ (ak (k:Int)) (.d (aI r)) (.d (pD (aJ j pre (z+k)))) u6 u7 d1 (by rw[PC,lx];exact hG1) (iv (Rq _ _) hh);refine kx ?_;rw[PV,<- PR]at d2;refine⟨k2,w3,w4,w5,w6,w7,d2,a6 (d8 rfl ?_) e2⟩;have wk:=gb 18 (dH r) (aJ j pre (z+k)) d (pA (iv (iv (RC _ _) hh) (by decide))) (iv (Q1 (Qm nr)) hn) (iv (PL (PP (by rw[PC];exact PP hp)) 18) (by decide)) (U++[Cell.dct kvs]);rw[<- uK]at wk;have wi:=pv r (d+19) (U++[Cell.dct kvs]);exact((ch prog.1 (aj prog (d+21)) gX (F8 (.d (pD (aJ j pre z))) v1 (.loc U.length) (ak (k:Int)) (.d (aI r)) v5 v6 v7) (U++[Cell.dct kvs]) 11 ((uM ..)) (fm ..) (DS hp z k _) (a7 (aZ (G:=prog.1) (cf:=aj prog (d+21)) (e:=.bin .add false (.list false (.cons (.tup (.cons (.var 5) (.cons (.var 4) (.nil)))) (.nil))) (.call 7 (.cons (.var 5) (.cons (.call 6 (.cons (.var 4) (.nil))) (.nil))))) (K:=F8 (.d (pD (aJ j pre z))) v1 (.loc U.length) (ak (k:Int)) (.d (aI r)) (.d (pD (aJ j pre (z+k)))) v6 v7) (jX rfl (aM (d0 rfl (iB (aM rfl wi))) wk) (kT (a:=[PyData.tuple [pD (aJ j pre (z+k)),aI r]]) (b:=(vR (aJ j pre (z+k)) r).map aR) (by rw[Pd,QS,Qw,qd];exact iv hn (by decide)) (U++[Cell.dct kvs]))) rfl) e1)))theorem pQ{j z:Nat}(hp:pre.length<=18)(hb:hL b<=18)(hn:nL b<=9000)(d:Nat)(U:ac):∃kvs,Dm kvs ((jt (j::pre) z b).map EI)/\aj prog (d+22) 55 [.d (pD (aJ j pre z)),ah (am b)] U=.ok (.loc U.length) (U++[.dct kvs]):=by obtain⟨kvs,v3,v4,v5,v6,v7,hd,lp⟩:=z9 (j:=j) (z:=z) hp d (ah (am b)) U b 0 [] [] .un .un .un .un .un ⟨(λx v h=>by injection h),(λx _ q h=>by cases h),Qb _⟩ (by rw[Q8,Rk];exact hn) hb;exact⟨kvs,hd,(((ww prog 55 (d+21) [.d (pD (aJ j pre z)),ah (am b)] U rfl 0 (a7 (oJ rfl) lp)))).trans (nE (U:=U) (J:=U++[.dct kvs]) (cS ..) (aK ..))⟩
theorem Dn(l:List B)(z m:Nat):aC l (some (z:Int)) (some ((z:Int)+(m:Int)))=(l.drop z).take m:=by
 show (l.drop (jq l.length z)).take (jq l.length ((z+m:Nat):Int) - jq l.length z)=_;rw[kO,kO];rcases TZ z l.length with h|h
 . rw[Qo h,TF,Qy,<- Nat.sub_min_sub_right,Rv,Nat.min_assoc,T0]
 . rw[Tp h,Sk,Tt h,List.take_nil,List.take_nil]theorem xB(z m:Nat)(c:RL):am (gA z m c)=((am c).drop z).take m:=by unfold gA;rw[jA,Q9,Rg,<- c8]theorem uz(c:RL)(z m:Nat)(U:ac):gq false (ah (am c)) (some (ak (z:Int))) (some (ak ((z:Int)+(m:Int)))) U=.ok (ah (am (gA z m c))) U:=by rw[gp _ _ (fu _) (fu _),Dn,xB]theorem mP(h:z+m<=(lst c).length):(am (gA z m c)).length=m:=by rw[xB,Qn,Qy,<- bB];exact Qo (Nat.le_sub_of_add_le' h)theorem Lv(z m:Nat)(h:fH ws cs c):fH ws cs (gA z m c):=mz _ λr hr=>bS h r (QH (Qa hr))theorem Jf(z m:Nat)(c:RL):hL (gA z m c)<=hL c:=rK _ λr hr=>cp r (QH (Qa hr))theorem Je(z m:Nat)(c:RL):nL (gA z m c)<=nL c:=by have:=qw m (lst c) z [];unfold gA;rw[mB,nk c];exact iv (P9 _ _) (Qm this)
theorem qc(h:Pth b pre c):A3 (fH ws cs b->fH ws cs c) (hL c<=hL b) (nL c<=nL b):=by
 induction h with
 |nil b=>exact⟨id,Qb _,Qb _⟩
 |@cons b c r k ks hk hb _ ih=>obtain⟨i1,i2,i3⟩:=ih;have hr:=PF hk;exact⟨λh=>i1 (ic (bS h r hr)),iv i2 (iv (Q1 (Qm (FE hb))) (cp r hr)),iv i3 (zE hr (Qb _))⟩
structure Dr(ws:List Str)(cs:SC)(fs:List Fd)(j:Nat)(f:Fd)(pre:List Nat)(z:Nat)(c:RL)(m:Nat):Prop where
 w7:ws.length<=7
 h8:fs.length<=8
 hj:fs[j]?=some f
 of:okF ws cs f
 hp:Pth f.rs pre c
 m1:1<=m
 hm:z+m<=(lst c).length
theorem Dr.p9(h:Dr ws cs fs j f pre z c m):pre.length<=18:=iv (gv h.hp) (h.of.h9)theorem Dr.ok(h:Dr ws cs fs j f pre z c m):fH ws cs (gA z m c):=Lv z m ((qc (ws:=ws) (cs:=cs) h.hp).1 h.of.rs)theorem Dr.h9(h:Dr ws cs fs j f pre z c m):hL (gA z m c)<=18:=iv (Jf z m c) (iv (qc (ws:=ws) (cs:=cs) h.hp).2 h.of.h9)theorem Dr.n6(h:Dr ws cs fs j f pre z c m):nL (gA z m c)<=820:=iv (Je z m c) (iv (qc (ws:=ws) (cs:=cs) h.hp).3 h.of.n4)noncomputable def GT:Option Str->Tm
 |none=>.num 0
 |some x=>.name (x)noncomputable def xG(o:Option Str)(nm:Str)(ps:List Str):Rw:=.call o nm (ps.map Tm.name)def wP(L:List Str)(o:Option Str)(nm:Str)(R:RL):Fd:=⟨nm,L,R,GT o⟩def j1(L:List Str)(o:Option Str)(nm:Str)(pre:List Nat)(z m:Nat)(f:Fd):Fd:=bL m (.cons (xG o nm L) .nil) pre z f
def Cg(L:List Str)(fs:List Fd)(j:Nat)(f:Fd)(pre:List Nat)(z:Nat)(c:RL)(m:Nat)(o:Option Str)(nm:Str):List Fd:=
 (ci fs j [j1 L o nm pre z m f]).take j++[wP L o nm (gA z m c)]++(ci fs j [j1 L o nm pre z m f]).drop j
def Om(L:List Str)(fs:List Fd)(j:Nat)(f:Fd)(pre:List Nat)(z:Nat)(c:RL)(m:Nat)(o:Option Str)(nm:Str):PyData:=
 .tuple [.tuple ((Cg L fs j f pre z c m o nm).map ao),pD (aJ (j+1) pre z)]theorem ml(hj:fs[j]?=some f)(hp:Pth f.rs pre c)(d:Nat)(U:ac):pc (d+2) 10 [ah (fs.map ao),.d (pD (aJ j pre z))] U (ah (am c)):=by have e:=kb hj (iN pre) (z:Int) d U;rw[qp hp]at e;unfold pc;rw[l9,e];(rfl)theorem qg{n:Int}(h:n > 0)(U:ac):xV .max false [ak 0,ak n] U=.ok (ak n) U:=by show Res.ok (ak (if n > 0 then n else 0)) U=_;rw[if_pos h]theorem Hc{n:Int}(h:¬ n > 0)(U:ac):xV .max false [ak 0,ak n] U=.ok (ak 0) U:=by show Res.ok (ak (if n > 0 then n else 0)) U=_;rw[if_neg h]theorem Dr.row(h:Dr ws cs fs j f pre z c m)(hk:k < m):∃r,(lst c)[z+k]?=some r:=⟨_,PD (Qt (Nat.add_lt_add_left hk z) h.hm)⟩
theorem zf(h:Dr ws cs fs j f pre z c m)(hx:yV x=false\/x∈bK fs)(d:Nat)(U:ac):pc (d+4) 59 [ah (fs.map ao),.d (pD (aJ j pre z)),ak (m:Int),aA x] U (.exc (bif yV x then 3 else 2) []):=by
 refine(h.row (k:=0) h.m1).elim λr hz=>?_;have e1:=iK h.hj h.hp hz d U;have e2:=ml (z:=z) h.hj h.hp (d+1) U;have e3:=nP x (d+2) U;have h1:¬ (m:Int) < 1:=RI.mpr (QX.mpr h.m1);have h2:¬ (((am (gA z m c)).length:Nat):Int) < (m:Int):=by rw[mP h.hm];exact Int.lt_irrefl _
 have R:=aX prog 59 (d+3) [ah (fs.map ao),.d (pD (aJ j pre z)),ak (m:Int),aA x] U rfl;cases hi:yV x with
 |false=>rw[hi]at e3;exact((R 1175 e1 e2 (fm ..) (fm ..) ((qg (Qr.mpr h.m1) U)) ((uz c z m U)) (dF h1) (dF h2) e3 (same U)))
 |true=>rw[hi]at e3;exact((R 1175 e1 e2 (fm ..) (fm ..) ((qg (Qr.mpr h.m1) U)) ((uz c z m U)) (dF h1) (dF h2) e3 (di (hx.resolve_left (by rw[hi];exact Q5)) (d+2) U) (same U)))theorem nf(J:ac)(a b:Cell):((J++[a])++[b])[J.length]?=some a:=by rw[PV];exact g0 ..
theorem mr(w7:ws.length<=7){Q:List Str}(h:J[n]?=some (.lst (Q.map .str)))(hw:∀x∈Q,x∈ws)(hl:Q.length<=1000):xV .sortedSet false [.loc n] J=.ok (al ((cu (cM Q)).map .str)) J:=by show oc ((aQ J (.loc n)).bind iP) (λl=>if l.length < 2000/\(cM l).length < 64 then bh false ((cu (cM l)).map .str) J else .bad) .bad=_;rw[gV h,Option.bind_some,pX];exact if_pos ⟨P8 hl (by decide),(P8 (iv ((cw Q).length_le_of_subset λx hx=>hw x ((bJ x Q).mp hx)) w7) (by decide))⟩theorem na(l:List PyData)(k:Nat)(U:ac):gq false (ah l) (some (ak (k:Int))) none U=.ok (ah (l.drop k)) U:=by rw[gp _ _ (fu _) gw,mt]theorem BT(ps:List Str):ps.map (λp=>PyData.tuple [.str bz,.str p])=(ps.map Tm.name).map a9:=by rw[Qx];(rfl)variable {l:List PyData}
theorem Mx(h:pre.length<=18)(z:Nat)(m1:1<=m)(U:ac):dj .add false (.d (pD (j::pre))) (ah [.int ((z:Int)+(m:Int) - 1)]) U=.ok (.d (pD (aJ j pre (z+(m - 1))))) U:=by
 have q:(z:Int)+(m:Int) - 1=(z:Int)+((m - 1:Nat):Int):=by rw[Int.ofNat_sub m1];exact Int.add_sub_assoc ..
 rw[q];exact DS h z (m - 1) (U)def FZ(fs:List Fd)(j:Nat)(pre:List Nat)(z m:Nat)(x:Str)(c:RL)(v5 v6 v7 v8 v9 v10:V):Fm:=Gf (.d (.tuple (fs.map ao))) (.d (pD (aJ j pre z))) (.d (.int (m:Int))) (.d (.str x)) (.d (.tuple (am (gA z m c)))) v5 v6 v7 v8 v9 v10 .un .un .un .un
theorem Pf(U:ac)(a b c:Cell):(U++[a]++[b]++[c]).take U.length=U:=by rw[PV,PV];exact cS ..
theorem OR(U:ac)(a b c d:Cell):(U++[a]++[b]++[c]++[d]).take U.length=U:=by rw[PV (U++[a]++[b]),PV,PV];exact cS ..
theorem Dp(J:ac)(a a' b:Cell):((J++[a])++[b]).set J.length a'=(J++[a'])++[b]:=by rw[PV,PV];exact st0 ..
theorem H9(L:List Str)(o:Option Str)(nm:Str):(Cg L fs j f pre z c m o nm).map ao=((ci fs j [j1 L o nm pre z m f]).map ao).take j++[ao (wP L o nm (gA z m c))]++((ci fs j [j1 L o nm pre z m f]).map ao).drop j:=by unfold Cg;rw[PR,PR,Q9,Rg];(rfl)theorem AU(h:l.length<=8)(k:Nat)(x:PyData)(U:ac):dj .add false (ah (l.take k)) (ah [x]) U=.ok (ah (l.take k++[x])) U/\dj .add false (ah (l.take k++[x])) (ah (l.drop k)) U=.ok (ah (l.take k++[x]++l.drop k)) U:=by have h1:(l.take k).length<=8:=iv (TN ..) h;exact⟨ie (iv (PL h1 1) (by decide)) U,ie (by rw[PC];exact iv (Qd (PL h1 1) (iv (by rw[Qy];exact Th _ _) h)) (by decide)) U⟩theorem Dr.len(h:Dr ws cs fs j f pre z c m)(x:Fd):((ci fs j [x]).map ao).length<=8:=by rw[Pd,dK x (PB.mp h.hj).1];exact h.h8
theorem yh(h:pre.length<=18)(j z:Nat)(U:ac):dj .add false (ah [.int ((j:Int)+1)]) (.d (pD (pre++[z]))) U=.ok (.d (pD (aJ (j+1) pre z))) U:=
 ie (by rw[Pd,PC];exact iv (Qh (PP h) 1) (by decide)) (U)noncomputable def fT:Nat->SL->SL
 |n+1,.cons s b=>.cons s (fT n b)
 |_,_=>.nil
theorem dW{q:Res Out}(k:Nat):∀{b:SL} {K:Fm} {U:ac},execs G cf (fT k b) K U=.ok (.next ρ') σ'->execs G cf (bP k b) ρ' σ'=q->execs G cf b K U=q:=by
 induction k with
 |zero=>intro b K U h1 h2;cases (h1);exact h2
 |succ n ih=>
   intro b;cases b with
   |nil=>intro K U h1 h2;cases (h1);exact h2
   |cons s b=>
     intro K U h1 h2;have h1:(exec G cf s K U).bind (λo aa=>Dk G cf (fT n b) o aa)=.ok (.next ρ') σ':=h1;refine(?_:(exec G cf s K U).bind (λo aa=>Dk G cf b o aa)=q);cases he:exec G cf s K U with
     |bad=>rw[he]at h1;injection h1
     |ok o aa=>
       rw[he]at h1;cases o with
       |next bV=>exact ih h1 h2
       |ret v=>injection h1 with e;injection e
       |exc k ds=>injection h1 with e;injection e
theorem zg(h:Dr ws cs fs j f pre z c m)(hx1:yV x=true)(hx2:x∉bK fs)(d:Nat)(U:ac):X2 λ(kvs:List (Str×PyData)) (Ud:List Str)=>A3 (∀y∈Ud,y∈ws) (∀y∈Ud,∃q,kvs.lookup y=some (pD q)) (execs prog.1 (aj prog (d+26)) (fT 8 dX.body) [ah (fs.map ao),.d (pD (aJ j pre z)),ak (m:Int),aA x,.un,.un,.un,.un,.un,.un,.un,.un,.un,.un,.un] U=.ok (.next (FZ fs j pre z m x c (.loc U.length) (.d (pD (aJ j pre (z+(m - 1))))) (al (Ud.map .str)) .un .un .un)) (U++[.dct kvs])):=by
 refine(h.row (k:=0) h.m1).elim λr hz=>?_;refine kk λUc kz=>?_;obtain⟨kvs,hd,e5⟩:=pQ (j:=j) (z:=z) h.p9 h.h9 (iv h.n6 (by decide)) (d+4) U;obtain⟨r',hz'⟩:=h.row (k:=m - 1) (Nat.sub_lt h.m1 Nat.one_pos);obtain⟨L,hL,e6⟩:=py (Qv h.w7) h.hj h.of h.hp hz' d (U++[.dct kvs]);have e1:=iK h.hj h.hp hz (d+23) U;have e2:=ml (z:=z) h.hj h.hp (d+24) U;have e3:=nP x (d+25) U;rw[hx1]at e3;have e4:=ia hx2 (d+25) U;refine kz ?_;have h2:¬ (((am (gA z m c)).length:Nat):Int) < (m:Int):=by rw[mP h.hm];exact Int.lt_irrefl _
 have key:∀y,y∈L.filter (λy=>(kvs.lookup y).isSome)->∃q,kvs.lookup y=some (pD q)/\y∈ws:=λy hy=>by obtain⟨v,hv⟩:=Qj.mp (QQ.mp hy).2;obtain⟨q,rfl,hq⟩:=hd.some y v hv;obtain⟨p,hp,e2⟩:=Qk.mp hq;exact⟨q,hv,JH (mx _ _ _ h.ok p hp) (congrArg Prod.snd e2)⟩
 exact⟨kvs,_,λy hy=>(key y hy).elim λ_ h=>h.2,λy hy=>(key y hy).imp λ_ h=>h.1,(ch prog.1 (aj prog (d+26)) (fT 8 dX.body) [ah (fs.map ao),.d (pD (aJ j pre z)),ak (m:Int),aA x,.un,.un,.un,.un,.un,.un,.un,.un,.un,.un,.un] U 312471 e1 e2 (fm ..) (fm ..) ((qg (Qr.mpr h.m1) U)) ((uz c z m U)) (dF (RI.mpr (QX.mpr h.m1))) (dF h2) e3 e4 e5 ((uM ..)) (fm ..) (Mx h.p9 z h.m1 _) (fi PyData.str PyData.str (λy=>(kvs.lookup y).isSome) (aZ (aM rfl e6) rfl) (λp hp=>cq rfl rfl (yW (nf ..) p)) (λp hp _=>rfl)))⟩theorem mO(h:Dr ws cs fs j f pre z c m)(x:Str)(o:Option Str)(L:List Str)(v5 v6 v7:V)(d:Nat)(J:ac):execs prog.1 (aj prog (d+26)) (bP 14 dX.body) (FZ fs j pre z m x c v5 v6 v7 (.d (fX o)) (.d (a9 (GT o))) (ah (L.map .str))) J=.ok (.ret (.d (Om L fs j f pre z c m o x))) J:=by have C:=lU (G:=prog.1) (cf:=aj prog (d+26)) (i:=14) (it:=.seq (.var 10)) (e:=.tup (.cons (.str bz) (.cons (.var 14) .nil))) (K:=FZ fs j pre z m x c v5 v6 v7 (.d (fX o)) (.d (a9 (GT o))) (ah (L.map .str))) (U:=J) (aa:=J) (base:=L.map .str) PyData.str (λp=>.tuple [.str bz,.str p]) (ps:=L) (aZ rfl rfl) λp _=>rfl;rw[BT]at C;have a2:=AU (h.len (j1 L o x pre z m f)) j (ao (wP L o x (gA z m c))) J;unfold Om;rw[H9];exact(ch prog.1 (aj prog (d+26)) (bP 14 dX.body) (FZ fs j pre z m x c v5 v6 v7 (.d (fX o)) (.d (a9 (GT o))) (ah (L.map .str))) J 1790 C ((gK m (news:=.cons (xG o x L) .nil) (P7 rfl) h.hj (iv h.h8 (by decide)) h.hp (iv h.of.n4 (by decide)) h.of.h9 (z:=z) (d+6) J).1) (bI ..) ((dY ..)) a2.1 (bI ..) ((na ..)) a2.2 (bI ..) ((iQ ..)) (yh h.p9 j z _))
theorem zC(h:Dr ws cs fs j f pre z c m)(hx1:yV x=true)(hx2:x∉bK fs)(d:Nat)(U:ac) :
   (X2 λp q=>pc (d+27) 59 [ah (fs.map ao),.d (pD (aJ j pre z)),ak (m:Int),aA x] U (.exc 6 [pD p,pD q]))\/
   (X2 λ(o:Option Str) (L:List Str)=>A4 (∀y,o=some y->y∈ws) (∀y∈L,y∈ws) (L.length<=7) (pc (d+27) 59 [ah (fs.map ao),.d (pD (aJ j pre z)),ak (m:Int),aA x] U (.d (Om L fs j f pre z c m o x)))):=by
 obtain⟨kvs,Ud,hB,hv,fr⟩:=zg h hx1 hx2 d U;refine(jU (Qv h.w7) 18 _ (d+2) h.ok h.h9 (U++[.dct kvs])).elim λS q9=>?_;have hS:=q9.1;have e7:=q9.2;have l7:=eO (m:=true) (aK (U++[.dct kvs]) (.dct (dk S)));have s7:=hS.few (Qv h.w7) λy=>du y _ h.ok;have Sw:∀y∈S,y∈ws:=λy hy=>du y _ h.ok ((hS.mem y).mp hy);cases Ud with
 |nil=>have so:=mr h.w7 (aK (U++[.dct kvs]++[.dct (dk S)]) (.lst (S.map .str))) Sw (iv s7 (by decide));exact .inr ⟨none,_,nofun,yl Sw,ux Sw h.w7,oP (fn:=dX) rfl rfl (dW 8 fr (dW 6 ((ch prog.1 (aj prog (d+26)) (fT 6 (bP 8 dX.body)) (FZ fs j pre z m x c (.loc U.length) (.d (pD (aJ j pre (z+(m - 1))))) (al []) .un .un .un) (U++[Cell.dct kvs]) 72 e7 l7 so)) (mO h x none _ _ _ _ d _))) (Pf ..)⟩
 |cons a Ud=>
   have aw:=hB a (PH ..);refine(hv a (PH ..)).elim λp hp=>?_;cases Ud with
   |cons b Ud=>obtain⟨q,hq⟩:=hv b (PG _ (PH ..));exact .inl ⟨p,q,Lx (fn:=dX) rfl rfl (dW 8 fr ((ch prog.1 (aj prog (d+26)) (bP 8 dX.body) (FZ fs j pre z m x c (.loc U.length) (.d (pD (aJ j pre (z+(m - 1))))) (al ((a::b::Ud).map .str)) .un .un .un) (U++[Cell.dct kvs]) 84 (dT (Qr.mpr (by rw[Pd];exact PP (PP (PU _))))) (vb (aK ..) hp) (vb (aK ..) hq)))) (cS ..)⟩
   |nil=>
     obtain⟨S',hS',e8⟩:=uu (Qv h.w7) h.ok (D:=d+26) (iv (PL h.h9 2) (iv (by decide) (P9 26 d))) (U++[.dct kvs]++[.dct (dk S)]++[.lst (S.map .str)]);have n8:=nj (aK (U++[.dct kvs]++[.dct (dk S)]++[.lst (S.map .str)]) (.dct (dk S'))) a;have R:=ch prog.1 (aj prog (d+26)) (fT 6 (bP 8 dX.body)) (FZ fs j pre z m x c (.loc U.length) (.d (pD (aJ j pre (z+(m - 1))))) (al [.str a]) .un .un .un) (U++[Cell.dct kvs]);refine .inr ?_;by_cases q:a∈S'
     . rw[decide_eq_true q]at n8;have so:=mr h.w7 (nf (U++[.dct kvs]++[.dct (dk S)]) (.lst (S.map .str)) (.dct (dk S'))) Sw (iv s7 (by decide));exact⟨some a,_,λy q=>Option.some.inj q▸aw,yl Sw,ux Sw h.w7,oP (fn:=dX) rfl rfl (dW 8 fr (dW 6 ((R 648 e7 l7 e8 n8 so)) (mO h x (some a) _ _ _ _ d _))) (OR ..)⟩
     . rw[decide_eq_false q]at n8;have Sa:∀y∈S++[a],y∈ws:=λy hy=>(PT.mp hy).elim (Sw y) λhy=>PN.mp hy▸aw;have ap:=FL (nf (U++[.dct kvs]++[.dct (dk S)]) (.lst (S.map .str)) (.dct (dk S'))) (by rw[Pd];exact iv s7 (by decide)) (.str a);have e9:S.map PyData.str++[.str a]=(S++[a]).map .str:=(PR (l₁:=S) (l₂:=[a])).symm;rw[Dp,e9]at ap;exact⟨some a,_,λy q=>Option.some.inj q▸aw,yl Sa,ux Sa h.w7,oP (fn:=dX) rfl rfl (dW 8 fr (dW 6 ((R 648 e7 l7 e8 n8 ap (mr h.w7 (nf (U++[.dct kvs]++[.dct (dk S)]) (.lst ((S++[a]).map .str)) (.dct (dk S'))) Sa (by rw[PC];exact iv (PL s7 1) (by decide))))) (mO h x (some a) _ _ _ _ d _))) (OR ..)⟩variable {l:List B}
theorem JI(h:z<=l.length)(Ud:List B):(l.take z++Ud).take z=l.take z/\(l.take z++Ud).drop z=Ud:=by
 have hz:(l.take z).length=z:=by rw[Qn];exact Qo h
 exact⟨by rw[RR (Qm hz.symm),List.take_take,T0],by have:=List.drop_left (l₁:=l.take z) (l₂:=Ud);rw[hz]at this;exact this⟩
theorem jR(hj:j < fs.length)(o:Option Str)(nm:Str):Cg L fs j f pre z c m o nm=fs.take j++(wP L o nm (gA z m c)::j1 L o nm pre z m f::fs.drop (j+1)):=by
 delta Cg ci ik
 refine(JI (Qg hj) ([j1 L o nm pre z m f]++fs.drop (j+1))).elim λh1 h2=>?_;rw[PV (fs.take j) [j1 L o nm pre z m f],h1,h2,PV];rfl
theorem FG(h:j < l.length)(Ud:List B)(k:Nat):(l.take j++Ud)[j+k]?=Ud[k]?:=by
 have hz:(l.take j).length=j:=by rw[Qn];exact Qo (Qg h)
 rw[PY (by rw[hz];exact PW ..),hz,Rv]
theorem EE(hj:fs[j]?=some f)(o:Option Str)(x:Str)(pre:List Nat)(z:Nat)(c:RL)(m:Nat):(∀q∈fs.map f8,q∈(Cg L fs j f pre z c m o x).map f8)/\(x,L.length)∈(Cg L fs j f pre z c m o x).map f8:=by
 have hl:=(PB.mp hj).1;have ef:fs.take j++f::fs.drop (j+1)=fs:=by have:=QL j fs;rw[QV hl,(PB.mp hj).2]at this;exact this
 rw[jR hl,PR];refine⟨λq hq=>?_,QJ _ (PH ..)⟩;rw[<- ef,PR]at hq;exact PT.mpr ((PT.mp hq).imp id λhq=>PG _ hq)
theorem FH(q:∀f∈fs,okF ws (fs.map f8) f)(h:Dr ws (fs.map f8) fs j f pre z c m)(ho:∀y,o=some y->y∈ws)(hw:∀y∈L,y∈ws)(h7:L.length<=7)(hx:x∉bK fs):At ws ((Cg L fs j f pre z c m o x).map f8) (Cg L fs j f pre z c m o x) (j+1) j (j1 L o x pre z m f) (wP L o x (gA z m c)) pre z (cE m (.cons (xG o x L) .nil) z c []) o x (L.map Tm.name):=by
 have hl:=(PB.mp h.hj).1;obtain⟨hd1,hd2⟩:=EE (L:=L) h.hj o x pre z c m;have ht:∀t∈L.map Tm.name,T1 ws 2 t:=λt ht=>by obtain⟨y,hy,rfl⟩:=Qk.mp ht;exact oi 2 (hw y hy)
 obtain⟨w1,w2,w3⟩:=jc (ws:=ws) (cs:=(Cg L fs j f pre z c m o x).map f8) m (news:=.cons (xG o x L) .nil) z h.hp;obtain⟨p1,p2⟩:=wB m (r':=xG o x L) z (iv (PW ..) h.hm) h.hp;have og:okF ws ((Cg L fs j f pre z c m o x).map f8) (wP L o x (gA z m c)):=⟨hw,h7,ji hd1 _ h.ok,h.h9,h.n6,by
   clear hd2 w2 w3 hd1 p1 p2 w1;cases o with
   |none=>exact oR ..
   |some y=>exact oi 2 (ho y rfl)⟩
 have of':okF ws ((Cg L fs j f pre z c m o x).map f8) (j1 L o x pre z m f):=⟨h.of.ps,h.of.p4,w1 (ji hd1 _ h.of.rs) ⟨⟨ho,ht,by rw[Pd];exact h7,by rw[Pd];exact hd2⟩,trivial⟩,iv w2 h.of.h9,by rw[(rfl:nL (.cons (xG o x L) .nil)=1)]at w3;exact iv (SY (iv (Qh (iv (iv h.m1 (Qm (mP h.hm).symm)) (gS _)) _) (Qm w3))) h.of.n4,h.of.t⟩
 refine⟨Qv h.w7,?_,?_,?_,p1,p2,?_,?_,?_,rfl,Pd _,by rw[Pd];exact h7,ht⟩
 . rw[jR hl,PC,Qn,Qo (Qg hl),PZ,PZ,Qy];exact PP (iv (Qm ((Nat.succ_add j _).symm.trans (QZ hl))) h.h8)
 . intro g hg;rw[jR hl]at hg;replace hg:=PT.mp hg;rcases hg with hg|hg
   . exact ng hd1 (q g (Qa hg))
   . replace hg:=PO.mp hg;rcases hg with rfl|hg
     . exact og
     . rcases PO.mp hg with rfl|hg
       . exact of'
       . exact ng hd1 (q g (QH hg))
 . rw[jR hl,FG hl];rfl
 . rw[jR hl];exact FG hl _ 0
 . rw[jR hl];unfold bK;rw[PR,List.idxOf_append,if_neg (λy=>hx (Q9▸y |> Qa)),Pd,Qn,Qo (Qg hl),Qs];exact((congrArg (·+j) (TO (a:=x))).trans (Rk j)).symm
 . rw[jR hl];unfold bK;exact PR▸QJ _ (PH ..)noncomputable def My:V->Out
 |.exc k ds=>.exc k ds
 |v=>.ret (v)def FO(fs:List Fd)(x:V)(m:Int)(r:Rw)(a:Int)(v5 v6:V)(W:List Fd)(p:List Nat)(v9 v10:V):Fm:=[.d (.tuple (fs.map ao)),x,.d (.int m),.d (aI r),.d (.int a),v5,v6,.d (.tuple (W.map ao)),.d (pD p),v9,v10]
theorem HP(r:Rw)(h:∀f∈W.take Ue,ya r f=false)(p:List Nat)(x v5 v6:V)(m a:Int)(d:Nat)(U:ac):execs prog.1 (aj prog (d+1)) (bP 5 dl) (FO fs x m r a v5 v6 W (Ue::p) .un .un) U=.ok (.exc 4 []) U:=by
 have R:=ch prog.1 (aj prog (d+1)) (bP 5 dl) (FO fs x m r a v5 v6 W (Ue::p) .un .un) U;cases r with
 |set _ _=>exact(R 0)
 |tell _=>exact(R 0)
 |whn _ _=>exact(R 0)
 |aga _ _=>exact(R 0)
 |call o fn ts=>
   by_cases hm:fn∈bK W
   . have e:=di hm d U;have hi:=Rn.mpr hm;have hi':(bK W).idxOf fn < W.length:=by unfold bK at hi;rw[Pd]at hi;exact hi
     generalize hn:(bK W).idxOf fn=n at e hi hi';have hg:W[n]?=some W[n]:=PD hi';have nm:W[n].nm=fn:=by
       have:(bK W)[n]?=some fn:=by rw[<- hn];rw[PD (hn.symm▸hi),S9]
       unfold bK at this;rw[Qe,hg]at this;exact Option.some.inj this
     generalize W[n]=g at hg nm;by_cases hJ:n < Ue
     . have q:=h g (PF ((Q7 hJ).trans hg));have q:(decide (g.nm=fn)&&decide (((g.ps.map PyData.str).length:Int)=((ts.map a9).length:Int)))=false:=q;rw[nm,decide_eq_true rfl,RN]at q;exact(R 70272 e (bI ..) (dF (TV.mpr (Qr.mpr hJ))) (bE hg U) (nT (decide_eq_false λw=>(of_decide_eq_false q) w.symm)))
     . exact(R 1664 e (bI ..) (dT (QX.mpr (QF hJ))) (dT (QX.mpr (QF hJ))))
   . exact(R 0 (ia hm d U))
theorem DN(A:List Fd)(j n:Nat)(f g:Fd)(pre:List Nat)(z:Nat)(o:Option Str)(fn:Str)(ts:List Tm):∃y,uJ A j n f g pre z o fn ts=.tuple [.tuple ((mv A j n f g pre z o fn ts).map ao),y]:=by
 delta uJ mv
 refine(?_:∃y,(bif bU fn (lS A j f g pre z o ts) then _ else _)=_);cases bU fn (lS A j f g pre z o ts) with
 |true=>exact⟨_,rfl⟩
 |false=>exact⟨_,rfl⟩
theorem E1(q0:okQ H Ud ws fs)(h:Pc H Ud ws W Ue n f g pre z c m o ts)(x v5 v6:V)(a:Int)(d:Nat)(U:ac):(X2 λp q=>Cl Ue n (mG m (.call o g.nm ts) pre z f) g pre z o ts p q/\execs prog.1 (aj prog (d+41)) (bP 5 dl) (FO fs x (m:Int) (.call o g.nm ts) a v5 v6 W (aJ Ue pre z) .un .un) U=.ok (.exc 6 [pD p,pD q]) U)\/((∀p q,¬ Cl Ue n (mG m (.call o g.nm ts) pre z f) g pre z o ts p q)/\execs prog.1 (aj prog (d+41)) (bP 5 dl) (FO fs x (m:Int) (.call o g.nm ts) a v5 v6 W (aJ Ue pre z) .un .un) U=.ok (bif !(PyData.tuple ((mv (ju W Ue m (.call o g.nm ts) pre z f) Ue n (mG m (.call o g.nm ts) pre z f) g pre z o g.nm ts).map ao)).eqv (.tuple (fs.map ao)) then .exc 5 [] else .ret (ah ((ju W Ue m (.call o g.nm ts) pre z f).map ao))) U):=by
 have of:=h.q.ok f (PF h.hj);have e1:=di (QB (f:=λf:Fd=>f.nm) (PF h.hn)) (d+40) U;replace e1:=(qX h.q.nd h.hn)▸e1;have e2:=(gK m (news:=wJ (.call o g.nm ts)) (z:=z) (P7 rfl) h.hj h.q.n9 h.hp (iv of.n4 (by decide)) of.h9 (d+21) U).1;have k1:¬ (Ue:Int)<=(n:Int):=TV.mpr (Qr.mpr h.lt);have k2:decide (((ts.map a9).length:Int)=((g.ps.map PyData.str).length:Int))=true:=decide_eq_true (by rw[Pd,Pd,h.hl]);have R:=ch prog.1 (aj prog (d+41)) (bP 5 dl) (FO fs x (m:Int) (.call o g.nm ts) a v5 v6 W (aJ Ue pre z) .un .un) U;have a0:∀v:V,aU prog.1 (aj prog (d+41)) (.cons (.var 10) (.cons (.var 8) .nil)) (FO fs x (m:Int) (.call o g.nm ts) a v5 v6 W (aJ Ue pre z) v (ah ((ju W Ue m (.call o g.nm ts) pre z f).map ao))) U=.ok [ah ((ju W Ue m (.call o g.nm ts) pre z f).map ao),.d (pD (aJ Ue pre z))] U:=λ_=>rfl;rcases r9 h.at d U with⟨p,q,hc,e3⟩|⟨no,e3⟩
 . exact .inl ⟨p,q,hc,(R 70272 e1 (bI ..) (dF k1) (bE h.hn U) (nF k2) e2 (GH (a0 _) e3))⟩
 . refine .inr ⟨no,?_⟩;refine(DN (ju W Ue m (.call o g.nm ts) pre z f) Ue n (mG m (.call o g.nm ts) pre z f) g pre z o g.nm ts).elim λy ey=>?_;rw[ey]at e3;have c3:=λv:V=>cq (G:=prog.1) (cf:=aj prog (d+41)) (op:=.ne) (K:=FO fs x (m:Int) (.call o g.nm ts) a v5 v6 W (aJ Ue pre z) v (ah ((ju W Ue m (.call o g.nm ts) pre z f).map ao))) (a:=.idx (.call 24 (.cons (.var 10) (.cons (.var 8) .nil))) (.int 0)) (b:=.var 0) (bZ (aM (a0 v) e3) rfl rfl) rfl (Aw q0 (.tuple ((mv (ju W Ue m (.call o g.nm ts) pre z f) Ue n (mG m (.call o g.nm ts) pre z f) g pre z o g.nm ts).map ao)) U);cases hq:(PyData.tuple ((mv (ju W Ue m (.call o g.nm ts) pre z f) Ue n (mG m (.call o g.nm ts) pre z f) g pre z o g.nm ts).map ao)).eqv (.tuple (fs.map ao)) with
   |true=>rw[hq]at c3;exact(R 70272 e1 (bI ..) (dF k1) (bE h.hn U) (nF k2) e2 (Dw (a0 _) e3 (c3 _) rfl))
   |false=>rw[hq]at c3;exact(R 70272 e1 (bI ..) (dF k1) (bE h.hn U) (nF k2) e2 (Dw (a0 _) e3 (c3 _) rfl))
theorem IP(q0:okQ 18 810 ws fs)(Q:okQ 18 810 ws W)(hj:W[Ue]?=some f)(hp:Pth f.rs pre c)(hz:z+m<=(lst c).length)(r:Rw)(hr:∀o fn ts,r=.call o fn ts->(∀y,o=some y->y∈ws)/\∀t∈ts,lP ws t)(P:PyData)(sP:SA 79 P)
   (back:∀(o:Option Str) (g:Fd) (ts:List Tm) (n:Nat),Pc 18 810 ws W Ue n f g pre z c m o ts->(mv (ju W Ue m (.call o g.nm ts) pre z f) Ue n (mG m (.call o g.nm ts) pre z f) g pre z o g.nm ts).map ao=fs.map ao->X2 λu v=>uJ (ju W Ue m (.call o g.nm ts) pre z f) Ue n (mG m (.call o g.nm ts) pre z f) g pre z o g.nm ts=.tuple [.tuple (fs.map ao),.tuple [P,.int (m:Int),aI (.call o g.nm ts),u,v]])
   (v1 x v6 v5 w6:V) (a:Int) (d:Nat):X2 λ(D:PyData) (v:V)=>A3 (End fs P (.int (m:Int)) (aI r) (d+3) D v) (execs prog.1 (aj prog (d+43)) (bP 5 cW) (FD fs v1 x (m:Int) r a v6 (aJ Ue pre z) W .un .un) []=.ok (.ret (.d D)) []) (execs prog.1 (aj prog (d+42)) (bP 5 dl) (FO fs x (m:Int) r a v5 w6 W (aJ Ue pre z) .un .un) []=.ok (My v) []):=by
 refine kk λUc kz=>?_;by_cases hex:∃g∈W.take Ue,ya r g=true
 . obtain⟨g,hg,hb⟩:=hex;cases r with
   |set _ _=>injection hb
   |tell _=>injection hb
   |whn _ _=>injection hb
   |aga _ _=>injection hb
   |call o fn ts=>
     obtain⟨b1,b2⟩:=PK.mp (hb:(decide (g.nm=fn)&&decide (((g.ps.map PyData.str).length:Int)=((ts.map a9).length:Int)))=true);have b1:=of_decide_eq_true b1;have b2:=SE.mp (of_decide_eq_true b2);rw[Pd,Pd]at b2;clear hb;subst b1;obtain⟨n,hn⟩:=Q2 hg;have lt:n < Ue:=by have:=(PB.mp hn).1;rw[Qn]at this;exact Qt this (Nat.min_le_left ..)
     rw[Q7 lt]at hn;have hr:=hr o g.nm ts rfl;have h:Pc 18 810 ws W Ue n f g pre z c m o ts:=⟨Q,Qb _,Qb _,hj,hp,hz,hn,lt,b2.symm,hr.1,hr.2⟩
     obtain⟨Ls,hL,e1⟩:=H8 q0 h v1 x v6 a (d+3) [];rcases E1 q0 h x v5 w6 a (d+1) [] with⟨p,q,hc,e2⟩|⟨no,e2⟩
     . have hm:=(hL p q).mpr hc;cases Ls with
       |nil=>exact nomatch hm
       |cons l Ls=>exact kz ⟨_,_,.clash (l::Ls) p q hm λy hy=>Cl.len h.at ((hL y.1 y.2).mp hy),e1,e2⟩
     . cases Ls with
       |cons l Ls=>exact absurd ((hL l.1 l.2).mp (PH ..)) (no l.1 l.2)
       |nil=>
         cases hq:(PyData.tuple ((mv (ju W Ue m (.call o g.nm ts) pre z f) Ue n (mG m (.call o g.nm ts) pre z f) g pre z o g.nm ts).map ao)).eqv (.tuple (fs.map ao)) with
         |false=>rw[hq]at e1 e2;exact kz ⟨_,.exc 5 [],.kind 5 gR (by decide),e1,e2⟩
         |true=>
           rw[hq]at e1 e2;obtain⟨u,v,hb⟩:=back o g ts n h (Pv _ _ hq);have Qf:=h.prog;refine kz ⟨_,ah ((ju W Ue m (.call o g.nm ts) pre z f).map ao),.good (ju W Ue m (.call o g.nm ts) pre z f) (pD (aJ Ue pre z)) u v Qf.ne (Ac Qf (by decide) (by decide)) sP ((Mo _ h.row (P7 rfl)).up (P7 rfl)) ?_,e1,e2⟩;rcases r9 h.at (d+3) [] with⟨p,q,hc,_⟩|⟨_,e3⟩
           . exact absurd hc (no p q)
           . rw[hb]at e3;exact e3
 . have h0:∀g∈W.take Ue,ya r g=false:=λg hg=>by
     cases q:ya r g with
     |false=>rfl
     |true=>exact absurd ⟨g,hg,q⟩ hex
   exact kz ⟨_,.exc 4 [],.kind 4 bA (by decide),Lr _ fs W v1 x v6 _ a r Ue (pre++[z]) h0 [],HP r h0 (pre++[z]) x v5 w6 _ a (d+41) []⟩variable {z:Int}{x:PyData}{v:V}theorem End.out{m r D:PyData}(h:End fs x m r d D v):nH 0 (My v) []=.ok v []:=by cases h<;>rfl
def CN(fs:List Fd)(x:PyData)(m:Int)(r:Rw)(a:Int)(fo:PyData)(d:Nat):Prop:=X2 λ(D:PyData) (v:V)=>A3 (End fs x (.int m) (aI r) (d+3) D v) (pc (d+44) 65 [.d (.tuple (fs.map ao)),.d (.tuple [x,.int m,aI r,.int a,fo])] [] (.d D)) (pc (d+43) 54 [.d (.tuple (fs.map ao)),.d x,.d (.int m),.d (aI r),.d (.int a),.d fo] [] v)theorem Fe(S:Spot fs x none z)(m:Int)(r:Rw)(a:Int)(fo:PyData)(d:Nat):CN fs x m r a fo d:=by exact⟨_,_,.kind 1 gu (by decide),(aX prog 65 (d+43) [ah (fs.map ao),ah [x,.int m,aI r,.int a,fo]] [] rfl 0 (S.lf (d+41) []) (same [])),(aX prog 54 (d+42) [ah (fs.map ao),.d x,ak m,.d (aI r),ak a,.d fo] [] rfl 0 (S.tu (d+40) []) (same []))⟩
theorem H1(S:Spot fs x (some c) z){m:Int}(h:z < 0\/m < 0\/((am c).length:Int) < z+m)(r:Rw)(a:Int)(fo:PyData)(d:Nat):CN fs x m r a fo d:=by
 have e1:=S.lf (d+41) [];have e2:=S.tu (d+40) [];obtain⟨j,f,pre,hj,hp,rfl⟩:=S.yes c rfl;have il:=lh (j:Int) (iN pre) z [];have R1:=aX prog 65 (d+43) [ah (fs.map ao),ah [pI (j:Int) (iN pre) z,.int m,aI r,.int a,fo]] [] rfl;have R2:=aX prog 54 (d+42) [ah (fs.map ao),.d (pI (j:Int) (iN pre) z),ak m,.d (aI r),ak a,.d fo] [] rfl;refine⟨_,_,.kind 1 gu (by decide),?_,?_⟩
 . by_cases h1:z < 0
   . exact(R1 104 e1 il (dT h1) (dT h1) (same []))
   . by_cases h2:m < 0
     . exact(R1 424 e1 il (dF h1) (dT h2) (dT h2) (same []))
     . exact(R1 2472 e1 il (dF h1) (dF h2) il e1 (dT ((h.resolve_left h1).resolve_left h2)) (same []))
 . by_cases h2:m < 0
   . exact(R2 12 e2 (dT h2) (dT h2) (same []))
   . by_cases h1:z < 0
     . exact(R2 108 e2 (dF h2) il (dT h1) (dT h1) (same []))
     . exact(R2 1132 e2 (dF h2) il (dF h1) il (dT ((h.resolve_left h1).resolve_left h2)) (same []))variable {z:Nat}theorem Ds(hp:Pth b pre c)(h:hL b<=18):SA 79 (pD (aJ j pre z)):=(Dt _ (by show (pre++[z]).length+1<=9000;rw[PC];exact iv (PL (iv (gv hp) h) 2) (by decide))).up (by decide)theorem D4(h:z+m<=n):¬ (n:Int) < (z:Int)+(m:Int):=λq=>absurd (Qr.mp (by rw[RK];exact q)) (SQ.mpr h)
theorem H4(q0:okQ 18 810 ws fs)(hj:fs[j]?=some f)(hp:Pth f.rs pre c)(hz:z+m<=(lst c).length)(S:Spot fs (pD (aJ j pre z)) (some c) (z:Int))(r:Rw)(hr:∀o fn ts,r=.call o fn ts->(∀y,o=some y->y∈ws)/\∀t∈ts,lP ws t)(a:Int)(d:Nat):CN fs (pD (aJ j pre z)) (m:Int) r a .none d:=by
 obtain⟨D,v,hE,t1,t2⟩:=IP q0 q0 hj hp hz r hr (pD (aJ j pre z)) (Ds hp (q0.ok f (PF hj)).h9) (λo g ts n h e=>CC h e) (ah [pD (aJ j pre z),.int (m:Int),aI r,.int a,.none]) (.d (pD (aJ j pre z))) (.d .none) (.d .none) (ah (am c)) a d;have e1:=S.lf (d+41) [];have il:=lh (j:Int) (iN pre) (z:Int) [];rw[<- l9]at il;have h3:¬ ((am c).length:Int) < (z:Int)+(m:Int):=D4 (by rw[<- bB];exact hz);have f1:execs prog.1 (aj prog (d+43)) (fT 5 cW) (Gf (ah (fs.map ao)) (ah [pD (aJ j pre z),.int (m:Int),aI r,.int a,.none]) .un .un .un .un .un .un .un .un .un .un .un .un .un) []=.ok (.next (FD fs (ah [pD (aJ j pre z),.int (m:Int),aI r,.int a,.none]) (.d (pD (aJ j pre z))) (m:Int) r a (.d .none) (aJ j pre z) fs .un .un)) []:=
   (ch prog.1 (aj prog (d+43)) (fT 5 cW) (Gf (ah (fs.map ao)) (ah [pD (aJ j pre z),.int (m:Int),aI r,.int a,.none]) .un .un .un .un .un .un .un .un .un .un .un .un .un) [] 2312 e1 il il e1 (dF h3))
 have f2:execs prog.1 (aj prog (d+42)) (fT 5 dl) [ah (fs.map ao),.d (pD (aJ j pre z)),ak (m:Int),.d (aI r),ak a,.d .none,.un,.un,.un,.un,.un] []=.ok (.next (FO fs (.d (pD (aJ j pre z))) (m:Int) r a (.d .none) (ah (am c)) fs (aJ j pre z) .un .un)) []:=
   (ch prog.1 (aj prog (d+42)) (fT 5 dl) [ah (fs.map ao),.d (pD (aJ j pre z)),ak (m:Int),.d (aI r),ak a,.d .none,.un,.un,.un,.un,.un] [] 1096 (S.tu (d+40) []) il il (dF h3))
 exact⟨D,v,hE,cI (fn:=oL) rfl rfl (dW 5 f1 t1),kS (fn:=rS) rfl rfl (dW 5 f2 t2) hE.out⟩
theorem JD{U:ac}{a b:E}{n:Int}(h1:af G cf a K U=.ok (ak i) U)(h2:af G cf b K U=.ok (ak n) U):af G cf (.cmp2 .le .le (.int 0) a b) K U=.ok (.d (.bool (decide (0<=i/\i<=n)))) U:=by
 rw[vm];refine au (a:=ak 0) (U:=U) rfl (au h1 (au (a:=decide (0<=i)) (U:=U) rfl ?_));by_cases h:0<=i
 . rw[decide_eq_true h];refine(au h2 rfl:_=Res.ok (V.d (.bool (decide (i<=n)))) U).trans ?_;rw[decide_eq_decide.mpr (⟨λq=>⟨h,q⟩,And.right⟩:(i<=n)↔(0<=i/\i<=n))]
 . rw[decide_eq_false h];show Res.ok (V.d (.bool false)) U=_;rw[decide_eq_false λq=>h q.1]theorem Hq(fs:List Fd)(k:Nat)(g:Fd):(fC fs k g).map ao=(fs.map ao).take k++[ao g]++(fs.map ao).drop k:=by unfold fC;rw[PR,Qs,Q9,Rg,PV];rfl
theorem wR{q:Fd}(h:q∈fC fs k g):q∈fs\/q=g:=by
 rcases PT.mp h with h|h
 . exact .inl (Qa h)
 . exact(PO.mp h).elim .inr λh=>.inl (QH h)theorem KW(fs:List Fd)(k:Nat)(g:Fd):∀x∈fs.map f8,x∈(fC fs k g).map f8:=λx hx=>by obtain⟨f,hf,rfl⟩:=Qk.mp hx;rw[<- QL k fs]at hf;exact QB (f:=f8) (PT.mpr ((PT.mp hf).imp id (PG _)))
theorem KM(hk:k<=fs.length)(q0:okQ 18 810 ws fs)(og:okF ws (fs.map f8) g)(hb:hL g.rs<=18/\nL g.rs<=810)(h8:fs.length<=8)(hx:g.nm∉bK fs):okQ 18 810 ws (fC fs k g):=by
 have hlen:(fC fs k g).length=fs.length+1:=by unfold fC;rw[PC,PZ,Qn,Qy,Qo hk,<- Qq,QZ hk]
 refine⟨q0.w8,hlen▸Rx _,hlen▸PP h8,?_,λf hf=>?_,λf hf=>?_⟩
 . have e:bK (fC fs k g)=(bK fs).take k++g.nm::(bK fs).drop k:=by delta bK fC;rw[PR,Qs,Q9,Rg]
   rw[e];exact(List.perm_middle.nodup_iff).mpr (QY.mpr ⟨λw=>hx (by rw[QL]at w;exact w),by rw[QL];exact q0.nd⟩)
 . exact ng (KW fs k g) ((wR hf).elim (q0.ok f) λe=>e▸og)
 . exact(wR hf).elim (q0.hB f) λe=>e▸hb
theorem KN(hk:k<=j)(hj:fs[j]?=some f):(fC fs k g)[j+1]?=some f:=by
 have ht:(fs.take k).length=k:=by rw[Qn];exact Qo (iv hk (Qg (PB.mp hj).1))
 unfold fC;rw[PY (by rw[ht];exact Qv hk),ht,Nat.succ_sub hk,Tn,R3,QZ hk];exact(hj)theorem qZ(fs:List Fd):fs.map (λf=>PyData.str f.nm)=(bK fs).map .str:=by unfold bK;rw[Qx];rfl
set_option maxHeartbeats 4000000 in
theorem H2(q0:okQ 18 810 ws fs)(hj:fs[j]?=some f)(hp:Pth f.rs pre c)(hz:z+m<=(lst c).length)(S:Spot fs (pD (aJ j pre z)) (some c) (z:Int))(r:Rw)(hr:∀o fn ts,r=.call o fn ts->(∀y,o=some y->y∈ws)/\∀t∈ts,lP ws t)(a:Int)(g:Fd)(hg:g.nm∉bK fs->A3 (okF ws (fs.map f8) g) (hL g.rs<=18/\nL g.rs<=810) (fs.length<=8))(d:Nat):CN fs (pD (aJ j pre z)) (m:Int) r a (ao g) d:=by
 have e1:=S.lf (d+41) [];have e2:=S.tu (d+40) [];have il:=fm j pre z [];have p9:pre.length<=18:=iv (gv hp) (q0.ok f (PF hj)).h9;have h3:¬ ((am c).length:Int) < (z:Int)+(m:Int):=D4 (by rw[<- bB];exact hz);have R1:=aX prog 65 (d+43) [ah (fs.map ao),ah [pD (aJ j pre z),.int (m:Int),aI r,.int a,ao g]] [] rfl;have R2:=aX prog 54 (d+42) [ah (fs.map ao),.d (pD (aJ j pre z)),ak (m:Int),.d (aI r),ak a,.d (ao g)] [] rfl;have c0:=λv=>lU (G:=prog.1) (cf:=aj prog (d+43)) (i:=11) (it:=.seq (.var 0)) (e:=.idx (.var 11) (.int 0)) (K:=Gf (ah (fs.map ao)) (ah [pD (aJ j pre z),.int (m:Int),aI r,.int a,ao g]) (.d (pD (aJ j pre z))) (ak (m:Int)) (.d (aI r)) (ak a) (.d (ao g)) (.d (pD (aJ j pre z))) (ah (fs.map ao)) v .un .un .un .un .un) (U:=[]) (aa:=[]) (base:=fs.map ao) ao (λf=>.str f.nm) (ps:=fs) (aZ rfl rfl) λf _=>rfl;rw[qZ]at c0;have ins:=eR (bK fs) g.nm [];have c2:=λv w=>JD (G:=prog.1) (cf:=aj prog (d+42)) (K:=[ah (fs.map ao),.d (pD (aJ j pre z)),ak (m:Int),.d (aI r),ak a,.d (ao g),ah (am c),v,w,.un,.un]) (U:=[]) (a:=.var 4) (b:=.idx (.var 1) (.int 0)) (i:=a) (n:=(j:Int)) rfl (bZ rfl rfl (bI ..));by_cases ha:0<=a/\a<=(j:Int)
 . have a1:¬ a < 0:=RI.mpr ha.1;have a2:¬ (j:Int) < a:=RI.mpr ha.2;replace c2:=(decide_eq_true ha)▸c2;by_cases hx:g.nm∈bK fs
   . refine⟨_,_,.kind 3 kY (by decide),?_,?_⟩
     . exact(R1 7014664 e1 il il e1 (dF h3) (dF a1) (bI ..) (dF a2) (c0 _) ins (dT hx) (same []))
     . exact(R2 1096 e2 il il (dF h3) (c2 _ _) (di hx (d+41) []) (same []))
   . obtain⟨og,ob,h8⟩:=hg hx;clear R2 R1;obtain⟨k,rfl⟩:=QU ha.1;have hk:k<=j:=QX.mp ha.2;obtain⟨D,v,hE,t1,t2⟩:=IP q0 (KM (iv hk (Qg (PB.mp hj).1)) q0 og ob h8 hx) (KN hk hj) hp hz r hr (pD (aJ j pre z)) (Ds hp (q0.ok f (PF hj)).h9) (λo g ts n h e=>CB hk hj h e) (ah [pD (aJ j pre z),.int (m:Int),aI r,.int (k:Int),ao g]) (.d (pD (aJ j pre z))) (.d (ao g)) (.d (ao g)) (ah (am c)) (k:Int) d;obtain⟨ad1,ad2⟩:=AU (l:=fs.map ao) (by rw[Pd];exact h8) k (ao g) [];replace ad2:=((Hq fs k g))▸ad2;have f1:execs prog.1 (aj prog (d+43)) (fT 5 cW) (Gf (ah (fs.map ao)) (ah [pD (aJ j pre z),.int (m:Int),aI r,.int (k:Int),ao g]) .un .un .un .un .un .un .un .un .un .un .un .un .un) []=.ok (.next (FD fs (ah [pD (aJ j pre z),.int (m:Int),aI r,.int (k:Int),ao g]) (.d (pD (aJ j pre z))) (m:Int) r (k:Int) (.d (ao g)) (aJ (j+1) pre z) (fC fs k g) .un .un)) []:=
       (ch prog.1 (aj prog (d+43)) (fT 5 cW) (Gf (ah (fs.map ao)) (ah [pD (aJ j pre z),.int (m:Int),aI r,.int (k:Int),ao g]) .un .un .un .un .un .un .un .un .un .un .un .un .un) [] 2129266952 e1 il il e1 (dF h3) (bI ..) (dF a2) (c0 _) ins (dF hx) (bI ..) ((iQ ..)) (yh p9 j z []) ((dY ..)) ad1 ((na ..)) ad2)
     have f2:execs prog.1 (aj prog (d+42)) (fT 5 dl) [ah (fs.map ao),.d (pD (aJ j pre z)),ak (m:Int),.d (aI r),ak (k:Int),.d (ao g),.un,.un,.un,.un,.un] []=.ok (.next (FO fs (.d (pD (aJ j pre z))) (m:Int) r (k:Int) (.d (ao g)) (ah (am c)) (fC fs k g) (aJ (j+1) pre z) .un .un)) []:=
       (ch prog.1 (aj prog (d+42)) (fT 5 dl) [ah (fs.map ao),.d (pD (aJ j pre z)),ak (m:Int),.d (aI r),ak (k:Int),.d (ao g),.un,.un,.un,.un,.un] [] 29230152 e2 il il (dF h3) (c2 _ _) (ia hx (d+41) []) ((dY ..)) ad1 ((na ..)) ad2 (bI ..) ((iQ ..)) (yh p9 j z []))
     exact⟨D,v,hE,cI (fn:=oL) rfl rfl (dW 5 f1 t1),kS (fn:=rS) rfl rfl (dW 5 f2 t2) hE.out⟩
 . replace c2:=(decide_eq_false ha)▸c2;refine⟨_,_,.kind 1 gu (by decide),?_,?_⟩
   . by_cases a1:a < 0
     . exact(R1 198920 e1 il il e1 (dF h3) (dT a1) (dT a1) (same []))
     . exact(R1 723208 e1 il il e1 (dF h3) (dF a1) (bI ..) (dT (TV.mp λq=>ha ⟨RI.mp a1,q⟩)) (same []))
   . exact(R2 1096 e2 il il (dF h3) (c2 _ _) (same []))variable {ws':List Str}
theorem Ll(q0:okQ 18 810 ws fs){oc:Option RL}{z:Int}(S:Spot fs x oc z)(m a:Int)(r:Rw)(hr:∀o fn ts,r=.call o fn ts->(∀y,o=some y->y∈ws)/\∀t∈ts,lP ws t)(fo:Option Fd)(hfo:∀g,fo=some g->g.nm∉bK fs->A3 (okF ws (fs.map f8) g) (hL g.rs<=18/\nL g.rs<=810) (fs.length<=8))(d:Nat):CN fs x m r a (Jb fo) d:=by
 cases oc with
 |none=>exact Fe S m r a _ d
 |some c=>
   by_cases hb:z < 0\/m < 0\/((am c).length:Int) < z+m
   . exact H1 S hb r a _ d
   . obtain⟨j,f,pre,hj,hp,e⟩:=S.yes c rfl;obtain⟨h1,h4⟩:=not_or.mp hb;obtain⟨h2,h3⟩:=not_or.mp h4;obtain⟨z',rfl⟩:=QU (RI.mp h1);obtain⟨m',rfl⟩:=QU (RI.mp h2);have hz:z'+m'<=(lst c).length:=by rw[bB];refine QX.mp ?_;rw[RK];exact RI.mp h3
     rw[<- l9]at e;subst e;cases fo with
     |none=>exact H4 q0 hj hp hz S r hr a d
     |some g=>exact H2 q0 hj hp hz S r hr a g (hfo g rfl) d
mutual
theorem Kb(h:∀x∈ws,x∈ws'):∀r:Rw,ma ws cs r->ma ws' cs r
 |.set _ _=>λq=>⟨h _ q.1,λx hx=>h x (q.2.1 x hx),q.2.2⟩
 |.tell _=>λq=>⟨λx hx=>h x (q.1 x hx),q.2⟩
 |.call _ _ _=>λq=>⟨λx e=>h x (q.1 x e),λt ht=>⟨λx hx=>h x ((q.2.1 t ht).1 x hx),(q.2.1 t ht).2⟩,q.2.2⟩
 |.whn _ b=>λq=>⟨⟨λx hx=>h x (q.1.1 x hx),q.1.2⟩,uO h b q.2⟩
 |.aga _ b=>λq=>uO h b (q)theorem uO(h:∀x∈ws,x∈ws'):∀b:RL,fH ws cs b->fH ws' cs b
 |.nil=>λq=>q
 |.cons r b=>λq=>⟨Kb h r q.1,uO h b q.2⟩
end
theorem D3(h:∀x∈ws,x∈ws')(q:okF ws cs f):okF ws' cs f:=⟨λx hx=>h x (q.ps x hx),q.p4,uO h _ q.rs,q.h9,q.n4,λx hx=>h x (q.t.1 x hx),q.t.2⟩
structure Chg(ws:List Str)(fs:List Fd)(j:Nat)(f:Fd)(pre:List Nat)(z:Nat)(c:RL)(m:Nat)(o:Option Str)(fn:Str)(ts:List Tm)(fo:Option Fd):Prop where
 w7:ws.length<=7
 q:okQ 18 810 ws fs
 hj:fs[j]?=some f
 hp:Pth f.rs pre c
 m9:m<=9000
 ho:∀x,o=some x->x∈ws
 ok:∀t∈ts,lP ws t
 h7:ts.length<=7
 hf:∀g,fo=some g->A3 (okF ws (fs.map f8) g) (hL g.rs<=18/\nL g.rs<=810) (fs.length<=8)def Jq(fs:List Fd)(d:Nat)(D:PyData):Prop:=X5 λx m r a fo=>D=.tuple [x,.int m,aI r,.int a,Jb fo]/\CN fs x m r a (Jb fo) d
variable {l:List PyData}{fo:Option Fd}def rP(j:Nat)(pre:List Nat)(z m:Nat)(o:Option Str)(fn:Str)(ts:List Tm)(a:Int)(fo:Option Fd):PyData:=.tuple [pD (aJ j pre z),.int (m:Int),aI (.call o fn ts),.int a,Jb fo]def FB(fs:List Fd)(j:Nat)(pre:List Nat)(z m:Nat)(o:Option Str)(fn:Str)(ts:List Tm)(a:Int)(fo:Option Fd)(cl:Int)(v8 v9 v10 v11 v12:V):Fm:=Gf (.d (.tuple (fs.map ao))) (.d (rP j pre z m o fn ts a fo)) (.d (.int cl)) (.d (pD (aJ j pre z))) (.d (.int (m:Int))) (.d (aI (.call o fn ts))) (.d (.int a)) (.d (Jb fo)) v8 v9 v10 v11 v12 .un .un
theorem Ip{L:List PyData}(hl:L.length<=900000)(x:PyData):yb .append (.loc 0) [.lst L] [.d x] [.lst L]=.ok (.d .none) [.lst (L++[x])]:=mT (U:=[]) hl x
theorem Cz(h:Chg ws fs j f pre z c m o fn ts fo)(a cl far:Int)(cf:Nat->List V->ac->Res V):∃N:List PyData,A3 (N.length=5) (∀x∈N,X2 λoc y=>Spot fs x oc y) (exec prog.1 cf (B4 (bP 2 cB)) (FB fs j pre z m o fn ts a fo cl (ak far) .un .un .un .un) []=.ok (.next (FB fs j pre z m o fn ts a fo cl (ak far) (al N) .un .un .un)) []):=by
 have p9:pre.length<=18:=iv (gv h.hp) (h.q.ok f (PF h.hj)).h9;have l2:(aJ j pre z).length<=100:=by show (pre++[z]).length+1<=100;rw[PC];exact iv (PL p9 2) (by decide)
 have a1:dj .add false (.d (pD (j::pre))) (ah [.int (-1 - far)]) []=.ok (.d (pI (j:Int) (iN pre) (-1 - far))) []:=by
   have e:pI (j:Int) (iN pre) (-1 - far)=.tuple ((j::pre).map nI++[.int (-1 - far)]):=by
     delta pI iN;rw[Qx];rfl
   rw[e];exact ie (by rw[Pd];exact iv (PP (iv (PP p9) (by decide):(j::pre).length<=100)) (by decide)) []
 refine⟨[pI (j:Int) (iN pre) (-1 - far),.tuple [],.tuple (((aJ j pre z).map nI).take 1),.tuple [.int (((fs.map ao).length:Int)+far),.int 0],pD (aJ j pre z++[0])],rfl,?_,(GR prog.1 cf (B4 (bP 2 cB)) (FB fs j pre z m o fn ts a fo cl (ak far) .un .un .un .un) [] 77 ((uM ..)) a1 (dY ((aJ j pre z).map nI) 1 []) (pT l2 0 []))⟩;intro x hx;replace hx:=PO.mp hx;rcases hx with rfl|hx
 . exact⟨_,_,kX ..⟩
 rcases PO.mp hx with rfl|hx
 . exact⟨none,0,qB (P7 rfl) _⟩
 rcases PO.mp hx with rfl|hx
 . exact⟨none,0,qB (P7 rfl) _⟩
 rcases PO.mp hx with rfl|hx
 . exact⟨_,_,kX fs _ [] 0⟩
 rw[PN.mp hx];have e:pD (aJ j pre z++[0])=pI (j:Int) (iN (pre++[z])) 0:=by
   have:=l9 j (pre++[z]) 0
   exact this
 rw[e];exact⟨_,_,kX ..⟩
theorem yi(x y:PyData)(i:Int):∃w,(w=x\/w=y)/\∀U,cK (al [x,y]) (ak (i % 2)) U=some (.d w):=by
 rcases Int.emod_two_eq i with h|h
 . exact⟨x,.inl rfl,λU=>by rw[h];rfl⟩
 . exact⟨y,.inr rfl,λU=>by rw[h];rfl⟩theorem eX{P:PyData->Prop}(hl:∀y∈l,P y)(h:P x):∀y∈l++[x],P y:=λy hy=>(PT.mp hy).elim (hl y) λe=>PN.mp e▸h
theorem Jm(h:0 < l.length)(x:Int):0 < ((l.length:Nat):Int)/\∃a,a∈l/\∀U,cK (al l) (ak (x % (l.length:Int))) U=some (.d a):=by have:=ls (λx:PyData=>x) h x;rw[List.map_id']at this;exact this
theorem Gr(x y i:Int):∃k:Int,∀U,cK (al [.int x,.int y]) (ak (i % 2)) U=some (ak k):=by
 obtain⟨w,h,e⟩:=yi (.int x) (.int y) i;rcases h with rfl|rfl
 . exact⟨_,e⟩
 . exact⟨_,e⟩
theorem Go(i:Int):∃r:Rw,(∀o fn ts,r≠.call o fn ts)/\∀U,cK (al [.tuple [.str mu,.tuple [.str cL,.int 1]],.tuple [.str iu,.str NO,.tuple [.str cL,.int 1]]]) (ak (i % 2)) U=some (.d (aI r)):=by
 obtain⟨w,h,e⟩:=yi (.tuple [.str mu,.tuple [.str cL,.int 1]]) (.tuple [.str iu,.str NO,.tuple [.str cL,.int 1]]) i;rcases h with rfl|rfl
 . exact⟨.tell (.num 1),nofun,e⟩
 . exact⟨.set NO (.num 1),nofun,e⟩
theorem Gq(i:Int):∃o:Option Str,(∀x,o=some x->x=iR)/\∀U,cK (al [.str iR,.none]) (ak (i % 2)) U=some (.d (fX o)):=by
 obtain⟨w,h,e⟩:=yi (.str iR) .none i;rcases h with rfl|rfl
 . exact⟨some iR,λx h=>(Option.some.inj h).symm,e⟩
 . exact⟨none,nofun,e⟩
theorem He(n:Int):∃k:Int,∀U,xV .max false [ak 0,ak n] U=.ok (ak k) U:=by
 by_cases h:n > 0
 . exact⟨_,λU=>qg h U⟩
 . exact⟨_,λU=>Hc h U⟩
theorem Le(h:0 < fs.length)(x:Int):0 < (((fs.map ao).length:Nat):Int)/\∃g:Fd,g∈fs/\∀U,cK (ah (fs.map ao)) (ak (x % ((fs.map ao).length:Int))) U=some (.d (ao g)):=by
 have hl:0 < (((fs.map ao).length:Nat):Int):=by rw[Pd];exact Int.natCast_pos.mpr h
 obtain⟨k,hk⟩:=QU (R4 x (SJ hl));have lt:=SZ x hl;rw[hk,Pd]at lt;have hk2:=Qr.mp lt;exact⟨hl,fs[k],Rp _,λU=>by rw[hk];exact bE (PD hk2) U⟩
theorem MX(x:Int)(L:List Str):0 < 1+(((L.map PyData.str).length:Nat):Int)/\∃w:Str,∀U,cK (al ([.str iR]++L.map .str)) (ak (x % (1+((L.map PyData.str).length:Int)))) U=some (aA w):=by
 obtain⟨h,w,_,e⟩:=ls PyData.str (l:=iR::L) (Rx _) x;have q:((((iR::L).map PyData.str).length:Nat):Int)=1+(((L.map PyData.str).length:Nat):Int):=by rw[Qs,PZ,RK,S5];rfl
 rw[q]at h e;exact⟨h,w,e⟩theorem BX(fs:List Fd)(j:Nat)(pre:List Nat)(z m:Nat)(o:Option Str)(fn:Str)(ts:List Tm)(a:Int)(fo:Option Fd)(cl:Int)(cf:Nat->List V->ac->Res V)(v8 v9:V):∃L:List Str,L.length<=fs.length/\∀U,af prog.1 cf (.comp false (.var 13) (.seq (.slc false (.var 0) (.cons (.idx (.var 3) (.int 0)) .nil) .nil)) (.cons (.cmp .eq (.bi .len false (.cons (.idx (.var 13) (.int 1)) .nil)) (.bi .len false (.cons (.idx (.var 5) (.int 3)) .nil))) .nil) (.idx (.var 13) (.int 0))) (FB fs j pre z m o fn ts a fo cl v8 v9 (.loc 0) .un .un) U=.ok (al (L.map .str)) U:=by have c:=λU=>fi (G:=prog.1) (cf:=cf) (i:=13) (it:=.seq (.slc false (.var 0) (.cons (.idx (.var 3) (.int 0)) .nil) .nil)) (c:=.cmp .eq (.bi .len false (.cons (.idx (.var 13) (.int 1)) .nil)) (.bi .len false (.cons (.idx (.var 5) (.int 3)) .nil))) (e:=.idx (.var 13) (.int 0)) (K:=FB fs j pre z m o fn ts a fo cl v8 v9 (.loc 0) .un .un) (U:=U) (aa:=U) (base:=(fs.drop j).map ao) ao (λf=>.str f.nm) (λf=>decide (((f.ps.map PyData.str).length:Int)=((ts.map a9).length:Int))) (ps:=fs.drop j) (aZ (qr rfl (Ar (bZ rfl rfl (bI ..))) rfl ((na ..).trans (by rw[<- Rg]))) rfl) (λf _=>rfl) λf _ _=>rfl;rw[qZ]at c;exact⟨_,by unfold bK;rw[Pd];exact iv (Rj ..) (by rw[Qy];exact Th _ _),c⟩
theorem CA{P:PyData->Prop}(hn:0 < fs.length)(a cl far:Int)(cf:Nat->List V->ac->Res V)(v9 v11 v12:V)(hP:∀g,fo=some g->∀g'∈fs,P (.tuple [pD (aJ j pre z),.int (m:Int),aI (.call o fn ts),.int a,ao { g with nm:=g'.nm }])):∃E:List PyData,A3 (∀D∈E,P D) (E.length<=1) (∀L:List PyData,L.length<=900000->exec prog.1 cf (B4 (bP 14 cB)) (FB fs j pre z m o fn ts a fo cl (ak far) v9 (.loc 0) v11 v12) [.lst L]=.ok (.next (FB fs j pre z m o fn ts a fo cl (ak far) v9 (.loc 0) v11 v12)) [.lst (L++E)]):=by
 cases fo with
 |none=>exact⟨[],(λD hD=>by cases hD),PU _,λL hL=>by rw[P6];exact(GR prog.1 cf (B4 (bP 14 cB)) (FB fs j pre z m o fn ts a none cl (ak far) v9 (.loc 0) v11 v12) [.lst L] 0)⟩
 |some g=>obtain⟨hl,g',hg,i1⟩:=Le hn far;exact⟨[_],(λD hD=>PN.mp hD▸hP g rfl g' hg),Qb _,λL hL=>(GR prog.1 cf (B4 (bP 14 cB)) (FB fs j pre z m o fn ts a (some g) cl (ak far) v9 (.loc 0) v11 v12) [.lst L] 24 (ee _ _ hl) (i1 _) (Ip hL _))⟩
theorem Cq(h:Chg ws fs j f pre z c m o fn ts fo)(a cl:Int)(d e:Nat):∃D,Jq fs d D/\pc (e+1) 64 [ah (fs.map ao),.d (rP j pre z m o fn ts a fo),ak cl] [] (.d D):=by
 have hw:∀x∈ws,x∈iR::ws:=λx hx=>PG _ hx;have Q:okQ 18 810 (iR::ws) fs:=⟨PP h.w7,h.q.ne,h.q.n9,h.q.nd,λf hf=>D3 hw (h.q.ok f hf),h.q.hB⟩
 have SP:Spot fs (pD (aJ j pre z)) (ND fs (j:Int) (iN pre)) (z:Int):=l9 j pre z▸kX fs (j:Int) (iN pre) (z:Int);have ho:∀x,o=some x->x∈iR::ws:=λx e=>hw x (h.ho x e);have ok:∀t∈ts,lP (iR::ws) t:=λt ht=>⟨λx hx=>hw x ((h.ok t ht).1 x hx),(h.ok t ht).2⟩;have hfo:∀g,fo=some g->g.nm∉bK fs->A3 (okF (iR::ws) (fs.map f8) g) (hL g.rs<=18/\nL g.rs<=810) (fs.length<=8):=λg e _=>let ⟨a,b,c⟩:=h.hf g e;⟨D3 hw a,b,c⟩;have mk:∀{x:PyData} {oc:Option RL} {y:Int} (S:Spot fs x oc y) (m a:Int) (r:Rw) (hr:∀o fn ts,r=.call o fn ts->(∀y,o=some y->y∈iR::ws)/\∀t∈ts,lP (iR::ws) t),Jq fs d (.tuple [x,.int m,aI r,.int a,Jb fo]):=λS m a r hr=>⟨_,m,r,a,fo,rfl,Ll Q S m a r hr fo hfo d⟩;have cr:∀(o':Option Str) (fn':Str) (ts':List Tm),(∀y,o'=some y->y∈iR::ws)->(∀t∈ts',lP (iR::ws) t)->∀o fn ts,Rw.call o' fn' ts'=.call o fn ts->(∀y,o=some y->y∈iR::ws)/\∀t∈ts,lP (iR::ws) t:=λo' fn' ts' h1 h2 o fn ts e=>by cases (e);exact⟨h1,h2⟩
 generalize hfar:cl / 9 % 100000000000000000000=far;refine kk λUc kz=>?_;obtain⟨N,n5,hN,s3⟩:=Cz h a cl far (aj prog e);have R:=λ(k:Nat) (v9 v10 v11 v12:V) (U:ac)=>GR prog.1 (aj prog e) (B4 (bP k cB)) (FB fs j pre z m o fn ts a fo cl (ak far) v9 v10 v11 v12) U;obtain⟨h5,x2,m2,i2⟩:=Jm (l:=N) (by rw[n5];decide) (cl / 11);rw[n5]at i2;obtain⟨a3,i3⟩:=Gr ((j:Int)+1+far) (-1 - far) (cl / 9);obtain⟨oc2,z2,S2⟩:=hN x2 m2;have A1:=mk SP ((m:Int)+200+far) a (.call o fn ts) (cr o fn ts ho ok);have A2:=mk S2 (m:Int) a (.call o fn ts) (cr o fn ts ho ok);have A3:=mk SP (m:Int) a3 (.call o fn ts) (cr o fn ts ho ok);have s1:exec prog.1 (aj prog e) (B4 cB) (Gf (ah (fs.map ao)) (.d (rP j pre z m o fn ts a fo)) (ak cl) .un .un .un .un .un .un .un .un .un .un .un .un) []=.ok (.next (FB fs j pre z m o fn ts a fo cl .un .un .un .un .un)) []:=rfl;have s2:exec prog.1 (aj prog e) (B4 (bP 1 cB)) (FB fs j pre z m o fn ts a fo cl .un .un .un .un .un) []=.ok (.next (FB fs j pre z m o fn ts a fo cl (ak far) .un .un .un .un)) []:=by rw[<- hfar];rfl
 have s4:=(R 3 (al N) .un .un .un [] 16 (i2 []))
 obtain⟨r4,c4,i4⟩:=Go far;obtain⟨k8,i8⟩:=He ((m:Int)+1 - 2 * (far % 2));obtain⟨o9,c9,i9⟩:=Gq far;have A4:=mk SP (m:Int) a r4 λo fn ts e=>absurd e (c4 o fn ts);have A5:=mk SP (m:Int) a (.call o fn (ts++[Tm.num 5])) (cr o fn _ ho λt ht=>(PT.mp ht).elim (ok t) λe=>PN.mp e▸oR ..);have e5:aI (.call o fn (ts++[Tm.num 5]))=.tuple [.str bA,fX o,.str fn,.tuple (ts.map a9++[.tuple [.str cL,.int 5]])]:=by show PyData.tuple [.str bA,fX o,.str fn,.tuple ((ts++[Tm.num 5]).map a9)]=_;rw[PR];rfl
 rw[e5]at A5;have l5:(ts.map a9).length+[PyData.tuple [.str cL,.int 5]].length<=100000:=by rw[Pd];exact iv (PL h.h7 1) (by decide)
 have A7:=mk SP (-1 - far) a (.call o fn ts) (cr o fn ts ho ok);have A8:=mk SP k8 a (.call o fn ts) (cr o fn ts ho ok);have A9:=mk SP (m:Int) a (.call o9 fn ts) (cr o9 fn ts (λx e=>c9 x e▸PH ..) ok);have A10:=mk SP (m:Int) a (.call o fn (ts.map λ_=>Tm.num 7)) (cr o fn _ ho λt ht=>by obtain⟨_,_,rfl⟩:=Qk.mp ht;exact oR ..);have e10:aI (.call o fn (ts.map λ_=>Tm.num 7))=.tuple [.str bA,fX o,.str fn,.tuple (ts.map λ_=>.tuple [.str cL,.int 7])]:=by show PyData.tuple [.str bA,fX o,.str fn,.tuple ((ts.map λ_=>Tm.num 7).map a9)]=_;rw[Qx];rfl
 rw[e10]at A10;have s5:=λ(L:List PyData) (hL:L.length<=900000)=>(R 4 (al N) (.loc 0) .un .un [.lst L] 65 (bI ..) (i3 _) (Ip hL _));have s6:=λ(L:List PyData) (hL:L.length<=900000)=>(R 5 (al N) (.loc 0) .un .un [.lst L] 2 (i4 _) (Ip hL _));have s7:=λ(L:List PyData) (hL:L.length<=900000)=>(R 6 (al N) (.loc 0) .un .un [.lst L] 4 (ie l5 _) (Ip hL _));obtain⟨L1,l1,c1⟩:=BX fs j pre z m o fn ts a fo cl (aj prog e) (ak far) (al N);obtain⟨h6,n6,i6⟩:=MX far L1;have A6:=mk SP (m:Int) a (.call o n6 ts) (cr o n6 ts ho ok);have lz:[PyData.str iR].length+(L1.map PyData.str).length<=100000:=by rw[Pd];exact iv (Qh (iv l1 h.q.n9) 1) (by decide)
 have s8:=λ(L:List PyData)=>(R 7 (al N) (.loc 0) .un .un [.lst L] 0 (c1 _));have s9:=λ(L:List PyData)=>(R 8 (al N) (.loc 0) (al (L1.map .str)) .un [.lst L] 25 (kT lz _) (ee _ _ h6) (i6 _));have s10:=λ(L:List PyData) (hL:L.length<=900000)=>(R 9 (al N) (.loc 0) (al (L1.map .str)) (ah [.str n6]) [.lst L] 0 (Ip hL _));have s11:=λ(L:List PyData) (hL:L.length<=900000)=>(R 10 (al N) (.loc 0) (al (L1.map .str)) (ah [.str n6]) [.lst L] 0 (Ip hL _));have s12:=λ(L:List PyData) (hL:L.length<=900000)=>(R 11 (al N) (.loc 0) (al (L1.map .str)) (ah [.str n6]) [.lst L] 16 ((i8 _)) (Ip hL _));have s13:=λ(L:List PyData) (hL:L.length<=900000)=>(R 12 (al N) (.loc 0) (al (L1.map .str)) (ah [.str n6]) [.lst L] 4 (i9 _) (Ip hL _));have s14:=λ(L:List PyData) (hL:L.length<=900000)=>(R 13 (al N) (.loc 0) (al (L1.map .str)) (ah [.str n6]) [.lst L] 0 ((λU=>lU a9 (λ_=>.tuple [.str cL,.int 7]) (aZ rfl rfl) λt _=>rfl) _) (Ip hL _));obtain⟨E,hE,lE,s15⟩:=CA (P:=Jq fs d) (o:=o) (fn:=fn) (ts:=ts) (fo:=fo) (j:=j) (pre:=pre) (z:=z) (m:=m) h.q.ne a cl far (aj prog e) (al N) (al (L1.map .str)) (ah [.str n6]) λg hg g' hm=>⟨_,_,.call o fn ts,_,some { g with nm:=g'.nm },rfl,Ll Q SP (m:Int) a (.call o fn ts) (cr o fn ts ho ok) (some { g with nm:=g'.nm }) (λg2 e2 hx=>by injection e2 with e;subst e;exact absurd (QB (f:=λf:Fd=>f.nm) hm) hx) d⟩;have hb:∀{x:PyData} {l:List PyData} {k:Nat},l.length=k->(l++[x]).length=k+1:=λh=>by rw[PC,h];rfl
 have fin:∀L:List PyData,L.length=10->(∀D∈L,Jq fs d D)->∃D,Jq fs d D/\execs prog.1 (aj prog e) (bP 14 cB) (FB fs j pre z m o fn ts a fo cl (ak far) (al N) (.loc 0) (al (L1.map .str)) (ah [.str n6])) [.lst L]=.ok (.ret (.d D)) [.lst (L++E)]:=λL l10 hL=>by obtain⟨hp,D,hD,iD⟩:=Jm (l:=L++E) (by rw[PC,l10];exact Qt (by decide) (PW 10 _)) cl;exact⟨D,(PT.mp hD).elim (hL D) (hE D),aT (s15 L (by rw[l10];decide)) (l4 (R 15 (al N) (.loc 0) (al (L1.map .str)) (ah [.str n6]) [.lst (L++E)] 6 (ee _ _ hp) ((iD [.lst (L++E)]))))⟩
 obtain⟨D,hD,eD⟩:=fin _ rfl (eX (eX (eX (eX (eX (eX (eX (eX (eX (l:=[_]) (λy hy=>PN.mp hy▸A1) A2) A3) A4) A5) A6) A7) A8) A9) A10);refine kz ⟨D,hD,oP (fn:=rR) rfl rfl (aT s1 (aT s2 (aT s3 (aT s4 (aT (s5 _ ?_) (aT (s6 _ ?_) (aT (s7 _ ?_) (aT (s8 _) (aT (s9 _) (aT (s10 _ ?_) (aT (s11 _ ?_) (aT (s12 _ ?_) (aT (s13 _ ?_) (aT (s14 _ ?_) eD)))))))))))))) rfl⟩
 all_goals exact P7 rfl
variable {x:Str}
mutual
theorem G1(h:∀p∈cs,p.1≠x->p∈cs'):∀r:Rw,ma ws cs r->u8 x r=false->(zK r).any (u8 x)=false->ma ws cs' r
 |.set _ _=>λq _ _=>q
 |.tell _=>λq _ _=>q
 |.call _ f _=>λq k _=>⟨q.1,q.2.1,q.2.2.1,h _ q.2.2.2 (of_decide_eq_false k)⟩
 |.whn _ b=>λq _ k=>⟨q.1,qe h b q.2 k⟩
 |.aga _ b=>λq _ k=>qe h b q (k)theorem qe(h:∀p∈cs,p.1≠x->p∈cs'):∀b:RL,fH ws cs b->(jr b).any (u8 x)=false->fH ws cs' b
 |.nil=>λ_ _=>trivial
 |.cons r b=>λq k=>by have k:(u8 x r||(zK r++jr b).any (u8 x))=false:=k;obtain⟨k1,k2⟩:=Se.mp k;rw[List.any_append]at k2;obtain⟨k2,k3⟩:=Se.mp k2;exact⟨G1 h r q.1 k1 k2,qe h b q.2 k3⟩
end
structure Str0(ws:List Str)(fs:List Fd)(j n:Nat)(f g:Fd)(pre:List Nat)(z:Nat)(c:RL)(o:Option Str)(fn:Str)(ts:List Tm):Prop where
 a0:At ws (fs.map f8) fs j n f g pre z c o fn ts
 w7:ws.length<=7
 nd:(bK fs).Nodup
 hb:∀q∈fs,hL q.rs<=9/\nL q.rs<=401
 ho:∀x,o=some x->x∈ws
 lt:n < j
theorem FU(h:Str0 ws fs j n f g pre z c o fn ts)(k:Nat):okQ 18 810 ws (ci fs j [bL k (aS o ts g) pre z f]):=by
 have hlt:=(PB.mp h.a0.hj).1;have en:bK (ci fs j [bL k (aS o ts g) pre z f])=bK fs:=jg h.a0.hj (·.nm) rfl;have el:(ci fs j [bL k (aS o ts g) pre z f]).length=fs.length:=dK _ hlt;obtain⟨w1,w2,w3⟩:=jc (ws:=ws) (cs:=fs.map f8) k (news:=aS o ts g) z h.a0.hp;obtain⟨n1,n2⟩:=qY o ts g;have bf:=h.hb f (PF h.a0.hj);have bg:=h.hb g (PF h.a0.hn);have b1:hL (cE k (aS o ts g) z f.rs pre)<=18:=iv w2 (Qd bf.1 (iv n2 bg.1));have b2:nL (cE k (aS o ts g) z f.rs pre)<=810:=iv (PW _ _) (iv (Qm w3) (Qd bf.2 (iv n1 (PP (Qd h.a0.h4 bg.2)))));refine⟨Qv h.w7,el▸P8 (PU _) hlt,el▸h.a0.h8,en▸h.nd,λq hq=>?_,λq hq=>?_⟩
 . rw[(jg h.a0.hj f8 rfl:(ci fs j [bL k (aS o ts g) pre z f]).map f8=fs.map f8)];rcases eK hq with hq|hq
   . exact h.a0.all q hq
   . rw[PN.mp hq];exact⟨h.a0.of.ps,h.a0.of.p4,w1 h.a0.of.rs (G8 h.a0 h.ho),b1,iv b2 (by decide),h.a0.of.t⟩
 . rcases eK hq with hq|hq
   . exact⟨iv (h.hb q hq).1 (by decide),iv (h.hb q hq).2 (by decide)⟩
   . rw[PN.mp hq];exact⟨b1,b2⟩
theorem GV(h:Str0 ws fs j n f g pre z c o fn ts):X6 λP j' f' c' m fo=>Chg ws P j' f' pre z c' m o fn ts fo/\uJ fs j n f g pre z o fn ts=.tuple [.tuple (P.map ao),rP j' pre z m o fn ts (n:Int) fo]:=by
 have Q:=FU h 1;have hlt:=(PB.mp h.a0.hj).1;have el:(ci fs j [bL 1 (aS o ts g) pre z f]).length=fs.length:=dK _ hlt;have hj':(ci fs j [bL 1 (aS o ts g) pre z f])[j]?=some (bL 1 (aS o ts g) pre z f):=fV 1 (Qg hlt) _;have hn':(ci fs j [bL 1 (aS o ts g) pre z f])[n]?=some g:=qJ hlt h.a0.hn (QG h.lt);have hp':=kZ 1 (aS o ts g) z h.a0.hp;have m9:(am (aS o ts g)).length<=9000:=iv (gS _) (iv (gG h.a0).1 (by decide));unfold uJ;generalize hA:ci fs j [bL 1 (aS o ts g) pre z f]=A at Q el hj' hn' ⊢;clear hA;cases hc:bU fn A with
 |true=>exact⟨A,j,_,_,_,none,⟨h.w7,Q,hj',hp',m9,h.ho,h.a0.ok,h.a0.h4,nofun⟩,rfl⟩
 |false=>
   obtain⟨i,rfl⟩:=Tl h.lt;have hcut:∀p∈A.map f8,p.1≠fn->p∈(io A n).map f8:=λp hp hne=>by
     obtain⟨q,hq,rfl⟩:=Qk.mp hp;refine QB (f:=f8) ?_;obtain⟨k,hk⟩:=Q2 hq
     rcases Nat.lt_trichotomy k n with q1|q1|q1
     . exact Q3 _ (PF ((Q7 q1).trans hk))
     . rw[q1,hn']at hk;exact absurd (Option.some.inj hk▸h.a0.nm) hne
     . refine QJ _ (PF (i:=k - (n+1)) ?_);rw[R3,QZ q1];exact hk
   have sub:∀q∈io A n,q∈A:=λq hq=>(PT.mp hq).elim Qa QH;have okc:∀q∈A,okF ws ((io A n).map f8) q:=λq hq=>by
     have:=Q.ok q hq;refine { this with rs:=qe hcut q.rs this.rs ?_ };cases w:(jr q.rs).any (u8 fn) with
     |false=>rfl
     |true=>have:bU fn A=true:=Si.mpr ⟨q,hq,w⟩;rw[hc]at this;injection this
   have nl:n < A.length:=(PB.mp hn').1;have cl:=xC nl;have en:bK A=(bK A).take n++fn::(bK A).drop (n+1):=by
     have:=QL n (bK A);have hl:n < (bK A).length:=by unfold bK;rw[Pd];exact nl
     have e1:(bK A)[n]=fn:=by
       have:(bK A)[n]?=some fn:=by unfold bK;rw[Qe,hn',Sz,h.a0.nm]
       exact(PB.mp this).2
     rw[QV hl,e1]at this;exact this.symm
   have ec:bK (io A n)=(bK A).take n++(bK A).drop (n+1):=by delta io bK;rw[PR,Q9,Rg]
   have nd:=Q.nd;rw[en]at nd;have nd:=QY.mp (List.perm_middle.nodup_iff.mp nd);rw[<- ec]at nd;refine⟨io A n,n+i,bL 1 (aS o ts g) pre z f,_,_,some g,⟨h.w7,⟨Q.w8,?_,?_,nd.2,λq hq=>okc q (sub q hq),λq hq=>Q.hB q (sub q hq)⟩,?_,hp',m9,h.ho,h.a0.ok,h.a0.h4,λg' e=>?_⟩,?_⟩
   . exact P8 (PU (n+i)) (RX (Nat.lt_of_lt_of_eq hlt (el.symm.trans cl.symm)))
   . exact iv (Sl _) (iv (Qm cl) Q.n9)
   . rw[AW (PW ..) (Qg nl)];exact hj'
   . injection e with e;subst e;exact⟨okc g (PF hn'),Q.hB g (PF hn'),RF (iv (Qm cl) Q.n9)⟩
   . have ej:(((n+i+1:Nat):Int) - 1)=((n+i:Nat):Int):=by rw[RK (n+i)];exact SD ..
     refine(?_:PyData.tuple [.tuple ((io A n).map ao),.tuple [.tuple (.int (((n+i+1:Nat):Int) - 1)::(pre++[z]).map nI),.int (am (aS o ts g)).length,aI (.call o fn ts),.int (n:Int),ao g]]=_);refine ej▸?_;rfl
structure Fst(ws:List Str)(fs:List Fd):Prop where
 w7:ws.length<=7
 ne:0 < fs.length
 n8:fs.length<=8
 ok:NQ ws fs
 nd:(bK fs).Nodup
variable {M:List (List Nat×Rw)}theorem Fst.all(h:Fst ws fs):∀f∈fs,okF ws (fs.map f8) f:=λf hf=>by refine(Q2 hf).elim λk hk=>?_;exact ng (Hx k) (h.ok k f hk).1
theorem Fst.hb(h:Fst ws fs):∀f∈fs,hL f.rs<=9/\nL f.rs<=400:=λf hf=>by refine(Q2 hf).elim λk hk=>?_;exact(h.ok k f hk).2
theorem Fst.str(h:Fst ws fs)(hj:fs[j]?=some f)(hp:Pth f.rs pre c)(hz:(lst c)[z]?=some (.call o fn ts)):∃g,Str0 ws fs j ((bK fs).idxOf fn) f g pre z c o fn ts:=by
 have ok:=bS (J3 hp (h.ok j f hj).1.rs) _ (PF hz);have nt:(bK (fs.take j)).Nodup:=by
   have:bK (fs.take j)=(bK fs).take j:=by skip;exact Q9
   exact this▸h.nd.sublist (R7 ..)
 obtain⟨g,h1,h2,h3,h4⟩:=Lw nt ok.2.2.2;have hi:=Rn.mpr h4;generalize (bK (fs.take j)).idxOf fn=n at h1 hi;unfold bK at hi;rw[Pd,Qn]at hi;have lt:n < j:=Qt hi (Nat.min_le_left ..);rw[Q7 lt]at h1;have e:=qX h.nd h1;rw[h2]at e;refine e▸?_;exact⟨g,⟨Qv h.w7,Qv h.n8,h.all,hj,hp,hz,h1,e,h2▸QB (f:=λf:Fd=>f.nm) (PF h1),h2,h3.symm,ok.2.2.1,ok.2.1⟩,h.w7,h.nd,λq hq=>⟨(h.hb q hq).1,iv (h.hb q hq).2 (by decide)⟩,ok.1,lt⟩def Rd(ws:List Str)(v:PyData):Prop:=v=.none\/X6 λP j f pre z c=>X6 λm o fn ts a fo=>Chg ws P j f pre z c m o fn ts fo/\v=.tuple [.tuple (P.map ao),rP j pre z m o fn ts a fo]
theorem vv(h:Fst ws fs)(l:List Int)(hM:∀p∈M,p∈qP 0 fs/\ub p.2=true)(h0:0 < M.length)(d:Nat):∃v,Rd ws v/\pc (d+21) 62 [al (l.map .int),ah (fs.map ao),al (M.map aR)] [] (.d v):=by
 obtain⟨hl,p,hp,ip⟩:=ls aR h0 (bG l 1);obtain⟨h1,h2⟩:=hM p hp;obtain⟨j,f,pre,z,c,hj,pl,pt,hz⟩:=qO h1;obtain⟨q,r⟩:=p;subst pl;cases r with
 |set _ _=>injection h2
 |tell _=>injection h2
 |whn _ _=>injection h2
 |aga _ _=>injection h2
 |call o fn ts=>obtain⟨g,S⟩:=h.str hj pt hz;have c1:=bY (d+19) l 1 [];have c2:=bY (d+19) l 2 [];have e1:=kQ S.a0.mem (d+19) [];have e2:=bE S.a0.hn [];refine⟨_,.inr ⟨ci fs j [bL 0 (aS o ts g) pre z f],j,bL 0 (aS o ts g) pre z f,pre,z,_,(am (aS o ts g)).length,o,fn,ts,bG l 2 % 100000000000000000000 - 9,none,⟨h.w7,FU S 0,fV 1 (Qg (PB.mp hj).1) _,kZ 0 (aS o ts g) z pt,iv (gS _) (iv (gG S.a0).1 (by decide)),S.ho,S.a0.ok,S.a0.h4,nofun⟩,rfl⟩,?_⟩;exact(aX prog 62 (d+20) [al (l.map .int),ah (fs.map ao),al (M.map aR)] [] rfl 22 c1 (ee _ _ hl) (ip []) e1 e2 (nN S.a0.hl S.a0.h4 S.a0.og.n4 (d+18) []) ((gK 0 (news:=aS o ts g) (z:=z) (iv (gG S.a0).1 (by decide)) hj S.a0.h8 pt (iv S.a0.of.n4 (by decide)) S.a0.of.h9 d []).2) c2 (same []))noncomputable def C8:S->SL
 |.tryS b _=>b
 |_=>.nil
def FC(l:List Int)(fs:List Fd)(v2 v3 v4 v5 v6:V):Fm:=IC (.d (.list (l.map .int))) (.d (.tuple (fs.map ao))) v2 v3 v4 v5 v6 .un .un .un
def LH(ws:List Str)(cf:Nat->List V->ac->Res V)(Ud:SL)(K:Fm):Prop:=(∃v,Rd ws v/\execs prog.1 cf Ud K []=.ok (.ret (.d v)) [])\/X2 λk ds=>kJ cf [(0,none)] k ds []=.ok (.ret (.d .none)) []/\execs prog.1 cf Ud K []=.ok (.exc k ds) []theorem yI(L:List Str)(x:Str)(U:ac):bC .notIn (aA x) (al (L.map .str)) U=some (!decide (x∈L)):=by show (bC .isIn (aA x) (al (L.map .str)) U).map _=_;rw[eR];rfl
theorem EW{W:List Str}(nd:W.Nodup)(h:N.length < W.length):X2 λx T=>W.filter (λw=>!decide (w∈N))=x::T/\x∉N:=by
 cases e:W.filter (λw=>!decide (w∈N)) with
 |nil=>refine absurd (nd.length_le_of_subset λx hx=>?_) (Nat.not_le.mpr h);have:=RE.mp e x hx;rw[QD,decide_eq_false_iff_not]at this;exact Classical.byContradiction this
 |cons x T=>have:=(QQ.mp (e▸PH ..)).2;rw[QD,decide_eq_false_iff_not]at this;exact⟨x,T,rfl,this⟩theorem G5(l:List Int)(fs:List Fd)(W:List Str)(v2 v3:V)(cf:Nat->List V->ac->Res V)(hw:cf 27 [ak (bG l 3),ak 24] []=.ok (al (W.map .str)) [])(hc:cf 25 [al (l.map .int),ak 3] []=.ok (ak (bG l 3)) []):af prog.1 cf (.comp false (.var 8) (.seq (.call 27 (.cons (.call 25 (.cons (.var 0) (.cons (.int 3) .nil))) (.cons (.int 24) .nil)))) (.cons (.cmp .notIn (.var 8) (.comp false (.var 9) (.seq (.var 1)) .nil (.idx (.var 9) (.int 0)))) .nil) (.var 8)) (FC l fs v2 v3 .un .un .un) []=.ok (al ((W.filter λw=>!decide (w∈bK fs)).map .str)) []:=by refine fi PyData.str PyData.str (λw=>!decide (w∈bK fs)) (ps:=W) (base:=W.map .str) (aZ (aM (d0 (aM rfl hc) (iB rfl)) hw) rfl) (λp hp=>?_) (λp hp _=>rfl);have m:=lU (G:=prog.1) (cf:=cf) (i:=9) (it:=.seq (.var 1)) (e:=.idx (.var 9) (.int 0)) (K:=(FC l fs v2 v3 .un .un .un).set 8 (aA p)) (U:=[Cell.busy]) (aa:=[Cell.busy]) (base:=fs.map ao) ao (λf=>.str f.nm) (ps:=fs) (aZ rfl rfl) λf _=>rfl;rw[qZ]at m;exact cq rfl m (yI ..)
theorem Al(S:Str0 ws fs j n f g pre z c o fn ts)(d:Nat):(∃v,Rd ws v/\pc (d+41) 24 [ah (fs.map ao),.d (pD (aJ j pre z))] [] (.d v))\/X2 λx y=>pc (d+41) 24 [ah (fs.map ao),.d (pD (aJ j pre z))] [] (.exc 6 [x,y]):=by
 rcases r9 S.a0 d [] with⟨a,b,_,e⟩|⟨_,e⟩
 . exact .inr ⟨_,_,e⟩
 . obtain⟨P,j',f',c',m,fo,C,ep⟩:=GV S;exact .inl ⟨_,.inr ⟨P,j',f',pre,z,c',m,o,fn,ts,_,fo,C,rfl⟩,ep▸e⟩
theorem Bz(h:Fst ws fs)(D:Dr ws (fs.map f8) fs j f pre z c m)(ho:∀y,o=some y->y∈ws)(hw:∀y∈L,y∈ws)(h7:L.length<=7)(hx:x∉bK fs):Str0 ws (Cg L fs j f pre z c m o x) (j+1) j (j1 L o x pre z m f) (wP L o x (gA z m c)) pre z (cE m (.cons (xG o x L) .nil) z c []) o x (L.map Tm.name):=by
 have hl:=(PB.mp D.hj).1;refine⟨FH h.all D ho hw h7 hx,h.w7,?_,λq hq=>?_,ho,RP _⟩
 . rw[jR hl];have ef:fs.take j++f::fs.drop (j+1)=fs:=by have:=QL j fs;rw[QV hl,(PB.mp D.hj).2]at this;exact this
   have e1:bK (fs.take j++(wP L o x (gA z m c)::j1 L o x pre z m f::fs.drop (j+1)))=bK (fs.take j)++x::bK (f::fs.drop (j+1)):=by unfold bK;rw[PR];rfl
   have e2:bK (fs.take j)++bK (f::fs.drop (j+1))=bK fs:=by rw[<- ef];unfold bK;rw[PR,ef]
   exact e1▸(List.perm_middle.nodup_iff.mpr (QY.mpr ⟨λw=>hx (e2▸w),e2▸h.nd⟩))
 . obtain⟨p1,p2,p3⟩:=qc (ws:=ws) (cs:=fs.map f8) D.hp;have bf:=h.hb f (PF D.hj);rw[jR hl]at hq;have old:∀q∈fs,hL q.rs<=9/\nL q.rs<=401:=λq hq=>⟨(h.hb q hq).1,iv (h.hb q hq).2 (by decide)⟩;replace hq:=PT.mp hq;rcases hq with hq|hq
   . exact old q (Qa hq)
   . rcases PO.mp hq with rfl|hq
     . exact⟨iv (Jf z m c) (iv p2 bf.1),iv (iv (Je z m c) (iv p3 bf.2)) (by decide)⟩
     . rcases PO.mp hq with rfl|hq
       . obtain⟨w1,w2,w3⟩:=jc (ws:=ws) (cs:=fs.map f8) m (news:=.cons (xG o x L) .nil) z D.hp;exact⟨iv w2 bf.1,iv (PW _ _) (iv (Qm w3) (PL bf.2 1))⟩
       . exact old q (QH hq)
theorem Mt(h:Fst ws fs)(l:List Int)(hM:∀p∈M,p∈qP 0 fs/\ub p.2=true)(h0:0 < M.length)(h1:bG l 0 % 3=1)(d:Nat):LH ws (aj prog (d+41)) (C8 (B4 (bP 2 cX))) (FC l fs (al (M.map aR)) .un .un .un .un):=by
 obtain⟨hl,p,hp,ip⟩:=ls aR h0 (bG l 1);obtain⟨h2,h3⟩:=hM p hp;obtain⟨j,f,pre,z,c,hj,pl,pt,hz⟩:=qO h2;obtain⟨q,r⟩:=p;clear h2 hM hp;subst pl;cases r with
 |set _ _=>injection h3
 |tell _=>injection h3
 |whn _ _=>injection h3
 |aga _ _=>injection h3
 |call o fn ts=>
   obtain⟨g,S⟩:=h.str hj pt hz;have c0:=bY (d+40) l 0 [];have c1:=bY (d+40) l 1 [];have nn:=iA (M.map aR) [];have he:(M.map aR).isEmpty=false:=by rw[Q0];clear hl nn ip;cases M with
     |nil=>cases h0
     |cons _ _=>rfl
   rw[he]at nn;have R:=ch prog.1 (aj prog (d+41)) (C8 (B4 (bP 2 cX))) (FC l fs (al (M.map aR)) .un .un .un .un) [];rcases Al S d with⟨v,hv,e⟩|⟨x,y,e⟩
   . exact .inl ⟨v,hv,(R 408 c0 (dT h1) nn c1 (ee _ _ hl) (ip []) e)⟩
   . exact .inr ⟨6,[x,y],rfl,(R 408 c0 (dT h1) nn c1 (ee _ _ hl) (ip []) e)⟩
theorem Ms(h:Fst ws fs)(l:List Int)(hb:(decide (bG l 0 % 3=1)&&!M.isEmpty)=false)(d:Nat):LH ws (aj prog (d+41)) (C8 (B4 (bP 2 cX))) (FC l fs (al (M.map aR)) .un .un .un .un):=by
 have c1:=bY (d+40) l 1 [];have c2:=bY (d+40) l 2 [];have nn:=iA (M.map aR) [];rw[Q0]at nn;have ea:=si (fs:=fs) (λf hf=>⟨iv (h.hb f hf).1 (by decide),iv (h.hb f hf).2 (by decide)⟩) (Qv h.n8) (d+2) [];have en:=nK ((qP 0 fs).map aR) [];rw[Q0]at en;have b:=lV (G:=prog.1) (cf:=aj prog (d+41)) (e:=.cmp .eq (.bin .mod false (.call 25 (.cons (.var 0) (.cons (.int 0) .nil))) (.int 3)) (.int 1)) (e':=.cmp .ne (.var 2) (.list false .nil)) (es:=.nil) (K:=FC l fs (al (M.map aR)) .un .un .un .un) (U:=[]) (cq (jX (aM rfl (bY (d+40) l 0 [])) rfl rfl) rfl rfl) λ_=>cN (cq rfl rfl nn);have R:=ch prog.1 (aj prog (d+41)) (C8 (B4 (bP 2 cX))) (FC l fs (al (M.map aR)) .un .un .un .un) [];cases hE:(qP 0 fs).isEmpty with
 |true=>rw[hE]at en;exact .inl ⟨.none,.inl rfl,(R 7 b (bF hb) ea en)⟩
 |false=>
   replace en:=hE▸en;have h0:0 < (qP 0 fs).length:=by cases e:qP 0 fs with
     |nil=>rw[e]at hE;injection hE
     |cons _ _=>exact Rx _
   obtain⟨hl,p,hp,ip⟩:=ls aR h0 (bG l 1);obtain⟨j,f,pre,z,c,hj,pl,pt,hz⟩:=qO hp;obtain⟨q,r⟩:=p;subst pl;obtain⟨W,wl,wn,eW⟩:=mQ (bG l 3) 24 (by decide) 0 [];obtain⟨x,T,eT,hx⟩:=EW (N:=bK fs) wn (by unfold bK;rw[Pd,wl];exact P8 h.n8 (by decide));have cm:=G5 l fs W (al ((qP 0 fs).map aR)) (.d (pD (aJ j pre z))) (aj prog (d+41)) (eW (d+40) []) (bY (d+40) l 3 []);replace cm:=eT▸cm;have SP:Spot fs (pD (aJ j pre z)) (ND fs (j:Int) (iN pre)) (z:Int):=l9 j pre z▸kX fs (j:Int) (iN pre) (z:Int);rw[xX ((g9 fs j).trans hj),qp pt]at SP;have lf:=SP.lf (d+39) [];have zl:z < (am c).length:=by rw[<- bB];exact(PB.mp hz).1
   have pos:0 < ((am c).length:Int) - (z:Int):=Int.sub_pos.mpr (Qr.mpr zl);obtain⟨m,hm⟩:=QU (Ry (by decide) (R4 (bG l 2) (SJ pos)):0<=1+bG l 2 % (((am c).length:Int) - (z:Int)));have k0:=R4 (bG l 2) (SJ pos);have k1:=SZ (bG l 2) pos;have D:Dr ws (fs.map f8) fs j f pre z c m:=⟨h.w7,h.n8,hj,h.all f (PF hj),pt,by omega,by rw[bB];omega⟩
   have bm:=ee (x:=bG l 2) [] false pos;have ad:dj .add false (ak 1) (ak (bG l 2 % (((am c).length:Int) - (z:Int)))) []=.ok (ak (m:Int)) []:=by rw[<- hm];rfl
   cases hn:yV x with
   |false=>have e:=zf D (.inl hn) (d+37) [];rw[hn]at e;exact .inr ⟨2,[],rfl,(R 6759 b (bF hb) ea en c1 (ee _ _ hl) (ip []) cm c2 lf (fm ..) bm ad e)⟩
   |true=>
     rcases zC D hn hx (d+14) [] with⟨p,q,e⟩|⟨o,L,ho,hw,h7,e⟩
     . exact .inr ⟨6,[pD p,pD q],rfl,(R 6759 b (bF hb) ea en c1 (ee _ _ hl) (ip []) cm c2 lf (fm ..) bm ad e)⟩
     . rcases Al (Bz h D ho hw h7 hx) d with⟨v,hv,e2⟩|⟨y,w,e2⟩
       . exact .inl ⟨v,hv,(R 6759 b (bF hb) ea en c1 (ee _ _ hl) (ip []) cm c2 lf (fm ..) bm ad e e2)⟩
       . exact .inr ⟨6,[y,w],rfl,(R 6759 b (bF hb) ea en c1 (ee _ _ hl) (ip []) cm c2 lf (fm ..) bm ad e e2)⟩
theorem vA(h:Fst ws fs)(l:List Int)(d:Nat):∃v,Rd ws v/\pc (d+42) 63 [al (l.map .int),ah (fs.map ao)] [] (.d v):=by
 have cm:=fi (G:=prog.1) (cf:=aj prog (d+41)) (i:=7) (it:=.seq (.call 44 (.cons (.var 1) .nil))) (c:=.cmp .eq (.idx (.idx (.var 7) (.int 1)) (.int 0)) (.str bA)) (e:=.var 7) (K:=FC l fs .un .un .un .un .un) (U:=[]) (aa:=[]) (base:=(qP 0 fs).map aR) aR aR (λp=>ub p.2) (ps:=qP 0 fs) (aZ (aM rfl (si (λf hf=>⟨iv (h.hb f hf).1 (by decide),iv (h.hb f hf).2 (by decide)⟩) (Qv h.n8) (d+2) [])) rfl) (λp _=>by obtain⟨q,r⟩:=p;cases r<;>rfl) λp _ _=>rfl
 have hM:∀p∈(qP 0 fs).filter (λp=>ub p.2),p∈qP 0 fs/\ub p.2=true:=λp hp=>QQ.mp hp;generalize (qP 0 fs).filter (λp=>ub p.2)=M at cm hM;have nn:=iA (M.map aR) [];rw[Q0]at nn;have R:=aX prog 63 (d+41) [al (l.map .int),ah (fs.map ao)] [] rfl;have tr:LH ws (aj prog (d+41)) (C8 (B4 (bP 2 cX))) (FC l fs (al (M.map aR)) .un .un .un .un):=by
   by_cases hb:bG l 0 % 3=1/\0 < M.length
   . exact Mt h l hM hb.2 hb.1 d
   . refine Ms h l ?_ d;clear nn cm hM;cases M with
     |nil=>exact Tb _
     |cons _ _=>rw[decide_eq_false λq=>hb ⟨q,Rx _⟩];rfl
 have b:=lV (G:=prog.1) (cf:=aj prog (d+41)) (e:=.cmp .eq (.bin .mod false (.call 25 (.cons (.var 0) (.cons (.int 0) .nil))) (.int 3)) (.int 0)) (e':=.cmp .ne (.var 2) (.list false .nil)) (es:=.nil) (K:=FC l fs (al (M.map aR)) .un .un .un .un) (U:=[]) (cq (jX (aM rfl (bY (d+40) l 0 [])) rfl rfl) rfl rfl) λ_=>cN (cq rfl rfl nn);cases hb:(decide (bG l 0 % 3=0)&&!M.isEmpty) with
 |true=>
   have b2:=(PK.mp hb).2;have h0:0 < M.length:=by clear hM nn tr hb cm b;cases M with
     |nil=>injection b2
     |cons _ _=>exact Rx _
   obtain⟨v,hv,e⟩:=vv h l hM h0 (d+20);exact⟨v,hv,(R 3 cm b (bT hb) e (same []))⟩
 |false=>
   rcases tr with⟨v,hv,e⟩|⟨k,ds,hh,e⟩
   . exact⟨v,hv,(R 3 cm b (bF hb) (Du e) (same []))⟩
   . exact⟨.none,.inl rfl,(R 3 cm b (bF hb) (yq e hh) (same []))⟩variable {D5:PyData}
theorem FJ(h:Chg ws fs j f pre z c m o fn ts fo)(a:Int)(d:Nat):Jq fs d (rP j pre z m o fn ts a fo):=
 ⟨_,_,.call o fn ts,_,fo,rfl,Ll h.q (l9 j pre z▸kX fs (j:Int) (iN pre) (z:Int)) (m:Int) a (.call o fn ts) (λo' fn' ts' e=>by cases (e);exact⟨h.ho,h.ok⟩) fo (λg e _=>h.hf g e) d⟩def FW(l:List Int)(v1:V)(fs:List Fd)(D5:PyData)(v4 v5 v6 v7:V):Fm:=F9 (.d (.list (l.map .int))) v1 (.d (.tuple (fs.map ao))) (.d D5) v4 v5 v6 v7 .un
theorem kinds(h:(k,s)∈[(1,gu),(3,kY),(4,bA),(5,gR)])(d:Nat)(U:ac){P a b c e f:PyData}(q:pc (d+1) 54 [.d P,.d a,.d b,.d c,.d e,.d f] U (.exc k [])):pc (d+2) 58 [.d P,ah [a,b,c,e,f]] U (ah [.str s]):=by
 replace h:=PO.mp h;rcases h with h|h
 . injection h with e f;subst e;subst f;exact ur (KI d U) (λ_ h=>h) q
 rcases PO.mp h with h|h
 . injection h with e f;subst e;subst f;exact ur (KH d U) (λ_ h=>h) q
 rcases PO.mp h with h|h
 . injection h with e f;subst e;subst f;exact ur (KG d U) (λ_ h=>h) q
 cases PN.mp h;exact ur (KF d U) (λ_ h=>h) (q)theorem LP{x:PyData}{b b':Bool}(h1:AL d x y b)(h2:AL d x y b'):b=b':=by have h:=(h1 []).symm.trans (h2 []);injection h with h;injection h with h;injection h
theorem tail(q0:okQ 18 810 ws fs)(l:List Int)(v1:V)(hA:Jq fs 100 D5):execs prog.1 (aj prog 144) (bP 4 xW) (FW l v1 fs D5 .un .un .un .un) []=.ok (.ret (.d (.bool true))) []:=by
 obtain⟨x,m,r,a,fo,rfl,D,v,hE,e1,e2⟩:=hA;have R:=ch prog.1 (aj prog 144) (bP 4 xW) (FW l v1 fs (.tuple [x,.int m,aI r,.int a,Jb fo]) .un .un .un .un) [];have cm:=λ{B:Type} (T:PyData) (φ:B->PyData) (b:B->Bool) (ps:List B) (H:∀p∈ps,AL 144 T (φ p) (b p))=>fi (G:=prog.1) (cf:=aj prog 144) (i:=8) (it:=.seq (.var 4)) (c:=.call 57 (.cons (.var 5) (.cons (.var 8) .nil))) (e:=.var 8) (K:=FW l v1 fs (.tuple [x,.int m,aI r,.int a,Jb fo]) (al (ps.map φ)) (.d T) .un .un) (U:=[]) (aa:=[]) (base:=ps.map φ) φ φ b (ps:=ps) (aZ rfl rfl) (λp hp=>aM rfl (H p hp _)) λp _ _=>rfl;cases hE with
 |kind k s hk=>
   have t:=kinds hk 142 [] e2;have c1:=cm (B:=PyData) (.tuple [.str s]) (λp=>p) (λ_=>true) [.tuple [.str s]] (λp hp=>by rw[PN.mp hp];exact kh (n:=0) (l:=[.str s]) (P7 rfl) (sI (dB _ _) GG) 142)
   exact(R 0 e1 t c1)
 |clash Ls p q hm hl=>
   obtain⟨g,hg⟩:=Classical.axiomOfChoice (r:=λ(y:List Nat×List Nat) (b:Bool)=>y∈Ls->AL 144 (Ik (p,q)) (Ik y) b) λy=>by
     by_cases hy:y∈Ls
     . obtain⟨b,hb⟩:=FT p q y.1 y.2 (iv (hl y hy).1 (by decide)) (iv (hl y hy).2 (by decide)) 141;exact⟨b,λ_=>hb⟩
     . exact⟨true,λh=>absurd h hy⟩
   have c1:=cm (Ik (p,q)) Ik g Ls λy hy=>hg y hy;have nn:=iA ((Ls.filter g).map Ik) [];have he:((Ls.filter g).map Ik).isEmpty=false:=by rw[Q0,Tc];exact List.ne_nil_of_mem (QQ.mpr ⟨hm,(LP (hg (p,q) hm) (BE (n:=1) (dB 1 eG) (Dt p (iv (hl _ hm).1 (by decide))) (Dt q (iv (hl _ hm).2 (by decide))) 141))⟩)
   replace nn:=he▸nn;clear hl he hg;cases Ls with
   |nil=>cases hm
   |cons l0 Ls=>exact(R 16 e1 (JG e2) c1 nn)
 |good A y u v h0 sa sx sr hp=>
   have s2:=Ac q0 (by decide) (by decide) 63 [];have s3:=BE sx (uC 79 m) sr 63 [];cases A with
   |nil=>cases h0
   |cons q A=>exact(R 2 e1 (Gu e2) (bE (fs:=q::A) (j:=0) (f:=q) rfl []) (sa 63 []) hp s2 s3)
theorem result(l:List Int):∃σ',aj prog 145 66 [al (l.map .int)] []=.ok (.d (.bool true)) σ':=by
 obtain⟨ws,fs0,⟨w7,ne,n8,ok,nd⟩,ep⟩:=vx l 5 127 [];obtain⟨v,hv,ev⟩:=vA ⟨w7,ne,n8,ok,nd⟩ l 102;have c0:=bY 143 l 0 [];refine⟨[],?_⟩;rcases hv with rfl|⟨P,j,f,pre,z,c,m,o,fn,ts,a,fo,C,rfl⟩
 . exact(aX prog 66 144 [al (l.map .int)] [] rfl 0 ep ev (same []))
 . have fr:∃D5,Jq P 100 D5/\execs prog.1 (aj prog 144) (fT 4 xW) (F9 (al (l.map .int)) .un .un .un .un .un .un .un .un) []=.ok (.next (FW l (ah [.tuple (P.map ao),rP j pre z m o fn ts a fo]) P D5 .un .un .un .un)) []:=by
     have R:=ch prog.1 (aj prog 144) (fT 4 xW) (F9 (al (l.map .int)) .un .un .un .un .un .un .un .un) [];by_cases h3:bG l 0 / 3 % 2=1
     . obtain⟨D5,hA,eb⟩:=Cq C a (bG l 4) 100 143;exact⟨D5,hA,(R 32 ep ev c0 (dT h3) (bY 143 l 4 []) eb)⟩
     . exact⟨_,FJ C a 100,(R 32 ep ev c0 (dF h3))⟩
   obtain⟨D5,hA,ef⟩:=fr;exact cI (fn:=f_law) rfl rfl (dW 4 ef (tail C.q l _ hA))
end L11
end
end Mine.Internal
set_option tactic.hygienic true
open PySem PySem.W PyProof.Rows
namespace Mine.Internal.L11
set_option maxRecDepth 99999
theorem fF{B:Type}{f:B->Bool}{l:List B}(n:Nat)(h1:(l.take n).all f=true)(h2:(l.drop n).all f=true):l.all f=true:=by rw[<- List.take_append_drop n l,List.all_append,h1,h2];(rfl)noncomputable def ck(fn:Fn):Bool:=lF (recsOf q11) prog.2 gnames fn
theorem Oy:((y7.take 8).all ck)=true:=by decide +kernel
theorem Ox:(((y7.drop 8).take 8).all ck)=true:=by decide +kernel
theorem Ow:((((y7.drop 8).drop 8).take 8).all ck)=true:=by decide +kernel
theorem Ov:(((((y7.drop 8).drop 8).drop 8).take 8).all ck)=true:=by decide +kernel
theorem Ou:((((((y7.drop 8).drop 8).drop 8).drop 8).take 8).all ck)=true:=by decide +kernel
theorem Ot:(((((((y7.drop 8).drop 8).drop 8).drop 8).drop 8).take 8).all ck)=true:=by decide +kernel
theorem Os:((((((((y7.drop 8).drop 8).drop 8).drop 8).drop 8).drop 8).take 8).all ck)=true:=by decide +kernel
theorem Oq:((((((((y7.drop 8).drop 8).drop 8).drop 8).drop 8).drop 8).drop 8).all ck)=true:=by decide +kernel
theorem chk:(y7.all λfn=>lF (recsOf q11) prog.2 gnames fn)=true:=fF (f:=ck) 8 Oy (fF 8 Ox (fF 8 Ow (fF 8 Ov (fF 8 Ou (fF 8 Ot (fF 8 Os Oq))))))theorem kchk:(y7.all λfn=>!decide (fn.name=("_law_kind":Str))||lF (recsOf q11) (λ_=>none) gnames fn)=true:=by decide +kernel
theorem frees:tY (namesW q11 [])=true:=by decide +kernel
theorem vefree:(!(namesW q11 []).contains ("ValueError":Str)&&!PySem.bootMainNames.contains "ValueError")=true:=by decide +kernel
theorem globs_ok:∀k x,prog.1 k=some x->(gnames k,x)∈scalarsOf []++constsW q11/\xq x=true:=by
 intro k x h;have e:constsW q11=[(Str.ofString "LONGEST",.int 8),(Str.ofString "LETTERS",.str az)]:=by kernel_rfl
 match k,h with
 |1,h=>injection h with e;subst e;exact⟨List.mem_append_right _ (by rw[e];exact List.mem_cons_of_mem _ (List.mem_cons_self ..)),by decide +kernel⟩
 |2,h=>injection h with e;subst e;exact⟨List.mem_append_right _ (by rw[e];exact List.mem_cons_self ..),by decide +kernel⟩
end Mine.Internal.L11
set_option maxRecDepth 99999 in
set_option maxHeartbeats 8000000 in
theorem PySem.Challenge.cw_uf010014_11_holds : PySem.Challenge.rw_uf010014_11.Holds := by
 refine holds_law Mine.Internal.said11 λsaid=>?_;refine holds_open (q:=Mine.Internal.q11) (loose:=[]) (Xt:=Mine.Internal.xt11) (XP:=λmg h=>XL Mine.Internal.q11 [] mg h/\Mine.Internal.XF mg h) (Yf:=Hook.obs Hook.none) (Ya:=Hook.val Hook.none) (YP:=Hook.says Hook.none) (N:=6000) Mine.Internal.left11 (Hook.of Hook.none) (Hook.keeps Hook.none)
   (λs e=>⟨xl_of s (Bool.and_eq_true_iff.mp (Bool.and_eq_true_iff.mp e).1).1,Mine.Internal.xf_of (Bool.and_eq_true_iff.mp e).2⟩) (λmg h h' x hk=>⟨XL.keeps mg h h' x.1 hk,x.2.keeps hk⟩) (by rfl) (by rfl) (by rfl) (λs e=>recFacts_of (Bool.and_eq_true_iff.mp (Bool.and_eq_true_iff.mp e).1).2) (by rfl) said (by decide +kernel) ⟨rfl,rfl,rfl,rfl,rfl,by decide +kernel⟩ ?hw ?hc
 case hw=>w_witness2
 case hc=>
   intro w dn ai mg mb G Ub fa o pm cd doc dV kV ho hd hcd hD hmg hg args vals as hpre hlay hrd hwl hlo;have V:=(Ground.X G).1.2;have XX:=(Ground.X G).2;have GL:=glob_more (Ground.glob G (by decide +kernel) (by decide +kernel)) V;refine Ground.open G ?_;intro T Ud D TE TW;have TA:=at_of_top T;have hmg':mg Mine.Internal.L11.f_law.name=some (Value.ref fa):=by rw[(by decide +kernel:Mine.Internal.L11.f_law.name=Str.ofString "law")];exact hmg
   have hos:=hg;clear hmg;refine Mine.Internal.kk λUc kx=>?_
   wrow_args hpre hlay hrd hwl hlo
   rename_i l _ _ _ _ _ _ _ _ _ _ _ _ hw _ _ _ hlen _;obtain⟨σ',hrun⟩:=Mine.Internal.L11.result l;refine kx ?_;refine Mine.Internal.run_law (p:=Mine.Internal.L11.prog) (gn:=Mine.Internal.gnames) (i:=66) (fn:=Mine.Internal.L11.f_law) (Mine.Internal.static_of GL TA Mine.Internal.L11.chk rfl Mine.Internal.L11.frees (Mine.Internal.globs_of GL Mine.Internal.L11.globs_ok) Mine.Internal.L11.kchk (Mine.Internal.xok_of GL Mine.Internal.L11.vefree XX)) rfl hmg' hw (by unfold Mine.Internal.LIM;omega) (by omega) hrun λs' hk ho hgn=>?_;exact GoodW.toG ⟨.inl ⟨_,.bool true,[],rfl,λ_=>rfl,.bool true,postW_of (X:=true) (by with_unfolding_all rfl) (by with_unfolding_all rfl) rfl,λh=>⟨.nil,λa ha=>by cases ha⟩⟩,hk,ho,hgn.trans hos⟩
