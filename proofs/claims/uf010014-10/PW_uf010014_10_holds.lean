import PyProof.Rows.All
import PyProof.P3Statements
import Open.Line
import Open.FastRun
import Open.FastT9
import Wide.Line
import Wide.FinOn
import PyProof.Calls
import PyProof.Cells
import PyProof.DictUpdate
import PyProof.TupleOps
import PyProof.Ns1
import PyProof.Straight
import PyProof.RaisesMany
import PyProof.Rows.Globals
import PyProof.StationsW
import PyProof.Rows.RuleB_floordiv
import PyProof.Rows.RuleB_mod
import PyProof.Rows.RuleB_pow
import PyProof.Rows.StrRules
import PyProof.Rows.Chain
import PyProof.StrBlock2
import PyProof.PureInt
import KE.KEqDict
import PyProof.FactsAll.tuple_1
import KE.KDictList
import KE.KDictOf
import PyProof.Methods
import PyProof.DictTable
import PyProof.FactsAll.list_3
import PyProof.EqKinds
import PyProof.FactsAll.dict_3
import PyProof.FactsAll.dict_4
import PyProof.FactsAll.NoneType_1
import PyProof.SetNew
import PyProof.SetRoads
import PyProof.CollectIter
import PyProof.Draws
import PyProof.EnumMake
import PyProof.TupleIter
import PyProof.WalksMore
import PyProof.RangeFor
import PyProof.StrWalks
import PyProof.CompFree
import PyProof.MakeMany
import PyProof.Rows.Nodes
import PyProof.ExcClass2
import PyProof.ExcArgs
import PyProof.ExcBaseAll.ValueError
import PyProof.Rows.RuleN_isinstance
import PyProof.IsiH_list
import PyProof.ExcInit
import PyProof.InstStoreFacts
import PyProof.InstLoad
import PyProof.Rows.PlainObj
import PyProof.ObjNew
import PyProof.Rows.Catch
import PyProof.ZipIter
import PyProof.AttrMissHeap
import PyProof.FactsAll.zip
import PyProof.DictCompW
import PyProof.Rows.StrInSeq
import PyProof.Ops
import PyProof.RulesAs
import PyProof.ForAny
import PyProof.Rows.HelperG
import PyProof.ExcClsAt
import PySem.Challenge.RW_uf010014_10
set_option Elab.async false
set_option bootstrap.genMatcherCode false
set_option genSizeOf false
set_option genInjectivity false
set_option genCtorIdx false
set_option tactic.hygienic false
set_option autoImplicit false
namespace Mine.Internal
open Nat renaming le_trans→iv,add_le_add_right→Qu,le_add_right→Qz,succ_le_succ→QE,zero_le→QI,le_add_left→QK,le_of_ble_eq_true→QM,lt_of_le_of_lt→QN,le_refl→QP,add_assoc→QQ,add_le_add_left→QR,add_comm→QW,lt_of_lt_of_le→Q3,le_of_eq→Q4,zero_add→Q5,le_of_lt→Q7,add_le_add→Ra,ne_of_lt→Rd,le_of_not_lt→Rm,min_eq_left→Ro,le_of_succ_le→Rp,mul_le_mul_left→RJ,add_right_comm→RN,le_of_add_right_le→RS,succ_pos→RY,lt_add_of_pos_right→R1,min_le_right→R7,sub_add_cancel→R9,le_succ_of_le→Sh,le_antisymm→Si,lt_irrefl→Sl,add_sub_cancel_left→Sp,lt_succ_self→Sq,le_max_right→Sr,le_of_succ_le_succ→Sw,ne_of_gt→Sz,le_max_left→SD,mul_le_mul_right→SI,lt_of_succ_lt_succ→S4,le_succ→S7,le_of_lt_succ→S9,lt_succ_of_le→Ta,pow_le_pow_right→Tg,add_sub_cancel'→Tp,add_lt_add_left→Tq,lt_of_le_of_ne→Tr,succ_mul→Ts,lt_one_iff→Tt,succ_ne_zero→TB,min_eq_right→TC,lt_or_ge→TM,sub_self→TQ,not_lt→TY,max_le→TZ,mul_le_mul→T6,le_total→Uh,min_self→Ui,add_zero→Uj
open PySem renaming wpAny_bind→Pe,wpAny_pure→Ql,wpAny_mono→Qs,wpAny_loadPart_at→QC,wpAny_newObj_type→QX,wpAny_standAt→Rb,wpAny_isSubtype_exc→Ri,wpAny_holding→Rs
open List renaming length_map→PN,length_append→Qg,mem_cons_self→Qh,getElem?_eq_some_iff→Qi,mem_cons_of_mem→Qj,getElem?_eq_getElem→Qk,mem_of_getElem?→Qp,mem_cons→Qq,append_assoc→Qr,mem_singleton→Qt,map_append→Qv,mem_append→Qx,lookup_cons→QD,length_cons→QF,append_nil→QG,getElem?_append_right→QH,getElem?_append_left→QJ,mem_of_mem_take→QO,mem_map→QV,getElem?_map→Q0,mem_filter→Q1,take_append_drop→Q2,map_cons→Q6,not_mem_nil→Re,all_eq_true→Rf,contains_cons→Rh,map_map→Rj,filter_eq_nil_iff→Rk,length_drop→Rn,length_singleton→Rr,length_take→Ru,drop_eq_getElem_cons→Rv,pairwise_cons→Rx,length_filter_le→Rz,nodup_cons→RB,mem_of_mem_drop→RE,getElem?_take→RF,eq_nil_of_length_eq_zero→RH,getElem?_eq_none→RK,mem_append_right→RM,length_nil→RO,mem_append_left→RP,length_range→RU,mem_range→RV,append_cancel_left→RZ,map_nil→R2,nodup_append→R3,filterMap_cons→R4,take_of_length_le→R6,map_singleton→Sa,drop_drop→Sg,map_congr_left→Sk,map_take→SG,range_eq_range'→SJ,dropLast_concat→SK,nodup_nil→SM,drop_length→SP,getElem_mem→SQ,isEmpty_iff→SR,length_set→SW,mem_replicate→SX,pairwise_singleton→SY,filter_cons_of_pos→SZ,map_drop→S3,take_sublist→S5,ext_getElem?→S8,flatMap_cons→Tb,length_replicate→Td,isEmpty_map→Te,any_cons→Th,replicate_succ→Tj,sum_append→To,lt_irrefl→Tu,drop_sublist→Tv,any_eq_false→Tx,filter_cons_of_neg→Tz,range'_succ→TD,mem_flatMap→TF,filter_cons→TG,drop_eq_nil_of_le→TH,length_pos_of_mem→TI,foldl_cons→TK,of_mem_zip→TN,take_eq_take_iff→TO,take_left'→TS,set_append_right→TU,nil_append→TV,getElem?_of_mem→T0,getElem?_mapIdx→T2,contains_eq_mem→T3,length_take_le'→T4,idxOf_cons_self→T5,not_lt→T8,all_cons→T9
open PySem.Heap renaming get?_push_of_some→Qm,get?_push_size→Qy,lt_size→Q8,get?_update_self→Ry,get?_update_other→RG,size_push→Ss,get?_none_of_le→Tf
open Bool renaming and_eq_true_iff→Qn,and_eq_true→Qw,false_ne_true→QB,or_eq_true_iff→QS,not_eq_true'→Rg,noConfusion→Rt,true_and→RI,or_false→RW,false_and→Se,or_true→Sj,not_true→SE,false_or→SF,or_eq_false_iff→SH,not_eq_true→SS,false_eq_true→SV,and_false→Tc,and_eq_false_iff→TX,or_assoc→Ub,not_inj→Ug
open Option renaming bind_eq_some_iff→Qo,map_eq_some_iff→QL,isSome_iff_exists→QZ,isNone_iff_eq_none→Q9,some_ne_none→Ti,noConfusion→Ua
open Array renaming length_toList→QA,getElem?_eq_some_iff→RQ,getElem?_eq_none→Sv,getElem?_eq_getElem→SN,toList_push→Tw,size_eq_one_iff→TL,toList_append→T7
open Int renaming natCast_nonneg→QT,ofNat_lt→QU,toNat_natCast→QY,ofNat_le→Rc,le_trans→Rq,eq_ofNat_of_zero_le→RC,le_add_of_nonneg_right→RD,toNat_le→RX,toNat_of_nonneg→R5,not_lt→R8,add_nonneg→Su,lt_of_lt_of_le→Sy,le_of_lt→SC,max_eq_right→SO,toNat_lt→SU,ofNat_inj→S1,min_eq_left→Tk,add_le_add_left→Tn,emod_nonneg→TJ,add_comm→TP,not_le→Uc,sub_zero→Ud,zero_add→Ue,ne_of_gt→Uf
open PyProof.Rows renaming callWith_type→RR,slot_tuple_getitem→S6,slicePart_none→Tl
open PySem
noncomputable def KA:Nat->Addr
 | 0=>24
 | 1=>37
 | 2=>49
 | 3=>61
 | 4=>73
 | 5=>85
 | _=>104
noncomputable def RA:Addr:=50
noncomputable def jo:Str:=⟨#[102,117,110,99,116,105,111,110,115]⟩
noncomputable def JN:Str:=⟨#[116,111,108,100]⟩
noncomputable def jn:Str:=⟨#[111,110,101]⟩
noncomputable def dj:Str:=⟨#[111,116,104,101,114]⟩
inductive V where
 | un
 | d (x:PyData)
 | loc (n:Nat)
 | locs (l:List Nat)
 | exc (k:Nat) (ds:List PyData)
 /-- a Runner: the box of its dict (shut),its attributes' boxes -/
 | inst (k:Nat) (l:List (Str×Nat))
noncomputable def V.ctorIdx(t:V):Nat:=by cases (t);exact 0;exact 1;exact 2;exact 3;exact 4;exact 5
inductive Cell where
 | lst (l:List PyData)
 | dct (l:List (Str×PyData))
 | gone
 | busy
noncomputable def Cell.ctorIdx(t:Cell):Nat:=by cases (t);exact 0;exact 1;exact 2;exact 3
abbrev ac:=List Cell
abbrev Fm:=List V
inductive Res(α:Type) where
 | ok (a:α) (σ:ac)
 | bad
noncomputable def Res.ctorIdx{α:Type}(t:Res α):Nat:=by cases (t);exact 0;exact 1
noncomputable def Res.bind{α β:Type}:Res α->(α->ac->Res β)->Res β
 | .ok a σ,f=>f a σ
 | .bad,_=>.bad
noncomputable def bj{α:Type}(o:Option α)(σ:ac):Res α:=match o with
 | some a=>.ok a σ
 | none=>.bad
inductive BOp where | add | sub | mul | fdiv | mod | pow(u:Unit)
noncomputable def BOp.ctorIdx(t:BOp):Nat:=by cases (t);exact 0;exact 1;exact 2;exact 3;exact 4;exact 5
inductive COp where | eq | ne | lt | le | gt | ge(u:Unit) | isN | isNotN | isIn | notIn
noncomputable def COp.ctorIdx(t:COp):Nat:=by cases (t);exact 0;exact 1;exact 2;exact 3;exact 4;exact 5;exact 6;exact 7;exact 8;exact 9
set_option genCtorIdx true in
inductive Ty where | list | int | bool | str | tuple
inductive Bi where | len | list | dict | int | max | tuple | sorted | sortedSet | any | all | isinst(t:Ty)
noncomputable def Bi.ctorIdx(t:Bi):Nat:=by cases (t);exact 0;exact 1;exact 2;exact 3;exact 4;exact 5;exact 6;exact 7;exact 8;exact 9;exact 10
inductive Me where | get | append | extend | update | pop | count | index | nop(u:Unit)
noncomputable def Me.ctorIdx(t:Me):Nat:=by cases (t);exact 0;exact 1;exact 2;exact 3;exact 4;exact 5;exact 6;exact 7
inductive Tgt where
 | var (i:Nat)
 | tup (l:List Nat)
noncomputable def Tgt.ctorIdx(t:Tgt):Nat:=by cases (t);exact 0;exact 1
mutual
inductive E where
 | none
 | bool (b:Bool)
 | int (i:Int)
 | str (s:Str)
 | var (i:Nat)
 | glob (g:Nat)
 | bin (op:BOp) (m:Bool) (a b:E)
 | neg (a:E)
 | not (a:E)
 | bop (isAnd:Bool) (es:EL)
 | cmp (op:COp) (a b:E)
 | cmp2 (bA fQ:COp) (a b c:E)
 | ite (c a b:E)
 | tup (es:EL)
 | list (m:Bool) (es:EL)
 | dict0
 | idx (a i:E)
 | slc (m:Bool) (a:E) (lo hi:EO)
 | comp (m:Bool) (t:Tgt) (it:It) (c:EO) (e:E)
 | call (f:Nat) (es:EL)
 | bi (b:Bi) (m:Bool) (es:EL)
 | meth (b:Me) (o:E) (es:EL)
 | freeze (e:E)
 | isx (k:Nat) (e:E)
inductive EL where
 | nil
 | cons (e:E) (es:EL)
inductive EO where
 | no
 | yes (e:E)
inductive It where
 | seq (e:E)
 | range (e:E)
 | range2 (a b:E)
 | enum (e:E)
end
noncomputable def E.ctorIdx(t:E):Nat:=by cases (t);exact 0;exact 1;exact 2;exact 3;exact 4;exact 5;exact 6;exact 7;exact 8;exact 9;exact 10;exact 11;exact 12;exact 13;exact 14;exact 15;exact 16;exact 17;exact 18;exact 19;exact 20;exact 21;exact 22;exact 23
noncomputable def EL.ctorIdx(t:EL):Nat:=by cases (t);exact 0;exact 1
noncomputable def EO.ctorIdx(t:EO):Nat:=by cases (t);exact 0;exact 1
noncomputable def It.ctorIdx(t:It):Nat:=by cases (t);exact 0;exact 1;exact 2;exact 3
inductive RT where
 | drop
 | var (i:Nat)
 | ret
 | retL
noncomputable def RT.ctorIdx(t:RT):Nat:=by cases (t);exact 0;exact 1;exact 2;exact 3
inductive Hk where
 | kind (i f:Nat)
 | none
 | tup (i f:Nat) (a:Bool)
noncomputable def Hk.ctorIdx(t:Hk):Nat:=by cases (t);exact 0;exact 1;exact 2
structure Hd where
 k:Nat
 h:Hk
mutual
inductive S where
 | expr (e:E)
 | asg (t:Tgt) (e:E)
 | asgT (l:List Nat) (e:E)
 | put (o i e:E)
 | ite (c:E) (a b:SL)
 | forr (t:Tgt) (it:It) (b:SL)
 | ret (e:E)
 | pass
 | stop
 | calls (t:RT) (f:Nat) (es:EL)
 | raise (k:Nat) (es:EL)
 | tryS (b:SL) (hs:List Hd)
inductive SL where
 | nil
 | cons (s:S) (r:SL)
end
noncomputable def S.ctorIdx(t:S):Nat:=by cases (t);exact 0;exact 1;exact 2;exact 3;exact 4;exact 5;exact 6;exact 7;exact 8;exact 9;exact 10;exact 11
noncomputable def SL.ctorIdx(t:SL):Nat:=by cases (t);exact 0;exact 1
noncomputable def iI(n:Nat)(i:Int):Nat:=(max 0 (min (if i < 0 then i+n else i) n)).toNat
noncomputable def au{α:Type}(l:List α)(lo hi:Option Int):List α:=
 (l.drop ((lo.map (iI l.length)).getD 0)).take ((hi.map (iI l.length)).getD l.length - (lo.map (iI l.length)).getD 0)
noncomputable def index(n:Nat)(i:Int):Option Nat:=if 0<=i then (if i < n then some i.toNat else none) else (if 0<=i+n then some (i+n).toNat else none)
noncomputable def av(x:Str):List Nat:=x.cps.toList
noncomputable def ar(l:List Nat):Str:=⟨l.toArray⟩
noncomputable def LIM:Nat:=1000000
noncomputable def oc{α γ:Type}(o:Option α)(f:α->γ)(z:γ):γ:=match o with
 | some a=>f a
 | none=>z
noncomputable def b2{α β γ:Type}(o:Option α)(p:Option β)(f:α->β->γ)(z:γ):γ:=oc o (λa=>oc p (λb=>f a b) z) z
variable {α γ:Type}
theorem dZ(o:Option α)(f:α->γ)(z:γ):(∃ a,o=some a/\oc o f z=f a)\/oc o f z=z:=by
 cases o with
 | none=>exact .inr rfl
 | some a=>exact .inl ⟨a,rfl,rfl⟩
theorem mx{β:Type}(o:Option α)(p:Option β)(f:α->β->γ)(z:γ):(∃ a b,o=some a/\p=some b/\b2 o p f z=f a b)\/b2 o p f z=z:=by
 cases o with
 | none=>exact .inr rfl
 | some a=>cases p with
   | none=>exact .inr rfl
   | some b=>exact .inl ⟨a,b,rfl,rfl,rfl⟩
noncomputable def bK:V->Option PyData
 | .d x=>some x
 | _=>none
noncomputable def Cj:PyData->Option Int
 | .int i=>some i
 | _=>none
noncomputable def DG:PyData->Option Str
 | .str i=>some i
 | _=>none
noncomputable def JG:PyData->Option Bool
 | .bool i=>some i
 | _=>none
noncomputable def Dw:PyData->Option (List PyData)
 | .tuple i=>some i
 | _=>none
noncomputable def ci(v:V):Option Int:=(bK v).bind Cj
noncomputable def kM(v:V):Option Str:=(bK v).bind DG
noncomputable def Bu(v:V):Option Bool:=(bK v).bind JG
noncomputable def ie(v:V):Option (List PyData):=(bK v).bind Dw
variable {v:V}
theorem ch{x:PyData}(h:bK v=some x):v=.d x:=by cases v <;> first | ((injection h with e0_;subst e0_);rfl) | injection h
theorem uT{v:PyData}{x:Int}(h:Cj v=some x):v=.int x:=by cases v <;> first | ((injection h with e0_;subst e0_);rfl) | injection h
theorem oS{v:PyData}{x:Str}(h:DG v=some x):v=.str x:=by cases v <;> first | ((injection h with e0_;subst e0_);rfl) | injection h
theorem Gj{v:PyData}{x:Bool}(h:JG v=some x):v=.bool x:=by cases v <;> first | ((injection h with e0_;subst e0_);rfl) | injection h
variable {x:List PyData}
theorem ui{v:PyData}(h:Dw v=some x):v=.tuple x:=by cases v <;> first | ((injection h with e0_;subst e0_);rfl) | injection h
theorem cO{x:Int}(h:ci v=some x):v=.d (.int x):=by obtain⟨y,h1,h2⟩:=Qo.mp h;rw[ch h1,uT h2]
theorem eO{x:Str}(h:kM v=some x):v=.d (.str x):=by obtain⟨y,h1,h2⟩:=Qo.mp h;rw[ch h1,oS h2]
theorem rL{x:Bool}(h:Bu v=some x):v=.d (.bool x):=by obtain⟨y,h1,h2⟩:=Qo.mp h;rw[ch h1,Gj h2]
theorem dP(h:ie v=some x):v=.d (.tuple x):=by obtain⟨y,h1,h2⟩:=Qo.mp h;rw[ch h1,ui h2]
noncomputable def one{α:Type}:List α->Option α
 | [a]=>some a
 | _=>none
noncomputable def two{α:Type}:List α->Option (α×α)
 | [a,b]=>some (a,b)
 | _=>none
variable {a:α}
theorem de{l:List α}(h:one l=some a):l=[a]:=by
 cases l with
 | nil=>injection h
 | cons x l=>cases l with
   | nil=>(injection h with e0_;subst e0_);rfl
   | cons _ _=>injection h
theorem iM{l:List α}{b:α}(h:two l=some (a,b)):l=[a,b]:=by
 cases l with
 | nil=>injection h
 | cons x l=>cases l with
   | nil=>injection h
   | cons y l=>cases l with
     | nil=>(injection h with e0_;injection e0_ with e0_ f0_;subst e0_;subst f0_);rfl
     | cons _ _=>injection h
noncomputable def EI:Cell->Option (List PyData)
 | .lst l=>some l
 | _=>none
noncomputable def OK:Cell->Option (List (Str×PyData))
 | .dct l=>some l
 | _=>none
noncomputable def Nu:V->Option (Nat×List (Str×Nat))
 | .inst k l=>some (k,l)
 | _=>none
noncomputable def fM(σ:ac)(n:Nat):Option (List PyData):=σ[n]?.bind EI
noncomputable def ee(σ:ac)(n:Nat):Option (List (Str×PyData)):=σ[n]?.bind OK
variable {n:Nat}{σ:ac}
theorem fj{l:List PyData}(h:fM σ n=some l):σ[n]?=some (.lst l):=by obtain⟨c,h1,h2⟩:=Qo.mp h;rw[h1];cases c <;> first | ((injection h2 with e0_;subst e0_);rfl) | injection h2
variable {l:List (Str×PyData)}
theorem gu(h:ee σ n=some l):σ[n]?=some (.dct l):=by obtain⟨c,h1,h2⟩:=Qo.mp h;rw[h1];cases c <;> first | ((injection h2 with e0_;subst e0_);rfl) | injection h2
theorem jP{l:List PyData}(h:σ[n]?=some (.lst l)):fM σ n=some l:=by unfold fM;rw[h];rfl
theorem jY(h:σ[n]?=some (.dct l)):ee σ n=some l:=by unfold ee;rw[h];rfl
noncomputable def oH:V->Option Nat
 | .loc n=>some n
 | _=>none
theorem gG(h:oH v=some n):v=.loc n:=by cases v <;> first | ((injection h with e0_;subst e0_);rfl) | injection h
noncomputable def ql:V->Option Unit
 | .d .none=>some ()
 | _=>none
variable {u:Unit}
set_option tactic.hygienic true in
theorem qk(h:ql v=some u):v=.d .none:=by
 cases v
 case d x=>cases x <;> first | rfl | injection h
 all_goals injection h
noncomputable def Lf:PyData->Option (List PyData)
 | .list i=>some i
 | _=>none
theorem HO{v:PyData}(h:Lf v=some x):v=.list x:=by cases v <;> first | ((injection h with e0_;subst e0_);rfl) | injection h
noncomputable def aE(σ:ac):V->Option (List PyData)
 | .d x=>Lf x
 | .loc n=>fM σ n
 | _=>none
noncomputable def fu(σ:ac):V->Option (List (Str×PyData))
 | .loc n=>ee σ n
 | _=>none
noncomputable def N6(σ:ac):V->Option PyData
 | .d x=>some x
 | .loc n=>(fM σ n).map PyData.list
 | _=>none
noncomputable def aM(m:Bool)(l:List PyData)(σ:ac):Res V:=
 if m then .ok (.loc σ.length) (σ++[.lst l]) else .ok (.d (.list l)) σ
noncomputable def Ol:PyData->Option Bool
 | .none=>some false
 | .bool b=>some b
 | .int i=>some (i != 0)
 | .str x=>some (x.cps.size != 0)
 | .list l=>some (!l.isEmpty)
 | .tuple l=>some (!l.isEmpty)
 | _=>none
noncomputable def truthy(σ:ac):V->Option Bool
 | .d x=>Ol x
 | .loc n=>oc (fM σ n) (λl=>some (!l.isEmpty)) (oc (ee σ n) (λl=>some (!l.isEmpty)) none)
 | _=>none
noncomputable def tz(a b:Int):Bool:=decide (a.natAbs < 9223372036854775808)||decide (b.natAbs < 9223372036854775808)
noncomputable def cZ(op:BOp)(m:Bool)(a b:V)(σ:ac):Res V:=match op with
 | .add=>b2 (ci a) (ci b) (λx y=>.ok (.d (.int (x+y))) σ)
   (b2 (kM a) (kM b) (λx y=>if x.cps.size+y.cps.size<=LIM then .ok (.d (.str (ar (av x++av y)))) σ else .bad)
   (b2 (ie a) (ie b) (λx y=>if x.length+y.length<=LIM then .ok (.d (.tuple (x++y))) σ else .bad)
   (b2 (aE σ a) (aE σ b) (λx y=>if x.length+y.length<=LIM then aM m (x++y) σ else .bad) .bad)))
 | .sub=>b2 (ci a) (ci b) (λx y=>.ok (.d (.int (x - y))) σ) .bad
 | .mul=>b2 (ci a) (ci b) (λx y=>if tz x y then .ok (.d (.int (x * y))) σ else .bad)
   (b2 (kM a) (ci b) (λx n=>if 0<=n/\n<=1000/\x.cps.size<=1000 then .ok (.d (.str (ar (List.replicate n.toNat (av x)).flatten))) σ else .bad) .bad)
 | .fdiv=>b2 (ci a) (ci b) (λx y=>if 0 < y/\y < 9223372036854775808 then .ok (.d (.int (x / y))) σ else .bad) .bad
 | .mod=>b2 (ci a) (ci b) (λx y=>if 0 < y then .ok (.d (.int (x % y))) σ else .bad) .bad
 | .pow _=>b2 (ci a) (ci b) (λx y=>if x=10/\y=20 then .ok (.d (.int 100000000000000000000)) σ else .bad) .bad
noncomputable def LS(a b:PyData):Option Bool:=if min a.depth b.depth<=64 then some (a.eqv b) else none
noncomputable def vn(a b:List (Str×PyData)):Bool:=a.all λkv=>match b.lookup kv.1 with
 | some y=>kv.2.eqv y
 | none=>false
noncomputable def FG:PyData->Bool
 | .none | .bool _ | .int _ | .str _=>true
 | _=>false
noncomputable def Mt(σ:ac)(a b:V):Option Bool:=b2 (N6 σ a) (N6 σ b) LS
 (b2 (fu σ a) (fu σ b) (λx y=>if (x.all λkv=>FG kv.2)&&(y.all λkv=>FG kv.2) then some (x.length==y.length&&vn x y) else none) none)
noncomputable def AN:List PyData->List PyData->Option Bool
 | [],[]=>some false
 | [],_::_=>some true
 | _::_,[]=>some false
 | x::xs,y::ys=>b2 (Cj x) (Cj y) (λx y=>if x=y then AN xs ys else some (decide (x < y))) none
noncomputable def AU:PyData->Bool
 | .none=>true
 | _=>false
noncomputable def xg(x:PyData)(l:List PyData):Option Bool:=if min (PyData.depthAll l) x.depth<=64 then some (l.any λy=>y.eqv x) else none
noncomputable def bq.inV(a b:V)(σ:ac):Option Bool:=oc (bK a) (λx=>
 b2 (DG x) (kM b) (λx y=>if x.cps.size=1 then some ((av y).any λc=>av x==[c]) else none)
 (oc (ie b) (λl=>xg x l)
 (oc (aE σ b) (λl=>xg x l)
 (b2 (DG x) (fu σ b) (λk kvs=>some (kvs.lookup k).isSome) none)))) none
noncomputable def bq(op:COp)(a b:V)(σ:ac):Option Bool:=match op with
 | .eq=>Mt σ a b
 | .ne=>(Mt σ a b).map (!·)
 | .lt=>b2 (ci a) (ci b) (λx y=>some (decide (x < y))) none
 | .le=>b2 (ci a) (ci b) (λx y=>some (decide (x<=y))) none
 | .gt=>b2 (ci a) (ci b) (λx y=>some (decide (x > y))) none
 | .ge _=>b2 (ci a) (ci b) (λx y=>some (decide (x≥y))) (b2 (ie a) (ie b) (λx y=>(AN x y).map (!·)) none)
 | .isN=>oc (ql b) (λ_=>oc (bK a) (λx=>some (AU x)) (oc (oH a) (λ_=>some false) none)) none
 | .isNotN=>oc (ql b) (λ_=>oc (bK a) (λx=>some (!AU x)) (oc (oH a) (λ_=>some true) none)) none
 | .isIn=>bq.inV a b σ
 | .notIn=>(bq.inV a b σ).map (!·)
noncomputable def Jv:V->Option (List Nat)
 | .locs l=>some l
 | _=>none
theorem EP{l:List Nat}(h:Jv v=some l):v=.locs l:=by cases v <;> first | ((injection h with e0_;subst e0_);rfl) | injection h
noncomputable def c8(a i:V)(σ:ac):Option V:=oc (ci i) (λi=>
 oc (ie a) (λl=>(index l.length i).bind λk=>(l[k]?).map V.d)
 (oc (kM a) (λx=>(index (av x).length i).bind λk=>((av x)[k]?).map λc=>V.d (.str (ar [c])))
 (oc (Jv a) (λl=>if 0<=i then (l[i.toNat]?).map V.loc else none)
 (oc (aE σ a) (λl=>if 0<=i then (l[i.toNat]?).map V.d else none) none))))
 (b2 (kM i) (fu σ a) (λk kvs=>(kvs.lookup k).map V.d) none)
noncomputable def cx:Option V->Option (Option Int)
 | none=>some none
 | some (.d (.int i))=>some (some i)
 | some _=>none
noncomputable def eB(m:Bool)(a:V)(lo hi:Option V)(σ:ac):Res V:=b2 (cx lo) (cx hi) (λl h=>oc (ie a) (λx=>.ok (.d (.tuple (au x l h))) σ)
 (oc (kM a) (λx=>.ok (.d (.str (ar (au (av x) l h)))) σ) (oc (aE σ a) (λx=>aM m (au x l h) σ) .bad))) .bad
noncomputable def ek(k:Str)(v:PyData)(kvs:List (Str×PyData)):List (Str×PyData):=
 if kvs.any (λx=>decide (x.1=k)) then kvs.map λx=>if x.1=k then (x.1,v) else x else kvs++[(k,v)]
noncomputable def dX(kvs more:List (Str×PyData)):List (Str×PyData):=more.foldl (λacc x=>ek x.1 x.2 acc) kvs
noncomputable def jr(x y:Str):Bool:=decide (av x < av y)
noncomputable def fJ(x:Str):List Str->List Str
 | []=>[x]
 | y::r=>if jr y x then y::fJ x r else x::y::r
noncomputable def bW:List Str->List Str
 | []=>[]
 | x::r=>fJ x (bW r)
noncomputable def cn:List Str->List Str
 | []=>[]
 | x::r=>if x∈r then cn r else x::cn r
noncomputable def gU:List PyData->Option (List Str)
 | []=>some []
 | .str x::r=>(gU r).map (x::·)
 | _=>none
noncomputable def eg:List PyData->Option (List Bool)
 | []=>some []
 | .bool x::r=>(eg r).map (x::·)
 | _=>none
noncomputable def mH:Ty->Ty->Bool
 | .list,.list=>true
 | .int,.int=>true
 | .bool,.bool=>true
 | .str,.str=>true
 | .tuple,.tuple=>true
 | _,_=>false
noncomputable def PO(t:Ty):PyData->Option Bool
 | .bool _=>if mH t .bool then some true else none
 | .int _=>if mH t .list then none else some (mH t .int)
 | .str _=>if mH t .str||mH t .tuple then some (mH t .str) else none
 | .list _=>if mH t .list then some true else none
 | .tuple _=>if mH t .tuple||mH t .str then some (mH t .tuple) else none
 | .none=>if mH t .tuple||mH t .str then some false else none
 | _=>none
noncomputable def Pj(t:Ty)(σ:ac):V->Option Bool
 | .d x=>PO t x
 | .loc n=>if mH t .list then (fM σ n).map λ_=>true else none
 | _=>none
noncomputable def yn(b:Bi)(m:Bool)(vs:List V)(σ:ac):Res V:=match b with
 | .len=>oc (one vs) (λa=>oc (ie a) (λl=>.ok (.d (.int l.length)) σ) (oc (kM a) (λx=>.ok (.d (.int (av x).length)) σ) (oc (aE σ a) (λl=>.ok (.d (.int l.length)) σ) .bad))) .bad
 | .list=>oc (one vs) (λa=>oc (ie a) (λl=>aM m l σ) (oc (aE σ a) (λl=>aM m l σ) (oc (fu σ a) (λkvs=>aM m (kvs.map λx=>.str x.1) σ) .bad))) .bad
 | .dict=>.bad
 | .int=>oc (one vs) (λa=>oc (Bu a) (λb=>.ok (.d (.int (if b then 1 else 0))) σ) .bad) .bad
 | .max=>oc (two vs) (λa=>b2 (ci a.1) (ci a.2) (λx y=>.ok (.d (.int (if y > x then y else x))) σ) .bad) .bad
 | .tuple=>oc (one vs) (λa=>oc (aE σ a) (λl=>.ok (.d (.tuple l)) σ) .bad) .bad
 | .sorted=>oc (one vs) (λa=>oc ((aE σ a).bind gU) (λl=>if l.length < 64 then aM m ((bW l).map .str) σ else .bad) .bad) .bad
 | .any=>.bad
 | .all=>oc (one vs) (λa=>oc ((aE σ a).bind eg) (λl=>.ok (.d (.bool (l.all id))) σ) .bad) .bad
 | .sortedSet=>oc (one vs) (λa=>oc ((aE σ a).bind gU) (λl=>if l.length < 2000/\(cn l).length < 64 then aM m ((bW (cn l)).map .str) σ else .bad) .bad) .bad
 | .isinst t=>oc (one vs) (λa=>oc (Pj t σ a) (λb=>.ok (.d (.bool b)) σ) .bad) .bad
noncomputable def GM(b:Me)(o:V)(vs:List V)(σ:ac):Res V:=match b with
 | .append=>oc (one vs) (λa=>b2 (oH o) (bK a) (λn x=>oc (fM σ n) (λl=>if l.length < LIM then .ok (.d .none) (σ.set n (.lst (l++[x]))) else .bad) .bad) .bad) .bad
 | .extend=>oc (one vs) (λb=>oc (oH o) (λn=>b2 (fM σ n) (aE σ b) (λl y=>if l.length+y.length<=LIM then .ok (.d .none) (σ.set n (.lst (l++y))) else .bad) .bad) .bad) .bad
 | .pop=>oc (two vs) (λp=>b2 (oH o) (ql p.2) (λn _=>oc (ee σ n) (λkvs=>oc (kM p.1) (λk=>.ok (.d ((kvs.lookup k).getD .none)) (σ.set n (.dct (kvs.filter λx=>!decide (x.1=k))))) (oc (ql p.1) (λ_=>.ok (.d .none) σ) .bad)) .bad) .bad) .bad
 | .count=>oc (one vs) (λa=>b2 (Bu a) ((aE σ o).bind eg) (λx l=>.ok (.d (.int (l.count x:Nat))) σ) .bad) .bad
 | .index=>oc (one vs) (λa=>b2 (Bu a) ((aE σ o).bind eg) (λx l=>if l.idxOf x < l.length then .ok (.d (.int (l.idxOf x:Nat))) σ else .bad) .bad) .bad
 | .update=>oc (one vs) (λb=>b2 (oH o) (oH b) (λn k=>if n≠k then b2 (ee σ n) (ee σ k) (λx y=>if x.length+y.length<=LIM then .ok (.d .none) (σ.set n (.dct (dX x y))) else .bad) .bad else .bad) .bad) .bad
 | _=>.bad
noncomputable def sk(b:Me)(σ:ac)(o:V):Bool:=match b with
 | .get | .update | .pop=>(fu σ o).isSome
 | _=>(aE σ o).isSome
noncomputable def Ms(v:V)(σ:ac):Res V:=oc (oH v) (λn=>oc (fM σ n) (λl=>.ok (.d (.list l)) (σ.set n .gone)) .bad) .bad
noncomputable def Bk(m:Bool)(vs:List V)(σ:ac):Res V:=
 match vs.mapM bK with
 | some l=>aM m l σ
 | none=>match vs.mapM (λv=>match v with | .loc n=>some n | _=>none) with
   | some ns=>if m then .bad else .ok (.locs ns) σ
   | none=>.bad
noncomputable def xP(vs:List V)(σ:ac):Res V:=match vs.mapM bK with
 | some l=>.ok (.d (.tuple l)) σ
 | none=>.bad
noncomputable def b8:List Nat->List PyData->Fm->Fm
 | i::l,x::ds,ρ=>b8 l ds (ρ.set i (.d x))
 | _,_,ρ=>ρ
noncomputable def fz(t:Tgt)(x:PyData)(ρ:Fm):Option Fm:=match t with
 | .var i=>some (ρ.set i (.d x))
 | .tup is=>oc (Dw x) (λl=>if is.length=l.length then some (b8 is l ρ) else none) none
noncomputable def JH(t:Tgt)(v:V)(ρ:Fm):Option Fm:=match t,v with
 | .var i,v=>some (ρ.set i v)
 | .tup is,.d x=>fz (.tup is) x ρ
 | _,_=>none
noncomputable def b9(a b:Int):List PyData:=(List.range (b - a).toNat).map λ(k:Nat)=>.int (a+(k:Int))
noncomputable def ju(l:List PyData):List PyData:=l.zipIdx.map λp=>.tuple [.int p.2,p.1]
noncomputable def tn(v:V)(σ:ac):Option (List PyData×Option Nat):=match v with
 | .d x=>oc (Dw x) (λl=>some (l,none)) (oc (Lf x) (λl=>some (l,none)) (oc (DG x) (λx=>some ((av x).map λc=>.str (ar [c]),none)) none))
 | .loc n=>(fM σ n).map λl=>(l,some n)
 | _=>none
noncomputable def cM(lk:Option Nat)(σ:ac):ac:=match lk with
 | some n=>σ.set n .busy
 | none=>σ
noncomputable def bn(lk:Option Nat)(l:List PyData)(σ:ac):ac:=match lk with
 | some n=>σ.set n (.lst l)
 | none=>σ
noncomputable def gM(f:PyData->ac->Res (Option PyData)):List PyData->ac->Res (List PyData)
 | [],σ=>.ok [] σ
 | x::xs,σ=>(f x σ).bind λo aa=>(gM f xs aa).bind λr ae=>.ok (o.toList++r) ae
inductive Out where
 | next (ρ:Fm)
 | ret (v:V)
 | exc (k:Nat) (ds:List PyData)
noncomputable def Out.ctorIdx(t:Out):Nat:=by cases (t);exact 0;exact 1;exact 2
noncomputable def aY(f:PyData->Fm->ac->Res Out):List PyData->Fm->ac->Res Out
 | [],ρ,σ=>.ok (.next ρ) σ
 | x::xs,ρ,σ=>(f x ρ σ).bind λo aa=>match o with
   | .next bH=>aY f xs bH aa
   | .ret v=>.ok (.ret v) aa
   | .exc k ds=>.ok (.exc k ds) aa
noncomputable def mr(n:Nat)(v:V)(σ:ac):Res V:=match v with
 | .d x=>.ok (.d x) (σ.take n)
 | .loc k=>if k < n then .ok (.loc k) (σ.take n) else match σ[k]? with
   | some (.lst l)=>.ok (.loc n) (σ.take n++[.lst l])
   | some (.dct l)=>.ok (.loc n) (σ.take n++[.dct l])
   | _=>.bad
 | _=>.bad
noncomputable def om(n:Nat)(o:Out)(σ:ac):Res V:=match o with
 | .ret v=>mr n v σ
 | .next _=>mr n (.d .none) σ
 | .exc k ds=>.ok (.exc k ds) (σ.take n)
noncomputable def oM:V->Option (Nat×List PyData)
 | .exc k ds=>some (k,ds)
 | _=>none
noncomputable def iT(v:V)(σ:ac):Res V:=match oM v with
 | some _=>.bad
 | none=>.ok v σ
noncomputable def Ls(k:Nat)(v:V)(σ:ac):Res V:=oc (oM v) (λx=>.ok (.d (.bool (k==x.1||k==0||k==7))) σ) .bad
noncomputable def Pq(t:RT)(v:V)(ρ:Fm)(σ:ac):Res Out:=match t with
 | .drop=>.ok (.next ρ) σ
 | .var i=>.ok (.next (ρ.set i v)) σ
 | .ret=>.ok (.ret v) σ
 | .retL=>oc (bK v) (λx=>.ok (.ret (.d (.list [x]))) σ) .bad
noncomputable def jm(t:RT)(v:V)(ρ:Fm)(σ:ac):Res Out:=match oM v with
 | some x=>.ok (.exc x.1 x.2) σ
 | none=>Pq t v ρ σ
noncomputable def Oh(k:Nat)(vs:List V)(σ:ac):Res Out:=if 1<=k/\k<=5 then .ok (.exc k []) σ else
 if k=6 then oc (two vs) (λp=>b2 (bK p.1) (bK p.2) (λx y=>.ok (.exc 6 [x,y]) σ) .bad) .bad else .bad
noncomputable def o4(cf:Nat->List V->ac->Res V)(h:Hk)(k:Nat)(ds:List PyData)(σ:ac):Res Out:=match h with
   | .kind _ f=>(cf f [.exc k ds] σ).bind λv aa=>(iT v aa).bind λv aa=>.ok (.ret v) aa
   | .none=>.ok (.ret (.d .none)) σ
   | .tup _ f a=>(cf f [.exc k ds] σ).bind λv aa=>oc (bK v) (λx=>if a=true->k=6 then .ok (.ret (.d (.tuple (x::if a then ds else [])))) aa else .bad) .bad
noncomputable def mY(cf:Nat->List V->ac->Res V):List Hd->Nat->List PyData->ac->Res Out
 | [],_,_,_=>.bad
 | h::hs,k,ds,σ=>if h.k=k\/h.k=0 then o4 cf h.h k ds σ else mY cf hs k ds σ
structure Items where
 shown:List PyData
 base:List PyData
 lk:Option Nat
section
variable (G:Nat->Option PyData)(cf:Nat->List V->ac->Res V)
mutual
noncomputable def ag:E->Fm->ac->Res V
 | .none=>λ_ σ=>.ok (.d .none) σ
 | .bool b=>λ_ σ=>.ok (.d (.bool b)) σ
 | .int i=>λ_ σ=>.ok (.d (.int i)) σ
 | .str x=>λ_ σ=>.ok (.d (.str x)) σ
 | .var i=>λρ σ=>match ρ[i]? with
   | some .un=>.bad
   | some v=>.ok v σ
   | none=>.bad
 | .glob g=>λ_ σ=>bj ((G g).map V.d) σ
 | .bin op m a b=>λρ σ=>(ag a ρ σ).bind λx aa=>(ag b ρ aa).bind λy ae=>cZ op m x y ae
 | .neg a=>λρ σ=>(ag a ρ σ).bind λx aa=>oc (ci x) (λi=>.ok (.d (.int (-i))) aa) .bad
 | .not a=>λρ σ=>(ag a ρ σ).bind λx aa=>bj ((truthy aa x).map λb=>V.d (.bool (!b))) aa
 | .bop k es=>λρ σ=>gL k es ρ σ
 | .cmp op a b=>λρ σ=>(ag a ρ σ).bind λx aa=>(ag b ρ aa).bind λy ae=>bj ((bq op x y ae).map λb=>V.d (.bool b)) ae
 | .cmp2 bA fQ a b c=>λρ σ=>(ag a ρ σ).bind λx aa=>(ag b ρ aa).bind λy ae=>(bj (bq bA x y ae) ae).bind λt ae=>if t then (ag c ρ ae).bind λz az=>bj ((bq fQ y z az).map λb=>V.d (.bool b)) az else .ok (.d (.bool false)) ae
 | .ite c a b=>λρ σ=>(ag c ρ σ).bind λx aa=>(bj (truthy aa x) aa).bind λt aa=>if t then ag a ρ aa else ag b ρ aa
 | .tup es=>λρ σ=>(aV es ρ σ).bind λvs aa=>xP vs aa
 | .list m es=>λρ σ=>(aV es ρ σ).bind λvs aa=>Bk m vs aa
 | .dict0=>λ_ σ=>.ok (.loc σ.length) (σ++[.dct []])
 | .idx a i=>λρ σ=>(ag a ρ σ).bind λx aa=>(ag i ρ aa).bind λy ae=>bj (c8 x y ae) ae
 | .slc m a lo hi=>λρ σ=>(ag a ρ σ).bind λx aa=>(dg lo ρ aa).bind λl ae=>(dg hi ρ ae).bind λh az=>eB m x l h az
 | .comp m t it c e=>λρ σ=>(cj it ρ σ).bind λI aa=>
     (gM (λx σ'=>match fz t x ρ with
       | none=>.bad
       | some ρ'=>(dg c ρ' σ').bind λcv ae=>match cv with
         | none=>(ag e ρ' ae).bind λy az=>bj ((bK y).map some) az
         | some cv=>(bj (truthy ae cv) ae).bind λb ae=>if b then (ag e ρ' ae).bind λy az=>bj ((bK y).map some) az else .ok none ae) I.shown (cM I.lk aa++[.busy])).bind λr ae=>
     aM m r ((bn I.lk I.base ae).take aa.length)
 | .call f es=>λρ σ=>(aV es ρ σ).bind λvs aa=>(cf f vs aa).bind iT
 | .bi b m es=>λρ σ=>(aV es ρ σ).bind λvs aa=>yn b m vs aa
 | .meth b o es=>λρ σ=>(ag o ρ σ).bind λx aa=>if sk b aa x then (aV es ρ aa).bind λvs ae=>GM b x vs ae else .bad
 | .freeze e=>λρ σ=>(ag e ρ σ).bind λx aa=>Ms x aa
 | .isx k e=>λρ σ=>(ag e ρ σ).bind λx aa=>Ls k x aa
noncomputable def aV:EL->Fm->ac->Res (List V)
 | .nil=>λ_ σ=>.ok [] σ
 | .cons e es=>λρ σ=>(ag e ρ σ).bind λx aa=>(aV es ρ aa).bind λxs ae=>.ok (x::xs) ae
noncomputable def gL(k:Bool):EL->Fm->ac->Res V
 | .nil=>λ_ _=>.bad
 | .cons e es=>λρ σ=>match es with
   | .nil=>ag e ρ σ
   | es=>(ag e ρ σ).bind λx aa=>(bj (truthy aa x) aa).bind λt aa=>if t=k then gL k es ρ aa else .ok x aa
noncomputable def dg:EO->Fm->ac->Res (Option V)
 | .no=>λ_ σ=>.ok none σ
 | .yes e=>λρ σ=>(ag e ρ σ).bind λx aa=>.ok (some x) aa
noncomputable def cj:It->Fm->ac->Res Items
 | .seq e=>λρ σ=>(ag e ρ σ).bind λx aa=>bj ((tn x aa).map λp=>⟨p.1,p.1,p.2⟩) aa
 | .enum e=>λρ σ=>(ag e ρ σ).bind λx aa=>oc (ie x) (λl=>.ok ⟨ju l,[],none⟩ aa) .bad
 | .range e=>λρ σ=>(ag e ρ σ).bind λx aa=>oc (ci x) (λb=>if -100000<=b/\b<=100000 then .ok ⟨b9 0 b,[],none⟩ aa else .bad) .bad
 | .range2 a b=>λρ σ=>(ag a ρ σ).bind λx aa=>(ag b ρ aa).bind λy ae=>b2 (ci x) (ci y) (λa b=>if (-100000<=a/\a<=100000)/\(-100000<=b/\b<=100000) then .ok ⟨b9 a b,[],none⟩ ae else .bad) .bad
end
mutual
noncomputable def exec:S->Fm->ac->Res Out
 | .expr e=>λρ σ=>(ag G cf e ρ σ).bind λ_ aa=>.ok (.next ρ) aa
 | .asg t e=>λρ σ=>(ag G cf e ρ σ).bind λx aa=>bj ((JH t x ρ).map Out.next) aa
 | .asgT l e=>λρ σ=>(ag G cf e ρ σ).bind λx aa=>oc (ie x) (λds=>if l.length=ds.length then .ok (.next (b8 l ds ρ)) aa else .bad) .bad
 | .put o i e=>λρ σ=>(ag G cf e ρ σ).bind λx aa=>(ag G cf o ρ aa).bind λa ae=>(ag G cf i ρ ae).bind λk az=>oc (bK x) (λx=>b2 (oH a) (kM k) (λn k=>oc (ee az n) (λl=>if l.length < LIM then .ok (.next ρ) (az.set n (.dct (ek k x l))) else .bad) .bad) .bad) .bad
 | .ite c a b=>λρ σ=>(ag G cf c ρ σ).bind λx aa=>(bj (truthy aa x) aa).bind λt aa=>if t then execs a ρ aa else execs b ρ aa
 | .forr t it b=>λρ σ=>(cj G cf it ρ σ).bind λI aa=>
     (aY (λx ρ' σ'=>match fz t x ρ' with
       | none=>.bad
       | some ρ''=>execs b ρ'' σ') I.shown ρ (cM I.lk aa)).bind λo ae=>.ok o (bn I.lk I.base ae)
 | .ret e=>λρ σ=>(ag G cf e ρ σ).bind λx aa=>.ok (.ret x) aa
 | .pass=>λρ σ=>.ok (.next ρ) σ
 | .stop=>λ_ _=>.bad
 | .calls t f es=>λρ σ=>(aV G cf es ρ σ).bind λvs aa=>(cf f vs aa).bind λv ae=>jm t v ρ ae
 | .raise k es=>λρ σ=>(aV G cf es ρ σ).bind λvs aa=>Oh k vs aa
 | .tryS b hs=>λρ σ=>(execs b ρ σ).bind λo aa=>match o with
   | .exc k ds=>mY cf hs k ds aa
   | o=>.ok o aa
noncomputable def execs:SL->Fm->ac->Res Out
 | .nil=>λρ σ=>.ok (.next ρ) σ
 | .cons s r=>λρ σ=>(exec s ρ σ).bind λo aa=>match o with
   | .next bH=>execs r bH aa
   | .ret v=>.ok (.ret v) aa
   | .exc k ds=>.ok (.exc k ds) aa
end
end
structure Fn where
 name:Str
 np:Nat
 slots:List (Str×Nat)
 ns:Nat
 body:SL
 /-- a method of the class Runner -/
 meth:Bool:=false
 /-- its __init__ (body: what stands between the two attributes) -/
 ctor:Bool:=false
structure Prog where
 G:Nat->Option PyData
 P:Nat->Option Fn
noncomputable def NU(n:Nat)(o:Out)(σ:ac):Res V:=match o with
 | .next ρ=>oc (ρ[0]?.bind Nu) (λp=>if p.1=n/\p.2=[(jo,n+2)] then .ok (.inst n [(jo,n+2),(JN,σ.length)]) (σ++[.lst []]) else .bad) .bad
 | _=>.bad
noncomputable def Bn(p:Prog)(d:Nat)(fn:Fn)(args:List V)(σ:ac):Res V:=if args.length+1=fn.np/\2<=d/\(args.all λv=>(bK v).isSome)=true then
   (execs p.G (λ_ _ _=>.bad) fn.body ((.inst σ.length [(jo,σ.length+2)]::args)++List.replicate (fn.ns - fn.np) .un) (σ++[.gone,.gone,.dct []])).bind λo aa=>NU σ.length o aa
 else .bad
noncomputable def af(p:Prog):Nat->Nat->List V->ac->Res V
 | 0,_,_,_=>.bad
 | d+1,f,args,σ=>match p.P f with
   | none=>.bad
   | some fn=>if fn.ctor then Bn p d fn args σ else if args.length=fn.np then
       (execs p.G (af p d) fn.body (args++List.replicate (fn.ns - fn.np) .un) σ).bind λo aa=>om σ.length o aa
     else .bad
inductive X2{ta tb:Type}(P:ta->tb->Prop):Prop where
 | mk (a:ta) (b:tb) (h:P a b):X2 P
inductive X3{ta tb tc:Type}(P:ta->tb->tc->Prop):Prop where
 | mk (a:ta) (b:tb) (c:tc) (h:P a b c):X3 P
inductive X4{ta tb tc td:Type}(P:ta->tb->tc->td->Prop):Prop where
 | mk (a:ta) (b:tb) (c:tc) (d:td) (h:P a b c d):X4 P
inductive X5{ta tb tc td te:Type}(P:ta->tb->tc->td->te->Prop):Prop where
 | mk (a:ta) (b:tb) (c:tc) (d:td) (e:te) (h:P a b c d e):X5 P
inductive X6{ta tb tc td te tf:Type}(P:ta->tb->tc->td->te->tf->Prop):Prop where
 | mk (a:ta) (b:tb) (c:tc) (d:td) (e:te) (f:tf) (h:P a b c d e f):X6 P
inductive X7{ta tb tc td te tf tg:Type}(P:ta->tb->tc->td->te->tf->tg->Prop):Prop where
 | mk (a:ta) (b:tb) (c:tc) (d:td) (e:te) (f:tf) (g:tg) (h:P a b c d e f g):X7 P
inductive X8{ta tb tc td te tf tg th:Type}(P:ta->tb->tc->td->te->tf->tg->th->Prop):Prop where
 | mk (a:ta) (b:tb) (c:tc) (d:td) (e:te) (f:tf) (g:tg) (h:th) (h:P a b c d e f g h):X8 P
inductive X9{ta tb tc td te tf tg th ti:Type}(P:ta->tb->tc->td->te->tf->tg->th->ti->Prop):Prop where
 | mk (a:ta) (b:tb) (c:tc) (d:td) (e:te) (f:tf) (g:tg) (h:th) (i:ti) (h:P a b c d e f g h i):X9 P
inductive A3(pa pb pc:Prop):Prop where
 | mk (a:pa) (b:pb) (c:pc):A3 pa pb pc
inductive A4(pa pb pc pd:Prop):Prop where
 | mk (a:pa) (b:pb) (c:pc) (d:pd):A4 pa pb pc pd
inductive A5(pa pb pc pd pe:Prop):Prop where
 | mk (a:pa) (b:pb) (c:pc) (d:pd) (e:pe):A5 pa pb pc pd pe
inductive A6(pa pb pc pd pe pf:Prop):Prop where
 | mk (a:pa) (b:pb) (c:pc) (d:pd) (e:pe) (f:pf):A6 pa pb pc pd pe pf
inductive A7(pa pb pc pd pe pf pg:Prop):Prop where
 | mk (a:pa) (b:pb) (c:pc) (d:pd) (e:pe) (f:pf) (g:pg):A7 pa pb pc pd pe pf pg
inductive A8(pa pb pc pd pe pf pg ph:Prop):Prop where
 | mk (a:pa) (b:pb) (c:pc) (d:pd) (e:pe) (f:pf) (g:pg) (h:ph):A8 pa pb pc pd pe pf pg ph
inductive A9(pa pb pc pd pe pf pg ph pi:Prop):Prop where
 | mk (a:pa) (b:pb) (c:pc) (d:pd) (e:pe) (f:pf) (g:pg) (h:ph) (i:pi):A9 pa pb pc pd pe pf pg ph pi
theorem iG{β:Type}{v:β}{f:α->β}{P:β->Prop}(h:∃ p,v=f p)(k:∀ p,P (f p)):P v:=by obtain⟨p,e⟩:=h;exact e▸k p
theorem GP{β:Type}{v:β}{f:α->γ->β}{P:β->Prop}(h:X2 λp q=>v=f p q)(k:∀ p q,P (f p q)):P v:=by obtain⟨p,q,e⟩:=h;exact e▸k p q
theorem Cy{β:Type}{v:β}{f:α->β}{Q:α->Prop}{P:β->Prop}(h:∃ p,v=f p/\Q p)(k:∀ p,Q p->P (f p)):P v:=by obtain⟨p,e,q⟩:=h;exact e▸k p q
theorem NP{β:Type}{v:β}{f:α->β}{Q:α->Prop}{P:β->Prop}(h:∃ p,Q p/\v=f p)(k:∀ p,Q p->P (f p)):P v:=by obtain⟨p,q,e⟩:=h;exact e▸k p q
theorem Bg{β:Type}{v w:β}{P:β->Prop}(h:v=w)(k:P w):P v:=h▸k
variable {G:Prop}
theorem kk(h:∀ K:Prop,(G->K)->K):G:=h G id
open PySem.Calls
noncomputable def ob{α:Type}(o:Option α)(f:α->Bool):Bool:=match o with
 | some a=>f a
 | none=>false
noncomputable def cB{α:Type}(n m:Nat)(k:n=m->α):Option α:=if h:n=m then some (k h) else none
noncomputable def fm(ex:Expr):Option (Str):=cB ex.ctorIdx 23 λe=>Expr.Name.elim (motive_1:=λ_=>Str) ex e λa0 _=>a0
noncomputable def Bd(ex:Expr):Option (Expr×Str×Pos):=cB ex.ctorIdx 20 λe=>Expr.Attribute.elim (motive_1:=λ_=>Expr×Str×Pos) ex e λa0 a1 a2=>(a0,a1,a2)
noncomputable def bV (x:Str):Bool:=!(x==("__debug__":Str))&&!(x==("__classdict__":Str))
noncomputable def lg:Nat->Str
 | 0=>"TurnError"
 | 1=>"NoPlace"
 | 2=>"NoName"
 | 3=>"Taken"
 | 4=>"NoCall"
 | 5=>"Unlike"
 | 6=>"Clash"
 | _=>"ValueError"
noncomputable abbrev fc:List Value:=[.type "ValueError",.type "Exception",.type "BaseException",.type "object"]
noncomputable def dG(k:Nat):List Value:=if k=0 then fc else .ref (KA 0)::fc
noncomputable def dN:List Str:=["__getattribute__","__getattr__","__class__","__setattr__",jn,dj]
noncomputable def yF(ex:Stmt):Option (List Expr×Expr):=cB ex.ctorIdx 5 λe=>Stmt.Assign.elim (motive_2:=λ_=>List Expr×Expr) ex e λa0 a1 _=>(a0,a1)
noncomputable def jJ(a:Arguments):Bool:=a.posonlyargs.isEmpty&&a.vararg.isNone&&a.kwonlyargs.isEmpty&&a.kw_defaults.isEmpty&&a.kwarg.isNone&&a.defaults.isEmpty
noncomputable def Ju(n x:Str)(v:Expr):Bool:=ob (Bd v) λq=>ob (fm q.1) λn'=>decide (n'=n)&&decide (q.2.1=x)
noncomputable def EG(p f n:Str)(st:Stmt):Bool:=ob (yF st) λq=>ob (one q.1) λt=>Ju p f t&&ob (fm q.2) λm=>decide (m=n)
noncomputable def Fk:FuncBody->Option (List Stmt)
 | .stmts b=>some b
 | _=>none
noncomputable def DA:List Str->Option (Str×Str×Str)
 | [a,b,c]=>some (a,b,c)
 | _=>none
noncomputable def PB(fd:FuncData)(p0 p1 p2:Str)(b:List Stmt):Bool:=ob (two b) λq=>EG p0 jn p1 q.1&&EG p0 dj p2 q.2
noncomputable def PZ(fd:FuncData)(p0 p1 p2:Str):Bool:=([p0,p1,p2].all λp=>decide (fd.scope.names.lookup p=some .local)&&bV p)&&decide (p1≠p0/\p2≠p0/\p2≠p1)
noncomputable def PY(h:Heap)(fd:FuncData):Bool:=decide (fd.globals=mainGlobals)&&(fd.closure.isEmpty&&(decide (fd.defaults=.none)&&(decide (fd.kwdefaults=.none)&&(fd.annotations.isNone&&(decide (fd.closureTuple=.none)&&(decide (fd.builtins=builtinsNs)&&(h.codeRecOk fd.code fd.qualname&&(decide (fd.scope.kind=.function)&&(!fd.scope.isCoroutine&&!fd.scope.isGenerator)))))))))
noncomputable def PA(h:Heap)(fd:FuncData):Bool:=jJ fd.params&&(PY h fd&&(ob (Fk fd.body) λb=>ob (DA (fd.params.args.map (·.arg))) λp=>PB fd p.1 p.2.1 p.2.2 b&&PZ fd p.1 p.2.1 p.2.2))
noncomputable def Lz (h:Heap) (ns:Addr):Bool:=match h.fnAt ns "__init__" with
 | some (_,o,fd)=>decide (o.cls=.type "function")&&PA h fd
 | none=>false
noncomputable def I9(h:Heap)(k:Nat):Bool:=match h.clsAt mainGlobals (lg k) with
 | some (a,o,cd)=>decide (a=KA k)&&o.cls==.type "type"&&cd.mro==.ref (KA k)::dG k&&!cd.hasDel&&o.slots.size==6&&o.slots[4]?==some (some (.builtin "ValueError.__new__"))&&h.isNs cd.ns&&dN.all (λn=>(h.nsMap cd.ns n).isNone)&&(decide (k=6)||(h.nsMap cd.ns "__init__").isNone)&&(!decide (k=6)||(cd.hasDict&&Lz h cd.ns))
 | none=>false
noncomputable def xChk(h:Heap):Bool:=(List.range 7).all (I9 h)
set_option maxRecDepth 100000
open PySem.W PyProof.Rows
noncomputable def KN(p:Program)(w:World)(N:Nat)(c5:Shared):Option Shared:=
 cond (c5.heap.isNs mainGlobals&&c5.gens.size==0) ((Fast.tw14082659384304107361 Fast.tw14364793385576792824 p w c5.heap.objs.size (c5.heap.nsMap mainGlobals "__annotations__") N c5 (topStub p)).bind λai=>cond (staticsOk (importedModules p.main.body) c5.heap ai.heap&&namesBound p ai.heap&&gensDone ai&&laidKept c5.heap ai.heap) (some ai) none) none
noncomputable def Jl(p:Program)(w:World)(N:Nat):Option Shared:=
 ((Fast.tw10274390034422433532 Fast.tw14364793385576792824 (opening p) w N (Fast.tw1435165496053646825 (opening p)).1 (Fast.tw1435165496053646825 (opening p)).2).bind (Fast.tw14289696077712309145 p)).bind (KN p w N)
theorem Hw(p:Program)(w:World)(N:Nat):topFrom treeTable p w N=KN p w N:=by
 funext s;unfold topFrom KN;rw[Fast.te14082659384304107361,Fast.te14364793385576792824];cases (s.heap.isNs mainGlobals&&s.gens.size==0) with
 | false=>rfl
 | true=>refine congrArg (Option.bind _) (funext λai=>?_);cases (staticsOk (importedModules p.main.body) s.heap ai.heap&&namesBound p ai.heap&&gensDone ai&&laidKept s.heap ai.heap) <;> rfl
theorem D7(p:Program)(w:World)(N:Nat):openEnds treeTable p w N=Jl p w N:=by unfold openEnds Jl fencedOpening;rw[Hw,Fast.te14289696077712309145,Fast.te10274390034422433532,Fast.te1435165496053646825,Fast.te14364793385576792824]
noncomputable def q10:Program:=PySem.W.view PySem.Challenge.pw_uf010014_10 [1,2,3,4,5,6,7,9,10,11,12,13,15,16,17,18,19,20,21,22,24,25,26,27,28,30,31,32,33,34,35,36,37,38,39,40,41,43,44,45,46,47,48,49,50,51,52,53,54,55,56,57,58,59,60,61,62,63,64,65,66,67,68,69,70,71,72,73,74,75]
theorem said10:OpenLaw.wellSaid PySem.Challenge.rw_uf010014_10=true:=by kernel_rfl
theorem left10:LeftO PySem.Challenge.pw_uf010014_10 q10 [] (λs=>(xlAt q10 [] s&&recOk (RowW.records (OpenRow.toRowW (OpenLaw.row PySem.Challenge.rw_uf010014_10))) s)&&xChk s.heap) (Hook.obs Hook.none) (Hook.val Hook.none) 6000:=λw=>by
 rw[D7,Fast.te4187177175401517315]
 kernel_rfl
set_option linter.unusedVariables false
variable {I:Items}{x:PyData}{σ':ac}{o:Option α}{r:Res γ}{c:γ}
section
variable (G:Nat->Option PyData)(cf:Nat->List V->ac->Res V)(ρ:Fm)(σ:ac)
theorem lI{α:Sort _}{a b:α}(h:a=b):a=b:=h
theorem s0{β:Type}(a:α)(σ:ac)(f:α->ac->Res β):(Res.ok a σ).bind f=f a σ:=lI rfl
noncomputable def Nq(o:Option V)(σ:ac):Res V:=match o with
 | some .un=>.bad
 | some v=>.ok v σ
 | none=>.bad
theorem HP{o:Option V}{σ:ac}{c:V}(h:Nq o σ=.ok c σ'):o=some c/\c≠.un/\σ'=σ:=by
 cases o with
 | none=>injection h
 | some v=>cases v <;> first | ((injection h with e0_ f0_;subst e0_;subst f0_);exact⟨rfl,(λq=>nomatch q),rfl⟩) | injection h
theorem LV(i:Nat):ag G cf (.var i) ρ σ=Nq ρ[i]? σ:=lI rfl
theorem II(g:Nat):ag G cf (.glob g) ρ σ=bj ((G g).map V.d) σ:=lI rfl
theorem LX(op:BOp)(m:Bool)(a b:E):ag G cf (.bin op m a b) ρ σ=(ag G cf a ρ σ).bind λx aa=>(ag G cf b ρ aa).bind λy ae=>cZ op m x y ae:=lI rfl
noncomputable def OB(x:V)(σ:ac):Res V:=oc (ci x) (λi=>.ok (.d (.int (-i))) σ) .bad
theorem LW(a:E):ag G cf (.neg a) ρ σ=(ag G cf a ρ σ).bind λx aa=>OB x aa:=lI rfl
theorem FX(a:E):ag G cf (.not a) ρ σ=(ag G cf a ρ σ).bind λx aa=>bj ((truthy aa x).map λb=>V.d (.bool (!b))) aa:=lI rfl
noncomputable def HA(k:Bool)(t:Bool)(a b:Res V):Res V:=if t=k then a else b
theorem Bj(bA fQ:COp)(a b c:E):ag G cf (.cmp2 bA fQ a b c) ρ σ=(ag G cf a ρ σ).bind λx aa=>(ag G cf b ρ aa).bind λy ae=>(bj (bq bA x y ae) ae).bind λt ae=>HA true t ((ag G cf c ρ ae).bind λz az=>bj ((bq fQ y z az).map λb=>V.d (.bool b)) az) (.ok (.d (.bool false)) ae):=lI rfl
noncomputable def Ps(b:Bool){α:Type}(r:Res α):Res α:=if b then r else .bad
theorem FV:aV G cf .nil ρ σ=.ok [] σ:=lI rfl
theorem IF(e:E)(es:EL):aV G cf (.cons e es) ρ σ=(ag G cf e ρ σ).bind λx aa=>(aV G cf es ρ aa).bind λxs ae=>.ok (x::xs) ae:=lI rfl
theorem LU(e:E):cj G cf (.seq e) ρ σ=(ag G cf e ρ σ).bind λx aa=>bj ((tn x aa).map λp=>⟨p.1,p.1,p.2⟩) aa:=lI rfl
theorem IG(e:E):cj G cf (.enum e) ρ σ=(ag G cf e ρ σ).bind λx aa=>oc (ie x) (λl=>.ok ⟨ju l,[],none⟩ aa) .bad:=lI rfl
noncomputable def yG(x:V)(σ:ac):Res Items:=oc (ci x) (λb=>if -100000<=b/\b<=100000 then .ok ⟨b9 0 b,[],none⟩ σ else .bad) .bad
theorem BX{x:V}{σ:ac}(h:yG x σ=.ok I σ'):∃ b:Int,x=.d (.int b)/\(-100000<=b/\b<=100000)/\I=⟨b9 0 b,[],none⟩/\σ'=σ:=by
 unfold yG at h;rcases dZ (ci x) (λb=>if -100000<=b/\b<=100000 then Res.ok (⟨b9 0 b,[],none⟩:Items) σ else .bad) .bad with ⟨b,hb,e⟩ | e
 . rw[e] at h;by_cases hc:-100000<=b/\b<=100000
   . rw[if_pos hc] at h;(injection h with e0_ f0_;subst e0_;subst f0_);exact⟨b,cO hb,hc,rfl,rfl⟩
   . rw[if_neg hc] at h;injection h
 . rw[e] at h;injection h
noncomputable def uB(x y:V)(σ:ac):Res Items:=b2 (ci x) (ci y) (λa b=>if (-100000<=a/\a<=100000)/\(-100000<=b/\b<=100000) then .ok ⟨b9 a b,[],none⟩ σ else .bad) .bad
theorem yH{x y:V}{σ:ac}(h:uB x y σ=.ok I σ'):∃ a b:Int,x=.d (.int a)/\y=.d (.int b)/\((-100000<=a/\a<=100000)/\(-100000<=b/\b<=100000))/\I=⟨b9 a b,[],none⟩/\σ'=σ:=by
 unfold uB at h;rcases mx (ci x) (ci y) (λa b=>if (-100000<=a/\a<=100000)/\(-100000<=b/\b<=100000) then Res.ok (⟨b9 a b,[],none⟩:Items) σ else .bad) .bad with ⟨a,b,ha,hb,e⟩ | e
 . rw[e] at h;by_cases hc:(-100000<=a/\a<=100000)/\(-100000<=b/\b<=100000)
   . rw[if_pos hc] at h;(injection h with e0_ f0_;subst e0_;subst f0_);exact⟨a,b,cO ha,cO hb,hc,rfl,rfl⟩
   . rw[if_neg hc] at h;injection h
 . rw[e] at h;injection h
theorem CA(zw kP:E):cj G cf (.range2 zw kP) ρ σ=(ag G cf zw ρ σ).bind λx aa=>(ag G cf kP ρ aa).bind λy ae=>uB x y ae:=lI rfl
theorem FW(e:E):cj G cf (.range e) ρ σ=(ag G cf e ρ σ).bind λx aa=>yG x aa:=lI rfl
noncomputable def Pt(v:V)(r:Res Out):Res Out:=oc (ql v) (λ_=>r) .bad
theorem iB{f:α->Res γ}(h:oc o f .bad=.ok c σ'):∃ a,o=some a/\f a=.ok c σ':=by
 cases o with
 | none=>injection h
 | some a=>exact⟨a,rfl,h⟩
theorem JK{β:Type}{p:Option β}{f:α->β->Res γ}(h:b2 o p f .bad=.ok c σ'):∃ a b,o=some a/\p=some b/\f a b=.ok c σ':=by obtain⟨a,ha,h⟩:=iB h;obtain⟨b,hb,h⟩:=iB h;exact⟨a,b,ha,hb,h⟩
theorem AX{c:Prop}[Decidable c]{x:γ}(h:(if c then r else .bad)=.ok x σ'):c/\r=.ok x σ':=by
 by_cases hc:c
 . rw[if_pos hc] at h;exact⟨hc,h⟩
 . rw[if_neg hc] at h;injection h
theorem J7(e:E):exec G cf (.expr e) ρ σ=(ag G cf e ρ σ).bind λv aa=>.ok (.next ρ) aa:=lI rfl
theorem J8(l:List Nat)(e:E):exec G cf (.asgT l e) ρ σ=(ag G cf e ρ σ).bind λx aa=>oc (ie x) (λds=>if l.length=ds.length then .ok (.next (b8 l ds ρ)) aa else .bad) .bad:=lI rfl
noncomputable def Pr(t:Bool)(a b:Res Out):Res Out:=if t then a else b
theorem MC(e:E):exec G cf (.ret e) ρ σ=(ag G cf e ρ σ).bind λx aa=>.ok (.ret x) aa:=lI rfl
noncomputable def MV(x a k:V)(ρ:Fm)(az:ac):Res Out:=oc (bK x) (λx=>b2 (oH a) (kM k) (λn k=>oc (ee az n) (λl=>if l.length < LIM then .ok (.next ρ) (az.set n (.dct (ek k x l))) else .bad) .bad) .bad) .bad
theorem Hx{k:Str}{l:List (Str×PyData)}(hc:σ[n]?=some (.dct l))(hl:l.length < LIM):MV (.d x) (.loc n) (.d (.str k)) ρ σ=.ok (.next ρ) (σ.set n (.dct (ek k x l))):=by show oc (ee σ n) (λl=>if l.length < LIM then Res.ok (Out.next ρ) (σ.set n (.dct (ek k x l))) else .bad) .bad=_;rw[jY hc];exact if_pos hl
theorem MD(o i e:E):exec G cf (.put o i e) ρ σ=(ag G cf e ρ σ).bind λx aa=>(ag G cf o ρ aa).bind λa ae=>(ag G cf i ρ ae).bind λk az=>MV x a k ρ az:=lI rfl
noncomputable def DH(G:Nat->Option PyData)(cf:Nat->List V->ac->Res V)(r:SL)(o:Out)(σ:ac):Res Out:=match o with
 | .next bH=>execs G cf r bH σ
 | .ret v=>.ok (.ret v) σ
 | .exc k ds=>.ok (.exc k ds) σ
theorem GW(s:S)(r:SL):execs G cf (.cons s r) ρ σ=(exec G cf s ρ σ).bind λo aa=>DH G cf r o aa:=lI rfl
noncomputable def Ni(f:PyData->Fm->ac->Res Out)(xs:List PyData)(o:Out)(σ:ac):Res Out:=match o with
 | .next bH=>aY f xs bH σ
 | .ret v=>.ok (.ret v) σ
 | .exc k ds=>.ok (.exc k ds) σ
theorem Lg(f:PyData->Fm->ac->Res Out):aY f [] ρ σ=.ok (.next ρ) σ:=lI rfl
theorem HR(f:PyData->Fm->ac->Res Out)(x:PyData)(xs:List PyData):aY f (x::xs) ρ σ=(f x ρ σ).bind λo aa=>Ni f xs o aa:=lI rfl
end
theorem IR(f:PyData->ac->Res (Option PyData))(x:PyData)(xs:List PyData)(σ:ac):gM f (x::xs) σ=(f x σ).bind λo aa=>(gM f xs aa).bind λr ae=>.ok (o.toList++r) ae:=lI rfl
variable {y:Int}
section
variable (σ:ac)(m:Bool)
theorem JJ{x:Int}(h:tz x y=true):cZ .mul m (.d (.int x)) (.d (.int y)) σ=.ok (.d (.int (x * y))) σ:=if_pos h
theorem fB{x:Int}(h:0 < y):cZ .mod m (.d (.int x)) (.d (.int y)) σ=.ok (.d (.int (x % y))) σ:=if_pos h
theorem iH{a b:PyData}(h:min a.depth b.depth<=64):LS a b=some (a.eqv b):=if_pos h
theorem NW(x y:Int):bq .eq (.d (.int x)) (.d (.int y)) σ=some (decide (x=y)):=by refine(iH (a:=.int x) (b:=.int y) (QM rfl)).trans ?_;exact lI rfl
theorem Gh(x y:Str):bq .eq (.d (.str x)) (.d (.str y)) σ=some (decide (x=y)):=by refine(iH (a:=.str x) (b:=.str y) (QM rfl)).trans ?_;exact lI rfl
end
variable {i:Int}{l:List PyData}{k:Nat}{lo hi:Option V}
section
variable (σ:ac)(m:Bool)
theorem AY(l:List PyData)(i:Int):c8 (.d (.tuple l)) (.d (.int i)) σ=(index l.length i).bind λk=>(l[k]?).map V.d:=lI rfl
theorem cX(l:List PyData)(k:Nat):c8 (.d (.tuple l)) (.d (.int (k:Int))) σ=(l[k]?).map V.d:=by
 rw[AY];unfold index;rw[if_pos (QT k)];by_cases h:k < l.length
 . rw[if_pos (QU.mpr h)];rfl
 . rw[if_neg (λq=>h (QU.mp q)),RK (Rm h)];rfl
theorem H5(x:Str)(i:Int):c8 (.d (.str x)) (.d (.int i)) σ=(index (av x).length i).bind λk=>((av x)[k]?).map λc=>V.d (.str (ar [c])):=lI rfl
theorem iE(h0:0<=i):c8 (.d (.list l)) (.d (.int i)) σ=(l[i.toNat]?).map V.d:=if_pos h0
variable {σ}{n:Nat}
theorem iZ(h:σ[n]?=some (.lst l)):aE σ (.loc n)=some l:=jP h
theorem eH{l:List (Str×PyData)}(h:σ[n]?=some (.dct l)):fu σ (.loc n)=some l:=jY h
theorem IE(x y:Str):(PyData.str x).eqv (.str y)=decide (x=y):=lI rfl
theorem OV(a b:V):bq .ne a b σ=(Mt σ a b).map (!·):=lI rfl
theorem OX(a b:V):bq .eq a b σ=Mt σ a b:=lI rfl
theorem OW(a b:V):bq .isIn a b σ=bq.inV a b σ:=lI rfl
theorem pj(a b:V):bq .notIn a b σ=(bq.inV a b σ).map (!·):=lI rfl
theorem qI(x:Str)(l:List PyData):xg (.str x) l=some (l.any λy=>y.eqv (.str x)):=if_pos (iv (R7 _ _) (QI _))
theorem Lx(x:Str)(h:σ[n]?=some (.lst l)):bq.inV (.d (.str x)) (.loc n) σ=some (l.any λy=>y.eqv (.str x)):=by show oc (aE σ (.loc n)) (λl=>xg (.str x) l) _=_;rw[iZ h];exact qI x l
theorem uU(x:Str):bq.inV (.d (.str x)) (.d (.list l)) σ=some (l.any λy=>y.eqv (.str x)):=qI x l
theorem Lu(x:Str):bq.inV (.d (.str x)) (.d (.tuple l)) σ=some (l.any λy=>y.eqv (.str x)):=qI x l
theorem Mc(h:σ[n]?=some (.lst l))(hl:l.length < LIM)(x:PyData):GM .append (.loc n) [.d x] σ=.ok (.d .none) (σ.set n (.lst (l++[x]))):=by show oc (fM σ n) (λl=>if l.length < LIM then Res.ok (V.d .none) (σ.set n (.lst (l++[x]))) else .bad) .bad=_;rw[jP h];exact if_pos hl
theorem Cv{y:List PyData}{b:V}(h:σ[n]?=some (.lst l))(hb:aE σ b=some y)(hl:l.length+y.length<=LIM):GM .extend (.loc n) [b] σ=.ok (.d .none) (σ.set n (.lst (l++y))):=by show b2 (fM σ n) (aE σ b) (λl y=>if l.length+y.length<=LIM then Res.ok (V.d .none) (σ.set n (.lst (l++y))) else .bad) .bad=_;rw[jP h,hb];exact if_pos hl
theorem BE{x y:List (Str×PyData)}(h:σ[n]?=some (.dct x))(hk:σ[k]?=some (.dct y))(hn:n≠k)(hl:x.length+y.length<=LIM):GM .update (.loc n) [.loc k] σ=.ok (.d .none) (σ.set n (.dct (dX x y))):=by show (if n≠k then b2 (ee σ n) (ee σ k) (λx y=>if x.length+y.length<=LIM then Res.ok (V.d .none) (σ.set n (.dct (dX x y))) else .bad) .bad else .bad)=_;rw[if_pos hn,jY h,jY hk];exact if_pos hl
theorem wU(h:σ[n]?=some (.lst l)):sk .append σ (.loc n)=true:=by show (aE σ (.loc n)).isSome=true;rw[iZ h];rfl
theorem L8{a b:List PyData}(h:a.length+b.length<=LIM)(m:Bool)(σ:ac):cZ .add m (.d (.list a)) (.d (.list b)) σ=aM m (a++b) σ:=if_pos h
theorem L7{a b:List PyData}(h:a.length+b.length<=LIM)(m:Bool)(σ:ac):cZ .add m (.d (.tuple a)) (.d (.tuple b)) σ=.ok (.d (.tuple (a++b))) σ:=if_pos h
theorem N4{x y:Str}(h:x.cps.size+y.cps.size<=LIM)(m:Bool)(σ:ac):cZ .add m (.d (.str x)) (.d (.str y)) σ=.ok (.d (.str (ar (av x++av y)))) σ:=if_pos h
theorem L6{y:Str}{n:Int}(h:0<=n/\n<=1000/\y.cps.size<=1000)(m:Bool)(σ:ac):cZ .mul m (.d (.str y)) (.d (.int n)) σ=.ok (.d (.str (ar (List.replicate n.toNat (av y)).flatten))) σ:=if_pos h
theorem Am(m:Bool)(x:Str){l h:Option Int}(hl:cx lo=some l)(hh:cx hi=some h)(σ:ac):eB m (.d (.str x)) lo hi σ=.ok (.d (.str (ar (au (av x) l h)))) σ:=by show b2 (cx lo) (cx hi) (λl h=>Res.ok (V.d (.str (ar (au (av x) l h)))) σ) .bad=_;rw[hl,hh];rfl
theorem LN(h:σ[n]?=some (.lst l)):Ms (.loc n) σ=.ok (.d (.list l)) (σ.set n .gone):=by show oc (fM σ n) (λl=>Res.ok (V.d (.list l)) (σ.set n .gone)) .bad=_;rw[jP h];rfl
end
variable {op:BOp}{a c e e':E}{es:EL}{ρ ρ':Fm}{it:It}{h:List Hd}{xs ds base:List PyData}{vs:List V}{i:Nat}{cf:Nat->List V->ac->Res V}{G:Nat->Option PyData}{o:Out}{f:PyData->Fm->ac->Res Out}{s:S}{b r:SL}{ae aa:ac}{t:Tgt}{ps:List α}
section
variable {az:ac}
theorem aI{β:Type}{r:Res α}{a:α}{k:α->ac->Res β}{q:Res β}(h:r=.ok a σ)(h2:k a σ=q):r.bind k=q:=by rw[h];exact h2
theorem B4(h:oM v=none):iT v σ=.ok v σ:=by unfold iT;rw[h]
theorem aD{f:Nat}(h0:aV G cf es ρ σ=.ok vs aa)(h:cf f vs aa=.ok v ae)(hx:oM v=none:=by rfl):ag G cf (.call f es) ρ σ=.ok v ae:=aI h0 (aI h (B4 hx))
theorem gD{m:Bool}{b:E}{x y:V}{q:Res V}(h1:ag G cf a ρ σ=.ok x aa)(h2:ag G cf b ρ aa=.ok y ae)(h3:cZ op m x y ae=q):ag G cf (.bin op m a b) ρ σ=q:=aI h1 (aI h2 h3)
theorem bJ{op:COp}{b:E}{x y:V}{t:Bool}(h1:ag G cf a ρ σ=.ok x aa)(h2:ag G cf b ρ aa=.ok y ae)(h3:bq op x y ae=some t):ag G cf (.cmp op a b) ρ σ=.ok (.d (.bool t)) ae:=aI h1 (aI h2 (by rw[h3];rfl))
theorem Kc{t:Bool}(h1:ag G cf a ρ σ=.ok (.d (.bool t)) aa):ag G cf (.not a) ρ σ=.ok (.d (.bool (!t))) aa:=aI h1 rfl
theorem MH{b:E}{q:Res V}(hc:ag G cf c ρ σ=.ok (.d (.bool true)) aa)(h:ag G cf a ρ aa=q):ag G cf (.ite c a b) ρ σ=q:=aI hc h
theorem MI{b:E}{q:Res V}(hc:ag G cf c ρ σ=.ok (.d (.bool false)) aa)(h:ag G cf b ρ aa=q):ag G cf (.ite c a b) ρ σ=q:=aI hc h
theorem Jb{q:Res V}(h0:aV G cf es ρ σ=.ok vs aa)(h:xP vs aa=q):ag G cf (.tup es) ρ σ=q:=aI h0 h
theorem bI{i:E}{x y:V}(h1:ag G cf a ρ σ=.ok x aa)(h2:ag G cf i ρ aa=.ok y ae)(h3:c8 x y ae=some v):ag G cf (.idx a i) ρ σ=.ok v ae:=aI h1 (aI h2 (by rw[h3];rfl))
theorem kQ{m:Bool}{lo hi:EO}{x:V}{l h:Option V}{q:Res V}(h1:ag G cf a ρ σ=.ok x aa)(h2:dg G cf lo ρ aa=.ok l ae)(h3:dg G cf hi ρ ae=.ok h az)(h4:eB m x l h az=q):ag G cf (.slc m a lo hi) ρ σ=q:=aI h1 (aI h2 (aI h3 h4))
theorem Kd{b:Bi}{m:Bool}{q:Res V}(h0:aV G cf es ρ σ=.ok vs aa)(h:yn b m vs aa=q):ag G cf (.bi b m es) ρ σ=q:=aI h0 h
theorem jc{x:V}{xs:List V}(h1:ag G cf e ρ σ=.ok x aa)(h2:aV G cf es ρ aa=.ok xs ae):aV G cf (.cons e es) ρ σ=.ok (x::xs) ae:=aI h1 (aI h2 rfl)
theorem ma{x:V}(h1:ag G cf e ρ σ=.ok x aa):aV G cf (.cons e .nil) ρ σ=.ok [x] aa:=jc h1 rfl
theorem Jp{x:V}(h1:ag G cf e ρ σ=.ok x aa):dg G cf (.yes e) ρ σ=.ok (some x) aa:=aI h1 rfl
theorem yv{q:Res V}(h1:ag G cf e ρ σ=.ok (.d (.bool true)) aa)(h2:ag G cf (.bop true (.cons e' es)) ρ aa=q):ag G cf (.bop true (.cons e (.cons e' es))) ρ σ=q:=aI h1 h2
theorem Ke(h1:ag G cf e ρ σ=.ok (.d (.bool false)) aa):ag G cf (.bop true (.cons e (.cons e' es))) ρ σ=.ok (.d (.bool false)) aa:=aI h1 rfl
theorem Dp{q:Res V}(h1:ag G cf e ρ σ=.ok (.d (.bool false)) aa)(h2:ag G cf (.bop false (.cons e' es)) ρ aa=q):ag G cf (.bop false (.cons e (.cons e' es))) ρ σ=q:=aI h1 h2
theorem MG(h1:ag G cf e ρ σ=.ok (.d (.bool true)) aa):ag G cf (.bop false (.cons e (.cons e' es))) ρ σ=.ok (.d (.bool true)) aa:=aI h1 rfl
theorem dO{k:Bool}{q:Res V}(h:ag G cf e ρ σ=q):ag G cf (.bop k (.cons e .nil)) ρ σ=q:=h
theorem G1{a b:Bool}(h1:ag G cf e ρ σ=.ok (.d (.bool a)) σ)(h2:a=false->ag G cf (.bop false (.cons e' es)) ρ σ=.ok (.d (.bool b)) σ):ag G cf (.bop false (.cons e (.cons e' es))) ρ σ=.ok (.d (.bool (a||b))) σ:=by
 cases a with
 | true=>exact MG h1
 | false=>exact Dp h1 (h2 rfl)
theorem pH{a b:Bool}(h1:ag G cf e ρ σ=.ok (.d (.bool a)) σ)(h2:a=true->ag G cf (.bop true (.cons e' es)) ρ σ=.ok (.d (.bool b)) σ):ag G cf (.bop true (.cons e (.cons e' es))) ρ σ=.ok (.d (.bool (a&&b))) σ:=by
 cases a with
 | true=>exact yv h1 (h2 rfl)
 | false=>exact Ke h1
theorem Dq{t t':Bool}(h:ag G cf e ρ σ=.ok (.d (.bool t)) aa)(q:t=t'):ag G cf e ρ σ=.ok (.d (.bool t')) aa:=q▸h
theorem cU(h:ag G cf e ρ σ=.ok v σ'):exec G cf (.asg (.var i) e) ρ σ=.ok (.next (ρ.set i v)) σ':=aI h rfl
theorem Ks{l:List Nat}(h:ag G cf e ρ σ=.ok (.d (.tuple ds)) σ')(hl:l.length=ds.length):exec G cf (.asgT l e) ρ σ=.ok (.next (b8 l ds ρ)) σ':=aI h (if_pos hl)
theorem lQ{t:RT}{f:Nat}{q:Res Out}(h0:aV G cf es ρ σ=.ok vs aa)(h:cf f vs aa=.ok v ae)(h2:jm t v ρ ae=q):exec G cf (.calls t f es) ρ σ=q:=aI h0 (aI h h2)
theorem Kq(h1:execs G cf b ρ σ=.ok (.ret v) aa):exec G cf (.tryS b h) ρ σ=.ok (.ret v) aa:=aI h1 rfl
theorem uw{q:Res Out}(h1:execs G cf b ρ σ=.ok (.exc k ds) aa)(h2:mY cf h k ds aa=q):exec G cf (.tryS b h) ρ σ=q:=aI h1 h2
theorem DT(h:ag G cf e ρ σ=.ok v σ'):exec G cf (.ret e) ρ σ=.ok (.ret v) σ':=aI h rfl
theorem Ji{o i:E}{k:Str}{l:List (Str×PyData)}(h1:ag G cf e ρ σ=.ok (.d x) aa)(h2:ag G cf o ρ aa=.ok (.loc n) ae)(h3:ag G cf i ρ ae=.ok (.d (.str k)) az)(hc:az[n]?=some (.dct l))(hl:l.length < LIM):exec G cf (.put o i e) ρ σ=.ok (.next ρ) (az.set n (.dct (ek k x l))):=aI h1 (aI h2 (aI h3 (Hx ρ az hc hl)))
theorem As{a:SL}{q:Res Out}(h:ag G cf c ρ σ=.ok (.d (.bool true)) aa)(h2:execs G cf a ρ aa=q):exec G cf (.ite c a b) ρ σ=q:=aI h h2
theorem MS{a:SL}{q:Res Out}(h:ag G cf c ρ σ=.ok (.d (.bool false)) aa)(h2:execs G cf b ρ aa=q):exec G cf (.ite c a b) ρ σ=q:=aI h h2
theorem a7{q:Res Out}(h:exec G cf s ρ σ=.ok (.next ρ') aa)(h2:execs G cf r ρ' aa=q):execs G cf (.cons s r) ρ σ=q:=aI h h2
theorem Ax(h:exec G cf s ρ σ=.ok (.exc k ds) aa):execs G cf (.cons s r) ρ σ=.ok (.exc k ds) aa:=aI h rfl
theorem io(h:exec G cf s ρ σ=.ok (.ret v) aa):execs G cf (.cons s r) ρ σ=.ok (.ret v) aa:=aI h rfl
theorem iS{a:SL}{q:Res Out}(h:ag G cf c ρ σ=.ok (.d (.bool false)) aa)(h2:execs G cf r ρ aa=q):execs G cf (.cons (.ite c a .nil) r) ρ σ=q:=a7 (MS h rfl) h2
theorem aZ{x:V}(h:ag G cf e ρ σ=.ok x aa)(ho:tn x aa=some (xs,none)):cj G cf (.seq e) ρ σ=.ok ⟨xs,xs,none⟩ aa:=aI h (by rw[ho];rfl)
theorem jd{b:Int}(h:ag G cf e ρ σ=.ok (.d (.int b)) aa)(hb:-100000<=b/\b<=100000):cj G cf (.range e) ρ σ=.ok ⟨b9 0 b,[],none⟩ aa:=aI h (if_pos hb)
theorem E4{a b:Int}(h:ag G cf e ρ σ=.ok (.d (.int a)) aa)(h':ag G cf e' ρ aa=.ok (.d (.int b)) ae)(hb:(-100000<=a/\a<=100000)/\(-100000<=b/\b<=100000)):cj G cf (.range2 e e') ρ σ=.ok ⟨b9 a b,[],none⟩ ae:=aI h (aI h' (if_pos hb))
theorem mV(h:ag G cf e ρ σ=.ok (.d (.tuple l)) aa):cj G cf (.enum e) ρ σ=.ok ⟨ju l,[],none⟩ aa:=aI h rfl
noncomputable def aG(G:Nat->Option PyData)(cf:Nat->List V->ac->Res V)(t:Tgt)(b:SL):PyData->Fm->ac->Res Out:=λx ρ' σ'=>match fz t x ρ' with
 | none=>.bad
 | some ρ''=>execs G cf b ρ'' σ'
theorem bf(hI:cj G cf it ρ σ=.ok ⟨xs,base,none⟩ aa)(hl:aY (aG G cf t b) xs ρ aa=.ok o ae):exec G cf (.forr t it b) ρ σ=.ok o ae:=aI hI (aI (a:=o) (σ:=ae) hl rfl)
theorem bc{q:Res Out}(h:execs G cf b (ρ.set i (.d x)) σ=q):aG G cf (.var i) b x ρ σ=q:=h
theorem cA{l:List Nat}{q:Res Out}(hl:l.length=ds.length)(h:execs G cf b (b8 l ds ρ) σ=q):aG G cf (.tup l) b (.tuple ds) ρ σ=q:=by have e:fz (.tup l) (.tuple ds) ρ=some (b8 l ds ρ):=if_pos hl;unfold aG;exact e▸h
theorem aQ{q:Res Out}(h:f x ρ σ=.ok (.next ρ') aa)(h2:aY f xs ρ' aa=q):aY f (x::xs) ρ σ=q:=aI h h2
theorem EJ(h:f x ρ σ=.ok (.exc k ds) aa):aY f (x::xs) ρ σ=.ok (.exc k ds) aa:=aI h rfl
theorem qv(h:f x ρ σ=.ok (.ret v) aa):aY f (x::xs) ρ σ=.ok (.ret v) aa:=aI h rfl
theorem EK(φ:α->PyData)(P:List α->Fm->ac->Prop)(h:∀ x xs ρ σ,P (x::xs) ρ σ->X2 λρ' σ'=>f (φ x) ρ σ=.ok (.next ρ') σ'/\P xs ρ' σ'):∀ xs ρ σ,P xs ρ σ->X2 λρ' σ'=>aY f (xs.map φ) ρ σ=.ok (.next ρ') σ'/\P [] ρ' σ'
 | []=>@λρ σ hp=>⟨ρ,σ,rfl,hp⟩
 | x::xs=>@λρ σ hp=>by obtain⟨bH,aa,e,hp⟩:=h x xs ρ σ hp;obtain⟨pq,ae,e2,hp⟩:=EK φ P h xs bH aa hp;exact⟨pq,ae,aQ e e2,hp⟩
noncomputable def lD(G:Nat->Option PyData)(cf:Nat->List V->ac->Res V)(t:Tgt)(c:EO)(e:E)(ρ:Fm):PyData->ac->Res (Option PyData):=λx σ'=>match fz t x ρ with
 | none=>.bad
 | some ρ'=>(dg G cf c ρ' σ').bind λcv ae=>match cv with
   | none=>(ag G cf e ρ' ae).bind λy az=>bj ((bK y).map some) az
   | some cv=>(bj (truthy ae cv) ae).bind λb ae=>if b then (ag G cf e ρ' ae).bind λy az=>bj ((bK y).map some) az else .ok none ae
theorem ez(σ:ac)(c:Cell):(σ++[c]).take σ.length=σ:=by simp
theorem FY(m:Bool)(t:Tgt)(it:It)(c:EO)(e:E):ag G cf (.comp m t it c e) ρ σ=(cj G cf it ρ σ).bind λI aa=>(gM (lD G cf t c e ρ) I.shown (cM I.lk aa++[Cell.busy])).bind λr ae=>aM m r ((bn I.lk I.base ae).take aa.length):=lI rfl
theorem ud{m:Bool}{c:EO}{r:List PyData}(hI:cj G cf it ρ σ=.ok ⟨xs,base,none⟩ aa)(hl:gM (lD G cf t c e ρ) xs (aa++[Cell.busy])=.ok r (aa++[Cell.busy])):ag G cf (.comp m t it c e) ρ σ=aM m r aa:=by rw[FY,hI,s0];show (gM (lD G cf t c e ρ) xs (aa++[Cell.busy])).bind _=_;rw[hl,s0];show aM m r ((aa++[Cell.busy]).take aa.length)=_;rw[ez]
theorem NX{y:PyData}(h:ag G cf e (ρ.set i (.d x)) σ=.ok (.d y) σ):lD G cf (.var i) .no e ρ x σ=.ok (some y) σ:=by show (ag G cf e (ρ.set i (.d x)) σ).bind _=_;rw[h];rfl
theorem Gi{b:Bool}{y:PyData}(hc:ag G cf c (ρ.set i (.d x)) σ=.ok (.d (.bool b)) σ)(h:b=true->ag G cf e (ρ.set i (.d x)) σ=.ok (.d y) σ):lD G cf (.var i) (.yes c) e ρ x σ=.ok (if b then some y else none) σ:=by
 show (dg G cf (.yes c) (ρ.set i (.d x)) σ).bind _=_;rw[Jp hc,s0];cases b with
 | true=>show (ag G cf e (ρ.set i (.d x)) σ).bind _=_;rw[h rfl];rfl
 | false=>rfl
theorem mt{f:PyData->ac->Res (Option PyData)}(φ:α->PyData)(g:α->Option PyData):∀ l:List α,(∀ x∈l,f (φ x) σ=.ok (g x) σ)->gM f (l.map φ) σ=.ok (l.filterMap g) σ
 | []=>@λ_=>rfl
 | x::l=>@λh=>by rw[Q6,IR,h x (Qh ..),s0,mt φ g l λy hy=>h y (Qj _ hy),s0,R4];cases g x <;> rfl
theorem FI(b:α->Bool)(g:α->PyData)(l:List α):(l.filterMap λx=>if b x then some (g x) else none)=(l.filter b).map g:=by
 induction l with
 | nil=>rfl
 | cons x l ih=>cases h:b x <;> simp[h,ih]
theorem nh(φ g:α->PyData)(hI:cj G cf it ρ σ=.ok ⟨ps.map φ,base,none⟩ aa)(h:∀ p∈ps,ag G cf e (ρ.set i (.d (φ p))) (aa++[Cell.busy])=.ok (.d (g p)) (aa++[Cell.busy])):ag G cf (.comp false (.var i) it .no e) ρ σ=.ok (.d (.list (ps.map g))) aa:=by refine(ud hI (r:=ps.map g) ?_).trans rfl;rw[mt φ (λp=>some (g p)) ps λp hp=>NX (h p hp),List.filterMap_eq_map']
theorem ey(φ g:α->PyData)(b:α->Bool)(hI:cj G cf it ρ σ=.ok ⟨ps.map φ,base,none⟩ aa)(hc:∀ p∈ps,ag G cf c (ρ.set i (.d (φ p))) (aa++[Cell.busy])=.ok (.d (.bool (b p))) (aa++[Cell.busy]))(h:∀ p∈ps,b p=true->ag G cf e (ρ.set i (.d (φ p))) (aa++[Cell.busy])=.ok (.d (g p)) (aa++[Cell.busy])):ag G cf (.comp false (.var i) it (.yes c) e) ρ σ=.ok (.d (.list ((ps.filter b).map g))) aa:=by refine(ud hI (r:=(ps.filter b).map g) ?_).trans rfl;rw[mt φ (λp=>if b p then some (g p) else none) ps λp hp=>Gi (hc p hp) (h p hp),FI]
end
theorem gd(n:Nat):b9 0 (n:Int)=(List.range n).map λ(k:Nat)=>PyData.int (k:Int):=by unfold b9;rw[Ud,QY];refine Sk λk _=>?_;rw[Ue]
theorem vZ{G:Nat->Option PyData}{cf:Nat->List V->ac->Res V}{eb:E}{b:Int}(g:Nat->PyData)(hb:ag G cf eb ρ σ=.ok (.d (.int b)) σ)(h1:0<=b/\b<=1000)(h:∀ k:Nat,k < b.toNat->ag G cf e (ρ.set i (.d (.int (k:Int)))) (σ++[Cell.busy])=.ok (.d (g k)) (σ++[Cell.busy])):ag G cf (.comp false (.var i) (.range eb) .no e) ρ σ=.ok (.d (.list ((List.range b.toNat).map g))) σ:=by
 obtain⟨n,rfl⟩:∃ n:Nat,b=(n:Int):=⟨b.toNat,by lia⟩
 have hI:=jd (G:=G) (cf:=cf) hb (by lia);rw[gd] at hI;exact nh (λ(k:Nat)=>PyData.int (k:Int)) g hI λk hk=>h k (RV.mp hk)
theorem Mq{x:Int}(m:Bool)(σ:ac)(h:y.natAbs < 9223372036854775808):cZ .mul m (.d (.int x)) (.d (.int y)) σ=.ok (.d (.int (x * y))) σ:=JJ _ _ (by simp[tz,h])
theorem PX{x:Int}(m:Bool)(σ:ac)(h:x.natAbs < 9223372036854775808):cZ .mul m (.d (.int x)) (.d (.int y)) σ=.ok (.d (.int (x * y))) σ:=JJ _ _ (by simp[tz,h])
theorem bk(x:Int){m:Int}(h:0 < m):0<=x % m/\x % m < m:=⟨TJ _ (Uf h),Int.emod_lt_of_pos _ h⟩
theorem OC{c m:Int}(b:Bool)(σ:ac)(h0:0 < m)(h:m<=9223372036854775808):cZ .mul b (.d (.int (c % m))) (.d (.int y)) σ=.ok (.d (.int (c % m * y))) σ:=PX _ _ (by have:=bk c h0;lia)
variable {fn:Fn}{args:List V}{d:Nat}{p:Prog}
theorem rF{f:Nat}{q:Res V}(h:p.P f=some fn)(ha:args.length=fn.np)(hb:execs p.G (af p d) fn.body (args++List.replicate (fn.ns - fn.np) .un) σ=.ok o σ')(hq:om σ.length o σ'=q)(hc:fn.ctor=false:=by rfl):af p (d+1) f args σ=q:=by
 show (match p.P f with
   | none=>Res.bad
   | some fn=>if fn.ctor then Bn p d fn args σ else if args.length=fn.np then
       (execs p.G (af p d) fn.body (args++List.replicate (fn.ns - fn.np) .un) σ).bind λo aa=>om σ.length o aa
     else .bad)=q
 rw[h];simp only[ha,hc,if_true,SV,if_false];rw[hb];exact hq
theorem mo(x:PyData)(h:σ'.take n=σ):mr n (.d x) σ'=.ok (.d x) σ:=congrArg (Res.ok (V.d x)) h
theorem L4{f:Nat}(h:p.P f=some fn)(ha:args.length=fn.np)(hb:execs p.G (af p d) fn.body (args++List.replicate (fn.ns - fn.np) .un) σ=.ok (.exc k ds) σ')(ht:σ'.take σ.length=σ)(hcc:fn.ctor=false:=by rfl):af p (d+1) f args σ=.ok (.exc k ds) σ:=rF h ha hb (by show Res.ok (V.exc k ds) (σ'.take σ.length)=_;exact congrArg _ ht) hcc
theorem j4{f:Nat}(h:p.P f=some fn)(ha:args.length=fn.np)(hb:execs p.G (af p d) fn.body (args++List.replicate (fn.ns - fn.np) .un) σ=.ok (.ret (.d x)) σ')(ht:σ'.take σ.length=σ)(hcc:fn.ctor=false:=by rfl):af p (d+1) f args σ=.ok (.d x) σ:=rF h ha hb (mo x ht) hcc
theorem co{f:Nat}(h:p.P f=some fn)(ha:args.length=fn.np)(hb:execs p.G (af p d) fn.body (args++List.replicate (fn.ns - fn.np) .un) σ=.ok (.ret (.d x)) σ)(hcc:fn.ctor=false:=by rfl):af p (d+1) f args σ=.ok (.d x) σ:=j4 h ha hb List.take_length hcc
theorem Gg{f:Nat}{c:Cell}{g g':List Cell}(h:p.P f=some fn)(ha:args.length=fn.np)(hb:execs p.G (af p d) fn.body (args++List.replicate (fn.ns - fn.np) .un) σ=.ok (.ret (.loc k)) (σ++(g++c::g')))(hk:k=σ.length+g.length)(hc:(∃ l,c=.lst l)\/∃ l,c=.dct l)(hcc:fn.ctor=false:=by rfl):af p (d+1) f args σ=.ok (.loc σ.length) (σ++[c]):=by
 refine rF h ha hb ?_ hcc;subst hk;have e:(σ++(g++c::g'))[σ.length+g.length]?=some c:=by simp
 have t:(σ++(g++c::g')).take σ.length=σ:=by simp
 refine(?_:mr σ.length (.loc (σ.length+g.length)) (σ++(g++c::g'))=_);rcases hc with ⟨l,rfl⟩ | ⟨l,rfl⟩
 . exact(if_neg (TY.mpr (Qz _ _))).trans (by rw[e,t])
 . exact(if_neg (TY.mpr (Qz _ _))).trans (by rw[e,t])
noncomputable abbrev F5(a b c d e:V):Fm:=[a,b,c,d,e]
noncomputable abbrev F6(a b c d e f:V):Fm:=[a,b,c,d,e,f]
noncomputable abbrev F7(a b c d e f g:V):Fm:=[a,b,c,d,e,f,g]
noncomputable abbrev F8(a b c d e f g h:V):Fm:=[a,b,c,d,e,f,g,h]
noncomputable abbrev F9(a b c d e f g h i:V):Fm:=[a,b,c,d,e,f,g,h,i]
noncomputable abbrev JR(a b c d e f g h i j:V):Fm:=[a,b,c,d,e,f,g,h,i,j]
noncomputable abbrev Qf(a b c d e f g h i j k l m:V):Fm:=[a,b,c,d,e,f,g,h,i,j,k,l,m]
noncomputable abbrev JQ(a b c d e f g h i j k l m n:V):Fm:=[a,b,c,d,e,f,g,h,i,j,k,l,m,n]
noncomputable abbrev Qe(a b c d e f g h i j k l m n o p q r:V):Fm:=[a,b,c,d,e,f,g,h,i,j,k,l,m,n,o,p,q,r]
def Go(t:Nat)(a b:Prop):Prop:=match t % 2 with
 | 0=>a
 | _=>b
def OF{α:Type}(r:Option α)(k:α->Prop):Prop:=match r with
 | some v=>k v
 | none=>True
def Cn{α:Type}(r:Res α)(k:α->ac->Prop):Prop:=match r with
 | .ok v σ=>k v σ
 | .bad=>True
def IW{α:Type}(t:Nat)(r:Res α)(k:α->ac->Nat->Prop):Prop:=Go t (Cn r λv σ=>k v σ (t / 2)) (∀ {v σ},r=.ok v σ->k v σ (t / 2))
def CU{α:Type}(t:Nat)(r:Option α)(k:α->Nat->Prop):Prop:=Go t (OF r λv=>k v (t / 2)) (∀ {v},r=some v->k v (t / 2))
variable {t:Nat}
theorem vD{a b:Prop}(ha:a)(hb:b):Go t a b:=by
 unfold Go;cases t % 2 with
 | zero=>exact ha
 | succ n=>exact hb
theorem Fh{r:Option α}{k:α->Prop}(h:∀ v,r=some v->k v):OF r k:=by
 cases r with
 | some v=>exact h v rfl
 | none=>trivial
variable {r:Res α}
theorem fL{k:α->ac->Prop}(h:∀ v σ,r=.ok v σ->k v σ):Cn r k:=by
 cases r with
 | ok v σ=>exact h v σ rfl
 | bad=>trivial
theorem vC{k:α->ac->Nat->Prop}(h:∀ v σ t,r=.ok v σ->k v σ t):IW t r k:=vD (fL λv σ e=>h v σ _ e) λe=>h _ _ _ e
theorem my{r:Option α}{k:α->Nat->Prop}(h:∀ v t,r=some v->k v t):CU t r k:=vD (Fh λv e=>h v _ e) λe=>h _ _ e
noncomputable def AK(b:Me)(x:V)(bB:ac)(vs:List V)(σ:ac):Res V:=if sk b bB x then GM b x vs σ else .bad
variable {a:α}
theorem kg{β:Type}{k:α->ac->Res β}{q:Res β}(h:r=.ok a σ)(h2:k a σ=q):r.bind k=q:=by rw[h];exact h2
theorem MU{β:Type}{f:ac->Res β}{b:β}{k:α->β->ac->Res γ}{q:Res γ}(h:r=.ok a σ)(h2:f σ=.ok b ae)(h3:k a b ae=q):(r.bind λx aa=>(f aa).bind (k x))=q:=kg h (kg h2 h3)
variable {bB:ac}{x:V}
theorem K9{b:Me}(h1:aV G cf es ρ bB=.ok vs σ)(h2:AK b x bB vs σ=.ok v aa):(if sk b bB x then (aV G cf es ρ bB).bind λvs ae=>GM b x vs ae else .bad)=.ok v aa:=by
 unfold AK at h2;cases h:sk b bB x with
 | true=>rw[h,if_pos rfl] at h2;rw[if_pos rfl];exact kg h1 h2
 | false=>rw[h,if_neg QB] at h2;injection h2
theorem HU{o:Option Fm}(h:bj o σ=.ok ρ aa):bj (o.map Out.next) σ=.ok (.next ρ) aa:=by
 cases o with
 | none=>injection h
 | some x=>(injection h with e0_ f0_;subst e0_;subst f0_);rfl
section
variable (G:Nat->Option PyData)(cf:Nat->List V->ac->Res V)
mutual
noncomputable def pE:E->Fm->ac->Nat->(V->ac->Nat->Prop)->Prop
 | .none=>λ_ σ t k=>k (.d .none) σ t
 | .bool b=>λ_ σ t k=>k (.d (.bool b)) σ t
 | .int i=>λ_ σ t k=>k (.d (.int i)) σ t
 | .str x=>λ_ σ t k=>k (.d (.str x)) σ t
 | .bin op m a b=>λρ σ t k=>pE a ρ σ t λx σ t=>pE b ρ σ t λy σ t=>IW t (cZ op m x y σ) k
 | .var i=>λρ σ t k=>Cn (ag G cf (.var i) ρ σ) λv σ=>k v σ t
 | .glob g=>λρ σ t k=>Cn (ag G cf (.glob g) ρ σ) λv σ=>k v σ t
 | .dict0=>λ_ σ t k=>k (.loc σ.length) (σ++[.dct []]) t
 | .neg a=>λρ σ t k=>pE a ρ σ t λx σ t=>Cn (oc (ci x) (λi=>.ok (.d (.int (-i))) σ) .bad) λv σ=>k v σ t
 | .isx n a=>λρ σ t k=>pE a ρ σ t λx σ t=>Cn (Ls n x σ) λv σ=>k v σ t
 | .freeze a=>λρ σ t k=>pE a ρ σ t λx σ t=>∀ {v aa},Ms x σ=.ok v aa->k v aa t
 | .not a=>λρ σ t k=>pE a ρ σ t λx σ t=>OF (truthy σ x) λb=>k (.d (.bool (!b))) σ t
 | .bop q es=>λρ σ t k=>Go t (pB q es ρ σ (t / 2) k) (∀ {v aa},ag G cf (.bop q es) ρ σ=.ok v aa->k v aa (t / 2))
 | .cmp op a b=>λρ σ t k=>pE a ρ σ t λx σ t=>pE b ρ σ t λy σ t=>CU t (bq op x y σ) λb t=>k (.d (.bool b)) σ t
 | .ite c a b=>λρ σ t k=>pE c ρ σ t λx σ t=>CU t (truthy σ x) λq t=>match q with
   | true=>pE a ρ σ t k
   | false=>pE b ρ σ t k
 | .tup es=>λρ σ t k=>pL es ρ σ t λvs σ t=>Cn (xP vs σ) λv σ=>k v σ t
 | .list m es=>λρ σ t k=>pL es ρ σ t λvs σ t=>Cn (Bk m vs σ) λv σ=>k v σ t
 | .idx a i=>λρ σ t k=>pE a ρ σ t λx σ t=>pE i ρ σ t λy σ t=>CU t (c8 x y σ) λv t=>k v σ t
 | .slc m a lo hi=>λρ σ t k=>pE a ρ σ t λx σ t=>pO lo ρ σ t λl σ t=>pO hi ρ σ t λh σ t=>IW t (eB m x l h σ) k
 | .call f es=>λρ σ t k=>pL es ρ σ t λvs σ t=>∀ {v aa},cf f vs σ=.ok v aa->Cn (iT v aa) λv σ=>k v σ t
 | .bi b m es=>λρ σ t k=>pL es ρ σ t λvs σ t=>IW t (yn b m vs σ) k
 | .meth b o es=>λρ σ t k=>pE o ρ σ t λx bB t=>pL es ρ bB t λvs σ t=>∀ {v aa},AK b x bB vs σ=.ok v aa->k v aa t
 | e=>λρ σ t k=>∀ {v aa},ag G cf e ρ σ=.ok v aa->k v aa t
noncomputable def pB(q:Bool):EL->Fm->ac->Nat->(V->ac->Nat->Prop)->Prop
 | .nil=>λ_ _ _ _=>True
 | .cons e es=>λρ σ t k=>match es with
   | .nil=>pE e ρ σ t k
   | es=>pE e ρ σ t λx σ t=>CU t (truthy σ x) λb t=>match b==q with
     | true=>pB q es ρ σ t k
     | false=>k x σ t
noncomputable def pL:EL->Fm->ac->Nat->(List V->ac->Nat->Prop)->Prop
 | .nil=>λ_ σ t k=>k [] σ t
 | .cons e es=>λρ σ t k=>pE e ρ σ t λx σ t=>pL es ρ σ t λxs σ t=>k (x::xs) σ t
noncomputable def pO:EO->Fm->ac->Nat->(Option V->ac->Nat->Prop)->Prop
 | .no=>λ_ σ t k=>k none σ t
 | .yes e=>λρ σ t k=>pE e ρ σ t λx σ t=>k (some x) σ t
end
mutual
noncomputable def pS:S->Fm->ac->Nat->(Out->ac->Nat->Prop)->Prop
 | .expr e=>λρ σ t k=>pE G cf e ρ σ t λ_ σ t=>k (.next ρ) σ t
 | .asg g e=>λρ σ t k=>pE G cf e ρ σ t λx σ t=>Cn (bj (JH g x ρ) σ) λρ σ=>k (.next ρ) σ t
 | .asgT l e=>λρ σ t k=>pE G cf e ρ σ t λx σ t=>Cn (oc (ie x) (λds=>if l.length=ds.length then .ok (.next (b8 l ds ρ)) σ else .bad) .bad) λo σ=>k o σ t
 | .ite c a b=>λρ σ t k=>pE G cf c ρ σ t λx σ t=>CU t (truthy σ x) λq t=>match q with
   | true=>KR a ρ σ t k
   | false=>KR b ρ σ t k
 | .ret e=>λρ σ t k=>pE G cf e ρ σ t λx σ t=>k (.ret x) σ t
 | .calls g f es=>λρ σ t k=>pL G cf es ρ σ t λvs σ t=>∀ {v aa},cf f vs σ=.ok v aa->Cn (jm g v ρ aa) λo σ=>k o σ t
 | .raise n es=>λρ σ t k=>pL G cf es ρ σ t λvs σ t=>Cn (Oh n vs σ) λo σ=>k o σ t
 | s=>λρ σ t k=>∀ {o aa},exec G cf s ρ σ=.ok o aa->k o aa t
noncomputable def KR:SL->Fm->ac->Nat->(Out->ac->Nat->Prop)->Prop
 | .nil=>λρ σ t k=>k (.next ρ) σ t
 | .cons s r=>λρ σ t k=>pS s ρ σ t λo σ t=>match o with
   | .next ρ=>KR r ρ σ t k
   | o=>k o σ t
end
mutual
theorem cL:∀ (e:E) {ρ:Fm} {σ:ac} {t:Nat} {k:V->ac->Nat->Prop},(∀ v σ' t,ag G cf e ρ σ=.ok v σ'->k v σ' t)->pE G cf e ρ σ t k
 | .none=>λh=>h _ _ _ rfl
 | .bool _=>λh=>h _ _ _ rfl
 | .int _=>λh=>h _ _ _ rfl
 | .str _=>λh=>h _ _ _ rfl
 | .bin op m a b=>λh=>cL a λx aa t e1=>cL b λy ae t e2=>vC λv az t e3=>h _ _ _ (MU e1 e2 e3)
 | .not a=>λh=>cL a λx aa t e1=>Fh λv e3=>h _ _ _ (kg e1 (by rw[e3];rfl))
 | .cmp op a b=>λh=>cL a λx aa t e1=>cL b λy ae t e2=>my λv t e3=>h _ _ _ (MU e1 e2 (by rw[e3];rfl))
 | .ite c a b=>λh=>cL c λx aa t e1=>my λv t e3=>match v,e3 with
   | true,e3=>cL a λy ae t e4=>h _ _ _ (kg e1 (by rw[e3];exact e4))
   | false,e3=>cL b λy ae t e4=>h _ _ _ (kg e1 (by rw[e3];exact e4))
 | .tup es=>λh=>nM es λx aa t e1=>fL λv az e3=>h _ _ _ (kg e1 e3)
 | .list m es=>λh=>nM es λx aa t e1=>fL λv az e3=>h _ _ _ (kg e1 e3)
 | .idx a i=>λh=>cL a λx aa t e1=>cL i λy ae t e2=>my λv t e3=>h _ _ _ (MU e1 e2 (by rw[e3];rfl))
 | .slc m a lo hi=>λh=>cL a λx aa t e1=>Jo lo λy ae t e2=>Jo hi λy ae t e3=>vC λv az t e4=>h _ _ _ (kg e1 (MU e2 e3 e4))
 | .call f es=>λh=>nM es λx aa t e1=>λe2=>fL λv az e3=>h _ _ _ (kg e1 (kg e2 e3))
 | .bi b m es=>λh=>nM es λx aa t e1=>vC λv az t e3=>h _ _ _ (kg e1 e3)
 | .meth b o es=>λh=>cL o λx aa t e1=>nM es λy ae t e2=>λe3=>h _ _ _ (kg e1 (K9 e2 e3))
 | .var _=>λh=>fL λv σ=>h v σ _
 | .glob _=>λh=>fL λv σ=>h v σ _
 | .dict0=>λh=>h _ _ _ rfl
 | .neg a=>λh=>cL a λx aa t e1=>fL λv az e3=>h _ _ _ (kg e1 e3)
 | .isx n a=>λh=>cL a λx aa t e1=>fL λv az e3=>h _ _ _ (kg e1 e3)
 | .freeze a=>λh=>cL a λx aa t e1=>λe3=>h _ _ _ (kg e1 e3)
 | .bop q es=>λh=>vD (Eh q es h) λe=>h _ _ _ e
 | .cmp2 ..=>λh=>λe=>h _ _ _ e
 | .comp ..=>λh=>λe=>h _ _ _ e
theorem Eh(q:Bool):∀ (es:EL) {ρ:Fm} {σ:ac} {t:Nat} {k:V->ac->Nat->Prop},(∀ v σ' t,gL G cf q es ρ σ=.ok v σ'->k v σ' t)->pB G cf q es ρ σ t k
 | .nil=>λ_=>trivial
 | .cons e .nil=>λh=>cL e h
 | .cons e (.cons e' es)=>λh=>cL e λx aa t e1=>my λb t e2=>match b,q,e2,h with
   | true,true,e2,h=>Eh true (.cons e' es) λv σ' t e3=>h _ _ _ (kg e1 (by rw[e2];exact e3))
   | false,false,e2,h=>Eh false (.cons e' es) λv σ' t e3=>h _ _ _ (kg e1 (by rw[e2];exact e3))
   | true,false,e2,h=>h _ _ _ (kg e1 (by rw[e2];rfl))
   | false,true,e2,h=>h _ _ _ (kg e1 (by rw[e2];rfl))
theorem nM:∀ (es:EL) {ρ:Fm} {σ:ac} {t:Nat} {k:List V->ac->Nat->Prop},(∀ v σ' t,aV G cf es ρ σ=.ok v σ'->k v σ' t)->pL G cf es ρ σ t k
 | .nil=>λh=>h _ _ _ rfl
 | .cons e es=>λh=>cL e λx aa t e1=>nM es λy ae t e2=>h _ _ _ (MU e1 e2 rfl)
theorem Jo:∀ (es:EO) {ρ:Fm} {σ:ac} {t:Nat} {k:Option V->ac->Nat->Prop},(∀ v σ' t,dg G cf es ρ σ=.ok v σ'->k v σ' t)->pO G cf es ρ σ t k
 | .no=>λh=>h _ _ _ rfl
 | .yes e=>λh=>cL e λx aa t e1=>h _ _ _ (kg e1 rfl)
end
mutual
theorem MW:∀ (e:S) {ρ:Fm} {σ:ac} {t:Nat} {k:Out->ac->Nat->Prop},(∀ v σ' t,exec G cf e ρ σ=.ok v σ'->k v σ' t)->pS G cf e ρ σ t k
 | .expr e=>λh=>cL G cf e λx aa t e1=>h _ _ _ (kg e1 rfl)
 | .asg g e=>λh=>cL G cf e λx aa t e1=>fL λv az e3=>h _ _ _ (kg e1 (HU e3))
 | .asgT l e=>λh=>cL G cf e λx aa t e1=>fL λv az e3=>h _ _ _ (kg e1 e3)
 | .ite c a b=>λh=>cL G cf c λx aa t e1=>my λv t e3=>match v,e3 with
   | true,e3=>mQ a λy ae t e4=>h _ _ _ (kg e1 (by rw[e3];exact e4))
   | false,e3=>mQ b λy ae t e4=>h _ _ _ (kg e1 (by rw[e3];exact e4))
 | .ret e=>λh=>cL G cf e λx aa t e1=>h _ _ _ (kg e1 rfl)
 | .calls g f es=>λh=>nM G cf es λx aa t e1=>λe2=>fL λv az e3=>h _ _ _ (kg e1 (kg e2 e3))
 | .raise n es=>λh=>nM G cf es λx aa t e1=>fL λv az e3=>h _ _ _ (kg e1 e3)
 | .put ..=>λh=>λe=>h _ _ _ e
 | .forr ..=>λh=>λe=>h _ _ _ e
 | .pass=>λh=>λe=>h _ _ _ e
 | .stop=>λh=>λe=>h _ _ _ e
 | .tryS ..=>λh=>λe=>h _ _ _ e
theorem mQ:∀ (e:SL) {ρ:Fm} {σ:ac} {t:Nat} {k:Out->ac->Nat->Prop},(∀ v σ' t,execs G cf e ρ σ=.ok v σ'->k v σ' t)->KR G cf e ρ σ t k
 | .nil=>λh=>h _ _ _ rfl
 | .cons s r=>λh=>MW s λo aa t e1=>match o,e1 with
   | .next ρ,e1=>mQ r λv σ' t e2=>h _ _ _ (kg e1 e2)
   | .ret v,e1=>h _ _ _ (kg e1 rfl)
   | .exc n ds,e1=>h _ _ _ (kg e1 rfl)
end
end
noncomputable def tl:SL->SL
 | .cons _ r=>r
 | .nil=>.nil
noncomputable def Qb:SL->S
 | .cons s _=>s
 | .nil=>.pass
theorem dn(G:Nat->Option PyData)(cf:Nat->List V->ac->Res V)(e:SL)(ρ:Fm)(σ:ac)(t:Nat):KR G cf e ρ σ t λv σ' _=>execs G cf e ρ σ=.ok v σ':=mQ G cf e λ_ _ _ h=>h
noncomputable def chk(p:Prog)(f:Nat)(args:List V):Option (SL×Nat):=match p.P f with
 | some fn=>if fn.ctor then none else if args.length=fn.np then some (fn.body,fn.ns - fn.np) else none
 | none=>none
theorem x7{f:Nat}(h:chk p f args=some (b,n))(e:execs p.G (af p d) b (args++List.replicate n V.un) σ=.ok o σ'):af p (d+1) f args σ=om σ.length o σ':=by
 unfold chk at h;show (match p.P f with
   | none=>Res.bad
   | some fn=>if fn.ctor then Bn p d fn args σ else if args.length=fn.np then
       (execs p.G (af p d) fn.body (args++List.replicate (fn.ns - fn.np) V.un) σ).bind λo aa=>om σ.length o aa
     else .bad)=_
 cases hp:p.P f with
 | none=>rw[hp] at h;injection h
 | some fn=>
   replace h:=hp▸h;by_cases hc:fn.ctor=true
   . cases (if_pos hc).symm.trans h
   . have h:=(if_neg hc).symm.trans h;by_cases ha:args.length=fn.np
     . cases (if_pos ha).symm.trans h;exact(if_neg hc).trans ((if_pos ha).trans (kg e rfl))
     . cases (if_neg ha).symm.trans h
theorem wz(p:Prog)(f d:Nat)(args:List V)(σ:ac)(h:chk p f args=some (b,n))(t:Nat):KR p.G (af p d) b (args++List.replicate n V.un) σ t λo σ' _=>af p (d+1) f args σ=om σ.length o σ':=mQ p.G (af p d) b λ_ _ _ e=>x7 h e
def P0(o:Out)(k:V->Prop):Prop:=match o with
 | .ret (.d x)=>k (.d x)
 | .next _=>k (.d .none)
 | .exc n ds=>k (.exc n ds)
 | _=>True
theorem a9(p:Prog)(f d:Nat)(args:List V)(σ:ac)(h:chk p f args=some (b,n))(t:Nat):KR p.G (af p d) b (args++List.replicate n V.un) σ t λo σ' _=>P0 o λv=>σ'.take σ.length=σ->af p (d+1) f args σ=.ok v σ:=mQ p.G (af p d) b λo σ' _ e=>by
 have q:=x7 h e;cases o with
 | next ρ=>exact λe=>q.trans (congrArg (Res.ok (V.d .none)) e)
 | exc n ds=>exact λe=>q.trans (congrArg (Res.ok (V.exc n ds)) e)
 | ret v=>cases v with
   | d x=>exact λe=>q.trans (congrArg (Res.ok (V.d x)) e)
   | _=>trivial
noncomputable abbrev dq (vs:Array Value) (n:Nat):Obj:={ cls:=.type "list",dict:=none,data:=.seq vs n,slots:=#[] }
noncomputable abbrev oE (vs:Array Value) (n:Nat):Obj:={ cls:=.type "tuple",dict:=none,data:=.seq vs n,slots:=#[] }
def cK(x:Str):Prop:=PyData.strOk x=true/\x.cps.size<=LIM
mutual
inductive Rel(T:Addr->Prop)(h:Heap):Value->PyData->Prop
 | none:Rel T h .none .none
 | bool (b:Bool):Rel T h (.bool b) (.bool b)
 | int (i:Int) (t:Tok):Rel T h (.int i t) (.int i)
 | str (x:Str) (t:Tok):cK x->Rel T h (.str x t) (.str x)
 | list {a:Addr} {vs:Array Value} {n:Nat} {xs:List PyData}:h.get? a=some (dq vs n)->¬ T a->xs.length<=LIM->RelAll T h vs.toList xs->Rel T h (.ref a) (.list xs)
 | tuple {a:Addr} {vs:Array Value} {n:Nat} {xs:List PyData}:h.get? a=some (oE vs n)->¬ T a->xs.length<=LIM->RelAll T h vs.toList xs->Rel T h (.ref a) (.tuple xs)
inductive RelAll(T:Addr->Prop)(h:Heap):List Value->List PyData->Prop
 | nil:RelAll T h [] []
 | cons {v:Value} {vs:List Value} {d:PyData} {ds:List PyData}:Rel T h v d->RelAll T h vs ds->RelAll T h (v::vs) (d::ds)
end
def xT(o:Obj)(vs:Array Value)(n:Nat):Prop:=o.data=.seq vs n\/∃ C,o.cls=.ref C/\(o.data=.fields vs\/o.data=.plain)
def bS(h:Heap)(a:Addr):Prop:=X3 λo vs n=>h.get? a=some o/\xT o vs n
variable {T T':Addr->Prop}{h h':Heap}{vs:List Value}{P:List Value->List PyData->Prop}{d:PyData}{v:Value}
theorem Rel.mono(H:∀ a o vs n,h.get? a=some o->xT o vs n->¬ T a->h'.get? a=some o/\¬ T' a)(r:Rel T h v d):Rel T' h' v d:=
 Rel.rec (motive_1:=λv d _=>Rel T' h' v d) (motive_2:=λvs ds _=>RelAll T' h' vs ds) .none .bool .int .str (λho ht hl _ ih=>.list (H _ _ _ _ ho (.inl rfl) ht).1 (H _ _ _ _ ho (.inl rfl) ht).2 hl ih)
   (λho ht hl _ ih=>.tuple (H _ _ _ _ ho (.inl rfl) ht).1 (H _ _ _ _ ho (.inl rfl) ht).2 hl ih) .nil (λ_ _ a b=>.cons a b) r
theorem RelAll.ind(h0:P [] [])(h1:∀ {v vs d ds},Rel T h v d->P vs ds->P (v::vs) (d::ds))(r:RelAll T h vs ds):P vs ds:=
 RelAll.rec (motive_1:=λ_ _ _=>True) (motive_2:=λvs ds _=>P vs ds) trivial (λ_=>trivial) (λ_ _=>trivial) (λ_ _ _=>trivial) (λ_ _ _ _ _=>trivial) (λ_ _ _ _ _=>trivial) h0 (λr _ _ ih=>h1 r ih) r
theorem RelAll.mono(H:∀ a o vs n,h.get? a=some o->xT o vs n->¬ T a->h'.get? a=some o/\¬ T' a)(r:RelAll T h vs ds):RelAll T' h' vs ds:=
 r.ind .nil λr ih=>.cons (r.mono H) ih
theorem Rel.reads(r:Rel T h v d):∃ as,Reads h v d as:=
 Rel.rec (motive_1:=λv d _=>∃ as,Reads h v d as) (motive_2:=λvs ds _=>∃ as,ReadsAll h vs ds as) ⟨_,.none⟩ (λb=>⟨_,.bool b⟩) (λi t=>⟨_,.int i t⟩) (λx t _=>⟨_,.str x t⟩)
   (λho _ _ _ ih=>ih.elim λ_ q=>⟨_,.list ho rfl rfl q⟩) (λho _ _ _ ih=>ih.elim λ_ q=>⟨_,.tuple ho rfl rfl q⟩) ⟨_,.nil⟩ (λ_ _ a b=>a.elim λ_ p=>b.elim λ_ q=>⟨_,.cons p q⟩) r
theorem RelAll.reads(r:RelAll T h vs ds):∃ as,ReadsAll h vs ds as:=r.ind (P:=λvs ds=>∃ as,ReadsAll h vs ds as) ⟨_,.nil⟩ λr ih=>r.reads.elim λ_ p=>ih.elim λ_ q=>⟨_,.cons p q⟩
theorem Rel.lay(r:Rel T h v d):d.canLay0=true:=
 Rel.rec (motive_1:=λv d _=>d.canLay0=true) (motive_2:=λvs ds _=>PyData.canLayAll0 ds=true) rfl (λ_=>rfl) (λ_ _=>rfl) (λ_ _ e=>e.1) (λ_ _ _ _ ih=>ih) (λ_ _ _ _ ih=>ih) rfl (λ_ _ a b=>Qn.mpr ⟨a,b⟩) r
theorem RelAll.lay(r:RelAll T h vs ds):PyData.canLayAll0 ds=true:=r.ind (P:=λ_ ds=>PyData.canLayAll0 ds=true) rfl λr ih=>Qn.mpr ⟨r.lay,ih⟩
theorem RelAll.inv(r:RelAll T h vs (d::ds)):X2 λv vs'=>A3 (vs=v::vs') (Rel T h v d) (RelAll T h vs' ds):=by
 cases r with
 | cons r rs=>exact⟨_,_,rfl,r,rs⟩
theorem RelAll.inv0(r:RelAll T h vs []):vs=[]:=by cases r;rfl
theorem RelAll.length(r:RelAll T h vs ds):vs.length=ds.length:=by
 induction ds generalizing vs with
 | nil=>rw[r.inv0];rfl
 | cons d ds ih=>obtain⟨v,vs',rfl,_,rs⟩:=r.inv;rw[QF,QF,ih rs]
theorem RelAll.append{ws:List Value}{es:List PyData}(r:RelAll T h vs ds)(q:RelAll T h ws es):RelAll T h (vs++ws) (ds++es):=by
 induction ds generalizing vs with
 | nil=>exact r.inv0▸q
 | cons d ds ih=>obtain⟨v,vs',rfl,x,rs⟩:=r.inv;exact .cons x (ih rs)
theorem RelAll.get{vs:List Value}{ds:List PyData}(r:RelAll T h vs ds){k:Nat}{d:PyData}(e:ds[k]?=some d):∃ v,vs[k]?=some v/\Rel T h v d:=by
 induction ds generalizing vs k with
 | nil=>injection e
 | cons d' ds ih=>
   obtain⟨v,vs',rfl,x,rs⟩:=r.inv;cases k with
   | zero=>(injection e with e0_;subst e0_);exact⟨_,rfl,x⟩
   | succ k=>exact ih rs e
theorem RelAll.getV(r:RelAll T h vs ds)(e:vs[k]?=some v):∃ d,ds[k]?=some d/\Rel T h v d:=by
 have hk:k < ds.length:=by exact r.length▸(Qi.mp e).1
 obtain⟨w,hw,q⟩:=r.get (Qk hk);rw[e] at hw;(injection hw with e0_;subst e0_);exact⟨_,Qk hk,q⟩
theorem RelAll.drop(k:Nat)(r:RelAll T h vs ds):RelAll T h (vs.drop k) (ds.drop k):=by
 induction k generalizing vs ds with
 | zero=>exact r
 | succ k ih=>cases ds with
   | nil=>exact r.inv0▸.nil
   | cons d ds=>obtain⟨v,vs',rfl,_,rs⟩:=r.inv;exact ih rs
theorem RelAll.take(k:Nat)(r:RelAll T h vs ds):RelAll T h (vs.take k) (ds.take k):=by
 induction k generalizing vs ds with
 | zero=>exact .nil
 | succ k ih=>cases ds with
   | nil=>exact r.inv0▸.nil
   | cons d ds=>obtain⟨v,vs',rfl,x,rs⟩:=r.inv;exact .cons x (ih rs)
theorem RelAll.one(r:Rel T h v d):RelAll T h [v] [d]:=.cons r .nil
noncomputable def Cell.live:Cell->Bool
 | .lst _ | .dct _=>true
 | _=>false
noncomputable def Cell.isGone:Cell->Bool
 | .gone=>true
 | _=>false
variable {c:Cell}
theorem Cell.live_not_gone(h:c.live=true):c.isGone=false:=by cases c <;> first | rfl | injection h
def TT(β:List Addr)(σ:ac)(a:Addr):Prop:=X2 λ(k:Nat) (c:Cell)=>A3 (β[k]?=some a) (σ[k]?=some c) (c.isGone=false)
def WW(β:List Addr)(σ:ac)(a:Addr):Prop:=X2 λ(k:Nat) (c:Cell)=>A3 (β[k]?=some a) (σ[k]?=some c) (c.live=true)
variable {a:Addr}{β:List Addr}
theorem WW.tt:WW β σ a->TT β σ a:=λ⟨k,c,h1,h2,h3⟩=>⟨k,c,h1,h2,Cell.live_not_gone h3⟩
theorem TT.mem:TT β σ a->a∈β:=λ⟨_,_,h1,_,_⟩=>Qp h1
structure Cx where
 prog:Program
 w:World
 h₀:Heap
 mg:Str->Option Value
 mb:Str->Option Value
 fr:List Addr
 /-- code that may run while an exception is handled -/
 q:Bool
 /-- the methods of the class Runner -/
 mn:Str->Option Value
def jp(Z:Cx)(T:Addr->Prop)(h hd:Heap)(a:Addr)(l:List (Str×PyData)):Prop:=
 ∃ kvs:List (Str×Value),A5 (h.DictOf (strKind Z.prog Z.w) a kvs) (kvs.map (·.1)=l.map (·.1)) (RelAll T hd (kvs.map (·.2)) (l.map (·.2))) ((∀ k∈l.map (·.1),cK k)) (l.length<=LIM)
noncomputable def eZ(Z:Cx)(T:Addr->Prop)(h hd:Heap)(a:Addr):Cell->Prop
 | .lst l=>X2 λvs n=>A3 (h.get? a=some (dq vs n)) (RelAll T hd vs.toList l) (l.length<=LIM)
 | .dct l=>jp Z T h hd a l
 | _=>∃ o,h.get? a=some o
def I4(Z:Cx)(β:List Addr)(σ:ac)(h:Heap):Prop:=∀ (k:Nat) (a:Addr) (c:Cell),β[k]?=some a->σ[k]?=some c->eZ Z (TT β σ) h h a c
structure Inv(Z:Cx)(β:List Addr)(σ:ac)(h:Heap):Prop where
 len:β.length=σ.length
 nodup:β.Nodup
 base:∀ a o,Z.h₀.get? a=some o->h.get? a=some o
 fresh:∀ a∈β,Z.h₀.get? a=none
 cell:I4 Z β σ h
def fH(o:Obj):Prop:=X2 λes n=>o.data=.dict es n
def Gz(β:List Addr)(σ:ac)(σ':ac):Prop:=∀ (k:Nat) (c':Cell),k < β.length->σ'[k]?=some c'->∃ c,A4 (σ[k]?=some c) ((c'.live=true->c.live=true)) ((c.isGone=true->c'.isGone=true)) (c=.busy->c'=.busy)
def CY(O:Addr->Prop)(β:List Addr)(σ:ac)(s:Shared)(s':Shared):Prop:=∀ a o,s.heap.get? a=some o->¬ WW β σ a->¬ O a->s'.heap.get? a=some o\/(fH o/\a∉β/\∃ sl,s'.heap.get? a=some { o with slots:=sl })
structure Step(O:Addr->Prop)(β:List Addr)(σ:ac)(s:Shared)(β':List Addr)(σ':ac)(s':Shared):Prop where
 ext:∃ e,β'=β++e/\∀ a∈e,s.heap.get? a=none
 mono:Gz β σ σ'
 keepW:CY O β σ s s'
 alive:∀ a,s'.heap.get? a=none->s.heap.get? a=none
 gens:s'.gens=s.gens
 os:s'.os=s.os
abbrev b7:Addr->Prop:=λ_=>False
variable {x:Addr}{O' O:Addr->Prop}{Z:Cx}{hd:Heap}{ah aO:List Addr}{o:Obj}{s ai al:Shared}
theorem eZ.ex(r:eZ Z T h hd a c):∃ o,h.get? a=some o:=by
 cases c with
 | lst _=>obtain⟨_,_,e,_⟩:=r;exact⟨_,e⟩
 | dct _=>obtain⟨_,⟨o,_,_,e,_⟩,_⟩:=r;exact⟨o,e⟩
 | gone=>exact r
 | busy=>exact r
theorem Inv.at(I:Inv Z β σ h)(hk:β[k]?=some a):∃ c,σ[k]?=some c/\eZ Z (TT β σ) h h a c:=by
 have hlt:k < σ.length:=by exact I.len▸(Qi.mp hk).1
 exact⟨σ[k],Qk hlt,I.cell k a _ hk (Qk hlt)⟩
theorem Inv.ex(I:Inv Z β σ h)(ha:a∈β):∃ o,h.get? a=some o:=by obtain⟨k,hk⟩:=T0 ha;obtain⟨c,_,r⟩:=I.at hk;exact r.ex
theorem Step.keep(a:Step O β σ s ah aa ai)(x:Addr)(o:Obj)(hx:s.heap.get? x=some o)(hw:¬ WW β σ x)(hO:¬ O x)(hn:¬ fH o):ai.heap.get? x=some o:=(a.keepW x o hx hw hO).resolve_right λq=>hn q.1
theorem JE(h:∀ a o,s.heap.get? a=some o->¬ WW β σ a->¬ O a->ai.heap.get? a=some o):∀ a o,s.heap.get? a=some o->¬ WW β σ a->¬ O a->ai.heap.get? a=some o\/(fH o/\a∉β/\∃ sl,ai.heap.get? a=some { o with slots:=sl }):=λa o e w n=>.inl (h a o e w n)
theorem tv{vs:Array Value}(h:xT o vs n):¬ fH o:=λ⟨es,m,q⟩=>by rcases h with h | ⟨_,_,h | h⟩ <;> rw[h] at q <;> injection q
def dK(Z:Cx)(β:List Addr)(h:Heap):Prop:=∀ f∈Z.fr,(∃ o,h.get? f=some o/\fH o)/\f∉β/\Z.h₀.get? f=none
theorem dK.step(F:dK Z β s.heap)(S:Step O β σ s ah aa ai)(hO:∀ f∈Z.fr,¬ O f):dK Z ah ai.heap:=λf hf=>by
 obtain⟨⟨o,e,q⟩,nb,n0⟩:=F f hf;refine⟨?_,λm=>?_,n0⟩
 . rcases S.keepW f o e (λz=>nb z.tt.mem) (hO f hf) with h | ⟨_,_,sl,h⟩
   . exact⟨o,h,q⟩
   . exact⟨_,h,q⟩
 . obtain⟨l,rfl,g⟩:=S.ext;rcases Qx.mp m with m | m
   . exact nb m
   . rw[g f m] at e;injection e
theorem dK.not(F:dK Z β h)(e:h.get? a=none):a∉Z.fr:=λm=>by obtain⟨⟨o,q,_⟩,_⟩:=F a m;rw[e] at q;injection q
theorem dK.grow(F:dK Z β h)(hk:∀ f o,f∈Z.fr->h.get? f=some o->fH o->∃ o',h'.get? f=some o'/\fH o'):dK Z β h':=λf hf=>by obtain⟨⟨o,e,q⟩,r⟩:=F f hf;exact⟨hk f o hf e q,r⟩
theorem Step.refl:Step O β σ s β σ s:=
 ⟨⟨[],by simp,by simp⟩,λk c' _ e=>⟨c',e,id,id,id⟩,JE λ_ _ e _ _=>e,λ_ e=>e,rfl,rfl⟩
theorem Step.trans(a:Step O β σ s ah aa ai)(b:Step O ah aa ai aO ae al):Step O β σ s aO ae al:=by
 obtain⟨e1,rfl,f1⟩:=a.ext;obtain⟨e2,rfl,f2⟩:=b.ext;refine⟨⟨e1++e2,by simp,λx hx=>?_⟩,λk c' hk hc=>?_,λx o hx hw hO=>?_,λx hx=>a.alive x (b.alive x hx),b.gens.trans a.gens,b.os.trans a.os⟩
 . rcases Qx.mp hx with h1 | h1
   . exact f1 x h1
   . exact a.alive x (f2 x h1)
 . obtain⟨c1,g1,g2,g3,g4⟩:=b.mono k c' (by rw[Qg];exact Q3 hk (Qz ..)) hc;obtain⟨c,k1,k2,k3,k4⟩:=a.mono k c1 hk g1;exact⟨c,k1,λz=>k2 (g2 z),λz=>g3 (k3 z),λz=>g4 (k4 z)⟩
 . have nw:¬ WW (β++e1) aa x:=?_
   . rcases a.keepW x o hx hw hO with q | ⟨f,nb,sl,q⟩
     . exact(b.keepW x o q nw hO).imp id λ⟨f,n,r⟩=>⟨f,λm=>n (RP _ m),r⟩
     . rcases b.keepW x _ q nw hO with q' | ⟨_,_,sl',q'⟩
       . exact .inr ⟨f,nb,sl,q'⟩
       . exact .inr ⟨f,nb,sl',q'⟩
   rintro⟨k,c,h1,h2,h3⟩
   by_cases hk:k < β.length
   . obtain⟨c0,k1,k2,_⟩:=a.mono k c hk h2;exact hw ⟨k,c0,by rwa [QJ hk] at h1,k1,k2 h3⟩
   . rw[QH (Rm hk)] at h1;have:=f1 x (Qp h1);rw[hx] at this;injection this
theorem Step.weaken(a:Step O β σ s ah aa ai)(hO:∀ x,O x->O' x):Step O' β σ s ah aa ai:=
 ⟨a.ext,a.mono,λx o hx hw hn=>a.keepW x o hx hw λz=>hn (hO x z),a.alive,a.gens,a.os⟩
theorem Step.ofNo(a:Step b7 β σ s ah aa ai):Step O β σ s ah aa ai:=a.weaken λ_ z=>z.elim
theorem Step.drop(a:Step O β σ s ah aa ai)(hO:∀ x,O x->s.heap.get? x=none):Step b7 β σ s ah aa ai:=
 ⟨a.ext,a.mono,λx o hx hw _=>a.keepW x o hx hw (λz=>by rw[hO x z] at hx;injection hx),a.alive,a.gens,a.os⟩
theorem Step.notTT(a:Step O β σ s ah aa ai)(hx:s.heap.get? x=some o)(ht:¬ TT β σ x):¬ TT ah aa x:=by
 rintro⟨k,c,h1,h2,h3⟩
 obtain⟨e,rfl,f⟩:=a.ext;by_cases hk:k < β.length
 . obtain⟨c0,k1,k2,k3,_⟩:=a.mono k c hk h2;refine ht ⟨k,c0,by rwa [QJ hk] at h1,k1,?_⟩;cases hg:c0.isGone with
   | false=>rfl
   | true=>rw[k3 hg] at h3;injection h3
 . rw[QH (Rm hk)] at h1;have:=f x (Qp h1);rw[hx] at this;injection this
theorem Step.relH(a:Step O β σ s ah aa ai)(hO:∀ x,O x->¬ bS s.heap x) :
   ∀ x o vs n,s.heap.get? x=some o->xT o vs n->¬ TT β σ x->ai.heap.get? x=some o/\¬ TT ah aa x:=
 λx o vs n hx hd ht=>⟨a.keep x o hx (λz=>ht z.tt) (λz=>hO x z ⟨o,vs,n,hx,hd⟩) (tv hd),a.notTT hx ht⟩
theorem Step.rel(a:Step O β σ s ah aa ai)(hO:∀ x,O x->¬ bS s.heap x)(r:Rel (TT β σ) s.heap v d):Rel (TT ah aa) ai.heap v d:=r.mono (a.relH hO)
theorem Step.relAll(a:Step O β σ s ah aa ai)(hO:∀ x,O x->¬ bS s.heap x)(r:RelAll (TT β σ) s.heap vs ds):RelAll (TT ah aa) ai.heap vs ds:=r.mono (a.relH hO)
theorem Step.get(a:Step O β σ s ah aa ai)(hk:β[k]?=some x):ah[k]?=some x:=by obtain⟨e,rfl,_⟩:=a.ext;rw[QJ (Qi.mp hk).1];exact hk
inductive InstRel(β:List Addr)(σ:ac)(h:Heap)(v:Value)(k:Nat)(l:List (Str×Nat)):Prop where
 | mk (x:Addr) (o:Obj) (D:Addr) (h1:v=.ref x) (h2:h.get? x=some o) (h3:o.cls=.ref RA/\(∀ c,o.data≠.cls c)/\o.dict=some D) (h4:β[k+1]?=some x/\¬ TT β σ x) (h5:β[k]?=some D/\¬ TT β σ D/\D≠x)
   (m:Str->Option Value) (h6:h.Ns1 D m) (h7:∀ y,m y≠none->y=jo\/y=JN) (h8:∀ y,(l.lookup y=none->m y=none)/\∀ j,l.lookup y=some j->∃ b,β[j]?=some b/\m y=some (.ref b)):InstRel β σ h v k l
variable {β':List Addr}
theorem InstRel.mono{l:List (Str×Nat)}(r:InstRel β σ h v k l)
   (hb:∀ (j:Nat) (b:Addr),β[j]?=some b->β'[j]?=some b) (hg:∀ D o,D∈β->h.get? D=some o->¬ TT β σ D->h'.get? D=some o/\¬ TT β' σ' D):InstRel β' σ' h' v k l:=by
 obtain⟨x,o,D,h1,h2,h3,⟨h4,h4'⟩,⟨h5,h6,h7⟩,m,h8,h8',h9⟩:=r;have q:=hg x o (Qp h4) h2 h4';have hm:=Qp h5;refine⟨x,o,D,h1,q.1,h3,⟨hb _ x h4,q.2⟩,⟨hb k D h5,?_,h7⟩,m,h8.at λo' z=>(hg D o' hm z h6).1,h8',λy=>⟨(h9 y).1,λj z=>let ⟨b,z1,z2⟩:=(h9 y).2 j z;⟨b,hb j b z1,z2⟩⟩⟩;obtain⟨o',_,_,z,_⟩:=h8;exact(hg D o' hm z h6).2
noncomputable def aA(β:List Addr)(σ:ac)(h:Heap)(v:Value):V->Prop
 | .un=>False
 | .d x=>Rel (TT β σ) h v x
 | .loc n=>∃ a,β[n]?=some a/\v=.ref a
 | .locs ns=>X3 λa vs n=>A5 (v=.ref a) (h.get? a=some (dq vs n)) (¬ TT β σ a) ((vs.toList.length=ns.length/\ns.length<=LIM)) (∀ (k:Nat) (m:Nat),ns[k]?=some m->∃ b,β[m]?=some b/\vs[k]?=some (.ref b))
 | .exc k ds=>X3 λe o vs=>A4 (v=.ref e) (h.get? e=some o) ((o.cls=.ref (KA k)/\o.data=.fields vs/\(1<=k/\k<=6))) (¬ TT β σ e)
 | .inst k l=>InstRel β σ h v k l
inductive VRels(β:List Addr)(σ:ac)(h:Heap):List Value->List V->Prop
 | nil:VRels β σ h [] []
 | cons {v:Value} {vs:List Value} {x:V} {xs:List V}:aA β σ h v x->VRels β σ h vs xs->VRels β σ h (v::vs) (x::xs)
variable {g6 c':Cell}{hd':Heap}
theorem Step.vrel0(a:Step b7 β σ s ah aa ai){x:V}(r:aA β σ s.heap v x):aA ah aa ai.heap v x:=by
 cases x with
 | un=>exact r
 | d _=>exact a.rel (λ_ z=>z.elim) r
 | loc _=>obtain⟨x,h1,h2⟩:=r;exact⟨x,a.get h1,h2⟩
 | locs ns=>obtain⟨x,vs,n,h1,h2,h3,h4,h5⟩:=r;exact⟨x,vs,n,h1,(a.relH (λ_ z=>z.elim) _ _ _ _ h2 (.inl rfl) h3).1,(a.relH (λ_ z=>z.elim) _ _ _ _ h2 (.inl rfl) h3).2,h4,λk m e=>(h5 k m e).elim λb g=>⟨b,a.get g.1,g.2⟩⟩
 | exc _ _=>obtain⟨e,o,vs,h1,h2,h3,h4⟩:=r;exact⟨e,o,vs,h1,(a.relH (λ_ z=>z.elim) e o vs 0 h2 (.inr ⟨_,h3.1,.inl h3.2.1⟩) h4).1,h3,(a.relH (λ_ z=>z.elim) e o vs 0 h2 (.inr ⟨_,h3.1,.inl h3.2.1⟩) h4).2⟩
 | inst k l=>exact InstRel.mono r (λ_ _ e=>a.get e) λD o hm e t=>⟨(a.keepW D o e (λz=>t z.tt) id).resolve_right λq=>q.2.1 hm,a.notTT e t⟩
theorem Step.rel0(a:Step b7 β σ s ah aa ai)(r:Rel (TT β σ) s.heap v d):Rel (TT ah aa) ai.heap v d:=a.rel (λ_ z=>z.elim) r
theorem Step.relAll0(a:Step b7 β σ s ah aa ai){v:List Value}{d:List PyData}(r:RelAll (TT β σ) s.heap v d):RelAll (TT ah aa) ai.heap v d:=a.relAll (λ_ z=>z.elim) r
theorem Step.grow(hk:∀ a o,s.heap.get? a=some o->ai.heap.get? a=some o)(hg:ai.gens=s.gens)(ho:ai.os=s.os):Step O β σ s β σ ai:=
 ⟨⟨[],by simp,by simp⟩,λk c' _ e=>⟨c',e,id,id,id⟩,JE λa o e _ _=>hk a o e,λa e=>(by
   cases q:s.heap.get? a with
   | none=>rfl
   | some o=>rw[hk a o q] at e;injection e),hg,ho⟩
theorem jp.mono{l:List (Str×PyData)}(r:jp Z T h hd a l)(ha:∀ o,h.get? a=some o->h'.get? a=some o)
   (H:∀ a o vs n,hd.get? a=some o->xT o vs n->¬ T a->hd'.get? a=some o/\¬ T' a):jp Z T' h' hd' a l:=by
 obtain⟨kvs,⟨o,es,ep,e1,e2⟩,q,r,st,su⟩:=r;exact⟨kvs,⟨o,es,ep,ha _ e1,e2⟩,q,r.mono H,st,su⟩
theorem eZ.mono(r:eZ Z T h hd a c)(ha:∀ o,h.get? a=some o->h'.get? a=some o)
   (H:∀ a o vs n,hd.get? a=some o->xT o vs n->¬ T a->hd'.get? a=some o/\¬ T' a):eZ Z T' h' hd' a c:=by
 cases c with
 | lst l=>obtain⟨vs,n,e,r,z⟩:=r;exact⟨vs,n,ha _ e,r.mono H,z⟩
 | dct l=>exact jp.mono r ha H
 | gone=>obtain⟨o,e⟩:=r;exact⟨o,ha _ e⟩
 | busy=>obtain⟨o,e⟩:=r;exact⟨o,ha _ e⟩
theorem Inv.grow(I:Inv Z β σ h)(hk:∀ a o,h.get? a=some o->h'.get? a=some o):Inv Z β σ h':=
 ⟨I.len,I.nodup,λa o e=>hk a o (I.base a o e),I.fresh,λk a c h1 h2=>(I.cell k a c h1 h2).mono (λo e=>hk a o e) λa o _ _ e _ t=>⟨hk a o e,t⟩⟩
theorem By(hl:β.length=σ.length):TT (β++[a]) (σ++[c]) x↔TT β σ x\/(x=a/\c.isGone=false):=by
 constructor
 . rintro⟨k,c',h1,h2,h3⟩
   by_cases hk:k < β.length
   . rw[QJ hk] at h1;rw[QJ (hl▸hk)] at h2;exact .inl ⟨k,c',h1,h2,h3⟩
   . rw[QH (Rm hk)] at h1;rw[QH (hl▸Rm hk)] at h2;have e:k - β.length=0:=Tt.mp (Qi.mp h1).1;rw[e] at h1;rw[<- hl,e] at h2;simp at h1 h2;subst h1 h2;exact .inr ⟨rfl,h3⟩
 . rintro (⟨k,c',h1,h2,h3⟩ | ⟨rfl,h3⟩)
   . exact⟨k,c',by rw[QJ (Qi.mp h1).1];exact h1,by rw[QJ (Qi.mp h2).1];exact h2,h3⟩
   . exact⟨β.length,c,by simp,by rw[hl];simp,h3⟩
theorem uH(I:Inv Z β σ s.heap)(hk:∀ a o,s.heap.get? a=some o->ai.heap.get? a=some o)(hf:s.heap.get? a=none)(hg:ai.gens=s.gens)(ho:ai.os=s.os)
   (hc:eZ Z (TT β σ) ai.heap s.heap a c):Step O β σ s (β++[a]) (σ++[c]) ai/\Inv Z (β++[a]) (σ++[c]) ai.heap:=by
 have hna:a∉β:=λm=>by obtain⟨o,e⟩:=I.ex m;rw[hf] at e;injection e
 have H0:∀ x o vs n,s.heap.get? x=some o->xT o vs n->¬ TT β σ x->ai.heap.get? x=some o/\¬ TT (β++[a]) (σ++[c]) x:=λx o vs n e d t=>⟨hk x o e,λz=>((By I.len).mp z).elim t λq=>by rw[q.1,hf] at e;injection e⟩
 refine⟨⟨⟨[a],rfl,by simpa using hf⟩,λk c' hk' e=>?_,JE λx o e _ _=>hk x o e,λx e=>?_,hg,ho⟩,⟨by simp[I.len],?_,λx o e=>hk x o (I.base x o e),?_,?_⟩⟩
 . rw[QJ (by exact I.len▸hk')] at e;exact⟨c',e,id,id,id⟩
 . cases q:s.heap.get? x with
   | none=>rfl
   | some o=>rw[hk x o q] at e;injection e
 . rw[R3];exact⟨I.nodup,by simp,λx hx y hy=>by simp at hy;subst hy;rintro rfl;exact hna hx⟩
 . intro x hx;rcases Qx.mp hx with h1 | h1
   . exact I.fresh x h1
   . simp at h1;subst h1;cases q:Z.h₀.get? x with
     | none=>rfl
     | some o=>rw[I.base x o q] at hf;injection hf
 . intro k x c' h1 h2;by_cases hk':k < β.length
   . rw[QJ hk'] at h1;rw[QJ (by exact I.len▸hk')] at h2;exact(I.cell k x c' h1 h2).mono (λo e=>hk x o e) H0
   . rw[QH (Rm hk')] at h1;rw[QH (by rw[<- I.len];exact Rm hk')] at h2;have e:k - β.length=0:=Tt.mp (Qi.mp h1).1;rw[e] at h1;rw[<- I.len,e] at h2;simp at h1 h2;subst h1 h2;exact hc.mono (λo e=>e) H0
theorem dC(hne:n≠k):(σ.set n c)[k]?=σ[k]?:=by simp[hne]
theorem cY(hn:σ[n]?=some g6):(σ.set n c)[n]?=some c:=by have:=(Qi.mp hn).1;simp[this]
theorem dH{P:Prop}(hn:σ[n]?=some g6)(e:(σ.set n c)[k]?=some c')(h1:k=n->c'=c->P)(h2:n≠k->σ[k]?=some c'->P):P:=by
 by_cases hne:n=k
 . rw[<- hne,cY hn] at e;exact h1 hne.symm (Option.some.inj e).symm
 . rw[dC hne] at e;exact h2 hne e
theorem mD(hn:σ[n]?=some g6)(hg:g6.isGone=false)(z:TT β (σ.set n c) x):TT β σ x:=by obtain⟨k,c',h1,h2,h3⟩:=z;exact dH hn h2 (λe _=>⟨k,g6,h1,e▸hn,hg⟩) λ_ h2=>⟨k,c',h1,h2,h3⟩
theorem Inv.addr_ne(I:Inv Z β σ h)(hb:β[n]?=some a)(h1:β[k]?=some x)(hne:n≠k):x≠a:=λq=>hne ((List.getElem?_inj (Qi.mp hb).1 I.nodup).mp (hb.trans (q▸h1).symm))
theorem Inv.setc(I:Inv Z β σ h)(hb:β[n]?=some a)(hn:σ[n]?=some g6)(base:∀ x o,Z.h₀.get? x=some o->h'.get? x=some o)(keep:∀ x o,x≠a->h.get? x=some o->h'.get? x=some o)
   (H0:∀ x o vs n',h.get? x=some o->xT o vs n'->¬ TT β σ x->h'.get? x=some o/\¬ TT β (σ.set n c) x) (hc:eZ Z (TT β (σ.set n c)) h' h' a c):Inv Z β (σ.set n c) h':=
 ⟨I.len.trans (SW ..).symm,I.nodup,base,I.fresh,λk x c' h1 h2=>dH hn h2 (λe e'=>by rw[e',Option.some.inj (h1.symm.trans (e▸hb))];exact hc) λhne h2=>(I.cell k x c' h1 h2).mono (λo e=>keep x o (I.addr_ne hb h1 hne) e) H0⟩
theorem mK(I:Inv Z β σ s.heap)(hb:β[n]?=some a)(hn:σ[n]?=some g6)(hl:g6.live=true)(hlc:c.live=true)(hk:∀ x o,x≠a->s.heap.get? x=some o->ai.heap.get? x=some o)
   (hg:ai.gens=s.gens) (ho:ai.os=s.os) (hc:eZ Z (TT β σ) ai.heap s.heap a c):Step O β σ s β (σ.set n c) ai/\Inv Z β (σ.set n c) ai.heap:=by
 have gn:=Cell.live_not_gone hl;have H0:∀ x o vs n',s.heap.get? x=some o->xT o vs n'->¬ TT β σ x->ai.heap.get? x=some o/\¬ TT β (σ.set n c) x:=λx o vs n' e d t=>⟨hk x o (λq=>t (q▸⟨n,g6,hb,hn,gn⟩)) e,λz=>t (mD hn gn z)⟩
 refine⟨⟨⟨[],(QG _).symm,λ_ z=>absurd z Re⟩,λk c' hk' e=>dH hn e (λe _=>⟨g6,e▸hn,λ_=>hl,λz=>absurd (gn.symm.trans z) QB,λz=>absurd hl (z▸QB)⟩) λ_ e=>⟨c',e,id,id,id⟩,JE λx o e hw _=>hk x o (λq=>hw (q▸⟨n,g6,hb,hn,hl⟩)) e,λx e=>?_,hg,ho⟩,
   I.setc hb hn (λx o e=>hk x o (λq=>?_) (I.base x o e)) hk H0 (hc.mono (λo e=>e) H0)⟩
 . cases q:s.heap.get? x with
   | none=>rfl
   | some o=>
     by_cases hx:x=a
     . refine hc.ex.elim λo' e'=>?_;rw[hx,e'] at e;injection e
     . rw[hk x o hx q] at e;injection e
 . exact Ti o (e.symm.trans (q▸I.fresh a (Qp hb)))
theorem uu(I:Inv Z β σ s.heap)(hb:β[n]?=some a)(hn:σ[n]?=some g6)(hl:g6.live=true)(hc:c.live=false):Step O β σ s β (σ.set n c) s/\Inv Z β (σ.set n c) s.heap:=by
 have hg:=Cell.live_not_gone hl;refine⟨⟨⟨[],(QG _).symm,λ_ z=>absurd z Re⟩,λk c' hk' e=>dH hn e (λe e'=>⟨g6,e▸hn,λz=>absurd (hc.symm.trans (e'▸z)) QB,λz=>absurd (hg.symm.trans z) QB,λz=>absurd hl (z▸QB)⟩) λ_ e=>⟨c',e,id,id,id⟩,JE λx o e hw _=>e,λx e=>e,rfl,rfl⟩,
   I.setc hb hn I.base (λ_ _ _ e=>e) (λx o vs n' e d t=>⟨e,λz=>t (mD hn hg z)⟩) ?_⟩
 have z:=(I.cell n a g6 hb hn).ex;cases c with
 | lst l=>injection hc
 | dct l=>injection hc
 | gone=>exact z
 | busy=>exact z
theorem zf(I:Inv Z β σ s.heap)(hb:β[n]?=some a)(hn:σ[n]?=some (.lst l)):Rel (TT β (σ.set n .gone)) s.heap (.ref a) (.list l):=by
 obtain⟨vs,m,e,r,hz⟩:=I.cell n a _ hb hn;refine .list e ?_ hz (r.mono λx o vs n' e d t=>⟨e,λz=>t (mD hn rfl z)⟩)
 rintro⟨k,c',h1,h2,h3⟩
 exact dH hn h2 (λ_ e=>Rt (h3.symm.trans (congrArg Cell.isGone e))) λhne _=>I.addr_ne hb h1 hne rfl
theorem BF(I:Inv Z β σ s.heap)(hb:β[n]?=some a)(hn:σ[n]?=some (.lst l))(S:Step O β (σ.set n .busy) s ah aa ai)(hO:∀ x,O x->¬ bS s.heap x)(ao:Inv Z ah aa ai.heap) :
   Step O β σ s ah (aa.set n (.lst l)) ai/\Inv Z ah (aa.set n (.lst l)) ai.heap:=by
 obtain⟨vs,m,e,r,hz⟩:=I.cell n a _ hb hn;have Jz:=S.get hb;have mf:aa[n]?=some .busy:=by obtain⟨OL,mf,_⟩:=ao.at Jz;obtain⟨c',k1,k2,k3,k4⟩:=S.mono n OL (Qi.mp hb).1 mf;rw[cY hn] at k1;rw[mf,k4 (Option.some.inj k1).symm]
 have H0:∀ x o vs' n',ai.heap.get? x=some o->xT o vs' n'->¬ TT ah aa x->ai.heap.get? x=some o/\¬ TT ah (aa.set n (.lst l)) x:=λx o _ _ ex _ t=>⟨ex,λz=>t (mD mf rfl z)⟩;refine⟨⟨S.ext,λk c' hk e=>dH mf e (λe e'=>⟨_,e▸hn,(λ_=>rfl),(λz=>by injection z),λz=>by injection z⟩) λhne e=>?_,λx o ex hw hO'=>S.keepW x o ex (λ⟨k,c',h1,h2,h3⟩=>dH hn h2 (λ_ e=>Rt (h3.symm.trans (congrArg Cell.live e))) λ_ h2=>hw ⟨k,c',h1,h2,h3⟩) hO',S.alive,S.gens,S.os⟩,
   ao.setc Jz mf ao.base (λ_ _ _ e=>e) H0 ⟨vs,m,(S.keep a _ e (λ⟨k,c',h1,h2,h3⟩=>dH hn h2 (λ_ e=>Rt (h3.symm.trans (congrArg Cell.live e))) λhne _=>I.addr_ne hb h1 hne rfl) (λz=>hO a z ⟨_,vs,m,e,.inl rfl⟩) (tv (.inl rfl))),r.mono λx o vs' n' ex d t=>?_,hz⟩⟩
 . obtain⟨c,g1,g2,g3,g4⟩:=S.mono k c' hk e;rw[dC hne] at g1;exact⟨c,g1,g2,g3,g4⟩
 . have q:=S.relH hO x o vs' n' ex d λz=>t (mD hn rfl z);exact H0 x o vs' n' q.1 d q.2
set_option tactic.hygienic true in
theorem mB:TT (β.take n) (σ.take n) x->TT β σ x:=by
 rintro⟨k,c,h1,h2,h3⟩
 rw[RF] at h1 h2;split at h1
 . rename_i hk;rw[if_pos hk] at h2;exact⟨k,c,h1,h2,h3⟩
 . injection h1
set_option tactic.hygienic true in
theorem Inv.take(I:Inv Z β σ h)(n:Nat):Inv Z (β.take n) (σ.take n) h:=by
 refine⟨by simp[I.len],I.nodup.sublist (S5 ..),I.base,λa ha=>I.fresh a (QO ha),λk a c h1 h2=>?_⟩;rw[RF] at h1 h2;split at h1
 . rename_i hk;rw[if_pos hk] at h2;exact(I.cell k a c h1 h2).mono (λo e=>e) λx o _ _ e _ t=>⟨e,λz=>t (mB z)⟩
 . injection h1
theorem Step.take(a:Step O β σ s ah aa ai)(hl:β.length=σ.length)(PC:ah.length=aa.length):Step O β σ s (ah.take σ.length) (aa.take σ.length) ai:=by obtain⟨e,rfl,f⟩:=a.ext;refine⟨⟨[],by simp[<- hl],by simp⟩,λk c' hk hc=>a.mono k c' hk ?_,a.keepW,a.alive,a.gens,a.os⟩;rw[RF,if_pos (hl▸hk)] at hc;exact hc
theorem G8(r:Rel (TT β σ) h v d):Rel (TT (β.take n) (σ.take n)) h v d:=r.mono λx o _ _ e _ t=>⟨e,λz=>t (mB z)⟩
theorem Gy(hb:β[k]?=some a)(hc:σ[k]?=some c)(hl:β.length=σ.length):TT (β.take n++[a]) (σ.take n++[c]) x->TT β σ x:=λz=>by
 rcases (By (by simp[hl])).mp z with z | ⟨rfl,z'⟩
 . exact mB z
 . exact⟨k,c,hb,hc,z'⟩
theorem IB(S:Step O β σ s ah aa ai)(hl:β.length=σ.length)(ao:Inv Z ah aa ai.heap)(hk:σ.length<=k)(hb:ah[k]?=some a)(hc:aa[k]?=some c) :
   Step O β σ s (ah.take σ.length++[a]) (aa.take σ.length++[c]) ai/\Inv Z (ah.take σ.length++[a]) (aa.take σ.length++[c]) ai.heap:=by
 have J:=ao.take σ.length;obtain⟨e,rfl,f⟩:=S.ext;have ha:a∈e:=by rw[QH (hl▸hk)] at hb;exact Qp hb
 have hlen:(List.take σ.length aa).length=σ.length:=by rw[Ru];exact Ro (Q7 (QN hk (Qi.mp hc).1))
 have hβ:List.take σ.length (β++e)=β:=by simp[<- hl]
 have H0:∀ x o vs n,ai.heap.get? x=some o->xT o vs n->¬ TT (β++e) aa x->ai.heap.get? x=some o/\¬ TT ((β++e).take σ.length++[a]) (aa.take σ.length++[c]) x:=
   λx o _ _ ex _ t=>⟨ex,λz=>t (Gy hb hc ao.len z)⟩
 refine⟨⟨⟨[a],by rw[hβ],by simpa using f a ha⟩,λj c' hj hc'=>?_,S.keepW,S.alive,S.gens,S.os⟩,⟨by simp[hβ,hlen,hl],?_,ao.base,λx hx=>?_,λj x c' h1 h2=>?_⟩⟩
 . rw[QJ (by rw[hlen,<- hl];exact hj)] at hc';exact(S.take hl ao.len).mono j c' hj hc'
 . rw[hβ,R3];have nd:=R3.mp ao.nodup;exact⟨nd.1,by simp,λx hx y hy=>by simp at hy;subst hy;exact nd.2.2 x hx y ha⟩
 . rcases Qx.mp hx with h1 | h1
   . exact J.fresh x h1
   . simp at h1;subst h1;exact ao.fresh x (RM _ ha)
 . by_cases hj:j < β.length
   . rw[hβ,QJ hj] at h1;rw[QJ (by rw[hlen,<- hl];exact hj),RF,if_pos (hl▸hj)] at h2;exact(ao.cell j x c' (by rw[QJ hj];exact h1) h2).mono (λo e=>e) H0
   . rw[hβ,QH (Rm hj)] at h1;rw[QH (by rw[hlen,<- hl];exact Rm hj)] at h2;have ej:j - β.length=0:=Tt.mp (Qi.mp h1).1;rw[ej] at h1;rw[hlen,<- hl,ej] at h2;simp at h1 h2;subst h1 h2;exact(ao.cell k a c hb hc).mono (λo e=>e) H0
def jy(Z:Cx)(d:Nat)(A:Around):Prop:=(Z.q=false->A.handled=none)/\A.depth+d+2 < recursionLimit/\A.units+8 * d+200 < cLine/\∃ l:List Env,A3 (A.frames=some l) (l.map (·.frame)=Z.fr.map some) (∀ env∈l,env.scope.kind=.function)
variable {A:Around}{d:Nat}
theorem jy.room(h:jy Z d A):A.units+200 < cLine:=QN (Qu (Qz _ _) _) h.2.2.1
theorem jy.deeper(env:Env){f:Addr}(hf:env.frame=some f)(hk:env.scope.kind=.function)(h:jy Z (d+1) A):jy { Z with fr:=f::Z.fr } d (A.deeper env):=by
 obtain⟨h1,h2,h3,l,h4,h5,h6⟩:=h;refine⟨h1,RN A.depth 1 d▸h2,QN (Qu (by show A.units+3+8 * d<=_;rw[QQ,QW 3];exact QR (QR (by decide) _) _) _) h3,env::l,Around.frames_deeper h4,?_,λe he=>?_⟩
 . rw[Q6,Q6,hf,h5]
 . rcases Qq.mp he with rfl | he
   . exact hk
   . exact h6 e he
inductive Po(Z:Cx)(O:Addr->Prop)(β:List Addr)(σ:ac)(s:Shared)(σ':ac)(s':Shared)(R:List Addr->Prop):Prop where
 | mk (β':List Addr) (S:Step O β σ s β' σ' s') (I:Inv Z β' σ' s'.heap) (r:R β'):Po Z O β σ s σ' s' R
def Ev{α γ:Type}(Z:Cx)(O:Addr->Prop)(A:Around)(t:Sem α)(r:Res γ)(R:α->γ->List Addr->ac->Heap->Prop)(β:List Addr)(σ:ac)(s:Shared):Prop:=
 ∀ c σ',r=.ok c σ'->wpAny (model Z.prog Z.w) A t (λa s'=>Po Z O β σ s σ' s' λβ'=>R a c β' σ' s'.heap) (λ_ _=>False) s
variable {pos:Pos}{r:Res γ}{t:Sem α}{R:α->γ->List Addr->ac->Heap->Prop}{c:γ}
section
variable {α' γ':Type}{R':α'->γ'->List Addr->ac->Heap->Prop}
theorem Ev.bind{m:Sem α}{f:α->Sem α'}{k:γ->ac->Res γ'}(h:Ev Z O A m r R β σ s)
   (hf:∀ a c β' σ' s',Step O β σ s β' σ' s'->Inv Z β' σ' s'.heap->R a c β' σ' s'.heap->r=.ok c σ'->Ev Z O A (f a) (k c σ') R' β' σ' s'):Ev Z O A (m >>= f) (r.bind k) R' β σ s:=by
 intro c' σ' e;cases r with
 | bad=>injection e
 | ok c aa=>refine Pe (Qs (h c aa rfl) (λa ai a5=>?_) λ_ _ x=>x);obtain⟨ah,aC,ao,wx⟩:=a5;refine Qs (hf a c ah aa ai aC ao wx rfl c' σ' e) (λa' al fK=>?_) λ_ _ x=>x;obtain⟨aO,cb,cc,uz⟩:=fK;exact⟨aO,aC.trans cb,cc,uz⟩
theorem Ev.bad:Ev Z O A t (.bad:Res γ) R β σ s:=λ_ _ e=>by injection e
theorem Ev.pure{a:α}(I:Inv Z β σ s.heap)(h:R a c β σ s.heap):Ev Z O A (pure a) (.ok c σ) R β σ s:=λ_ _ e=>by (injection e with e0_ f0_;subst e0_;subst f0_);exact Ql ⟨β,Step.refl,I,h⟩
theorem Ev.holding(h:Ev Z O A t r R β σ s):Ev Z O A (holding vs t) r R β σ s:=λc σ' e=>Rs (h c σ' e)
theorem Ev.standAt(h:Ev Z O A t r R β σ s):Ev Z O A (standAt pos >>= λ_=>t) r R β σ s:=λc σ' e=>Pe (Rb (h c σ' e))
theorem Ev.done(h:wpAny (model Z.prog Z.w) A t (λa s'=>Po Z O β σ s aa s' λβ'=>R a c β' aa s'.heap) (λ_ _=>False) s):Ev Z O A t (.ok c aa) R β σ s:=λ_ _ e=>by (injection e with e0_ f0_;subst e0_;subst f0_);exact h
theorem Ev.grown(I:Inv Z β σ s.heap)(h:wpAny (model Z.prog Z.w) A t (λa s'=>(∀ b o,s.heap.get? b=some o->s'.heap.get? b=some o)/\s'.gens=s.gens/\s'.os=s.os/\R a c β σ s'.heap) (λ_ _=>False) s) :
   Ev Z O A t (.ok c σ) R β σ s:=Ev.done (Qs h (λa s' ⟨hk,hg,ho,r⟩=>⟨β,Step.grow hk hg ho,I.grow hk,r⟩) λ_ _ x=>x)
end
abbrev VR:Value->V->List Addr->ac->Heap->Prop:=λv x β σ h=>aA β σ h v x
abbrev O5:List Value->List V->List Addr->ac->Heap->Prop:=λv x β σ h=>VRels β σ h v x
structure World0(Z:Cx):Prop where
 g:Z.h₀.Ns mainGlobals Z.mg
 b:Z.h₀.Ns builtinsNs Z.mb
 nolimit:Z.h₀.NoLimit
theorem World0.keeps(W:World0 Z)(I:Inv Z β σ h):h.Ns mainGlobals Z.mg/\h.Ns builtinsNs Z.mb/\h.NoLimit:=
 ⟨W.g.keeps I.base,W.b.keeps I.base,W.nolimit.keeps I.base⟩
def own(env:Env)(a:Addr):Prop:=a=env.locals\/∃ x,env.cells.lookup x=some a
inductive FNs(env:Env)(sc:List (Str×Nat))(ρ:Fm)(β:List Addr)(σ:ac)(h:Heap):Prop
 | mk (m:Str->Option Value) (N:h.Ns env.locals m) (q:∀ x i,sc.lookup x=some i->env.kindOf x=some .local->∀ v:V,ρ[i]?=some v->v≠.un->∃ w,m x=some w/\aA β σ h w v):FNs env sc ρ β σ h
inductive FC1(env:Env)(sc:List (Str×Nat))(ρ:Fm)(β:List Addr)(σ:ac)(h:Heap)(x:Str)(c:Addr):Prop
 | mk (ov:Option Value) (C:h.IsCell c ov) (q:∀ i,sc.lookup x=some i->(env.kindOf x=some .cell\/env.kindOf x=some .free)->∀ v:V,ρ[i]?=some v->v≠.un->∃ w,ov=some w/\aA β σ h w v):FC1 env sc ρ β σ h x c
def Ob(env:Env)(sc:List (Str×Nat))(ρ:Fm)(β:List Addr)(σ:ac)(h:Heap):Prop:=∀ x c,env.cells.lookup x=some c->FC1 env sc ρ β σ h x c
def vK(env:Env)(ks:List (Str×NameKind)):Prop:=∀ x k,ks.lookup x=some k->env.kindOf x=some k\/(k=.free/\env.kindOf x=some .cell)
noncomputable def vL (env:Env) (sc:List (Str×Nat)):Prop:=∀ x i,sc.lookup x=some i->(env.kindOf x=some .local\/((env.kindOf x=some .cell\/env.kindOf x=some .free)/\∃ c,env.cells.lookup x=some c))/\(x==("__classdict__":Str))=false
def yk(env:Env):Prop:=∀ x y c,env.cells.lookup x=some c->env.cells.lookup y=some c->x=y
structure FrameOk(Z:Cx)(env:Env)(ks:List (Str×NameKind))(sc:List (Str×Nat))(ρ:Fm)(β:List Addr)(σ:ac)(h:Heap):Prop where
 kind:env.scope.kind=.function
 globals:env.globals=mainGlobals
 builtins:env.builtins=builtinsNs
 kinds:vK env ks
 bound:vL env sc
 inj:∀ x y i,sc.lookup x=some i->sc.lookup y=some i->x=y
 ns:FNs env sc ρ β σ h
 cell:Ob env sc ρ β σ h
 apart:∀ a,own env a->a∉β/\Z.h₀.get? a=none
 cinj:yk env
 cloc:∀ x,env.cells.lookup x≠some env.locals
 frs:dK Z β h
variable {W:Addr->Prop}{env:Env}{ks:List (Str×NameKind)}{sc:List (Str×Nat)}{j tk:Nat}{x y:Str}{Q:Unit->Shared->Prop}{v:V}
theorem FrameOk.ownSome(F:FrameOk Z env ks sc ρ β σ h)(ha:own env a):∃ o,h.get? a=some o/\¬ X2 λvs n=>xT o vs n:=by
 rcases ha with rfl | ⟨x,e⟩
 . refine kk λK k=>?_;obtain⟨m,⟨o,es,ep,ho,hd,_⟩,_⟩:=F.ns;refine k ?_;exact⟨o,ho,λ⟨vs,n,q⟩=>by rcases q with q | ⟨_,_,q | q⟩ <;> rw[hd] at q <;> injection q⟩
 . obtain⟨ov,⟨o,ho,hd⟩,_⟩:=F.cell x a e;exact⟨o,ho,λ⟨vs,n,q⟩=>by rcases q with q | ⟨_,_,q | q⟩ <;> rw[hd] at q <;> injection q⟩
theorem FrameOk.notSeq(F:FrameOk Z env ks sc ρ β σ h):∀ a,own env a->¬ bS h a:=λa ha ⟨o,vs,n,e,d⟩=>by obtain⟨o',e',q⟩:=F.ownSome ha;rw[e] at e';(injection e' with e0_;subst e0_);exact q ⟨vs,n,d⟩
theorem FrameOk.step(F:FrameOk Z env ks sc ρ β σ s.heap)(S:Step b7 β σ s ah aa ai):FrameOk Z env ks sc ρ ah aa ai.heap:=by
 have keep:∀ a,own env a->∀ o,s.heap.get? a=some o->∃ sl,ai.heap.get? a=some { o with slots:=sl }:=λa ha o e=>(S.keepW a o e (λz=>(F.apart a ha).1 z.tt.mem) id).elim (λq=>⟨o.slots,q⟩) λq=>q.2.2
 refine⟨F.kind,F.globals,F.builtins,F.kinds,F.bound,F.inj,?_,?_,?_,F.cinj,F.cloc,F.frs.step S λ_ _ z=>z⟩
 . refine kk λK k=>?_;obtain⟨m,⟨o,es,ep,ho,r⟩,q⟩:=F.ns;obtain⟨sl,ho⟩:=keep _ (.inl rfl) o ho;refine k ?_;exact⟨m,⟨_,es,ep,ho,r⟩,λx i h1 h2 v h3 h4=>let ⟨w,g1,g2⟩:=q x i h1 h2 v h3 h4;⟨w,g1,S.vrel0 g2⟩⟩
 . intro x c e;refine kk λK k=>?_;obtain⟨ov,⟨o,ho,hd⟩,q⟩:=F.cell x c e;obtain⟨sl,ho⟩:=keep c (.inr ⟨x,e⟩) o ho;refine k ?_;exact⟨ov,⟨_,ho,hd⟩,λi h1 h2 v h3 h4=>let ⟨w,g1,g2⟩:=q i h1 h2 v h3 h4;⟨w,g1,S.vrel0 g2⟩⟩
 . intro a ha;refine⟨λm=>?_,(F.apart a ha).2⟩;obtain⟨e,rfl,f⟩:=S.ext;rcases Qx.mp m with m | m
   . exact(F.apart a ha).1 m
   . obtain⟨o,e',_⟩:=F.ownSome ha;rw[f a m] at e';injection e'
theorem FrameOk.load(F:FrameOk Z env ks sc ρ β σ s.heap){E:Value->Shared->Prop}{Q:Value->Shared->Prop}(hx:sc.lookup x=some i)(hv:ρ[i]?=some v)(hu:v≠.un)
   (h:∀ w,aA β σ s.heap w v->Q w s):wpAny (model Z.prog Z.w) A (loadName env x) Q E s:=by
 rcases F.bound x i hx with ⟨hk | ⟨hk,c,hc⟩,hn⟩
 . refine kk λK k=>?_;obtain⟨m,N,q⟩:=F.ns;obtain⟨w,e,r⟩:=q x i hx hk v hv hu;refine k ?_;exact wpAny_loadName_local F.kind hk N e (h w r)
 . obtain⟨ov,C,q⟩:=F.cell x c hc;obtain⟨w,rfl,r⟩:=q i hx hk v hv hu;rcases hk with hk | hk
   . exact wpAny_loadName_cell F.kind hk hc C (h w r)
   . exact wpAny_loadName_free F.kind hk hc C (h w r) hn
theorem ic(hs:∀ b o,¬ W b->h.get? b=some o->h'.get? b=some o)(hn:∀ a,W a->¬ bS h a)(hβ:∀ a,W a->a∉β){w:Value}:∀ {v:V},aA β σ h w v->aA β σ h' w v:=by
 have H:∀ x o vs n,h.get? x=some o->xT o vs n->¬ TT β σ x->h'.get? x=some o/\¬ TT β σ x:=λx o vs n e d t=>⟨hs x o (λq=>hn x q ⟨o,vs,n,e,d⟩) e,t⟩;intro v r;cases v with
 | un=>exact r
 | d x=>exact Rel.mono H r
 | loc n=>exact r
 | locs ns=>obtain⟨x,vs,n,h1,h2,h3,h4,h5⟩:=r;exact⟨x,vs,n,h1,(H _ _ _ _ h2 (.inl rfl) h3).1,h3,h4,h5⟩
 | exc k ds=>obtain⟨e,o,vs,h1,h2,h3,h4⟩:=r;exact⟨e,o,vs,h1,(H e o vs 0 h2 (.inr ⟨_,h3.1,.inl h3.2.1⟩) h4).1,h3,h4⟩
 | inst k l=>exact InstRel.mono r (λ_ _ e=>e) λD o hm e t=>⟨hs D o (λq=>hβ D q hm) e,t⟩
theorem fX(hs:∀ b o,b≠a->h.get? b=some o->h'.get? b=some o)(hn:¬ bS h a)(hβ:a∉β){w:Value}(r:aA β σ h w v):aA β σ h' w v:=ic (W:=(·=a)) hs (λ_ q=>q▸hn) (λ_ q=>q▸hβ) r
theorem gp(hne:i≠j):(ρ.set i v)[j]?=ρ[j]?:=by simp[hne]
theorem DN{u:V}(h:(ρ.set i v)[i]?=some u):v=u:=by have l:=(Qi.mp h).1;rw[SW] at l;rw[List.getElem?_set_self l] at h;exact Option.some.inj h
theorem FrameOk.stored(F:FrameOk Z env ks sc ρ β σ s.heap)(I:Inv Z β σ s.heap){w:Value}{Q:Shared->Prop}
   (h:∀ s',FrameOk Z env ks sc (ρ.set i v) β σ s'.heap->Step (own env) β σ s β σ s'->Inv Z β σ s'.heap->(∀ u y,aA β σ s.heap u y->aA β σ s'.heap u y)->(env.kindOf x=some .local->(∀ b o,b≠env.locals->s.heap.get? b=some o->s'.heap.get? b=some o)/\∃ m,s'.heap.Ns env.locals m/\m x=some w)->Q s')
   (ha:own env a) (hloc:env.kindOf x=some .local->a=env.locals/\∃ m,h'.Ns env.locals m/\m x=some w) (hs:Heap.SameBut a s.heap h') (hal:h'.get? a≠none) (f1:FNs env sc (ρ.set i v) β σ h') (f2:Ob env sc (ρ.set i v) β σ h'):Q { s with heap:=h',toks:=tk }:=by
 have hk:∀ b o,b≠a->s.heap.get? b=some o->h'.get? b=some o:=λb o hb e=>(hs.2 b hb).trans e;refine h _ ⟨F.kind,F.globals,F.builtins,F.kinds,F.bound,F.inj,f1,f2,F.apart,F.cinj,F.cloc,F.frs.grow λf o hf e q=>?_⟩ ⟨⟨[],(QG _).symm,λ_ z=>absurd z Re⟩,λk c' _ e=>⟨c',e,id,id,id⟩,JE λb o e _ hb=>hk b o (λq=>hb (q▸ha)) e,λb e=>?_,rfl,rfl⟩ ?_ (λu y r=>fX hk (F.notSeq a ha) (F.apart a ha).1 r) λhl=>⟨λb o hb e=>hk b o (λq=>hb (q.trans (hloc hl).1)) e,(hloc hl).2⟩
 . by_cases hb:f=a
   . rw[hb] at e ⊢;clear hb h hloc hs hal hk;rcases ha with z | ⟨y,hy⟩
     . obtain⟨m,⟨o',es,ep,ho',hd',_⟩,_⟩:=f1;exact⟨o',z▸ho',es,ep,hd'⟩
     . obtain⟨ov,⟨o',ho',hd'⟩,_⟩:=F.cell y a hy;rw[e] at ho';obtain⟨es,n,q⟩:=q;rw[Option.some.inj ho',hd'] at q;injection q
   . exact⟨o,hk f o hb e,q⟩
 . by_cases hb:b=a
   . exact absurd (hb▸e) hal
   . exact(hs.2 b hb).symm.trans e
 . refine⟨I.len,I.nodup,λb o e=>hk b o (λq=>?_) (I.base b o e),I.fresh,λk b c h1 h2=>(I.cell k b c h1 h2).mono (λo e=>hk b o (λq=>(F.apart a ha).1 (q▸Qp h1)) e) λb o vs n e d t=>⟨hk b o (λq=>?_) e,t⟩⟩
   . have z:=(F.apart a ha).2;rw[<- q,e] at z;injection z
   . exact F.notSeq a ha (q▸⟨o,vs,n,e,d⟩)
theorem Ob.other(F:FrameOk Z env ks sc ρ β σ s.heap){c:Addr}(hs':Heap.SameBut c s.heap h')(hown:own env c){c':Addr}(e:env.cells.lookup y=some c')(hne:c'≠c)(hij:∀ j,sc.lookup y=some j->(env.kindOf y=some .cell\/env.kindOf y=some .free)->i≠j) :
   FC1 env sc (ρ.set i v) β σ h' y c':=by
 obtain⟨ov,C,q'⟩:=F.cell y c' e;refine⟨ov,C.sameBut hs' hne,λj h1 h2 u h3 h4=>?_⟩;rw[gp (hij j h1 h2)] at h3;obtain⟨w',g1,g2⟩:=q' j h1 h2 u h3 h4;exact⟨w',g1,fX (λb o hb e=>(hs'.2 b hb).trans e) (F.notSeq c hown) (F.apart c hown).1 g2⟩
theorem FrameOk.store(F:FrameOk Z env ks sc ρ β σ s.heap)(I:Inv Z β σ s.heap){E:Value->Shared->Prop}{w:Value}(hx:sc.lookup x=some i)(r:aA β σ s.heap w v)
   (h:∀ s',FrameOk Z env ks sc (ρ.set i v) β σ s'.heap->Step (own env) β σ s β σ s'->Inv Z β σ s'.heap->(∀ u y,aA β σ s.heap u y->aA β σ s'.heap u y)->(env.kindOf x=some .local->(∀ b o,b≠env.locals->s.heap.get? b=some o->s'.heap.get? b=some o)/\∃ m,s'.heap.Ns env.locals m/\m x=some w)->Q () s'):wpAny (model Z.prog Z.w) A (storeName env x w) Q E s:=by
 rcases F.bound x i hx with ⟨hk | ⟨hk,c,hc⟩,hn⟩
 . obtain⟨m,N,q⟩:=F.ns;refine wpAny_storeName_local hk N (λh' hn' hs'=>?_) (by rw[F.kind];rfl);refine F.stored I h (.inl rfl) (λ_=>⟨rfl,_,hn',if_pos rfl⟩) hs' ?_ ⟨_,hn',λy j h1 h2 u h3 h4=>?_⟩ λy c' e=>?_
   . obtain⟨o,_,_,ho,_⟩:=hn';rw[ho];exact Ti _
   . clear h hn N;have keep:∀ u y,aA β σ s.heap u y->aA β σ h' u y:=λu y=>fX (λb o hb e=>(hs'.2 b hb).trans e) (F.notSeq env.locals (.inl rfl)) (F.apart env.locals (.inl rfl)).1;by_cases hyx:y=x
     . rw[hyx,hx] at h1;rw[<- Option.some.inj h1] at h3;exact⟨w,if_pos hyx,keep _ _ (DN h3▸r)⟩
     . rw[gp λ(e:i=j)=>hyx (F.inj y x i (e▸h1) hx)] at h3;obtain⟨w',g1,g2⟩:=q y j h1 h2 u h3 h4;exact⟨w',(if_neg hyx).trans g1,keep _ _ g2⟩
   . refine Ob.other F hs' (.inl rfl) e (λz=>F.cloc y (z▸e)) λj h1 h2 z=>?_;rw[F.inj y x i (z▸h1) hx,hk] at h2;rcases h2 with h2 | h2 <;> (injection h2 with e0_;injection e0_)
 . obtain⟨ov,C,q⟩:=F.cell x c hc;have st:wpAny (model Z.prog Z.w) A (cellOf env x >>= λc=>cellSet c (some w)) Q E s:=by
     refine Pe (wpAny_cellOf hc (wpAny_cellSet C λh' hc' hs'=>?_));have hown:own env c:=.inr ⟨x,hc⟩;have keep:∀ u y,aA β σ s.heap u y->aA β σ h' u y:=λu y=>fX (λb o hb e=>(hs'.2 b hb).trans e) (F.notSeq c hown) (F.apart c hown).1;refine F.stored I h hown (λq=>by rcases hk with hk | hk <;> rw[hk] at q <;> (injection q with e0_;injection e0_)) hs' ?_ ?_ λy c' e=>?_
     . obtain⟨o,ho,_⟩:=hc';rw[ho];exact Ti _
     . clear h hn q C;obtain⟨m,N,q'⟩:=F.ns;refine⟨m,N.sameBut hs' (λz=>F.cloc x (z▸hc)),λy j h1 h2 u h3 h4=>?_⟩;rw[gp λ(z:i=j)=>by rw[F.inj y x i (z▸h1) hx] at h2;rcases hk with hk | hk <;> rw[hk] at h2 <;> (injection h2 with e0_;injection e0_)] at h3
       obtain⟨w',g1,g2⟩:=q' y j h1 h2 u h3 h4;exact⟨w',g1,keep _ _ g2⟩
     . by_cases hyx:y=x
       . rw[hyx,hc] at e;refine(Option.some.inj e)▸?_;refine⟨some w,hc',λj h1 h2 u h3 h4=>⟨w,rfl,?_⟩⟩;rw[hyx,hx] at h1;rw[<- Option.some.inj h1] at h3;exact keep _ _ (DN h3▸r)
       . exact Ob.other F hs' hown e (λz=>hyx (F.cinj y x c (z▸e) hc)) λj h1 h2 z=>hyx (F.inj y x i (z▸h1) hx)
   have e:storeName env x w=(cellOf env x >>= λc=>cellSet c (some w)):=by unfold storeName;rcases hk with hk | hk <;> first | (rw[hk];rfl) | (exact hk▸F.kind▸rfl;rfl) | (rw[F.kind,hk];rfl)
   exact e▸st
noncomputable abbrev jM:Heap:={}
theorem yR(a:Addr):jM.get? a=none:=Tf (QI _)
def gR(L:Option Addr)(h:Heap)(e:Addr)(vs:Array Value):Prop:=
 vs[1]?=some .none\/X3 λT oT ts=>A5 (vs[1]?=some (.ref T)) (T≠e) (h.get? T=some oT) (oT.data=.fields ts) ((ts[3]?=some .none\/∃ l,L=some l/\ts[3]?=some (rawInt l)))
variable {e:Addr}{vs:Array Value}{L:Option Addr}
theorem gR.any(q:gR none h e vs):gR L h e vs:=by
 rcases q with q | ⟨T,oT,ts,h1,h2,h3,h4,h5⟩
 . exact .inl q
 . exact .inr ⟨T,oT,ts,h1,h2,h3,h4,.inl (h5.elim id λ⟨_,z,_⟩=>by injection z)⟩
structure Noted(fv:Value)(fs:List Addr)(e:Addr)(oe:Obj)(vs:Array Value)(h h':Heap):Prop where
 keep:∀ b o,h.get? b=some o->b≠e->vs[1]?≠some (.ref b)->b∉fs->h'.get? b=some o
 frs:∀ b o,h.get? b=some o->fH o->∃ sl,h'.get? b=some { o with slots:=sl }
 live:∀ b o,h.get? b=some o->∃ o',h'.get? b=some o'
 exc:X3 λT vs' oe'=>A8 ((h.get? T=none\/vs[1]?=some (.ref T))) (h'.get? e=some oe') (oe'.cls=oe.cls) (oe'.dict=oe.dict) (oe'.data=.fields vs') (vs'[1]?=some (.ref T)) (T≠e) (X2 λoT ts=>A3 (h'.get? T=some oT) (oT.data=.fields ts) (ts[3]?=some fv))
variable {hadNext:Bool}{h0:Heap}{fs:List Addr}{outer:List Env}{M:Model}{oe:Obj}{fo:Option Addr}{v head:Value}
section
variable {E:Value->Shared->Prop}
theorem qt(o:Obj)(f:Array Value->Array Value):(o.mapFields f).dict=o.dict:=by obtain⟨c,d,dt,sl⟩:=o;cases dt <;> rfl
theorem tU{L:Addr} 
   (hfr:A.frames=some (env::outer)) (hl:s.heap.FunFrames jM (env::outer)) (hf:env.frame=some L)
   (he:s.heap.get? e=some oe) (hd:oe.data=.fields vs) (hsz:1 < vs.size)
   (hk:∀ b o,h0.get? b=some o->b≠e->vs[1]?≠some (.ref b)->s.heap.get? b=some o) (hfr0:∀ b o,h0.get? b=some o->fH o->s.heap.get? b=some o) (hlive:∀ b o,h0.get? b=some o->∃ o',s.heap.get? b=some o')
   (h:∀ h',Noted (rawInt L) ((env::outer).filterMap (·.frame)) e oe vs h0 h'->Q () { s with heap:=h' }) :
   wpAny M A (do let a <- frameOf env;let pl <- entryPlaceOf L hadNext;let b <- EntryCells.newEntry head a .none (rawInt L) .none pl;setField (.ref e) 1 b) Q E s:=by
 have hene:e∉(env::outer).filterMap (·.frame):=λhm=>by obtain⟨_,o,ho,hnf⟩:=hl.mem hm;rw[he] at ho;(injection ho with e0_;subst e0_);exact hnf vs hd
 refine Pe (wpAny_frameOf_fun hfr hl hf λa5 xj=>?_);refine Pe (wpAny_entryPlaceOf λpl hpl=>?_);unfold EntryCells.newEntry newFields;refine Pe (QX ?_ (hpl.sizeOk5 _ _ _ _ _));have tF:a5.get? e=some oe:=(xj.2.1 e hene).trans he;generalize hN:({ cls:=.type "traceback",dict:=none,data:=.fields ([head,.ref L,.none,rawInt L,.none]++(if pl.isEmpty then List.replicate 6 Value.none else pl)).toArray }:Obj)=oN;have hNd:oN.data=.fields ([head,.ref L,.none,rawInt L,.none]++(if pl.isEmpty then List.replicate 6 Value.none else pl)).toArray:=by rw[<- hN]
 have oa:=Qm (h:=a5) oN tF;refine wpAny_setField oa hd hsz (h _ ?_);have hTe:a5.objs.size≠e:=Sz (Q8 tF);have tG:=Obj.data_mapFields hd (·.setIfInBounds 1 (Value.ref a5.objs.size));have nZ:=Ry (Obj.mapFields (·.setIfInBounds 1 (Value.ref a5.objs.size))) oa (Obj.isFreed_of_fields tG);have A1:=(RG (a5.push oN) (Obj.mapFields (·.setIfInBounds 1 (Value.ref a5.objs.size))) (Ne.symm hTe)).trans (Qy a5 (Obj.isFreed_of_fields hNd));generalize hH:(a5.push oN).update e (Obj.mapFields (·.setIfInBounds 1 (Value.ref a5.objs.size)))=H at nZ A1;have keep:∀ b o,b≠e->a5.get? b=some o->H.get? b=some o:=λb o hbe hb=>by rw[<- hH,RG _ _ (Ne.symm hbe)];exact Qm _ hb
 refine⟨λb o hb hbe hnT hbf=>keep b o hbe ((xj.2.1 b hbf).trans (hk b o hb hbe hnT)),λb o hb hfr=>?_,λb o hb=>?_,?_⟩
 . have hb':=hfr0 b o hb hfr;obtain⟨sl,q⟩:=xj.2.2 b o hb';refine⟨sl,keep b _ (λz=>?_) q⟩;rw[z,he] at hb';obtain⟨es,n,y⟩:=hfr;rw[<- Option.some.inj hb',hd] at y;injection y
 . obtain⟨o',q⟩:=hlive b o hb;obtain⟨sl,q⟩:=xj.2.2 b o' q;by_cases z:b=e
   . rw[z];exact⟨_,nZ⟩
   . exact⟨_,keep b _ z q⟩
 . refine⟨a5.objs.size,_,_,.inl ?_,nZ,Obj.cls_mapFields _ _,qt _ _,tG,by simp[hsz],hTe,_,_,A1,hNd,by simp⟩;cases q:h0.get? a5.objs.size with
   | none=>rfl
   | some o=>obtain⟨o',q⟩:=hlive _ o q;have:=Q8 q;rw[xj.1] at this;exact absurd this (Sl _)
theorem tr{L:Addr} 
   (hfr:A.frames=some (env::outer)) (hl:s.heap.FunFrames jM (env::outer)) (hf:env.frame=some L)
   (he:s.heap.get? e=some oe) (hd:oe.data=.fields vs) (h1:gR env.frame s.heap e vs)
   (h:∀ h',Noted (rawInt L) ((env::outer).filterMap (·.frame)) e oe vs s.heap h'->Q () { s with heap:=h' }) :
   wpAny M A (noteFrame (.ref e) env) Q E s:=by
 rcases h1 with h1 | ⟨T,oT,ts,h1,hTe,hT,hdT,h3 | ⟨l,hl',h3⟩⟩
 . unfold noteFrame;simp only[hf];refine Pe (wpAny_field he hd h1 ?_);rw[if_neg (by decide)];exact tU hfr hl hf he hd (RQ.mp h1).1 (λb o q _ _=>q) (λb o q _=>q) (λb o q=>⟨o,q⟩) h
 . unfold noteFrame;simp only[hf];refine Pe (wpAny_field he hd h1 ?_);rw[if_pos (by simp:(Value.ref T != Value.none)=true)];refine Pe (wpAny_field hT hdT h3 ?_);rw[if_neg (by simp[rawInt]:¬ ((Value.none==rawInt L)=true))];refine Pe (wpAny_setField hT hdT (RQ.mp h3).1 ?_);have other:∀ b,b≠T->(s.heap.update T (Obj.mapFields (·.setIfInBounds 3 Value.none))).get? b=s.heap.get? b:=λb hb=>RG _ _ (Ne.symm hb);have notT:∀ b o,s.heap.get? b=some o->(∀ vs,o.data≠.fields vs)->b≠T:=λb o hb hnf q=>by rw[q,hT] at hb;(injection hb with e0_;subst e0_);exact hnf ts hdT
   refine tU (h0:=s.heap) hfr (hl.of_keeps λb o hb hnf=>⟨o,(other b (notT b o hb hnf)).trans hb,rfl⟩) hf ((other e (Ne.symm hTe)).trans he) hd (RQ.mp h1).1 (λb o q _ hn=>(other b λz=>hn (z▸h1)).trans q) (λb o q hq=>(other b (notT b o q λvs z=>?_)).trans q) (λb o q=>?_) h
   . obtain⟨es,n,y⟩:=hq;rw[y] at z;injection z
   . by_cases z:b=T
     . rw[z];exact⟨_,Ry _ hT (Obj.isFreed_of_fields (Obj.data_mapFields hdT _))⟩
     . exact⟨o,(other b z).trans q⟩
 . have el:L=l:=by rw[hf] at hl';exact Option.some.inj hl'
   subst el;exact wpAny_noteFrame_inFlight hf he hd h1 hT hdT h3 (h _ ⟨λb o q _ _ _=>q,λb o q _=>⟨o.slots,q⟩,λb o q=>⟨o,q⟩,T,vs,oe,.inr h1,he,rfl,rfl,hd,h1,hTe,oT,ts,hT,hdT,h3⟩)
theorem lA{T:Addr}{oT:Obj}{ts:Array Value}{x:Value} 
   (he:s.heap.get? e=some oe) (hd:oe.data=.fields vs) (h1:vs[1]?=some (.ref T)) (hTe:T≠e) (hT:s.heap.get? T=some oT) (hdT:oT.data=.fields ts) (h3:ts[3]?=some x)
   (h:∀ h',Noted (fo.elim .none λf=>rawInt f) [] e oe vs s.heap h'->Q () { s with heap:=h' }):wpAny M A (setFlight (.ref e) fo) Q E s:=by
 have hsz:=(RQ.mp h3).1;unfold setFlight;refine Pe (wpAny_field he hd h1 ?_);rw[if_pos (by simp:(Value.ref T != Value.none)=true)];refine wpAny_setField hT hdT hsz (h _ ?_);have other:∀ b,b≠T->(s.heap.update T (Obj.mapFields (·.setIfInBounds 3 (fo.elim Value.none λf=>rawInt f)))).get? b=s.heap.get? b:=λb hb=>RG _ _ (Ne.symm hb);have hd':=Obj.data_mapFields hdT (·.setIfInBounds 3 (fo.elim Value.none λf=>rawInt f));have self:=Ry (Obj.mapFields (·.setIfInBounds 3 (fo.elim Value.none λf=>rawInt f))) hT (Obj.isFreed_of_fields hd');refine⟨λb o q _ hn _=>(other b λz=>hn (z▸h1)).trans q,λb o q hq=>⟨o.slots,(other b λz=>?_).trans q⟩,λb o q=>?_,T,vs,oe,.inr h1,(other e (Ne.symm hTe)).trans he,rfl,rfl,hd,h1,hTe,_,_,self,hd',by simp[hsz]⟩
 . subst z;rw[hT] at q;(injection q with e0_;subst e0_);obtain⟨es,n,y⟩:=hq;rw[hdT] at y;injection y
 . by_cases z:b=T
   . subst z;exact⟨_,self⟩
   . exact⟨o,(other b z).trans q⟩
theorem Noted.then{Q:Prop}{v':Value}(N:Noted v fs e oe vs h h')(k:∀ T oe' oT vs' ts,h'.get? e=some oe'->oe'.data=.fields vs'->vs'[1]?=some (.ref T)->T≠e->h'.get? T=some oT->oT.data=.fields ts->ts[3]?=some v->(∀ h'',Noted v' [] e oe' vs' h' h''->Noted v' fs e oe vs h h'')->Q):Q:=by
 obtain⟨T,vs',oe',n1,n2,n3,n4,n5,n6,n7,oT,ts,n8,n9,n10⟩:=N.exc;refine k T oe' oT vs' ts n2 n5 n6 n7 n8 n9 n10 λh'' M=>⟨λb o q hbe hbT hbf=>M.keep b o (N.keep b o q hbe hbT hbf) hbe (λz=>?_) (by simp),λb o q hq=>?_,λb o q=>?_,?_⟩
 . rw[n6] at z;(injection z with e0_;injection e0_ with e0_;subst e0_);rcases n1 with n1 | n1
   . rw[n1] at q;injection q
   . exact hbT n1
 . obtain⟨sl,q'⟩:=N.frs b o q hq;obtain⟨sl',q'⟩:=M.frs b _ q' hq;exact⟨sl',q'⟩
 . obtain⟨o',q'⟩:=N.live b o q;exact M.live b o' q'
 . obtain⟨T',vs'',oe'',m1,m2,m3,m4,m5,m6,m7,m8⟩:=M.exc;refine⟨T',vs'',oe'',?_,m2,m3.trans n3,m4.trans n4,m5,m6,m7,m8⟩;rcases m1 with m1 | m1
   . refine .inl ?_;cases z:h.get? T' with
     | none=>rfl
     | some o=>obtain⟨o',z⟩:=N.live T' o z;rw[m1] at z;injection z
   . rw[n6] at m1;(injection m1 with e0_;injection e0_ with e0_;subst e0_);exact n1
theorem wO{L:Addr} 
   (hfr:A.frames=some (env::outer)) (hl:s.heap.FunFrames jM (env::outer)) (hf:env.frame=some L)
   (he:s.heap.get? e=some oe) (hd:oe.data=.fields vs) (h1:gR env.frame s.heap e vs)
   (h:∀ h',Noted (fo.elim .none λf=>rawInt f) ((env::outer).filterMap (·.frame)) e oe vs s.heap h'->Q () { s with heap:=h' }) :
   wpAny M A (noteFrame (.ref e) env) (λ_ s'=>wpAny M A (setFlight (.ref e) fo) Q E s') E s:=
 tr hfr hl hf he hd h1 λh' N=>N.then λT oe' oT vs' ts n2 n5 n6 n7 n8 n9 n10 k=>lA (s:={ s with heap:=h' }) n2 n5 n6 n7 n8 n9 n10 λh'' M=>h h'' (k h'' M)
theorem w0{L:Addr} 
   (hfr:A.frames=some (env::outer)) (hl:s.heap.FunFrames jM (env::outer)) (hf:env.frame=some L)
   (he:s.heap.get? e=some oe) (hd:oe.data=.fields vs) (h1:gR env.frame s.heap e vs)
   (h:∀ h',Noted .none ((env::outer).filterMap (·.frame)) e oe vs s.heap h'->Q () { s with heap:=h' }) :
   wpAny M A (leaving env (.ref e)) Q E s:=by
 unfold leaving;exact Pe (wO (fo:=none) hfr hl hf he hd h1 h)
theorem EM{L:Addr} 
   (hfr:A.frames=some (env::outer)) (hl:s.heap.FunFrames jM (env::outer)) (hf:env.frame=some L)
   (he:s.heap.get? e=some oe) (hd:oe.data=.fields vs) (h1:gR env.frame s.heap e vs)
   (h:∀ h',Noted (rawInt L) ((env::outer).filterMap (·.frame)) e oe vs s.heap h'->E (.ref e) { s with heap:=h' }) :
   wpAny M A (noteFrame (.ref e) env) (λ_ s'=>cameBackBy M A env E (.ref e) s') (λx s'=>cameBackBy M A env E x s') s:=
 tr hfr hl hf he hd h1 λh' N=>N.then λT oe' oT vs' ts n2 n5 n6 n7 n8 n9 n10 k=>by unfold cameBackBy;refine Pe (wpAny_field (s:={ s with heap:=h' }) n2 n5 n6 ?_);exact(if_neg (by simp:¬ ((Value.ref T==Value.none)=true)))▸hf▸(lA (s:={ s with heap:=h' }) (fo:=some L) n2 n5 n6 n7 n8 n9 n10 λh'' M=>h h'' (k h'' M))
end
def Fl(L:Option Addr)(h0 h:Heap)(e:Addr)(k:Nat)(ds:List PyData):Prop:=
 h0.get? e=none/\(1<=k/\k<=6)/\X2 λoe vs=>A5 (h.get? e=some oe) (oe.cls=.ref (KA k)) (oe.data=.fields vs) (gR L h e vs) (∀ T,vs[1]?=some (.ref T)->h0.get? T=none)
theorem Fl.back{h1:Heap}(hal:∀ a,h1.get? a=none->h0.get? a=none)(F:Fl L h1 h e k ds):Fl L h0 h e k ds:=by obtain⟨f1,f2,oe,vs,f3,f4,f5,f6,f7⟩:=F;exact⟨hal _ f1,f2,oe,vs,f3,f4,f5,f6,λT q=>hal _ (f7 T q)⟩
inductive XD(h0:Heap)(β:List Addr)(σ:ac)(h:Heap)(e:Addr)(ds:List PyData):Prop where
 | mk (oe:Obj) (D:Addr) (m:Str->Option Value) (v1 v2:Value) (x1 x2:PyData) (h1:ds=[x1,x2]) (h2:h.get? e=some oe) (h3:oe.dict=some D) (h4:h0.get? D=none/\D∉β) (h5:h.Ns1 D m) (h6:m jn=some v1/\m dj=some v2) (h7:Rel (TT β σ) h v1 x1) (h8:Rel (TT β σ) h v2 x2):XD h0 β σ h e ds
variable {h0':Heap}
theorem XD.move(X:XD h0 β σ h e ds)(h00:∀ a,h0.get? a=none->h0'.get? a=none)(he:∀ oe,h.get? e=some oe->∃ oe',h'.get? e=some oe'/\oe'.dict=oe.dict)
   (hD:∀ D o,h.get? D=some o->fH o->D∉β->h0.get? D=none->D∉β'/\∃ sl,h'.get? D=some { o with slots:=sl }) (hr:∀ v x,Rel (TT β σ) h v x->Rel (TT β' σ') h' v x):XD h0' β' σ' h' e ds:=by
 cases X with
 | mk oe D m v1 v2 x1 x2 h1 h2 h3 h4 h5 h6 h7 h8=>refine kk λK k=>?_;obtain⟨oe',q1,q2⟩:=he oe h2;obtain⟨o,es,ep,ho,hd,r⟩:=h5;obtain⟨nb,sl,q3⟩:=hD D o ho ⟨es,ep,hd⟩ h4.2 h4.1;refine k ?_;exact⟨oe',D,m,v1,v2,x1,x2,h1,q1,q2.trans h3,⟨h00 D h4.1,nb⟩,⟨_,es,ep,q3,hd,r⟩,h6,hr _ _ h7,hr _ _ h8⟩
theorem XD.same(X:XD h0 β σ h e ds)(h00:∀ a,h0.get? a=none->h0'.get? a=none)(hb:∀ a,a∈β'->a∈β)(ht:∀ a,TT β' σ' a->TT β σ a):XD h0' β' σ' h e ds:=
 X.move h00 (λoe q=>⟨oe,q,rfl⟩) (λD o q _ nb _=>⟨λz=>nb (hb D z),o.slots,q⟩) λv x r=>r.mono λa o _ _ q _ t=>⟨q,λz=>t (ht a z)⟩
inductive FlyQ(L:Option Addr)(Z:Cx)(O:Addr->Prop)(β:List Addr)(σ:ac)(s:Shared)(σ':ac)(k:Nat)(ds:List PyData)(X:List Addr->ac->Heap->Prop)(v:Value)(s':Shared):Prop where
 | mk (β':List Addr) (e:Addr) (h1:v=.ref e) (h2:Step O β σ s β' σ' s') (h3:Inv Z β' σ' s'.heap) (h4:e∉β') (h5:Fl L s.heap s'.heap e k ds) (h6:X β' σ' s'.heap) (h7:k=6->XD s.heap β' σ' s'.heap e ds):FlyQ L Z O β σ s σ' k ds X v s'
def C4(Z:Cx)(A:Around)(t:Sem Value)(r:Res V)(β:List Addr)(σ:ac)(s:Shared):Prop:=
 ∀ c σ',r=.ok c σ'->wpAny (model Z.prog Z.w) A t (λa s'=>oM c=none/\Po Z b7 β σ s σ' s' λβ'=>aA β' σ' s'.heap a c)
   (λv s'=>X2 λk ds=>c=.exc k ds/\FlyQ none Z b7 β σ s σ' k ds (λ_ _ _=>True) v s') s
def vM(L:Option Addr)(Z:Cx)(O:Addr->Prop)(A:Around)(t:Sem Flow)(r:Res Out)(R:Flow->Out->List Addr->ac->Heap->Prop)(X:List Addr->ac->Heap->Prop)(β:List Addr)(σ:ac)(s:Shared):Prop:=
 ∀ c σ',r=.ok c σ'->wpAny (model Z.prog Z.w) A t (λa s'=>Po Z O β σ s σ' s' λβ'=>R a c β' σ' s'.heap)
   (λv s'=>X2 λk ds=>c=.exc k ds/\FlyQ L Z O β σ s σ' k ds X v s') s
variable {R:Flow->Out->List Addr->ac->Heap->Prop}{X:List Addr->ac->Heap->Prop}{d:PyData}{t:Sem Value}{s':Shared}{fv:Value}{R':α->γ->List Addr->ac->Heap->Prop}
theorem FlyQ.back(S:Step O β σ s ah aa ai)(F:FlyQ L Z O ah aa ai σ' k ds X v s'):FlyQ L Z O β σ s σ' k ds X v s':=by obtain⟨β',e,rfl,S',I',n,f,x,y⟩:=F;exact⟨β',e,rfl,S.trans S',I',n,f.back S.alive,x,λq=>(y q).same S.alive (λ_ z=>z) λ_ z=>z⟩
theorem C4.ev{r:Res V}(h:C4 Z A t r β σ s):Ev Z b7 A t (r.bind iT) VR β σ s:=λc σ' e=>by
 cases r with
 | bad=>injection e
 | ok v aa=>
 have h2:iT v aa=.ok c σ':=e;unfold iT at h2;cases hx:oM v with
 | some x=>rw[hx] at h2;injection h2
 | none=>
 rw[hx] at h2;(injection h2 with e0_ f0_;subst e0_;subst f0_);refine Qs (h _ _ rfl) (λa s' q=>q.2) λv s' ⟨k,ds,q,_⟩=>?_;subst q;injection hx
theorem C4.bad:C4 Z A t .bad β σ s:=λ_ _ e=>by injection e
theorem vM.of{t:Sem Flow}{r:Res Out}(h:Ev Z O A t r R β σ s):vM L Z O A t r R X β σ s:=λc σ' e=>Qs (h c σ' e) (λ_ _ q=>q) λ_ _ q=>q.elim
theorem vM.standAt{t:Sem Flow}{r:Res Out}(h:vM L Z O A t r R X β σ s):vM L Z O A (standAt pos >>= λ_=>t) r R X β σ s:=λc σ' e=>Pe (Rb (h c σ' e))
theorem vM.bindO{m:Sem α}{f:α->Sem Flow}{k:γ->ac->Res Out}(h:Ev Z b7 A m r R' β σ s)
   (hf:∀ a c β' σ' s',Step b7 β σ s β' σ' s'->Inv Z β' σ' s'.heap->R' a c β' σ' s'.heap->r=.ok c σ'->vM L Z O A (f a) (k c σ') R X β' σ' s'):vM L Z O A (m >>= f) (r.bind k) R X β σ s:=by
 intro c' σ' e;cases r with
 | bad=>injection e
 | ok c aa=>refine Pe (Qs (h c aa rfl) (λa ai a5=>?_) λ_ _ x=>x.elim);obtain⟨ah,aC,ao,wx⟩:=a5;refine Qs (hf a c ah aa ai aC ao wx rfl c' σ' e) (λa' al fK=>?_) λv al ⟨k,ds,q,F⟩=>⟨k,ds,q,F.back aC.ofNo⟩;obtain⟨aO,cb,cc,uz⟩:=fK;exact⟨aO,aC.ofNo.trans cb,cc,uz⟩
theorem Rel.keepS(H:∀ a o vs n,h.get? a=some o->o.data=.seq vs n->¬ T a->h'.get? a=some o)(r:Rel T h v d):Rel T h' v d:=by
 have main:∀ (g:Heap),(∀ a o vs n,h.get? a=some o->o.data=.seq vs n->¬ T a->g.get? a=some o)->Rel T g v d:=by
   intro g hg;exact Rel.rec (motive_1:=λv d _=>Rel T g v d) (motive_2:=λvs ds _=>RelAll T g vs ds) .none .bool .int (λx t e=>.str x t e)
     (λho ht hl _ ih=>.list (hg _ _ _ _ ho rfl ht) ht hl ih) (λho ht hl _ ih=>.tuple (hg _ _ _ _ ho rfl ht) ht hl ih) .nil (λ_ _ a b=>.cons a b) r
 exact main h' H
theorem RelAll.keepS(H:∀ a o vs n,h.get? a=some o->o.data=.seq vs n->¬ T a->h'.get? a=some o):∀ {vs:List Value} {ds:List PyData},RelAll T h vs ds->RelAll T h' vs ds
 | _,[]=>@λr=>by exact r.inv0▸.nil
 | _,d::ds=>@λr=>by obtain⟨v,vs',rfl,x,rs⟩:=r.inv;exact .cons (x.keepS H) (RelAll.keepS H rs)
theorem Noted.off(N:Noted fv fs e oe vs h h')(he:h.get? e=some oe)(hd:oe.data=.fields vs)(hL:gR L h e vs)(hfs:∀ f∈fs,∃ o,h.get? f=some o/\fH o){b:Addr}(hb:h.get? b=some o)(hn:∀ ws,o.data≠.fields ws)(hf:¬ fH o):h'.get? b=some o:=by
 refine N.keep b o hb (λq=>?_) (λq=>?_) λq=>?_
 . subst q;rw[he] at hb;(injection hb with e0_;subst e0_);exact hn _ hd
 . rcases hL with z | ⟨T,oT,ts,z,_,hT,hdT,_⟩
   . rw[z] at q;(injection q with e0_;injection e0_)
   . rw[z] at q;(injection q with e0_;injection e0_ with e0_;subst e0_);rw[hT] at hb;(injection hb with e0_;subst e0_);exact hn _ hdT
 . obtain⟨o',q',z⟩:=hfs b q;rw[hb] at q';(injection q' with e0_;subst e0_);exact hf z
theorem Inv.noted{h0:Heap}(I:Inv Z β σ h)(N:Noted fv fs e oe vs h h')(he:h.get? e=some oe)(hd:oe.data=.fields vs)(hL:gR L h e vs)(hfs:∀ f∈fs,(∃ o,h.get? f=some o/\fH o)/\f∉β/\Z.h₀.get? f=none)
   (h0e:Z.h₀.get? e=none) (h0T:∀ T,vs[1]?=some (.ref T)->Z.h₀.get? T=none):Inv Z β σ h':=by
 have off:=λ{b:Addr} {o:Obj}=>N.off he hd hL (λf hf=>(hfs f hf).1) (b:=b) (o:=o);have seq:∀ a o ws n,h.get? a=some o->o.data=.seq ws n->¬ TT β σ a->h'.get? a=some o:=λa o ws n q hq _=>off q (λx z=>by rw[hq] at z;injection z) λ⟨_,_,z⟩=>by rw[hq] at z;injection z
 refine⟨I.len,I.nodup,λa o q=>?_,I.fresh,λk a c h1 h2=>?_⟩
 . refine N.keep a o (I.base a o q) (λz=>?_) (λz=>?_) λz=>?_
   . subst z;rw[h0e] at q;injection q
   . rw[h0T a z] at q;injection q
   . rw[(hfs a z).2.2] at q;injection q
 . have r:=I.cell k a c h1 h2;cases c with
   | lst l=>obtain⟨ws,n,q,r,z⟩:=r;exact⟨ws,n,off q (λx z=>by injection z) (λ⟨_,_,z⟩=>by injection z),r.keepS seq,z⟩
   | dct l=>
     refine kk λK k=>?_;obtain⟨kvs,⟨o,es,ep,e1,e2⟩,q,r,st,su⟩:=r;refine k ?_;refine⟨kvs,⟨o,es,ep,?_,e2⟩,q,r.keepS seq,st,su⟩;refine N.keep a o e1 (λz=>?_) (λz=>?_) λz=>(hfs a z).2.1 (Qp h1)
     . subst z;rw[he] at e1;(injection e1 with e0_;subst e0_);have:=e2.2.1;rw[hd] at this;injection this
     . rcases hL with y | ⟨T,oT,ts,y,_,hT,hdT,_⟩
       . rw[y] at z;(injection z with e0_;injection e0_)
       . rw[y] at z;(injection z with e0_;injection e0_ with e0_;subst e0_);rw[hT] at e1;(injection e1 with e0_;subst e0_);have:=e2.2.1;rw[hdT] at this;injection this
   | gone=>obtain⟨o,q⟩:=r;exact N.live a o q
   | busy=>obtain⟨o,q⟩:=r;exact N.live a o q
theorem Step.noted(S:Step O β σ s ah aa ai)(N:Noted fv fs e oe vs ai.heap h')(h0e:s.heap.get? e=none)(h0T:∀ T,vs[1]?=some (.ref T)->s.heap.get? T=none)(hfs:∀ f∈fs,(∃ o,ai.heap.get? f=some o/\fH o)/\f∉β):Step O β σ s ah aa { ai with heap:=h' }:=by
 have step:∀ a o bA,s.heap.get? a=some o->ai.heap.get? a=some bA->h'.get? a=some bA\/(fH bA/\a∉β/\∃ sl,h'.get? a=some { bA with slots:=sl }):=by
   intro a o bA q BY;by_cases hf:a∈fs
   . refine kk λK k=>?_;obtain⟨⟨o',e',f'⟩,nb⟩:=hfs a hf;refine k ?_;rw[BY] at e';(injection e' with e0_;subst e0_);exact .inr ⟨f',nb,N.frs a bA BY f'⟩
   . exact .inl (N.keep a bA BY (λz=>by subst z;rw[h0e] at q;injection q) (λz=>by rw[h0T a z] at q;injection q) hf)
 refine⟨S.ext,S.mono,λa o q w n=>?_,λa q=>?_,S.gens,S.os⟩
 . rcases S.keepW a o q w n with z | ⟨f,nb,sl,z⟩
   . exact step a o o q z
   . rcases step a o _ q z with y | ⟨_,_,sl',y⟩
     . exact .inr ⟨f,nb,sl,y⟩
     . exact .inr ⟨f,nb,sl',y⟩
 . cases z:s.heap.get? a with
   | none=>rfl
   | some o=>
     have:∃ bA,ai.heap.get? a=some bA:=by
       cases y:ai.heap.get? a with
       | none=>rw[S.alive a y] at z;injection z
       | some bA=>exact⟨bA,rfl⟩
     obtain⟨bA,y⟩:=this;obtain⟨o',y⟩:=N.live a bA y;rw[q] at y;injection y
theorem Fl.noted(N:Noted fv fs e oe vs h h')(hfv:fv=.none\/∃ l,L=some l/\fv=rawInt l)(hal:∀ a,h.get? a=none->h0.get? a=none)(h0e:h0.get? e=none)(h0T:∀ T,vs[1]?=some (.ref T)->h0.get? T=none)(hk:1<=k/\k<=6)(hc:oe.cls=.ref (KA k)):Fl L h0 h' e k ds:=by
 obtain⟨T,vs',oe',n1,n2,n3,n4,n5,n6,n7,oT,ts,n8,n9,n10⟩:=N.exc;refine⟨h0e,hk,oe',vs',n2,n3.trans hc,n5,.inr ⟨T,oT,ts,n6,n7,n8,n9,?_⟩,λT' q=>by rw[n6] at q;(injection q with e0_;injection e0_ with e0_;subst e0_);exact n1.elim (hal _) (h0T _)⟩;rcases hfv with rfl | ⟨l,q,rfl⟩
 . exact .inl n10
 . exact .inr ⟨l,q,n10⟩
theorem XD.noted(X:XD h0 β σ h e ds)(N:Noted fv fs e oe vs h h')(he:h.get? e=some oe)(hd:oe.data=.fields vs)(hL:gR L h e vs)(hfs:∀ f∈fs,(∃ o,h.get? f=some o/\fH o)/\h0.get? f≠none):XD h0 β σ h' e ds:=by
 refine X.move (λ_ z=>z) (λo z=>?_) (λD o z hf nb hn=>⟨nb,N.frs D o z hf⟩) λv x r=>r.keepS λa o ws n q hq _=>N.off he hd hL (λf hf=>(hfs f hf).1) q (λy z=>by rw[hq] at z;injection z) λ⟨_,_,z⟩=>by rw[hq] at z;injection z
 rw[he] at z;(injection z with e0_;subst e0_);obtain⟨T,vs',oe',_,n2,_,n4,_⟩:=N.exc;exact⟨oe',n2,n4⟩
theorem FrameOk.bare(F:FrameOk Z env ks sc ρ β σ h):FrameOk Z env ks sc [] β σ h:=
 ⟨F.kind,F.globals,F.builtins,F.kinds,F.bound,F.inj,let ⟨m,n,_⟩:=F.ns;⟨m,n,λ_ _ _ _ v q=>by simp at q⟩,λx c e=>let ⟨ov,n,_⟩:=F.cell x c e;⟨ov,n,λ_ _ _ v q=>by simp at q⟩,F.apart,F.cinj,F.cloc,F.frs⟩
theorem FrameOk.empty(F:FrameOk Z env ks sc [] β σ h):FrameOk Z env ks sc (List.replicate n .un) β σ h:=
 ⟨F.kind,F.globals,F.builtins,F.kinds,F.bound,F.inj,let ⟨m,n,_⟩:=F.ns;⟨m,n,λ_ _ _ _ v q hu=>absurd (SX.mp (Qp q)).2 hu⟩,λx c e=>let ⟨ov,n,_⟩:=F.cell x c e;⟨ov,n,λ_ _ _ v q hu=>absurd (SX.mp (Qp q)).2 hu⟩,F.apart,F.cinj,F.cloc,F.frs⟩
theorem dK.noted(F:dK Z β h)(N:Noted fv fs e oe vs h h'):dK Z β h':=F.grow λf o _ q hq=>let ⟨sl,z⟩:=N.frs f o q hq;⟨_,z,hq⟩
theorem FrameOk.noted(F:FrameOk Z env ks sc [] β σ h)(N:Noted fv fs e oe vs h h')(he:h.get? e=some oe)(hd:oe.data=.fields vs)(hL:gR L h e vs)
   (hfs:∀ f∈fs,∃ o,h.get? f=some o/\fH o):FrameOk Z env ks sc [] β σ h':=by
 refine⟨F.kind,F.globals,F.builtins,F.kinds,F.bound,F.inj,?_,λx c q=>?_,F.apart,F.cinj,F.cloc,F.frs.noted N⟩
 . refine kk λK k=>?_;obtain⟨m,⟨o,es,ep,ho,hd',r⟩,_⟩:=F.ns;obtain⟨sl,z⟩:=N.frs _ o ho ⟨es,ep,hd'⟩;refine k ?_;exact⟨m,⟨_,es,ep,z,hd',r⟩,λ_ _ _ _ v q=>by simp at q⟩
 . obtain⟨ov,⟨o,ho,hc⟩,_⟩:=F.cell x c q;exact⟨ov,⟨o,N.off he hd hL hfs ho (λws z=>by rw[hc] at z;injection z) (λ⟨_,_,z⟩=>by rw[hc] at z;injection z),hc⟩,λ_ _ _ v q=>by simp at q⟩
theorem tL:∀ {l:List Env},(∀ x∈l,x.scope.kind≠.module/\X2 λf o=>A3 (x.frame=some f) (h.get? f=some o) (fH o))->h.FunFrames jM l
 | []=>@λ_=>trivial
 | x::l=>@λH=>by obtain⟨h1,f,o,h2,h3,es,n,h4⟩:=H x (Qh ..);exact⟨h1,⟨f,o,h2,yR f,h3,λvs q=>by rw[h4] at q;injection q⟩,tL λy hy=>H y (Qj _ hy)⟩
theorem Cr{l:List Env}{fr:List Addr}(h:l.map (·.frame)=fr.map some):l.filterMap (·.frame)=fr/\∀ x∈l,∃ f,x.frame=some f/\f∈fr:=by
 induction l generalizing fr with
 | nil=>cases fr with
   | nil=>exact⟨rfl,λ_ h=>by cases h⟩
   | cons _ _=>injection h
 | cons x l ih=>cases fr with
   | nil=>injection h
   | cons f fr=>
     simp only[Q6,List.cons.injEq] at h;obtain⟨h1,h2⟩:=ih h.2;refine⟨by rw[R4,h.1,h1],λy hy=>?_⟩;rcases Qq.mp hy with rfl | hy
     . exact⟨f,h.1,Qh ..⟩
     . obtain⟨f',q,m⟩:=h2 y hy;exact⟨f',q,Qj _ m⟩
theorem bE:LIM<=sizeLine:=by unfold LIM sizeLine;decide
variable {ws:Array Value}{b i:Int}{ε ι:Type}{y:V}{u:Value}{P:Value->Prop}{Q:Value->Shared->Prop}{w:World}{o:Option α}{p:Option γ}{z:Res ε}{R:ι->ε->List Addr->ac->Heap->Prop}
theorem Inv.notTT(I:Inv Z β σ h)(ha:h.get? a=none):¬ TT β σ a:=λz=>by obtain⟨o,e⟩:=I.ex z.mem;rw[ha] at e;injection e
inductive ListAt(T:Addr->Prop)(h:Heap)(v:Value)(l:List PyData):Prop where
 | mk (a:Addr) (vs:Array Value) (n:Nat) (h1:v=.ref a) (h2:h.get? a=some (dq vs n)) (h3:RelAll T h vs.toList l) (h4:l.length<=LIM):ListAt T h v l
inductive TupAt(T:Addr->Prop)(h:Heap)(v:Value)(l:List PyData):Prop where
 | mk (a:Addr) (vs:Array Value) (n:Nat) (h1:v=.ref a) (h2:h.get? a=some (oE vs n)) (h3:¬ T a) (h4:l.length<=LIM) (h5:RelAll T h vs.toList l):TupAt T h v l
inductive DctIn(Z:Cx)(β:List Addr)(σ:ac)(h:Heap)(x:V)(v:Value)(l:List (Str×PyData)):Prop where
 | mk (n:Nat) (a:Addr) (h1:x=.loc n) (h2:β[n]?=some a) (h3:σ[n]?=some (.dct l)) (h4:v=.ref a) (h5:jp Z (TT β σ) h h a l):DctIn Z β σ h x v l
theorem ListAt.el(r:ListAt T h v l)(k:∀ a vs n,h.get? a=some (dq vs n)->RelAll T h vs.toList l->l.length<=LIM->P (.ref a)):P v:=by obtain⟨a,vs,n,e,h2,h3,h4⟩:=r;exact e▸k a vs n h2 h3 h4
theorem TupAt.el(r:TupAt T h v l)(k:∀ a vs n,h.get? a=some (oE vs n)->¬ T a->l.length<=LIM->RelAll T h vs.toList l->P (.ref a)):P v:=by obtain⟨a,vs,n,e,h2,h3,h4,h5⟩:=r;exact e▸k a vs n h2 h3 h4 h5
theorem DctIn.el{x:V}{l:List (Str×PyData)}{P:V->Value->Prop}(r:DctIn Z β σ h x v l)(k:∀ n a,β[n]?=some a->σ[n]?=some (.dct l)->jp Z (TT β σ) h h a l->P (.loc n) (.ref a)):P x v:=by obtain⟨n,a,e,h2,h3,e',h5⟩:=r;exact e▸e'▸k n a h2 h3 h5
inductive NewSeq(O:Array Value->Nat->Obj)(T:Addr->Prop)(s:Shared)(l:List PyData)(v:Value)(s':Shared):Prop where
 | mk (a:Addr) (vs:Array Value) (n:Nat) (h1:v=.ref a) (h2:s.heap.get? a=none) (h3:s'.heap.get? a=some (O vs n)) (h4:∀ b o,s.heap.get? b=some o->s'.heap.get? b=some o) (h5:s'.gens=s.gens) (h6:s'.os=s.os) (h7:RelAll T s.heap vs.toList l):NewSeq O T s l v s'
theorem bb{x:V}(I:Inv Z β σ h)(hl:aE σ x=some l)(r:aA β σ h v x):ListAt (TT β σ) h v l:=by
 cases x with
 | un=>injection hl
 | locs l=>injection hl
 | exc _ _=>injection hl
 | inst _ _=>injection hl
 | d y=>
   cases r with
   | list e t z q=>(injection hl with e0_;subst e0_);exact⟨_,_,_,rfl,e,q,z⟩
   | _=>injection hl
 | loc n=>obtain⟨a,hb,rfl⟩:=r;obtain⟨vs,m,e,q,z⟩:=I.cell n a _ hb (fj hl);exact⟨a,vs,m,rfl,e,q,z⟩
theorem fY{x:V}{l:List (Str×PyData)}(I:Inv Z β σ h)(hl:fu σ x=some l)(r:aA β σ h v x):DctIn Z β σ h x v l:=by
 cases x with
 | loc n=>obtain⟨a,hb,rfl⟩:=r;exact⟨n,a,rfl,hb,gu hl,rfl,I.cell n a _ hb (gu hl)⟩
 | _=>injection hl
theorem dI{m:Bool}(I:Inv Z β σ s.heap)(hl:l.length<=LIM)
   (hw:wpAny (model Z.prog Z.w) A t (NewSeq dq (TT β σ) s l) (λ_ _=>False) s) :
   Ev Z O A t (aM m l σ) VR β σ s:=by
 unfold aM;cases m with
 | true=>refine Ev.done (Qs hw (λv s' q=>?_) λ_ _ x=>x);obtain⟨a,vs,n,rfl,hf,e,hk,hg,ho,r⟩:=q;have N:=uH (O:=O) (c:=.lst l) I hk hf hg ho ⟨vs,n,e,r,hl⟩;exact⟨_,N.1,N.2,a,by rw[<- I.len];simp,rfl⟩
 | false=>refine Ev.grown I (Qs hw (λv s' q=>?_) λ_ _ x=>x);obtain⟨a,vs,n,rfl,hf,e,hk,hg,ho,r⟩:=q;exact⟨hk,hg,ho,.list e (I.notTT hf) hl (r.mono λx o _ _ e _ t=>⟨hk x o e,t⟩)⟩
theorem rc(I:Inv Z β σ s.heap)(hl:l.length<=LIM)
   (hw:wpAny (model Z.prog Z.w) A t (NewSeq oE (TT β σ) s l) (λ_ _=>False) s) :
   Ev Z O A t (.ok (.d (.tuple l)) σ) VR β σ s:=by
 refine Ev.grown I (Qs hw (λv s' q=>?_) λ_ _ x=>x);obtain⟨a,vs,n,rfl,hf,e,hk,hg,ho,r⟩:=q;exact⟨hk,hg,ho,.tuple e (I.notTT hf) hl (r.mono λx o _ _ e _ t=>⟨hk x o e,t⟩)⟩
theorem aU(h:Heap):h.get? h.objs.size=none:=by
 cases q:h.get? h.objs.size with
 | none=>rfl
 | some o=>exact absurd (Q8 q) (Sl _)
theorem bR{x:PyData}(I:Inv Z β σ s.heap)(hw:wpAny (model Z.prog Z.w) A t (λv s'=>(X2 λtk dr=>s'={ s with toks:=tk,drawn:=dr })/\Rel (TT β σ) s.heap v x) (λ_ _=>False) s) :
   Ev Z O A t (.ok (.d x) σ) VR β σ s:=Ev.grown I (Qs hw (λv s' q=>by obtain⟨⟨tk,dr,rfl⟩,r⟩:=q;exact⟨λ_ _ e=>e,rfl,rfl,r⟩) λ_ _ x=>x)
theorem EB{a:Int}(h:tz a b=true):IntMulOk a b:=by
 unfold tz at h;rcases QS.mp h with h | h <;> have h:=of_decide_eq_true h
 . exact .of_left (intBits_le_64 (by omega) (by omega))
 . exact .of_right (intBits_le_64 (by omega) (by omega))
theorem FJ{a:Int}(hb:0 < b):a.fdiv b=a / b:=Int.fdiv_eq_ediv_of_nonneg _ (SC hb)
theorem FE{a:Int}(hb:0 < b):a.fmod b=a % b:=Int.fmod_eq_emod_of_nonneg _ (SC hb)
theorem Ex{a:Int}(h0:0 < b)(h1:b < 9223372036854775808):Builtin.divisionGoesByPylong a b=false:=by refine PyProof.noPylong_of_log2 ?_;have:b.natAbs.log2 < 63:=(Nat.log2_lt (by omega)).mpr (by omega);lia
theorem k8:∀ (n:Nat) (a:Array Nat) (acc:Array Nat),((List.replicate n a).foldl (·++·) acc).toList=acc.toList++(List.replicate n a.toList).flatten
 | 0=>@λa acc=>by simp
 | n+1=>@λa acc=>by rw[Tj,TK,k8 n a,Tj];simp
set_option tactic.hygienic true in
theorem G4(x:Str)(n:Int)(h0:0<=n):Txt.mul x n=ar (List.replicate n.toNat (av x)).flatten:=by
 obtain⟨a⟩:=x;unfold Txt.mul ar av;split
 . have:n.toNat=0:=by lia
   rw[this];simp[Str.empty]
 . split
   . rename_i h1 h2;rcases QS.mp h2 with h2 | h2
     . have:n=1:=by simpa using h2
       subst this;simp
     . have h3:a=#[]:=Array.eq_empty_of_size_eq_zero (by simpa[Str.length] using h2);subst h3;simp
   . have:=k8 n.toNat a #[];simp only[Str.mk.injEq];apply Array.ext';rw[this];simp
theorem Ak:PyData.strOk x=true↔∀ c∈av x,c < 0x110000:=by unfold PyData.strOk av;rw[<- Array.all_toList,Rf];simp
theorem DF(l:List Nat):av (ar l)=l:=by simp[av,ar]
theorem f8{l:List Nat}(h:∀ c∈l,c < 0x110000)(hl:l.length<=LIM):cK (ar l):=⟨Ak.mpr (by rw[DF];exact h),by simpa[ar] using hl⟩
theorem cK.cps(h:cK x):∀ c∈av x,c < 0x110000:=Ak.mp h.1
theorem cK.len(h:cK x):(av x).length<=LIM:=by simpa[av] using h.2
theorem yx(x y:Str):x++y=ar (av x++av y):=by obtain⟨a⟩:=x;obtain⟨b⟩:=y;show Str.append _ _=_;simp[Str.append,ar,av]
noncomputable def MY:BOp->Operator
 | .add=>.Add
 | .sub=>.Sub
 | .mul=>.Mult
 | .fdiv=>.FloorDiv
 | .mod=>.Mod
 | .pow _=>.Pow
theorem sL{t b:Addr}{n2:Nat}{E:Value->Shared->Prop}{prog:Program}(ht:IsT s.heap t vs n)(hb:IsT s.heap b ws n2)(hsz:vs.size+ws.size<=sizeLine)
   (h1:vs.isEmpty=true->Q (.ref b) s) (h2:ws.isEmpty=true->Q (.ref t) s) (h3:Q (.ref s.heap.objs.size) { s with heap:=s.heap.push { cls:=.type "tuple",data:=.seq (vs++ws) } }) :
   wpAny (model prog w) A (binaryOp .Add (.ref t) (.ref b)) Q E s:=by
 by_cases e1:vs.isEmpty=true
 . exact concat_meets ⟨_,ht,rfl⟩ ⟨_,hb,rfl⟩ noFill_tuple_add seq_tuple_add F.slot_tuple_add F.entry_tuple_add (F.args_tuple_add_2 _ _) (AutoSeq1.tuple___add___tuple_tuple_0 t vs n b ws n2 e1) ⟨ht,hb,h1 e1⟩
 . by_cases e2:ws.isEmpty=true
   . exact concat_meets ⟨_,ht,rfl⟩ ⟨_,hb,rfl⟩ noFill_tuple_add seq_tuple_add F.slot_tuple_add F.entry_tuple_add (F.args_tuple_add_2 _ _) (AutoSeq1.tuple___add___tuple_tuple_1 t vs n b ws n2 e1 e2) ⟨ht,hb,h2 e2⟩
   . exact P.add_tuple ht hb e1 e2 h3 hsz
theorem pG(r:aA β σ h v (.d (.int i))):∃ t,v=.int i t:=by cases r;exact⟨_,rfl⟩
theorem Dn{b:Bool}(r:aA β σ h v (.d (.bool b))):v=.bool b:=by cases r;rfl
theorem oB(r:aA β σ h v (.d (.str x))):∃ t,v=.str x t/\cK x:=by
 cases r with
 | str _ t g=>exact⟨_,rfl,g⟩
theorem pF(r:aA β σ h v (.d (.tuple l))):TupAt (TT β σ) h v l:=by
 cases r with
 | tuple e t z r=>exact⟨_,_,_,rfl,e,t,z,r⟩
theorem cp{t:Sem ι}{f:α->γ->Res ε}(h1:∀ a b,o=some a->p=some b->Ev Z O A t (f a b) R β σ s)(h2:Ev Z O A t z R β σ s):Ev Z O A t (b2 o p f z) R β σ s:=by
 rcases mx o p f z with ⟨a,b,ha,hb,e⟩ | e
 . rw[e];exact h1 a b ha hb
 . rw[e];exact h2
theorem aL{t:Sem ι}{f:α->Res ε}(h1:∀ a,o=some a->Ev Z O A t (f a) R β σ s)(h2:Ev Z O A t z R β σ s):Ev Z O A t (oc o f z) R β σ s:=by
 rcases dZ o f z with ⟨a,ha,e⟩ | e
 . rw[e];exact h1 a ha
 . rw[e];exact h2
theorem bY{t:Sem ι}{c:Prop}[Decidable c]{f:Res ε}(h:c->Ev Z O A t f R β σ s):Ev Z O A t (if c then f else .bad) R β σ s:=by
 by_cases hc:c
 . rw[if_pos hc];exact h hc
 . rw[if_neg hc];exact Ev.bad
theorem eE{op:Operator}{x:V}{f:Int->Int->Res V}{z:Res V}(rx:aA β σ s.heap v x)(ry:aA β σ s.heap u y)
   (h1:∀ a b t t',Ev Z O A (binaryOp op (.int a t) (.int b t')) (f a b) VR β σ s) (h2:Ev Z O A (binaryOp op v u) z VR β σ s):Ev Z O A (binaryOp op v u) (b2 (ci x) (ci y) f z) VR β σ s:=
 cp (λa b ha hb=>by have ha:=cO ha;have hb:=cO hb;subst ha;subst hb;apply iG (pG rx);intro t;apply iG (pG ry);intro t';exact h1 a b t t') h2
set_option tactic.hygienic true in
theorem zT{m:Bool}{x:V}(I:Inv Z β σ s.heap)(rx:aA β σ s.heap v x)(ry:aA β σ s.heap u y):Ev Z O A (binaryOp (MY op) v u) (cZ op m x y σ) VR β σ s:=by
 cases op with
 | add=>
   refine eE rx ry (λa b t t'=>bR I (P.add_int ⟨⟨_,_,rfl⟩,.int _ _⟩)) ?_;refine cp (λx' y' hx hy=>bY λhm=>?_) (cp (λx' y' hx hy=>bY λhm=>?_) (cp (λl1 l2 h1 h2=>bY λhm=>?_) Ev.bad))
   . have hx:=eO hx;have hy:=eO hy;subst hx;subst hy;apply Cy (oB rx);intro t g;apply Cy (oB ry);intro t' g';refine bR I (PyProof.Rows.add_str (λt' tk=>⟨⟨_,_,rfl⟩,?_⟩) (iv hm bE));rw[yx];exact .str _ _ (f8 (λc hc=>(Qx.mp hc).elim (g.cps c) (g'.cps c)) (by simpa[av] using hm))
   . have hx:=dP hx;have hy:=dP hy;subst hx;subst hy;apply (pF rx).el;intro a1 vs1 n1 e1 t1 z1 q1;apply (pF ry).el;intro a2 vs2 n2 e2 t2 z2 q2;have l1:=q1.length;have l2:=q2.length;simp only[QA] at l1 l2;refine Ev.grown I (sL e1 e2 (by rw[l1,l2];exact iv hm bE) (λe=>⟨λ_ _ e=>e,rfl,rfl,?_⟩) (λe=>⟨λ_ _ e=>e,rfl,rfl,?_⟩) ⟨λb o e=>Qm _ e,rfl,rfl,?_⟩)
     . have:x'=[]:=RH (by rw[<- l1];simpa using e);subst this;exact .tuple e2 t2 z2 q2
     . have:y'=[]:=RH (by rw[<- l2];simpa using e);subst this;rw[QG];exact .tuple e1 t1 z1 q1
     . refine .tuple (Qy _ rfl) (I.notTT (aU _)) (by simpa using hm) ?_;have:=q1.append q2;rw[T7];exact this.mono λx o _ _ e _ t=>⟨Qm _ e,t⟩
   . apply (bb I h1 rx).el;intro a vs n e1 q1 _;apply (bb I h2 ry).el;intro b ws n2 e2 q2 _;have z1:=q1.length;have z2:=q2.length;simp only[QA] at z1 z2;refine dI I (by rw[Qg];exact hm) (P.add_list e1 e2 ?_ (by rw[z1,z2];exact iv hm bE));exact⟨_,_,_,rfl,aU _,Qy _ rfl,λb o e=>Qm _ e,rfl,rfl,by rw[T7];exact q1.append q2⟩
 | sub=>exact eE rx ry (λa b t t'=>bR I (P.sub_int ⟨⟨_,_,rfl⟩,.int _ _⟩)) Ev.bad
 | mul=>
   refine eE rx ry (λa b t t'=>bY λhm=>bR I (P.mul_int ⟨⟨_,_,rfl⟩,.int _ _⟩ (EB hm))) (cp (λx' n hx hy=>bY λhm=>?_) Ev.bad);have hx:=eO hx;have hy:=cO hy;subst hx;subst hy;apply Cy (oB rx);intro t g;apply iG (pG ry);intro t';have hlen:(List.replicate n.toNat (av x')).flatten.length<=LIM:=by
     have h1:(av x').length<=1000:=by simpa[av] using hm.2.2
     have h2:n.toNat<=1000:=RX.mpr hm.2.1;simp only[List.length_flatten,List.map_replicate,List.sum_replicate_nat,LIM]
     calc n.toNat * (av x').length<=1000 * 1000:=T6 h2 h1
       _=1000000:=rfl
   refine bR I (SB.mul ⟨?_,λ_ _=>?_,λ_ _=>?_⟩ λt' k=>⟨⟨_,_,rfl⟩,?_⟩)
   . have:n<=1000:=hm.2.1;have:0<=n:=hm.1;simp;lia
   . have h1:x'.length<=1000:=hm.2.2;have h3:0<=n:=hm.1;have h4:(9223372036854775:Int)<=(2 ^ 63 - 1) / n:=by
       rcases Int.lt_or_eq_of_le h3 with h3 | h3
       . exact(Int.le_ediv_iff_mul_le h3).mpr (by lia)
       . subst h3;rename_i q _;lia
     lia
   . have h1:x'.length * n.toNat<=1000 * 1000:=T6 hm.2.2 (RX.mpr hm.2.1);unfold Builtin.Str.tooLong;simp[sizeLine];lia
   . rw[G4 x' n hm.1];exact .str _ _ (f8 (λc hc=>by obtain⟨l,hl,hc⟩:=List.mem_flatten.mp hc;rw[(SX.mp hl).2] at hc;exact g.cps c hc) hlen)
 | fdiv=>refine eE rx ry (λa b t t'=>bY λhm=>?_) Ev.bad;exact(FJ hm.1)▸bR I (PyProof.Rows.floordiv_int (Uf hm.1) ⟨⟨_,_,rfl⟩,.int _ _⟩ (.inl (Ex hm.1 hm.2)))
 | mod=>refine eE rx ry (λa b t t'=>bY λhm=>?_) Ev.bad;exact(FE hm)▸bR I (PyProof.Rows.mod_int' (Uf hm) ⟨⟨_,_,rfl⟩,.int _ _⟩)
 | pow _=>refine eE rx ry (λa b t t'=>bY λhm=>?_) Ev.bad;obtain⟨rfl,rfl⟩:=hm;exact bR I (PyProof.Rows.pow_int (by decide) (by decide +kernel) ⟨⟨_,_,rfl⟩,.int _ _⟩)
variable {xs ys:Array Value}{b c:Bool}{op:COp}{f:Int->Int->Option Bool}{kvs kb:List (Str×Value)}{k:List PyData}{m:Nat}{x:V}{key:Value}{z:Option ι}
def vR(Z:Cx):Prop:=∃ o,Z.h₀.get? sysModules=some o
theorem vR.ne(Y:vR Z)(I:Inv Z β σ h)(ha:a∈β):(a==sysModules)=false:=by
 refine Y.elim λo e=>?_;have:=I.fresh a ha;cases q:a==sysModules with
 | false=>rfl
 | true=>rw[beq_iff_eq.mp q,e] at this;injection this
theorem IC(I:Inv Z β σ s.heap)(hw:wpAny (model Z.prog Z.w) A t (λv s'=>(X2 λtk dr=>s'={ s with toks:=tk,drawn:=dr })/\v=.bool b) (λ_ _=>False) s) :
   Ev Z O A t (.ok (.d (.bool b)) σ) VR β σ s:=bR I (Qs hw (λv s' q=>⟨q.1,by rw[q.2];exact .bool b⟩) λ_ _ x=>x)
theorem xM(q:RelAll T h vs.toList l):vs.isEmpty=l.isEmpty:=by
 have:=q.length;cases l with
 | nil=>simp at this;simp[this]
 | cons x r=>
   simp at this;have:vs.size≠0:=by rw[this];exact TB _
   simp[Array.isEmpty,this]
theorem kc(hn:n<=LIM):(n:Int) < 2 ^ 63:=Int.lt_of_le_of_lt (Rc.mpr hn) (by decide)
theorem iO(Y:vR Z)(I:Inv Z β σ s.heap)(r:aA β σ s.heap v x)(ht:truthy σ x=some b){Q:Bool->Shared->Prop}{E:Value->Shared->Prop}
   (h:∀ tk,Q b { s with toks:=tk }):wpAny (model Z.prog Z.w) A (PySem.truthy v) Q E s:=by
 have lst:∀ {a:Addr} {vs:Array Value} {n:Nat} {l:List PyData},s.heap.get? a=some (dq vs n)->RelAll (TT β σ) s.heap vs.toList l->l.length<=LIM->some (!l.isEmpty)=some b->wpAny (model Z.prog Z.w) A (PySem.truthy (.ref a)) Q E s:=by intro a vs n l e q z hb;have hz:=q.length;simp at hz;refine wpAny_truthy_list ⟨_,e,rfl,_,rfl⟩ (by rw[hz];exact kc z) ?_;rw[xM q,Option.some.inj hb];exact h _
 cases x with
 | un=>injection ht
 | locs l=>injection ht
 | exc _ _=>injection ht
 | inst _ _=>injection ht
 | d y=>
   cases r with
   | none=>(injection ht with e0_;subst e0_);exact λ_ _ _=>h s.toks
   | bool b=>(injection ht with e0_;subst e0_);exact wpAny_truthy_bool (h s.toks)
   | int i t=>(injection ht with e0_;subst e0_);exact P.truthy_int (h s.toks)
   | str x t g=>
     refine P.truthy_str ?_ ?_
     . have:=g.2;simp only[Str.length,LIM] at *;lia
     . have:=h (s.toks+1+1);(injection ht with e0_;subst e0_);rw[show ((x.length:Int) != 0)=(x.cps.size != 0) by simp only[Str.length];cases x.cps.size <;> simp[bne] <;> omega];exact this
   | list e t z q=>exact lst e q z ht
   | tuple e t z q=>have hz:=q.length;simp only[QA] at hz;refine PyProof.Rows.truthy_tuple ⟨_,e,rfl,_,rfl⟩ (by rw[hz];exact kc z) ?_;rw[xM q,Option.some.inj ht];exact h _
 | loc n=>
   obtain⟨a,hb,rfl⟩:=r;rcases dZ (fM σ n) (λl=>some (!l.isEmpty)) (oc (ee σ n) (λl=>some (!l.isEmpty)) none) with ⟨l,hc,e⟩ | e
   . obtain⟨vs,m,e',q,z⟩:=I.cell n a _ hb (fj hc);exact lst e' q z (e.symm.trans ht)
   . have ht:oc (ee σ n) (λl=>some (!l.isEmpty)) none=some b:=e.symm.trans ht;rcases dZ (ee σ n) (λl=>some (!l.isEmpty)) none with ⟨l,hc,e⟩ | e
     . obtain⟨kvs,D,hk,q,_,z⟩:=I.cell n a _ hb (gu hc);have hz:kvs.length=l.length:=by have:=congrArg List.length hk;simpa using this
       refine wpAny_truthy_dict (Y.ne I (Qp hb)) D (by rw[hz];exact kc z) ?_;exact(by cases kvs <;> cases l <;> simp_all:kvs.isEmpty=l.isEmpty)▸(Option.some.inj (e.symm.trans ht))▸h _
     . rw[e] at ht;injection ht
theorem t8(I:Inv Z β σ h)(r:aA β σ h v x)(hd:N6 σ x=some d):(∃ as,Reads h v d as)/\d.canLay0=true:=by
 cases x with
 | un=>injection hd
 | locs l=>injection hd
 | exc _ _=>injection hd
 | inst _ _=>injection hd
 | d y=>(injection hd with e0_;subst e0_);exact⟨Rel.reads r,Rel.lay r⟩
 | loc n=>refine kk λK k=>?_;obtain⟨a,hb,rfl⟩:=r;obtain⟨l,hc,rfl⟩:=QL.mp hd;obtain⟨vs,m,e,q,z⟩:=I.cell n a _ hb (fj hc);obtain⟨as,qq⟩:=q.reads;refine k ?_;exact⟨⟨_,.list e rfl rfl qq⟩,by simpa[PyData.canLay0] using q.lay⟩
noncomputable def bZ:COp->CmpOp
 | .eq=>.Eq
 | .ne=>.NotEq
 | .lt=>.Lt
 | .le=>.LtE
 | .gt=>.Gt
 | .ge _=>.GtE
 | .isN=>.Is
 | .isNotN=>.IsNot
 | .isIn=>.In
 | .notIn=>.NotIn
def CW(s:Shared)(Q:Value->Shared->Prop)(v:Value):Prop:=∀ tk,Q v { s with toks:=tk }
theorem d3{l:List (Str×PyData)}(e:kvs.map (·.1)=l.map (·.1))(r:RelAll T h (kvs.map (·.2)) (l.map (·.2)))(k:Str):(valueAt kvs k=none/\l.lookup k=none)\/X2 λv d=>A3 (valueAt kvs k=some v) (l.lookup k=some d) (Rel T h v d):=by
 induction kvs generalizing l with
 | nil=>
   cases l with
   | nil=>exact .inl ⟨rfl,rfl⟩
   | cons _ _=>injection e
 | cons a kvs ih=>
   cases l with
   | nil=>injection e
   | cons b l=>
     injection e with e1 e2;have e1:a.1=b.1:=e1;cases r with
     | cons r rs=>
       by_cases hk:a.1=k
       . exact .inr ⟨a.2,b.2,by unfold valueAt;rw[List.find?_cons_of_pos (p:=λkv:Str×Value=>decide (kv.1=k)) (decide_eq_true hk)];rfl,by rw[QD,beq_iff_eq.mpr (hk.symm.trans e1)],r⟩
       . have h1:valueAt (a::kvs) k=valueAt kvs k:=by unfold valueAt;exact congrArg _ (List.find?_cons_of_neg (p:=λkv:Str×Value=>decide (kv.1=k)) (by rw[decide_eq_false hk];exact nofun))
         have h2:List.lookup k (b::l)=l.lookup k:=by rw[QD,beq_eq_false_iff_ne.mpr λq=>hk (e1.trans q.symm)]
         exact h1▸h2▸ih e2 rs
theorem xb{m:List (Str×PyData)}(hu:A.units+200 < cLine)(hkb:kb.map (·.1)=m.map (·.1))(qb:RelAll T s.heap (kb.map (·.2)) (m.map (·.2))) :
   ∀ (ka:List (Str×Value)) (l:List (Str×PyData)),ka.map (·.1)=l.map (·.1)->RelAll T s.heap (ka.map (·.2)) (l.map (·.2))->(l.all λkv=>FG kv.2)=true->PySem.W.KeqHits A.in1 s kb ka (vn l m)
 | [],[],_,_,_=>.nil
 | [],_::_,e,_,_=>by simp at e
 | _::_,[],e,_,_=>by simp at e
 | (k,v)::ka,(k',d)::l,e,.cons r rs,hf=>by
   simp only[Q6,List.cons.injEq] at e;obtain⟨rfl,e⟩:=e;simp only[T9,Qw] at hf;have hd:vn ((k,d)::l) m=((match m.lookup k with | some y=>d.eqv y | none=>false)&&vn l m):=rfl;rw[hd];rcases d3 hkb qb k with ⟨h1,h2⟩ | ⟨w,y,h1,h2,r'⟩
   . rw[h2];exact .miss h1
   . rw[h2];obtain⟨as,ra⟩:=Rel.reads r;obtain⟨bs,rb⟩:=r'.reads;have hd1:d.depth<=1:=by have:=hf.1;cases d <;> first | exact QI _ | exact QP _ | exact Rt (this:false=true)
     exact .hit h1 (SeqAt.eqAt_reads d y _ _ _ _ _ _ ra rb (Rel.lay r) r'.lay (by show A.units+1+_ < _;omega)) (xb hu hkb qb ka l e rs hf.2)
theorem fV{f:α->γ->Option ι}{c:ι}(h:b2 o p f z=some c):(X2 λa b=>A3 (o=some a) (p=some b) (f a b=some c))\/z=some c:=by
 rcases mx o p f z with ⟨a,b,ha,hb,e⟩ | e
 . exact .inl ⟨a,b,ha,hb,e.symm.trans h⟩
 . exact .inr (e.symm.trans h)
set_option tactic.hygienic true in
theorem tS(Y:vR Z)(I:Inv Z β σ s.heap)(hu:A.units+200 < cLine)(rx:aA β σ s.heap v x)(ry:aA β σ s.heap u y)(hb:Mt σ x y=some b){E:Value->Shared->Prop} :
   (CW s Q (.bool b)->wpAny (model Z.prog Z.w) A (compareOp .Eq v u) Q E s)/\(CW s Q (.bool (!b))->wpAny (model Z.prog Z.w) A (compareOp .NotEq v u) Q E s):=by
 rcases fV (hb:b2 (N6 σ x) (N6 σ y) LS _=some b) with ⟨d,e,hd,he,hb⟩ | hb
 . refine kk λK k=>?_;obtain⟨⟨as,ra⟩,la⟩:=t8 I rx hd;obtain⟨⟨bs,rb⟩,lb⟩:=t8 I ry he;refine k ?_;unfold LS at hb;split at hb
   . rename_i hm;(injection hb with e0_;subst e0_);exact⟨λq=>SeqAt.compareEq_reads ra rb la lb (by omega) (q s.toks),λq=>SeqAt.compareNe_reads ra rb la lb (by omega) (q s.toks)⟩
   . injection hb
 . rcases fV hb with ⟨l,m,hl,hm,hb⟩ | hb
   . split at hb
     . rename_i hf;(injection hb with e0_;subst e0_);obtain⟨hfl,hfm⟩:=Qn.mp hf;apply (fY I hl rx).el;intro n a hb hc R0;obtain⟨ka,Da,hka,qa,hga,za⟩:=R0;apply (fY I hm ry).el;intro n' a' hb' hc' R0;obtain⟨kb,Db,hkb,qb,hgb,zb⟩:=R0;have la:ka.length=l.length:=by have:=congrArg List.length hka;simpa using this
       have lb:kb.length=m.length:=by have:=congrArg List.length hkb;simpa using this
       have hh:=xb hu hkb qb ka l hka qa hfl;refine la▸lb▸?_;exact⟨λq=>PySem.W.keq_eq (Y.ne I (Qp hb)) (Y.ne I (Qp hb')) Da Db (by omega) (λ_=>hh) (q s.toks),
         λq=>PySem.W.keq_ne (Y.ne I (Qp hb)) (Y.ne I (Qp hb')) Da Db (by omega) (λ_=>hh) (q s.toks)⟩
     . injection hb
   . injection hb
theorem Ew{prog:Program}{K:Type}[DecidableEq K]{knd:KeyKind prog w K}{E:Value->Shared->Prop}{d:Addr}{k:K}{f:K->Option Value}(hkey:knd.is k key=true)(hd:(d==sysModules)=false)(hm:s.heap.MapOf knd d f)
   (h:Q (.bool (!(f k).isSome)) { s with toks:=s.toks+1 }):wpAny (model prog w) A (compareOp .NotIn key (.ref d)) Q E s:=by
 show wpAny _ _ (do return .bool (!(<- contains (.ref d) key))) Q E s;refine Pe ?_;unfold contains
 try with_reducible refine Rs ?_
 refine Pe (wpAny_specialOf hm.typeIs slot_dict_contains.lookup ?_);refine(?_:wpAny _ _ (if (some (Value.builtin "dict.__contains__")==some Value.none)=true then _ else _) _ E s);rw[if_neg (by rw[beq_builtin_none];exact QB)];refine Pe (wpAny_callSpecialUnlessNone?_slot (name:=Str.ofString "__contains__") hm.typeIs slot_dict_contains
   (wpAny_call_entry slot_dict_contains hm.typeIs entry_dict_contains ?_ (args_dict_contains _ _)))
 show wpAny _ _ (dictGet d key >>= _) _ _ s;refine Pe (wpAny_dictGet_of hkey hm ?_);cases hf:f k with
 | some v=>rw[hf] at h;refine(?_:wpAny _ _ (ret (.bool true)) _ _ _);exact Ql ⟨_,rfl,wpAny_truthy_bool (Ql h)⟩
 | none=>rw[hf] at h;refine(?_:wpAny _ _ (Builtin.Dict.pendingKey? d key >>= _) _ _ _);exact Pe (wpAny_pendingKey_other hd (Ql ⟨_,rfl,wpAny_truthy_bool (Ql h)⟩))
theorem Lw(x y:Str)(hx:x.cps.size=1):(!(Builtin.Str.occurrences y x 0 y.length 1).isEmpty)=(av y).any λc=>av x==[c]:=by
 obtain⟨a⟩:=x;obtain⟨c,rfl⟩:∃ c,a=#[c]:=by
   match a,hx with
   | ⟨[c]⟩,_=>exact⟨c,rfl⟩
 rw[StrLaws.found_one];unfold av;show decide (c∈y.cps.toList)=y.cps.toList.any λd=>[c]==[d]
 rw[Bool.eq_iff_iff,decide_eq_true_iff,List.any_eq_true];constructor
 . exact λm=>⟨c,m,by rw[beq_iff_eq]⟩
 . rintro⟨d,m,e⟩
   rw[beq_iff_eq] at e;cases (e);exact m
theorem c6{f:α->Option γ}{z:Option γ}{c:γ}(h:oc o f z=some c):(∃ a,o=some a/\f a=some c)\/z=some c:=by
 rcases dZ o f z with ⟨a,ha,e⟩ | e
 . exact .inl ⟨a,ha,e.symm.trans h⟩
 . exact .inr (e.symm.trans h)
theorem uF{f:α->Option γ}{c:γ}(h:oc o f none=some c):∃ a,o=some a/\f a=some c:=by
 rcases c6 h with h | h
 . exact h
 . injection h
theorem AW{x:PyData}(h:xg x l=some b):min (PyData.depthAll l) x.depth<=64/\(l.any λy=>y.eqv x)=b:=by
 unfold xg at h;by_cases hc:min (PyData.depthAll l) x.depth<=64
 . rw[if_pos hc] at h;exact⟨hc,Option.some.inj h⟩
 . rw[if_neg hc] at h;injection h
theorem tE(Y:vR Z)(I:Inv Z β σ s.heap)(hu:A.units+200 < cLine)(rx:aA β σ s.heap v x)(ry:aA β σ s.heap u y)(hb:bq.inV x y σ=some b){E:Value->Shared->Prop} :
   (CW s Q (.bool b)->wpAny (model Z.prog Z.w) A (compareOp .In v u) Q E s)/\(CW s Q (.bool (!b))->wpAny (model Z.prog Z.w) A (compareOp .NotIn v u) Q E s):=by
 obtain⟨dx,hx,hb⟩:=uF hb;replace rx:=(ch hx)▸rx;rcases fV hb with ⟨xs,ys,h1,h2,hb⟩ | hb
 . rw[oS h1] at rx;rw[eO h2] at ry;apply Cy (oB rx);intro t g;apply Cy (oB ry);intro t' g';by_cases hs:xs.cps.size=1
   . rw[if_pos hs] at hb;(injection hb with e0_;subst e0_);rw[<- Lw xs ys hs];exact⟨λq=>P.in_str (q s.toks),λq=>P.notIn_str (q s.toks)⟩
   . rw[if_neg hs] at hb;injection hb
 . obtain⟨as,ra⟩:=Rel.reads rx;have la:=Rel.lay rx;rcases c6 hb with ⟨l,hl,hb⟩ | hb
   . refine kk λK k=>?_;rw[dP hl] at ry;obtain⟨hm,rfl⟩:=AW hb;obtain⟨bs,rb⟩:=Rel.reads ry;have lb:=Rel.lay ry;rw[PyData.canLay0] at lb;refine k ?_;exact⟨λq=>SeqAt.in_tuple_reads rb ra lb la (by omega) (q s.toks),λq=>SeqAt.notIn_tuple_reads rb ra lb la (by omega) (q s.toks)⟩
   . rcases c6 hb with ⟨l,hl,hb⟩ | hb
     . apply (bb I hl ry).el;intro a vs n e q z;obtain⟨bs,rb⟩:=q.reads;have rb':Reads s.heap (.ref a) (.list l) _:=.list e rfl rfl rb;obtain⟨hm,rfl⟩:=AW hb;exact⟨λq'=>SeqAt.in_list_reads rb' ra q.lay la (by omega) (q' s.toks),λq'=>SeqAt.notIn_list_reads rb' ra q.lay la (by omega) (q' s.toks)⟩
     . rcases fV hb with ⟨k,kvs',hk0,hdd,hb⟩ | hb
       . (injection hb with e0_;subst e0_);rw[oS hk0] at rx;apply (fY I hdd ry).el;intro n a hbb hc R0;obtain⟨kvs,D,hk,q,_,z⟩:=R0;apply Cy (oB rx);intro t g;have e:(valueAt kvs k).isSome=(List.lookup k kvs').isSome:=by rcases d3 hk q k with ⟨h1,h2⟩ | ⟨v,d,h1,h2,_⟩ <;> rw[h1,h2] <;> rfl
         have ne:=Y.ne I (Qp hbb);exact⟨λq'=>wpAny_in_of (strKind_is Z.prog Z.w k t) ne D.mapOf (by rw[e];exact q' _),λq'=>Ew (strKind_is Z.prog Z.w k t) ne D.mapOf (by rw[e];exact q' _)⟩
       . injection hb
theorem uS(rx:aA β σ h v x)(ry:aA β σ h u y)(hb:b2 (ci x) (ci y) f none=some b):X4 λi j t t'=>A3 (v=.int i t) (u=.int j t') (f i j=some b):=by
 rcases fV hb with ⟨i,j,hi,hj,e⟩ | e
 . rw[cO hi] at rx;rw[cO hj] at ry;apply iG (pG rx);intro t;apply iG (pG ry);intro t';exact⟨i,j,t,t',rfl,rfl,e⟩
 . injection e
theorem AG{f:PyData->Option Bool}{c:Option Bool}(rx:aA β σ h v x)(ry:aA β σ h u y)(hb:oc (ql y) (λ_=>oc (bK x) f (oc (oH x) (λ_=>c) none)) none=some b) :
   u=.none/\((∃ d,x=.d d/\f d=some b)\/(∃ a,v=.ref a/\c=some b)):=by
 rcases c6 hb with ⟨_,hy,hb⟩ | hb
 . replace ry:=(qk hy)▸ry;refine⟨by cases ry;rfl,?_⟩;rcases c6 hb with ⟨d,hd,hb⟩ | hb
   . exact .inl ⟨d,ch hd,hb⟩
   . rcases c6 hb with ⟨n,hn,hb⟩ | hb
     . rw[gG hn] at rx;obtain⟨a,_,rfl⟩:=rx;exact .inr ⟨a,rfl,hb⟩
     . injection hb
 . injection hb
inductive GeI(T:Addr->Prop)(h:Heap)(c:Bool)(m n:Nat)(r:List (Value×Value)):Prop where
 | mk (l k:List PyData) (xs ys:List Value) (i:Nat) (e:r=xs.zip ys) (qa:RelAll T h xs l) (qb:RelAll T h ys k) (hl:AN l k=some (!c)) (z1:m=xs.length+i) (z2:n=ys.length+i):GeI T h c m n r
inductive GeJ(T:Addr->Prop)(h:Heap)(c:Bool)(m n:Nat)(p:Value×Value)(r:List (Value×Value)):Prop where
 | eq (i:Int) (t t':Tok) (e:p=(.int i t,.int i t')) (g:GeI T h c m n r):GeJ T h c m n p r
 | ne (i j:Int) (t t':Tok) (e:p=(.int i t,.int j t')) (hne:i≠j) (hc:decide (i≥j)=c):GeJ T h c m n p r
theorem wD{x:Int}(r:Rel T h v (.int x)):∃ t,v=.int x t:=by cases r;exact⟨_,rfl⟩
theorem LC{x y:Int}(h:decide (x < y)=!c):decide (x≥y)=c:=by
 by_cases q:x < y
 . rw[decide_eq_true q] at h;rw[decide_eq_false (Uc.mpr q)];cases c with
   | false=>rfl
   | true=>injection h
 . rw[decide_eq_false q] at h;rw[decide_eq_true (R8.mp q)];cases c with
   | true=>rfl
   | false=>injection h
theorem H9{p:Value×Value}{r:List (Value×Value)}(g:GeI T h c m n (p::r)):GeJ T h c m n p r:=by
 obtain⟨l,k,xs,ys,i,e,qa,qb,hl,z1,z2⟩:=g;cases qa with
 | nil=>injection e
 | cons r1 q1=>
   cases qb with
   | nil=>injection e
   | cons r2 q2=>
     injection e with h1 h2;rcases fV (hl:b2 (Cj _) (Cj _) (λx y=>if x=y then AN _ _ else some (decide (x < y))) none=some (!c)) with ⟨x,y,hx,hy,hl⟩ | hl
     . rw[uT hx] at r1;rw[uT hy] at r2;obtain⟨t,e1⟩:=wD r1;obtain⟨t',e2⟩:=wD r2;rw[e1,e2] at h1;by_cases e:x=y
       . rw[if_pos e] at hl;rw[<- e] at h1;exact .eq x t t' h1 ⟨_,_,_,_,i+1,h2,q1,q2,hl,z1.trans (RN _ 1 i),z2.trans (RN _ 1 i)⟩
       . rw[if_neg e] at hl;exact .ne x y t t' h1 e (LC (Option.some.inj hl))
     . injection hl
theorem LD(g:GeI T h c m n []):decide (m≥n)=c:=by
 obtain⟨l,k,xs,ys,i,e,qa,qb,hl,rfl,rfl⟩:=g;cases qa with
 | nil=>
   cases qb with
   | nil=>exact(decide_eq_true (QP _)).trans (Ug (Option.some.inj hl))
   | cons _ _=>exact(decide_eq_false (Nat.not_le.mpr (Nat.add_lt_add_right (RY _) i))).trans (Ug (Option.some.inj hl))
 | cons _ _=>
   cases qb with
   | nil=>exact(decide_eq_true (Qu (QI _) i)).trans (Ug (Option.some.inj hl))
   | cons _ _=>injection e
theorem sf{prog:Program}{E:Value->Shared->Prop}{T:Addr->Prop}{b:Addr}{R:PySem.Fin->Shared->Prop}(ea:s.heap.get? a=some (oE xs n))(eb:s.heap.get? b=some (oE ys m))
   (qa:RelAll T s.heap xs.toList l) (qb:RelAll T s.heap ys.toList k) (hc:AN l k=some (!c)) (q:R (.done (.ret (.bool c))) s) :
   wpAny (model prog w) A (Builtin.«tuple.__ge__» ⟨[.ref a,.ref b],[]⟩) R E s:=by
 show wpAny _ _ (isInstance (.ref b) (.type "tuple") >>= _) _ _ s;refine Pe (wpAny_isInstance (T:="tuple") ⟨_,eb,rfl⟩ isSubtype_tuple_tuple (Pe (wpAny_tupleItemsOf ea rfl (Pe (wpAny_tupleItemsOf eb rfl (Pe ?_))))));refine wpAny_forIn_list _ (λrest r s'=>r=(none,())/\s'=s/\GeI T s.heap c xs.size ys.size rest) _ (λp rest r s' g=>?_) (λr s' g=>?_) _ _ ⟨rfl,rfl,_,_,_,_,0,rfl,qa,qb,hc,rfl,rfl⟩
 . cases H9 g.2.2 with
   | eq i t t' e g'=>rw[e,g.2.1];refine Pe (wpAny_eqBool_int ?_);rw[beq_self_eq_true i];exact Ql ⟨rfl,rfl,g'⟩
   | ne i j t t' e hne hc=>rw[e,g.2.1];refine Pe (wpAny_eqBool_int ?_);rw[beq_eq_false_iff_ne.mpr hne];exact Pe (wpAny_rule (Pe (P.ge_int (Pe (Ql (Ql (Ql (hc▸q))))))))
 . rw[g.1,g.2.1];exact Ql ((LD g.2.2)▸q:R (.done (.ret (.bool (decide (xs.size≥ys.size))))) s)
theorem Fi{prog:Program}{E:Value->Shared->Prop}{T:Addr->Prop}{b:Addr}(ea:s.heap.get? a=some (oE xs n))(eb:s.heap.get? b=some (oE ys m))
   (qa:RelAll T s.heap xs.toList l) (qb:RelAll T s.heap ys.toList k) (hc:AN l k=some (!c)) (hu:A.units < cLine) (q:Q (.bool c) s) :
   wpAny (model prog w) A (compareOp .GtE (.ref a) (.ref b)) Q E s:=by
 show wpAny _ _ (richCompare .GtE (.ref a) (.ref b)) _ _ _;refine wpAny_richCompare_same_room (T:="tuple") ⟨_,ea,rfl⟩ ⟨_,eb,rfl⟩ F.slot_tuple_ge ?_ hu;refine wpAny_call_entry F.slot_tuple_ge (T:="tuple") ⟨_,ea,rfl⟩ F.entry_tuple_ge ?_ (F.args_tuple_ge_2 _ _);exact sf ea eb qa qb hc ⟨_,rfl,nofun,q⟩
theorem zG(Y:vR Z)(I:Inv Z β σ s.heap)(hu:A.units+200 < cLine)(rx:aA β σ s.heap v x)(ry:aA β σ s.heap u y)(hb:bq op x y σ=some b){E:Value->Shared->Prop}
   (q:CW s Q (.bool b)):wpAny (model Z.prog Z.w) A (compareOp (bZ op) v u) Q E s:=by
 cases op with
 | eq=>exact(tS Y I hu rx ry hb).1 q
 | ne=>obtain⟨c,hc,rfl⟩:=QL.mp (show (Mt σ x y).map (!·)=some b from hb);exact(tS Y I hu rx ry hc).2 q
 | lt=>obtain⟨i,j,t,t',rfl,rfl,e⟩:=uS rx ry hb;(injection e with e0_;subst e0_);exact P.lt_int (q s.toks)
 | le=>obtain⟨i,j,t,t',rfl,rfl,e⟩:=uS rx ry hb;(injection e with e0_;subst e0_);exact P.le_int (q s.toks)
 | gt=>obtain⟨i,j,t,t',rfl,rfl,e⟩:=uS rx ry hb;(injection e with e0_;subst e0_);exact P.gt_int (q s.toks)
 | ge _=>
   rcases fV hb with ⟨i,j,hi,hj,e⟩ | e
   . rw[cO hi] at rx;rw[cO hj] at ry;apply iG (pG rx);intro t;apply iG (pG ry);intro t';(injection e with e0_;subst e0_);exact P.ge_int (q s.toks)
   rcases fV e with ⟨i,j,hi,hj,e⟩ | e
   . rw[dP hi] at rx;rw[dP hj] at ry;apply (pF rx).el;intro a vs n h1 _ _ r1;apply (pF ry).el;intro a' us m h2 _ _ r2;obtain⟨c,hc,e⟩:=QL.mp e;exact Fi h1 h2 r1 r2 (show AN i j=some (!b) by rw[hc,<- e,Bool.not_not]) (QN (Qz _ 200) hu) (q s.toks)
   . injection e
 | isN=>
   obtain⟨rfl,⟨d,rfl,e⟩ | ⟨a,rfl,e⟩⟩:=AG rx ry hb
   . have q:=q s.toks;(injection e with e0_;subst e0_);cases rx <;> exact wpAny_is_plain rfl q
   . (injection e with e0_;subst e0_);exact wpAny_is_plain rfl (q s.toks)
 | isNotN=>
   obtain⟨rfl,⟨d,rfl,e⟩ | ⟨a,rfl,e⟩⟩:=AG rx ry hb
   . have q:=q s.toks;(injection e with e0_;subst e0_);cases rx <;> exact wpAny_isNot_plain rfl q
   . (injection e with e0_;subst e0_);exact wpAny_isNot_plain rfl (q s.toks)
 | isIn=>exact(tE Y I hu rx ry hb).1 q
 | notIn=>obtain⟨c,hc,rfl⟩:=QL.mp (show (bq.inV x y σ).map (!·)=some b from hb);exact(tE Y I hu rx ry hc).2 q
variable {items:Array Value}{value:Expr}{p:Option Int}{vl vu:Value}
theorem nu{j:Int}(hj:(if i < 0 then i+n else i)=j)(h0:0<=j)(h1:j < n):seqIndex? i n=some j.toNat:=by show (if (decide (0<=(if i < 0 then i+(n:Int) else i))&&decide ((if i < 0 then i+(n:Int) else i) < n))=true then some (if i < 0 then i+(n:Int) else i).toNat else none)=_;rw[hj,if_pos (by rw[decide_eq_true h0,decide_eq_true h1];rfl)]
theorem qH{k:Nat}(h:index n i=some k):seqIndex? i n=some k/\-(n:Int)<=i/\i < n/\k < n:=by
 by_cases h0:0<=i
 . have h:=(if_pos h0).symm.trans h;by_cases h1:i < n
   . have e:=Option.some.inj ((if_pos h1).symm.trans h);subst e;exact⟨nu (if_neg (R8.mpr h0)) h0 h1,Rq (Int.neg_nonpos_of_nonneg (QT n)) h0,h1,(SU h0).mpr h1⟩
   . exact Ua rfl (heq_of_eq ((if_neg h1).symm.trans h))
 . have h:=(if_neg h0).symm.trans h;have h0:=Uc.mp h0;by_cases h1:0<=i+n
   . have e:=Option.some.inj ((if_pos h1).symm.trans h);subst e;have h2:i+n < n:=Sy (Int.add_lt_add_right h0 n) (Int.le_of_eq (Ue _));exact⟨nu (if_pos h0) h1 h2,by lia,Sy h0 (QT n),(SU h1).mpr h2⟩
   . exact Ua rfl (heq_of_eq ((if_neg h1).symm.trans h))
def ItemsOf(Z:Cx)(A:Around)(E:Value->Shared->Prop)(v u:Value)(Q:Value->Shared->Prop)(s:Shared):Prop:=
 X2 λT id=>A3 (s.TypeIs v T) (typeLookup (.type T) "__getitem__"=pure (some (.builtin id))) (wpAny (model Z.prog Z.w) A (getItem v u) Q E s)
theorem mh{t:Tok}{y:Value}{E:Value->Shared->Prop}(e:s.heap.get? a=some (dq vs n))(h0:0<=i)(hz:vs.size<=LIM)(hy:vs[i.toNat]?=some y)(h:Q y s) :
   ItemsOf Z A E (.ref a) (.int i t) Q s:=
 ⟨"list",_,⟨_,e,rfl⟩,slot_list_getitem.lookup,wpAny_getItem_list ⟨_,e,rfl,_,rfl⟩ h0 (by have:=(RQ.mp hy).1;unfold LIM at hz;lia) hy h⟩
theorem zd{z:V}(Y:vR Z)(I:Inv Z β σ s.heap)(rx:aA β σ s.heap v x)(ry:aA β σ s.heap u y)(hb:c8 x y σ=some z){E:Value->Shared->Prop}
   (q:∀ w tk,aA β σ s.heap w z->Q w { s with toks:=tk }):ItemsOf Z A E v u Q s:=by
 rcases c6 hb with ⟨i,hi,hb⟩ | hb
 . rw[cO hi] at ry;apply iG (pG ry);intro ti;rcases c6 hb with ⟨l,hl,hb⟩ | hb
   . rw[dP hl] at rx;apply (pF rx).el;intro a vs n e t zz r;obtain⟨k,hk,hb⟩:=Qo.mp hb;obtain⟨d,hd,rfl⟩:=QL.mp hb;obtain⟨h1,h2,h3,h4⟩:=qH hk;obtain⟨w,hw,rw'⟩:=r.get hd;have hl:=r.length;simp only[QA] at hl;exact⟨"tuple",_,⟨_,e,rfl⟩,F.slot_tuple_getitem.lookup,P.getItem_tuple e (by unfold LIM at zz;lia) (by unfold LIM at zz;lia) (by rw[hl];exact h1) (by simpa using hw) (q w s.toks rw')⟩
   . rcases c6 hb with ⟨x',hx,hb⟩ | hb
     . replace rx:=(eO hx)▸rx;obtain⟨t,rfl,g⟩:=oB rx;obtain⟨k,hk,hb⟩:=Qo.mp hb;obtain⟨c,hd,rfl⟩:=QL.mp hb;obtain⟨h1,h2,h3,h4⟩:=qH hk;have hl:=g.len;have hlen:x'.length=(av x').length:=by simp[Str.length,av]
       have hc:x'.cps[k]?=some c:=by simpa[av] using hd
       refine⟨"str",_,typeIs_str s x' t,F.slot_str_getitem.lookup,P.getItem_str ?_ (c:=c) ?_ (q _ _ (.str _ _ ?_))⟩
       . unfold LIM at hl;simp;lia
       . rw[hlen,h1,Option.bind_some];exact hc
       . exact f8 (λd hd'=>by simp at hd';subst hd';exact g.cps d (Qp hd)) (by simp[LIM])
     . rcases c6 hb with ⟨l,hl,hb⟩ | hb
       . rw[EP hl] at rx;obtain⟨a,vs,n,rfl,e,t,hl,hm⟩:=rx;by_cases h0:0<=i
         . rw[if_pos h0] at hb;obtain⟨k,hd,rfl⟩:=QL.mp hb;obtain⟨b,h1,h2⟩:=hm _ _ hd;exact mh e h0 (by have:=hl.1;simp only[QA] at this;rw[this];exact hl.2) h2 (q _ s.toks ⟨b,h1,rfl⟩)
         . rw[if_neg h0] at hb;injection hb
       . rcases c6 hb with ⟨l,hl,hb⟩ | hb
         . obtain⟨a,vs,n,rfl,e,r,zz⟩:=bb I hl rx;by_cases h0:0<=i
           . rw[if_pos h0] at hb;obtain⟨d,hd,rfl⟩:=QL.mp hb;obtain⟨w,hw,rw'⟩:=r.get hd;have hz:=r.length;simp only[QA] at hz;exact mh e h0 (by rw[hz];exact zz) (by simpa using hw) (q w s.toks rw')
           . rw[if_neg h0] at hb;injection hb
         . injection hb
 . rcases fV hb with ⟨k,l,hk0,hl,hbF⟩ | hb
   . clear hb;apply (fY I hl rx).el;intro n a hb' hc R0;obtain⟨kvs,D,hk,r,_,zz⟩:=R0;rw[eO hk0] at ry;apply Cy (oB ry);intro t g;obtain⟨d',hd',rfl⟩:=QL.mp hbF;rcases d3 hk r k with ⟨h1,h2⟩ | ⟨w,d,h1,h2,rw'⟩
     . rw[h2] at hd';injection hd'
     . rw[h2] at hd';(injection hd' with e0_;subst e0_);exact⟨"dict",_,D.typeIs,slot_dict_getitem.lookup,wpAny_getItem_of (strKind_is Z.prog Z.w k t) D.mapOf h1 (q w _ rw')⟩
   . injection hb
set_option tactic.hygienic true in
theorem dQ{slice:Expr}{E:Value->Shared->Prop}(h:ItemsOf Z A E v u Q s) :
   wpAny (model Z.prog Z.w) A (do standAt pos;let r <- subscripted slice (<- getitemInPython v) v u;letTemporaryGo value v r;pure r) Q E s:=by
 obtain⟨T,id,hT,hl,hw⟩:=h;refine Pe (Rb ?_);have hs:∃ ops,subscripted slice false v u=operate ops (getItem v u):=by
   cases slice
   case Slice _ _ st _=>cases st <;> exact⟨_,rfl⟩
   all_goals exact⟨_,rfl⟩
 obtain⟨ops,hs⟩:=hs;refine Pe ?_;rw[getitemInPython_of_ne hT.not_modules];refine Pe (wpAny_specialOf hT hl ?_);have fin:wpAny (model Z.prog Z.w) A (subscripted slice false v u) (λr aR=>wpAny (model Z.prog Z.w) A (letTemporaryGo value v r >>= λ_=>pure r) Q E aR) E s:=by exact hs▸(wpAny_operating (Qs hw (λr aR mX=>Pe (wpAny_letTemporaryGo (Ql mX))) λ_ _ x=>x))
 first
   | exact Ql (Pe fin)
   | exact Pe (Ql (Pe fin))
   | exact Pe fin
theorem gN(n:Nat)(i:Int):iI n i=clipAt n i:=rfl
theorem mJ(vs:Array Value)(lo hi:Option Int):(slicePick vs lo hi none).toList=au vs.toList lo hi:=by rw[slicePick_plain];unfold au;cases lo <;> cases hi <;> simp[gN]
theorem eP(l:List α)(lo hi:Option Int):(au l lo hi).length<=l.length:=
 ((S5 _ _).trans (Tv _ _)).length_le
theorem RelAll.slice{vs:List Value}(r:RelAll T h vs ds)(lo hi:Option Int):RelAll T h (au vs lo hi) (au ds lo hi):=by unfold au;exact r.length▸(r.drop _).take _
theorem wm(x:Str)(lo hi:Option Int):(Builtin.Str.strSliceIndices lo hi 1 x.length).filterMap (x.cps[·]?)=au (av x) lo hi:=by
 have e:Builtin.Str.strSliceIndices lo hi 1 x.length=sliceRange (((lo.elim 0 (clipAt x.length):Nat):Int)) (((hi.elim x.length (clipAt x.length):Nat):Int)) 1:=by unfold Builtin.Str.strSliceIndices;cases lo <;> cases hi <;> simp[clipAt_cast]
 rw[e,sliceRange_one,pick_run];unfold au av;cases lo <;> cases hi <;> simp[gN,Str.length]
theorem xY(n:Nat)(i:Int):(if i < 0 then max (i+n) 0 else min i n)=(clipAt n i:Int):=by
 rw[clipAt_cast n i];by_cases h:i < 0
 . rw[if_pos h,if_pos h,Tk (Rq (Int.add_le_add_right (SC h) n) (Int.le_of_eq (Ue _))),Int.max_comm]
 . rw[if_neg h,if_neg h,SO (Int.le_min.mpr ⟨R8.mp h,QT n⟩)]
theorem uh(lo hi:Option Int)(n:Nat):Builtin.Slice.sliceAdjust lo hi 1 (n:Int)=(((lo.elim 0 (clipAt n):Nat):Int),((hi.elim n (clipAt n):Nat):Int)):=by
 refine Prod.ext ?_ ?_
 . cases lo with
   | none=>rfl
   | some i=>exact xY n i
 . cases hi with
   | none=>rfl
   | some i=>exact xY n i
theorem uf(a b:Nat):Builtin.Slice.slicePlaces (a:Int) (b:Int) 1=b - a:=by
 unfold Builtin.Slice.slicePlaces;have h1:(1:Int) > 0:=by decide
 simp only[h1,if_true,Int.ediv_one];split <;> lia
theorem lO{prog:Program}{E:Value->Shared->Prop}{Q:Option Int->Shared->Prop}(hp:IsPart v p)(h:Q p s):wpAny (model prog w) A (Builtin.Slice.slicePartIndex v) Q E s:=by
 cases hp with
 | none=>exact Tl h
 | int i t=>exact PyProof.Rows.slicePart_int h
theorem Dv(items:Array Value)(lo hi:Option Int):((List.range (hi.elim items.size (clipAt items.size) - lo.elim 0 (clipAt items.size))).filterMap λ(k:Nat)=>items[(((lo.elim 0 (clipAt items.size):Nat):Int)+(k:Int) * 1).toNat]?).toArray=(au items.toList lo hi).toArray:=by
 have e:(λ(k:Nat)=>items[(((lo.elim 0 (clipAt items.size):Nat):Int)+(k:Int) * 1).toNat]?)=λk=>items[lo.elim 0 (clipAt items.size)+k]?:=by funext k;congr 1;rw[Int.mul_one];rfl
 refine e▸?_;have:=pick_run items (lo.elim 0 (clipAt items.size)) (hi.elim items.size (clipAt items.size) - lo.elim 0 (clipAt items.size));rw[List.filterMap_map] at this;have e2:((λx=>items[x]?) ∘ λx=>lo.elim 0 (clipAt items.size)+x)=λk=>items[lo.elim 0 (clipAt items.size)+k]?:=rfl;replace this:=e2▸this;rw[this];unfold au;cases lo <;> cases hi <;> simp[gN]
theorem BG(items:Array Value)(lo hi:Option Int)(hw:(((lo.elim 0 (clipAt items.size):Nat):Int)==0&&(1:Int)==1&&(hi.elim items.size (clipAt items.size) - lo.elim 0 (clipAt items.size))==items.size)=true):au items.toList lo hi=items.toList:=by
 simp only[Qw,beq_iff_eq] at hw;obtain⟨⟨h3,_⟩,h4⟩:=hw;have:∀ a b,a=0->b - a=items.size->(items.toList.drop a).take (b - a)=items.toList:=by intro a b ha hb;rw[hb];subst ha;simp[R6]
 unfold au;have q:=this (lo.elim 0 (clipAt items.size)) (hi.elim items.size (clipAt items.size)) (Int.ofNat.inj h3) h4;cases lo <;> cases hi <;> simpa[gN] using q
set_option tactic.hygienic true in
theorem kO{prog:Program}{E:Value->Shared->Prop}{t sl:Addr}{lo hi:Option Int}(ht:s.heap.get? t=some (oE items n))
   (hs:s.heap.IsSliceOf sl vl vu .none) (pl:IsPart vl lo) (pu:IsPart vu hi) (hsz:items.size<=sizeLine)
   (h1:au items.toList lo hi=items.toList->Q (.ref t) s) (h2:Q (.ref s.heap.objs.size) { s with heap:=s.heap.push { cls:=.type "tuple",data:=.seq (au items.toList lo hi).toArray } }) :
   wpAny (model prog w) A (getItem (.ref t) (.ref sl)) Q E s:=by
 have ht':PyProof.Rows.IsTup s.heap t items:=⟨_,ht,rfl,_,rfl⟩
 obtain⟨os,hos,hcs,hds⟩:=id hs;have hlen:=eP items.toList lo hi;have hdrop:sizeOk (.seq (au items.toList lo hi).toArray):=by show (au items.toList lo hi).toArray.size<=sizeLine;rw[List.size_toArray];simp at hlen;exact iv hlen hsz
 unfold getItem
 try with_reducible refine Rs ?_
 first | refine Pe (Ql ?_) | skip
 refine Pe (wpAny_sequenceKey ht'.typeIs (by decide) ?_);refine Pe (wpAny_callSpecial?_slot (name:=Str.ofString "__getitem__") ht'.typeIs S6
   (wpAny_call_entry S6 ht'.typeIs PyProof.Rows.entry_tuple_getitem ?_ (PyProof.Rows.args_tuple_getitem _ _)))
 show wpAny _ _ (Builtin.Tuple.tupleItemsOf (.ref t) >>= _) _ _ s;refine Pe (PyProof.Rows.tupleItemsOf_ ht' ?_);refine Pe (wpAny_typeOf (⟨os,hos,hcs⟩) ?_);rw[if_pos (by decide)];have app:∀ Q':Int×Int×Nat->Shared->Prop,Q' (((lo.elim 0 (clipAt items.size):Nat):Int),1,hi.elim items.size (clipAt items.size) - lo.elim 0 (clipAt items.size)) s->
     wpAny (model prog w) A.in1 (Builtin.Slice.sliceApplied (.ref sl) (pure (items.size:Int))) Q' E s:=by
   intro Q' hq;unfold Builtin.Slice.sliceApplied Builtin.Slice.sliceFields;refine Pe (Pe (wpAny_field hos hds (x:=vl) rfl (Pe (wpAny_field hos hds (x:=vu) rfl (Pe (wpAny_field hos hds (x:=.none) rfl (Ql ?_)))))));refine Pe (Tl ?_);refine(?_:wpAny _ _ (if ((1:Int)==0)=true then _ else _) _ _ s);rw[if_neg (by decide)];refine Pe (lO pl (Pe (lO pu (Pe (Ql ?_)))));show wpAny _ _ (match Builtin.Slice.sliceAdjust lo hi 1 (items.size:Int) with | (lo,hi)=>pure (lo,(1:Int),Builtin.Slice.slicePlaces lo hi 1)) _ _ s;rw[uh];show wpAny _ _ (pure (((lo.elim 0 (clipAt items.size):Nat):Int),(1:Int),Builtin.Slice.slicePlaces ((lo.elim 0 (clipAt items.size):Nat):Int) ((hi.elim items.size (clipAt items.size):Nat):Int) 1)) _ _ s;rw[uf];exact Ql hq
 refine Pe (app _ ?_);show wpAny _ _ (if ((((lo.elim 0 (clipAt items.size):Nat):Int)==0&&(1:Int)==1&&(hi.elim items.size (clipAt items.size) - lo.elim 0 (clipAt items.size))==items.size)=true) then _ else _) _ _ s;split
 . rename_i hw;have h1':=h1 (BG items lo hi hw);have ex:∀ Q':Bool->Shared->Prop,Q' true s->wpAny (model prog w) A.in1 (Builtin.Tuple.tupleIsExact (.ref t)) Q' E s:=by intro Q' hq;unfold Builtin.Tuple.tupleIsExact;exact Pe (wpAny_typeOf ht'.typeIs (Ql hq))
   first
     | exact Pe (ex _ (Pe (wpAny_rule (Ql ⟨_,rfl,Ql h1'⟩))))
     | exact Pe (ex _ (Pe (wpAny_rule (Pe (Ql (Ql ⟨_,rfl,Ql h1'⟩))))))
 . rw[Dv]
   first
     | exact Pe (m:=Builtin.Tuple.tupleExact _) (QX (Ql ⟨_,rfl,Ql h2⟩) hdrop)
     | exact Pe (m:=Builtin.Tuple.tupleExact _) (QX (Pe (Ql (Ql ⟨_,rfl,Ql h2⟩))) hdrop)
     | exact Pe (Pe (m:=Builtin.Tuple.tupleExact _) (QX (Ql (Ql ⟨_,rfl,Ql h2⟩)) hdrop))
     | exact Pe (Pe (m:=Builtin.Tuple.tupleExact _) (QX (Ql ⟨_,rfl,Ql h2⟩) hdrop))
variable {bs:List Bool}{ss:List Str}{xs:List V}{vs rest:List Value}{g:V->Res V}{f:Value}
section
variable {h:Heap}
def Mu(v:Value)(x:Option V)(β:List Addr)(σ:ac)(h:Heap):Prop:=match x with
 | none=>v=.none
 | some x=>aA β σ h v x
theorem kn{x:Option V}(r:Mu v x β σ h)(hp:cx x=some p):IsPart v p:=by
 cases x with
 | none=>(injection hp with e0_;subst e0_);subst r;exact .none
 | some x=>cases x with
   | d y=>cases y with
     | int i=>(injection hp with e0_;subst e0_);cases r;exact .int _ _
     | _=>injection hp
   | _=>injection hp
theorem ft(ha:h.objs.size<=a):h.get? a=none:=by
 cases q:h.get? a with
 | none=>rfl
 | some o=>exact absurd (Q8 q) (TY.mpr ha)
theorem ut{l:List α}{lo hi:Option Int}(hl:(au l lo hi).length=l.length):au l lo hi=l:=
 ((S5 _ _).trans (Tv _ _)).eq_of_length hl
theorem IO(n:Nat)(i:Int):clipAt n i<=n:=RX.mpr (Int.max_le.mpr ⟨QT n,Int.min_le_right _ _⟩)
theorem BM{x:Str}{l h:Option Int}{l' h':Option (Int×Tok)}(e1:l'.map (·.1)=l)(e2:h'.map (·.1)=h)(hlen:(slicePicked x l' h' none).length=x.length):ar (au (av x) l h)=x:=by
 have e:slicePicked x l' h' none=sliceRange (((l.elim 0 (clipAt x.length):Nat):Int)) (((h.elim x.length (clipAt x.length):Nat):Int)) 1:=by unfold slicePicked;rw[e1,e2];unfold Builtin.Str.strSliceIndices;cases (l) <;> cases (h) <;> simp[clipAt_cast]
 rw[e,sliceRange_one,PN,RU] at hlen;have c2:h.elim x.length (clipAt x.length)<=x.length:=by
   cases h with
   | none=>exact QP _
   | some i=>exact IO _ i
 have es:au (av x) l h=((av x).drop (l.elim 0 (clipAt x.length))).take (h.elim x.length (clipAt x.length) - l.elim 0 (clipAt x.length)):=by cases (l) <;> cases (h) <;> rfl
 rw[es,hlen,(Tv _ (av x)).eq_of_length_le (by rw[Rn];exact iv (Q4 hlen.symm) (Nat.sub_le_sub_right c2 _)),R6 (show (av x).length<=x.length from QP _)];rfl
noncomputable abbrev He (v vl vu:Value) (value slice:Expr) (pos:Pos):Sem Value:=newFields "slice" [vl,vu,.none] >>= λi=>(do standAt pos;let r <- subscripted slice (<- getitemInPython v) v i;letTemporaryGo value v r;pure r)
theorem Oq{slice:Expr}{l h:Option Int}(I:Inv Z β σ s.heap){x:List PyData}(rx:aA β σ s.heap v (.d (.tuple x)))(pl:IsPart vl l)(pu:IsPart vu h):Ev Z O A (He v vl vu value slice pos) (.ok (.d (.tuple (au x l h))) σ) VR β σ s:=by
 have hk:∀ b o,s.heap.get? b=some o->(s.heap.push { cls:=.type "slice",data:=.fields #[vl,vu,.none] }).get? b=some o:=λb o e=>Qm _ e;have sl:(s.heap.push { cls:=.type "slice",data:=.fields #[vl,vu,.none] }).IsSliceOf s.heap.objs.size vl vu .none:=Heap.IsSliceOf.new ..;cases rx with
 | tuple e t z r=>
   have hz:=r.length;simp at hz;refine Ev.grown I (Pe (QX (dQ ⟨"tuple",_,⟨_,hk _ _ e,rfl⟩,F.slot_tuple_getitem.lookup,kO (hk _ _ e) sl pl pu (by rw[hz];exact iv z bE) (λq=>?_) ?_⟩)))
   . refine⟨hk,rfl,rfl,?_⟩;rw[(ut (by rw[<- (r.slice l h).length,q,r.length]))];exact .tuple (hk _ _ e) t z (r.mono λx o _ _ e _ t=>⟨hk x o e,t⟩)
   . refine⟨λb o e=>Qm _ (hk b o e),rfl,rfl,?_⟩;refine .tuple (n:=0) (Qy _ rfl) (I.notTT ?_) (iv (eP x l h) z) ?_
     . exact ft (by rw[Ss];exact S7 _)
     . exact(r.slice l h).mono λx o _ _ e _ t=>⟨Qm _ (hk x o e),t⟩
set_option tactic.hygienic true in
theorem Oo{slice:Expr}{l h:Option Int}(I:Inv Z β σ s.heap){x:Str}(rx:aA β σ s.heap v (.d (.str x)))(pl:IsPart vl l)(pu:IsPart vu h):Ev Z O A (He v vl vu value slice pos) (.ok (.d (.str (ar (au (av x) l h)))) σ) VR β σ s:=by
 have hk:∀ b o,s.heap.get? b=some o->(s.heap.push { cls:=.type "slice",data:=.fields #[vl,vu,.none] }).get? b=some o:=λb o e=>Qm _ e;cases rx with
 | str _ tk g=>
   have good:cK (ar (au (av x) l h)):=f8 (λc hc=>g.cps c (by unfold au at hc;exact RE (QO hc))) (iv (eP _ _ _) g.len)
   have parts:X2 λl' h'=>A4 (vl=partValue l') (vu=partValue h') (l'.map (·.1)=l) (h'.map (·.1)=h):=by
     refine⟨match vl with | .int i t=>some (i,t) | _=>none,match vu with | .int i t=>some (i,t) | _=>none,?_,?_,?_,?_⟩
     . cases pl <;> rfl
     . cases pu <;> rfl
     . cases pl <;> rfl
     . cases pu <;> rfl
   obtain⟨l',h',rfl,rfl,e1,e2⟩:=parts;refine Ev.grown I (Pe (QX (dQ ⟨"str",_,typeIs_str _ x tk,F.slot_str_getitem.lookup,wpAny_getItem_str_slice (l:=l') (u:=h') (st:=none) ⟨_,Qy _ rfl,rfl,rfl⟩ rfl ?_⟩)));have HA:(slicePicked x l' h' none).filterMap (x.cps[·]?)=au (av x) l h:=by unfold slicePicked;rw[e1,e2];exact wm x l h
   unfold sliceMade;split
   . rename_i hw;refine⟨hk,rfl,rfl,?_⟩;have hx:ar (au (av x) l h)=x:=BM e1 e2 (by have:=(Qn.mp hw).2;simpa using this)
     rw[hx];exact .str _ _ g
   . refine⟨?_,hk,rfl,rfl,?_⟩
     . rw[HA];have:=good.2;exact iv this bE
     . rw[HA];exact .str _ _ good
theorem On{m:Bool}{slice:Expr}{l h:Option Int}(I:Inv Z β σ s.heap){xs:List PyData}(rx:aA β σ s.heap v x)(hxs:aE σ x=some xs)(pl:IsPart vl l)(pu:IsPart vu h):Ev Z O A (He v vl vu value slice pos) (aM m (au xs l h) σ) VR β σ s:=by
 have hk:∀ b o,s.heap.get? b=some o->(s.heap.push { cls:=.type "slice",data:=.fields #[vl,vu,.none] }).get? b=some o:=λb o e=>Qm _ e;have sl:(s.heap.push { cls:=.type "slice",data:=.fields #[vl,vu,.none] }).IsSliceOf s.heap.objs.size vl vu .none:=Heap.IsSliceOf.new ..;obtain⟨a,vs,n,rfl,e,r,z⟩:=bb I hxs rx;have hz:=r.length;simp at hz;refine dI I (iv (eP _ _ _) z) (Pe (QX (dQ ⟨"list",_,⟨_,hk _ _ e,rfl⟩,slot_list_getitem.lookup,
   wpAny_getItem_list_slice ⟨_,hk _ _ e,rfl,_,rfl⟩ sl pl pu .none (by simp) ?_ (by rw[hz];exact iv z bE)⟩)))
 refine⟨_,_,0,rfl,ft (by rw[Ss];exact S7 _),Qy _ rfl,λb o e=>Qm _ (hk b o e),rfl,rfl,?_⟩;rw[mJ];exact r.slice l h
theorem Hc{m:Bool}(h1:∀ l h y,cx lo=some l->cx hi=some h->x=.d (.tuple y)->Ev Z O A t (.ok (.d (.tuple (au y l h))) σ) VR β σ s)(h2:∀ l h y,cx lo=some l->cx hi=some h->x=.d (.str y)->Ev Z O A t (.ok (.d (.str (ar (au (av y) l h)))) σ) VR β σ s)
   (h3:∀ l h xs,cx lo=some l->cx hi=some h->aE σ x=some xs->Ev Z O A t (aM m (au xs l h) σ) VR β σ s):Ev Z O A t (eB m x lo hi σ) VR β σ s:=by
 unfold eB;rcases mx (cx lo) (cx hi) (λl h=>oc (ie x) (λx=>Res.ok (V.d (.tuple (au x l h))) σ) (oc (kM x) (λx=>.ok (.d (.str (ar (au (av x) l h)))) σ) (oc (aE σ x) (λx=>aM m (au x l h) σ) .bad))) .bad with ⟨l,h,hl,hh,e⟩ | e
 . rw[e];clear e;rcases dZ (ie x) (λx=>Res.ok (V.d (.tuple (au x l h))) σ) (oc (kM x) (λx=>.ok (.d (.str (ar (au (av x) l h)))) σ) (oc (aE σ x) (λx=>aM m (au x l h) σ) .bad)) with ⟨y,hy,e⟩ | e
   . rw[e];exact h1 l h y hl hh (dP hy)
   rw[e];clear e;rcases dZ (kM x) (λx=>Res.ok (V.d (.str (ar (au (av x) l h)))) σ) (oc (aE σ x) (λx=>aM m (au x l h) σ) .bad) with ⟨y,hy,e⟩ | e
   . rw[e];exact h2 l h y hl hh (eO hy)
   rw[e];clear e;rcases dZ (aE σ x) (λx=>aM m (au x l h) σ) .bad with ⟨y,hy,e⟩ | e
   . rw[e];exact h3 l h y hl hh hy
   . rw[e];exact Ev.bad
 . rw[e];exact Ev.bad
theorem yA{m:Bool}{slice:Expr}(I:Inv Z β σ s.heap)(rx:aA β σ s.heap v x)(rl:Mu vl lo β σ s.heap)(ru:Mu vu hi β σ s.heap) :
   Ev Z O A (He v vl vu value slice pos) (eB m x lo hi σ) VR β σ s:=
 Hc (λl h y hl hh e=>Oq I (e▸rx) (kn rl hl) (kn ru hh)) (λl h y hl hh e=>Oo I (e▸rx) (kn rl hl) (kn ru hh)) λl h xs hl hh hxs=>On I rx hxs (kn rl hl) (kn ru hh)
noncomputable def ue:Ty->String
 | .list=>"list"
 | .int=>"int"
 | .bool=>"bool"
 | .str=>"str"
 | .tuple=>"tuple"
theorem uQ{t:Ty}(I:Inv Z β σ s.heap)(r:aA β σ s.heap v x)(hb:Pj t σ x=some b){E:Value->Shared->Prop}(q:CW s Q (.bool b)) :
   wpAny (model Z.prog Z.w) A (call (.builtin "isinstance") [v,.type (ue t)]) Q E s:=by
 cases x with
 | un=>injection hb
 | locs l=>injection hb
 | exc _ _=>injection hb
 | inst _ _=>injection hb
 | loc n=>
   obtain⟨a,hb',rfl⟩:=r;cases t with
   | list=>obtain⟨l,hc,hb⟩:=QL.mp hb;obtain⟨vs,m,e,r,z⟩:=I.cell n a _ hb' (fj hc);subst hb;exact IsiPair.list_list e rfl (q s.toks)
   | _=>injection hb
 | d y=>
   cases r with
   | int i tk=>
     cases t with
     | int=>(injection hb with e0_;subst e0_);exact IsiPair.int_int (q s.toks)
     | bool=>(injection hb with e0_;subst e0_);exact IsiPair.int_bool (q _)
     | str=>(injection hb with e0_;subst e0_);exact IsiPair.int_str (q _)
     | tuple=>(injection hb with e0_;subst e0_);exact IsiPair.int_tuple (q _)
     | list=>injection hb
   | str x tk g=>
     cases t with
     | str=>(injection hb with e0_;subst e0_);exact IsiPair.str_str (q s.toks)
     | tuple=>(injection hb with e0_;subst e0_);exact IsiPair.str_tuple (q _)
     | _=>injection hb
   | none=>
     cases t with
     | str=>(injection hb with e0_;subst e0_);exact IsiPair.NoneType_str (q _)
     | tuple=>(injection hb with e0_;subst e0_);exact IsiPair.NoneType_tuple (q _)
     | _=>injection hb
   | tuple e ht z r=>
     cases t with
     | tuple=>(injection hb with e0_;subst e0_);exact IsiPair.tuple_tuple e rfl (q s.toks)
     | str=>(injection hb with e0_;subst e0_);exact IsiPair.tuple_str e rfl (q _)
     | _=>injection hb
   | bool i=>
     cases t with
     | bool=>(injection hb with e0_;subst e0_);exact IsiPair.bool_bool (q s.toks)
     | _=>injection hb
   | list e ht z r=>
     cases t with
     | list=>(injection hb with e0_;subst e0_);exact IsiPair.list_list e rfl (q s.toks)
     | _=>injection hb
theorem pP(r:RelAll T h vs l)(e:gU l=some ss):PyProof.Rows.StrsAre vs ss/\l=ss.map .str:=by
 induction l generalizing vs ss with
 | nil=>rw[r.inv0];(injection e with e0_;subst e0_);exact⟨.nil,rfl⟩
 | cons d l ih=>
   obtain⟨v,vs,rfl,z,rs⟩:=r.inv;clear r;cases z with
   | str x t g=>obtain⟨ss,e',rfl⟩:=QL.mp (e:(gU l).map (x::·)=some ss);exact⟨.cons x t (ih rs e').1,congrArg (List.cons (PyData.str x)) (ih rs e').2⟩
   | _=>injection e
theorem j5(r:RelAll T h vs l)(e:eg l=some bs):vs=bs.map .bool/\l=bs.map .bool:=by
 induction l generalizing vs bs with
 | nil=>rw[r.inv0];(injection e with e0_;subst e0_);exact⟨rfl,rfl⟩
 | cons d l ih=>
   obtain⟨v,vs,rfl,z,rs⟩:=r.inv;clear r;cases z with
   | bool x=>obtain⟨ss,e',rfl⟩:=QL.mp (e:(eg l).map (x::·)=some bs);exact⟨congrArg (List.cons (Value.bool x)) (ih rs e').1,congrArg (List.cons (PyData.bool x)) (ih rs e').2⟩
   | _=>injection e
theorem DE(x y:Str):PySem.Spec.ltCps x.cps.toList y.cps.toList=jr x y:=by rw[PyProof.Rows.ltCps_eq];rfl
theorem lM{x y:Str}(h:av x=av y):x=y:=by obtain⟨a⟩:=x;obtain⟨b⟩:=y;simp[av] at h;simp[h]
theorem nY(x y:Str)(r:List Str):fJ x (y::r)=if jr y x then y::fJ x r else x::y::r:=rfl
theorem jU(x:Str):∀ l:List Str,(fJ x l).Perm (x::l)
 | []=>.refl _
 | y::r=>by
   rw[nY];split
   . exact((jU x r).cons y).trans (.swap ..)
   . exact .refl _
theorem cu:∀ l:List Str,(bW l).Perm l
 | []=>.refl _
 | x::r=>(jU x _).trans ((cu r).cons x)
def y0(x y:Str):Prop:=jr y x=false
theorem tC{x y z:Str}(h1:y0 x y)(h2:y0 y z):y0 x z:=by unfold y0 jr at *;simp only[decide_eq_false_iff_not,T8] at *;exact List.le_trans h1 h2
set_option tactic.hygienic true in
theorem k7(x:Str):∀ l:List Str,l.Pairwise y0->(fJ x l).Pairwise y0
 | []=>@λ_=>SY _ _
 | y::r=>@λhp=>by
   obtain⟨h1,h2⟩:=Rx.mp hp;rw[nY];split
   . rename_i hlt;refine Rx.mpr ⟨λz hz=>?_,k7 x r h2⟩;rcases Qq.mp ((jU x r).mem_iff.mp hz) with rfl | hz
     . unfold y0 jr at *;simp only[decide_eq_true_iff,decide_eq_false_iff_not] at *;exact List.lt_asymm hlt
     . exact h1 z hz
   . rename_i hlt;have hxy:y0 x y:=by unfold y0;simpa using hlt
     refine Rx.mpr ⟨λz hz=>?_,hp⟩;rcases Qq.mp hz with rfl | hz
     . exact hxy
     . exact tC hxy (h1 z hz)
theorem jF:∀ l:List Str,(bW l).Pairwise y0
 | []=>.nil
 | x::r=>k7 x _ (jF r)
theorem ik:∀ (p:Str) (l:List Str),PyProof.Rows.risingS p l=true->(p::l).Pairwise y0
 | p,[]=>@λ_=>by simp
 | p,x::r=>@λhh=>by
   simp only[PyProof.Rows.risingS,Qw,Rg] at hh;have ih:=ik x r hh.2;have hpx:y0 p x:=by unfold y0;rw[<- DE];exact hh.1
   refine Rx.mpr ⟨λz hz=>?_,ih⟩;rcases Qq.mp hz with rfl | hz
   . exact hpx
   . exact tC hpx ((Rx.mp ih).1 z hz)
theorem gV{l l':List Str}(hp:l'.Perm l)(hs:PyProof.Rows.sortedS l'=true):l'=bW l:=by
 have h1:l'.Pairwise y0:=by
   cases l' with
   | nil=>exact .nil
   | cons x r=>exact ik x r hs
 refine List.Perm.eq_of_pairwise (λa b _ _ h1 h2=>?_) h1 (jF l) (hp.trans (cu l).symm);unfold y0 jr at *;simp only[decide_eq_false_iff_not,T8] at *;exact lM (List.le_antisymm h1 h2)
theorem qc(r:PyProof.Rows.StrsAre vs ss)(hg:∀ x∈ss,cK x):RelAll T h vs (ss.map .str):=by
 induction r with
 | nil=>exact .nil
 | cons x t r ih=>exact .cons (.str x t (hg x (Qh ..))) (ih λy hy=>hg y (Qj _ hy))
theorem tJ(r:RelAll T h vs (ss.map .str)):∀ x∈ss,cK x:=by
 induction ss generalizing vs with
 | nil=>exact λx hx=>absurd hx Re
 | cons y ss ih=>
   obtain⟨v,vs,rfl,z,rs⟩:=r.inv;clear r;cases z with
   | str _ _ g=>exact λx hx=>(Qq.mp hx).elim (λe=>e▸g) (ih rs x)
theorem t9:∀ bs:List Bool,(List.range bs.length).all (λi=>(bs[i]?).getD true)=bs.all id
 | []=>rfl
 | b::bs=>by rw[QF,List.range_succ_eq_map,T9,List.all_map,T9,<- t9 bs];rfl
noncomputable def t0:Bi->Value
 | .len=>.builtin "len"
 | .list=>.type "list"
 | .dict=>.type "dict"
 | .int=>.type "int"
 | .max=>.builtin "max"
 | .tuple=>.type "tuple"
 | .sorted=>.builtin "sorted"
 | .sortedSet=>.none
 | .any=>.builtin "any"
 | .all=>.builtin "all"
 | .isinst _=>.builtin "isinstance"
noncomputable def vB:Bi->List Value
 | .isinst t=>[.type (ue t)]
 | _=>[]
theorem pQ:∀ {vs:List Value} {ss:List Str},vs.length=ss.length->(∀ (j:Nat) (v:Value),vs[j]?=some v->X2 λk t=>ss[j]?=some k/\v=.str k t)->PyProof.Rows.StrsAre vs ss
 | [],[]=>@λ_ _=>.nil
 | [],_::_=>@λhl _=>by simp at hl
 | _::_,[]=>@λhl _=>by simp at hl
 | v::vs,k::ss=>@λhl hv=>by obtain⟨k',t,h1,rfl⟩:=hv 0 v rfl;simp at h1;subst h1;exact .cons k t (pQ (by simpa using hl) λj v hj=>hv (j+1) v hj)
theorem Ha{vs:Array Value}(hl:vs.size=kvs.length)(hv:∀ (j:Nat) (v:Value),vs[j]?=some v->X2 λk t=>(kvs.map (·.1))[j]?=some k/\v=.str k t):PyProof.Rows.StrsAre vs.toList (kvs.map (·.1)):=
 pQ (by simpa using hl) λj v hj=>hv j v (by simpa using hj)
theorem rC{kvs:List (Str×Value)}{E:Value->Shared->Prop}(hh:A.handled=none)(ne:(a==sysModules)=false)(D:s.heap.DictOf (strKind Z.prog Z.w) a kvs)(hz:kvs.length<=sizeLine)
   (q:∀ h' tk (vs:Array Value) n,(∀ b o,s.heap.get? b=some o->h'.get? b=some o)->h'.get? s.heap.objs.size=some (dq vs n)->PyProof.Rows.StrsAre vs.toList (kvs.map (·.1))->Q (.ref s.heap.objs.size) { s with heap:=h',toks:=tk }) :
   wpAny (model Z.prog Z.w) A (call (.type "list") [.ref a]) Q E s:=by
 obtain⟨ep,D'⟩:=D.dictAt;refine PySem.W.kdl_call (PySem.W.kdl_dict (knd:=strKind Z.prog Z.w) (kvs:=kvs) (ep:=ep) ne) hh D' hz λh' tk acc c hk e hi=>q h' tk acc c hk e ?_;refine Ha hi.1 λj v hj=>?_;obtain⟨k,x,h1,h2⟩:=hi.2 j v hj;obtain⟨t,rfl⟩:=Value.isStrOf_shape h2;exact⟨k,t,by rw[Q0,h1];rfl,rfl⟩
theorem kq(rx:VRels β σ h vs xs)(e:one xs=some x):∃ v,vs=[v]/\aA β σ h v x:=by
 have e:=de e;subst e;cases rx with
 | cons r rs=>cases rs;exact⟨_,rfl,r⟩
theorem G5(rx:VRels β σ h vs xs)(e:two xs=some (x,y)):X2 λv u=>A3 (vs=[v,u]) (aA β σ h v x) (aA β σ h u y):=by
 have e:=iM e;subst e;cases rx with
 | cons r rs=>cases rs with
   | cons r' rs=>cases rs;exact⟨_,_,rfl,r,r'⟩
theorem Du{P:List Value->Prop}(rx:VRels β σ h vs xs)(e:two xs=some (x,y))(k:∀ v u,aA β σ h v x->aA β σ h u y->P [v,u]):P vs:=by obtain⟨v,u,e,r,r'⟩:=G5 rx e;exact e▸k v u r r'
theorem eC(rx:VRels β σ s.heap vs xs)(h1:∀ v x,aA β σ s.heap v x->Ev Z O A (call f (v::rest)) (g x) VR β σ s):Ev Z O A (call f (vs++rest)) (oc (one xs) g .bad) VR β σ s:=
 aL (λa e=>by apply Cy (kq rx e);intro v r;exact h1 v a r) Ev.bad
theorem Cf (I:Inv Z β σ s.heap) (r:aA β σ s.heap v x):Ev Z O A (call (.builtin "len") [v]) (oc (ie x) (λl=>.ok (.d (.int l.length)) σ) (oc (kM x) (λx=>.ok (.d (.int (av x).length)) σ) (oc (aE σ x) (λl=>.ok (.d (.int l.length)) σ) .bad))) VR β σ s:=by
 refine aL (λl e=>?_) (aL (λx' e=>?_) (aL (λl hl=>?_) Ev.bad))
 . have e:=dP e;subst e;apply (pF r).el;intro a vs n e t z rr;have hz:=rr.length;simp only[QA] at hz;refine hz▸?_;exact bR I (P.len_tuple e (by have:=kc z;rw[hz];lia) ⟨⟨_,_,rfl⟩,.int _ _⟩)
 . have e:=eO e;subst e;obtain⟨t,rfl,g⟩:=oB r;have hlen:(av x').length=x'.length:=by simp[av,Str.length]
   rw[hlen];exact bR I (P.len_str (by have:=kc g.len;rw[hlen] at this;lia) ⟨⟨_,_,rfl⟩,.int _ _⟩)
 . obtain⟨a,ws,n,rfl,e,q,z⟩:=bb I hl r;have hz:=q.length;simp only[QA] at hz;rw[<- hz];exact bR I (call_len_list ⟨_,e,rfl,_,rfl⟩ (by rw[hz];exact kc z) ⟨⟨_,_,rfl⟩,.int _ _⟩)
theorem yZ {m:Bool} (Y:vR Z) (I:Inv Z β σ s.heap) (hh:A.handled=none) (r:aA β σ s.heap v x):Ev Z O A (call (.type "list") [v]) (oc (ie x) (λl=>aM m l σ) (oc (aE σ x) (λl=>aM m l σ) (oc (fu σ x) (λkvs=>aM m (kvs.map λx=>.str x.1) σ) .bad))) VR β σ s:=by
 refine aL (λl e=>?_) (aL (λl hl=>?_) (aL (λkvs' hd=>?_) Ev.bad))
 . have e:=dP e;subst e;apply (pF r).el;intro a vs n e t z rr;have hz:=rr.length;simp only[QA] at hz;exact dI I z (call_list_seq _ (.inr rfl) e rfl rfl (λh' c hk e'=>⟨_,_,_,rfl,aU _,e',hk,rfl,rfl,rr⟩) (by rw[hz];exact iv z bE))
 . obtain⟨a,ws,n,rfl,e,q,z⟩:=bb I hl r;have hz:=q.length;simp only[QA] at hz;exact dI I z (call_list_seq _ (.inl rfl) e rfl rfl (λh' c hk e'=>⟨_,_,_,rfl,aU _,e',hk,rfl,rfl,q⟩) (by rw[hz];exact iv z bE))
 . obtain⟨n,a,rfl,hb,hc,rfl,kvs,D,hk,q,hg,z⟩:=fY I hd r;have hz:kvs.length=kvs'.length:=by have:=congrArg List.length hk;simpa using this
   refine dI I (by rw[PN];exact z) (rC hh (Y.ne I (Qp hb)) D (by rw[hz];exact iv z bE) λh' tk vs n hk' e S=>⟨_,_,_,rfl,aU _,e,hk',rfl,rfl,?_⟩);rw[hk] at S;have:=qc (T:=TT β σ) (h:=s.heap) S hg;rw[Rj] at this;exact this
theorem wf (I:Inv Z β σ s.heap) (r:aA β σ s.heap v x):Ev Z O A (call (.type "tuple") [v]) (oc (aE σ x) (λl=>.ok (.d (.tuple l)) σ) .bad) VR β σ s:=by
 refine aL (λl hl=>?_) Ev.bad;obtain⟨a,ws,n,rfl,e,q,z⟩:=bb I hl r;have hz:=q.length;simp only[QA] at hz;refine rc I z (call_tuple_list ⟨_,e,rfl,_,rfl⟩ (λh' hk=>⟨_,_,_,rfl,?_,Qy _ rfl,λb o e=>Qm _ (hk b o e),rfl,rfl,q⟩) (by exact hz▸iv z bE));cases w:s.heap.get? h'.objs.size with
 | none=>rfl
 | some o=>exact absurd (Q8 (hk _ _ w)) (Sl _)
theorem ur {m:Bool} (I:Inv Z β σ s.heap) (r:aA β σ s.heap v x):Ev Z O A (call (.builtin "sorted") [v]) (oc ((aE σ x).bind gU) (λl=>if l.length < 64 then aM m ((bW l).map .str) σ else .bad) .bad) VR β σ s:=by
 refine aL (λss hl=>bY λh64=>?_) Ev.bad;obtain⟨l,hl,hs⟩:=Qo.mp hl;apply (bb I hl r).el;intro a ws n e q z;obtain⟨S,rfl⟩:=pP q hs;have hlen:ws.toList.length=ss.length:=by have:=q.length;rw[PN] at this;exact this
 refine dI I (by have:=(cu ss).length_eq;simp[this,LIM];lia) (PyProof.Rows.sorted_strs (vs:=ws.toList) ⟨_,e,rfl,_,rfl⟩ S (by lia) λout ss' S' hp hs'=>?_);have:=gV hp hs';subst this;obtain⟨e',he'⟩:=PyProof.Rows.sortedAll_at s.heap ws.toList out;exact⟨_,out,e',rfl,ft (by lia),he',λb o e=>PyProof.Rows.sortedAll_old e,rfl,rfl,qc S' λx hx=>tJ q x ((cu ss).mem_iff.mp hx)⟩
theorem CV (I:Inv Z β σ s.heap) (hh:A.handled=none) (r:aA β σ s.heap v x):Ev Z O A (call (.builtin "all") [v]) (oc ((aE σ x).bind eg) (λl=>.ok (.d (.bool (l.all id))) σ) .bad) VR β σ s:=by
 refine aL (λbs hl=>?_) Ev.bad;obtain⟨l,hl,hs⟩:=Qo.mp hl;obtain⟨a,ws,n,rfl,e,q,z⟩:=bb I hl r;obtain⟨hw,rfl⟩:=j5 q hs;have hws:ws=(bs.map Value.bool).toArray:=by rw[<- hw]
 refine Ev.grown I (call_all_walk (wpAny_pyIter_list ⟨_,e,rfl,_,rfl⟩ ?_));refine⟨_,_,_,_,_,_,λi=>(bs[i]?).getD true,rfl,Walks.list (A:=A.in1) hh s.heap.objs.size a (Rd (Q8 e)) ws,⟨⟨_,Qy _ rfl,rfl,rfl⟩,⟨_,Qm _ e,rfl,_,rfl⟩⟩,?_,λh' tk hk=>⟨?_,rfl,rfl,?_⟩⟩
 . intro i v s' Q' E' hv hq;rw[hws] at hv;simp only[List.getElem?_toArray,Q0,QL] at hv;obtain⟨b,hb,rfl⟩:=hv;have hq':Q' ((bs[i]?).getD true) s':=hq;rw[hb] at hq';exact wpAny_truthy_bool hq'
 . intro b o eb;exact hk b o (by simp;exact Rd (Q8 eb)) (Qm _ eb)
 . have:(List.range ws.size).all (λi=>(bs[i]?).getD true)=bs.all id:=by rw[hws];simp only[List.size_toArray,PN];exact t9 bs
   exact this▸.bool _
theorem CT{b:Bi}{m:Bool}(Y:vR Z)(I:Inv Z β σ s.heap)(hh:A.handled=none)(hu:A.units+200 < cLine)(rx:VRels β σ s.heap vs xs)(hb:b≠.sortedSet) :
   Ev Z O A (call (t0 b) (vs++vB b)) (yn b m xs σ) VR β σ s:=by
 cases b with
 | len=>exact eC rx λv x r=>Cf I r
 | list=>exact eC rx λv x r=>yZ Y I hh r
 | dict=>exact Ev.bad
 | int=>refine eC rx λv x r=>aL (λb e=>?_) Ev.bad;have e:=rL e;subst e;apply Bg (Dn r);exact bR I (call_int_bool ⟨⟨_,_,rfl⟩,.int _ _⟩)
 | max=>refine aL (λp e=>cp (λx y hx hy=>?_) Ev.bad) Ev.bad;apply Du rx e;intro v u r r';rw[cO hx] at r;rw[cO hy] at r';apply iG (pG r);intro t;apply iG (pG r');intro t';refine Ev.grown I (max_two_ints hh λh' tk hk=>⟨hk,rfl,rfl,?_⟩);split <;> exact .int _ _
 | tuple=>exact eC rx λv x r=>wf I r
 | sorted=>exact eC rx λv x r=>ur I r
 | any=>exact Ev.bad
 | isinst t=>exact eC rx λv x r=>aL (λb hb=>IC I (uQ I r hb λtk=>⟨⟨_,_,rfl⟩,rfl⟩)) Ev.bad
 | sortedSet=>exact absurd rfl hb
 | all=>exact eC rx λv x r=>CV I hh r
end
noncomputable def Nn:Me->String
 | .get=>"dict.get"
 | .append=>"list.append"
 | .extend=>"list.extend"
 | .update=>"dict.update"
 | .pop=>"dict.pop"
 | .count=>"list.count"
 | .index=>"list.index"
 | .nop _=>""
noncomputable def uL:Me->Str
 | .get=>"get"
 | .append=>"append"
 | .extend=>"extend"
 | .update=>"update"
 | .pop=>"pop"
 | .count=>"count"
 | .index=>"index"
 | .nop _=>""
noncomputable def Me.done:Me->Bool
 | .get | .append | .extend | .update=>true
 | .count | .index=>true
 | .pop=>true
 | _=>false
variable {h:Heap}{l:List (Str×PyData)}{es:List DictEntry}{x k:Str}{Q:Unit->Shared->Prop}{e:Value->Bool}
theorem Cm{prog:Program}{E:Value->Shared->Prop}{Q:Int->Shared->Prop}(h:Q 0xFCA86420 { s with toks:=s.toks+1 }) :
   wpAny (model prog w) A (pyHash .none) Q E s:=by
 unfold pyHash;refine Pe ?_;refine Ql ?_;refine Pe (wpAny_specialOf (T:="NoneType") rfl F.slot_NoneType_hash.lookup ?_);refine Pe (wpAny_specialOf (T:="NoneType") rfl F.slot_NoneType_hash.lookup ?_);refine Pe (wpAny_callSpecialIfBoundUnlessNone?_slot (T:="NoneType") rfl F.slot_NoneType_hash
   (wpAny_call_entry F.slot_NoneType_hash (T:="NoneType") rfl F.entry_NoneType_hash
     (wpAny_ret_mkInt ?_:wpAny _ _ (do ret (<- mkInt 0xFCA86420)) _ _ s) (F.args_NoneType_hash_1 _)))
 exact Ql h
noncomputable def Jt(k:Option Str)(v:Value):Bool:=k.elim (v==.none) λk=>Value.isStrOf k v
theorem cW(h:Jt none v=true):v=.none:=eq_of_beq h
noncomputable def uJ(prog:Program)(w:World):KeyKind prog w (Option Str) where
 is:=Jt
 hash:=λk=>k.elim 0xFCA86420 (hashStr w)
 inj:=λv a b ha hb=>by
   cases a with
   | none=>
     cases cW ha
     cases b with
     | none=>rfl
     | some b=>injection hb
   | some a=>
     cases b with
     | none=>cases cW hb;injection ha
     | some b=>rw[Value.isStrOf_inj v a b ha hb]
 byValue:=λk v h=>by
   cases k with
   | none=>cases cW h;rfl
   | some k=>exact(strKind prog w).byValue k v h
 pyHash:=λ{A E s k v Q} hv h=>by
   cases k with
   | none=>cases cW hv;exact Cm h
   | some k=>exact(strKind prog w).pyHash (k:=k) hv h
 eqBool:=λ{A E s a b u v Q} hu hv h=>by
   cases a with
   | none=>
     cases cW hu
     cases b with
     | none=>cases cW hv;exact SeqAt.EqAt.same .none prog w E Q h
     | some b=>obtain⟨t,rfl⟩:=Value.isStrOf_shape hv;exact SeqAt.EqAt.none_str b t prog w E Q h
   | some a=>
     cases b with
     | none=>cases cW hv;obtain⟨t,rfl⟩:=Value.isStrOf_shape hu;exact SeqAt.EqAt.str_none a t prog w E Q h
     | some b=>exact(strKind prog w).eqBool (a:=a) (b:=b) hu hv (by simpa using h)
 «strs»:=λk x t v h=>by
   cases k with
   | none=>cases cW h
   | some k=>exact(strKind prog w).«strs» k x t v h
theorem Cc{prog:Program}(p:Pairs (strKind prog w) es kvs):Pairs (uJ prog w) es (kvs.map λx=>(some x.1,x.2)):=by
 induction p with
 | nil=>exact .nil
 | cons a b _ ih=>exact .cons a b ih
theorem EC{prog:Program}(D:h.DictOf (strKind prog w) a kvs):h.DictOf (uJ prog w) a (kvs.map λx=>(some x.1,x.2)):=by
 obtain⟨o,es,ep,e,hx,hd,hk,hp,hn⟩:=D;refine⟨o,es,ep,e,hx,hd,λx hx=>?_,Cc hp,?_⟩
 . obtain⟨k,h1,h2⟩:=hk x hx;exact⟨some k,h1,h2⟩
 . rw[Rj,show ((λx:Option Str×Value=>x.1) ∘ λx:Str×Value=>(some x.1,x.2))=some ∘ (λx:Str×Value=>x.1) from rfl,<- Rj];exact List.Pairwise.map some (λa b c e=>c (Option.some.inj e)) hn
theorem K8(kvs:List (Str×Value)):valueAt (kvs.map λx=>(some x.1,x.2)) none=none:=by
 unfold valueAt;rw[List.find?_eq_none.mpr λx hx=>?_]
 . rfl
 . obtain⟨y,_,rfl⟩:=QV.mp hx;exact nofun
theorem mw(a b:Bool):(Value.bool a==Value.bool b)=(a==b):=by cases a <;> cases b <;> decide
theorem x9{l:List Bool}(hw:ws.toList=l.map Value.bool){y:Value}(hy:y∈ws):∃ b,y=.bool b:=by have:=Array.mem_toList_iff.mpr hy;rw[hw,QV] at this;obtain⟨b,_,rfl⟩:=this;exact⟨b,rfl⟩
theorem xU{x:Bool}(l:List Bool):(l.map Value.bool).countP (λv=>v==.bool x)=l.count x:=by rw[List.countP_map,List.count_eq_countP];refine List.countP_congr λb _=>?_;refine(?_:(Value.bool b==Value.bool x)=true↔_);rw[mw]
theorem yV{b:Me}{o:V}{pl:Sem Bool}{Q:Value×List Value->Shared->Prop}{E:Value->Shared->Prop}(hd:b.done=true)(I:Inv Z β σ s.heap)(ro:aA β σ s.heap v o)(hm:sk b σ o=true)
   (q:Q (.builtin (Nn b),[v]) s):wpAny (model Z.prog Z.w) A (getMethod v (uL b) pl) Q E s:=by
 have dc:(fu σ o).isSome=true->X2 λa ob=>A4 (v=.ref a) (s.heap.get? a=some ob) (ob.cls=.type "dict") (ob.dict=none):=λhm=>by obtain⟨l,hl⟩:=QZ.mp hm;apply (fY I hl ro).el;intro n a hb hc R0;obtain⟨kvs,⟨ob,es,ep,e,hx,_⟩,_⟩:=R0;exact⟨a,ob,rfl,e,hx.1,hx.2.1⟩
 have lc:(aE σ o).isSome=true->X2 λa ob=>A4 (v=.ref a) (s.heap.get? a=some ob) (ob.cls=.type "list") (ob.dict=none):=λhm=>by obtain⟨l,hl⟩:=QZ.mp hm;apply (bb I hl ro).el;intro a ws n e _ _;exact⟨a,_,rfl,e,rfl,rfl⟩
 cases b <;> try injection hd
 . obtain⟨a,ob,rfl,e,h1,h2⟩:=dc hm;exact getMethod_builtin ⟨ob,e,h1⟩ F.plainAttrs_dict F.slot_dict_get F.type_dict_get (λa' h=>by (injection h with e0_;subst e0_);exact⟨ob,e,h2⟩) q
 . obtain⟨a,ob,rfl,e,h1,h2⟩:=lc hm;exact getMethod_builtin ⟨ob,e,h1⟩ F.plainAttrs_list F.slot_list_append F.type_list_append (λa' h=>by (injection h with e0_;subst e0_);exact⟨ob,e,h2⟩) q
 . obtain⟨a,ob,rfl,e,h1,h2⟩:=lc hm;exact getMethod_builtin ⟨ob,e,h1⟩ F.plainAttrs_list F.slot_list_extend F.type_list_extend (λa' h=>by (injection h with e0_;subst e0_);exact⟨ob,e,h2⟩) q
 . obtain⟨a,ob,rfl,e,h1,h2⟩:=dc hm;exact getMethod_builtin ⟨ob,e,h1⟩ F.plainAttrs_dict F.slot_dict_update F.type_dict_update (λa' h=>by (injection h with e0_;subst e0_);exact⟨ob,e,h2⟩) q
 . obtain⟨a,ob,rfl,e,h1,h2⟩:=dc hm;exact getMethod_builtin ⟨ob,e,h1⟩ F.plainAttrs_dict F.slot_dict_pop F.type_dict_pop (λa' h=>by (injection h with e0_;subst e0_);exact⟨ob,e,h2⟩) q
 . obtain⟨a,ob,rfl,e,h1,h2⟩:=lc hm;exact getMethod_builtin ⟨ob,e,h1⟩ F.plainAttrs_list F.slot_list_count F.type_list_count (λa' h=>by (injection h with e0_;subst e0_);exact⟨ob,e,h2⟩) q
 . obtain⟨a,ob,rfl,e,h1,h2⟩:=lc hm;exact getMethod_builtin ⟨ob,e,h1⟩ F.plainAttrs_list F.slot_list_index F.type_list_index (λa' h=>by (injection h with e0_;subst e0_);exact⟨ob,e,h2⟩) q
theorem yW(rv:Rel T h v d)(hk:kvs.map (·.1)=l.map (·.1))(r:RelAll T h (kvs.map (·.2)) (l.map (·.2))) :
   (kvs.map λx=>if x.1=k then (x.1,v) else x).map (·.1)=(l.map λx=>if x.1=k then (x.1,d) else x).map (·.1)/\RelAll T h ((kvs.map λx=>if x.1=k then (x.1,v) else x).map (·.2)) ((l.map λx=>if x.1=k then (x.1,d) else x).map (·.2)):=by
 induction kvs generalizing l with
 | nil=>
   cases l with
   | nil=>exact⟨rfl,.nil⟩
   | cons _ _=>injection hk
 | cons a kvs ih_=>
   cases l with
   | nil=>injection hk
   | cons b l=>
     injection hk with e1 e2;have e1:a.1=b.1:=e1;cases r with
     | cons r rs=>
       have ih:=ih_ e2 rs;rw[Q6,Q6,Q6,Q6,Q6,Q6,e1];by_cases q:b.1=k
       . rw[if_pos q,if_pos q];exact⟨congrArg (List.cons b.1) ih.1,.cons rv ih.2⟩
       . rw[if_neg q,if_neg q,e1];exact⟨congrArg (List.cons b.1) ih.1,.cons r ih.2⟩
theorem pT(hk:kvs.map (·.1)=l.map (·.1))(r:RelAll T h (kvs.map (·.2)) (l.map (·.2)))(rv:Rel T h v d) :
   (stored kvs k v).map (·.1)=(ek k d l).map (·.1)/\RelAll T h ((stored kvs k v).map (·.2)) ((ek k d l).map (·.2)):=by
 have ha:kvs.any (λkv=>decide (kv.1=k))=l.any (λx=>decide (x.1=k)):=by
   have:∀ {α:Type} (l:List (Str×α)),l.any (λkv=>decide (kv.1=k))=(l.map (·.1)).any (λx=>decide (x=k)):=λl=>by rw[List.any_map];rfl
   rw[this,this,hk]
 unfold stored ek;rw[ha];split
 . exact yW rv hk r
 . refine⟨by simp[hk],?_⟩;simp only[Qv,Q6,R2];exact r.append (.one rv)
theorem qp:∀ {more:List (Str×Value)} {m:List (Str×PyData)} {kvs:List (Str×Value)} {l:List (Str×PyData)},more.map (·.1)=m.map (·.1)->RelAll T h (more.map (·.2)) (m.map (·.2))->kvs.map (·.1)=l.map (·.1)->RelAll T h (kvs.map (·.2)) (l.map (·.2))->
   (merged kvs more).map (·.1)=(dX l m).map (·.1)/\RelAll T h ((merged kvs more).map (·.2)) ((dX l m).map (·.2))
 | [],[],_,_,_,_=>@λhk r=>⟨hk,r⟩
 | [],_::_,_,_,hk,_=>@λ_ _=>by simp at hk
 | _::_,[],_,_,hk,_=>@λ_ _=>by simp at hk
 | a::more,b::m,kvs,l,hm,.cons r' rs=>@λhk r=>by simp only[Q6,List.cons.injEq] at hm;have h1:=pT (k:=a.1) hk r r';have:=qp hm.2 rs h1.1 h1.2;unfold merged dX at *;simp only[TK];exact hm.1▸this
theorem tm(hx:x∈(ek k d l).map (·.1)):x=k\/x∈l.map (·.1):=by
 unfold ek at hx;split at hx
 . have:((l.map λx=>if x.1=k then (x.1,d) else x).map (·.1))=l.map (·.1):=by rw[Rj];refine Sk λy _=>?_;simp only[Function.comp];split <;> rfl
   rw[this] at hx;exact .inr hx
 . simp only[Qv,Qx,Q6,R2,Qt] at hx;exact hx.symm
theorem nE(k:Str)(d:PyData)(l:List (Str×PyData)):(ek k d l).length<=l.length+1:=by unfold ek;split <;> simp
theorem nB:∀ {m l:List (Str×PyData)} {x:Str},x∈(dX l m).map (·.1)->x∈m.map (·.1)\/x∈l.map (·.1)
 | [],l,x,hx=>.inr hx
 | b::m,l,x,hx=>by
   rcases nB (m:=m) (l:=ek b.1 b.2 l) hx with h1 | h1
   . exact .inl (Qj _ h1)
   . rcases tm h1 with rfl | h2
     . exact .inl (Qh ..)
     . exact .inr h2
theorem kT:∀ (m l:List (Str×PyData)),(dX l m).length<=l.length+m.length
 | []=>@λl=>QP _
 | b::m=>@λl=>by have h1:=kT m (ek b.1 b.2 l);have h2:=nE b.1 b.2 l;have:dX l (b::m)=dX (ek b.1 b.2 l) m:=rfl;rw[this];simp only[QF];lia
theorem lz(k:Str)(t:Tok):(strKind Z.prog Z.w).is k (.str k t)=true:=by show Value.isStrOf k (.str k t)=true;simp[Value.isStrOf]
theorem jB{vs:Array Value}{f:Array Value->Array Value}(e:h.get? a=some (dq vs n)) :
   (∃ m,(h.update a (Obj.mapSeq f)).get? a=some (dq (f vs) m))/\∀ x o,x≠a->h.get? x=some o->(h.update a (Obj.mapSeq f)).get? x=some o:=
 ⟨⟨_,IsL.update e f⟩,λx o hx e'=>(RG h _ (Ne.symm hx)).trans e'⟩
theorem yT(Y:vR Z)(I:Inv Z β σ h)(hb:β[n]?=some a):(a==sysModules)=false:=Y.ne I (Qp hb)
theorem Dl(r:aA β σ h v (.loc n)):∃ a,β[n]?=some a/\v=.ref a:=r
theorem vW(hk:kvs.map (·.1)=l.map (·.1))(r:RelAll T h (kvs.map (·.2)) (l.map (·.2))) :
   (without kvs k).map (·.1)=(l.filter λx=>!decide (x.1=k)).map (·.1)/\RelAll T h ((without kvs k).map (·.2)) ((l.filter λx=>!decide (x.1=k)).map (·.2)):=by
 induction kvs generalizing l with
 | nil=>
   cases l with
   | nil=>exact⟨rfl,.nil⟩
   | cons _ _=>injection hk
 | cons a kvs ih_=>
   cases l with
   | nil=>injection hk
   | cons b l=>
     injection hk with h1 h2;have h1:a.1=b.1:=h1;cases r with
     | cons r rs=>
       have ih:=ih_ h2 rs;by_cases e:b.1=k
       . have e1:without (a::kvs) k=without kvs k:=Tz (by rw[h1,decide_eq_false (not_not_intro e)];exact nofun);have e2:((b::l).filter λx=>!decide (x.1=k))=l.filter λx=>!decide (x.1=k):=Tz (by rw[decide_eq_true e];exact nofun);rw[e1,e2];exact ih
       . have e1:without (a::kvs) k=a::without kvs k:=SZ (by rw[h1];exact decide_eq_true e);rw[e1,(SZ (by rw[decide_eq_false e];rfl))];exact⟨congr (congrArg List.cons h1) ih.1,.cons r ih.2⟩
theorem wG:∀ {l:List (Str×PyData)},l.lookup k=none->(l.filter λx=>!decide (x.1=k))=l
 | []=>@λ_=>rfl
 | (a,b)::l=>@λe=>by
   by_cases q:a=k
   . subst q;rw[List.lookup_cons_self] at e;injection e
   . have e1:List.lookup k ((a,b)::l)=l.lookup k:=by rw[QD,beq_eq_false_iff_ne.mpr (Ne.symm q)]
     rw[SZ (by rw[decide_eq_false q];rfl),wG (e1.symm.trans e)]
theorem B3{k:Str}(Y:vR Z)(I:Inv Z β σ s.heap)(hb:β[n]?=some a)(hc:σ[n]?=some (.dct l))(rk:aA β σ s.heap u (.d (.str k))) :
   Ev Z O A (call (.builtin "dict.pop") [.ref a,u,.none]) (.ok (.d ((l.lookup k).getD .none)) (σ.set n (.dct (l.filter λx=>!decide (x.1=k))))) VR β σ s:=by
 apply Cy (oB rk);intro t g;obtain⟨kvs,D,hk,q,hg,z⟩:=I.cell n a _ hb hc;have hz:kvs.length=l.length:=by have:=congrArg List.length hk;rwa [PN,PN] at this
 rcases d3 hk q k with ⟨h1,h2⟩ | ⟨w,d,h1,h2,rw'⟩
 . rw[h2,wG h2];refine Ev.done (call_meetsIn F.slot_dict_pop D.typeIs F.entry_dict_pop (F.args_dict_pop_3 _ _ _) (meets_dict_pop_default (strKind Z.prog Z.w) a (k:=k) (lz k t) (yT Y I hb) rfl _) ⟨kvs,D,h1,?_⟩);have N:=mK (O:=O) (ai:={ s with toks:=s.toks+1 }) (c:=.dct l) I hb hc rfl rfl (λ_ _ _ e=>e) rfl rfl ⟨kvs,D,hk,q,hg,z⟩;exact⟨β,N.1,N.2,.none⟩
 . refine h2▸?_;refine Ev.done (call_meetsIn F.slot_dict_pop D.typeIs F.entry_dict_pop (F.args_dict_pop_3 _ _ _) (meets_dict_pop_there (strKind Z.prog Z.w) a (k:=k) (lz k t) [.none] (.inr ⟨_,rfl⟩) rfl) ⟨kvs,w,D,by rw[hz];exact iv z bE,h1,λh' D' hs=>?_⟩);have M:=vW (k:=k) hk q;have N:=mK (O:=b7) (ai:={ s with heap:=h',toks:=s.toks+1 }) (c:=.dct (l.filter λx=>!decide (x.1=k))) I hb hc rfl rfl (λb o hb e=>(hs.2 b hb).trans e) rfl rfl
     ⟨_,D',M.1,M.2,λx hx=>hg x ((List.filter_sublist.map _).subset hx),iv (Rz _ _) z⟩
   exact⟨β,N.1.ofNo,N.2,N.1.rel0 rw'⟩
theorem yK(Y:vR Z)(I:Inv Z β σ s.heap)(hb:β[n]?=some a)(hc:σ[n]?=some (.dct l)) :
   Ev Z O A (call (.builtin "dict.pop") [.ref a,.none,.none]) (.ok (.d .none) σ) VR β σ s:=by
 refine(I.cell n a _ hb hc).elim λkvs q9=>?_;have D:=q9.1;exact bR I (call_meetsIn F.slot_dict_pop D.typeIs F.entry_dict_pop (F.args_dict_pop_3 _ _ _) (meets_dict_pop_default (uJ Z.prog Z.w) a (k:=none) rfl (yT Y I hb) rfl _) ⟨_,EC D,K8 _,⟨_,_,rfl⟩,.none⟩)
theorem Cl[BEq α]{l:List α}{x:α}(I:Inv Z β σ s.heap)(g:s.heap.get? a=some (dq ws n))(hm:ws.toList.map e=l.map (·==x))(hlt:l.idxOf x < l.length)(z:l.length<=LIM)
   (hq:∀ y,y∈ws->SeqAt.EqAt A.in1 s y u (e y)):Ev Z O A (call (.builtin "list.index") [.ref a,u]) (.ok (.d (.int (l.idxOf x:Nat))) σ) VR β σ s:=by
 have hz:ws.size=l.length:=by have:=congrArg List.length hm;rwa [PN,PN,QA] at this
 have at':∀ (m:Nat) (hm:m < ws.size) (hl:m < l.length),e ws[m]=(l[m]==x):=λm h1 h2=>by have:=congrArg (·[m]?) hm;simpa[h1,h2] using this
 have hi:l.idxOf x < ws.size:=hz▸hlt;refine bR I (call_meets F.slot_list_index ⟨_,g,rfl⟩ F.entry_list_index (F.args_list_index_2 _ _) (SeqAt.list_indexAt a ws n none #[] u e (l.idxOf x) hi ?_ ?_ ?_) ⟨g,hq,⟨_,_,rfl⟩,.int _ _⟩)
 . exact QU.mpr (Q3 hlt z) |> λh=>Sy h (by decide)
 . rw[at' _ hi hlt];exact List.findIdx_getElem (p:=(·==x)) (w:=hlt)
 . intro m h1 h2;rw[at' m h1 (hz▸h1)];exact List.not_of_lt_findIdx (xs:=l) (p:=(·==x)) h2
theorem y9{o:V}{x:Bool}{l:List Bool}(I:Inv Z β σ s.heap)(ro:aA β σ s.heap v o)(r:aA β σ s.heap u (.d (.bool x)))(hl:(aE σ o).bind eg=some l)(hlt:l.idxOf x < l.length) :
   Ev Z O A (call (.builtin "list.index") [v,u]) (.ok (.d (.int (l.idxOf x:Nat))) σ) VR β σ s:=by
 apply Bg (Dn r);obtain⟨l0,hl0,hb⟩:=Qo.mp hl;apply (bb I hl0 ro).el;intro a ws n e q z;obtain⟨hw,rfl⟩:=j5 q hb;rw[PN] at z;refine Cl (e:=λv=>v==.bool x) I e ?_ hlt z λy hy=>?_
 . rw[hw,Rj];exact Sk λb _=>mw b x
 . obtain⟨b,rfl⟩:=x9 hw hy;rw[show (Value.bool b==Value.bool x)=(b==x) from mw b x];exact SeqAt.EqAt.bool_bool b x
theorem Cd{b:Me}{o:V}(Y:vR Z)(I:Inv Z β σ s.heap)(ro:aA β σ s.heap v o)(rx:VRels β σ s.heap vs xs) :
   Ev Z O A (call (.builtin (Nn b)) (v::vs)) (GM b o xs σ) VR β σ s:=by
 cases b with
 | get=>exact Ev.bad
 | append=>refine aL (λp e=>cp (λn x hn hd=>aL (λl hc=>bY λhl=>?_) Ev.bad) Ev.bad) Ev.bad;obtain⟨u,rfl,r⟩:=kq rx e;rw[ch hd] at r;rw[gG hn] at ro;have hc:=fj hc;apply NP (Dl ro);intro a hb;obtain⟨ws,m,e,q,z⟩:=I.cell n a _ hb hc;have hz:=q.length;simp only[QA] at hz;refine Ev.done (call_meets F.slot_list_append ⟨_,e,rfl⟩ F.entry_list_append (F.args_list_append_2 _ _) (list_append a ws m _ (by rw[hz];exact iv z bE)) ⟨e,?_⟩);obtain⟨⟨m',e'⟩,hk⟩:=jB (f:=λx_1=>x_1.push _) e;have N:=mK (O:=O) (ai:={ s with heap:=s.heap.update a (Obj.mapSeq λx_1=>x_1.push _),toks:=s.toks }) (c:=.lst (l++[x])) I hb hc rfl rfl hk rfl rfl ⟨_,_,e',by simpa using q.append (.one r),by rw[Qg];exact hl⟩;exact⟨β,N.1,N.2,.none⟩
 | extend=>
   refine aL (λp e=>aL (λn hn=>cp (λl ys hc hy=>bY λhl=>?_) Ev.bad) Ev.bad) Ev.bad;obtain⟨u,rfl,r⟩:=kq rx e;rw[gG hn] at ro;have hc:=fj hc;apply NP (Dl ro);intro a hb;obtain⟨ws,m,e,q,z⟩:=I.cell n a _ hb hc;have hz:=q.length;simp only[QA] at hz;apply (bb I hy r).el;intro a' us m' e' q' z';have hz':=q'.length;simp only[QA] at hz';have hsz:ws.size+us.size<=sizeLine:=by rw[hz,hz'];exact iv hl bE
   refine Ev.done (call_meets F.slot_list_extend ⟨_,e,rfl⟩ F.entry_list_extend (F.args_list_extend_2 _ _) (AutoSeq1.list_extend_list_list_0 a ws m a' us m' ?_ (iv (Qz _ _) hsz) (Sh hsz)) ⟨e,e',?_⟩)
   . have:Builtin.List.listTooLong (ws.size+us.size)=false:=by unfold Builtin.List.listTooLong;simp;unfold LIM at hl;omega
     rw[this];simp
   obtain⟨⟨m',e'⟩,hk⟩:=jB (f:=λx=>x++us) e;have N:=mK (O:=O) (ai:={ s with heap:=s.heap.update a (Obj.mapSeq λx=>x++us),toks:=s.toks }) (c:=.lst (l++ys)) I hb hc rfl rfl hk rfl rfl ⟨_,_,e',by simpa using q.append q',by rw[Qg];exact hl⟩;exact⟨β,N.1,N.2,.none⟩
 | update=>
   refine aL (λp e=>cp (λn k hn hk=>bY λhne=>cp (λx y hx hy=>bY λhl=>?_) Ev.bad) Ev.bad) Ev.bad;apply Cy (kq rx e);intro u r;rw[gG hn] at ro;rw[gG hk] at r;have hx:=gu hx;have hy:=gu hy;apply NP (Dl ro);intro a hb;obtain⟨kvs,D,hk,q,hg,z⟩:=I.cell n a _ hb hx;apply NP (Dl r);intro a' hb';obtain⟨kvs',D',hk',q',hg',z'⟩:=I.cell k a' _ hb' hy;have hz:kvs.length=x.length:=by have:=congrArg List.length hk;simpa using this
   have hz':kvs'.length=y.length:=by have:=congrArg List.length hk';simpa using this
   have haa:a≠a':=I.addr_ne hb' hb (Ne.symm hne);refine Ev.done (call_meetsIn F.slot_dict_update D.typeIs F.entry_dict_update (F.args_dict_update_2 _ _) (meets_dict_update (strKind Z.prog Z.w) a a' haa (yT Y I hb')) ⟨kvs,kvs',D,D',by rw[hz,hz'];exact iv hl bE,λh' Mo _ hs'=>?_⟩);have M:=qp hk' q' hk q;have N:=mK (O:=O) (ai:={ s with heap:=h' }) (c:=.dct (dX x y)) I hb hx rfl rfl (λb o hb e=>(hs'.2 b hb).trans e) rfl rfl ⟨_,Mo,M.1,M.2,λx hx=>(nB hx).elim (hg' x) (hg x),iv (kT _ _) hl⟩;exact⟨β,N.1,N.2,.none⟩
 | pop=>
   refine aL (λp e=>cp (λn _ hn hz=>aL (λl hc=>?_) Ev.bad) Ev.bad) Ev.bad;apply Du rx e;intro u w r r';rw[qk hz] at r';rw[gG hn] at ro;have hc:=gu hc;apply NP (Dl ro);intro a hb;cases (r');refine aL (λk hk=>?_) (aL (λ_ hk=>?_) Ev.bad)
   . rw[eO hk] at r;exact B3 Y I hb hc r
   . rw[qk hk] at r;cases (r);exact yK Y I hb hc
 | count=>
   refine aL (λp e=>cp (λx l hx hl=>?_) Ev.bad) Ev.bad;apply Cy (kq rx e);intro u r;rw[rL hx] at r;apply Bg (Dn r);obtain⟨l0,hl0,hb⟩:=Qo.mp hl;apply (bb I hl0 ro).el;intro a ws n e q z;obtain⟨hw,rfl⟩:=j5 q hb;refine bR I (call_meets F.slot_list_count ⟨_,e,rfl⟩ F.entry_list_count (F.args_list_count_2 _ _) (SeqAt.list_countAt a ws n none #[] (.bool x) (λv=>v==.bool x)) ⟨e,λy hy=>?_,⟨_,_,rfl⟩,?_⟩)
   . obtain⟨b,rfl⟩:=x9 hw hy;have:=SeqAt.EqAt.bool_bool (A:=A.in1) (s:=s) b x;rw[show (Value.bool b==Value.bool x)=(b==x) from mw b x];exact this
   . rw[hw,xU];exact .int _ _
 | index=>refine aL (λp e=>cp (λx l hx hl=>bY λhlt=>?_) Ev.bad) Ev.bad;obtain⟨u,rfl,r⟩:=kq rx e;rw[rL hx] at r;exact y9 I ro r hl hlt
 | nop _=>exact Ev.bad
theorem xQ(I:Inv Z β σ s.heap):Ev Z O A (eval (.Dict [] [] pos) env) (.ok (.loc σ.length) (σ++[.dct []])) VR β σ s:=by
 refine Ev.done (wpAny_Dict_empty ?_);have N:=uH (O:=O) (ai:={ s with heap:=s.heap.push { cls:=.type "dict",data:=.dict #[] } }) (a:=s.heap.objs.size) (c:=.dct []) I (λb o e=>Qm _ e) (aU _) rfl rfl
   ⟨[],Heap.DictOf.new _,rfl,.nil,by simp,by simp⟩
 exact⟨_,N.1,N.2,_,by rw[<- I.len];simp,rfl⟩
theorem BZ{k:Str}{t:Tok}{x:PyData}{E:Value->Shared->Prop}(I:Inv Z β σ s.heap)(hb:β[n]?=some a)(hc:σ[n]?=some (.dct l))(g:cK k)(r:Rel (TT β σ) s.heap v x)(hl:l.length < LIM)
   (q:∀ s',Step O β σ s β (σ.set n (.dct (ek k x l))) s'->Inv Z β (σ.set n (.dct (ek k x l))) s'.heap->Q () s'):wpAny (model Z.prog Z.w) A (setItem (.ref a) (.str k t) v) Q E s:=by
 obtain⟨kvs,D,hk,q',hg,z⟩:=I.cell n a _ hb hc;have hz:kvs.length=l.length:=by have:=congrArg List.length hk;simpa using this
 refine wpAny_setItem_pairs (knd:=strKind Z.prog Z.w) (k:=k) (lz k t) D (λh' D' hs'=>?_) (by exact hz▸iv z bE);have M:=pT (k:=k) hk q' r;have N:=mK (O:=O) (ai:={ s with heap:=h',toks:=s.toks+1 }) (c:=.dct (ek k x l)) I hb hc rfl rfl (λb o hb e=>(hs'.2 b hb).trans e) rfl rfl ⟨_,D',M.1,M.2,λy hy=>(tm hy).elim (λe=>e▸g) (hg y),iv (nE _ _ _) hl⟩;exact q _ N.1 N.2
noncomputable def CO (w:World):Bool:=w.params.followText "set-order"
inductive StrEnts(w:World):List (Int×Value)->List Str->Prop
 | nil:StrEnts w [] []
 | cons (x:Str) (t:Tok) {es:List (Int×Value)} {L:List Str}:StrEnts w es L->StrEnts w ((hashStr w x,.str x t)::es) (x::L)
variable {es:List (Int×Value)}{L:List Str}
theorem StrEnts.length(r:StrEnts w es L):es.length=L.length:=by
 induction r with
 | nil=>rfl
 | cons _ _ _ ih=>exact congrArg (·+1) ih
theorem StrEnts.perm{es':List (Int×Value)}(p:es'.Perm es):∀ {L:List Str},StrEnts w es L->∃ L',StrEnts w es' L'/\L'.Perm L:=by
 induction p with
 | nil=>intro L h;exact⟨L,h,.refl _⟩
 | cons e _ ih=>
   intro L h;cases h with
   | cons x t r=>obtain⟨L',h1,h2⟩:=ih r;exact⟨x::L',.cons x t h1,h2.cons x⟩
 | swap a b l=>
   intro L h;cases h with
   | cons x t r=>cases r with
     | cons y u r=>exact⟨y::x::_,.cons y u (.cons x t r),.swap ..⟩
 | trans _ _ ih1 ih2=>intro L h;obtain⟨L1,a1,a2⟩:=ih2 h;obtain⟨L2,b1,b2⟩:=ih1 a1;exact⟨L2,b1,b2.trans a2⟩
theorem StrEnts.snoc(x:Str)(t:Tok)(h:StrEnts w es L):StrEnts w (es++[(hashStr w x,.str x t)]) (L++[x]):=by
 induction h with
 | nil=>exact .cons x t .nil
 | cons y u _ ih=>exact .cons y u ih
theorem StrEnts.elems{prog:Program}(h:StrEnts w es L):ElemsOf (strKind prog w) es:=by
 induction h with
 | nil=>exact λe he=>absurd he Re
 | cons x t _ ih=>exact λe he=>(Qq.mp he).elim (λz=>z▸⟨⟨x,by show Value.isStrOf x (.str x t)=true;simp[Value.isStrOf],rfl⟩,rfl⟩) (ih e)
theorem StrEnts.find{x:Str}:∀ {es:List (Int×Value)} {L:List Str},StrEnts w es L->((es.findIdx? λe=>Value.isStrOf x e.2)=none↔x∉L)
 | _,_,.nil=>by simp
 | _,_,.cons y t r=>by
   rw[List.findIdx?_cons];by_cases h:y=x
   . have e:Value.isStrOf x (Value.str y t)=true:=by simp[Value.isStrOf,h]
     rw[if_pos e];simp[h]
   . have e:Value.isStrOf x (Value.str y t)=false:=by simp[Value.isStrOf,h]
     rw[if_neg (by rw[e];exact QB),Option.map_eq_none_iff,(r.find (x:=x)),Qq,not_or];exact⟨λq=>⟨λq=>h q.symm,q⟩,λq=>q.2⟩
def cJ(w:World)(h:Heap)(a:Addr)(L:List Str):Prop:=X4 λo es ep t=>A8 (h.get? a=some o) (o.ExactSet) (o.data=.set es ep t) (StrEnts w es.toList L) (L.length < scanBound) (t.fits es.size=true) (t.led=!CO w) ((L≠[]->t.plain=false))
theorem uP(t:SetTable)(es:Array (Int×Value))(h:Int)(x:Value):(layNew t es h x).2.1.led=t.led/\((layNew t es h x).2.1.plain=true->t.plain=true):=by
 have os:∀ (u:SetTable) (n:Nat),u.led=t.led->u.plain=t.plain->(u.orStandIn n).led=t.led/\((u.orStandIn n).plain=true->t.plain=true):=λu n h1 h2=>by
   unfold SetTable.orStandIn;split
   . exact⟨h1,λh=>h2▸h⟩
   . exact⟨h1,λh=>by injection h⟩
 unfold layNew;cases t.freeSlot h with
 | some p=>exact os _ _ rfl rfl
 | none=>exact⟨rfl,λh=>by injection h⟩
theorem p7(t:SetTable)(es:Array (Int×Value))(n:Nat):(relayAll t es n).2.1.led=t.led/\((relayAll t es n).2.1.plain=true->t.plain=true):=by
 have st:(t.standIn es.size).led=t.led/\((t.standIn es.size).plain=true->t.plain=true):=⟨rfl,λh=>by injection h⟩
 unfold relayAll;cases he:t.relaid (es.map (·.1)) n with
 | none=>exact st
 | some q=>
   obtain⟨t',order⟩:=q;have hm:t'.led=t.led/\(t'.plain=true->t.plain=true):=by obtain⟨ow,_,e⟩:=Qo.mp he;(injection e with e0_;injection e0_ with e0_ f0_;subst e0_;subst f0_);exact⟨rfl,id⟩
   show (if _ then _ else _:Array (Int×Value)×SetTable×Bool).2.1.led=_/\((if _ then _ else _:Array (Int×Value)×SetTable×Bool).2.1.plain=true->_)
   split
   . exact hm
   . exact st
variable {L':List Str}{ep:Nat}{o:Obj}{t:SetTable}
theorem pR{es es':Array (Int×Value)}{t':SetTable}(ho:h.get? a=some o)(hex:o.ExactSet)(hd:o.data=.set es ep t)(he:StrEnts w es'.toList L')(hb:L'.length < scanBound)(hf:t'.fits es'.size=true)(hl:t'.led=!CO w)(hp:L'≠[]->t'.plain=false) :
   (h.update a (Obj.putSet es' t')).get? a=some { o with data:=.set es' (ep+1) t' }/\cJ w (h.update a (Obj.putSet es' t')) a L':=by
 have hg:(h.update a (Obj.putSet es' t')).get? a=some { o with data:=.set es' (ep+1) t' }:=by have:=Ry (Obj.putSet es' t') ho (by rw[putSet_of es' t' hd];rfl);rw[putSet_of es' t' hd] at this;exact this
 exact⟨hg,_,es',ep+1,t',hg,hex,rfl,he,hb,hf,hl,hp⟩
variable {I sa:Addr}{g:Bool->Sem Unit}{R:Result->Shared->Prop}{tk:Tok}
section
variable {prog:Program}{E:Value->Shared->Prop}
theorem yf(hg:∀ (b:Bool) (ai:Shared) (Q':Unit->Shared->Prop),Q' () ai->wpAny (model prog w) A (g b) Q' E ai)
   {a:Addr} {o:Obj} {es es1:Array (Int×Value)} {ep:Nat} {t t2:SetTable} {L1:List Str} (ho:s.heap.get? a=some o) (hex:o.ExactSet) (hd:o.data=.set es ep t)
   (he:StrEnts w es1.toList L1) (hb:L1.length < scanBound) (hf:t2.fits es1.size=true) (hl:t2.led=!CO w) (hp:t2.plain=false) {wasDummy:Bool} {R:Option Bool->Shared->Prop}
   (h:∀ h' L',Heap.SameBut a s.heap h'->cJ w h' a L'->L'.Perm L1->R (some true) { s with heap:=h' }) :
   wpAny (model prog w) A (do
       storeSet a es1 t2
       if (!wasDummy&&t2.tooFull)=true then do
           g (relayAll t2 es1 (SetTable.grown es1.size)).2.2
           storeSet a (relayAll t2 es1 (SetTable.grown es1.size)).1 (relayAll t2 es1 (SetTable.grown es1.size)).2.1
           pure (some true)
         else pure (some true)) R E s:=by
 have hsz:es1.size=L1.length:=by exact QA▸he.length
 refine Pe (wpAny_storeSet_of ho hd ?_ (fits_of_scanBound (by rw[hsz];exact hb)));obtain⟨ho1,hS1⟩:=pR ho hex hd he hb hf hl λ_=>hp;have hsb1:=Heap.SameBut.update s.heap a (Obj.putSet es1 t2);split
 . have hpm:=relayAll_perm t2 es1 (SetTable.grown es1.size);have hfr:=relayAll_fits t2 es1 (SetTable.grown es1.size);have hmk:=p7 t2 es1 (SetTable.grown es1.size);generalize relayAll t2 es1 (SetTable.grown es1.size)=Rl at hpm hfr hmk ⊢;obtain⟨es2,t3,gave2⟩:=Rl;dsimp only at hpm hfr hmk ⊢;refine(he.perm hpm).elim λL2 q9=>?_;have he2:=q9.1;have p2:=q9.2;have hb2:L2.length < scanBound:=by rw[p2.length_eq];exact hb
   have hsz2:es2.size=L2.length:=by exact QA▸he2.length
   have hp3:t3.plain=false:=by
     cases h3:t3.plain with
     | false=>rfl
     | true=>have:=hmk.2 h3;rw[hp] at this;injection this
   refine Pe (hg _ _ _ ?_);refine Pe (wpAny_storeSet_of ho1 rfl ?_ (fits_of_scanBound (by rw[hsz2];exact hb2)));have hS2:=(pR ho1 hex rfl he2 hb2 hfr (hmk.1.trans hl) λ_=>hp3).2;exact Ql (h _ L2 (hsb1.trans (Heap.SameBut.update _ a _)) hS2 p2)
 . exact Ql (h _ L1 hsb1 hS1 (.refl _))
set_option tactic.hygienic true in
theorem add_str{x:Str}{Q:Bool->Shared->Prop}(hS:cJ w s.heap a L)(hroom:L.length+1 < scanBound)
   (h:∀ (b:Bool) (h':Heap) (L':List Str),Heap.SameBut a s.heap h'->cJ w h' a L'->(x∈L->L'=L)->(x∉L->L'.Perm (L++[x]))->Q b { s with heap:=h' }) :
   wpAny (model prog w) A (setAddHashed a (.str x tk) (hashStr w x)) Q E s:=by
 obtain⟨o,es,ep,t,ho,hex,hd,hel,hb,hf,hled,hpl⟩:=id hS;have hsz:es.size=L.length:=by exact QA▸hel.length
 have hE:ElemsOf (strKind prog w) es.toList:=hel.elems;have hkey:(strKind prog w).is x (.str x tk)=true:=by show Value.isStrOf x (.str x tk)=true;simp[Value.isStrOf]
 unfold setAddHashed setAddHashedIn;refine Rs (Pe (wpAny_setState_of ho hd hf ?_));dsimp only;rw[byScan_of (knd:=strKind prog w) rfl (by rw[hsz];exact hb) hE,if_pos rfl];unfold setAddByScan;refine Pe ?_;refine Pe (wpAny_rule ?_);refine Pe (wpAny_setScan_of (knd:=strKind prog w) hkey ho hd hf hE ?_);have hfind:=hel.find (x:=x);cases hr:List.findIdx? (λe=>(strKind prog w).is x e.2) es.toList with
 | some j=>
   skip
   have hx:x∈L:=Classical.byContradiction λq=>by have:=hfind.mpr q;rw[show List.findIdx? (λe=>Value.isStrOf x e.2) es.toList=some j from hr] at this;injection this
   refine Ql (Ql ?_);have e:s={ s with heap:=s.heap }:=by cases s;rfl
   exact e▸(h false s.heap L (Heap.SameBut.refl a s.heap) hS (λ_=>rfl) λq=>absurd hx q)
 | none=>
   skip
   have hgw:∀ (b:Bool) {ai:Shared} {Q':Unit->Shared->Prop},Q' () ai->wpAny (model prog w) A (match b with | true=>rule "set.scan.the-table-gave-way" | false=>pure ()) Q' E ai:=
     λb ai Q' hq=>by cases b <;> first | exact Ql hq | exact wpAny_rule hq
   have hperm:=layNew_perm t es (hashStr w x) (.str x tk);have hfits:=layNew_fits t es (hashStr w x) (.str x tk);have hmk:=uP t es (hashStr w x) (.str x tk);generalize layNew t es (hashStr w x) (.str x tk)=T at hperm hfits hmk ⊢;obtain⟨es1,t1,wasDummy,gave⟩:=T;dsimp only at hperm hfits hmk ⊢;refine kk λK k=>?_;rw[Tw] at hperm;obtain⟨L1,hL1,pL1⟩:=(hel.snoc x tk).perm hperm;refine k ?_;have hlen1:L1.length < scanBound:=by rw[pL1.length_eq,Qg];exact hroom
   have hl1:t1.led=!CO w:=hmk.1.trans hled;have hend:∀ h' L',Heap.SameBut a s.heap h'->cJ w h' a L'->L'.Perm L1->Q true { s with heap:=h' }:=λh' L' hsb hS' hp=>h true h' L' hsb hS' (λq=>absurd q (hfind.mp hr)) λ_=>hp.trans pL1;refine Pe (hgw _ ?_);split
   . refine Pe ?_;rw[hashByValue_scannable 8 (x:=.str x tk) rfl];refine Ql ?_;refine yf ?_ ho hex hd hL1 hlen1 ?_ ?_ ?_ ?_
     . intro b ai Q' hq;cases b <;> first | exact Ql hq | exact wpAny_rule hq
     . exact SetTable.fits_plain_off hfits
     . exact hl1
     . rfl
     . intro h' L' hsb hS' hp;exact Ql (hend h' L' hsb hS' hp)
   . rename_i hpl1;refine Pe (Ql ?_);refine yf ?_ ho hex hd hL1 hlen1 hfits hl1 (by simpa using hpl1) ?_
     . intro b ai Q' hq;cases b <;> first | exact Ql hq | exact wpAny_rule hq
     . intro h' L' hsb hS' hp;exact Ql (hend h' L' hsb hS' hp)
theorem tT:entryFor table "set.update.loop"=some Builtin.«set.update.loop»:=entryFor_of_tree (by kernel_rfl)
theorem mO:plainId "set.update.loop"=true:=by decide +kernel
theorem Kk(h:PyProof.Rows.StrsAre vs ss):∀ {i:Nat} {v:Value},vs[i]?=some v->X2 λx t=>v=.str x t/\ss[i]?=some x:=by
 induction h with
 | nil=>intro i v e;simp at e
 | cons y t r ih=>
   intro i v e;cases i with
   | zero=>(injection e with e0_;subst e0_);exact⟨y,t,rfl,rfl⟩
   | succ i=>exact ih (i:=i) (v:=v) (by simpa using e)
theorem cJ.keep(hS:cJ w h a L)(k:∀ o,h.get? a=some o->h'.get? a=some o):cJ w h' a L:=by obtain⟨o,es,ep,t,ho,r1,r2,r3,r4,r5,r6,r7⟩:=hS;exact⟨o,es,ep,t,k o ho,r1,r2,r3,r4,r5,r6,r7⟩
theorem wd{l:Addr}(hh:A.handled=none)(hV:PyProof.Rows.StrsAre vs ss)(hlen:vs.length=ss.length)(h1:sa≠I)(h2:sa≠l)(h3:l≠I) :
   ∀ (k i:Nat) (s:Shared) (L:List Str),ss.length - i=k->i<=ss.length->s.heap.IsListIter I l i->s.heap.IsList l vs.toArray->cJ w s.heap sa L->L.Nodup->L.length+k < scanBound->
     (∀ h' tk L',(∀ b o,b≠I->b≠sa->s.heap.get? b=some o->h'.get? b=some o)->cJ w h' sa L'->L'.Nodup->(∀ y,y∈L'↔y∈L\/y∈ss.drop i)->R (.ok (.ret .none)) { s with heap:=h',toks:=tk })->
     codeAny (model prog w) A (.builtin "set.update.loop" ⟨[.ref sa,.ref I],[]⟩) R s:=by
 have W:=Walks.list (prog:=prog) (w:=w) (A:=A.in1) hh I l h3 vs.toArray;have hsz:vs.toArray.size=ss.length:=by simp[hlen]
 intro k
 induction k with
 | zero=>intro i s L hk hi hit hl hS hnd hb hR;have:i=ss.length:=Si hi (Nat.le_of_sub_eq_zero hk);subst this;refine codeAny_builtin tT ?_;refine(Around.under_plainId mO _)▸?_;show wpAny _ A.in1 (pyNext (.ref I) >>= _) _ _ s;refine Pe (W.done s _ _ (by exact hsz▸⟨hit,hl⟩) λh' tk hk'=>?_);refine Ql ?_;refine hR h' tk L (λb o hb _ e=>hk' b o (λq=>hb (Qt.mp q)) e) (hS.keep λo e=>hk' sa o (λq=>h1 (Qt.mp q)) e) hnd λy=>?_;rw[SP];simp
 | succ k ih=>
   intro i s L hk hi hit hl hS hnd hb hR;have hlt:i < ss.length:=Nat.sub_pos_iff_lt.mp (hk▸RY k);refine codeAny_builtin tT ?_;refine(Around.under_plainId mO _)▸?_;show wpAny _ A.in1 (pyNext (.ref I) >>= _) _ _ s;refine Pe (W.item i s _ _ (by exact hsz▸hlt) ⟨hit,hl⟩ λv h' tk hP hst hk'=>?_);obtain⟨x,t,rfl,hx⟩:=Kk hV (i:=i) (v:=v) (by simpa using hP);refine Pe (Rs ?_);unfold setAdd;refine Rs (Pe ((strKind prog w).pyHash (k:=x) (by show Value.isStrOf x (.str x t)=true;simp[Value.isStrOf]) ?_));refine add_str (s:={ s with heap:=h',toks:=tk+1 }) (hS.keep λo e=>hk' sa o (λq=>h1 (Qt.mp q)) e) (by omega) λb h'' L' hsb hS'' hin hout=>?_;have kk:∀ c o,c≠sa->h'.get? c=some o->h''.get? c=some o:=λc o hc e=>hsb.extBut c o hc e;have hd:ss.drop i=x::ss.drop (i+1):=by rw[Rv hlt];rw[Qk hlt] at hx;injection hx with hx;rw[hx]
   have hL':L'.Nodup/\L'.length<=L.length+1/\∀ y,y∈L'↔y∈L\/y=x:=by
     by_cases hxL:x∈L
     . rw[hin hxL];exact⟨hnd,S7 _,λy=>⟨.inl,λq=>q.elim id λq=>q▸hxL⟩⟩
     . have p:=hout hxL;refine⟨p.nodup_iff.mpr (R3.mpr ⟨hnd,by simp,λa ha b hb q=>hxL ?_⟩),by rw[p.length_eq];simp,λy=>by rw[p.mem_iff,Qx,Qt]⟩;exact(Qt.mp hb)▸q▸ha
   refine Ql ⟨plainId_quiet mO _,ih (i+1) _ L' ((Nat.sub_add_eq ..).trans (by rw[hk];rfl)) hlt (hst.1.at λo e=>kk I o (Ne.symm h1) e) (hst.2.at λo e=>kk l o (Ne.symm h2) e) hS'' hL'.1 (by have:=hL'.2.1;omega) λh3' tk' L3 k3 hS3 hnd3 hm3=>?_⟩;refine hR h3' tk' L3 (λc o hc hc' e=>k3 c o hc hc' (kk c o hc' (hk' c o (λq=>hc (Qt.mp q)) e))) hS3 hnd3 λy=>?_;rw[hm3,hL'.2.2,hd,Qq,or_assoc]
end
theorem pJ (v:Value):checkTypeCall "set" ⟨[v],[]⟩=pure ():=by kernel_rfl
theorem sj (v:Value):checkBuiltinCall "set.__new__" ⟨[.type "set",v],[]⟩=pure ():=by kernel_rfl
variable {Mj:Value->Shared->Prop}
section
variable {prog:Program}{E:Value->Shared->Prop}
noncomputable abbrev c7 (w:World):Obj:={ cls:=.type "set",dict:=none,data:=.set #[] 0 (.fresh 0 0 (!CO w)) }
theorem sE(v:Value)(h:Mj (.ref s.heap.objs.size) { s with heap:=s.heap.push (c7 w) }) :
   codeAny (model prog w) A (.call (.builtin "set.__new__") ⟨[.type "set",v],[]⟩) (wants Mj E) s:=by
 refine codeAny_of_tree ?_;show wpAny _ A.in1 (do checkBuiltinCall "set.__new__" ⟨[.type "set",v],[]⟩;again (.builtin "set.__new__" ⟨[.type "set",v],[]⟩)) _ _ s;refine Pe (wpAny_of_eq (sj v) (Ql ⟨plainId_quiet F.plain_set_new _,codeAny_builtin F.entry_set_new ?_⟩));rw[Around.under_plainId F.plain_set_new _];unfold Builtin.«set.__new__» Builtin.Frozenset.newClass;have hsub:=sub_set_self;obtain⟨hp,g,d,tk,os⟩:=s;dsimp only
 wp_walk
 refine wpAny_askSetting (Ql ?_);dsimp only;unfold newObj;refine Pe (wpAny_alloc (Ql ?_));exact Ql h
theorem oO {self:Value} (hT:s.TypeIs self "set") (hQ:Q () s) :
   wpAny M A (checkBuiltinCall "set.__init__" ⟨[self,v],[]⟩) Q E s:=by
 unfold checkBuiltinCall;rw[kind_set_init,split_set_init,sig_set_init];refine Pe (wpAny_isInstance hT sub_set_self ?_);rw[SE,if_neg QB];unfold Bind.checkArgs;dsimp only;refine Pe (m:=Bind.printed "set" true _ _) (PyProof.Rows.printed_name (by decide) ?_);refine Pe (m:=Bind.printed "*" false _ _) (PyProof.Rows.printed_star (self:=self) rfl hT λshort=>?_);have hrn:(Manifest.Receiver.self==Manifest.Receiver.none)=false:=by decide
 have hn:(if (Manifest.Receiver.self==Manifest.Receiver.none)=true then [self,v].length else [self,v].length - 1)=1:=by simp[hrn]
 rw[hn];rw[R2];have hc:Bind.check ⟨.positional,"set","*",.self,[⟨"iterable",.posOnly,false⟩]⟩ "set" short 1 []=pure ():=by simp[Bind.check,Bind.checkCount,Bind.isPositional];exact λq=>absurd q (by decide)
 rw[hc];exact Ql hQ
theorem nN:isSubtype (.type "list") (.type "set")=pure false:=by rw[isSubtype_type];kernel_rfl
theorem jL:isSubtype (.type "list") (.type "frozenset")=pure false:=by rw[isSubtype_type];kernel_rfl
theorem sg{l:Addr}{id:String}(hh:A.handled=none)(hl:s.heap.IsList l vs.toArray)(hV:PyProof.Rows.StrsAre vs ss)(hlen:vs.length=ss.length)(hne:sa≠l)(hS:cJ w s.heap sa L)(hnd:L.Nodup)(hb:L.length+ss.length < scanBound)
   (h:∀ h' tk L',(∀ b o,b≠sa->s.heap.get? b=some o->h'.get? b=some o)->cJ w h' sa L'->L'.Nodup->(∀ y,y∈L'↔y∈L\/y∈ss)->Q () { s with heap:=h',toks:=tk }) :
   wpAny (model prog w) A (Builtin.Frozenset.updateFrom id sa (.ref l)) Q E s:=by
 have hT:s.TypeIs (.ref l) "list":=by obtain⟨o,ho,hc,_⟩:=hl;exact⟨o,ho,hc⟩
 have hsa:sa < s.heap.objs.size:=by obtain⟨o,_,_,_,ho,_⟩:=hS;exact Q8 ho
 have hla:l < s.heap.objs.size:=by obtain⟨o,ho,_⟩:=hl;exact Q8 ho
 unfold Builtin.Frozenset.updateFrom Builtin.Frozenset.isAnySet;refine Pe ?_;show wpAny _ _ (isInstance (.ref l) (.type "set") >>= _) _ _ _;refine Pe (wpAny_isInstance (b:=false) hT nN ?_);show wpAny _ _ (isInstance (.ref l) (.type "frozenset")) _ _ _;refine wpAny_isInstance (b:=false) hT jL ?_;show wpAny _ _ (typeOf (.ref l) >>= _) _ _ _;refine Pe (wpAny_typeOf hT ?_);rw[if_neg (by decide)];refine Pe (wpAny_pyIter_list hl ?_);refine Pe (wpAny_runValue ?_);refine wd hh hV hlen (Rd hsa) hne (Rd hla) ss.length 0 _ L (by omega) (QI _) ⟨_,Qy _ rfl,rfl,rfl⟩ (hl.at λo e=>Qm _ e) (hS.keep λo e=>Qm _ e) hnd hb λh' tk L' hk hS' hnd' hm=>?_;refine Ql (h h' tk L' (λb o hb e=>hk b o (λq=>?_) hb (Qm _ e)) hS' hnd' λy=>by rw[hm];simp);exact absurd (Q8 e) (by rw[q];exact Sl _)
set_option maxHeartbeats 1000000 in
theorem zM{l:Addr}{Q:Value->Shared->Prop}(hh:A.handled=none)(hl:s.heap.IsList l vs.toArray)(hV:PyProof.Rows.StrsAre vs ss)(hlen:vs.length=ss.length)(hb:ss.length < 4000)
   (h:∀ h' tk L',(∀ b o,s.heap.get? b=some o->h'.get? b=some o)->cJ w h' s.heap.objs.size L'->L'.Nodup->(∀ y,y∈L'↔y∈ss)->Q (.ref s.heap.objs.size) { s with heap:=h',toks:=tk }) :
   wpAny (model prog w) A (call (.type "set") [.ref l]) Q E s:=by
 obtain⟨c,tl,hmro⟩:=F.called_set.mro;have hmade:=F.called_set.made;have hsub:=F.called_set.sub;refine wpAny_call (codeAny_of_tree ?_);show wpAny _ _ (callAny (.type "set") _) _ _ _;refine Ql ⟨Code.quiet_builtin _ (by decide +kernel),codeAny_builtin F.entry_type_call ?_⟩;rw[Around.under_plain (weight_type_call_type "set" [.ref l] []) rfl];have h1:=F.called_set.notType;have h2:=F.called_set.canCreate;have hct:=pJ (.ref l)
 repeat (any_goals (first | assumption | wp_step))
 refine codeAny_mono (sE (E:=E) (.ref l) (Mj:=λobj ai=>obj=.ref s.heap.objs.size/\ai={ s with heap:=s.heap.push (c7 w) }) ⟨rfl,rfl⟩) λr ai hr=>?_;cases r with
 | error e=>exact hr
 | ok fl=>
   cases fl with
   | ret obj=>
     obtain⟨rfl,rfl⟩:=hr;have hS:(s.heap.push (c7 w)).get? s.heap.objs.size=some (c7 w):=Qy _ rfl;have hT:Shared.TypeIs { s with heap:=s.heap.push (c7 w) } (.ref s.heap.objs.size) "set":=⟨_,hS,rfl⟩
     have hli:=F.called_set.init.lookup;have hbi:=F.called_set.init.bind (.ref s.heap.objs.size)
     repeat (any_goals (first | assumption | wp_step))
     refine codeAny_mono (codeAny_call_builtin (R:=wants (λr al=>r=.none/\Q (.ref s.heap.objs.size) al) E) F.called_set.init.plain F.entry_set_init (oO hT ?_)) λuz al E6=>?_
     . unfold Builtin.«set.__init__» noKeywords;have hl':(s.heap.push (c7 w)).IsList l vs.toArray:=hl.at λo e=>Qm _ e;have hTl:Shared.TypeIs { s with heap:=s.heap.push (c7 w) } (.ref l) "list":=by obtain⟨o,ho,hc,_⟩:=hl';exact⟨o,ho,hc⟩
       have n1:=nN;have n2:=jL;have hSS:cJ w (s.heap.push (c7 w)) s.heap.objs.size []:=⟨_,#[],0,_,hS,⟨rfl,rfl,rfl⟩,rfl,.nil,by decide,by rfl,rfl,λq=>absurd rfl q⟩
       have hU:=λ(Q:Unit->Shared->Prop) (E:Value->Shared->Prop)=>sg (prog:=prog) (w:=w) (A:=A.in1.in1) (E:=E) (s:={ s with heap:=s.heap.push (c7 w) }) (sa:=s.heap.objs.size) (id:="set.__init__") (Q:=Q) hh hl' hV hlen (Sz (by obtain⟨o,ho,_⟩:=hl;exact Q8 ho)) hSS SM (by simp[scanBound];omega);generalize Builtin.Frozenset.updateFrom=U at hU ⊢
       wp_walk
       refine hU _ _ λh' tk L' hk hS' hnd' hm=>?_;refine Ql ⟨rfl,h h' tk L' (λb o e=>hk b o (λq=>absurd (Q8 e) (by rw[q];exact Sl _)) (Qm _ e)) hS' hnd' λy=>?_⟩;rw[hm];simp
     . cases uz with
       | error e=>exact E6
       | ok NM=>
         cases NM with
         | ret r=>
           obtain⟨rfl,hq⟩:=E6
           repeat (any_goals (first | assumption | wp_step))
         | _=>exact E6.elim
   | _=>exact hr.elim
end
theorem bh:Slot "set_iterator" "__next__" "set_iterator.__next__":=
 .of (owner:="set_iterator") (n:="__next__") (by rw[typeLookup_type,builtinLookup_eq_fast];kernel_rfl) (by decide +kernel) (by decide +kernel) (by decide +kernel)
   (by first | exact .inl (by decide +kernel) | exact .inr (by decide +kernel)) (by rw[isSubtype_type];kernel_rfl)
theorem lN:Slot "set_iterator" "__iter__" "set_iterator.__iter__":=
 .of (owner:="set_iterator") (n:="__iter__") (by rw[typeLookup_type,builtinLookup_eq_fast];kernel_rfl) (by decide +kernel) (by decide +kernel) (by decide +kernel)
   (by first | exact .inl (by decide +kernel) | exact .inr (by decide +kernel)) (by rw[isSubtype_type];kernel_rfl)
theorem eX:entryFor table "set_iterator.__next__"=some Builtin.«set_iterator.__next__»:=entryFor_of_fast (by kernel_rfl)
theorem fW (a:Value):argsOk "set_iterator.__next__" ⟨[a],[]⟩:=by unfold argsOk;kernel_rfl
theorem vi:entryFor table "set.__iter__"=some Builtin.«frozenset.__iter__»:=
 entryFor_alias (id':="frozenset.__iter__") (by kernel_rfl) rfl (by decide +kernel) (by kernel_rfl)
noncomputable abbrev kZ (a:Addr) (n ep:Nat) (f:Value) (i:Nat):Obj:={ cls:=.type "set_iterator",dict:=none,data:=.fields #[f,rawInt i,.ref a,rawInt n,rawInt ep],slots:=#[] }
variable {es:Array (Int×Value)}{i sl:Nat}{Q:Option Value->Shared->Prop}
section
variable {prog:Program}{E:Value->Shared->Prop}
theorem Jr{nx:Nat}{x:Value}(hI:s.heap.get? I=some (kZ a n ep (rawInt sl) i))(ho:s.heap.get? a=some o)(hd:o.data=.set es ep t)(hf:t.fits es.size=true)(hn:es.size=n)
   (hN:∀ {A':Around} {E':Value->Shared->Prop} {Q':Option (Value×Nat)->Shared->Prop},Q' (some (x,nx)) s->wpAny (model prog w) A' (setNext a sl i ep) Q' E' s)
   (hQ:∀ h',h'.get? I=some (kZ a n ep (rawInt nx) (i+1))->Heap.SameBut I s.heap h'->Q (some x) { s with heap:=h' }):wpAny (model prog w) A (pyNext (.ref I)) Q E s:=by
 have hT:s.TypeIs (.ref I) "set_iterator":=⟨_,hI,rfl⟩
 unfold pyNext;refine Pe (wpAny_attempt (wpAny_callSpecial?_slot (name:=Str.ofString "__next__") hT bh (wpAny_call_entry bh hT eX ?_ (fW _))));refine(?_:wpAny _ _ (fieldsOf (.ref I) >>= _) _ _ s);refine Pe (wpAny_fieldsOf hI rfl ?_);refine(?_:wpAny _ _ (setEntries a >>= _) _ _ s);refine Pe (wpAny_setEntries_of ho hd hf ?_);rw[if_neg (by rw[hn];simp)];show wpAny _ _ (setNext a (Int.toNat (sl:Int)) (Int.toNat (i:Int)) (Int.toNat (ep:Int)) >>= _) _ _ s;rw[QY,QY,QY];refine Pe (hN ?_);refine Pe (wpAny_setField_rec hI (by simp) λh1 e1 k1=>?_);refine Pe (wpAny_setField_rec e1 (by simp) λh2 e2 k2=>?_);exact Ql ⟨x,rfl,Ql (hQ h2 e2 (k1.trans k2))⟩
theorem NQ{a:Addr}{i:Nat}(hh:A.handled=none)(hI:s.heap.get? I=some (kZ a n ep (rawInt sl) i))(ho:s.heap.get? a=some o)(hd:o.data=.set es ep t)(hf:t.fits es.size=true)(hn:es.size=n)
   (hN:∀ {A':Around} {E':Value->Shared->Prop} {Q':Option (Value×Nat)->Shared->Prop},Q' none s->wpAny (model prog w) A' (setNext a sl i ep) Q' E' s)
   (hQ:∀ h',Heap.ExtBut I s.heap h'->Q none { s with heap:=h' }):wpAny (model prog w) A (pyNext (.ref I)) Q E s:=by
 have hT:s.TypeIs (.ref I) "set_iterator":=⟨_,hI,rfl⟩
 unfold pyNext;refine Pe (wpAny_attempt (wpAny_callSpecial?_slot (name:=Str.ofString "__next__") hT bh (wpAny_call_entry bh hT eX ?_ (fW _))));show wpAny _ _ (fieldsOf (.ref I) >>= _) _ _ s;refine Pe (wpAny_fieldsOf hI rfl ?_);refine(?_:wpAny _ _ (setEntries a >>= _) _ _ s);refine Pe (wpAny_setEntries_of ho hd hf ?_);rw[if_neg (by rw[hn];simp)];show wpAny _ _ (setNext a (Int.toNat (sl:Int)) (Int.toNat (i:Int)) (Int.toNat (ep:Int)) >>= _) _ _ s;rw[QY,QY,QY];refine Pe (hN ?_);refine Pe (wpAny_setField (i:=2) (x:=Value.none) hI rfl (by simp) ?_);show wpAny _ _ (newExc (.type "StopIteration") [] >>= _) _ _ _;refine Pe ?_;unfold newExc newTuple;refine Pe (QX ?_ (by size_fits));refine Pe (m:=firstArgMember _ _) (wpAny_of_eq (a:=Value.none) (by first | rfl | (simp only[firstArgMember];rfl)) ?_);refine QX ?_ (by size_fits);unfold raiseNew;refine Pe (wpAny_handled ?_);rw[show A.in1.handled=none from hh];refine Pe (Ql (wpAny_throw ?_));refine Pe (wpAny_isInstance (T:="StopIteration") (b:=true) ⟨_,Qy _ rfl,rfl⟩ isSubtype_stop ?_);exact Ql (hQ _ (((Heap.SameBut.update ..).extBut.push _).push _))
theorem sW(hb:CO w=true)(ho:s.heap.get? a=some o)(hd:o.data=.set es ep t)(hf:t.fits es.size=true){Q:Option (Value×Nat)->Shared->Prop}
   (h:Q (((pickOrder (w.params.setOrder a ep) es)[i]?).map λe=>(e.2,sl)) s):wpAny (model prog w) A (setNext a sl i ep) Q E s:=by
 unfold setNext;refine Pe (wpAny_setState_of ho hd hf ?_)
 skip
 unfold setsByText;refine Pe (Pe (wpAny_askSetting (Ql ?_)))
 skip
 have hb':(model prog w).w.params.followText "set-order"=true:=hb;rw[if_pos hb',if_neg (by simp)];refine Pe ?_;unfold setWalk setsByText;refine Pe (wpAny_setState_of ho hd hf ?_)
 skip
 refine Pe (Pe (wpAny_askSetting (Ql ?_)))
 skip
 rw[if_pos hb'];refine Pe (wpAny_askSetting (Ql (Ql h)))
set_option tactic.hygienic true in
theorem sX(hb:CO w=false)(hled:t.led=true)(h1:es.size<=1)(ho:s.heap.get? a=some o)(hd:o.data=.set es ep t)(hf:t.fits es.size=true){Q:Option (Value×Nat)->Shared->Prop}
   (h:Q (match es[SetTable.below t.place sl]?,t.place[SetTable.below t.place sl]? with | some (_,x),some j=>some (x,j+1) | _,_=>none) s):wpAny (model prog w) A (setNext a sl i ep) Q E s:=by
 unfold setNext;refine Pe (wpAny_setState_of ho hd hf ?_)
 skip
 unfold setsByText;refine Pe (Pe (wpAny_askSetting (Ql ?_)))
 skip
 have hb':¬ (model prog w).w.params.followText "set-order"=true:=by show ¬ CO w=true;rw[hb];exact QB
 rw[if_neg hb'];split
 . rename_i hdr;have hdr:(!t.plain&&decide (es.size > 1))=true:=hdr;simp only[Qw,decide_eq_true_eq] at hdr;omega
 . refine Pe ?_;show wpAny _ _ (if (!t.led&&!es.isEmpty)=true then unsupported "set:maker-not-led" else pure ()) _ _ _;rw[if_neg (by rw[hled];simp)];exact Ql (Ql h)
end
theorem lB:∀ (l:List α) (i:Nat) (x:α),l[i]?=some x->l.Perm (x::l.eraseIdx i)
 | [],i=>@λx h=>by simp at h
 | y::l,0=>@λx h=>by (injection h with e0_;subst e0_);exact .refl _
 | y::l,i+1=>@λx h=>by
   have h':l[i]?=some x:=by simpa using h
   exact((lB l i x h').cons y).trans (.swap ..)
theorem AA(next:Nat->Nat):∀ (fuel k:Nat) (left:List α) (out:Array α),left.length<=fuel->(pickOrder.go next fuel k left out).toList.Perm (out.toList++left)
 | 0=>@λk left out h=>by have:left=[]:=RH (Nat.le_zero.mp h);subst this;rw[QG];exact .refl _
 | fuel+1=>@λk left out h=>by
   show (match left[next k % left.length]? with | some x=>pickOrder.go next fuel (k+1) (left.eraseIdx (next k % left.length)) (out.push x) | none=>out).toList.Perm _;cases hx:left[next k % left.length]? with
   | some x=>
     have hp:=lB left _ x hx;have hl:(left.eraseIdx (next k % left.length)).length<=fuel:=by have:=hp.length_eq;rw[QF] at this;omega
     refine(AA next fuel (k+1) _ _ hl).trans ?_;rw[Tw,Qr];exact hp.symm.append_left _
   | none=>
     have:left=[]:=by
       cases left with
       | nil=>rfl
       | cons y l=>
         have:next k % (y::l).length < (y::l).length:=Nat.mod_lt _ (by simp)
         rw[Qk this] at hx;injection hx
     rw[this,QG]
theorem kj(next:Nat->Nat)(xs:Array α):(pickOrder next xs).toList.Perm xs.toList:=by
 unfold pickOrder;have:=AA next xs.size 0 xs.toList #[] (by simp)
 simpa using this
variable {tp:Addr}{ps:Array Value}{nt:Nat}{ot:Obj}{src:Source}
section
variable {prog:Program}{E:Value->Shared->Prop}
theorem zK{Q:Nat->Shared->Prop}(hn:n≠0)(h:∀ k d,k < n->Q k { s with drawn:=d }):wpAny (model prog w) A (choose src n) Q E s:=λΓ p hΓ=>by unfold choose;rw[Sem.wp_choose];exact⟨hn,h _ _ (Nat.mod_lt _ (Nat.pos_of_ne_zero hn))⟩
theorem xO:∀ (n:Nat) (xs:List α) (s:Shared) {Q:List α->Shared->Prop},xs.length<=n->(∀ ys d,ys.Perm xs->Q ys { s with drawn:=d })->wpAny (model prog w) A (drawOrder n xs) Q E s
 | 0,xs=>@λs Q h hQ=>by have:xs=[]:=RH (Nat.le_zero.mp h);subst this;show wpAny _ _ (pure []) _ _ _;exact Ql (hQ [] s.drawn (.refl _))
 | n+1,[]=>@λs Q h hQ=>by show wpAny _ _ (pure []) _ _ _;exact Ql (hQ [] s.drawn (.refl _))
 | n+1,x::xs=>@λs Q h hQ=>by
   show wpAny _ _ (do let i <- choose .order (x::xs).length;match (x::xs)[i]? with | some y=>return y::(<- drawOrder n ((x::xs).eraseIdx i)) | none=>unsupported "internal:drawOrder") _ _ _;refine Pe (zK (by simp) λk d hk=>?_);rw[Qk hk];dsimp only;have hp:=lB (x::xs) k _ (Qk hk);have hl:((x::xs).eraseIdx k).length<=n:=by have:=hp.length_eq;rw[QF] at this h;rw[QF] at this;omega
   refine Pe (xO n _ _ hl λys d' hys=>?_);exact Ql (hQ _ d' ((hys.cons _).trans hp.symm))
theorem Nj{pl:Nat}{h0:Int}{x:Value}(hI:s.heap.get? I=some (kZ a n ep (.ref tp) i))(ho:s.heap.get? a=some o)(hd:o.data=.set es ep t)(hf:t.fits es.size=true)(hn:es.size=n)
   (htp:s.heap.get? tp=some ot) (hdt:ot.data=.seq ps nt) (hp:ps[i]?=some (rawInt pl)) (hx:es[pl]?=some (h0,x))
   (hQ:∀ h',h'.get? I=some (kZ a n ep (.ref tp) (i+1))->Heap.SameBut I s.heap h'->Q (some x) { s with heap:=h' }):wpAny (model prog w) A (pyNext (.ref I)) Q E s:=by
 have hT:s.TypeIs (.ref I) "set_iterator":=⟨_,hI,rfl⟩
 unfold pyNext;refine Pe (wpAny_attempt (wpAny_callSpecial?_slot (name:=Str.ofString "__next__") hT bh (wpAny_call_entry bh hT eX ?_ (fW _))));show wpAny _ _ (fieldsOf (.ref I) >>= _) _ _ s;refine Pe (wpAny_fieldsOf hI rfl ?_);show wpAny _ _ (setEntries a >>= _) _ _ s;refine Pe (wpAny_setEntries_of ho hd hf ?_);rw[if_neg (by rw[hn];simp)];show wpAny _ _ (seqItems? (.ref tp) >>= _) _ _ s;refine Pe (wpAny_seqItems htp hdt ?_);show wpAny _ _ (match ps[Int.toNat (i:Int)]? with | some (.int place _)=>_ | some _=>_ | none=>_) _ _ s;rw[QY,hp];show wpAny _ _ (setNextDrawn a (Int.toNat (pl:Int)) (Int.toNat (ep:Int)) >>= _) _ _ s;rw[QY,QY];refine Pe ?_;unfold setNextDrawn;refine Pe (wpAny_setState_of ho hd hf ?_);dsimp only;rw[if_neg (by simp),hx];refine Ql ?_;refine Pe (wpAny_setField_rec hI (by simp) λh1 e1 k1=>?_);exact Ql ⟨x,rfl,Ql (hQ h1 e1 k1)⟩
theorem OH{a:Addr}{i:Nat}(hh:A.handled=none)(hI:s.heap.get? I=some (kZ a n ep (.ref tp) i))(ho:s.heap.get? a=some o)(hd:o.data=.set es ep t)(hf:t.fits es.size=true)(hn:es.size=n)
   (htp:s.heap.get? tp=some ot) (hdt:ot.data=.seq ps nt) (hp:ps[i]?=none)
   (hQ:∀ h',Heap.ExtBut I s.heap h'->Q none { s with heap:=h' }):wpAny (model prog w) A (pyNext (.ref I)) Q E s:=by
 have hT:s.TypeIs (.ref I) "set_iterator":=⟨_,hI,rfl⟩
 unfold pyNext;refine Pe (wpAny_attempt (wpAny_callSpecial?_slot (name:=Str.ofString "__next__") hT bh (wpAny_call_entry bh hT eX ?_ (fW _))));show wpAny _ _ (fieldsOf (.ref I) >>= _) _ _ s;refine Pe (wpAny_fieldsOf hI rfl ?_);show wpAny _ _ (setEntries a >>= _) _ _ s;refine Pe (wpAny_setEntries_of ho hd hf ?_);rw[if_neg (by rw[hn];simp)];show wpAny _ _ (seqItems? (.ref tp) >>= _) _ _ s;refine Pe (wpAny_seqItems htp hdt ?_);show wpAny _ _ (match ps[Int.toNat (i:Int)]? with | some (.int place _)=>_ | some _=>_ | none=>_) _ _ s;rw[QY,hp];refine Pe (wpAny_setField_rec (x:=rawInt 0) hI (by simp) λh1 e1 k1=>?_);refine Pe (wpAny_setField (i:=2) (x:=Value.none) e1 rfl (by simp) ?_);show wpAny _ _ (newExc (.type "StopIteration") [] >>= _) _ _ _;refine Pe ?_;unfold newExc newTuple;refine Pe (QX ?_ (by size_fits));refine Pe (m:=firstArgMember _ _) (wpAny_of_eq (a:=Value.none) (by first | rfl | (simp only[firstArgMember];rfl)) ?_);refine QX ?_ (by size_fits);unfold raiseNew;refine Pe (wpAny_handled ?_);rw[show A.in1.handled=none from hh];refine Pe (Ql (wpAny_throw ?_));refine Pe (wpAny_isInstance (T:="StopIteration") (b:=true) ⟨_,Qy _ rfl,rfl⟩ isSubtype_stop ?_);refine Ql (hQ _ ?_);exact(((k1.trans (Heap.SameBut.update ..)).extBut.push _).push _)
end
theorem sC:entryFor table "set_iterator.__iter__"=some Builtin.«dict_keyiterator.__iter__»:=
 entryFor_alias (id':="dict_keyiterator.__iter__") (by kernel_rfl) rfl (by decide +kernel) (by kernel_rfl)
theorem vE (a:Value):argsOk "set_iterator.__iter__" ⟨[a],[]⟩:=by unfold argsOk;kernel_rfl
theorem StrEnts.strs:∀ {es:List (Int×Value)} {L:List Str},StrEnts w es L->PyProof.Rows.StrsAre (es.map (·.2)) L
 | _,_,.nil=>.nil
 | _,_,.cons x t r=>.cons x t r.strs
variable {Q:Value->Shared->Prop}
section
variable {prog:Program}{E:Value->Shared->Prop}
theorem mU(hI:s.heap.get? I=some (kZ a n ep f i))(h:Q (.ref I) s):wpAny (model prog w) A (pyIter (.ref I)) Q E s:=by
 have hT:s.TypeIs (.ref I) "set_iterator":=⟨_,hI,rfl⟩
 refine wpAny_pyIter_slot hT lN (wpAny_call_entry lN hT sC ?_ (vE _));show wpAny _ _ (ret (.ref I)) _ _ s;exact Ql ⟨_,rfl,"set_iterator",_,hT,bh.lookup,h⟩
theorem J9(hb:CO w=true)(hne:a≠I)(hd:o.data=.set es ep t)(hf:t.fits es.size=true)(hh:A.handled=none) :
   Walks prog w A I [I,a] [I] es.size (λi v=>((pickOrder (w.params.setOrder a ep) es).toList.map (·.2))[i]?=some v) (λi h=>h.get? I=some (kZ a es.size ep (rawInt (0:Nat)) i)/\h.get? a=some o) where
 sub:=λb hb=>by simp at hb;simp[hb]
 frame:=λ_ _ _ st hk=>⟨hk I (by simp) _ st.1,hk a (by simp) _ st.2⟩
 item:=λi s Q E hi st hQ=>by
   have hsz:(pickOrder (w.params.setOrder a ep) es).size=es.size:=by rw[<- QA,(kj _ es).length_eq,QA]
   have hlt:i < (pickOrder (w.params.setOrder a ep) es).size:=by rw[hsz];exact hi
   refine Jr (x:=(pickOrder (w.params.setOrder a ep) es)[i].2) (nx:=0) st.1 st.2 hd hf rfl (λq=>sW hb st.2 hd hf (by rw[SN hlt];exact q)) λh' e' k'=>?_;exact hQ _ h' s.toks (by simp[hlt]) ⟨e',k'.extBut a _ hne st.2⟩ λb o hb e=>k'.extBut b o (λq=>hb (by simp[q])) e
 done:=λs Q E st hQ=>by
   have hsz:(pickOrder (w.params.setOrder a ep) es).size=es.size:=by rw[<- QA,(kj _ es).length_eq,QA]
   refine NQ hh st.1 st.2 hd hf rfl (λq=>sW hb st.2 hd hf (by rw[Sv (Q4 hsz)];exact q)) λh' e'=>?_;exact hQ h' s.toks λb o hb e=>e' b o (λq=>hb (by simp[q])) e
 self:=λ_ _ _ _ st hQ=>mU st.1 hQ
noncomputable def xL(es:Array (Int×Value))(k:Nat):Int×Value:=(es[k]?).getD (0,.none)
theorem xK(es:Array (Int×Value)):(List.range es.size).map (xL es)=es.toList:=by
 refine S8 λi=>?_;rw[Q0];by_cases h:i < es.size
 . rw[Qk (by simpa using h)];simp[xL,h]
 . rw[RK (by simpa using h),RK (by simpa using h)];rfl
theorem Kb{ys:List Nat}(hys:ys.Perm (List.range es.size))(hne:a≠I)(hnt:tp≠I)(hd:o.data=.set es ep t)(hf:t.fits es.size=true)(hdt:ot.data=.seq (ys.map λ(k:Nat)=>rawInt (k:Int)).toArray)(hh:A.handled=none) :
   Walks prog w A I [I,a,tp] [I] es.size (λi v=>((ys.map (xL es)).map (·.2))[i]?=some v) (λi h=>h.get? I=some (kZ a es.size ep (.ref tp) i)/\h.get? a=some o/\h.get? tp=some ot) where
 sub:=λb hb=>by simp at hb;simp[hb]
 frame:=λ_ _ _ st hk=>⟨hk I (by simp) _ st.1,hk a (by simp) _ st.2.1,hk tp (by simp) _ st.2.2⟩
 item:=λi s Q E hi st hQ=>by
   have hl:ys.length=es.size:=by rw[hys.length_eq,RU]
   have hlt:i < ys.length:=by rw[hl];exact hi
   have hm:ys[i] < es.size:=RV.mp (hys.mem_iff.mp (SQ hlt));refine Nj (pl:=ys[i]) (h0:=(es[ys[i]]).1) (x:=(es[ys[i]]).2) st.1 st.2.1 hd hf rfl st.2.2 hdt (by simp[hlt]) (by simp[hm]) λh' e' k'=>?_;exact hQ _ h' s.toks (by simp[hlt,xL,hm]) ⟨e',k'.extBut a _ hne st.2.1,k'.extBut tp _ hnt st.2.2⟩ λb o hb e=>k'.extBut b o (λq=>hb (by simp[q])) e
 done:=λs Q E st hQ=>by
   have hl:ys.length=es.size:=by rw[hys.length_eq,RU]
   refine OH hh st.1 st.2.1 hd hf rfl st.2.2 hdt (by simp[hl]) λh' e'=>?_;exact hQ h' s.toks λb o hb e=>e' b o (λq=>hb (by simp[q])) e
 self:=λ_ _ _ _ st hQ=>mU st.1 hQ
theorem t4(j sl:Nat):SetTable.below #[j] sl=if j < sl then 1 else 0:=by show SetTable.below.go #[j] sl 1 0 1=_;exact(show SetTable.below.go #[j] sl 1 0 1=(if (0:Nat) < 1 then (if j < sl then 1 else 0) else 0) from rfl).trans (if_pos (by decide))
theorem Ka(hb:CO w=false)(hled:t.led=true)(h1:es.size<=1)(hne:a≠I)(hd:o.data=.set es ep t)(hf:t.fits es.size=true)(hh:A.handled=none) :
   Walks prog w A I [I,a] [I] es.size (λi v=>(es.toList.map (·.2))[i]?=some v) (λi h=>h.get? I=some (kZ a es.size ep (rawInt ((if i=0 then 0 else (t.place[0]?).getD 0+1:Nat):Int)) i)/\h.get? a=some o) where
 sub:=λb hb=>by simp at hb;simp[hb]
 frame:=λ_ _ _ st hk=>⟨hk I (by simp) _ st.1,hk a (by simp) _ st.2⟩
 item:=λi s Q E hi st hQ=>by
   have hi0:i=0:=Tt.mp (Q3 hi h1);subst hi0;have hs1:es.size=1:=Si h1 hi;have hps:t.place.size=1:=by simp only[SetTable.fits,Qw,beq_iff_eq] at hf;exact hf.1.trans hs1
   obtain⟨j,hj⟩:∃ j,t.place=#[j]:=TL.mp hps;refine Jr (sl:=0) (x:=es[0].2) (nx:=j+1) st.1 st.2 hd hf rfl (λq=>sX hb hled h1 st.2 hd hf (by rw[hj,t4,if_neg (Nat.not_lt_zero _)];simpa[hs1] using q)) λh' e' k'=>?_;exact hQ _ h' s.toks (by simp[hs1]) ⟨by simpa[hj] using e',k'.extBut a _ hne st.2⟩ λb o hb e=>k'.extBut b o (λq=>hb (by simp[q])) e
 done:=λs Q E st hQ=>by
   refine NQ (sl:=if es.size=0 then 0 else (t.place[0]?).getD 0+1) hh st.1 st.2 hd hf rfl (λq=>sX hb hled h1 st.2 hd hf ?_) λh' e'=>?_
   . have hps:t.place.size=es.size:=by simp only[SetTable.fits,Qw,beq_iff_eq] at hf;exact hf.1
     have hn:es[SetTable.below t.place (if es.size=0 then 0 else (t.place[0]?).getD 0+1)]?=none:=by
       by_cases h0:es.size=0
       . exact Sv (by rw[h0];exact QI _)
       . obtain⟨j,hj⟩:∃ j,t.place=#[j]:=TL.mp (hps.trans (Si h1 (Nat.pos_of_ne_zero h0)));rw[if_neg h0,hj];show es[SetTable.below #[j] (j+1)]?=none;rw[t4,if_pos (Sq _)];exact Sv h1
     rw[hn];exact q
   . exact hQ h' s.toks λb o hb e=>e' b o (λq=>hb (by simp[q])) e
 self:=λ_ _ _ _ st hQ=>mU st.1 hQ
end
variable {fp:List Addr}{its:List Value}
section
variable {prog:Program}{E:Value->Shared->Prop}
def Oa(prog:Program)(w:World)(I:Addr)(its:List Value)(h:Heap)(P:Addr->Prop):Prop:=X2 λ(fp:List Addr) (St:Nat->Heap->Prop)=>A4 ((∀ A':Around,A'.handled=none->Walks prog w A' I fp [I] its.length (λi v=>its[i]?=some v) St)) (St 0 h) ((∀ b∈fp,P b)) (I∈fp)
theorem uY{St:Nat->Heap->Prop}(hl:its.length=n)(W:∀ A':Around,A'.handled=none->Walks prog w A' I fp [I] n (λi v=>its[i]?=some v) St){P:Addr->Prop}(h0:St 0 h)(h1:∀ b∈fp,P b)(h2:I∈fp):Oa prog w I its h P:=⟨fp,St,λA' hA'=>hl▸W A' hA',h0,h1,h2⟩
set_option tactic.hygienic true in
theorem EX{a:Addr}(hS:cJ w s.heap a L)
   (h:∀ (I:Addr) (h':Heap) (d:Drawn) (its:List Value) (L':List Str),PyProof.Rows.StrsAre its L'->L'.Perm L->Oa prog w I its h' (λb=>b=a\/s.heap.objs.size<=b)->(∀ b o,s.heap.get? b=some o->h'.get? b=some o)->s.heap.objs.size<=I->Q (.ref I) { s with heap:=h',drawn:=d }) :
   wpAny (model prog w) A (pyIter (.ref a)) Q E s:=by
 obtain⟨o,es,ep,t,ho,hex,hd,hel,hb,hf,hled,hpl⟩:=id hS;have hsz:es.size=L.length:=by exact QA▸hel.length
 have hT:s.TypeIs (.ref a) "set":=⟨o,ho,hex.1⟩
 have hla:a < s.heap.objs.size:=Q8 ho;refine wpAny_pyIter_slot hT F.slot_set_iter (wpAny_call_entry F.slot_set_iter hT vi ?_ (F.args_set_iter_1 _));unfold Builtin.«frozenset.__iter__» Builtin.Frozenset.slot0 slotArgs;simp only[List.isEmpty_nil,SE,SV,↓reduceIte,bind_assoc,RO,bne_self_eq_false];unfold Builtin.Frozenset.addrOf Builtin.Frozenset.sizeOf;refine Pe (Ql ?_)
 skip
 refine Pe (Ql ?_);refine Pe (Pe (wpAny_setEntries_of ho hd hf (Ql ?_)));unfold setDrawn setsByText;refine Pe (Pe (wpAny_setState_of ho hd hf ?_))
 skip
 refine Pe (Pe (wpAny_askSetting (Ql ?_)))
 skip
 refine Ql ?_;have lt2:∀ (h0:Heap) (ob:Obj),h0.objs.size < (h0.push ob).objs.size:=λh0 ob=>by rw[Ss];exact Sq _
 split
 . rename_i hdr;have hdr:(!CO w&&(!t.plain&&decide (es.size > 1)))=true:=hdr;refine Pe (xO es.size (List.range es.size) s (by simp) λys d hys=>?_);have hyl:ys.length=es.size:=by rw[hys.length_eq,RU]
   unfold newTuple;refine Pe (QX ?_ (by show (ys.map λ(i:Nat)=>rawInt (i:Int)).length<=sizeLine;rw[PN,hyl];exact fits_of_scanBound (by rw[hsz];exact hb)))
   refine Pe (wpAny_setEpoch_of (Qm _ ho) hd hf ?_);unfold newFields;refine Pe (QX ?_);refine Ql ⟨_,rfl,"set_iterator",_,⟨_,Qy _ rfl,rfl⟩,bh.lookup,?_⟩;have hp:(ys.map (xL es)).Perm es.toList:=by rw[<- xK];exact hys.map _
   refine(hel.perm hp).elim λL' q9=>?_;have hL':=q9.1;have pL':=q9.2;have W:=λ(A':Around) (hA':A'.handled=none)=>Kb (prog:=prog) (w:=w) (A:=A') (I:=(s.heap.push { cls:=.type "tuple",data:=.seq (ys.map λ(i:Nat)=>rawInt (i:Int)).toArray }).objs.size) (a:=a) (tp:=s.heap.objs.size) (o:=o) (ot:={ cls:=.type "tuple",data:=.seq (ys.map λ(i:Nat)=>rawInt (i:Int)).toArray }) hys (Rd (Nat.lt_trans hla (lt2 _ _))) (Rd (lt2 _ _)) hd hf rfl hA';refine h _ _ d _ L' hL'.strs pL' (uY (by rw[PN,PN,hyl]) W ?_ ?_ ?_) (λb o e=>Qm _ (Qm _ e)) (Q7 (lt2 _ _))
   . exact⟨Qy _ rfl,Qm _ (Qm _ ho),Qm _ (Qy _ rfl)⟩
   . intro b hb;simp only[Qq,Re,or_false] at hb;rcases hb with rfl | rfl | rfl
     . exact .inr (Q7 (lt2 _ _))
     . exact .inl rfl
     . exact .inr (QP _)
   . exact Qh ..
 . rename_i hdr;have hdr:¬ (!CO w&&(!t.plain&&decide (es.size > 1)))=true:=hdr;refine Pe (Ql ?_);refine Pe (wpAny_setEpoch_of ho hd hf ?_);unfold newFields;refine Pe (QX ?_);refine Ql ⟨_,rfl,"set_iterator",_,⟨_,Qy _ rfl,rfl⟩,bh.lookup,?_⟩;cases hbt:CO w with
   | true=>
     obtain⟨L',hL',pL'⟩:=hel.perm (kj (w.params.setOrder a ep) es);have W:=λ(A':Around) (hA':A'.handled=none)=>J9 (prog:=prog) (w:=w) (A:=A') (I:=s.heap.objs.size) (a:=a) (o:=o) hbt (Rd hla) hd hf hA';refine h _ _ s.drawn _ L' hL'.strs pL' (uY (by rw[PN,(kj _ es).length_eq,QA]) W ?_ ?_ ?_) (λb o e=>Qm _ e) (QP _)
     . exact⟨Qy _ rfl,Qm _ ho⟩
     . intro b hb;simp only[Qq,Re,or_false] at hb;rcases hb with rfl | rfl
       . exact .inr (QP _)
       . exact .inl rfl
     . exact Qh ..
   | false=>
     have h1:es.size<=1:=by
       rcases TM 1 es.size with q | q
       . rw[hbt,(hpl (λe=>by rw[hsz,e] at q;simp at q)),decide_eq_true q] at hdr;exact absurd rfl hdr
       . exact q
     have W:=λ(A':Around) (hA':A'.handled=none)=>Ka (prog:=prog) (w:=w) (A:=A') (I:=s.heap.objs.size) (a:=a) (o:=o) hbt (by rw[hled,hbt];rfl) h1 (Rd hla) hd hf hA';refine h _ _ s.drawn _ L hel.strs (.refl _) (uY (by rw[PN,QA]) W ?_ ?_ ?_) (λb o e=>Qm _ e) (QP _)
     . exact⟨Qy _ rfl,Qm _ ho⟩
     . clear W;clear h;intro b hb;simp only[Qq,Re,or_false] at hb;rcases hb with rfl | rfl
       . exact .inr (QP _)
       . exact .inl rfl
     . exact Qh ..
theorem pW:typeLookup (.type "set") (Str.ofString "__len__")=pure (some (.builtin "set.__len__")):=F.slot_set_len.lookup
theorem xW{Q:List Value->Shared->Prop}(hh:A.handled=none)(hS:cJ w s.heap a L)
   (h:∀ (h':Heap) (d:Drawn) (tk:Nat) (its:List Value) (L':List Str),PyProof.Rows.StrsAre its L'->L'.Perm L->(∀ b o,s.heap.get? b=some o->h'.get? b=some o)->s.heap.objs.size<=h'.objs.size->Q its { s with heap:=h',drawn:=d,toks:=tk }) :
   wpAny (model prog w) A (collect (.ref a)) Q E s:=by
 obtain⟨o,es,ep,t,ho,hex,hd,hel,hb,hf,hled,hpl⟩:=id hS;have hSI:s.heap.objs.size≠a:=Sz (Q8 ho);unfold collect;refine Pe (wpAny_runValue (codeAny_builtin F.entry_proto_collect ?_));rw[Around.under_plainId F.plain_proto_collect _];show wpAny _ A.in1 (newList [] >>= λl=>again (.builtin "list.__iadd__" ⟨[l,.ref a],[]⟩)) _ _ s;refine Pe (QX ?_);refine Ql ⟨plainId_quiet F.plain_list_iadd _,codeAny_builtin F.entry_list_iadd ?_⟩;rw[Around.under_plainId F.plain_list_iadd _];have Ny:(s.heap.push { cls:=.type "list",data:=.seq ([]:List Value).toArray }).get? s.heap.objs.size=some { cls:=.type "list",data:=.seq ([]:List Value).toArray }:=Qy _ rfl;have hSS:cJ w (s.heap.push { cls:=.type "list",data:=.seq ([]:List Value).toArray }) a L:=hS.keep λo e=>Qm _ e;have hT:Shared.TypeIs { s with heap:=s.heap.push { cls:=.type "list",data:=.seq ([]:List Value).toArray } } (.ref a) "set":=⟨o,Qm _ ho,hex.1⟩
 refine(?_:wpAny _ A.in1 (Builtin.List.listExtendWith (.ref s.heap.objs.size) (.ref a) (.ref s.heap.objs.size)) _ _ _);unfold Builtin.List.listExtendWith;refine Pe (wpAny_typeOf hT ?_);have h1:Builtin.List.listSameRef (.ref s.heap.objs.size) (.ref a)=false:=by simp[Builtin.List.listSameRef,hSI]
 have h2:(Value.type "set"==Value.type "list")=false:=by decide
 have h3:(Value.type "set"==Value.type "tuple")=false:=by decide
 rw[h1,h2,h3,RW,RW,if_neg QB];refine Pe (EX (prog:=prog) hSS λI h' d its L' hits pL hgo hk hI=>?_);have hT':Shared.TypeIs { s with heap:=h',drawn:=d } (.ref a) "set":=⟨o,hk a o (Qm _ ho),hex.1⟩
 refine Pe (Rs ?_);unfold Builtin.List.listLengthHint;refine Pe (wpAny_specialOf hT' pW ?_)
 (generalize hid:("set.__len__":String)=id0;(fail_if_success (clear hid id0));wp_delta;rw[show splitId id0=some ("set","__len__") from by subst hid;decide +kernel];subst hid)
 refine Pe (wpAny_isInstance (b:=true) hT' sub_set_self ?_);refine(?_:wpAny _ A.in1 (typeOf (.ref a) >>= _) _ _ _);refine Pe (wpAny_typeOf hT' ?_);refine Ql ?_;refine(?_:wpAny _ A.in1 (rule "list.extend.makes-room" >>= λ_=>Builtin.List.listTouch (.ref s.heap.objs.size) >>= λ_=>again (.builtin "list.extend.loop" ⟨[.ref s.heap.objs.size,.ref I,.ref s.heap.objs.size],[]⟩)) _ _ _)
 refine Pe (wpAny_rule ?_);obtain⟨fp,St,W,hst,hfp,hIf⟩:=hgo;have hS1:=hk _ _ Ny;refine Pe ?_;show wpAny _ A.in1 (updateSeq s.heap.objs.size (·.push .none) >>= λ_=>updateSeq s.heap.objs.size (·.pop)) _ _ _;refine Pe (wpAny_updateSeq hS1 rfl ?_);have JA:=Ry (Obj.mapSeq (·.push Value.none)) hS1 rfl;refine wpAny_updateSeq JA rfl ?_;have hSf:s.heap.objs.size∉fp:=λq=>by
   rcases hfp _ q with e | e
   . exact hSI e
   . rw[Ss] at e;exact Sl _ e
 have oth:∀ b o,b≠s.heap.objs.size->h'.get? b=some o->((h'.update s.heap.objs.size (Obj.mapSeq (·.push Value.none))).update s.heap.objs.size (Obj.mapSeq (·.pop))).get? b=some o:=
   λb o hb e=>(RG _ _ (Ne.symm hb)).trans ((RG _ _ (Ne.symm hb)).trans e)
 have WS:=(W A.in1 hh).toS;have hlen:its.length=L.length:=by
   have:∀ {vs:List Value} {ss:List Str},PyProof.Rows.StrsAre vs ss->vs.length=ss.length:=λq=>by
     induction q with
     | nil=>rfl
     | cons _ _ _ ih=>exact congrArg (·+1) ih
   rw[this hits,pL.length_eq]
 refine Ql ⟨plainId_quiet F.plain_extend_loop _,codeAny_extend_loopS WS (by rw[hlen];exact fits_of_scanBound hb) _ hSf _ its.length 0 _ _ _ rfl (QI _)
   (WS.frame 0 { s with heap:=h',drawn:=d } _ s.toks hst (QP _) λb hb o e=>oth b o (λq=>hSf (q▸hb)) e) (Ry (Obj.mapSeq (·.pop)) JA rfl) (ItemsOf.nil _) λs' acc' c' hm hS' hacc=>?_⟩
 refine(?_:wpAny _ A (load s.heap.objs.size >>= _) _ _ s');refine Pe (wpAny_load hS' ?_);have hacc':acc'.toList=its:=by
   refine S8 λi=>?_;by_cases hi:i < its.length
   . have:i < acc'.size:=by rw[hacc.1];exact hi
     have:=hacc.2 i acc'[i] (by simp[this]);rw[this];simp
   . rw[RK (by rw[QA,hacc.1];omega),RK (by omega)]
 have es:s'={ s with heap:=s'.heap,drawn:=d,toks:=s'.toks }:=by have g1:=hm.gens;have g2:=hm.drawn;have g3:=hm.os;obtain⟨h5,g5,d5,t5,o5⟩:=s';simp only at g1 g2 g3;subst g1;subst g2;subst g3;rfl
 rw[es];refine Ql ?_;rw[hacc'];refine h s'.heap d s'.toks its L' hits pL (λb o e=>?_) ?_
 . have hbl:b < s.heap.objs.size:=Q8 e;have hbs:b≠s.heap.objs.size:=Rd hbl;refine hm.heap b o (λq=>?_) (oth b o hbs (hk b o (Qm _ e)));rcases Qq.mp q with q | q
   . exact hbs q
   . have h9:s.heap.objs.size+1<=I:=by have:=hI;rw[Ss] at this;exact this
     exact absurd ((Qt.mp q)▸hbl) (TY.mpr (Rp h9))
 . exact Q7 (Q8 hS')
theorem yy(hh:A.handled=none)(hS:cJ w s.heap a L)(h64:L.length < 64)
   (h:∀ (h':Heap) (d:Drawn) (tk:Nat) (r:Addr) (out:Array Value) (e:Nat) (ss':List Str),s.heap.objs.size<=r->h'.get? r=some (dq out e)->PyProof.Rows.StrsAre out.toList ss'->ss'.Perm L->PyProof.Rows.sortedS ss'=true->(∀ b o,s.heap.get? b=some o->h'.get? b=some o)->Q (.ref r) { s with heap:=h',drawn:=d,toks:=tk }) :
   wpAny (model prog w) A (call (.builtin "sorted") [.ref a]) Q E s:=by
 refine Calls.call_function_entry PyProof.Rows.kind_sorted PyProof.Rows.plain_sorted PyProof.Rows.entry_sorted (PyProof.Rows.args_sorted1 _) ?_;unfold Builtin.«sorted»;refine Pe (m:=checkCount "sorted" 1 1 _) (Ql ?_);refine Pe (xW (prog:=prog) (A:=A.in1) hh hS λh' d tk its L' hits pL hk hsz=>?_);have hlen:its.length < 64:=by
   have:∀ {vs:List Value} {ss:List Str},PyProof.Rows.StrsAre vs ss->vs.length=ss.length:=λq=>by
     induction q with
     | nil=>rfl
     | cons _ _ _ ih=>exact congrArg (·+1) ih
   rw[this hits,pL.length_eq];exact h64
 refine Pe (wpAny_newList ?_);have hoL:(h'.push (PyProof.Rows.seqObj "list" its.toArray 0)).get? h'.objs.size=some (PyProof.Rows.seqObj "list" its.toArray 0):=Qy _ rfl;refine Pe (Rs (wpAny_call_entry PyProof.Rows.slot_list_sort ⟨_,hoL,rfl⟩ PyProof.Rows.entry_list_sort (PyProof.Rows.list_sort_treeK PyProof.Rows.strKind_oneLt hoL hits.keysOf (λPN PM rest e=>PyProof.Rows.keyKind_strs (by exact e▸hits)) hlen λst' a1 a2=>⟨_,rfl,?_⟩) (PyProof.Rows.args_list_sort _)));refine kk λK k=>?_;obtain⟨ss',q1,q2,q3⟩:=PyProof.Rows.sorted_out_str hits a1 a2;obtain⟨e',he'⟩:=PyProof.Rows.sortedHeap_at (out:=(PyProof.Rows.arrOf st').map (·.2)) hoL;refine k ?_;refine Ql ⟨_,rfl,h _ d tk _ _ e' ss' hsz he' q1 (q2.trans pL) q3 λb o e=>?_⟩;have e2:=hk b o e;have hlt:b < h'.objs.size:=Q8 e2;rw[PyProof.Rows.sortedHeap_old (Rd hlt) (by rw[Ss];exact Nat.lt_succ_of_lt hlt)];exact Qm _ e2
end
variable {l:List PyData}
theorem HL{m:Bool}{c:V}(I:Inv Z β σ s.heap)(hl:l.length<=LIM)(hc:aM m l σ=.ok c σ')
   (q:X3 λa vs n=>A7 (v=.ref a) (s.heap.get? a=none) (s'.heap.get? a=some (dq vs n)) ((∀ b o,s.heap.get? b=some o->s'.heap.get? b=some o)) (s'.gens=s.gens) (s'.os=s.os) (RelAll (TT β σ) s.heap vs.toList l)) :
   Po Z O β σ s σ' s' λβ'=>VR v c β' σ' s'.heap:=by
 obtain⟨a,vs,n,rfl,hf,e,hk,hg,ho,r⟩:=q;unfold aM at hc;cases m with
 | true=>(injection hc with e0_ f0_;subst e0_;subst f0_);have N:=uH (O:=O) (c:=.lst l) I hk hf hg ho ⟨vs,n,e,r,hl⟩;exact⟨_,N.1,N.2,a,by rw[<- I.len];simp,rfl⟩
 | false=>(injection hc with e0_ f0_;subst e0_;subst f0_);exact⟨β,Step.grow hk hg ho,I.grow hk,.list e (I.notTT hf) hl (r.mono λx o _ _ e _ t=>⟨hk x o e,t⟩)⟩
theorem rf(y:Str)(l:List Str):cn (y::l)=if y∈l then cn l else y::cn l:=rfl
theorem bg:∀ {l:List Str},x∈cn l↔x∈l
 | []=>Iff.rfl
 | y::l=>by
   rw[rf];by_cases h:y∈l
   . rw[if_pos h,bg,Qq];exact⟨.inr,λq=>q.elim (λe=>e▸h) id⟩
   . rw[if_neg h,Qq,Qq,bg]
theorem bL:∀ l:List Str,(cn l).Nodup
 | []=>SM
 | y::l=>by
   rw[rf];by_cases h:y∈l
   . rw[if_pos h];exact bL l
   . rw[if_neg h];exact RB.mpr ⟨λq=>h (bg.mp q),bL l⟩
theorem oF{m:Bool}{vs:List Value}{c:V}(I:Inv Z β σ s.heap)(hh:A.handled=none)(rx:VRels β σ s.heap vs xs)(hc:yn .sortedSet m xs σ=.ok c σ') :
   wpAny (model Z.prog Z.w) A (call (.type "set") vs) (λt ai=>wpAny (model Z.prog Z.w) A (call (.builtin "sorted") [t]) (λv s''=>Po Z O β σ s σ' s'' λβ''=>VR v c β'' σ' s''.heap) (λ_ _=>False) ai) (λ_ _=>False) s:=by
 obtain⟨x,hx,hc⟩:=iB hc;replace hx:=de hx;subst hx;obtain⟨ss,hl,hc⟩:=iB hc;replace hc:=AX hc;obtain⟨hlim,hc⟩:=hc;cases rx with
 | cons r rs=>
   refine kk λK k=>?_;cases rs;obtain⟨l,hl,hs⟩:=Qo.mp hl;refine k ?_;apply (bb I hl r).el;intro a ws n e q z;obtain⟨S,rfl⟩:=pP q hs;have hlen:ws.toList.length=ss.length:=by have:=q.length;rw[PN] at this;exact this
   refine zM (vs:=ws.toList) hh ⟨_,e,rfl,_,rfl⟩ S hlen (by have:=hlim.1;omega) λh' tk L' hk hS hnd hm=>?_;have pL:L'.Perm (cn ss):=(List.perm_ext_iff_of_nodup hnd (bL ss)).mpr λy=>by rw[hm,bg]
   refine yy hh hS (by rw[pL.length_eq];exact hlim.2) λh'' d tk' r' out e' ss' hr he hss hp hso hk'=>?_;have:=gV hp hso;subst this;have hse:bW L'=bW (cn ss):=gV ((cu L').trans pL) hso;refine HL I (by have:=(cu (cn ss)).length_eq;simp[this,LIM];lia) hc ⟨r',out,e',rfl,ft ?_,he,λb o q=>hk' b o (hk b o q),rfl,rfl,?_⟩
   . obtain⟨o,_,_,_,ho,_⟩:=hS;have hr:h'.objs.size<=r':=hr;exact iv (Q7 (Q8 ho)) hr
   . exact hse▸(qc hss λx hx=>tJ q x (bg.mp (pL.mem_iff.mp ((cu L').mem_iff.mp hx))))
variable {it:Addr}
section
variable {prog:Program}{E:Value->Shared->Prop}
theorem HI{t:Addr}{x:Value}(hit:s.heap.IsTupleIter it t i)(ht:s.heap.IsTuple t items)(hx:items[i]?=some x)
   (hQ:∀ h',h'.IsTupleIter it t (i+1)->Heap.SameBut it s.heap h'->Q x { s with heap:=h' }):wpAny (model prog w) A (Builtin.SmallTypes.nextOf (.ref it)) Q E s:=by
 obtain⟨o,ho,hc,hd⟩:=id hit;obtain⟨ol,hol,_,nl,hdl⟩:=ht;unfold Builtin.SmallTypes.nextOf;refine Pe (wpAny_callSpecial?_slot (name:=Str.ofString "__next__") hit.typeIs F.slot_tuple_iterator_next (wpAny_call_entry F.slot_tuple_iterator_next hit.typeIs F.entry_tuple_iterator_next ?_ (F.args_tuple_iterator_next_1 _)));refine(?_:wpAny _ _ (field (.ref it) 0 >>= _) _ _ s);refine Pe (wpAny_field ho hd (x:=.ref t) rfl ?_);refine(?_:wpAny _ _ (if (Value.ref t==Value.none)=true then _ else _) _ _ s);rw[if_neg (show ¬ ((Value.ref t==Value.none)=true) from QB)];show wpAny _ _ (field (.ref it) 1 >>= _) _ _ s;refine Pe (wpAny_field ho hd (x:=.int i 0) rfl ?_);refine(?_:wpAny _ _ (seqItems? (.ref t) >>= _) _ _ s);refine Pe (wpAny_seqItems hol hdl ?_);simp only[QY,hx];refine Pe (wpAny_setField ho hd (by simp) (Ql ⟨x,rfl,Ql (hQ _ ?_ (Heap.SameBut.update ..))⟩));exact⟨_,Ry _ ho (Obj.isFreed_of_fields (Obj.data_mapFields hd _)),(Obj.cls_mapFields ..).trans hc,by rw[Obj.data_mapFields hd];simp[rawInt]⟩
theorem yS{t:Addr}(hh:A.handled=none)(hit:s.heap.IsTupleIter it t i)(ht:s.heap.IsTuple t items)(hx:items[i]?=none)
   (hE:∀ h' e,Heap.ExtBut it s.heap h'->(∃ o,h'.get? e=some o/\o.cls=.type "StopIteration")->E (.ref e) { s with heap:=h' }):wpAny (model prog w) A (Builtin.SmallTypes.nextOf (.ref it)) Q E s:=by
 obtain⟨o,ho,hc,hd⟩:=id hit;obtain⟨ol,hol,_,nl,hdl⟩:=ht;unfold Builtin.SmallTypes.nextOf;refine Pe (wpAny_callSpecial?_slot (name:=Str.ofString "__next__") hit.typeIs F.slot_tuple_iterator_next (wpAny_call_entry F.slot_tuple_iterator_next hit.typeIs F.entry_tuple_iterator_next ?_ (F.args_tuple_iterator_next_1 _)));show wpAny _ _ (field (.ref it) 0 >>= _) _ _ s;refine Pe (wpAny_field ho hd (x:=.ref t) rfl ?_);refine(?_:wpAny _ _ (if (Value.ref t==Value.none)=true then _ else _) _ _ s);rw[if_neg (show ¬ ((Value.ref t==Value.none)=true) from QB)];show wpAny _ _ (field (.ref it) 1 >>= _) _ _ s;refine Pe (wpAny_field ho hd (x:=.int i 0) rfl ?_);refine(?_:wpAny _ _ (seqItems? (.ref t) >>= _) _ _ s);refine Pe (wpAny_seqItems hol hdl ?_);simp only[QY,hx];refine Pe (wpAny_rule (Pe (wpAny_setField ho hd (by simp) ?_)));show wpAny _ _ (newExc (.type "StopIteration") [] >>= _) _ _ _;refine Pe ?_;unfold newExc newTuple;refine Pe (QX ?_ (by size_fits));refine Pe (m:=firstArgMember _ _) (wpAny_of_eq (a:=Value.none) (by first | rfl | (simp only[firstArgMember];rfl)) ?_);refine QX ?_ (by size_fits);unfold raiseNew;refine Pe (wpAny_handled ?_)
 first | rw[show A.in1.handled=none from hh] | rw[hh]
 refine Pe (Ql (wpAny_throw ?_));exact hE _ _ (((Heap.SameBut.update ..).extBut.push _).push _) ⟨_,Qy _ rfl,rfl⟩
theorem F1(hh:A.handled=none)(it l:Addr)(hne:l≠it)(items:Array Value) :
   Draws prog w A it [it,l] items.size (λi x=>items[i]?=some x) (λi h=>h.IsTupleIter it l i/\h.IsTuple l items) where
 live:=λi h ⟨⟨o,e,_⟩,_⟩=>⟨o,e⟩
 frame:=λi h h' ⟨⟨o,e,r⟩,⟨o',e',r'⟩⟩ hk=>⟨⟨o,hk it (by simp) o e,r⟩,⟨o',hk l (by simp) o' e',r'⟩⟩
 item:=λi s Q E hi ⟨a,b⟩ hQ=>HI a b (SN hi) λh' a' k=>hQ _ h' s.toks (SN hi) ⟨a',b.extBut k.extBut hne⟩ k
 done:=λs Q E ⟨a,b⟩ hE=>yS hh a b (Sv (QP _)) hE
theorem BC{cls:Value}{Q:Bool->Shared->Prop}{E:Value->Shared->Prop}(h:∀ b,Q b s):wpAny M A (Builtin.SmallTypes.calledThroughType cls) Q E s:=
 Pe (wpAny_stack_any λ_=>Ql (h _))
set_option maxRecDepth 100000 in
theorem wT(l:Addr)(items:Array Value)(n:Nat) :
   Meets (Builtin.«enumerate.__new__» ⟨[.type "enumerate",.ref l],[]⟩) (λ_ R s=>s.heap.get? l=some { cls:=.type "tuple",dict:=none,data:=.seq items n,slots:=#[] }/\
     R (.ok (.ret (.ref (s.heap.push { cls:=.type "tuple_iterator",data:=.fields #[.ref l,.int 0 0] }).objs.size)))
       { s with heap:=(s.heap.push { cls:=.type "tuple_iterator",data:=.fields #[.ref l,.int 0 0] }).push { cls:=.type "enumerate",data:=.fields #[.none,.bool false,.ref s.heap.objs.size,rawInt 0,.none,.none] } }):=
 .of_wp λprog w A R s h=>by
   obtain⟨hp,g,d,tk,os⟩:=s;have hl:=h.1;have h:=h.2;have hsub:=sub_enumerate;have hL:Heap.IsTuple (Shared.heap ⟨hp,g,d,tk,os⟩) l items:=⟨_,hl,rfl,n,rfl⟩
   wp_walk using AutoSeq1.wpAny_loadPart' hl,BC
   intro b;cases (b)
   . wp_walk using AutoSeq1.wpAny_loadPart' hl,wpAny_pyIter_tuple hL
     exact⟨_,rfl,h⟩
   . wp_walk using AutoSeq1.wpAny_loadPart' hl,wpAny_pyIter_tuple hL
     exact⟨_,rfl,h⟩
theorem zP {l:Addr} (hL:s.heap.get? l=some { cls:=.type "tuple",dict:=none,data:=.seq items n,slots:=#[] })
   (h:∀ h',IsEnum h' (s.heap.objs.size+1) s.heap.objs.size 0 .none->h'.get? s.heap.objs.size=some { cls:=.type "tuple_iterator",dict:=none,data:=.fields #[.ref l,.int 0 0],slots:=#[] }->
     (∀ b o,s.heap.get? b=some o->h'.get? b=some o)->Q (.ref (s.heap.objs.size+1)) { s with heap:=h' }) :
   wpAny (model prog w) A (call (.type "enumerate") [.ref l]) Q E s:=by
 refine callType_new F.called_enumerate (by decide) (F.typeCall_enumerate_1 _) (F.newCall_enumerate_1 _) (λobj=>F.args_object_init_2 obj _) F.entry_enumerate_new (wT l items n) ⟨hL,?_⟩;have hz:(s.heap.push { cls:=.type "tuple_iterator",data:=.fields #[.ref l,.int 0 0] }).objs.size=s.heap.objs.size+1:=Ss ..;refine(?_:_/\_);rw[hz];have he:IsEnum ((s.heap.push { cls:=.type "tuple_iterator",data:=.fields #[.ref l,.int 0 0] }).push
     { cls:=.type "enumerate",data:=.fields #[.none,.bool false,.ref s.heap.objs.size,rawInt 0,.none,.none] }) (s.heap.objs.size+1) s.heap.objs.size 0 .none:=by
   have:=Qy (s.heap.push { cls:=.type "tuple_iterator",data:=.fields #[.ref l,.int 0 0] })
     (o:={ cls:=.type "enumerate",data:=.fields #[.none,.bool false,.ref s.heap.objs.size,rawInt 0,.none,.none] }) rfl
   rw[hz] at this;exact this
 exact⟨⟨_,he,rfl⟩,h _ he (Qm _ (Qy _ rfl)) λb o x=>Qm _ (Qm _ x)⟩
end
variable {Ia:Addr}{vs xs:Array Value}{h'':Heap}{wr:List Addr}{shown:List PyData}{k:Nat}{P:Nat->Value->Prop}{lk:Option Nat}{p:Pos}{T:String}{E':Value->Shared->Prop}
theorem Inv.notMem(I:Inv Z β σ h)(e:h.get? a=none):a∉β:=λm=>by obtain⟨o,q⟩:=I.ex m;rw[e] at q;injection q
theorem Step.tail(S:Step O β σ s ah aa ai)(hf:∀ a,W a->s.heap.get? a=none)(hk:∀ b o,¬ W b->ai.heap.get? b=some o->al.heap.get? b=some o)(hg:al.gens=ai.gens)(ho:al.os=ai.os):Step O β σ s ah aa al:=
 ⟨S.ext,S.mono,λx o hx hw hO=>have nW:¬ W x:=λq=>(by rw[hf x q] at hx;injection hx);(S.keepW x o hx hw hO).imp (hk x o nW) (λ⟨f,n,sl,q⟩=>⟨f,n,sl,hk x _ nW q⟩),(λx hx=>by
   by_cases q:W x
   . exact hf x q
   . cases e:ai.heap.get? x with
     | none=>exact S.alive x e
     | some o=>rw[hk x o q e] at hx;injection hx),hg.trans S.gens,ho.trans S.os⟩
theorem Inv.touch(I:Inv Z β σ h)(ha:∀ a,W a->a∉β)(h0:∀ a,W a->Z.h₀.get? a=none)(hn:∀ a,W a->¬ bS h a)(hk:∀ b o,¬ W b->h.get? b=some o->h'.get? b=some o):Inv Z β σ h':=
 ⟨I.len,I.nodup,λb o e=>hk b o (λq=>by rw[h0 b q] at e;injection e) (I.base b o e),I.fresh,λk b c h1 h2=>(I.cell k b c h1 h2).mono (λo e=>hk b o (λq=>ha b q (Qp h1)) e) λx o vs n e d t=>⟨hk x o (λq=>hn x q ⟨o,vs,n,e,d⟩) e,t⟩⟩
theorem FrameOk.touch(F:FrameOk Z env ks sc ρ β σ h)(hβ:∀ a,W a->a∉β)(hz:∀ a,W a->a∉Z.fr)(ha:∀ a,W a->¬ own env a)(hn:∀ a,W a->¬ bS h a)(hk:∀ b o,¬ W b->h.get? b=some o->h'.get? b=some o):FrameOk Z env ks sc ρ β σ h':=by
 have keep:∀ b,own env b->∀ o,h.get? b=some o->h'.get? b=some o:=λb hb o e=>hk b o (λq=>ha b q hb) e;refine⟨F.kind,F.globals,F.builtins,F.kinds,F.bound,F.inj,?_,?_,F.apart,F.cinj,F.cloc,F.frs.grow λf o hf e q=>⟨o,hk f o (λw=>hz f w hf) e,q⟩⟩
 . refine kk λK k=>?_;obtain⟨m,⟨o,es,ep,ho,r⟩,q⟩:=F.ns;refine k ?_;exact⟨m,⟨o,es,ep,keep _ (.inl rfl) o ho,r⟩,λx i h1 h2 v h3 h4=>let ⟨w,g1,g2⟩:=q x i h1 h2 v h3 h4;⟨w,g1,ic hk hn hβ g2⟩⟩
 . intro x c e;refine kk λK k=>?_;obtain⟨ov,⟨o,ho,hd⟩,q⟩:=F.cell x c e;refine k ?_;exact⟨ov,⟨o,keep c (.inr ⟨x,e⟩) o ho,hd⟩,λi h1 h2 v h3 h4=>let ⟨w,g1,g2⟩:=q i h1 h2 v h3 h4;⟨w,g1,ic hk hn hβ g2⟩⟩
def b3(β:List Addr)(σ:ac)(h:Heap)(β':List Addr)(σ':ac)(h':Heap):Prop:=
 ∀ x o vs n,h.get? x=some o->xT o vs n->¬ TT β σ x->h'.get? x=some o/\¬ TT β' σ' x
theorem b3.refl:b3 β σ h β σ h:=λ_ _ _ _ e _ t=>⟨e,t⟩
theorem b3.trans(a:b3 β σ h ah aa h')(b:b3 ah aa h' aO ae h''):b3 β σ h aO ae h'':=λx o vs n e d t=>let ⟨e1,t1⟩:=a x o vs n e d t;b x o vs n e1 d t1
theorem b3.vrel(a:b3 β σ h β aa h')(hg:∀ D o,D∈β->h.get? D=some o->¬ TT β σ D->h'.get? D=some o/\¬ TT β aa D){w:Value}{v:V}(r:aA β σ h w v):aA β aa h' w v:=by
 cases v with
 | un=>exact r
 | d x=>exact Rel.mono a r
 | loc n=>exact r
 | locs ns=>obtain⟨x,vs,n,h1,h2,h3,h4,h5⟩:=r;exact⟨x,vs,n,h1,(a _ _ _ _ h2 (.inl rfl) h3).1,(a _ _ _ _ h2 (.inl rfl) h3).2,h4,h5⟩
 | exc _ _=>obtain⟨e,o,vs,h1,h2,h3,h4⟩:=r;exact⟨e,o,vs,h1,(a e o vs 0 h2 (.inr ⟨_,h3.1,.inl h3.2.1⟩) h4).1,h3,(a e o vs 0 h2 (.inr ⟨_,h3.1,.inl h3.2.1⟩) h4).2⟩
 | inst k l=>exact InstRel.mono r (λ_ _ e=>e) hg
theorem FrameOk.seq(F:FrameOk Z env ks sc ρ β σ h)(a:b3 β σ h β aa h')(hg:∀ D o,D∈β->h.get? D=some o->¬ TT β σ D->h'.get? D=some o/\¬ TT β aa D)(hz:∀ b∈Z.fr,∀ o,h.get? b=some o->h'.get? b=some o)(hk:∀ b,own env b->∀ o,h.get? b=some o->h'.get? b=some o):FrameOk Z env ks sc ρ β aa h':=by
 refine⟨F.kind,F.globals,F.builtins,F.kinds,F.bound,F.inj,?_,?_,F.apart,F.cinj,F.cloc,F.frs.grow λf o hf e q=>⟨o,hz f hf o e,q⟩⟩
 . refine kk λK k=>?_;obtain⟨m,⟨o,es,ep,ho,r⟩,q⟩:=F.ns;refine k ?_;exact⟨m,⟨o,es,ep,hk _ (.inl rfl) o ho,r⟩,λx i h1 h2 v h3 h4=>let ⟨w,g1,g2⟩:=q x i h1 h2 v h3 h4;⟨w,g1,a.vrel hg g2⟩⟩
 . intro x c e;refine kk λK k=>?_;obtain⟨ov,⟨o,ho,hd⟩,q⟩:=F.cell x c e;refine k ?_;exact⟨ov,⟨o,hk c (.inr ⟨x,e⟩) o ho,hd⟩,λi h1 h2 v h3 h4=>let ⟨w,g1,g2⟩:=q i h1 h2 v h3 h4;⟨w,g1,a.vrel hg g2⟩⟩
theorem Inv.touchBusy(I:Inv Z β σ h)(hb:β[n]?=some a)(hn:σ[n]?=some .busy)(hk:∀ b o,b≠a->h.get? b=some o->h'.get? b=some o)(ho:∃ o,h'.get? a=some o) :
   Inv Z β σ h'/\b3 β σ h β σ h':=by
 have H:b3 β σ h β σ h':=λx o vs m e d t=>⟨hk x o (λq=>t (q▸(⟨n,.busy,hb,hn,rfl⟩))) e,t⟩;refine⟨⟨I.len,I.nodup,λb o e=>hk b o (λq=>?_) (I.base b o e),I.fresh,λk b c h1 h2=>?_⟩,H⟩
 . have:=I.fresh a (Qp hb);rw[q] at e;rw[this] at e;injection e
 . by_cases hkn:n=k
   . subst hkn;rw[hb] at h1;(injection h1 with e0_;subst e0_);rw[hn] at h2;(injection h2 with e0_;subst e0_);exact ho
   . exact(I.cell k b c h1 h2).mono (λo e=>hk b o (λq=>by subst q;exact I.addr_ne hb h1 hkn rfl) e) H
theorem rV{c:Cell}(hn:σ[n]?=some g6)(hg:g6.isGone=c.isGone){x:Addr}:TT β (σ.set n c) x↔TT β σ x:=by
 constructor
 . rintro⟨k,c',h1,h2,h3⟩
   by_cases hk:n=k
   . subst hk;rw[cY hn] at h2;(injection h2 with e0_;subst e0_);exact⟨n,g6,h1,hn,hg.trans h3⟩
   . rw[dC hk] at h2;exact⟨k,c',h1,h2,h3⟩
 . rintro⟨k,c',h1,h2,h3⟩
   by_cases hk:n=k
   . subst hk;rw[hn] at h2;(injection h2 with e0_;subst e0_);exact⟨n,c,h1,cY hn,hg▸h3⟩
   . exact⟨k,c',h1,by rw[dC hk];exact h2,h3⟩
theorem Inv.openBusy(I:Inv Z β σ h)(hb:β[n]?=some a)(hn:σ[n]?=some .busy)(e:h.get? a=some (dq vs m))(r:RelAll (TT β σ) h vs.toList l)(hl:l.length<=LIM) :
   Inv Z β (σ.set n (.lst l)) h:=by
 have H:∀ x o vs n',h.get? x=some o->xT o vs n'->¬ TT β σ x->h.get? x=some o/\¬ TT β (σ.set n (.lst l)) x:=λx o vs n' e d t=>⟨e,λz=>t (((λx=>rV (g6:=.busy) (c:=.lst l) hn rfl) x).mp z)⟩;refine⟨by simp[I.len],I.nodup,I.base,I.fresh,λk b c h1 h2=>?_⟩;by_cases hkn:n=k
 . subst hkn;rw[hb] at h1;(injection h1 with e0_;subst e0_);rw[cY hn] at h2;(injection h2 with e0_;subst e0_);exact⟨vs,m,e,r.mono H,hl⟩
 . rw[dC hkn] at h2;exact(I.cell k b c h1 h2).mono (λo e=>e) H
def oQ(β:List Addr)(σ:ac)(h:Heap)(b:Addr):Prop:=(∃ n:Nat,β[n]?=some b/\σ[n]?=some .busy)\/(bS h b/\¬ TT β σ b)
theorem oQ.keep{b:Addr}(S:Step O β σ s ah aa ai)(I:Inv Z β σ s.heap)(ao:Inv Z ah aa ai.heap)(hO:∀ x,O x->x∉β/\¬ bS s.heap x)(st:oQ β σ s.heap b) :
   (∀ o,s.heap.get? b=some o->ai.heap.get? b=some o)/\oQ ah aa ai.heap b:=by
 rcases st with ⟨n,hb,hn⟩ | ⟨⟨o,vs,n,e,d⟩,t⟩
 . have hm:=Qp hb;have hw:¬ WW β σ b:=by
     rintro⟨k,c,h1,h2,h3⟩
     by_cases hkn:n=k
     . subst hkn;rw[hn] at h2;(injection h2 with e0_;subst e0_);injection h3
     . exact I.addr_ne hb h1 hkn rfl
   refine⟨λo e=>(S.keepW b o e hw λz=>(hO b z).1 hm).resolve_right λq=>q.2.1 hm,.inl ⟨n,S.get hb,?_⟩⟩;have Fe:n < aa.length:=by rw[<- ao.len];exact(Qi.mp (S.get hb)).1
   obtain⟨c,h1,_,_,h4⟩:=S.mono n aa[n] ((Qi.mp hb).1) (Qk Fe);rw[hn] at h1;(injection h1 with e0_;subst e0_);rw[Qk Fe,h4 rfl]
 . have k:=S.relH (λx z=>(hO x z).2) b o vs n e d t;exact⟨λo' e'=>by rw[e] at e';(injection e' with e0_;subst e0_);exact k.1,.inr ⟨⟨o,vs,n,k.1,d⟩,k.2⟩⟩
theorem oQ.ex{b:Addr}(I:Inv Z β σ h)(st:oQ β σ h b):∃ o,h.get? b=some o:=by
 rcases st with ⟨n,hb,hn⟩ | ⟨⟨o,vs,n,e,d⟩,t⟩
 . exact I.ex (Qp hb)
 . exact⟨o,e⟩
noncomputable def iz (n:String):Bool:=["enumerate","zip","dict_itemiterator","dict_reverseitemiterator","odict_iterator","itertools.zip_longest","itertools.pairwise"].contains n
structure Itr where
 Ia:Addr
 fp:List Addr
 wr:List Addr
 shown:List PyData
 P:Nat->Value->Heap->Heap->Prop
 St:Nat->Heap->Prop
 Mid:Nat->Value->Heap->Prop
 en:Bool
def Kp(T:Itr)(h h':Heap):Prop:=∀ b o,b∉T.wr->h.get? b=some o->h'.get? b=some o
def yj(T:Itr)(h:Heap):Prop:=∀ i h h',T.St i h->(∀ b∈T.fp,∀ o,h.get? b=some o->h'.get? b=some o)->T.St i h'
def Ab(Z:Cx)(A:Around)(T:Itr):Prop:=∀ i (s:Shared) (Q:Option Value->Shared->Prop) (E:Value->Shared->Prop),i < T.shown.length->T.St i s.heap->(∀ v h' tk,T.P i v s.heap h'->T.Mid i v h'->Kp T s.heap h'->Q (some v) { s with heap:=h',toks:=tk })->wpAny (model Z.prog Z.w) A (pyNext (.ref T.Ia)) Q E s
def GC(Z:Cx)(A:Around)(T:Itr):Prop:=∀ (elts:List Expr) (k:Nat) (pos:Pos) i v (s:Shared) (Q:Unit->Shared->Prop) (E:Value->Shared->Prop),T.Mid i v s.heap->(∀ h',T.St (i+1) h'->Kp T s.heap h'->Q () { s with heap:=h' })->wpAny (model Z.prog Z.w) A (letOwnedTupleGo (.Tuple elts k pos) (.ref T.Ia) v) Q E s
def Ac(Z:Cx)(A:Around)(T:Itr):Prop:=∀ (s:Shared) (Q:Option Value->Shared->Prop) (E:Value->Shared->Prop),T.St T.shown.length s.heap->(∀ h' tk,Kp T s.heap h'->Q none { s with heap:=h',toks:=tk })->wpAny (model Z.prog Z.w) A (pyNext (.ref T.Ia)) Q E s
def Aa(Z:Cx)(A:Around)(T:Itr):Prop:=∀ i (s:Shared) (Q:Value->Shared->Prop) (E:Value->Shared->Prop),T.St i s.heap->Q (.ref T.Ia) s->wpAny (model Z.prog Z.w) A (pyIter (.ref T.Ia)) Q E s
def yi(Z:Cx)(T:Itr)(β:List Addr)(σ:ac)(h:Heap):Prop:=∀ i v hb h',i < T.shown.length->T.P i v hb h'->∀ β' σ',Inv Z β' σ' hb->b3 β σ h β' σ' h'->∃ d,T.shown[i]?=some d/\Rel (TT β' σ') h' v d
def yh(T:Itr):Prop:=∀ i h',T.St i h'->∀ b∈T.wr,(∃ o,h'.get? b=some o/\¬ fH o)/\¬ bS h' b
def vI(T:Itr):Prop:=∀ i v h',T.Mid i v h'->∀ b∈T.wr,(∃ o,h'.get? b=some o/\¬ fH o)/\¬ bS h' b
structure Opened(Z:Cx)(A:Around)(T:Itr)(β:List Addr)(σ:ac)(h:Heap):Prop where
 sub:∀ b∈T.wr,b∈T.fp
 frame:yj T h
 item:Ab Z A T
 go:GC Z A T
 skip:T.en=false->∀ i v h,T.Mid i v h->T.St (i+1) h
 done:Ac Z A T
 self:Aa Z A T
 start:T.St 0 h
 stay:∀ b∈T.fp,b∈T.wr\/oQ β σ h b
 items:yi Z T β σ h
 noseq:yh T
 noseqM:vI T
theorem d0(d:o.data=.fields xs):¬ fH o:=λ⟨es,n,q⟩=>by rw[d] at q;injection q
theorem iW{n:String}(e:h.get? a=some o)(c:o.cls=.type n)(d:o.data=.fields xs):¬ bS h a:=λ⟨o',vs,n,e',d'⟩=>by
 rw[e] at e';(injection e' with e0_;subst e0_);rcases d' with d' | ⟨_,c',_⟩
 . rw[d] at d';injection d'
 . rw[c] at c';injection c'
theorem I3(n:Nat)(h:n<=LIM):n<=sizeLine:=iv h bE
set_option tactic.hygienic true in
theorem Fg{Q:Unit->Shared->Prop}{E:Value->Shared->Prop}{xs:List Expr}{n:String}(e:s.heap.get? Ia=some o)(hc:o.cls=.type n)(hd:o.data=.fields vs)(hn:iz n=false)(hQ:Q () s) :
   wpAny (model Z.prog Z.w) A (letOwnedTupleGo (.Tuple xs k p) (.ref Ia) v) Q E s:=by
 cases v
 case ref T=>unfold letOwnedTupleGo;refine Pe (wpAny_load e ?_);rw[hc,hd];show wpAny _ A (if (iz n&&vs[0]?==some (rawInt T))=true then _ else _) Q E s;rw[hn,Se,if_neg (by simp)];exact Ql hQ
 all_goals exact Ql hQ
noncomputable def AT(Ia:Addr)(fp:List Addr)(shown:List PyData)(P:Nat->Value->Prop)(St:Nat->Heap->Prop):Itr:=⟨Ia,fp,[Ia],shown,λi v _ _=>P i v,St,λi _ h=>St (i+1) h,false⟩
theorem Opened.plain{St:Nat->Heap->Prop}(walks:Walks Z.prog Z.w A Ia fp [Ia] shown.length P St)(start:St 0 h)(stay:∀ b∈fp,b=Ia\/oQ β σ h b)
   (items:∀ i v,i < shown.length->P i v->∀ β' σ' h',b3 β σ h β' σ' h'->∃ d,shown[i]?=some d/\Rel (TT β' σ') h' v d)
   (plain:∀ i h',St i h'->X3 λo n vs=>A4 (h'.get? Ia=some o) (o.cls=.type n) (o.data=.fields vs) (iz n=false)):Opened Z A (AT Ia fp shown P St) β σ h:=by
 have ns:∀ i h',St i h'->∀ b∈[Ia],(∃ o,h'.get? b=some o/\¬ fH o)/\¬ bS h' b:=λi h' st b hb=>by obtain⟨o,n,vs,e,c,d,_⟩:=plain i h' st;cases Qt.mp hb;exact⟨⟨o,e,d0 d⟩,iW e c d⟩
 exact⟨walks.sub,walks.frame,λi s Q E hi st q=>walks.item i s Q E hi st λv h' tk hp st' k=>q v h' tk hp st' k,λxs k p i v s Q E st q=>by
   obtain⟨o,n,vs,e,c,d,w⟩:=plain _ _ st;exact Fg e c d w (q s.heap st λ_ _ _ e=>e),λ_ i v h st=>st,λs Q E st q=>walks.done s Q E st λh' tk k=>q h' tk k,walks.self,start,λb hb=>(stay b hb).imp (λq=>Qt.mpr q) id,
   λi v hb h' hi hp β' σ' _ k=>items i v hi hp β' σ' h' k,ns,λi v h' st=>ns _ _ st⟩
inductive ItPost(Z:Cx)(A:Around)(en:Bool)(I:Items)(β:List Addr)(σ:ac)(s:Shared)(aa:ac)(it:Value)(al:Shared):Prop where
 | mk (ah:List Addr) (T:Itr) (h1:it=.ref T.Ia) (h2:T.shown=I.shown) (h3:T.en=en) (h4:Step b7 β σ s ah aa al) (h5:Inv Z ah aa al.heap) (h6:∀ a∈T.wr,s.heap.get? a=none/\a∉ah) (h7:Opened Z A T ah (cM I.lk aa) al.heap)
   (h8:∀ n,I.lk=some n->aa[n]?=some (.lst I.base)) (h9:I.shown.length<=LIM):ItPost Z A en I β σ s aa it al
theorem qg (hh:A.handled=none) (hi:h.get? Ia=some { cls:=.type "list_iterator",dict:=none,data:=.fields #[.ref a,.int 0 0],slots:=#[] }) (e:h.get? a=some (dq vs n)) (r:RelAll (TT β σ) h vs.toList l) (hs:oQ β σ h a) :
   X3 λfp P St=>Opened Z A (AT Ia fp l P St) β σ h:=by
 have hne:a≠Ia:=λq=>by rw[q,hi] at e;injection e with e;exact absurd (congrArg Obj.cls e) (by simp)
 have hz:=r.length;simp at hz;have W:=Walks.list (prog:=Z.prog) (w:=Z.w) hh Ia a hne vs;replace W:=hz▸W;refine⟨_,_,_,.plain W ⟨⟨_,hi,rfl,rfl⟩,⟨_,e,rfl,_,rfl⟩⟩ ?_ ?_ ?_⟩
 . intro b hb;simp at hb;rcases hb with rfl | rfl
   . exact .inl rfl
   . exact .inr hs
 . intro i v _ hv β' σ' h' k;obtain⟨d,h1,h2⟩:=r.getV (k:=i) (v:=v) (by simpa using hv);exact⟨d,h1,Rel.mono k h2⟩
 . rintro i h' ⟨⟨o,e,c,d⟩,_⟩
   exact⟨o,_,_,e,c,d,by decide⟩
theorem yN (hh:A.handled=none) (hi:h.get? Ia=some { cls:=.type "tuple_iterator",dict:=none,data:=.fields #[.ref a,.int 0 0],slots:=#[] }) (e:h.get? a=some (oE vs n)) (r:RelAll (TT β σ) h vs.toList l) (hs:oQ β σ h a) :
   X3 λfp P St=>Opened Z A (AT Ia fp l P St) β σ h:=by
 have hne:a≠Ia:=λq=>by rw[q,hi] at e;injection e with e;exact absurd (congrArg Obj.cls e) (by simp)
 have hz:=r.length;simp at hz;have W:=Walks.tuple (prog:=Z.prog) (w:=Z.w) hh Ia a hne vs;replace W:=hz▸W;refine⟨_,_,_,.plain W ⟨⟨_,hi,rfl,rfl⟩,⟨_,e,rfl,_,rfl⟩⟩ ?_ ?_ ?_⟩
 . intro b hb;simp at hb;rcases hb with rfl | rfl
   . exact .inl rfl
   . exact .inr hs
 . intro i v _ hv β' σ' h' k;obtain⟨d,h1,h2⟩:=r.getV (k:=i) (v:=v) (by simpa using hv);exact⟨d,h1,Rel.mono k h2⟩
 . rintro i h' ⟨⟨o,e,c,d⟩,_⟩
   exact⟨o,_,_,e,c,d,by decide⟩
theorem lT(W:Walks Z.prog Z.w A Ia [Ia] [Ia] x.cps.size (SignAt x) (λi h=>h.IsStrIter Ia T x tk i))(ht:iz T=false)(g:cK x)(hi:h.IsStrIter Ia T x tk 0) :
   Opened Z A (AT Ia [Ia] ((av x).map λc=>.str (ar [c])) (SignAt x) (λi h=>h.IsStrIter Ia T x tk i)) β σ h:=by
 have hz:((av x).map λc=>PyData.str (ar [c])).length=x.cps.size:=by rw[PN];exact QA
 rw[<- hz] at W;refine .plain W hi (λb hb=>.inl (Qt.mp hb)) (λi v _ hv β' σ' h' k=>?_) λi h' ⟨o,e,c,d⟩=>⟨o,_,_,e,c,d,ht⟩;obtain⟨c,u,hc,rfl⟩:=hv;have hc':(av x)[i]?=some c:=by unfold av;rw[Array.getElem?_toList];exact hc
 refine⟨.str (ar [c]),by rw[Q0,hc'];rfl,.str _ _ (f8 (λy hy=>g.cps y ?_) (by rw[Rr];decide))⟩;rw[Qt.mp hy];exact Qp hc'
theorem aS(o:Obj):∀ b x,h.get? b=some x->(h.push o).get? b=some x:=λb x e=>Qm _ e
theorem jV(I:Inv Z β σ h):∀ a∈[h.objs.size],h.get? a=none/\a∉β:=λa ha=>by rw[Qt.mp ha];exact⟨aU _,I.notMem (aU _)⟩
theorem yO {E:Value->Shared->Prop} (hh:A.handled=none) (I:Inv Z β σ s.heap) (r:aA β σ s.heap v (.d (.tuple l))):wpAny (model Z.prog Z.w) A (pyIter v) (λit al=>ItPost Z A false ⟨l,l,none⟩ β σ s σ it al) E s:=by apply (pF r).el;intro a vs m e t z q;refine wpAny_pyIter_tuple ⟨_,e,rfl,_,rfl⟩ ?_;have hk:=aS (h:=s.heap) { cls:=.type "tuple_iterator",data:=.fields #[.ref a,.int 0 0] };obtain⟨fp,P,St,Op⟩:=yN (Z:=Z) (A:=A) (β:=β) (σ:=σ) hh (Qy s.heap rfl) (hk _ _ e) (q.mono λx o _ _ e _ t=>⟨hk _ _ e,t⟩) (.inr ⟨⟨_,_,_,hk _ _ e,.inl rfl⟩,t⟩);exact⟨β,_,rfl,rfl,rfl,Step.grow hk rfl rfl,I.grow hk,jV I,Op,(λn q=>by injection q),z⟩
theorem yQ{E:Value->Shared->Prop}(hh:A.handled=none)(I:Inv Z β σ s.heap)(r:aA β σ s.heap v (.d (.list l))):wpAny (model Z.prog Z.w) A (pyIter v) (λit al=>ItPost Z A false ⟨l,l,none⟩ β σ s σ it al) E s:=by
 cases r with
 | @list a vs m xs e t z q=>refine wpAny_pyIter_list ⟨_,e,rfl,_,rfl⟩ ?_;have hk:=aS (h:=s.heap) { cls:=.type "list_iterator",data:=.fields #[.ref a,.int 0 0] };obtain⟨fp,P,St,Op⟩:=qg (Z:=Z) (A:=A) (β:=β) (σ:=σ) hh (Qy s.heap rfl) (hk _ _ e) (q.mono λx o _ _ e _ t=>⟨hk _ _ e,t⟩) (.inr ⟨⟨_,_,_,hk _ _ e,.inl rfl⟩,t⟩);exact⟨β,_,rfl,rfl,rfl,Step.grow hk rfl rfl,I.grow hk,jV I,Op,(λn q=>by injection q),z⟩
theorem yP{E:Value->Shared->Prop}(hh:A.handled=none)(I:Inv Z β σ s.heap)(r:aA β σ s.heap v (.d (.str x))):wpAny (model Z.prog Z.w) A (pyIter v) (λit al=>ItPost Z A false ⟨(av x).map λc=>.str (ar [c]),(av x).map λc=>.str (ar [c]),none⟩ β σ s σ it al) E s:=by
 apply Cy (oB r);intro tk g;have fin:∀ T:String,Walks Z.prog Z.w A s.heap.objs.size [s.heap.objs.size] [s.heap.objs.size] x.cps.size (SignAt x) (λi h=>h.IsStrIter s.heap.objs.size T x tk i)->iz T=false->ItPost Z A false ⟨(av x).map λc=>.str (ar [c]),(av x).map λc=>.str (ar [c]),none⟩ β σ s σ (.ref s.heap.objs.size) { s with heap:=s.heap.push { cls:=.type T,data:=.fields #[.str x tk,.int 0 0] } }:=λT W ht=>⟨β,_,rfl,rfl,rfl,Step.grow (aS _) rfl rfl,I.grow (aS _),jV I,lT W ht g ⟨_,Qy _ rfl,rfl,rfl⟩,(λn q=>by injection q),by rw[PN];exact g.len⟩
 cases ha:x.cps.all (· < 128)
 . exact wpAny_pyIter_wide ha (fin _ (Walks.strWide hh _ x tk) (by decide))
 . exact wpAny_pyIter_ascii ha (fin _ (Walks.strAscii hh _ x tk) (by decide))
theorem El {E:Value->Shared->Prop} (hh:A.handled=none) (I:Inv Z β σ s.heap) (r:aA β σ s.heap v (.loc n)) (hc:σ[n]?=some (.lst l)):wpAny (model Z.prog Z.w) A (pyIter v) (λit al=>ItPost Z A false ⟨l,l,some n⟩ β σ s σ it al) E s:=by obtain⟨a,hb,ev⟩:=r;refine ev▸?_;obtain⟨vs,m,e,q,z⟩:=I.cell n a _ hb hc;refine wpAny_pyIter_list ⟨_,e,rfl,_,rfl⟩ ?_;have hk:=aS (h:=s.heap) { cls:=.type "list_iterator",data:=.fields #[.ref a,.int 0 0] };obtain⟨fp,P,St,Op⟩:=qg (Z:=Z) (A:=A) (β:=β) (σ:=σ.set n .busy) hh (Qy s.heap rfl) (hk _ _ e) (q.mono λx o _ _ e _ t=>⟨hk _ _ e,λz=>t (((λx=>rV (g6:=.lst l) (c:=.busy) hc rfl) x).mp z)⟩) (.inl ⟨n,hb,cY hc⟩);exact⟨β,_,rfl,rfl,rfl,Step.grow hk rfl rfl,I.grow hk,jV I,Op,(λk q=>Option.some.inj q▸hc),z⟩
theorem wL{Q:List PyData->Option Nat->Prop}{x:V}(ho:tn x σ=some (l,lk))(h1:∀ l,x=.d (.tuple l)->Q l none)(h2:∀ l,x=.d (.list l)->Q l none)(h3:∀ y,x=.d (.str y)->Q ((av y).map λc=>.str (ar [c])) none)(h4:∀ n l,x=.loc n->σ[n]?=some (.lst l)->Q l (some n)):Q l lk:=by
 cases x with
 | d y=>
   rcases c6 ho with ⟨l',hl,ho⟩ | ho
   . (injection ho with e0_;injection e0_ with e0_ f0_;subst e0_;subst f0_);exact h1 _ (congrArg V.d (ui hl))
   rcases c6 ho with ⟨l',hl,ho⟩ | ho
   . (injection ho with e0_;injection e0_ with e0_ f0_;subst e0_;subst f0_);exact h2 _ (congrArg V.d (HO hl))
   . obtain⟨y,hl,ho⟩:=uF ho;(injection ho with e0_;injection e0_ with e0_ f0_;subst e0_;subst f0_);exact h3 _ (congrArg V.d (oS hl))
 | loc n=>obtain⟨l',hc,ho⟩:=QL.mp ho;cases (ho);exact h4 n _ rfl (fj hc)
 | _=>injection ho
theorem wK{x:V}{E:Value->Shared->Prop}(hh:A.handled=none)(I:Inv Z β σ s.heap)(r:aA β σ s.heap v x)(ho:tn x σ=some (l,lk)) :
   wpAny (model Z.prog Z.w) A (pyIter v) (λit al=>ItPost Z A false ⟨l,l,lk⟩ β σ s σ it al) E s:=
 wL (Q:=λl lk=>wpAny (model Z.prog Z.w) A (pyIter v) (λit al=>ItPost Z A false ⟨l,l,lk⟩ β σ s σ it al) E s) ho (λl e=>yO hh I (e▸r)) (λl e=>yQ hh I (e▸r)) (λy e=>yP hh I (e▸r)) λn l e hc=>El hh I (e▸r) hc
theorem iR(a b:Int):(b9 a b).length=(b - a).toNat:=by simp[b9]
theorem nA{a b:Int}{r:Addr}{t u v:Tok}{E:Value->Shared->Prop}(hh:A.handled=none)(ha:-100000<=a/\a<=100000)(hb:-100000<=b/\b<=100000)(I:Inv Z β σ s.heap)(hr:IsRange s.heap r a b 1 t u v) :
   wpAny (model Z.prog Z.w) A (pyIter (.ref r)) (λit al=>ItPost Z A false ⟨b9 a b,[],none⟩ β σ s σ it al) E s:=by
 refine wpAny_pyIter_range hr (small_one (by omega) (by omega) (by omega) (by omega)) ?_;have hsz:Builtin.Range.rangeSize a b 1=(((b - a).toNat:Nat):Int):=by rw[rangeSize_one];split <;> grind
 have hk:=aS (h:=s.heap) { cls:=.type "range_iterator",data:=.fields #[rawInt a,rawInt (Builtin.Range.rangeSize a b 1),rawInt 1] };have W:=Walks.range (prog:=Z.prog) (w:=Z.w) hh s.heap.objs.size a 1 (b - a).toNat;rw[<- iR] at W;refine⟨β,_,rfl,rfl,rfl,Step.grow hk rfl rfl,I.grow hk,jV I,.plain W ?_ ?_ ?_ ?_,(λn q=>by injection q),?_⟩
 . show IsRangeIter _ _ (a+((0:Nat):Int) * 1) ((((b9 a b).length:Nat):Int) - ((0:Nat):Int)) 1;have e1:a+((0:Nat):Int) * 1=a:=Int.add_zero a;have e2:(((b9 a b).length:Nat):Int) - ((0:Nat):Int)=Builtin.Range.rangeSize a b 1:=(Ud _).trans (by rw[iR,hsz]);rw[e1,e2];exact Qy _ rfl
 . intro c hc;simp at hc;exact .inl hc
 . rintro i x hi ⟨t,rfl⟩ β' σ' h' _
   rw[iR] at hi;refine⟨.int (a+i),?_,?_⟩
   . simp[b9,hi]
   . rw[Int.mul_one];exact .int _ _
 . intro i h' st;exact⟨_,_,_,st,rfl,rfl,by decide⟩
 . rw[iR];exact RX.mpr (Rq (Int.sub_le_sub hb.2 ha.1) (by decide))
theorem FS(l:List PyData)(i:Nat):(ju l)[i]?=(l[i]?).map λd=>PyData.tuple [.int i,d]:=by unfold ju;rw[Q0,List.getElem?_zipIdx];cases l[i]? <;> simp
theorem m0(l:List PyData):(ju l).length=l.length:=by simp[ju]
noncomputable def Nt(e it a:Addr)(vs:Array Value)(l:List PyData):Itr:=⟨e,[e,it,a],[e,it],ju l,λi v hb h'=>X3 λT t x=>A4 (v=.ref T) (hb.get? T=none) (h'.get? T=some (oE #[.int i t,x] 0)) (vs[i]?=some x),
 λi h=>(∃ old,IsEnum h e it i old)/\h.IsTupleIter it a i/\h.IsTuple a vs,λi v h=>X2 λT x=>A3 (v=.ref T) (IsEnumOut h e it ((i:Int)+1) x T) (h.IsTupleIter it a (i+1)/\h.IsTuple a vs),true⟩
theorem B6 {e:Addr} (hh:A.handled=none) (he:IsEnum h e it 0 .none) (hi:h.get? it=some { cls:=.type "tuple_iterator",dict:=none,data:=.fields #[.ref a,.int 0 0],slots:=#[] }) (ha:h.get? a=some (oE vs n)) (r:RelAll (TT β σ) h vs.toList l) (hs:oQ β σ h a) :
   Opened Z A (Nt e it a vs l) β σ h:=by
 have hai:a≠it:=λq=>by rw[q,hi] at ha;injection ha with ha;exact absurd (congrArg Obj.cls ha) (by simp)
 have hae:a≠e:=λq=>by rw[q] at ha;have he:=he.symm.trans ha;injection he with he;exact absurd (congrArg Obj.cls he) (by simp)
 have hei:e≠it:=λq=>by rw[q] at he;have he:=he.symm.trans hi;injection he with he;exact absurd (congrArg Obj.cls he) (by simp)
 have hz:=r.length;simp at hz;have D:=F1 (prog:=Z.prog) (w:=Z.w) (A:=A.in1) hh it a hai vs;have mem:∀ {b:Addr},b∉[e,it]->b≠e/\b≠it:=λhb=>⟨λq=>hb (by simp[q]),λq=>hb (by simp[q])⟩;have ns:∀ {h':Heap} {i:Nat} {oe:Obj} {es:Array Value} {n:String},h'.get? e=some oe->oe.cls=.type n->oe.data=.fields es->h'.IsTupleIter it a i->∀ b∈[e,it],(∃ o,h'.get? b=some o/\¬ fH o)/\¬ bS h' b:=λhe hc hd ⟨o,hi,c,d⟩ b hb=>by
   rcases Qq.mp hb with rfl | hb
   . exact⟨⟨_,he,d0 hd⟩,iW he hc hd⟩
   . cases Qt.mp hb;exact⟨⟨_,hi,d0 d⟩,iW hi c d⟩
 refine⟨λb hb=>?_,λi h h' ⟨⟨old,he⟩,hi⟩ hk=>?_,λi s Q E hlt ⟨⟨old,he⟩,hi⟩ q=>?_,λxs k p i v s Q E m q=>?_,(λh=>by injection h),λs Q E ⟨⟨old,he⟩,hi⟩ q=>?_,λi s Q E ⟨⟨old,he⟩,hi⟩ q=>wpAny_pyIter_enum he q,⟨⟨_,he⟩,⟨_,hi,rfl,rfl⟩,⟨_,ha,rfl,_,rfl⟩⟩,λb hb=>?_,λi v hb h' hlt p β' σ' I k=>?_,λi h' ⟨⟨old,he⟩,hi,_⟩=>ns he rfl rfl hi,λi v h' ⟨T,x,_,he,hi,_⟩=>ns he rfl rfl hi⟩
 . rcases Qq.mp hb with rfl | hb
   . exact Qh ..
   . cases Qt.mp hb;exact Qj _ (Qh ..)
 . exact⟨⟨old,hk e (Qh ..) _ he⟩,D.frame _ _ _ hi λb hb=>hk b (Qj _ hb)⟩
 . have hlt:i < vs.size:=by have:i < (ju l).length:=hlt;rw[m0] at this;lia
   refine wpAny_pyNext_enum_itemD D he hi hlt hei (λm=>?_) λx h' tk hx ho hs' hT _ hk=>q _ h' _ ⟨_,_,x,rfl,aU _,hT,hx⟩ ⟨_,_,rfl,ho,hs'⟩ λb o hb e=>hk b o (mem hb).1 (mem hb).2 e;rcases Qq.mp m with h | h
   . exact hei h
   . exact hae (Qt.mp h).symm
 . obtain⟨T,x,rfl,ho,hs'⟩:=m;refine wpAny_letOwnedTupleGo_enum ho λh' he' hk=>q h' ⟨⟨x,he'⟩,D.frame _ _ _ hs' λb hb o y=>(hk.2 b λz=>?_).trans y⟩ λb o hb y=>(hk.2 b (mem hb).1).trans y;subst z;rcases Qq.mp hb with h | h
   . exact hei h
   . exact hae (Qt.mp h).symm
 . have hi:(λi h=>Heap.IsTupleIter h it a i/\Heap.IsTuple h a vs) vs.size s.heap:=by rw[hz,<- m0 l];exact hi
   exact wpAny_pyNext_enum_endD D he hi λh' hx=>q h' s.toks λb o hb y=>hx b o (mem hb).2 y
 . rcases Qq.mp hb with rfl | hb
   . exact .inl (Qh ..)
   . rcases Qq.mp hb with rfl | hb
     . exact .inl (Qj _ (Qh ..))
     . cases Qt.mp hb;exact .inr hs
 . obtain⟨T,t,x,rfl,hT,hT',hx⟩:=p;obtain⟨d,h1,h2⟩:=r.getV (k:=i) (v:=x) (by simpa using hx);refine⟨.tuple [.int i,d],?_,.tuple hT' (λz=>I.notMem hT z.mem) (by simp[LIM]) (.cons (.int _ _) (.one (Rel.mono k h2)))⟩;show (ju l)[i]?=_;rw[FS,h1];rfl
theorem zB{E:Value->Shared->Prop}(hh:A.handled=none)(I:Inv Z β σ s.heap)(r:aA β σ s.heap v (.d (.tuple l))) :
   wpAny (model Z.prog Z.w) A (call (.type "enumerate") [v]) (λx ai=>wpAny (model Z.prog Z.w) A (pyIter x) (λit al=>ItPost Z A true ⟨ju l,[],none⟩ β σ s σ it al) E ai) E' s:=by
 apply (pF r).el;intro a vs m e t z q;refine zP e λh' he hi hk=>wpAny_pyIter_enum he ?_;have f0:∀ k,s.heap.get? (s.heap.objs.size+k)=none:=λk=>ft (Qz _ _);refine⟨β,_,rfl,rfl,rfl,Step.grow hk rfl rfl,I.grow hk,(λb hb=>?_),(B6 (Z:=Z) (A:=A) (β:=β) (σ:=σ) hh he hi (hk _ _ e) (q.mono λx o _ _ e _ t=>⟨hk _ _ e,t⟩) (.inr ⟨⟨_,_,_,hk _ _ e,.inl rfl⟩,t⟩)),(λn q=>by injection q),by rw[m0];exact z⟩;rcases Qq.mp hb with rfl | hb
 . exact⟨f0 1,I.notMem (f0 1)⟩
 . cases Qt.mp hb;exact⟨f0 0,I.notMem (f0 0)⟩
theorem kI(S0:Step O β σ s ah aa ai)(ao:Inv Z ah aa ai.heap)(hlk:∀ n,lk=some n->aa[n]?=some (.lst base))(S:Step (λx=>O x\/x∈wr) ah (cM lk aa) ai aO ae al)(cc:Inv Z aO ae al.heap)
   (hO:∀ x,O x->¬ bS ai.heap x) (hi:∀ a∈wr,¬ bS ai.heap a) (hf:∀ a∈wr,s.heap.get? a=none):A3 (Step O β σ s aO (bn lk base ae) al) (Inv Z aO (bn lk base ae) al.heap) (∀ x,TT aO (bn lk base ae) x↔TT aO ae x):=by
 have drop:∀ {σ':ac},Step (λx=>O x\/x∈wr) β σ s aO σ' al->Step O β σ s aO σ' al:=λT=>⟨T.ext,T.mono,λx o hx hw hn=>T.keepW x o hx hw (λz=>z.elim hn λq=>by rw[hf x q] at hx;injection hx),T.alive,T.gens,T.os⟩
 cases lk with
 | none=>exact⟨drop ((S0.weaken λ_=>.inl).trans S),cc,λ_=>.rfl⟩
 | some n=>
   have hn:=hlk n rfl;have hlt:n < ah.length:=by rw[ao.len];exact(Qi.mp hn).1
   have hb:=Qk hlt;have U:=BF ao hb hn S (λx z=>z.elim (hO x) (hi x)) cc;have st:ae[n]?=some .busy:=by
     have E9:n < ae.length:=by rw[<- cc.len];exact(Qi.mp (S.get hb)).1
     obtain⟨c,h1,_,_,h4⟩:=S.mono n ae[n] hlt (Qk E9);have:(cM (some n) aa)[n]?=some .busy:=cY hn;rw[this] at h1;(injection h1 with e0_;subst e0_);rw[Qk E9,h4 rfl]
   exact⟨drop ((S0.weaken λ_=>.inl).trans U.1),U.2,λx=>rV (g6:=.busy) (c:=.lst base) st rfl⟩
theorem AO(ao:Inv Z ah aa ai.heap)(hlk:∀ n,lk=some n->aa[n]?=some (.lst base)):Inv Z ah (cM lk aa) ai.heap/\Step b7 ah aa ai ah (cM lk aa) ai:=by
 cases lk with
 | none=>exact⟨ao,Step.refl⟩
 | some n=>
   have hn:=hlk n rfl;have hlt:n < ah.length:=by exact ao.len▸(Qi.mp hn).1
   have:=uu (O:=b7) (c:=.busy) ao (Qk hlt) hn rfl rfl;exact⟨this.2,this.1⟩
variable {o:Option α}
theorem Jq{x:α}{P:Prop}(h:o=some x)(hn:o=none):P:=by rw[hn] at h;injection h
theorem aq{f:α->Bool}(h:ob o f=true):∃ a,o=some a/\f a=true:=by
 cases o with
 | none=>injection h
 | some a=>exact⟨a,rfl,h⟩
theorem wP{a:Bool}(h:(!a)=true):a=false:=by cases a with | false=>rfl | true=>injection h
theorem Mf{a:Bool}(z:(a&&b&&c)=true):A3 (a=true) (b=true) (c=true):=by have q:=Qn.mp z;obtain⟨ha,hb⟩:=Qn.mp q.1;exact⟨ha,hb,q.2⟩
variable {d:Bool}
theorem IX{a:Bool}(z:(a&&b&&c&&d)=true):A4 (a=true) (b=true) (c=true) (d=true):=by have q:=Qn.mp z;obtain⟨ha,hb,hc⟩:=Mf q.1;exact⟨ha,hb,hc,q.2⟩
theorem N7{a e:Bool}(z:(a&&b&&c&&d&&e)=true):A5 (a=true) (b=true) (c=true) (d=true) (e=true):=by have q:=Qn.mp z;obtain⟨ha,hb,hc,hd⟩:=IX q.1;exact⟨ha,hb,hc,hd,q.2⟩
theorem Md{a e f:Bool}(z:(a&&b&&c&&d&&e&&f)=true):A6 (a=true) (b=true) (c=true) (d=true) (e=true) (f=true):=by have q:=Qn.mp z;obtain⟨ha,hb,hc,hd,he⟩:=N7 q.1;exact⟨ha,hb,hc,hd,he,q.2⟩
theorem O4{a e f g:Bool}(z:(a&&b&&c&&d&&e&&f&&g)=true):A7 (a=true) (b=true) (c=true) (d=true) (e=true) (f=true) (g=true):=by have q:=Qn.mp z;obtain⟨ha,hb,hc,hd,he,hf⟩:=Md q.1;exact⟨ha,hb,hc,hd,he,hf,q.2⟩
theorem O3{a e f g x:Bool}(z:(a&&b&&c&&d&&e&&f&&g&&x)=true):A8 (a=true) (b=true) (c=true) (d=true) (e=true) (f=true) (g=true) (x=true):=by have q:=Qn.mp z;obtain⟨ha,hb,hc,hd,he,hf,hg⟩:=O4 q.1;exact⟨ha,hb,hc,hd,he,hf,hg,q.2⟩
theorem aT{k:n=m->α}{a:α}(h:cB n m k=some a):∃ e,k e=a:=by
 unfold cB at h;by_cases e:n=m
 . rw[dif_pos e] at h;exact⟨e,Option.some.inj h⟩
 . rw[dif_neg e] at h;injection h
noncomputable def gC(ex:Expr):Option (Const):=cB ex.ctorIdx 19 λe=>Expr.Constant.elim (motive_1:=λ_=>Const) ex e λa0 _ _=>a0
theorem Bc{ex:Expr}{t:Const}(h:gC ex=some t):X2 λa b=>ex=.Constant t a b:=by refine(aT h).elim λe q=>?_;exact Expr.Constant.elim (motive_1:=λex=>∀ e:ex.ctorIdx=19,(Expr.Constant.elim (motive_1:=λ_=>Const) ex e λa0 _ _=>a0)=t->X2 λa b=>ex=.Constant t a b) ex e (λ_ a b _ q=>q▸⟨a,b,rfl⟩) e q
theorem bP{ex:Expr}{t:Str}(h:fm ex=some t):∃ p,ex=.Name t p:=by refine(aT h).elim λe q=>?_;exact Expr.Name.elim (motive_1:=λex=>∀ e:ex.ctorIdx=23,(Expr.Name.elim (motive_1:=λ_=>Str) ex e λa0 _=>a0)=t->∃ p,ex=.Name t p) ex e (λ_ p _ q=>q▸⟨p,rfl⟩) e q
noncomputable def LM(ex:Expr):Option (Expr×Operator×Expr):=cB ex.ctorIdx 2 λe=>Expr.BinOp.elim (motive_1:=λ_=>Expr×Operator×Expr) ex e λa0 a1 a2 _=>(a0,a1,a2)
theorem LL{ex:Expr}{t:Expr×Operator×Expr}(h:LM ex=some t):∃ p,ex=.BinOp t.1 t.2.1 t.2.2 p:=by refine(aT h).elim λe q=>?_;exact Expr.BinOp.elim (motive_1:=λex=>∀ e:ex.ctorIdx=2,(Expr.BinOp.elim (motive_1:=λ_=>Expr×Operator×Expr) ex e λa0 a1 a2 _=>(a0,a1,a2))=t->∃ p,ex=.BinOp t.1 t.2.1 t.2.2 p) ex e (λ_ _ _ p _ q=>q▸⟨p,rfl⟩) e q
theorem Ir{ex:Expr}{l r:Expr}{o:Operator}(h:LM ex=some (l,o,r)):∃ p,ex=.BinOp l o r p:=LL h
noncomputable def NF(ex:Expr):Option (UnaryOp×Expr):=cB ex.ctorIdx 3 λe=>Expr.UnaryOp.elim (motive_1:=λ_=>UnaryOp×Expr) ex e λa0 a1 _=>(a0,a1)
theorem NE{ex:Expr}{t:UnaryOp×Expr}(h:NF ex=some t):∃ p,ex=.UnaryOp t.1 t.2 p:=by refine(aT h).elim λe q=>?_;exact Expr.UnaryOp.elim (motive_1:=λex=>∀ e:ex.ctorIdx=3,(Expr.UnaryOp.elim (motive_1:=λ_=>UnaryOp×Expr) ex e λa0 a1 _=>(a0,a1))=t->∃ p,ex=.UnaryOp t.1 t.2 p) ex e (λ_ _ p _ q=>q▸⟨p,rfl⟩) e q
theorem LE{ex:Expr}{o:UnaryOp}{x:Expr}(h:NF ex=some (o,x)):∃ p,ex=.UnaryOp o x p:=NE h
noncomputable def LK(ex:Expr):Option (BoolOp×List Expr):=cB ex.ctorIdx 0 λe=>Expr.BoolOp.elim (motive_1:=λ_=>BoolOp×List Expr) ex e λa0 a1 _=>(a0,a1)
theorem LJ{ex:Expr}{t:BoolOp×List Expr}(h:LK ex=some t):∃ p,ex=.BoolOp t.1 t.2 p:=by refine(aT h).elim λe q=>?_;exact Expr.BoolOp.elim (motive_1:=λex=>∀ e:ex.ctorIdx=0,(Expr.BoolOp.elim (motive_1:=λ_=>BoolOp×List Expr) ex e λa0 a1 _=>(a0,a1))=t->∃ p,ex=.BoolOp t.1 t.2 p) ex e (λ_ _ p _ q=>q▸⟨p,rfl⟩) e q
variable {xs:List Expr}
theorem Iq{ex:Expr}{o:BoolOp}(h:LK ex=some (o,xs)):∃ p,ex=.BoolOp o xs p:=LJ h
noncomputable def Ip(ex:Expr):Option (Expr×List CmpOp×List Expr):=cB ex.ctorIdx 15 λe=>Expr.Compare.elim (motive_1:=λ_=>Expr×List CmpOp×List Expr) ex e λa0 a1 a2 _=>(a0,a1,a2)
theorem LI{ex:Expr}{t:Expr×List CmpOp×List Expr}(h:Ip ex=some t):∃ p,ex=.Compare t.1 t.2.1 t.2.2 p:=by refine(aT h).elim λe q=>?_;exact Expr.Compare.elim (motive_1:=λex=>∀ e:ex.ctorIdx=15,(Expr.Compare.elim (motive_1:=λ_=>Expr×List CmpOp×List Expr) ex e λa0 a1 a2 _=>(a0,a1,a2))=t->∃ p,ex=.Compare t.1 t.2.1 t.2.2 p) ex e (λ_ _ _ p _ q=>q▸⟨p,rfl⟩) e q
theorem Bb{ex:Expr}{l:Expr}{o:List CmpOp}{r:List Expr}(h:Ip ex=some (l,o,r)):∃ p,ex=.Compare l o r p:=LI h
noncomputable def OG(ex:Expr):Option (Expr×Expr×Expr):=cB ex.ctorIdx 5 λe=>Expr.IfExp.elim (motive_1:=λ_=>Expr×Expr×Expr) ex e λa0 a1 a2 _=>(a0,a1,a2)
theorem NK{ex:Expr}{t:Expr×Expr×Expr}(h:OG ex=some t):∃ p,ex=.IfExp t.1 t.2.1 t.2.2 p:=by refine(aT h).elim λe q=>?_;exact Expr.IfExp.elim (motive_1:=λex=>∀ e:ex.ctorIdx=5,(Expr.IfExp.elim (motive_1:=λ_=>Expr×Expr×Expr) ex e λa0 a1 a2 _=>(a0,a1,a2))=t->∃ p,ex=.IfExp t.1 t.2.1 t.2.2 p) ex e (λ_ _ _ p _ q=>q▸⟨p,rfl⟩) e q
theorem LG{ex:Expr}{l o r:Expr}(h:OG ex=some (l,o,r)):∃ p,ex=.IfExp l o r p:=NK h
noncomputable def Co(ex:Expr):Option (List Expr):=cB ex.ctorIdx 25 λe=>Expr.Tuple.elim (motive_1:=λ_=>List Expr) ex e λa0 _ _=>a0
theorem kA{ex:Expr}{t:List Expr}(h:Co ex=some t):X2 λk p=>ex=.Tuple t k p:=by refine(aT h).elim λe q=>?_;exact Expr.Tuple.elim (motive_1:=λex=>∀ e:ex.ctorIdx=25,(Expr.Tuple.elim (motive_1:=λ_=>List Expr) ex e λa0 _ _=>a0)=t->X2 λk p=>ex=.Tuple t k p) ex e (λ_ a b _ q=>q▸⟨a,b,rfl⟩) e q
noncomputable def Fq(ex:Expr):Option (List Expr):=cB ex.ctorIdx 24 λe=>Expr.List.elim (motive_1:=λ_=>List Expr) ex e λa0 _=>a0
theorem xt{ex:Expr}{t:List Expr}(h:Fq ex=some t):∃ p,ex=.List t p:=by refine(aT h).elim λe q=>?_;exact Expr.List.elim (motive_1:=λex=>∀ e:ex.ctorIdx=24,(Expr.List.elim (motive_1:=λ_=>List Expr) ex e λa0 _=>a0)=t->∃ p,ex=.List t p) ex e (λ_ p _ q=>q▸⟨p,rfl⟩) e q
noncomputable def Fu(ex:Expr):Option (List (Option Expr)×List Expr):=cB ex.ctorIdx 6 λe=>Expr.Dict.elim (motive_1:=λ_=>List (Option Expr)×List Expr) ex e λa0 a1 _=>(a0,a1)
theorem Im{ex:Expr}{t:List (Option Expr)×List Expr}(h:Fu ex=some t):∃ p,ex=.Dict t.1 t.2 p:=by refine(aT h).elim λe q=>?_;exact Expr.Dict.elim (motive_1:=λex=>∀ e:ex.ctorIdx=6,(Expr.Dict.elim (motive_1:=λ_=>List (Option Expr)×List Expr) ex e λa0 a1 _=>(a0,a1))=t->∃ p,ex=.Dict t.1 t.2 p) ex e (λ_ _ p _ q=>q▸⟨p,rfl⟩) e q
variable {k:List (Option Expr)}
theorem Ft{ex:Expr}{v:List Expr}(h:Fu ex=some (k,v)):∃ p,ex=.Dict k v p:=Im h
noncomputable def Cp(ex:Expr):Option (Expr×Expr):=cB ex.ctorIdx 21 λe=>Expr.Subscript.elim (motive_1:=λ_=>Expr×Expr) ex e λa0 a1 _=>(a0,a1)
theorem Fj{ex:Expr}{t:Expr×Expr}(h:Cp ex=some t):∃ p,ex=.Subscript t.1 t.2 p:=by refine(aT h).elim λe q=>?_;exact Expr.Subscript.elim (motive_1:=λex=>∀ e:ex.ctorIdx=21,(Expr.Subscript.elim (motive_1:=λ_=>Expr×Expr) ex e λa0 a1 _=>(a0,a1))=t->∃ p,ex=.Subscript t.1 t.2 p) ex e (λ_ _ p _ q=>q▸⟨p,rfl⟩) e q
theorem u0{ex:Expr}{v x:Expr}(h:Cp ex=some (v,x)):∃ p,ex=.Subscript v x p:=Fj h
noncomputable def Ii(ex:Expr):Option (Option Expr×Option Expr×Option Expr):=cB ex.ctorIdx 26 λe=>Expr.Slice.elim (motive_1:=λ_=>Option Expr×Option Expr×Option Expr) ex e λa0 a1 a2 _=>(a0,a1,a2)
theorem LF{ex:Expr}{t:Option Expr×Option Expr×Option Expr}(h:Ii ex=some t):∃ p,ex=.Slice t.1 t.2.1 t.2.2 p:=by refine(aT h).elim λe q=>?_;exact Expr.Slice.elim (motive_1:=λex=>∀ e:ex.ctorIdx=26,(Expr.Slice.elim (motive_1:=λ_=>Option Expr×Option Expr×Option Expr) ex e λa0 a1 a2 _=>(a0,a1,a2))=t->∃ p,ex=.Slice t.1 t.2.1 t.2.2 p) ex e (λ_ _ _ p _ q=>q▸⟨p,rfl⟩) e q
theorem Ih{ex:Expr}{l u t:Option Expr}(h:Ii ex=some (l,u,t)):∃ p,ex=.Slice l u t p:=LF h
noncomputable def Fw(ex:Expr):Option (Expr×List Comprehension×Scope):=cB ex.ctorIdx 8 λe=>Expr.ListComp.elim (motive_1:=λ_=>Expr×List Comprehension×Scope) ex e λa0 a1 a2 _=>(a0,a1,a2)
theorem Io{ex:Expr}{t:Expr×List Comprehension×Scope}(h:Fw ex=some t):∃ p,ex=.ListComp t.1 t.2.1 t.2.2 p:=by refine(aT h).elim λe q=>?_;exact Expr.ListComp.elim (motive_1:=λex=>∀ e:ex.ctorIdx=8,(Expr.ListComp.elim (motive_1:=λ_=>Expr×List Comprehension×Scope) ex e λa0 a1 a2 _=>(a0,a1,a2))=t->∃ p,ex=.ListComp t.1 t.2.1 t.2.2 p) ex e (λ_ _ _ p _ q=>q▸⟨p,rfl⟩) e q
variable {g:List Comprehension}
theorem Fv{ex:Expr}{e:Expr}{s:Scope}(h:Fw ex=some (e,g,s)):∃ p,ex=.ListComp e g s p:=Io h
noncomputable def tK(ex:Expr):Option (Expr×List Expr×List Keyword×Pos):=cB ex.ctorIdx 16 λe=>Expr.Call.elim (motive_1:=λ_=>Expr×List Expr×List Keyword×Pos) ex e λa0 a1 a2 a3=>(a0,a1,a2,a3)
theorem u8{ex:Expr}{t:Expr×List Expr×List Keyword×Pos}(h:tK ex=some t):ex=.Call t.1 t.2.1 t.2.2.1 t.2.2.2:=by refine(aT h).elim λe q=>?_;exact Expr.Call.elim (motive_1:=λex=>∀ e:ex.ctorIdx=16,(Expr.Call.elim (motive_1:=λ_=>Expr×List Expr×List Keyword×Pos) ex e λa0 a1 a2 a3=>(a0,a1,a2,a3))=t->ex=.Call t.1 t.2.1 t.2.2.1 t.2.2.2) ex e (λ_ _ _ _ _ q=>q▸rfl) e q
variable {a:List Expr}
theorem xv{ex:Expr}{f:Expr}{k:List Keyword}(h:tK ex=some (f,a,k,p)):ex=.Call f a k p:=u8 h
theorem Iu{ex:Expr}{t:Expr×Str×Pos}(h:Bd ex=some t):ex=.Attribute t.1 t.2.1 t.2.2:=by refine(aT h).elim λe q=>?_;exact Expr.Attribute.elim (motive_1:=λex=>∀ e:ex.ctorIdx=20,(Expr.Attribute.elim (motive_1:=λ_=>Expr×Str×Pos) ex e λa0 a1 a2=>(a0,a1,a2))=t->ex=.Attribute t.1 t.2.1 t.2.2) ex e (λ_ _ _ _ q=>q▸rfl) e q
theorem xw{ex:Expr}{o:Expr}{n:Str}(h:Bd ex=some (o,n,p)):ex=.Attribute o n p:=Iu h
noncomputable def NY:Const->Option Unit
 | .none=>some ()
 | _=>none
noncomputable def NZ:Const->Option Bool
 | .bool b=>some b
 | _=>none
noncomputable def OZ:Const->Option Int
 | .int b=>some b
 | _=>none
noncomputable def OY:Const->Option Str
 | .str b=>some b
 | _=>none
noncomputable def JB(ex:Expr):Option Unit:=(gC ex).bind NY
noncomputable def JD(ex:Expr):Option Bool:=(gC ex).bind NZ
noncomputable def NJ(ex:Expr):Option Int:=(gC ex).bind OZ
noncomputable def NG(ex:Expr):Option Str:=(gC ex).bind OY
variable {u:Unit}
theorem Fo{ex:Expr}(h:JB ex=some u):X2 λa b=>ex=.Constant .none a b:=by obtain⟨c,h1,h2⟩:=Qo.mp h;obtain⟨a,b,rfl⟩:=Bc h1;cases c <;> first | exact⟨_,_,rfl⟩ | exact Jq h2 rfl
theorem Fx{ex:Expr}{x:Bool}(h:JD ex=some x):X2 λa b=>ex=.Constant (.bool x) a b:=by obtain⟨c,h1,h2⟩:=Qo.mp h;obtain⟨a,b,rfl⟩:=Bc h1;cases c <;> first | exact Jq h2 rfl | ((injection h2 with e0_;subst e0_);exact⟨_,_,rfl⟩)
theorem Il{ex:Expr}{x:Int}(h:NJ ex=some x):X2 λa b=>ex=.Constant (.int x) a b:=by obtain⟨c,h1,h2⟩:=Qo.mp h;obtain⟨a,b,rfl⟩:=Bc h1;cases c <;> first | exact Jq h2 rfl | ((injection h2 with e0_;subst e0_);exact⟨_,_,rfl⟩)
theorem Ig{ex:Expr}(h:NG ex=some x):X2 λa b=>ex=.Constant (.str x) a b:=by obtain⟨c,h1,h2⟩:=Qo.mp h;obtain⟨a,b,rfl⟩:=Bc h1;cases c <;> first | exact Jq h2 rfl | ((injection h2 with e0_;subst e0_);exact⟨_,_,rfl⟩)
noncomputable def NI(ex:Expr):Option Expr:=(NF ex).bind λq=>if q.1=.USub then some q.2 else none
noncomputable def NH(ex:Expr):Option Expr:=(NF ex).bind λq=>if q.1=.Not then some q.2 else none
theorem Je{ex x:Expr}{o:UnaryOp}(h:((NF ex).bind λq=>if q.1=o then some q.2 else none)=some x):∃ p,ex=.UnaryOp o x p:=by
 obtain⟨⟨o',y⟩,h1,h2⟩:=Qo.mp h;apply iG (LE h1);intro p;by_cases ho:o'=o
 . rw[if_pos ho] at h2;(injection h2 with e0_;subst e0_);subst ho;exact⟨p,rfl⟩
 . rw[if_neg ho] at h2;injection h2
theorem Ik{ex x:Expr}(h:NI ex=some x):∃ p,ex=.UnaryOp .USub x p:=Je h
theorem Ij{ex x:Expr}(h:NH ex=some x):∃ p,ex=.UnaryOp .Not x p:=Je h
noncomputable def Kf{α:Type}:List α->Option (α×List α)
 | a::b=>some (a,b)
 | _=>none
variable {l:List α}
theorem mG{a:α}{r:List α}(h:Kf l=some (a,r)):l=a::r:=by
 cases l with
 | nil=>injection h
 | cons x l=>(injection h with e0_;injection e0_ with e0_ f0_;subst e0_;subst f0_);rfl
theorem fF(h:l.isEmpty=true):l=[]:=by
 cases l with
 | nil=>rfl
 | cons x l=>injection h
noncomputable def OI{α:Type}:List α->Option Unit
 | []=>some ()
 | _=>none
theorem FU(h:OI l=some u):l=[]:=by
 cases l with
 | nil=>rfl
 | cons _ _=>exact Jq h rfl
noncomputable def qM(ex:Expr):Option (Str×List Expr):=(tK ex).bind λq=>(fm q.1).bind λx=>(OI q.2.2.1).bind λ_=>some (x,q.2.1)
theorem eW{ex:Expr}{a:List Expr}(h:qM ex=some (x,a)):X2 λp pos=>ex=.Call (.Name x p) a [] pos:=by refine kk λK k=>?_;obtain⟨q,h1,h⟩:=Qo.mp h;obtain⟨x',h2,h⟩:=Qo.mp h;obtain⟨_,h3,h⟩:=Qo.mp h;obtain⟨p,h2⟩:=bP h2;refine k ?_;have h4:=Prod.mk.inj (Option.some.inj h);refine⟨p,q.2.2.2,?_⟩;rw[xv (f:=q.1) (a:=q.2.1) (k:=q.2.2.1) (p:=q.2.2.2) h1,h2,FU h3,h4.1,h4.2]
noncomputable def JC(ex:Expr):Option (Expr×Str×Pos×List Expr×Pos):=(tK ex).bind λq=>(Bd q.1).bind λo=>(OI q.2.2.1).bind λ_=>some (o.1,o.2.1,o.2.2,q.2.1,q.2.2.2)
variable {nm:Str}
theorem Fp{ex ov:Expr}{ap:Pos}{a:List Expr}(h:JC ex=some (ov,nm,ap,a,pos)):ex=.Call (.Attribute ov nm ap) a [] pos:=by obtain⟨q,h1,h⟩:=Qo.mp h;obtain⟨o,h2,h⟩:=Qo.mp h;obtain⟨_,h3,h⟩:=Qo.mp h;have h2:=xw (o:=o.1) (n:=o.2.1) (p:=o.2.2) h2;rw[xv (f:=q.1) (a:=q.2.1) (k:=q.2.2.1) (p:=q.2.2.2) h1,h2,FU h3];exact congrArg (λt:Expr×Str×Pos×List Expr×Pos=>Expr.Call (.Attribute t.1 t.2.1 t.2.2.1) t.2.2.2.1 [] t.2.2.2.2) (Option.some.inj h)
noncomputable def PG:Bi->Option Ty
 | .isinst t=>some t
 | _=>none
theorem Ma{b:Bi}{t:Ty}(h:PG b=some t):b=.isinst t:=by cases b <;> first | ((injection h with e0_;subst e0_);rfl) | injection h
noncomputable def qG(ks:List (Str×NameKind))(x:Str):Bool:=decide (ks.lookup x=some .globalImplicit)&&bV x
noncomputable def A2(x:Str):Bool:=PyData.strOk x&&decide (x.cps.size<=LIM)
noncomputable def eT(ex:Expr):Bool:=Expr.casesOn (motive_1:=λ_=>Bool) ex (λ_ _ _=>true) (λ_ _ _=>true) (λ_ _ _ _=>true) (λ_ _ _=>true) (λ_ _ _ _=>true) (λ_ _ _ _=>true) (λ_ _ _=>true) (λ_ _ _=>true) (λ_ _ _ _=>true) (λ_ _ _ _=>true) (λ_ _ _ _ _=>true) (λ_ _ _ _=>true) (λ_ _=>true) (λ_ _=>true) (λ_ _=>true) (λ_ _ _ _=>true) (λ_ _ _ _=>true) (λ_ _ _ _=>true) (λ_ _=>true) (λ_ _ _=>true) (λ_ _ _=>true) (λ_ _ _=>true) (λ_ _=>false) (λ_ _=>true) (λ_ _=>true) (λ_ _ _=>true) (λ_ _ _ _=>true)
noncomputable def wQ(ex:Expr):Bool:=(Ii ex).isNone
noncomputable def qj(ex:Expr):Bool:=Expr.casesOn (motive_1:=λ_=>Bool) ex (λ_ _ _=>true) (λ_ _ _=>true) (λ_ _ _ _=>true) (λ_ _ _=>true) (λ_ _ _ _=>true) (λ_ _ _ _=>true) (λ_ _ _=>true) (λ_ _ _=>false) (λ_ _ _ _=>true) (λ_ _ _ _=>true) (λ_ _ _ _ _=>true) (λ_ _ _ _=>true) (λ_ _=>true) (λ_ _=>true) (λ_ _=>true) (λ_ _ _ _=>true) (λ_ _ _ _=>true) (λ_ _ _ _=>true) (λ_ _=>true) (λ_ _ _=>true) (λ_ _ _=>true) (λ_ _ _=>true) (λ_ _=>true) (λ_ _=>true) (λ_ _=>true) (λ_ _ _=>true) (λ_ _ _ _=>true)
noncomputable def AF(ex:Expr):Bool:=(tK ex).isNone
noncomputable def sP(t:Ty):Str:=Str.ofString (ue t)
noncomputable def rO:Bi->Str
 | .len=>"len"
 | .list=>"list"
 | .dict=>"dict"
 | .int=>"int"
 | .max=>"max"
 | .tuple=>"tuple"
 | .sorted=>"sorted"
 | .sortedSet=>"sorted"
 | .any=>"any"
 | .all=>"all"
 | .isinst _=>"isinstance"
noncomputable def PH:Bi->Bool
 | .sortedSet=>true
 | _=>false
theorem Mb{b:Bi}(h:PH b=true):b=.sortedSet:=by cases b <;> first | rfl | injection h
noncomputable def Bi.plain:Bi->Bool
 | .isinst _ | .sortedSet=>false
 | _=>true
noncomputable def No(sc:List (Str×Nat)):Tgt->Expr->Bool
 | .var i,ex=>ob (fm ex) λx=>decide (sc.lookup x=some i)&&bV x
 | .tup _,_=>false
variable {t:Tgt}
theorem HN{ex:Expr}(h:No sc t ex=true):X3 λi x p=>A4 (t=.var i) (ex=.Name x p) (sc.lookup x=some i) (bV x=true):=by
 cases t with
 | tup l=>injection h
 | var i=>replace h:=aq h;obtain⟨x,h0,h⟩:=h;apply iG (bP h0);intro p;have h:(decide (sc.lookup x=some i)&&bV x)=true:=h;simp only[Qw,decide_eq_true_eq] at h;exact⟨i,x,p,rfl,rfl,h.1,h.2⟩
noncomputable def ff(ex:Expr):List Str:=oc (fm ex) (λx=>[x]) (oc (Co ex) (λxs=>xs.filterMap fm) [])
noncomputable def cR:Tgt->List Nat
 | .var i=>[i]
 | .tup is=>is
noncomputable def di(sc:List (Str×Nat))(names:List (Str×NameKind))(t:Tgt)(target:Expr):List (Str×Nat):=
 (ff target).zip (cR t)++(names.filter λx=>decide (x.2=.free)).filterMap λx=>(sc.lookup x.1).map λi=>(x.1,i)
noncomputable def F3(ks:List (Str×NameKind))(sc:List (Str×Nat))(scope:Scope)(t:Tgt)(target:Expr):Bool:=
 decide (scope.kind=.function)&&(scope.names.all λx=>match x.2 with
   | .local=>decide (scope.names.lookup x.1=some .local)
   | .free=>decide (scope.names.lookup x.1=some .free)&&decide (ks.lookup x.1=some .cell\/ks.lookup x.1=some .free)&&(sc.lookup x.1).isSome&&bV x.1
   | .globalImplicit=>true
   | _=>false)&&
 ((ff target).all λx=>decide (scope.names.lookup x=some .local)&&bV x)&&decide ((di sc scope.names t target).map (·.2)).Nodup&&decide ((ff target).length=(cR t).length)
noncomputable def jO(sc:List (Str×Nat)):List Nat->List Expr->Bool
 | [],xs=>xs.isEmpty
 | i::l,xs=>ob (Kf xs) λq=>ob (fm q.1) λx=>decide (sc.lookup x=some i)&&jO sc l q.2
noncomputable def y6:Tgt->Bool
 | .tup _=>true
 | _=>false
noncomputable def nP(sc:List (Str×Nat)):Tgt->Expr->Bool
 | .var i,ex=>ob (fm ex) λx=>decide (sc.lookup x=some i)
 | .tup l,ex=>ob (Co ex) λxs=>jO sc l xs
noncomputable def y8:It->Bool
 | .enum _=>true
 | _=>false
inductive InitX(h:Heap)(mN:Str->Option Value):Prop where
 | mk (f:Addr) (o:Obj) (fd:FuncData) (p0 p1 p2:Str) (n1 n2 n3 n4 n5 n6 n7 n8:Pos) (h1:mN "__init__"=some (.ref f)) (h2:h.get? f=some o) (h3:o.cls=.type "function") (h4:o.data=.func fd)
   (h5:fd.body=.stmts [.Assign [.Attribute (.Name p0 n1) jn n2] (.Name p1 n3) n4,.Assign [.Attribute (.Name p0 n5) dj n6] (.Name p2 n7) n8]) (h6:fd.closure=[]) (h7:h.CodeRec fd.code fd.qualname) (h8:fd.scope.kind=.function/\fd.scope.isCoroutine=false/\fd.scope.isGenerator=false)
   (h9:∀ a b c:Value,bindArgs fd ⟨[a,b,c],[]⟩=pure [(p0,a),(p1,b),(p2,c)]) (h10:∀ p∈[p0,p1,p2],fd.scope.names.lookup p=some .local/\bV p=true) (h11:p1≠p0/\p2≠p0/\p2≠p1):InitX h mN
variable {mN:Str->Option Value}
theorem InitX.keeps(X:InitX h mN)(hk:∀ b o,h.get? b=some o->h'.get? b=some o):InitX h' mN:=by
 cases X with
 | mk f o fd p0 p1 p2 n1 n2 n3 n4 n5 n6 n7 n8 h1 h2 h3 h4 h5 h6 h7 h8 h9 h10 h11=>exact⟨f,o,fd,p0,p1,p2,n1,n2,n3,n4,n5,n6,n7,n8,h1,hk _ _ h2,h3,h4,h5,h6,h7.keeps hk,h8,h9,h10,h11⟩
section
variable (P:Nat->Option Fn)(gn:Nat->Str)
mutual
noncomputable def mE(ks:List (Str×NameKind))(sc:List (Str×Nat)):E->Expr->Bool
 | .none=>λex=>ob (JB ex) λ_=>true
 | .bool b=>λex=>ob (JD ex) λc=>b==c
 | .int i=>λex=>ob (NJ ex) λj=>decide (i=j)
 | .str x=>λex=>ob (NG ex) λy=>decide (x=y)&&A2 x
 | .var i=>λex=>ob (fm ex) λx=>decide (sc.lookup x=some i)&&bV x
 | .glob g=>λex=>ob (fm ex) λx=>decide (x=gn g)&&qG ks x
 | .bin op _ a b=>λex=>ob (LM ex) λq=>decide (MY op=q.2.1)&&mE ks sc a q.1&&mE ks sc b q.2.2
 | .neg a=>λex=>ob (NI ex) λx=>mE ks sc a x
 | .not a=>λex=>ob (NH ex) λx=>mE ks sc a x
 | .bop k es=>λex=>ob (LK ex) λq=>decide (q.1=if k then .And else .Or)&&qu ks sc es q.2
 | .cmp op a b=>λex=>ob (Ip ex) λq=>ob (one q.2.1) λo=>ob (one q.2.2) λr=>decide (bZ op=o)&&!behindInMarks o r&&mE ks sc a q.1&&mE ks sc b r
 | .cmp2 bA fQ a b c=>λex=>ob (Ip ex) λq=>ob (two q.2.1) λo=>ob (two q.2.2) λr=>decide (bZ bA=o.1)&&decide (bZ fQ=o.2)&&!behindInMarks o.2 r.2&&mE ks sc a q.1&&mE ks sc b r.1&&mE ks sc c r.2
 | .ite c a b=>λex=>ob (OG ex) λq=>mE ks sc c q.1&&mE ks sc a q.2.1&&mE ks sc b q.2.2
 | .tup es=>λex=>ob (Co ex) λxs=>qu ks sc es xs&&decide (xs.length<=1000)
 | .list _ es=>λex=>ob (Fq ex) λxs=>qu ks sc es xs&&decide (xs.length<=1000)
 | .dict0=>λex=>ob (Fu ex) λq=>q.1.isEmpty&&q.2.isEmpty
 | .idx a i=>λex=>ob (Cp ex) λq=>wQ q.2&&mE ks sc a q.1&&mE ks sc i q.2
 | .slc _ a lo hi=>λex=>ob (Cp ex) λq=>ob (Ii q.2) λp=>p.2.2.isNone&&mE ks sc a q.1&&AM ks sc lo p.1&&AM ks sc hi p.2.1
 | .comp _ t it c e=>λex=>ob (Fw ex) λq=>ob (one q.2.1) λg=>decide (g.is_async=0)&&(y6 t||!y8 it)&&Np ks sc it g.iter&&qj g.iter&&F3 ks sc q.2.2 t g.target&&nP (di sc q.2.2.names t g.target) t g.target&&
       decide (g.ifs.length<=1)&&AM q.2.2.names (di sc q.2.2.names t g.target) c g.ifs.head?&&mE q.2.2.names (di sc q.2.2.names t g.target) e q.1&&(P 0).isSome
 | .call f es=>λex=>ob (qM ex) λq=>decide ((P f).map (λfn=>(fn.name,fn.meth||fn.ctor))=some (q.1,false))&&qG ks q.1&&qu ks sc es q.2
 | .bi b _ es=>λex=>ob (qM ex) λq=>decide (q.1=rO b)&&qG ks q.1&&(P 0).isSome&&(match PG b with
     | some t=>ob (two q.2) λr=>ob (fm r.2) λz=>decide (z=sP t)&&qG ks z&&qu ks sc es [r.1]
     | none=>if PH b then ob (one q.2) λr=>ob (qM r) λz=>decide (z.1=("set":Str))&&qG ks z.1&&eT r&&qu ks sc es z.2 else b.plain&&qu ks sc es q.2)
 | .meth b o es=>λex=>ob (JC ex) λq=>decide (q.2.1=uL b)&&b.done&&AF q.1&&decide (q.2.2.2.1.length < 30)&&decide (q.2.2.1.endLine=q.2.2.2.2.line)&&mE ks sc o q.1&&qu ks sc es q.2.2.2.1
 | .freeze e=>λex=>mE ks sc e ex
 | .isx k e=>λex=>ob (qM ex) λq=>ob (two q.2) λr=>ob (fm r.2) λz=>decide (q.1=("isinstance":Str))&&qG ks q.1&&decide (z=lg k)&&qG ks z&&decide (k<=7)&&eT r.1&&mE ks sc e r.1
noncomputable def qu(ks:List (Str×NameKind))(sc:List (Str×Nat)):EL->List Expr->Bool
 | .nil=>λxs=>xs.isEmpty
 | .cons e es=>λxs=>ob (Kf xs) λq=>eT q.1&&mE ks sc e q.1&&qu ks sc es q.2
noncomputable def AM(ks:List (Str×NameKind))(sc:List (Str×Nat)):EO->Option Expr->Bool
 | .no=>λx=>x.isNone
 | .yes e=>λx=>ob x λx=>mE ks sc e x
noncomputable def Np(ks:List (Str×NameKind))(sc:List (Str×Nat)):It->Expr->Bool
 | .seq e=>λex=>mE ks sc e ex
 | .range e=>λex=>ob (qM ex) λq=>ob (one q.2) λa=>decide (q.1=("range":Str))&&qG ks q.1&&eT a&&mE ks sc e a
 | .range2 zw kP=>λex=>ob (qM ex) λq=>ob (two q.2) λa=>decide (q.1=("range":Str))&&qG ks q.1&&eT a.1&&mE ks sc zw a.1&&eT a.2&&mE ks sc kP a.2
 | .enum e=>λex=>ob (qM ex) λq=>ob (one q.2) λa=>decide (q.1=("enumerate":Str))&&qG ks q.1&&eT a&&mE ks sc e a
end
end
variable {P:Nat->Option Fn}{gn:Nat->Str}
theorem ky(h:qu P gn ks sc .nil xs=true):xs=[]:=fF h
variable {e:E}{es:EL}
theorem fi(h:qu P gn ks sc (.cons e es) xs=true):X2 λy ys=>A4 (xs=y::ys) (eT y=true) (mE P gn ks sc e y=true) (qu P gn ks sc es ys=true):=by refine kk λK k=>?_;replace h:=aq h;obtain⟨⟨y,ys⟩,h1,h⟩:=h;have h:(eT y&&mE P gn ks sc e y&&qu P gn ks sc es ys)=true:=h;simp only[Qw] at h;refine k ?_;exact⟨y,ys,mG h1,h.1.1,h.1.2,h.2⟩
structure BiOk(Z:Cx):Prop where
 free:∀ b:Bi,Z.mg (rO b)=none/\(b.plain=true\/(∃ t,b=.isinst t)->Z.mb (rO b)=some (t0 b))
 ty:∀ t:Ty,Z.mg (sP t)=none/\Z.mb (sP t)=some (.type (ue t))
 range:Z.mg "range"=none/\Z.mb "range"=some (.type "range")
 enum:Z.mg "enumerate"=none/\Z.mb "enumerate"=some (.type "enumerate")
 set:Z.mg "set"=none/\Z.mb "set"=some (.type "set")
inductive XAt(h:Heap)(k:Nat):Prop where
 | mk (nm q:Str) (N:Addr) (bs:List Value) (hdct:Bool) (sn:List Str) (sub:List Value) (ab:Bool) (col:Option Bool) (dd:Option Addr) (k0 k1 k2 k3 k5:Option Value) (mN:Str->Option Value) (h1:h.get? (KA k)=some (excClassObj nm q (KA k) N bs (dG k) hdct sn sub ab col dd k0 k1 k2 k3 k5 "ValueError.__new__"))
   (h2:h.Ns N mN) (h3:∀ n∈dN,mN n=none) (h4:k<=5->mN "__init__"=none) (h5:k=6->hdct=true/\InitX h mN):XAt h k
structure XOk(Z:Cx):Prop where
 own:∀ k,k<=6->Z.mg (lg k)=some (.ref (KA k))/\XAt Z.h₀ k
 inj:∀ i j,i<=6->j<=6->KA i=KA j->i=j
 ve:Z.mg "ValueError"=none/\Z.mb "ValueError"=some (.type "ValueError")
def P9(Z:Cx)(P:Nat->Option Fn)(cf:Nat->List V->ac->Res V)(d:Nat):Prop:=∀ f fn,P f=some fn->(fn.meth||fn.ctor)=false->X3 λa o fd=>A4 (Z.mg fn.name=some (.ref a)) (Z.h₀.get? a=some o) (o.data=.func fd) (∀ A β σ s vs xs,jy Z d A->dK Z β s.heap->Inv Z β σ s.heap->VRels β σ s.heap vs xs->C4 Z A (call (.ref a) vs) (cf f xs σ) β σ s)
noncomputable def Qd (Z:Cx) (P:Nat->Option Fn) (cf:Nat->List V->ac->Res V) (d:Nat):Prop:=∀ f fn,P f=some fn->fn.meth=true->X3 λa o fd=>A5 (Z.mn fn.name=some (.ref a)) (Z.h₀.get? a=some o) (o.cls=.type "function") (o.data=.func fd) (∀ A β σ s vs xs,jy Z d A->dK Z β s.heap->Inv Z β σ s.heap->VRels β σ s.heap vs xs->C4 Z A (call (.ref a) vs) (cf f xs σ) β σ s)
def Qc(Z:Cx)(P:Nat->Option Fn)(cf:Nat->List V->ac->Res V)(d:Nat):Prop:=∀ f fn,P f=some fn->fn.ctor=true->∀ A β σ s vs xs,jy Z d A->dK Z β s.heap->Inv Z β σ s.heap->VRels β σ s.heap vs xs->C4 Z A (call (.ref RA) vs) (cf f xs σ) β σ s
noncomputable def P8 (Z:Cx) (P:Nat->Option Fn) (cf:Nat->List V->ac->Res V) (d:Nat):Prop:=∀ f fn,P f=some fn->fn.name=("_law_kind":Str)->X3 λa o fd=>A4 (Z.mg fn.name=some (.ref a)) (Z.h₀.get? a=some o) (o.data=.func fd) (∀ A β σ s vs xs,jy { Z with q:=true } d A->dK Z β s.heap->Inv Z β σ s.heap->VRels β σ s.heap vs xs->C4 Z A (call (.ref a) vs) (cf f xs σ) β σ s)
structure Wd(Z:Cx)(P:Nat->Option Fn)(gn:Nat->Str)(G:Nat->Option PyData)(cf:Nat->List V->ac->Res V)(d:Nat):Prop where
 w:World0 Z
 y:vR Z
 b:BiOk Z
 g:∀ k x,G k=some x->∃ v,Z.mg (gn k)=some v/\∀ T h,Rel T h v x
 c:P9 Z P cf d
 q:(P 0).isSome=true->Z.q=false
 x:XOk Z
 /-- what may be called while an exception is handled -/
 k:P8 Z P cf d
abbrev TR:Bool->Bool->List Addr->ac->Heap->Prop:=λa b _ _ _=>a=b
noncomputable def lJ(r:Res V):Res Bool:=r.bind λv σ=>bj (truthy σ v) σ
variable {a:E}{vs:List Value}{d:Nat}{r:Res V}{t:Sem Value}{u:Value}{R:Value->V->List Addr->ac->Heap->Prop}{c:γ}
section
def gx(Z:Cx)(A:Around)(env:Env)(ex:Expr)(r:Res V)(β:List Addr)(σ:ac)(s:Shared):Prop:=
 Ev Z b7 A (eval ex env) r VR β σ s/\Ev Z b7 A (isTrue ex env (eval ex env)) (lJ r) TR β σ s
def PE(Z:Cx)(P:Nat->Option Fn)(gn:Nat->Str)(G:Nat->Option PyData)(cf:Nat->List V->ac->Res V)(d:Nat)(e:E):Prop:=
 ∀ ks sc ex env ρ A β σ s,mE P gn ks sc e ex=true->jy Z d A->FrameOk Z env ks sc ρ β σ s.heap->Inv Z β σ s.heap->gx Z A env ex (ag G cf e ρ σ) β σ s
def GB(Z:Cx)(P:Nat->Option Fn)(gn:Nat->Str)(G:Nat->Option PyData)(cf:Nat->List V->ac->Res V)(d:Nat)(es:EL):Prop:=
 (∀ ks sc xs env ρ A β σ s,qu P gn ks sc es xs=true->jy Z d A->FrameOk Z env ks sc ρ β σ s.heap->Inv Z β σ s.heap->Ev Z b7 A (spliced (starEach xs env)) (aV G cf es ρ σ) O5 β σ s)/\
 (∀ k pos ks sc xs env ρ A β σ s,qu P gn ks sc es xs=true->jy Z d A->FrameOk Z env ks sc ρ β σ s.heap->Inv Z β σ s.heap->
   Ev Z b7 A (boolOp pos (if k then .And else .Or) (evalEach xs env)) (gL G cf k es ρ σ) VR β σ s/\Ev Z b7 A (allTrue (if k then .And else .Or) xs env) (lJ (gL G cf k es ρ σ)) TR β σ s)
def I2(Z:Cx)(P:Nat->Option Fn)(gn:Nat->Str)(G:Nat->Option PyData)(cf:Nat->List V->ac->Res V)(d:Nat)(e:EO):Prop:=
 (∀ ks sc ex env ρ A β σ s,AM P gn ks sc e ex=true->jy Z d A->FrameOk Z env ks sc ρ β σ s.heap->Inv Z β σ s.heap->Ev Z b7 A (valueOrNone (evalOpt ex env)) (dg G cf e ρ σ) Mu β σ s)/\
 (∀ ks sc ex env ρ A β σ s,AM P gn ks sc e (some ex)=true->jy Z d A->FrameOk Z env ks sc ρ β σ s.heap->Inv Z β σ s.heap->∃ e',e=.yes e'/\gx Z A env ex (ag G cf e' ρ σ) β σ s)
def Mk(Z:Cx)(P:Nat->Option Fn)(gn:Nat->Str)(G:Nat->Option PyData)(cf:Nat->List V->ac->Res V)(d:Nat)(it:It):Prop:=
 ∀ ks sc ex env ρ A β σ s I aa,Np P gn ks sc it ex=true->jy Z d A->A.handled=none->FrameOk Z env ks sc ρ β σ s.heap->Inv Z β σ s.heap->cj G cf it ρ σ=.ok I aa->
   wpAny (model Z.prog Z.w) A (eval ex env) (λx ai=>wpAny (model Z.prog Z.w) A (pyIter x) (λitv al=>ItPost Z A (y8 it) I β σ s aa itv al) (λ_ _=>False) ai) (λ_ _=>False) s
variable {ex:Expr}
theorem Step.toks{tk:Nat}(S:Step O β σ s β' σ' s'):Step O β σ s β' σ' { s' with toks:=tk }:=⟨S.ext,S.mono,S.keepW,S.alive,S.gens,S.os⟩
theorem yw(h:lJ r=.ok b σ'):∃ v,r=.ok v σ'/\truthy σ' v=some b:=by
 cases r with
 | bad=>injection h
 | ok v aa=>
   have h:bj (truthy aa v) aa=.ok b σ':=h;cases ht:truthy aa v with
   | none=>rw[ht] at h;injection h
   | some b'=>rw[ht] at h;(injection h with e0_ f0_;subst e0_;subst f0_);exact⟨v,rfl,ht⟩
theorem ig(a:Res γ)(f:γ->ac->Res V):lJ (a.bind f)=a.bind λx σ=>lJ (f x σ):=by cases a <;> rfl
theorem wg(o:Option Bool)(σ:ac):lJ (bj (o.map λb=>V.d (.bool b)) σ)=(bj o σ).bind λb σ=>.ok b σ:=by cases o <;> rfl
theorem G6(t:Bool)(a b:Res V):lJ (if t then a else b)=if t then lJ a else lJ b:=by cases t <;> rfl
theorem tQ(op:COp)(a b:E)(ρ:Fm)(σ:ac):ag G cf (.cmp op a b) ρ σ=(ag G cf a ρ σ).bind λx aa=>(ag G cf b ρ aa).bind λy ae=>bj ((bq op x y ae).map λb=>V.d (.bool b)) ae:=rfl
theorem qY(bA fQ:COp)(a b c:E)(ρ:Fm)(σ:ac):ag G cf (.cmp2 bA fQ a b c) ρ σ=(ag G cf a ρ σ).bind λx aa=>(ag G cf b ρ aa).bind λy ae=>(bj (bq bA x y ae) ae).bind λt ae=>if t then (ag G cf c ρ ae).bind λz az=>bj ((bq fQ y z az).map λb=>V.d (.bool b)) az else .ok (.d (.bool false)) ae:=rfl
theorem Dx(Y:vR Z)(h:Ev Z O A t r VR β σ s):∀ b σ',lJ r=.ok b σ'->wpAny (model Z.prog Z.w) A t (λv ai=>wpAny (model Z.prog Z.w) A (PySem.truthy v) (λa s'=>Po Z O β σ s σ' s' λβ'=>a=b) (λ_ _=>False) ai) (λ_ _=>False) s:=by intro b σ' e;obtain⟨v,rfl,hb⟩:=yw e;refine Qs (h v σ' rfl) (λw ai ⟨ah,S,I,q⟩=>?_) λ_ _ x=>x;exact iO Y I q hb λtk=>⟨ah,S.toks,I,rfl⟩
theorem gx.plain(Y:vR Z)(hp:isTrue ex env (eval ex env)=(do let v <- eval ex env;standAt ex.pos;holding [v] (PySem.truthy v)))(h:Ev Z b7 A (eval ex env) r VR β σ s):gx Z A env ex r β σ s:=by refine⟨h,λb σ' e=>?_⟩;exact hp▸(Pe (Qs (Dx Y h b σ' e) (λv ai a5=>Pe (Rb (Rs a5))) λ_ _ x=>x))
theorem iC{f:α->γ}(h:bj (o.map f) σ=.ok c σ'):∃ a,A3 (o=some a) (c=f a) (σ'=σ):=by
 cases o with
 | none=>injection h
 | some a=>(injection h with e0_ f0_;subst e0_;subst f0_);exact⟨a,rfl,rfl,rfl⟩
theorem uO{f:α->γ}{P:γ->ac->Prop}(h:bj (o.map f) σ=.ok c σ')(k:∀ a,o=some a->P (f a) σ):P c σ':=by obtain⟨a,e,e1,e2⟩:=iC h;exact e1▸e2▸k a e
theorem AP{c:α}(h:bj o σ=.ok c σ'):o=some c/\σ'=σ:=by
 cases o with
 | none=>injection h
 | some a=>(injection h with e0_ f0_;subst e0_;subst f0_);exact⟨rfl,rfl⟩
theorem KU(D:Wd Z P gn G cf d):PE Z P gn G cf d .none:=λks sc ex env ρ A β σ s hm hA F I=>by
 replace hm:=aq hm;obtain⟨_,h0,hm⟩:=hm;apply GP (Fo h0);intro _ _
 . exact gx.plain D.y rfl (Ev.grown I (wpAny_Constant_none ⟨λ_ _ e=>e,rfl,rfl,.none⟩))
theorem K5(D:Wd Z P gn G cf d)(b:Bool):PE Z P gn G cf d (.bool b):=λks sc ex env ρ A β σ s hm hA F I=>by
 replace hm:=aq hm;obtain⟨c,h0,hm⟩:=hm;apply GP (Fx h0);intro _ _
 . have:=eq_of_beq hm;subst this;exact gx.plain D.y rfl (Ev.grown I (wpAny_Constant_bool ⟨λ_ _ e=>e,rfl,rfl,.bool _⟩))
theorem Na(D:Wd Z P gn G cf d)(i:Int):PE Z P gn G cf d (.int i):=λks sc ex env ρ A β σ s hm hA F I=>by
 replace hm:=aq hm;obtain⟨c,h0,hm⟩:=hm;obtain⟨_,_,rfl⟩:=Il h0
 . have:=of_decide_eq_true hm;subst this;exact gx.plain D.y rfl (Ev.grown I (wpAny_Constant_int ⟨λ_ _ e=>e,rfl,rfl,.int _ _⟩))
theorem xo(h:A2 x=true):cK x:=by simp only[A2,Qw,decide_eq_true_eq] at h;exact h
theorem M2(D:Wd Z P gn G cf d)(x:Str):PE Z P gn G cf d (.str x):=λks sc ex env ρ A β σ s hm hA F I=>by
 replace hm:=aq hm;obtain⟨c,h0,hm⟩:=hm;obtain⟨_,_,rfl⟩:=Ig h0
 . simp only[Qw,decide_eq_true_eq] at hm;obtain⟨rfl,hg⟩:=hm;exact gx.plain D.y rfl (Ev.grown I (wpAny_Constant_str ⟨λ_ _ e=>e,rfl,rfl,.str _ _ (xo hg)⟩))
theorem cI (h:bV x=true):(x==("__debug__":Str))=false/\(x==("__classdict__":Str))=false:=by simpa only[bV,Qw,Rg] using h
theorem M0(D:Wd Z P gn G cf d)(i:Nat):PE Z P gn G cf d (.var i):=λks sc ex env ρ A β σ s hm hA F I=>by
 replace hm:=aq hm;obtain⟨x,h0,hm⟩:=hm;apply iG (bP h0);intro pos
 . skip
   simp only[Qw,decide_eq_true_eq] at hm;refine gx.plain D.y rfl λc σ' e=>?_;rw[LV] at e;obtain⟨hv,hu,rfl⟩:=HP e;exact wpAny_Name (F.load hm.1 hv (λq=>hu q) λw hw=>⟨β,Step.refl,I,hw⟩) (cI hm.2).1
theorem EZ (F:FrameOk Z env ks sc ρ β σ h) (hg:qG ks x=true):env.kindOf x=some .globalImplicit/\(x==("__debug__":Str))=false:=by
 simp only[qG,Qw,decide_eq_true_eq] at hg;refine⟨?_,(cI hg.2).1⟩;rcases F.kinds x _ hg.1 with h | ⟨h,_⟩
 . exact h
 . injection h
theorem gH{E:Value->Shared->Prop}(D:Wd Z P gn G cf d)(F:FrameOk Z env ks sc ρ β σ s.heap)(I:Inv Z β σ s.heap)(hg:qG ks x=true)(hv:Z.mg x=some v)(q:Q v s) :
   wpAny (model Z.prog Z.w) A (eval (.Name x pos) env) Q E s:=by
 refine(EZ F hg).elim λh1 h2=>?_;obtain⟨k1,k2,k3⟩:=D.w.keeps I;exact Name_function_global F.kind h1 (loadGlobal_global (by rw[F.globals];exact k1) hv q) h2
theorem eU{E:Value->Shared->Prop}(D:Wd Z P gn G cf d)(F:FrameOk Z env ks sc ρ β σ s.heap)(I:Inv Z β σ s.heap)(hg:qG ks x=true)(hn:Z.mg x=none)(hv:Z.mb x=some v)(q:Q v s) :
   wpAny (model Z.prog Z.w) A (eval (.Name x pos) env) Q E s:=by
 refine(EZ F hg).elim λh1 h2=>?_;obtain⟨k1,k2,k3⟩:=D.w.keeps I;exact Name_function_global F.kind h1 (loadGlobal_builtin (by rw[F.globals];exact k1) hn (by rw[F.builtins];exact k2) hv q) h2
theorem KZ(D:Wd Z P gn G cf d)(g:Nat):PE Z P gn G cf d (.glob g):=λks sc ex env ρ A β σ s hm hA F I=>by
 replace hm:=aq hm;obtain⟨x,h0,hm⟩:=hm;apply iG (bP h0);intro pos
 . skip
   simp only[Qw,decide_eq_true_eq] at hm;obtain⟨rfl,hg⟩:=hm;refine gx.plain D.y rfl λc σ' e=>?_;rw[II] at e;apply uO e;intro x hx;obtain⟨w,h1,h2⟩:=D.g g x hx;exact gH D F I hg h1 ⟨β,Step.refl,I,h2 _ _⟩
theorem Ev.operate(h:Ev Z O A t r R β σ s):Ev Z O A (operate vs t) r R β σ s:=λc σ' e=>wpAny_operating (h c σ' e)
theorem Nf(D:Wd Z P gn G cf d){op:BOp}{m:Bool}{b:E}(ha:PE Z P gn G cf d a)(hb:PE Z P gn G cf d b):PE Z P gn G cf d (.bin op m a b):=λks sc ex env ρ A β σ s hm hA F I=>by
 replace hm:=aq hm;obtain⟨⟨l,o,r⟩,h0,hm⟩:=hm;apply iG (Ir h0);intro pos
 . skip
   simp only[Qw,decide_eq_true_eq] at hm;obtain⟨⟨rfl,h1⟩,h2⟩:=hm;refine gx.plain D.y rfl ?_;rw[arm_eval_BinOp];rw[LX];refine Ev.bind (ha ks sc l env ρ A β σ s h1 hA F I).1 λv x ah aa ai aC ao rx _=>?_;refine Ev.bind (Ev.holding (hb ks sc r env ρ A ah aa ai h2 hA (F.step aC) ao).1) λu y aO ae al cb cc ry _=>?_;exact Ev.standAt (Ev.operate (zT cc (cb.vrel0 rx) ry))
theorem M7(D:Wd Z P gn G cf d)(ha:PE Z P gn G cf d a):PE Z P gn G cf d (.neg a):=λks sc ex env ρ A β σ s hm hA F I=>by
 replace hm:=aq hm;obtain⟨x,h0,hm⟩:=hm;apply iG (Ik h0);intro pos
 . skip
   refine gx.plain D.y rfl ?_;rw[arm_eval_UnaryOp];rw[LW];refine Ev.bind (ha ks sc x env ρ A β σ s hm hA F I).1 λv x ah aa ai aC ao rx _=>?_;refine Ev.standAt (Ev.holding ?_);refine aL (λi hi=>?_) Ev.bad;rw[cO hi] at rx;apply iG (pG rx);intro t;exact bR ao (PyProof.Rows.neg_int ⟨⟨_,_,rfl⟩,.int _ _⟩)
theorem M5(D:Wd Z P gn G cf d)(ha:PE Z P gn G cf d a):PE Z P gn G cf d (.not a):=λks sc ex env ρ A β σ s hm hA F I=>by
 replace hm:=aq hm;obtain⟨x,h0,hm⟩:=hm;apply iG (Ij h0);intro pos
 . skip
   have hx:=ha ks sc x env ρ A β σ s hm hA F I;constructor
   . rw[arm_eval_UnaryOp];rw[FX];refine Ev.bind hx.1 λv x ah aa ai aC ao rx _=>?_;refine Ev.standAt (Ev.holding λc σ' e=>?_);apply uO e;intro b hb;exact not_value (iO D.y ao rx hb λtk=>⟨ah,Step.refl.toks,ao,.bool _⟩)
   . intro c σ' e;refine wpAny_isTrue_Not ?_;rw[FX] at e;obtain⟨v,e,hc⟩:=yw e;cases h:ag G cf a ρ σ with
     | bad=>rw[h] at e;injection e
     | ok w aa=>rw[h] at e;obtain⟨b,hb,rfl,rfl⟩:=iC e;(injection hc with e0_;subst e0_);refine Qs (hx.2 b σ' (by rw[h];exact congrArg (λo=>bj o σ') hb)) (λa s' ⟨β',S,I',q⟩=>⟨β',S,I',by exact congrArg _ q⟩) λ_ _ x=>x
theorem M8(D:Wd Z P gn G cf d){c b:E}(hc:PE Z P gn G cf d c)(ha:PE Z P gn G cf d a)(hb:PE Z P gn G cf d b):PE Z P gn G cf d (.ite c a b):=λks sc ex env ρ A β σ s hm hA F I=>by
 replace hm:=aq hm;obtain⟨⟨t,x,y⟩,h0,hm⟩:=hm;apply iG (LG h0);intro pos
 . skip
   simp only[Qw] at hm;obtain⟨⟨h1,h2⟩,h3⟩:=hm;have ht:=(hc ks sc t env ρ A β σ s h1 hA F I).2;have ev:ag G cf (.ite c a b) ρ σ=(lJ (ag G cf c ρ σ)).bind λt aa=>if t then ag G cf a ρ aa else ag G cf b ρ aa:=by have ev0:ag G cf (.ite c a b) ρ σ=(ag G cf c ρ σ).bind (λx aa=>(bj (truthy aa x) aa).bind λt aa=>if t then ag G cf a ρ aa else ag G cf b ρ aa):=rfl;rw[ev0];unfold lJ;cases ag G cf c ρ σ <;> rfl
   constructor
   . rw[ev,arm_eval_IfExp];refine Ev.bind ht λv w ah aa ai aC ao rx _=>?_;subst rx;cases v with
     | true=>exact(ha ks sc x env ρ A ah aa ai h2 hA (F.step aC) ao).1
     | false=>exact(hb ks sc y env ρ A ah aa ai h3 hA (F.step aC) ao).1
   . have ev':lJ (ag G cf (.ite c a b) ρ σ)=(lJ (ag G cf c ρ σ)).bind λt aa=>if t then lJ (ag G cf a ρ aa) else lJ (ag G cf b ρ aa):=by
       rw[ev];cases lJ (ag G cf c ρ σ) with
       | bad=>rfl
       | ok t aa=>cases t <;> rfl
     rw[ev',arm_isTrue_IfExp];refine Ev.bind ht λv w ah aa ai aC ao rx _=>?_;subst rx;cases v with
     | true=>exact(ha ks sc x env ρ A ah aa ai h2 hA (F.step aC) ao).2
     | false=>exact(hb ks sc y env ρ A ah aa ai h3 hA (F.step aC) ao).2
theorem rj(D:Wd Z P gn G cf d){x:V}(hA:jy Z d A)(I:Inv Z β σ s.heap)(rx:aA β σ s.heap v x)(ry:aA β σ s.heap u y) :
   Ev Z O A (compareOp (bZ op) v u) (bj (bq op x y σ) σ) (λw b _ _ _=>w=.bool b) β σ s:=λc σ' e=>by
 obtain⟨hb,rfl⟩:=AP e;exact zG D.y I hA.room rx ry hb λtk=>⟨β,Step.refl.toks,I,rfl⟩
theorem jD(I:Inv Z β σ s.heap):Ev Z O A (holding vs (PySem.truthy (.bool b))) (.ok b σ) TR β σ s:=Ev.holding (Ev.done (wpAny_truthy_bool ⟨β,Step.refl,I,rfl⟩))
theorem Nc(D:Wd Z P gn G cf d){b:E}(ha:PE Z P gn G cf d a)(hb:PE Z P gn G cf d b):PE Z P gn G cf d (.cmp op a b):=λks sc ex env ρ A β σ s hm hA F I=>by
 replace hm:=aq hm;obtain⟨⟨l,os,rs⟩,h0,hm⟩:=hm;apply iG (Bb h0);intro pos;replace hm:=aq hm;obtain⟨o,k1,hm⟩:=hm;replace hm:=aq hm;obtain⟨r,k2,hm⟩:=hm;replace k1:=de k1;replace k2:=de k2;subst k1;subst k2
 . skip
   simp only[Qw,decide_eq_true_eq,Rg] at hm;obtain⟨⟨⟨rfl,hk⟩,h1⟩,h2⟩:=hm;have pre:∀ {α γ:Type} {k:Value->Value->Sem α} {q:V->V->ac->Res γ} {R:α->γ->List Addr->ac->Heap->Prop},(∀ v u x y β σ s,Inv Z β σ s.heap->aA β σ s.heap v x->aA β σ s.heap u y->Ev Z b7 A (k v u) (q x y σ) R β σ s)->
       Ev Z b7 A (eval l env >>= λv=>holding [v] (eval r env) >>= λu=>standAt pos >>= λ_=>k v u) ((ag G cf a ρ σ).bind λx aa=>(ag G cf b ρ aa).bind λy ae=>q x y ae) R β σ s:=λhk=>by
     refine Ev.bind (ha ks sc l env ρ A β σ s h1 hA F I).1 λv x ah aa ai aC ao rx _=>?_;refine Ev.bind (Ev.holding (hb ks sc r env ρ A ah aa ai h2 hA (F.step aC) ao).1) λu y aO ae al cb cc ry _=>?_;exact Ev.standAt (hk v u x y aO ae al cc (cb.vrel0 rx) ry)
   constructor
   . have e1:eval (.Compare l [bZ op] [r] pos) env=(eval l env >>= λv=>holding [v] (eval r env) >>= λu=>standAt pos >>= λ_=>operate [v,u] (compareOp (bZ op) v u)):=by rw[eval_Compare1,markedBehindIn_of_false hk]
     rw[e1];rw[tQ];refine pre λv u x y β σ s I rx ry=>Ev.operate λc σ' e=>?_;obtain⟨b,hb,rfl,rfl⟩:=iC e;exact Qs (rj D hA I rx ry b σ' (by rw[hb];rfl)) (λw s' ⟨β',S,I',q⟩=>⟨β',S,I',by rw[q];exact .bool _⟩) λ_ _ x=>x
   . have e1:isTrue (.Compare l [bZ op] [r] pos) env (eval (.Compare l [bZ op] [r] pos) env)=(eval l env >>= λv=>holding [v] (eval r env) >>= λu=>standAt pos >>= λ_=>operate [v,u] (compareOp (bZ op) v u) >>= λc=>holding [c] (PySem.truthy c)):=by rw[arm_isTrue_Compare];show (do testChain pos (<- eval l env) [bZ op] [markedBehindIn (bZ op) r (eval r env)])=_;rw[markedBehindIn_of_false hk];rfl
     have e2:lJ (ag G cf (.cmp op a b) ρ σ)=(ag G cf a ρ σ).bind λx aa=>(ag G cf b ρ aa).bind λy ae=>(bj (bq op x y ae) ae).bind λb ae=>.ok b ae:=by rw[tQ,ig];refine congrArg _ (funext λx=>funext λaa=>?_);rw[ig];refine congrArg _ (funext λy=>funext λae=>?_);exact wg _ _
     rw[e1,e2];refine pre λv u x y β σ s I rx ry=>?_;refine Ev.bind (R:=λw b _ _ _=>w=.bool b) (λc σ' e=>wpAny_operating (rj D hA I rx ry c σ' e)) λw b ah aa ai aC ao q _=>?_;subst q;exact jD ao
theorem K3(D:Wd Z P gn G cf d){bA fQ:COp}{b c:E}(ha:PE Z P gn G cf d a)(hb:PE Z P gn G cf d b)(hc:PE Z P gn G cf d c):PE Z P gn G cf d (.cmp2 bA fQ a b c):=λks sc ex env ρ A β σ s hm hA F I=>by
 replace hm:=aq hm;obtain⟨⟨l,os,rs⟩,h0,hm⟩:=hm;apply iG (Bb h0);intro pos;replace hm:=aq hm;obtain⟨⟨PT,PR⟩,k1,hm⟩:=hm;replace hm:=aq hm;obtain⟨⟨m,r⟩,k2,hm⟩:=hm;replace k1:=iM k1;replace k2:=iM k2;subst k1;subst k2
 . skip
   simp only[Qw,decide_eq_true_eq,Rg] at hm;obtain⟨⟨⟨⟨⟨rfl,rfl⟩,hk⟩,h1⟩,h2⟩,h3⟩:=hm;have pre:∀ {α γ:Type} {k:Value->Value->Sem α} {stop:Value->Sem α} {q:V->V->ac->Res γ} {z:ac->Res γ} {R:α->γ->List Addr->ac->Heap->Prop},(∀ v u x y β σ s,Inv Z β σ s.heap->aA β σ s.heap v x->aA β σ s.heap u y->Ev Z b7 A (k v u) (q x y σ) R β σ s)->
       (∀ β σ s,Inv Z β σ s.heap->Ev Z b7 A (stop (.bool false)) (z σ) R β σ s)->
       Ev Z b7 A (eval l env >>= λv=>holding [v] (eval m env) >>= λu=>standAt pos >>= λ_=>holding [v,u] (compareOp (bZ bA) v u) >>= λc=>release [v,u] [c] >>= λ_=>holding [c,u] (PySem.truthy c) >>= λt=>if t=true then (holding [u] (eval r env) >>= λw=>standAt pos >>= λ_=>k u w) else stop c)
         ((ag G cf a ρ σ).bind λx aa=>(ag G cf b ρ aa).bind λy ae=>(bj (bq bA x y ae) ae).bind λt ae=>if t then (ag G cf c ρ ae).bind λw az=>q y w az else z ae) R β σ s:=λhk hs=>by
     refine Ev.bind (ha ks sc l env ρ A β σ s h1 hA F I).1 λv x ah aa ai aC ao rx _=>?_;refine Ev.bind (Ev.holding (hb ks sc m env ρ A ah aa ai h2 hA (F.step aC) ao).1) λu y aO ae al cb cc ry _=>?_;refine Ev.standAt (Ev.bind (Ev.holding (rj D hA cc (cb.vrel0 rx) ry)) λw t vS az aR rW CZ q _=>?_);subst q;refine λc' σ' e=>Pe (wpAny_release (Pe (Rs (wpAny_truthy_bool ?_))));cases t with
     | false=>exact hs vS az aR CZ c' σ' (by rw[if_neg (by simp)] at e;exact e)
     | true=>rw[if_pos rfl] at e;rw[if_pos rfl];refine(Ev.bind (Ev.holding (hc ks sc r env ρ A vS az aR h3 hA ((F.step aC).step (cb.trans rW)) CZ).1) λw z lK Mv fP CX GD rz _=>?_) c' σ' e;exact Ev.standAt (hk u w y z lK Mv fP GD ((rW.trans CX).vrel0 ry) rz)
   constructor
   . have e1:eval (.Compare l [bZ bA,bZ fQ] [m,r] pos) env=(eval l env >>= λv=>holding [v] (eval m env) >>= λu=>standAt pos >>= λ_=>holding [v,u] (compareOp (bZ bA) v u) >>= λc=>release [v,u] [c] >>= λ_=>holding [c,u] (PySem.truthy c) >>= λt=>if t=true then (holding [u] (eval r env) >>= λw=>standAt pos >>= λ_=>operate [u,w] (compareOp (bZ fQ) u w)) else pure c):=by rw[arm_eval_Compare];show (do compareChain pos (<- eval l env) [bZ bA,bZ fQ] [eval m env,markedBehindIn (bZ fQ) r (eval r env)])=_;rw[markedBehindIn_of_false hk];rfl
     rw[e1];rw[qY];refine pre (λv u x y β σ s I rx ry=>Ev.operate λc σ' e=>?_) λβ σ s I=>Ev.pure I (.bool _);obtain⟨b,hb,rfl,rfl⟩:=iC e;exact Qs (rj D hA I rx ry b σ' (by rw[hb];rfl)) (λw s' ⟨β',S,I',q⟩=>⟨β',S,I',by rw[q];exact .bool _⟩) λ_ _ x=>x
   . have e1:isTrue (.Compare l [bZ bA,bZ fQ] [m,r] pos) env (eval (.Compare l [bZ bA,bZ fQ] [m,r] pos) env)=(eval l env >>= λv=>holding [v] (eval m env) >>= λu=>standAt pos >>= λ_=>holding [v,u] (compareOp (bZ bA) v u) >>= λc=>release [v,u] [c] >>= λ_=>holding [c,u] (PySem.truthy c) >>= λt=>if t=true then (holding [u] (eval r env) >>= λw=>standAt pos >>= λ_=>operate [u,w] (compareOp (bZ fQ) u w) >>= λc=>holding [c] (PySem.truthy c)) else pure false):=by rw[arm_isTrue_Compare];show (do testChain pos (<- eval l env) [bZ bA,bZ fQ] [eval m env,markedBehindIn (bZ fQ) r (eval r env)])=_;rw[markedBehindIn_of_false hk];rfl
     have e2:lJ (ag G cf (.cmp2 bA fQ a b c) ρ σ)=(ag G cf a ρ σ).bind λx aa=>(ag G cf b ρ aa).bind λy ae=>(bj (bq bA x y ae) ae).bind λt ae=>if t then (ag G cf c ρ ae).bind λw az=>(bj (bq fQ y w az) az).bind λb az=>.ok b az else .ok false ae:=by
       rw[qY,ig];refine congrArg _ (funext λx=>funext λaa=>?_);rw[ig];refine congrArg _ (funext λy=>funext λae=>?_);rw[ig];refine congrArg _ (funext λt=>funext λaz=>?_);rw[G6];cases t with
       | false=>rfl
       | true=>rw[if_pos rfl,if_pos rfl,ig];refine congrArg _ (funext λw=>funext λPe=>?_);exact wg _ _
     rw[e1,e2];refine pre (λv u x y β σ s I rx ry=>?_) λβ σ s I=>Ev.pure I rfl;refine Ev.bind (R:=λw b _ _ _=>w=.bool b) (λc σ' e=>wpAny_operating (rj D hA I rx ry c σ' e)) λw b ah aa ai aC ao q _=>?_;subst q;exact jD ao
end
variable {ns:List Nat}{l:List PyData}{vs:List V}{ws:List Value}{r1:Res Bool}{k:ac->Res (List V)}{r2:ac->Res Bool}
section
variable {ex:Expr}
theorem Res.bind_ok{r:Res α}{f:α->ac->Res γ}(h:r.bind f=.ok c σ'):X2 λa aa=>r=.ok a aa/\f a aa=.ok c σ':=by
 cases r with
 | bad=>injection h
 | ok a aa=>exact⟨a,aa,rfl,h⟩
theorem a6{x:Expr}(xs:List Expr)(h:eT x=true):starEach (x::xs) env=(false,eval x env)::starEach xs env:=by cases x <;> first | rfl | injection h
theorem Ev.consVR{x:Sem Value}{rest:List (Bool×Sem Value)}(h:Ev Z b7 A x r VR β σ s)
   (hk:∀ v c β' σ' s',Step b7 β σ s β' σ' s'->Inv Z β' σ' s'.heap->aA β' σ' s'.heap v c->Ev Z b7 A (spliced rest) (k σ') O5 β' σ' s') :
   Ev Z b7 A (spliced ((false,x)::rest)) (r.bind λv aa=>(k aa).bind λvs ae=>.ok (v::vs) ae) O5 β σ s:=λc σ' e=>by
 cases r with
 | bad=>injection e
 | ok v aa=>
   refine spliced_cons (Qs (h v aa rfl) (λa ai ⟨ah,aC,ao,BY⟩=>?_) λ_ _ x=>x);have e:((k aa).bind λvs ae=>Res.ok (v::vs) ae)=.ok c σ':=e;cases hr:k aa with
   | bad=>rw[hr] at e;cases (e)
   | ok vs ae=>rw[hr] at e;cases (e);refine Qs (hk a v ah aa ai aC ao BY vs σ' hr) (λas al ⟨aO,cb,cc,yJ⟩=>?_) λ_ _ x=>x;exact⟨aO,aC.trans cb,cc,.cons (cb.vrel0 BY) yJ⟩
theorem c9{pos:Pos}:∀ {es:EL} {xs:List Expr},qu P gn ks sc es xs=true->backTo pos (starEach xs env)=starEach xs env/\(starEach xs env).any (·.1)=false
 | .nil,xs,h=>by replace h:=ky h;subst h;exact⟨rfl,rfl⟩
 | .cons e es,xs,h=>by
   replace h:=fi h;obtain⟨x,xs,rfl,h1,h2,h3⟩:=h;have ih:=c9 (pos:=pos) h3;rw[a6 _ h1];refine⟨?_,?_⟩
   . show (false,eval x env)::backTo pos (starEach xs env)=_;rw[ih.1]
   . simp only[Th,SF];exact ih.2
theorem kG:∀ {es:EL} {xs:List Expr} {ρ:Fm} {σ σ':ac} {vs:List V},qu P gn ks sc es xs=true->aV G cf es ρ σ=.ok vs σ'->vs.length=xs.length
 | .nil,xs,ρ,σ,σ',vs,h,e=>by replace h:=ky h;subst h;rw[FV] at e;(injection e with e0_ f0_;subst e0_;subst f0_);rfl
 | .cons e es,xs,ρ,σ,σ',vs,h,ev=>by replace h:=fi h;obtain⟨x,xs,rfl,_,_,h⟩:=h;rw[IF] at ev;obtain⟨v,aa,h1,ev⟩:=Res.bind_ok ev;obtain⟨ws,ae,h2,ev⟩:=Res.bind_ok ev;(injection ev with e0_ f0_;subst e0_;subst f0_);rw[QF,QF,kG h h2]
theorem M6(D:Wd Z P gn G cf d):GB Z P gn G cf d .nil:=by
 constructor
 . intro ks sc xs env ρ A β σ s hm hA F I;replace h:=ky hm;subst h;exact Ev.pure I .nil
 . intro k pos ks sc xs env ρ A β σ s hm hA F I;exact⟨Ev.bad,Ev.bad⟩
theorem Cz(k:Bool)(e:E)(ρ:Fm)(σ:ac):gL G cf k (.cons e .nil) ρ σ=ag G cf e ρ σ:=rfl
theorem qZ(k:Bool)(e e':E)(es:EL)(ρ:Fm)(σ:ac):gL G cf k (.cons e (.cons e' es)) ρ σ=(ag G cf e ρ σ).bind λx aa=>(bj (truthy aa x) aa).bind λt aa=>if t=k then gL G cf k (.cons e' es) ρ aa else .ok x aa:=rfl
theorem Dy(k:Bool)(e e':E)(es:EL)(ρ:Fm)(σ:ac):lJ (gL G cf k (.cons e (.cons e' es)) ρ σ)=(lJ (ag G cf e ρ σ)).bind λt aa=>if t=k then lJ (gL G cf k (.cons e' es) ρ aa) else .ok t aa:=by
 rw[qZ];cases ag G cf e ρ σ with
 | bad=>rfl
 | ok x aa=>
   refine(?_:lJ ((bj (truthy aa x) aa).bind λt aa=>if t=k then gL G cf k (.cons e' es) ρ aa else .ok x aa)=(bj (truthy aa x) aa).bind λt aa=>if t=k then lJ (gL G cf k (.cons e' es) ρ aa) else .ok t aa);cases h:truthy aa x with
   | none=>rfl
   | some t=>
     show lJ (if t=k then gL G cf k (.cons e' es) ρ aa else .ok x aa)=if t=k then lJ (gL G cf k (.cons e' es) ρ aa) else .ok t aa
     by_cases hk:t=k
     . rw[if_pos hk,if_pos hk]
     . rw[if_neg hk,if_neg hk];exact congrArg (λo=>bj o aa) h
theorem CQ{t1 t2:Sem Value}{r1:Res V}{r2:ac->Res V}(Y:vR Z)(k:Bool)(h1:Ev Z b7 A t1 r1 VR β σ s)(h2:∀ ah aa ai,Step b7 β σ s ah aa ai->Inv Z ah aa ai.heap->Ev Z b7 A t2 (r2 aa) VR ah aa ai) :
   Ev Z b7 A (do
     let v <- t1
     standAt pos
     let t <- holding [v] (PySem.truthy v)
     match (if k then BoolOp.And else BoolOp.Or),t with
     | .And,false | .Or,true=>pure v
     | _,_=>t2) (r1.bind λx aa=>(bj (truthy aa x) aa).bind λt aa=>if t=k then r2 aa else .ok x aa) VR β σ s:=by
 refine Ev.bind h1 λv c ah aa ai aC ao rv _=>?_;refine Ev.standAt λc' σ' e=>?_;cases ht:truthy aa c with
 | none=>rw[ht] at e;injection e
 | some t=>
   rw[ht] at e;replace e:(if t=k then r2 aa else .ok c aa)=.ok c' σ':=e;refine Pe (Rs (iO Y ao rv ht λtk=>?_));clear ht;by_cases hk:t=k
   . rw[if_pos hk] at e;have T:=Qs (h2 ah aa { ai with toks:=tk } (aC.toks (tk:=tk)) ao c' σ' e) (λa s' ⟨β',S,I',q⟩=>(⟨β',⟨S.ext,S.mono,S.keepW,S.alive,S.gens,S.os⟩,I',q⟩:Po Z b7 ah aa ai σ' s' λβ'=>VR a c' β' σ' s'.heap)) λ_ _ x=>x;clear e h2 h1;rw[hk];cases (k) <;> exact T
   . rw[if_neg hk] at e;(injection e with e0_ f0_;subst e0_;subst f0_);have T:Po Z b7 ah aa ai aa { ai with toks:=tk } λβ'=>VR v c β' aa ai.heap:=⟨ah,Step.refl.toks,ao,rv⟩
     clear h2 h1;cases (t) <;> cases (k) <;> first | exact absurd rfl hk | exact Ql T
theorem CP{t1 t2:Sem Bool}(k:Bool)(h1:Ev Z b7 A t1 r1 (λa b _ _ _=>a=b) β σ s)(h2:∀ ah aa ai,Step b7 β σ s ah aa ai->Inv Z ah aa ai.heap->Ev Z b7 A t2 (r2 aa) (λa b _ _ _=>a=b) ah aa ai) :
   Ev Z b7 A (do
     match (if k then BoolOp.And else BoolOp.Or),<- t1 with
     | .And,false=>pure false
     | .Or,true=>pure true
     | _,_=>t2) (r1.bind λt aa=>if t=k then r2 aa else .ok t aa) (λa b _ _ _=>a=b) β σ s:=by
 refine Ev.bind h1 λa t ah aa ai aC ao q _=>?_;subst q;have T:=h2 ah aa ai aC ao;clear h2 h1;by_cases hk:a=k
 . rw[if_pos hk,hk];cases (k) <;> exact T
 . rw[if_neg hk];cases (a) <;> cases (k) <;> first | exact absurd rfl hk | exact Ev.pure ao rfl
theorem K1(D:Wd Z P gn G cf d)(he:PE Z P gn G cf d e)(hes:GB Z P gn G cf d es):GB Z P gn G cf d (.cons e es):=by
 constructor
 . intro ks sc xs env ρ A β σ s hm hA F I;replace hm:=fi hm;obtain⟨x,xs,rfl,h1,h2,h3⟩:=hm;rw[a6 _ h1];exact Ev.consVR (k:=λaa=>aV G cf es ρ aa) (he ks sc x env ρ A β σ s h2 hA F I).1 λv c β' σ' s' S I' q=>hes.1 ks sc xs env ρ A β' σ' s' h3 hA (F.step S) I'
 . intro k pos ks sc xs env ρ A β σ s hm hA F I;replace hm:=fi hm;obtain⟨x,xs,rfl,hm1,hm2,hm3⟩:=hm
   . have hx:=he ks sc x env ρ A β σ s hm2 hA F I;cases es with
     | nil=>
       have hxs:=ky hm3;subst hxs
       . rw[Cz];refine⟨hx.1,λb σ' e=>?_⟩;rw[arm_allTrue_cons];refine Pe (Qs (hx.2 b σ' e) (λa ai ⟨ah,S,ao,q⟩=>?_) λ_ _ x=>x);subst q;cases k <;> cases a <;> exact Ql ⟨ah,S,ao,rfl⟩
     | cons e' es'=>
       obtain⟨x',xs',rfl,_⟩:=fi hm3
       . have tail:=λah aa ai (S:Step b7 β σ s ah aa ai) I=>hes.2 k pos ks sc (x'::xs') env ρ A ah aa ai hm3 hA (F.step S) I;constructor
         . rw[qZ];exact CQ D.y k hx.1 λah aa ai S I=>(tail ah aa ai S I).1
         . rw[Dy,arm_allTrue_cons];exact CP k hx.2 λah aa ai S I=>(tail ah aa ai S I).2
theorem Nd(D:Wd Z P gn G cf d){k:Bool}(hes:GB Z P gn G cf d es):PE Z P gn G cf d (.bop k es):=λks sc ex env ρ A β σ s hm hA F I=>by replace hm:=aq hm;obtain⟨⟨op,xs⟩,h0,hm⟩:=hm;apply iG (Iq h0);intro pos;simp only[Qw,decide_eq_true_eq] at hm;obtain⟨rfl,hm⟩:=hm;have h:=hes.2 k pos ks sc xs env ρ A β σ s hm hA F I;exact⟨h.1,h.2⟩
theorem qs(e:vs.mapM bK=some l)(r:VRels β σ h ws vs):RelAll (TT β σ) h ws l:=by
 induction vs generalizing l ws with
 | nil=>cases (e);cases r;exact .nil
 | cons v vs ih_=>
   rw[List.mapM_cons] at e;obtain⟨a,h1,e⟩:=Qo.mp e;obtain⟨as,h2,e⟩:=Qo.mp e;(injection e with e0_;subst e0_);cases r with
   | cons r rs=>
     cases v with
     | d x=>(injection h1 with e0_;subst e0_);exact .cons r (ih_ h2 rs)
     | un=>injection h1
     | loc n=>injection h1
     | locs n=>injection h1
     | exc _ _=>injection h1
     | inst _ _=>injection h1
noncomputable def Py:V->Option Nat
 | .loc n=>some n
 | _=>none
theorem Ce(e:vs.mapM (λv=>match v with | .loc n=>some n | _=>none)=some ns)(r:VRels β σ h ws vs):ws.length=ns.length/\∀ (k m:Nat),ns[k]?=some m->∃ b,β[m]?=some b/\ws[k]?=some (.ref b):=by
 induction vs generalizing ns ws with
 | nil=>cases (e);cases r;exact⟨rfl,λk m e=>nomatch e⟩
 | cons v vs ih_=>
   rw[List.mapM_cons] at e;obtain⟨a,h1,e⟩:=Qo.mp e;obtain⟨as,h2,e⟩:=Qo.mp e;(injection e with e0_;subst e0_);cases r with
   | cons r rs=>
     have ih:=ih_ h2 rs;cases v with
     | loc n=>
       (injection h1 with e0_;subst e0_);obtain⟨b,hb,rfl⟩:=r;refine⟨congrArg (·+1) ih.1,λk m e=>?_⟩;cases k with
       | zero=>(injection e with e0_;subst e0_);exact⟨b,hb,rfl⟩
       | succ k=>exact ih.2 k m e
     | d x=>injection h1
     | un=>injection h1
     | locs n=>injection h1
     | exc _ _=>injection h1
     | inst _ _=>injection h1
theorem fO(r:VRels β σ h ws vs):ws.length=vs.length:=by
 induction r with
 | nil=>rfl
 | cons _ _ ih=>exact congrArg (·+1) ih
set_option tactic.hygienic true in
theorem M1(D:Wd Z P gn G cf d)(hes:GB Z P gn G cf d es):PE Z P gn G cf d (.tup es):=λks sc ex env ρ A β σ s hm hA F I=>by
 replace hm:=aq hm;obtain⟨xs,h0,hm⟩:=hm;obtain⟨k,pos,rfl⟩:=kA h0
 . skip
   simp only[Qw,decide_eq_true_eq] at hm;refine gx.plain D.y rfl ?_;rw[arm_eval_Tuple,(c9 (pos:=pos) hm.1).1];refine Ev.standAt ?_;rw[(rfl:ag G cf (.tup es) ρ σ=(aV G cf es ρ σ).bind λvs aa=>xP vs aa)];refine Ev.bind (hes.1 ks sc xs env ρ A β σ s hm.1 hA F I) λws vs ah aa ai aC ao rv he=>?_;have hl:=kG hm.1 he;have hw:=fO rv;have hz:ws.length<=1000:=by first | (rw[hw,hl];exact hm.2) | (exact hw▸hl▸hm.2) | omega
   unfold xP;split
   . rename_i l hl';have q:=qs hl' rv;have:=q.length;refine rc ao (by rw[<- q.length];exact iv hz (by decide)) (wpAny_newTuple ?_ (iv hz (by decide)));exact⟨_,_,0,rfl,aU _,Qy _ rfl,aS _,rfl,rfl,by simpa using q⟩
   . exact Ev.bad
set_option tactic.hygienic true in
theorem KW(D:Wd Z P gn G cf d){m:Bool}(hes:GB Z P gn G cf d es):PE Z P gn G cf d (.list m es):=λks sc ex env ρ A β σ s hm hA F I=>by
 replace hm:=aq hm;obtain⟨xs,h0,hm⟩:=hm;obtain⟨pos,rfl⟩:=xt h0
 . skip
   simp only[Qw,decide_eq_true_eq] at hm;refine gx.plain D.y rfl ?_;rw[arm_eval_List,(c9 (pos:=pos) hm.1).1];refine Ev.standAt ?_;rw[(rfl:ag G cf (.list m es) ρ σ=(aV G cf es ρ σ).bind λvs aa=>Bk m vs aa)];refine Ev.bind (hes.1 ks sc xs env ρ A β σ s hm.1 hA F I) λws vs ah aa ai aC ao rv he=>?_;have hl:=kG hm.1 he;have hw:=fO rv;have hz:ws.length<=1000:=by first | (rw[hw,hl];exact hm.2) | (exact hw▸hl▸hm.2) | omega
   unfold Bk;split
   . rename_i l hl';have q:=qs hl' rv;have:=q.length;refine dI ao (by rw[<- q.length];exact iv hz (by decide)) (wpAny_newList ?_ (iv hz (by decide)));exact⟨_,_,0,rfl,aU _,Qy _ rfl,aS _,rfl,rfl,by simpa using q⟩
   . split
     . rename_i ns hns;split
       . exact Ev.bad
       . refine(Ce hns rv).elim λh1 h2=>?_;refine Ev.grown ao (wpAny_newList ⟨aS _,rfl,rfl,?_⟩ (iv hz (by decide)));refine⟨_,_,0,rfl,Qy _ rfl,ao.notTT (aU _),⟨by simpa using h1,by unfold LIM;omega⟩,λk m e=>?_⟩;obtain⟨b,hb,hw⟩:=h2 k m e;exact⟨b,hb,by simpa using hw⟩
     . exact Ev.bad
theorem HD(D:Wd Z P gn G cf d):PE Z P gn G cf d .dict0:=λks sc ex env ρ A β σ s hm hA F I=>by replace hm:=aq hm;obtain⟨⟨a,b⟩,h0,hm⟩:=hm;apply iG (Ft h0);intro pos;simp only[Qw] at hm;have h1:=fF hm.1;have h2:=fF hm.2;subst h1;subst h2;exact gx.plain D.y rfl (xQ I)
end
variable {b:Bi}{o:Expr}{ts:List (Bool×Sem Value)}{args:List Expr}
section
variable {ex:Expr}
theorem GG:∀ {x:Option V},Step b7 β σ s β' σ' s'->Mu v x β σ s.heap->Mu v x β' σ' s'.heap
 | none=>@λ_ q=>q
 | some x=>@λS q=>S.vrel0 q
theorem Nb(D:Wd Z P gn G cf d){i:E}(ha:PE Z P gn G cf d a)(hi:PE Z P gn G cf d i):PE Z P gn G cf d (.idx a i):=λks sc ex env ρ A β σ s hm hA F I=>by
 replace hm:=aq hm;obtain⟨⟨v,x⟩,h0,hm⟩:=hm;apply iG (u0 h0);intro pos
 . skip
   simp only[Qw] at hm;refine gx.plain D.y rfl ?_;rw[arm_eval_Subscript];rw[(rfl:ag G cf (.idx a i) ρ σ=(ag G cf a ρ σ).bind λx aa=>(ag G cf i ρ aa).bind λy ae=>bj (c8 x y ae) ae)];refine Ev.bind (ha ks sc v env ρ A β σ s hm.1.2 hA F I).1 λw c ah aa ai aC ao kS _=>?_;refine Ev.bind (Ev.holding (hi ks sc x env ρ A ah aa ai hm.2 hA (F.step aC) ao).1) λu y aO ae al cb cc ru _=>?_;intro c' σ' e;obtain⟨hz,rfl⟩:=AP e;exact dQ (zd D.y cc (cb.vrel0 kS) ru hz λtk w' hw=>⟨aO,Step.refl.toks,cc,hw⟩)
theorem M3(D:Wd Z P gn G cf d){m:Bool}{lo hi:EO}(ha:PE Z P gn G cf d a)(hl:I2 Z P gn G cf d lo)(hh:I2 Z P gn G cf d hi):PE Z P gn G cf d (.slc m a lo hi):=λks sc ex env ρ A β σ s hm hA F I=>by
 replace hm:=aq hm;obtain⟨⟨v,x⟩,h0,hm⟩:=hm;apply iG (u0 h0);intro pos;replace hm:=aq hm;obtain⟨⟨l,h,st⟩,h1,hm⟩:=hm;obtain⟨p,hx⟩:=Ih h1;have hx:x=.Slice l h st p:=hx;subst hx
 . simp only[Qw] at hm;obtain⟨⟨⟨hs,m1⟩,m2⟩,m3⟩:=hm;have hs:=Q9.mp hs;subst hs;have hm:=And.intro (And.intro m1 m2) m3;refine gx.plain D.y rfl ?_;rw[arm_eval_Subscript,arm_eval_Slice];rw[(rfl:ag G cf (.slc m a lo hi) ρ σ=(ag G cf a ρ σ).bind λx aa=>(dg G cf lo ρ aa).bind λl ae=>(dg G cf hi ρ ae).bind λh az=>eB m x l h az)];refine Ev.bind (ha ks sc v env ρ A β σ s hm.1.1 hA F I).1 λw c ah aa ai aC ao kS _=>?_;have one:∀ {α:Type} {f:Value->Sem α} {r:Res V} {R:α->V->List Addr->ac->Heap->Prop},Ev Z b7 A (do
       let l <- valueOrNone (evalOpt l env)
       let u <- holding [l] (valueOrNone (evalOpt h env))
       let i <- newFields "slice" [l,u,.none]
       f i) r R ah aa ai->Ev Z b7 A ((holding [w] (do
       let l <- valueOrNone (evalOpt l env)
       let u <- holding [l] (valueOrNone (evalOpt h env))
       let s <- holding [l,u] (valueOrNone (evalOpt none env))
       newFields "slice" [l,u,s])) >>= f) r R ah aa ai:=λhx c σ' e=>by
     intro Γ p hΓ;have:=hx c σ' e Γ p hΓ;simp only[Sem.wp_bind',Sem.wp_holding] at this ⊢;exact this
   refine one ?_;refine Ev.bind (hl.1 ks sc l env ρ A ah aa ai hm.1.2 hA (F.step aC) ao) λvl xl aO ae al cb cc rl _=>?_;refine Ev.bind (Ev.holding (hh.1 ks sc h env ρ A aO ae al hm.2 hA ((F.step aC).step cb) cc)) λvu xu vS az aR rW CZ ru _=>?_;exact yA CZ (rW.vrel0 (cb.vrel0 kS)) (GG rW rl) ru
theorem Oz(D:Wd Z P gn G cf d):I2 Z P gn G cf d .no:=by
 constructor
 . intro ks sc ex env ρ A β σ s hm hA F I;have hm:=Q9.mp hm;subst hm;exact Ev.pure I rfl
 . intro ks sc ex env ρ A β σ s hm hA F I;exact Rt (hm:false=true)
theorem MZ(D:Wd Z P gn G cf d)(he:PE Z P gn G cf d e):I2 Z P gn G cf d (.yes e):=by
 constructor
 . intro ks sc ex env ρ A β σ s hm hA F I;replace hm:=aq hm;obtain⟨x,h0,hm⟩:=hm;subst h0
   . intro c σ' e';have ev:dg G cf (.yes e) ρ σ=(ag G cf e ρ σ).bind λx aa=>.ok (some x) aa:=rfl;rw[ev] at e';cases h:ag G cf e ρ σ with
     | bad=>rw[h] at e';injection e'
     | ok v aa=>replace e':=h▸e';cases (e');exact(he ks sc x env ρ A β σ s hm hA F I).1 v σ' h
 . intro ks sc ex env ρ A β σ s hm hA F I;exact⟨e,rfl,he ks sc ex env ρ A β σ s hm hA F I⟩
theorem Es(D:Wd Z P gn G cf d)(he:PE Z P gn G cf d e):PE Z P gn G cf d (.freeze e):=λks sc ex env ρ A β σ s hm hA F I=>by
 have hx:=he ks sc ex env ρ A β σ s hm hA F I;have ev:ag G cf (.freeze e) ρ σ=(ag G cf e ρ σ).bind λx aa=>Ms x aa:=rfl;have fr:∀ {x:V} {v:V} {aa σ':ac},Ms x aa=.ok v σ'->X2 λn l=>A4 (x=.loc n) (aa[n]?=some (.lst l)) (v=.d (.list l)) (σ'=aa.set n .gone):=by intro x v aa σ' h;obtain⟨n,hn,h⟩:=iB h;obtain⟨l,hl,h⟩:=iB h;(injection h with e0_ f0_;subst e0_;subst f0_);exact⟨n,l,gG hn,fj hl,rfl,rfl⟩
 constructor
 . intro c σ' e';replace e':=ev▸e';cases h:ag G cf e ρ σ with
   | bad=>rw[h] at e';injection e'
   | ok v aa=>rw[h] at e';obtain⟨n,l,rfl,hl,rfl,rfl⟩:=fr e';refine Qs (hx.1 _ _ h) (λa s' ⟨β',S,I',q⟩=>?_) λ_ _ x=>x;obtain⟨ad,hb,rfl⟩:=q;have N:=uu (O:=b7) (c:=.gone) I' hb hl rfl rfl;exact⟨β',S.trans N.1,N.2,zf I' hb hl⟩
 . intro c σ' e';rw[ev] at e';obtain⟨w,e',hc⟩:=yw e';cases h:ag G cf e ρ σ with
   | bad=>rw[h] at e';injection e'
   | ok v aa=>
     rw[h] at e';obtain⟨n,l,rfl,hl,rfl,rfl⟩:=fr e';have ht:truthy aa (.loc n)=some c:=by show oc (fM aa n) (λl=>some (!l.isEmpty)) _=some c;exact(jP hl)▸hc
     refine Qs (hx.2 c aa (by rw[h];simp[lJ,Res.bind,bj,ht])) (λa s' ⟨β',S,I',q⟩=>?_) λ_ _ x=>x;have hlt:n < β'.length:=by rw[I'.len];exact(Qi.mp hl).1
     have N:=uu (O:=b7) (c:=.gone) I' (Qk hlt) hl rfl rfl;exact⟨β',S.trans N.1,N.2,q⟩
theorem wo{x:Sem Value}{Q:List Value->Shared->Prop}{E:Value->Shared->Prop}(h:wpAny M A (spliced [(false,x)]) Q E s):wpAny M A x (λv s'=>Q [v] s') E s:=λΓ p hΓ=>by have:=h Γ p hΓ;simpa only[spliced,Sem.wp_bind',Sem.wp_holding,Sem.wp_pure',SV,if_false,QG] using this
theorem eJ{Q:Args->Shared->Prop}{E:Value->Shared->Prop}(hes:GB Z P gn G cf d es)(hm:qu P gn ks sc es args=true)(hA:jy Z d A)(F:FrameOk Z env ks sc ρ β σ s.heap)(I:Inv Z β σ s.heap)
   {vs:List V} {aa:ac} (he:aV G cf es ρ σ=.ok vs aa) (q:∀ ws β' s',Step b7 β σ s β' aa s'->Inv Z β' aa s'.heap->VRels β' aa s'.heap ws vs->Q ⟨ws,[]⟩ s') :
   wpAny (model Z.prog Z.w) A (evalArgs f true (starEach args env) []) Q E s:=by
 have h':=Qs (hes.1 ks sc args env ρ A β σ s hm hA F I vs aa he) (λws s' ⟨β',S,I',r⟩=>q ws β' s' S I' r) (E':=E) λ_ _ x=>x.elim;cases args with
 | nil=>
   cases es with
   | nil=>rw[FV] at he;cases (he);exact PyProof.Rows.evalArgs_nil3 (q [] β s Step.refl I .nil)
   | cons e es=>replace hm:=fi hm;obtain⟨_,_,hx,_⟩:=hm;injection hx
 | cons x xs=>
   cases es with
   | nil=>cases (ky hm)
   | cons e es=>refine kk λK k=>?_;replace hm:=fi hm;obtain⟨_,_,hx,hs,_⟩:=hm;(injection hx with e0_ f0_;subst e0_;subst f0_);refine k ?_;rw[a6 _ hs] at h' ⊢;exact evalArgs_plain h'
theorem K4(D:Wd Z P gn G cf d){f:Nat}(hes:GB Z P gn G cf d es):PE Z P gn G cf d (.call f es):=λks sc ex env ρ A β σ s hm hA F I=>by
 replace hm:=aq hm;obtain⟨⟨x,args⟩,h0,hm⟩:=hm;obtain⟨p,pos,rfl⟩:=eW h0
 . refine kk λK k=>?_;simp only[Qw,decide_eq_true_eq] at hm;obtain⟨⟨h1,h2⟩,h3⟩:=hm;obtain⟨fn,hf,hq⟩:=QL.mp h1;have hq1:=(Prod.mk.inj hq).1;subst hq1;obtain⟨a,o,fd,hg,ho,hd,hcall⟩:=D.c f fn hf (Prod.mk.inj hq).2;refine k ?_;refine gx.plain D.y rfl λc σ' e=>?_;obtain⟨vs,aa,he,hc⟩:=Res.bind_ok (r:=aV G cf es ρ σ) (f:=λvs aa=>(cf f vs aa).bind iT) e;refine PyProof.Rows.Call_Name (c9 (pos:=pos) h3).1 (gH D F I h2 hg ?_);refine callWith_function (o:=o) (fd:=fd) (eJ hes h3 hA F I he λws β' s' S I' r=>⟨⟨I'.base a o ho,hd⟩,?_⟩);refine Qs ((hcall A β' aa s' ws vs hA (F.step S).frs I' r).ev c σ' hc) (λv s'' ⟨β'',S',I'',q⟩=>⟨β'',S.trans S',I'',q⟩) λ_ _ x=>x
theorem zU(h:b.plain=true):vB b=[]:=by cases b <;> first | rfl | exact Rt (h:false=true)
theorem x6(h:b.plain=true){prog:Program}{E:Value->Shared->Prop}(hpl:(ts.any (·.1))=false)
   (post:∀ {f:Value},wpAny (model prog w) A (evalArgs f true ts []) (λa ai=>wpAny (model prog w) A (call (t0 b) ([]++a.pos) a.kw) Q E ai) E s):wpAny (model prog w) A (callWith pos (t0 b) [] ts []) Q E s:=by
 cases b <;> first
   | exact callWith_builtin hpl post
   | exact RR hpl post
   | exact Rt (h:false=true)
set_option tactic.hygienic true in
theorem OA(D:Wd Z P gn G cf d){m:Bool}(hes:GB Z P gn G cf d es):PE Z P gn G cf d (.bi b m es):=λks sc ex env ρ A β σ s hm hA F I=>by
 replace hm:=aq hm;obtain⟨⟨x,args⟩,h0,hm⟩:=hm;apply GP (eW h0);intro p pos
 . simp only[Qw,decide_eq_true_eq] at hm;obtain⟨⟨⟨rfl,h2⟩,hP⟩,h3⟩:=hm;have hh:=hA.1 (D.q hP);refine gx.plain D.y rfl λc σ' e=>?_;obtain⟨vs,aa,he,hc⟩:=Res.bind_ok (r:=aV G cf es ρ σ) (f:=λvs aa=>yn b m vs aa) e;obtain⟨hfree,hval⟩:=D.b.free b;have fin:b≠.sortedSet->∀ {ws:List Value} {β':List Addr} {s':Shared},Step b7 β σ s β' aa s'->Inv Z β' aa s'.heap->VRels β' aa s'.heap ws vs->
       wpAny (model Z.prog Z.w) A (call (t0 b) (ws++vB b)) (λv s''=>Po Z b7 β σ s σ' s'' λβ''=>VR v c β'' σ' s''.heap) (λ_ _=>False) s':=λhnb _ _ _ S I' r=>
     Qs (CT (O:=b7) (m:=m) D.y I' hh hA.room r hnb c σ' hc) (λv s'' ⟨β'',S',I'',q⟩=>⟨β'',S.trans S',I'',q⟩) λ_ _ x=>x
   split at h3
   . rename_i t ht;refine kk λK k=>?_;replace ht:=Ma ht;subst ht;replace h3:=aq h3;obtain⟨⟨y,zn⟩,h5,h3⟩:=h3;replace h3:=aq h3;obtain⟨z,h6,h3⟩:=h3;refine k ?_;apply Bg (iM h5);obtain⟨pz,h6⟩:=bP h6;have h6:zn=.Name z pz:=h6;subst h6;simp only[Qw,decide_eq_true_eq] at h3;obtain⟨⟨rfl,hz⟩,h3⟩:=h3;have hst:=c9 (env:=env) (pos:=pos) h3;cases es with
     | nil=>cases (ky h3)
     | cons e' es'=>
       refine kk λK k=>?_;obtain⟨_,_,hx,hs,_⟩:=fi h3;(injection hx with e0_ f0_;subst e0_;subst f0_);refine k ?_;have trees:backTo pos (starEach [y,.Name (sP t) pz] env)=[(false,eval y env),(false,eval (.Name (sP t) pz) env)]:=by rw[a6 _ hs];rfl
       refine PyProof.Rows.Call_Name trees (eU D F I h2 hfree (hval (.inr ⟨t,rfl⟩)) ?_);refine callWith_builtin rfl (evalArgs_plain (spliced_cons ?_));have h:=hes.1 ks sc [y] env ρ A β σ s h3 hA F I vs aa he;rw[a6 _ hs] at h;refine Qs (wo h) (λv ai ⟨ah,aC,ao,r⟩=>?_) λ_ _ x=>x;refine spliced_cons (eU D (F.step aC) ao hz (D.b.ty t).1 (D.b.ty t).2 (spliced_nil ?_));exact fin (λq=>by injection q) aC ao r
   . split at h3
     . rename_i hss;replace hss:=Mb hss;subst hss;replace h3:=aq h3;obtain⟨r,h5,h3⟩:=h3;apply Bg (de h5);replace h3:=aq h3;obtain⟨⟨z,zargs⟩,h6,h3⟩:=h3;obtain⟨pz,posz,rfl⟩:=eW h6;simp only[Qw,decide_eq_true_eq] at h3;obtain⟨⟨⟨rfl,hz⟩,hst⟩,h3⟩:=h3;have trees:backTo pos (starEach [.Call (.Name ("set":Str) pz) zargs [] posz] env)=[(false,eval (.Call (.Name ("set":Str) pz) zargs [] posz) env)]:=by rw[a6 _ hst];rfl
       have hsv:Z.mb (rO .sortedSet)=some (.builtin "sorted"):=(D.b.free .sorted).2 (.inl rfl);refine PyProof.Rows.Call_Name trees (eU D F I h2 hfree hsv ?_);refine callWith_builtin rfl (evalArgs_plain (spliced_cons ?_));refine PyProof.Rows.Call_Name (c9 (pos:=posz) h3).1 (eU D F I hz D.b.set.1 D.b.set.2 ?_);refine RR (c9 (env:=env) (pos:=posz) h3).2 (eJ hes h3 hA F I he λws β' s' S I' r=>?_);refine Qs (oF (O:=b7) I' hh r hc) (λt ai ht=>spliced_nil (Qs ht (λv s'' ⟨β'',S',I'',q⟩=>⟨β'',S.trans S',I'',q⟩) λ_ _ x=>x)) λ_ _ x=>x
     . simp only[Qw] at h3;refine PyProof.Rows.Call_Name (c9 (pos:=pos) h3.2).1 (eU D F I h2 hfree (hval (.inl h3.1)) ?_);have hnb:b≠.sortedSet:=λq=>by rw[q] at h3;cases h3.1
       have hr:vB b=[]:=zU h3.1;have post:∀ {f:Value},wpAny (model Z.prog Z.w) A (evalArgs f true (starEach args env) []) (λa ai=>wpAny (model Z.prog Z.w) A (call (t0 b) ([]++a.pos) a.kw) (λv s''=>Po Z b7 β σ s σ' s'' λβ''=>VR v c β'' σ' s''.heap) (λ_ _=>False) ai) (λ_ _=>False) s:=λ{f}=>eJ hes h3.2 hA F I he λws β' s' S I' r=>by have:=fin hnb S I' r;rw[hr,QG] at this;exact this
       have hpl:=(c9 (env:=env) (pos:=pos) h3.2).2;exact x6 h3.1 hpl post
theorem rS(h:AF o=true)(nm:Str)(w:Sem Value):attributeBase o nm env w=w:=by cases o <;> first | rfl | injection h
set_option tactic.hygienic true in
theorem KV(D:Wd Z P gn G cf d){b:Me}{o:E}(ho:PE Z P gn G cf d o)(hes:GB Z P gn G cf d es):PE Z P gn G cf d (.meth b o es):=λks sc ex env ρ A β σ s hm hA F I=>by
 replace hm:=aq hm;obtain⟨⟨ov,nm,apos,args,pos⟩,h0,hm⟩:=hm;replace h0:=Fp h0;subst h0
 . refine kk λK k=>?_;simp only[Qw,decide_eq_true_eq] at hm;obtain⟨⟨⟨⟨⟨⟨rfl,hdn⟩,hnc⟩,hlen⟩,hpos⟩,h1⟩,h2⟩:=hm;refine k ?_;refine gx.plain D.y rfl λc σ' e=>?_;obtain⟨x,aa,he,e⟩:=Res.bind_ok (r:=ag G cf o ρ σ) (f:=λx aa=>if sk b aa x then (aV G cf es ρ aa).bind λvs ae=>GM b x vs ae else .bad) e;split at e
   . rename_i hok;obtain⟨vs,ae,he2,hc⟩:=Res.bind_ok e;have hst:=c9 (env:=env) (pos:=pos) h2;have hform:methodCallForm (args.length+0) (starEach args env) []=true:=by
       unfold methodCallForm;have h3:(starEach args env).all (λx=>!x.1)=true:=by have:=hst.2;simp only[Tx] at this;simp only[Rf,Rg];intro x hx;simpa using this x hx
       rw[h3];simp;omega
     rw[arm_eval_Call,rS hnc,hst.1];refine Pe (Qs ((ho ks sc ov env ρ A β σ s h1 hA F I).1 x aa he) (λv ai ⟨ah,aC,ao,rv⟩=>?_) λ_ _ x=>x);refine Pe (Rb ?_);refine(?_:wpAny _ _ (methodCall ov (uL b) apos pos env v (args.length+0) (starEach args env) []) _ _ _);unfold methodCall;refine hform▸?_;refine Pe (Rs ?_);show wpAny _ _ (getMethod v (uL b) _) _ _ _;refine yV hdn ao rv hok ?_;refine Pe ?_;have hp:methodCallPos true ov env apos pos=pure pos:=by unfold methodCallPos;simp[hpos]
     rw[hp];refine Ql (callWith_builtin hst.2 (eJ hes h2 hA (F.step aC) ao he2 λws aO al cb cc r=>?_));refine Qs (Cd (O:=b7) D.y cc (cb.vrel0 rv) r c σ' hc) (λv s'' ⟨β'',S',I'',q⟩=>⟨β'',(aC.trans cb).trans S',I'',q⟩) λ_ _ x=>x
   . injection e
end
variable {k:Nat}
theorem XAt.elim {Q:Prop} (X:XAt h k) (f:∀ nm q N bs hdct sn sub ab col dd k0 k1 k2 k3 k5 mN,h.get? (KA k)=some (excClassObj nm q (KA k) N bs (dG k) hdct sn sub ab col dd k0 k1 k2 k3 k5 "ValueError.__new__")->h.Ns N mN->(∀ n∈dN,mN n=none)->(k<=5->mN "__init__"=none)->Q):Q:=by
 cases X with
 | mk nm q N bs hdct sn sub ab col dd k0 k1 k2 k3 k5 mN h1 h2 h3 h4 h5=>exact f nm q N bs hdct sn sub ab col dd k0 k1 k2 k3 k5 mN h1 h2 h3 h4
theorem XAt.keeps(X:XAt h k)(hk:∀ b o,h.get? b=some o->h'.get? b=some o):XAt h' k:=by
 cases X with
 | mk nm q N bs hdct sn sub ab col dd k0 k1 k2 k3 k5 mN h1 h2 h3 h4 h5=>exact⟨nm,q,N,bs,hdct,sn,sub,ab,col,dd,k0,k1,k2,k3,k5,mN,hk _ _ h1,h2.keeps hk,h3,h4,λz=>⟨(h5 z).1,(h5 z).2.keeps hk⟩⟩
theorem wZ:typeLookup (.type "ValueError") "__class__"=pure (some (.builtin "object.__class__")):=by rw[typeLookup_type,builtinLookup_eq_fast];kernel_rfl
theorem wY:typeLookup (.type "ValueError") "__getattribute__"=pure (some (.builtin "BaseException.__getattribute__")):=by rw[typeLookup_type,builtinLookup_eq_fast];kernel_rfl
theorem nX:typeLookup (.type "ValueError") "__getattr__"=pure none:=by rw[typeLookup_type,builtinLookup_eq_fast];kernel_rfl
theorem hY(h:1<=k):dG k=.ref (KA 0)::fc:=if_neg (Sz h)
theorem j6(h:fc.contains (.type T)=true):(Value.ref (KA k)::dG k).contains (.type T)=true:=by
 have:(dG k).contains (.type T)=true:=by
   unfold dG;split
   . exact h
   . rw[Rh,h,Sj]
 rw[Rh,this,Sj]
variable {g:Array GenState}{d:Drawn}{t:Nat}{y:Option Value}{os:OsState}
section
variable {E:Value->Shared->Prop}
theorem qy {n:Str} {Q:Option Value->Shared->Prop} (Xk:XAt h k) (X0:XAt h 0) (hk:1<=k) (hn:n∈dN) (hB:typeLookup (.type "ValueError") n=pure y) (hq:Q y ⟨h,g,d,t,os⟩) :
   wpAny M A (typeLookup (.ref (KA k)) n) Q E ⟨h,g,d,t,os⟩:=by
 have hrest:lookupAlong fc n=pure y:=by rw[typeLookup_eq,F.excBase_ValueError.mroIs] at hB;exact hB
 refine Xk.elim λnm q N bs hdct sn sub ab col dd k0 k1 k2 k3 k5 mN h1 h2 h3 _=>?_;refine X0.elim λnm' q' N' bs' hdct' sn' sub' ab' col' dd' k0' k1' k2' k3' k5' mN' h1' h2' h3' _=>?_;rw[typeLookup_eq];refine Pe (wpAny_mroOf_exc h1 ?_);rw[lookupAlong_cons];refine Pe (wpAny_classOwn_exc h1 h2 ?_);rw[h3 n hn];show wpAny M A (lookupAlong (dG k) n) Q E _;rw[hY hk,lookupAlong_cons];refine Pe (wpAny_classOwn_exc h1' h2' ?_);rw[h3' n hn];show wpAny M A (lookupAlong fc n) Q E _;rw[hrest];exact Ql hq
theorem sT{base:Value}{Q:Bool->Shared->Prop}(Xk:XAt h k)(hq:Q ((Value.ref (KA k)::dG k).contains base) ⟨h,g,d,t,os⟩):wpAny M A (isSubtype (.ref (KA k)) base) Q E ⟨h,g,d,t,os⟩:=by refine Xk.elim λnm q N bs hdct sn sub ab col dd k0 k1 k2 k3 k5 mN h1 h2 h3 _=>?_;exact Ri h1 hq
end
variable {a:Addr}{b:Bool}{Q:Fin->Shared->Prop}{dep:Int}{o:Obj}{R:Result->Shared->Prop}{nameV:Value}
section
variable {prog:Program}{E:Value->Shared->Prop}
theorem xZ(Xk:XAt h k)(hx:h.get? a=some o)(hc:o.cls=.ref (KA k))(hq:R (.ok (.ret (.ref (KA k)))) ⟨h,g,d,t,os⟩) :
   codeAny (model prog w) A (.call (.builtin "getset_descriptor.__get__") ⟨[.builtin "object.__class__",.ref a,.ref (KA k)],[]⟩) R ⟨h,g,d,t,os⟩:=by
 have hcB:(Value.ref (KA k)::dG k).contains (.type (".".intercalate ("object.__class__".cutAt '.').dropLast))=true:=by rw[F.owner_object_class];exact j6 rfl
 refine codeAny_call_builtin F.slot_gs_get.plain F.entry_gs_get (F.slot_gs_get.check _ _ _ _ _ _ _ _ F.typeOf_object_class (F.args_gs_get _ _ _) ?_)
 repeat (any_goals (first | assumption | (with_reducible refine QC hx ?_;refine hc▸?_) | (with_reducible refine sT Xk ?_;rw[hcB]) | wp_step))
 refine⟨Code.quiet_builtin _ (by decide +kernel),codeAny_builtin F.entry_object_class ?_⟩
 repeat (any_goals (first | assumption | (with_reducible refine QC hx ?_;refine hc▸?_) | wp_step))
theorem zL {Q:Unit->Shared->Prop} (Xk:XAt h k) (hx:h.get? a=some o) (hc:o.cls=.ref (KA k)) (hq:Q () ⟨h,g,d,t,os⟩):wpAny M A (checkBuiltinCall "BaseException.__getattribute__" ⟨[.ref a,nameV],[]⟩) Q E ⟨h,g,d,t,os⟩:=by
 have hk:builtinKind "BaseException.__getattribute__"=some .slot:=by decide +kernel
 have hsplit:splitId "BaseException.__getattribute__"=some ("BaseException","__getattribute__"):=by decide +kernel
 unfold checkBuiltinCall;rw[hk,hsplit];refine Pe ?_
 . unfold isInstance
   repeat (first | (with_reducible refine QC hx ?_;rw[hc]) | (with_reducible refine sT Xk ?_;rw[(j6 rfl)]) | wp_step)
   exact hq
theorem sG(Xk:XAt h k)(X0:XAt h 0)(hk:1<=k)(hx:h.get? a=some o)(hc:o.cls=.ref (KA k))(hq:Q (.done (.ret (.ref (KA k)))) ⟨h,g,d,t,os⟩) :
   wpAny (model prog w) A (Builtin.«object.__getattribute__» ⟨[.ref a,.str "__class__" tk],[]⟩) Q E ⟨h,g,d,t,os⟩:=by
 have f5:=F.typeOf_object_class;have f6:=F.slot_gs_get.lookup;have f7:=F.slot_gs_set.lookup;have hmA:("__class__":Str)∈dN:=.tail _ (.tail _ (.head _))
 repeat (any_goals (first | assumption | (with_reducible refine QC hx ?_;refine hc▸?_) | with_reducible refine qy Xk X0 hk hmA wZ ?_ | wp_step))
 refine xZ Xk hx hc ?_
 repeat (any_goals (first | assumption | wp_step))
theorem zI{Q:Value->Shared->Prop}(Xk:XAt h k)(X0:XAt h 0)(hk:1<=k)(hx:h.get? a=some o)(hc:o.cls=.ref (KA k))(hq:Q (.ref (KA k)) ⟨h,g,d,t,os⟩) :
   wpAny (model prog w) A (getAttrBy (.ref a) (.str "__class__" tk) false) Q E ⟨h,g,d,t,os⟩:=by
 have f3:=F.excAttr_ValueError.ga.bind (.ref a);have hx2:(Value.builtin "BaseException.__getattribute__"==Value.builtin "object.__getattribute__")=false:=by decide +kernel
 have hx1:(onTheHeap (Value.ref (KA k))&&Value.builtin "BaseException.__getattribute__"==Value.builtin "object.__getattribute__")=false:=by rw[hx2];rfl
 have hm1:("__getattribute__":Str)∈dN:=.head _;have hm2:("__getattr__":Str)∈dN:=.tail _ (.head _)
 repeat (any_goals (first | assumption | (with_reducible refine QC hx ?_;refine hc▸?_) | with_reducible refine qy Xk X0 hk hm1 wY ?_ | with_reducible refine qy Xk X0 hk hm2 nX ?_ | wp_step))
 refine codeAny_call_builtin F.excAttr_ValueError.ga.plain F.entry_bexc_ga (zL Xk hx hc (sG Xk X0 hk hx hc ?_))
 repeat (any_goals (first | assumption | wp_step))
theorem vt{Q:Option Value->Shared->Prop}(Xk:XAt h k)(X0:XAt h 0)(hk:1<=k)(hx:h.get? a=some o)(hc:o.cls=.ref (KA k))(hq:Q (some (.ref (KA k))) ⟨h,g,d,t+1,os⟩) :
   wpAny (model prog w) A (getAttr? (.ref a) "__class__") Q E ⟨h,g,d,t,os⟩:=by
 unfold getAttr? getAttrBy?
 repeat (any_goals (first | assumption | with_reducible apply zI Xk X0 hk hx hc | wp_step))
theorem EY(Xk:XAt h k)(Xj:XAt h j)(hx:h.get? a=some o)(hc:o.cls=.ref (KA k))(hb:(Value.ref (KA k)::dG k).contains (.ref (KA j))=true)
   (hq:Q (.done (.ret (.bool true))) ⟨h,g,d,t,os⟩):wpAny (model prog w) A (Builtin.«isinstance.nested» ⟨[.ref a,.ref (KA j),.int dep tk],[]⟩) Q E ⟨h,g,d,t,os⟩:=by
 refine Xk.elim λnm q N bs hdct sn sub ab col dd k0 k1 k2 k3 k5 mN h1 _ _ _=>?_;refine Xj.elim λnm' q' N' bs' hdct' sn' sub' ab' col' dd' k0' k1' k2' k3' k5' mN' h1' _ _ _=>?_;by_cases hne:(Value.ref (KA k)==Value.ref (KA j))=true
 . repeat (any_goals (first | assumption | (with_reducible refine QC hx ?_;exact hc) | with_reducible refine QC h1' ?_ | (with_reducible refine Ri h1 ?_;rw[hb]) | wp_step))
 . have hne:=Bool.eq_false_iff.mpr hne
   repeat (any_goals (first | assumption | (with_reducible refine QC hx ?_;refine hc▸?_) | with_reducible refine QC h1' ?_ | (with_reducible refine Ri h1 ?_;rw[hb]) | wp_step))
theorem Ci(Xk:XAt h k)(X0:XAt h 0)(Xj:XAt h j)(hk:1<=k)(hx:h.get? a=some o)(hc:o.cls=.ref (KA k))(hb:(Value.ref (KA k)::dG k).contains (.ref (KA j))=false)
   (hq:Q (.done (.ret (.bool false))) ⟨h,g,d,t+1,os⟩):wpAny (model prog w) A (Builtin.«isinstance.nested» ⟨[.ref a,.ref (KA j),.int dep tk],[]⟩) Q E ⟨h,g,d,t,os⟩:=by
 refine Xk.elim λnm q N bs hdct sn sub ab col dd k0 k1 k2 k3 k5 mN h1 _ _ _=>?_;refine Xj.elim λnm' q' N' bs' hdct' sn' sub' ab' col' dd' k0' k1' k2' k3' k5' mN' h1' _ _ _=>?_;have hne:(Value.ref (KA k)==Value.ref (KA j))=false:=by rw[Rh,SH] at hb;have:=hb.1;rw[BEq.comm];exact this
 repeat (any_goals (first | assumption | (with_reducible refine QC hx ?_;refine hc▸?_) | with_reducible refine QC h1' ?_ | with_reducible refine QC h1 ?_ | (with_reducible refine Ri h1 ?_;rw[hb]) | with_reducible apply vt Xk X0 hk hx hc | wp_step))
theorem Lr(Xk:XAt h k)(hx:h.get? a=some o)(hc:o.cls=.ref (KA k))
   (hq:Q (.done (.ret (.bool true))) ⟨h,g,d,t,os⟩):wpAny (model prog w) A (Builtin.«isinstance.nested» ⟨[.ref a,.type "ValueError",.int dep tk],[]⟩) Q E ⟨h,g,d,t,os⟩:=by
 refine Xk.elim λnm q N bs hdct sn sub ab col dd k0 k1 k2 k3 k5 mN h1 _ _ _=>?_
 repeat (any_goals (first | assumption | (with_reducible refine QC hx ?_;rw[hc]) | (with_reducible refine Ri h1 ?_;rw[(j6 rfl)]) | wp_step))
theorem zy{Q:Bool->Shared->Prop}(Xk:XAt h k)(Xj:XAt h j)(hx:h.get? a=some o)(hc:o.cls=.ref (KA k))(hb:(Value.ref (KA k)::dG k).contains (.ref (KA j))=b)
   (hq:Q b ⟨h,g,d,t,os⟩):wpAny M A (excMatches (.ref a) (.ref (KA j))) Q E ⟨h,g,d,t,os⟩:=by
 refine Xk.elim λnm q N bs hdct sn sub ab col dd k0 k1 k2 k3 k5 mN h1 _ _ _=>?_;refine Xj.elim λnm' q' N' bs' hdct' sn' sub' ab' col' dd' k0' k1' k2' k3' k5' mN' h1' _ _ _=>?_;have f:=tc_notTuple;cases (b)
 all_goals
   unfold excMatches
   repeat (first | (with_reducible refine QC hx ?_;rw[hc]) | with_reducible refine QC h1' ?_ | (with_reducible refine Ri h1' ?_;first | rw[(j6 rfl)] | rw[hb]) | (with_reducible refine Ri h1 ?_;rw[hb]) | wp_step)
   exact hq
end
theorem I8(X:XOk Z)(hk:1<=k)(hk':k<=6)(hj:j<=6):(Value.ref (KA k)::dG k).contains (.ref (KA j))=(j==k||j==0):=by
 rw[hY hk,Rh,Rh];have e:∀ i,i<=6->(Value.ref (KA j)==Value.ref (KA i))=(j==i):=λi hi=>by
   by_cases q:j=i
   . subst q;rw[beq_self_eq_true,beq_self_eq_true]
   . have:KA j≠KA i:=λz=>q (X.inj j i hj hi z);rw[beq_eq_false_iff_ne.mpr q,beq_eq_false_iff_ne.mpr λz=>this (Value.ref.inj z)]
 refine(e k hk')▸?_;rw[e 0 (QI _)];cases (j==k) <;> cases (j==0) <;> rfl
section
variable {d:Nat}
theorem XOk.at(X:XOk Z)(I:Inv Z β σ s.heap)(hk:k<=6):XAt s.heap k:=by exact XAt.keeps (X.own k hk).2 I.base
theorem Ch(X:XOk Z)(I:Inv Z β σ s.heap)(hj:j<=7)(r:aA β σ s.heap v (.exc k ds)) :
   Ev Z O A (call (.builtin "isinstance") [v,if j=7 then .type "ValueError" else .ref (KA j)]) (.ok (.d (.bool (j==k||j==0||j==7))) σ) VR β σ s:=by
 obtain⟨e,o,vs,rfl,he,⟨hc,hd,hk⟩,_⟩:=r;obtain⟨hp,g,dr,tk,os⟩:=s;have Xk:XAt hp k:=X.at (s:=⟨hp,g,dr,tk,os⟩) I hk.2;have X0:XAt hp 0:=X.at (s:=⟨hp,g,dr,tk,os⟩) I (QI _);refine bR I (PyProof.Rows.call_isinstance_of ?_);by_cases h7:j=7
 . subst h7;rw[if_pos rfl];refine Lr Xk he hc ⟨⟨_,_,rfl⟩,?_⟩;have:(7==k||7==0||7==7)=true:=by simp
   rw[this];exact .bool _
 . refine(if_neg h7)▸?_;have Xj:XAt hp j:=X.at (s:=⟨hp,g,dr,tk,os⟩) I (S9 (Tr hj h7));have ct:=I8 X hk.1 hk.2 (S9 (Tr hj h7));have e7:(j==7)=false:=by simpa using h7
   refine e7▸?_;rw[RW];cases hb:(j==k||j==0) with
   | true=>rw[hb] at ct;exact EY Xk Xj he hc ct ⟨⟨_,_,rfl⟩,.bool _⟩
   | false=>rw[hb] at ct;exact Ci Xk X0 Xj hk.1 he hc ct ⟨⟨_,_,rfl⟩,.bool _⟩
theorem M9(D:Wd Z P gn G cf d)(he:PE Z P gn G cf d e):PE Z P gn G cf d (.isx k e):=λks sc ex env ρ A β σ s hm hA F I=>by
 replace hm:=aq hm;obtain⟨⟨x,args⟩,h0,hm⟩:=hm;apply GP (eW h0);intro p pos;replace hm:=aq hm;obtain⟨⟨a,c⟩,h00,hm⟩:=hm;replace h00:=iM h00;have h00:args=[a,c]:=h00;subst h00;replace hm:=aq hm;obtain⟨z,h00,hm⟩:=hm;obtain⟨zp,h00⟩:=bP h00;subst h00;simp only[Qw,decide_eq_true_eq] at hm;obtain⟨⟨⟨⟨⟨⟨rfl,hg⟩,rfl⟩,hz⟩,hk⟩,hs⟩,hm⟩:=hm;refine gx.plain D.y rfl λv σ' ev=>?_;have ev:((ag G cf e ρ σ).bind λx aa=>Ls k x aa)=.ok v σ':=ev;obtain⟨y,aa,e1,ev⟩:=Res.bind_ok ev;obtain⟨⟨k',ds⟩,hy,ev⟩:=iB ev;have hy:y=.exc k' ds:=by cases y <;> first | ((injection hy with e0_;injection e0_ with e0_ f0_;subst e0_;subst f0_);rfl) | injection hy
 subst hy;have trees:backTo pos (starEach [a,.Name (lg k) zp] env)=[(false,eval a env),(false,eval (.Name (lg k) zp) env)]:=by rw[a6 _ hs];rfl
 have bi:=D.b.free (.isinst .list);refine PyProof.Rows.Call_Name trees (eU D F I hg bi.1 (bi.2 (.inr ⟨_,rfl⟩)) ?_);refine callWith_builtin rfl (evalArgs_plain (spliced_cons (Qs ((he ks sc a env ρ A β σ s hm hA F I).1 _ _ e1) (λu ai ⟨ah,aC,ao,ru⟩=>?_) λ_ _ x=>x)));have fin:=Ch (A:=A) (O:=b7) D.x ao hk ru v σ' ev;refine spliced_cons ?_;by_cases h7:k=7
 . subst h7;rw[if_pos rfl] at fin;refine eU D (F.step aC) ao hz D.x.ve.1 D.x.ve.2 (spliced_nil ?_);exact Qs fin (λw al ⟨aO,cb,cc,q⟩=>⟨aO,aC.trans cb,cc,q⟩) λ_ _ x=>x
 . rw[if_neg h7] at fin;refine gH D (F.step aC) ao hz (D.x.own k (S9 (Tr hk h7))).1 (spliced_nil ?_);exact Qs fin (λw al ⟨aO,cb,cc,q⟩=>⟨aO,aC.trans cb,cc,q⟩) λ_ _ x=>x
end
variable {fI C N:Addr}{hdct ab:Bool}{sn:List Str}{bs sub:List Value}{oI:Obj}{dd:Option Addr}{col:Option Bool}{newId:String}
section
variable {prog:Program}{E:Value->Shared->Prop}
variable {q:Str}{bm bmB:List Value}{k0 k1 k2 k3 k5:Option Value}{B initId:String}
theorem oC(F:ExcBaseFacts B newId initId bmB)(T:OwnTail h bmB bm) 
   (hC:h.get? C=some (excClassObj nm q C N bs bm hdct sn sub ab col dd k0 k1 k2 k3 k5 newId)) (hn:h.Ns N mN) (hi:mN "__init__"=some (.ref fI)) (hfI:h.get? fI=some oI) (hfc:oI.cls=.type "function") (hrest:rest.length<=sizeLine)
   (hq:∀ h' e,Heap.MadeExcOf h h' e (.ref C) rest->wpAny (model prog w) A (call (.ref fI) (.ref e::rest)) (λr s'=>r=.none/\Q (.done (.ret (.ref e))) s') E ⟨h',g,d,t,os⟩) :
   wpAny (model prog w) A (Builtin.«type.__call__» ⟨.ref C::rest,[]⟩) Q E ⟨h,g,d,t,os⟩:=by
 repeat (first | with_reducible refine QC hC ?_ | with_reducible refine wpAny_madeBy_exc hC ?_ | wp_step)
 refine codeAny_call_builtin_code (Code.quiet_builtin _ F.quiet) (wpAny_check_new_subT F T hC (codeAny_exc_new_subT F T hC ?_ hrest));show wpAny _ _ _ _ _ _;generalize hh:((h.push { cls:=.type "tuple",data:=.seq rest.toArray }).push { cls:=.ref C,data:=.fields #[.ref h.objs.size,.none,.none,.none,.bool false,.none] })=a5;have kp:∀ b o,h.get? b=some o->a5.get? b=some o:=λb o e=>by rw[<- hh];exact Qm _ (Qm _ e)
 have hget:a5.get? (h.objs.size+1)=some { cls:=.ref C,data:=.fields #[.ref h.objs.size,.none,.none,.none,.bool false,.none] }:=by rw[<- hh];heap_get
 have hcC:(Value.ref C::bm).contains (.ref C)=true:=by simp
 unfold isInstance
 repeat (first | with_reducible refine QC hget ?_ | (with_reducible refine Ri (kp _ _ hC) ?_;rw[hcC]) | wp_step)
 show wpAny _ _ (typeLookup (.ref C) _) _ _ _;refine wpAny_typeLookup_tail (kp _ _ hC) (hn.keeps kp) (T.keeps kp) F.mroIs F.init.lookup ?_;rw[hi];refine Rs (Pe ?_);unfold bindSpecial;refine Pe (wpAny_typeOf (T:="function") ⟨_,kp _ _ hfI,hfc⟩ ?_);rw[if_pos (by decide)];have made:Heap.MadeExcOf h a5 (h.objs.size+1) (.ref C) rest:=⟨kp,Tf (S7 _),h.objs.size,hget,Tf (QP _),by rw[<- hh];exact Qm _ (Heap.get?_push_at rfl rfl)⟩
 refine Ql (Pe (Qs (hq _ _ made) (λr s' hr=>?_) λ_ _ x=>x));obtain⟨rfl,hQ⟩:=hr
 wp_walk
 exact hQ
theorem zN(F:ExcBaseFacts B newId initId bmB)(T:OwnTail h bmB bm){Q:Value->Shared->Prop}
   (hC:h.get? C=some (excClassObj nm q C N bs bm hdct sn sub ab col dd k0 k1 k2 k3 k5 newId)) (hn:h.Ns N mN) (hi:mN "__init__"=some (.ref fI)) (hfI:h.get? fI=some oI) (hfc:oI.cls=.type "function") (hrest:rest.length<=sizeLine)
   (hq:∀ h' e,Heap.MadeExcOf h h' e (.ref C) rest->wpAny (model prog w) (A.under (.builtin "type.__call__" ⟨.ref C::rest,[]⟩)) (call (.ref fI) (.ref e::rest)) (λr s'=>r=.none/\Q (.ref e) s') E ⟨h',g,d,t,os⟩) :
   wpAny (model prog w) A (call (.ref C) rest) Q E ⟨h,g,d,t,os⟩:=by
 have f1:=tc_lookup;have f2:=tc_bind (.ref C);have hT:(⟨h,g,d,t,os⟩:Shared).TypeIs (.ref C) "type":=⟨_,hC,rfl⟩
 refine wpAny_call (codeAny_of_tree ?_);show wpAny _ _ (callAny (.ref C) _) _ _ _
 repeat (any_goals (first | assumption | with_reducible refine QC hC ?_ | wp_step))
 exact⟨rfl,codeAny_call_builtin_at (Code.quiet_builtin _ (by decide +kernel)) entry_typeCall (wpAny_check_type_call_sub hC (oC F T hC hn hi hfI hfc hrest hq))⟩
theorem yI {x:Sem Value} {Q:Flow->Shared->Prop} (hbase:bm.contains (.type "BaseException")=true) (hh:A.handled=none)
   (h:wpAny M A x (λv ai=>X4 λe t D sl=>A4 (v=.ref e) (ai.heap.get? C=some (excClassObj nm q C N bs bm hdct sn sub ab col dd k0 k1 k2 k3 k5 newId)) (ai.heap.get? e=some { cls:=.ref C,dict:=D,data:=.fields #[.ref t,.none,.none,.none,.bool false,.none],slots:=sl }) (E (.ref e) ai)) E s) :
   wpAny M A (raiseStmt env (some x) none) Q E s:=by
 have hcB:(Value.ref C::bm).contains (.type "BaseException")=true:=by rw[Rh,hbase,Sj]
 unfold raiseStmt;refine Pe (Qs h (λv ai a5=>?_) λ_ _ x=>x);obtain⟨e,t,D,sl,rfl,hC,he,hE⟩:=a5;obtain⟨hp,g,d,tk,os⟩:=ai
 repeat (first | with_reducible refine QC he ?_ | with_reducible refine QC hC ?_ | (with_reducible refine Ri hC ?_;rw[hcB]) | wp_step)
 exact wpAny_raiseNew_none hh hE
end
open Builtin Builtin.ObjectAttr
variable {D:Addr}{vs:Array Value}{hdct':Bool}{ns:List Str}{name:Str}{mN' mA:Str->Option Value}
section
variable {prog:Program}{E:Value->Shared->Prop}
variable {q nm' q':Str}{C' N' x:Addr}{bs':List Value}{sn':List Str}{sub':List Value}{ab':Bool}{col':Option Bool}{dd':Option Addr}{k0 k1 k2 k3 k5 k0' k1' k2' k3' k5':Option Value}{newId':String}
inductive Two(h:Heap)(C:Addr)(mN mN':Str->Option Value):Prop where
 | mk (nm q nm' q':Str) (N C' N':Addr) (bs bs':List Value) (hdct':Bool) (sn sn':List Str) (sub sub':List Value) (ab ab':Bool) (col col':Option Bool) (dd dd':Option Addr) (k0 k1 k2 k3 k5 k0' k1' k2' k3' k5':Option Value) (newId newId':String)
   (h1:h.get? C=some (excClassObj nm q C N bs (.ref C'::fc) true sn sub ab col dd k0 k1 k2 k3 k5 newId)) (h2:h.Ns N mN) (h3:h.get? C'=some (excClassObj nm' q' C' N' bs' fc hdct' sn' sub' ab' col' dd' k0' k1' k2' k3' k5' newId')) (h4:h.Ns N' mN'):Two h C mN mN'
theorem eD {n:Str} {Q:Option Value->Shared->Prop} (T:Two h C mN mN') (hn:mN n=none) (hn':mN' n=none) (hB:typeLookup (.type "ValueError") n=pure y) (hq:Q y ⟨h,g,d,t,os⟩) :
   wpAny M A (typeLookup (.ref C) n) Q E ⟨h,g,d,t,os⟩:=by
 have hrest:lookupAlong fc n=pure y:=by rw[typeLookup_eq,F.excBase_ValueError.mroIs] at hB;exact hB
 cases T with
 | mk _ _ _ _ _ _ _ _ _ _ _ _ _ _ _ _ _ _ _ _ _ _ _ _ _ _ _ _ _ _ _ _ h1 h2 h3 h4=>
 rw[typeLookup_eq];refine Pe (wpAny_mroOf_exc h1 ?_);rw[lookupAlong_cons];refine Pe (wpAny_classOwn_exc h1 h2 ?_);rw[hn];show wpAny M A (lookupAlong (.ref _::fc) n) Q E _;rw[lookupAlong_cons];refine Pe (wpAny_classOwn_exc h3 h4 ?_);rw[hn'];show wpAny M A (lookupAlong fc n) Q E _;rw[hrest];exact Ql hq
inductive ClsAt(h:Heap)(C:Addr):Prop
 | mk (nm q:Str) (N C':Addr) (bs:List Value) (sn:List Str) (sub:List Value) (ab:Bool) (col:Option Bool) (dd:Option Addr) (k0 k1 k2 k3 k5:Option Value) (newId:String) (hC:h.get? C=some (excClassObj nm q C N bs (.ref C'::fc) true sn sub ab col dd k0 k1 k2 k3 k5 newId)):ClsAt h C
theorem Two.cls(T:Two h C mN mN'):ClsAt h C:=by
 cases T with
 | mk _ _ _ _ _ _ _ _ _ _ _ _ _ _ _ _ _ _ _ _ _ _ _ _ _ _ _ _ _ _ _ _ h1 h2 h3 h4=>exact⟨_,_,_,_,_,_,_,_,_,_,_,_,_,_,_,_,h1⟩
theorem sH{Q:Unit->Shared->Prop}(T:Two h C mN mN')(hx:h.get? x=some o)(hc:o.cls=.ref C)(hq:Q () ⟨h,g,d,t,os⟩) :
   wpAny M A (checkBuiltinCall "object.__setattr__" ⟨[.ref x,nameV,v],[]⟩) Q E ⟨h,g,d,t,os⟩:=by
 obtain⟨nm,q,N,C',bs,sn,sub,ab,col,dd,k0,k1,k2,k3,k5,newId,hC⟩:=T.cls;have hcB:(Value.ref C::.ref C'::fc).contains (.type "object")=true:=by rw[Rh,Rh,show fc.contains (.type "object")=true from rfl,Sj,Sj]
 have ha:=F.store_ValueError.args (.ref x) nameV v;unfold checkBuiltinCall;rw[F.store_ValueError.kind,F.store_ValueError.split];refine Pe ?_
 . unfold isInstance
   repeat (first | (with_reducible refine QC hx ?_;rw[hc]) | (with_reducible refine Ri hC ?_;rw[hcB]) | wp_step)
   exact hq
theorem BR (T:Two h C mN mN') (hna:mN name=none) (hna':mN' name=none) (hB:typeLookup (.type "ValueError") name=pure none) (hx:h.get? x=some o) (hc:o.cls=.ref C) (hdn:o.dict=none) (hdat:o.data=.fields vs)
   (hq:∀ h' tk',h'.get? x=some { o with dict:=some h.objs.size }->h'.Ns1 h.objs.size (λy=>if y=name then some v else none)->(∀ b o,b≠x->h.get? b=some o->h'.get? b=some o)->Q (.done (.ret .none)) ⟨h',g,d,tk',os⟩) :
   wpAny (model prog w) A (Builtin.«object.__setattr__» ⟨[.ref x,.str name tk,v],[]⟩) Q E ⟨h,g,d,t,os⟩:=by
 obtain⟨nm,q,N,C',bs,sn,sub,ab,col,dd,k0,k1,k2,k3,k5,newId,hC⟩:=T.cls;have hpass:=F.store_ValueError.passes (.ref x);unfold Builtin.«object.__setattr__»
 repeat (first | rw[refuse_eq] | (rw[refuseLoop_ref,refuseLoop_ref,hpass]) | (with_reducible refine QC hx ?_;rw[hc]) | with_reducible refine wpAny_mroOf_exc hC ?_ | with_reducible refine eD T hna hna' hB ?_ | wp_step)
 rw[hdn];show wpAny _ _ (if (!true||!typeHasDict (Value.ref C))=true then pure none else _) _ _ _;rw[if_neg (by simp[typeHasDict]),hdat];have Jw:(h.push { cls:=.type "dict",data:=.dict #[] }).get? x=some o:=Qm _ hx;have hxs:x≠h.objs.size:=Rd (Q8 hx);refine Pe (wpAny_alloc' ?_);refine Pe (wpAny_update' Jw (Ql ?_));show wpAny _ _ (storeInDict h.objs.size (.str name tk) name v) _ _ _;generalize hh:((h.push { cls:=.type "dict",data:=.dict #[] }).update x λo=>{ cls:=o.cls,dict:=some h.objs.size,data:=o.data,slots:=o.slots })=fK;have hgd:fK.get? h.objs.size=some { cls:=.type "dict",data:=.dict #[] }:=by rw[<- hh];exact(Heap.get?_update_ne _ _ _ _ hxs.symm).trans (Heap.get?_push_at rfl rfl)
 have Nw:fK.get? x=some { o with dict:=some h.objs.size }:=by rw[<- hh];refine Ry _ Jw ?_;obtain⟨oc,od,odt,osl⟩:=o;have hdat:odt=.fields vs:=hdat;subst hdat;rfl
 have kp:∀ b o,b≠x->h.get? b=some o->fK.get? b=some o:=λb o hb e=>by rw[<- hh];exact(Heap.get?_update_ne _ _ _ _ hb).trans (Qm _ e)
 unfold storeInDict newKeyGuard;refine Pe (Ql (Pe (wpAny_nsSet1 (Heap.Ns1.of_empty ⟨_,#[],_,hgd,rfl,λe he=>absurd he (by simp),λ_=>rfl⟩) λh' hn' hs=>?_)));obtain⟨oD,esD,epD,hoD,hdD,hcD⟩:=hn'.count (Within.cons name v Within.nil);refine Pe (wpAny_lookBehind hoD (by rw[hdD];exact pastItsLine_dict (iv hcD (by rw[QF,RO,sizeLine_eq];decide))) ?_)
 wp_walk
 exact hq h' _ ((hs.2 x hxs).trans Nw) hn' λb o hb e=>(hs.2 b (Rd (Q8 e))).trans (kp b o hb e)
theorem DL (T:Two h C mN mN') (hna:mN name=none) (hna':mN' name=none) (hB:typeLookup (.type "ValueError") name=pure none) (hx:h.get? x=some o) (hc:o.cls=.ref C) (hdx:o.dict=some D)
   (hns:h.Ns1 D mA) (hw:Within mA ns) (hsz:ns.length+1<=1000)
   (hq:∀ h' tk',h'.Ns1 D (λy=>if y=name then some v else mA y)->(∀ b o,b≠D->h.get? b=some o->h'.get? b=some o)->Q (.done (.ret .none)) ⟨h',g,d,tk',os⟩) :
   wpAny (model prog w) A (Builtin.«object.__setattr__» ⟨[.ref x,.str name tk,v],[]⟩) Q E ⟨h,g,d,t,os⟩:=by
 obtain⟨nm,q,N,C',bs,sn,sub,ab,col,dd,k0,k1,k2,k3,k5,newId,hC⟩:=T.cls;have hpass:=F.store_ValueError.passes (.ref x);unfold Builtin.«object.__setattr__»
 repeat (first | rw[refuse_eq] | (rw[refuseLoop_ref,refuseLoop_ref,hpass]) | (with_reducible refine QC hx ?_;rw[hc]) | with_reducible refine wpAny_mroOf_exc hC ?_ | with_reducible refine eD T hna hna' hB ?_ | wp_step)
 rw[hdx];refine Ql ?_;show wpAny _ _ (storeInDict D (.str name tk) name v) _ _ _;unfold storeInDict newKeyGuard;refine Pe (Ql (Pe (wpAny_nsSet1 hns λh' hn' hs=>?_)));obtain⟨oD,esD,epD,hoD,hdD,hcD⟩:=hn'.count (Within.cons name v hw);refine Pe (wpAny_lookBehind hoD (by rw[hdD];exact pastItsLine_dict (iv hcD (by rw[QF,sizeLine_eq];omega))) ?_)
 wp_walk
 exact hq h' _ hn' λb o hb e=>(hs.2 b hb).trans e
theorem nq {Q:Unit->Shared->Prop} (T:Two h C mN mN') (hs:mN "__setattr__"=none) (hs':mN' "__setattr__"=none) (hx:h.get? x=some o) (hc:o.cls=.ref C)
   (hent:∀ (A':Around) (E':Value->Shared->Prop) (Q':Fin->Shared->Prop) (tk:Tok) (t':Nat),(∀ h' tk',Q () ⟨h',g,d,tk',os⟩->Q' (.done (.ret .none)) ⟨h',g,d,tk',os⟩)->wpAny (model prog w) A' (Builtin.«object.__setattr__» ⟨[.ref x,.str name tk,v],[]⟩) Q' E' ⟨h,g,d,t',os⟩) :
   wpAny (model prog w) A (setAttr (.ref x) name v) Q E ⟨h,g,d,t,os⟩:=by
 have f3:=F.store_ValueError.slot.bind (.ref x);unfold setAttr callSpecial? specialOf
 repeat (any_goals (first | assumption | (with_reducible refine QC hx ?_;rw[hc]) | with_reducible refine eD T hs hs' F.store_ValueError.slot.lookup ?_ | wp_step))
 refine codeAny_call_builtin F.store_ValueError.slot.plain F.store_ValueError.entry (sH T hx hc (hent _ _ _ _ _ λh' tk' hQ=>?_))
 repeat (any_goals (first | assumption | wp_step))
end
variable {expr:Bool}{Q:Value->Shared->Prop}
section
variable {prog:Program}{E:Value->Shared->Prop}
variable {x:Addr}
theorem qC {Q:Fin->Shared->Prop} (T:Two h C mN mN') (hna:mN name=none) (hna':mN' name=none) (hB:typeLookup (.type "ValueError") name=pure none) (hx:h.get? x=some o) (hc:o.cls=.ref C) (hdat:o.data=.fields vs) (hdx:o.dict=some D) (hns:h.Ns1 D mA) (hv:mA name=some v)
   (hq:Q (.done (.ret v)) ⟨h,g,d,t,os⟩):wpAny (model prog w) A (Builtin.«object.__getattribute__» ⟨[.ref x,.str name tk],[]⟩) Q E ⟨h,g,d,t,os⟩:=by
 repeat (any_goals (first | assumption | (with_reducible refine QC hx ?_;rw[hc]) | with_reducible refine eD T hna hna' hB ?_ | wp_step))
 rw[hdat];show wpAny _ _ (instanceDict x false) _ _ _;unfold instanceDict;obtain⟨nm,q,N,C',bs,sn,sub,ab,col,dd,k0,k1,k2,k3,k5,newId,hC⟩:=T.cls
 repeat (first | (with_reducible refine QC hx ?_;rw[hc]) | with_reducible refine QC hC ?_ | wp_step)
 refine hdx▸?_
 repeat (first | (with_reducible refine wpAny_nsGet hns.ns ?_;refine hv▸?_) | wp_step)
 exact hq
theorem sI {Q:Unit->Shared->Prop} (T:Two h C mN mN') (hx:h.get? x=some o) (hc:o.cls=.ref C) (hq:Q () ⟨h,g,d,t,os⟩):wpAny M A (checkBuiltinCall "BaseException.__getattribute__" ⟨[.ref x,nameV],[]⟩) Q E ⟨h,g,d,t,os⟩:=by
 obtain⟨nm,q,N,C',bs,sn,sub,ab,col,dd,k0,k1,k2,k3,k5,newId,hC⟩:=T.cls;have hk:builtinKind "BaseException.__getattribute__"=some .slot:=by decide +kernel
 have hsplit:splitId "BaseException.__getattribute__"=some ("BaseException","__getattribute__"):=by decide +kernel
 have hcB:(Value.ref C::.ref C'::fc).contains (.type "BaseException")=true:=by rw[Rh,Rh,show fc.contains (.type "BaseException")=true from rfl,Sj,Sj]
 unfold checkBuiltinCall;refine hk▸hsplit▸?_;refine Pe ?_
 . unfold isInstance
   repeat (first | (with_reducible refine QC hx ?_;refine hc▸?_) | (with_reducible refine Ri hC ?_;rw[hcB]) | wp_step)
   exact hq
theorem xq (T:Two h C mN mN') (hg:mN "__getattribute__"=none) (hg':mN' "__getattribute__"=none) (hga:mN "__getattr__"=none) (hga':mN' "__getattr__"=none) (hna:mN name=none) (hna':mN' name=none) (hB:typeLookup (.type "ValueError") name=pure none) (hx:h.get? x=some o) (hc:o.cls=.ref C) (hdat:o.data=.fields vs) (hdx:o.dict=some D) (hns:h.Ns1 D mA) (hv:mA name=some v) (hh:handedOut v=pure v)
   (hq:∀ t',Q v ⟨h,g,d,t',os⟩):wpAny (model prog w) A (getAttr (.ref x) name expr) Q E ⟨h,g,d,t,os⟩:=by
 have f3:=F.excAttr_ValueError.ga.bind (.ref x);have hx2:(Value.builtin "BaseException.__getattribute__"==Value.builtin "object.__getattribute__")=false:=by decide +kernel
 have hx1:(onTheHeap (Value.ref C)&&Value.builtin "BaseException.__getattribute__"==Value.builtin "object.__getattribute__")=false:=by rw[hx2];rfl
 unfold getAttr getAttrBy
 repeat (any_goals (first | assumption | (with_reducible refine QC hx ?_;rw[hc]) | with_reducible refine eD T hg hg' wY ?_ | with_reducible refine eD T hga hga' nX ?_ | wp_step))
 rw[if_neg (by cases expr <;> exact QB)];unfold boundAndCalled
 repeat (any_goals (first | assumption | (with_reducible refine QC hx ?_;rw[hc]) | wp_step))
 refine codeAny_call_builtin F.excAttr_ValueError.ga.plain F.entry_bexc_ga (sI T hx hc (qC T hna hna' hB hx hc hdat hdx hns hv ?_))
 repeat (any_goals (first | assumption | wp_step))
 exact hq _
end
theorem tA:typeLookup (.type "ValueError") jn=pure none:=by rw[typeLookup_type,builtinLookup_eq_fast];kernel_rfl
theorem nV:typeLookup (.type "ValueError") dj=pure none:=by rw[typeLookup_type,builtinLookup_eq_fast];kernel_rfl
inductive Cl6(h:Heap):Prop where
 | mk (mN mN':Str->Option Value) (T:Two h (KA 6) mN mN') (q:∀ n∈dN,mN n=none/\mN' n=none) (I:InitX h mN) (O:OwnTail h fc (dG 6)) (nm q':Str) (N:Addr) (bs:List Value) (sn:List Str) (sub:List Value) (ab:Bool) (col:Option Bool) (dd:Option Addr) (k0 k1 k2 k3 k5:Option Value) (hC:h.get? (KA 6)=some (excClassObj nm q' (KA 6) N bs (dG 6) true sn sub ab col dd k0 k1 k2 k3 k5 "ValueError.__new__")) (hN:h.Ns N mN):Cl6 h
theorem Gc(X6:XAt h 6)(X0:XAt h 0):Cl6 h:=by obtain⟨nm,q,N,bs,hdct,sn,sub,ab,col,dd,k0,k1,k2,k3,k5,mN,h1,h2,h3,_,h5⟩:=X6;obtain⟨nm',q',N',bs',hdct',sn',sub',ab',col',dd',k0',k1',k2',k3',k5',mN',h1',h2',h3',h4',_⟩:=X0;obtain⟨rfl,i⟩:=h5 rfl;exact⟨mN,mN',⟨nm,q,nm',q',N,KA 0,N',bs,bs',hdct',sn,sn',sub,sub',ab,ab',col,col',dd,dd',k0,k1,k2,k3,k5,k0',k1',k2',k3',k5',_,_,h1,h2,h1',h2'⟩,λn hn=>⟨h3 n hn,h3' n hn⟩,i,.own h1' h2' (h4' (QI _)) .base,nm,q,N,bs,sn,sub,ab,col,dd,k0,k1,k2,k3,k5,h1,h2⟩
theorem Two.keeps(T:Two h C mN mN')(kp:∀ b o,h.get? b=some o->h'.get? b=some o):Two h' C mN mN':=by
 cases T with
 | mk nm q nm' q' N C' N' bs bs' hdct' sn sn' sub sub' ab ab' col col' dd dd' k0 k1 k2 k3 k5 k0' k1' k2' k3' k5' newId newId' h1 h2 h3 h4=>exact⟨nm,q,nm',q',N,C',N',bs,bs',hdct',sn,sn',sub,sub',ab,ab',col,col',dd,dd',k0,k1,k2,k3,k5,k0',k1',k2',k3',k5',newId,newId',kp _ _ h1,h2.keeps kp,kp _ _ h3,h4.keeps kp⟩
inductive Made6(h h':Heap)(e:Addr)(v1 v2:Value):Prop where
 | mk (t D:Addr) (sl:Array (Option Value)) (m:Str->Option Value) (kp:∀ b o,h.get? b=some o->h'.get? b=some o) (h1:h.get? e=none) (h2:h'.get? e=some { cls:=.ref (KA 6),dict:=some D,data:=.fields #[.ref t,.none,.none,.none,.bool false,.none],slots:=sl }) (h3:h.get? D=none) (h4:h'.Ns1 D m) (h5:m jn=some v1/\m dj=some v2):Made6 h h' e v1 v2
variable {p0 p1 p2:Str}
section
variable {prog:Program}{E:Value->Shared->Prop}
theorem ya{K:Str->Option NameKind}(h0:K p0=some .local)(h1:K p1=some .local)(h2:K p2=some .local)(a b c:Value):bindL K [(p0,a),(p1,b),(p2,c)] (λ_=>none)=λy=>if y=p2 then some c else if y=p1 then some b else if y=p0 then some a else none:=by unfold bindL bindL bindL bindL;rw[if_pos h0,if_pos h1,if_pos h2]
theorem zJ{v1 v2:Value}(X:Cl6 h)(hlim:h.NoLimit)(hroom:A.depth+1 < recursionLimit)(q:∀ h' tk e,Made6 h h' e v1 v2->Q (.ref e) ⟨h',g,d,tk,os⟩) :
   wpAny (model prog w) A (call (.ref (KA 6)) [v1,v2]) Q E ⟨h,g,d,t,os⟩:=by
 obtain⟨mN,mN',T,qn,⟨f,o,fd,p0,p1,p2,n1,n2,n3,n4,n5,n6,n7,n8,i1,i2,i3,i4,i5,i6,i7,i8,i9,i10,i11⟩,OT,nm,q',N,bs,sn,sub,ab,col,dd,k0,k1,k2,k3,k5,hC,hN⟩:=X;have hl:=λp hp=>(i10 p hp).1;have l0:=hl p0 (Qh ..);have l1:=hl p1 (Qj _ (Qh ..));have l2:=hl p2 (Qj _ (Qj _ (Qh ..)));have g0:=(cI (i10 p0 (Qh ..)).2).1;have g1:=(cI (i10 p1 (Qj _ (Qh ..))).2).1;have g2:=(cI (i10 p2 (Qj _ (Qj _ (Qh ..)))).2).1;refine zN PySem.F.excBase_ValueError OT hC hN i1 i2 i3 (by simp[sizeLine]) λa5 e M=>?_;obtain⟨tu,he,htu,_⟩:=M.there;refine wpAny_call (codeAny_call_cells hroom (M.keeps _ _ i2) i4 (hlim.keeps M.keeps) (i7.keeps M.keeps) i5 (i9 (.ref e) v1 v2) i6 (λy hy=>.inl ?_) (λai x=>?_) i8.2.1 i8.2.2 i8.1)
 . rcases Qq.mp hy with rfl | hy
   . exact l0
   . rcases Qq.mp hy with rfl | hy
     . exact l1
     . exact(Qt.mp hy)▸l2
 . have hns:=x.toInCall.ns;rw[ya (K:=(callEnvC fd a5.objs.size f).kindOf) l0 l1 l2] at hns;have hfr:a5.get? (callEnvC fd a5.objs.size f).locals=none:=ft x.toInCall.fresh;obtain⟨fK,MN,rfl,HY⟩:=x.done;generalize hL:(callEnvC fd a5.objs.size f).locals=L at hns hfr;have hk0:(callEnvC fd a5.objs.size f).kindOf p0=some .local:=l0;have hk1:(callEnvC fd a5.objs.size f).kindOf p1=some .local:=l1;have hk2:(callEnvC fd a5.objs.size f).kindOf p2=some .local:=l2;have hke:(callEnvC fd a5.objs.size f).scope.kind=.function:=i8.1;generalize callEnvC fd a5.objs.size f=env at *;have oa:=HY _ _ he;have eL:e≠L:=λz=>by rw[<- z,he] at hfr;injection hfr
   have xa:∀ b o,h.get? b=some o->fK.get? b=some o:=λb o z=>HY b o (M.keeps b o z);have s1:=qn "__setattr__" (by simp[dN]);have s2:=qn jn (by simp[dN]);have s3:=qn dj (by simp[dN]);have ldN:∀ {A':Around} {E':Value->Shared->Prop} {Q':Value->Shared->Prop} {p:Str} {np:Pos} {v:Value} {s':Shared} {m':Str->Option Value},env.kindOf p=some .local->(p==("__debug__":Str))=false->s'.heap.Ns L m'->m' p=some v->Q' v s'->wpAny (model prog w) A' (eval (.Name p np) env) Q' E' s':=λhk hg hn hm hq=>wpAny_Name (wpAny_loadName_local hke hk (hL▸hn) hm hq) hg;rw[arm_execs_cons];refine Pe (plainObj_wpAny_Assign_Attribute (ldN (s':=⟨fK,g,d,MN,os⟩) hk1 g1 hns (v:=v1) ?_ (ldN hk0 g0 hns (v:=.ref e) ?_ ?_)))
   . show (if p1=p2 then some v2 else if p1=p1 then some v1 else _)=some v1;rw[if_neg (Ne.symm i11.2.2),if_pos rfl]
   . show (if p0=p2 then some v2 else if p0=p1 then some v1 else if p0=p0 then some (Value.ref e) else none)=_;rw[if_neg (Ne.symm i11.2.1),if_neg (Ne.symm i11.1),if_pos rfl]
   refine nq (T.keeps xa) s1.1 s1.2 oa rfl λA' E' Q' tk t' k=>BR (T.keeps xa) s2.1 s2.2 tA oa rfl rfl rfl λmX Jg LQ nD kD=>k mX Jg ?_;have tI:fK.get? fK.objs.size=none:=aU _;generalize fK.objs.size=D at *;have E8:mX.Ns L _:=hns.at λo z=>kD L o (Ne.symm eL) z;have EV:∀ b o,h.get? b=some o->mX.get? b=some o:=λb o z=>kD b o (λy=>by rw[y,M.new] at z;injection z) (xa b o z);refine(?_:wpAny _ _ (PySem.execs [_] env) _ _ _);rw[arm_execs_cons];refine Pe (plainObj_wpAny_Assign_Attribute (ldN (s':=⟨mX,g,d,Jg,os⟩) hk2 g2 E8 (v:=v2) ?_ (ldN hk0 g0 E8 (v:=.ref e) ?_ ?_)))
   . show (if p2=p2 then some v2 else _)=some v2;exact(if_pos rfl)
   . show (if p0=p2 then some v2 else if p0=p1 then some v1 else if p0=p0 then some (Value.ref e) else none)=_;rw[if_neg (Ne.symm i11.2.1),if_neg (Ne.symm i11.1),if_pos rfl]
   have hDe:D≠e:=λz=>by rw[z,oa] at tI;injection tI
   refine nq (T.keeps EV) s1.1 s1.2 LQ rfl λA' E' Q' tk t' k=>DL (ns:=[jn]) (T.keeps EV) s3.1 s3.2 nV LQ rfl rfl nD (Within.cons jn v1 Within.nil) (by simp) λH7 Jf Nk Nr=>k H7 Jf ?_;refine wpAny_execs_nil ⟨rfl,q H7 Jf e ⟨tu,D,_,_,λb o z=>Nr b o (λy=>?_) (EV b o z),M.new,Nr _ _ (Ne.symm hDe) LQ,?_,Nk,?_,?_⟩⟩
   . rw[y] at z;rw[xa _ _ z] at tI;injection tI
   . cases z:h.get? D with
     | none=>rfl
     | some o=>rw[xa _ _ z] at tI;injection tI
   . show (if jn=dj then some v2 else if jn=jn then some v1 else none)=_;rw[if_neg (by decide),if_pos rfl]
   . show (if dj=dj then some v2 else _)=_;exact(if_pos rfl)
end
variable {d:Nat}
variable {en:Bool}{I:Items}{names:List (Str×NameKind)}{scope:Scope}{it:Value}
section
variable {ex:Expr}
theorem ItPost.back(S:Step b7 β σ s ah aa ai)(h:ItPost Z A en I ah aa ai ae it al):ItPost Z A en I β σ s ae it al:=by obtain⟨aO,T,e,e1,e2,S',I',hf,r1,r2,r3⟩:=h;exact⟨aO,T,e,e1,e2,S.trans S',I',λa ha=>⟨S.alive a (hf a ha).1,(hf a ha).2⟩,r1,r2,r3⟩
theorem M4(D:Wd Z P gn G cf d)(he:PE Z P gn G cf d e):Mk Z P gn G cf d (.seq e):=λks sc ex env ρ A β σ s I aa hm hA hh F Iv e'=>by refine kk λK k=>?_;rw[LU] at e';obtain⟨x,ae,h1,h2⟩:=Res.bind_ok e';obtain⟨⟨l,lk⟩,ho,rfl,rfl⟩:=iC h2;refine k ?_;refine Qs ((he ks sc ex env ρ A β σ s hm hA F Iv).1 x aa h1) (λv ai ⟨ah,aC,ao,rv⟩=>?_) λ_ _ x=>x;exact Qs (wK hh ao rv ho) (λit al h=>h.back aC) λ_ _ x=>x
theorem HB(D:Wd Z P gn G cf d)(he:PE Z P gn G cf d e):Mk Z P gn G cf d (.range e):=λks sc ex env ρ A β σ s I aa hm hA hh F Iv e'=>by
 replace hm:=aq hm;obtain⟨⟨x,args⟩,h0,hm⟩:=hm;obtain⟨p,pos,rfl⟩:=eW h0;replace hm:=aq hm;obtain⟨a,h00,hm⟩:=hm;replace h00:=de h00;subst h00
 . simp only[Qw,decide_eq_true_eq] at hm;obtain⟨⟨⟨rfl,hg⟩,hs⟩,hm⟩:=hm;rw[FW] at e';obtain⟨x,ae,h1,h2⟩:=Res.bind_ok e';obtain⟨b,hx,hb,rfl,rfl⟩:=BX h2;subst hx
   . skip
     . skip
       have trees:backTo pos (starEach [a] env)=[(false,eval a env)]:=by rw[a6 _ hs];rfl
       refine PyProof.Rows.Call_Name trees (eU D F Iv hg D.b.range.1 D.b.range.2 ?_);refine RR rfl (evalArgs_plain (spliced_cons (Qs ((he ks sc a env ρ A β σ s hm hA F Iv).1 _ _ h1) (λv ai ⟨ah,aC,ao,rv⟩=>spliced_nil ?_) λ_ _ x=>x)));cases rv with
       | int _ t=>refine call_range_1 ?_;have cb:Step b7 ah aa ai ah aa { ai with heap:=ai.heap.push { cls:=.type "range",data:=.fields #[.int 0 ai.toks,.int b t,.int 1 (ai.toks+1)] },toks:=ai.toks+1+1 }:=Step.grow (aS _) rfl rfl;exact Qs (nA (a:=0) hh (by lia) hb (ao.grow (aS (h:=ai.heap) { cls:=.type "range",data:=.fields #[.int 0 ai.toks,.int b t,.int 1 (ai.toks+1)] })) (IsRange.new ..)) (λit al h=>h.back (aC.trans cb)) λ_ _ x=>x
theorem En(D:Wd Z P gn G cf d){zw kP:E}(a5:PE Z P gn G cf d zw)(fK:PE Z P gn G cf d kP):Mk Z P gn G cf d (.range2 zw kP):=λks sc ex env ρ A β σ s I aa hm hA hh F Iv e'=>by
 replace hm:=aq hm;obtain⟨⟨x,args⟩,h0,hm⟩:=hm;apply GP (eW h0);intro p pos;replace hm:=aq hm;obtain⟨⟨a,b⟩,h00,hm⟩:=hm;replace h00:=iM h00;subst h00
 . simp only[Qw,decide_eq_true_eq] at hm;obtain⟨⟨⟨⟨⟨rfl,hg⟩,hs⟩,hm⟩,hs'⟩,hm'⟩:=hm;rw[CA] at e';obtain⟨x,ae,q1,q2⟩:=Res.bind_ok e';obtain⟨y,az,q2,q3⟩:=Res.bind_ok q2;obtain⟨m,n,hx,hy,hb,rfl,rfl⟩:=yH q3;subst hx;subst hy
   . skip
     . skip
       have trees:backTo pos (starEach [a,b] env)=[(false,eval a env),(false,eval b env)]:=by rw[a6 _ hs,a6 _ hs'];rfl
       refine PyProof.Rows.Call_Name trees (eU D F Iv hg D.b.range.1 D.b.range.2 ?_);refine RR rfl (evalArgs_plain (spliced_cons (Qs ((a5 ks sc a env ρ A β σ s hm hA F Iv).1 _ _ q1) (λv ai ⟨ah,aC,ao,rv⟩=>spliced_cons (Qs ((fK ks sc b env ρ A ah ae ai hm' hA (F.step aC) ao).1 _ _ q2) (λu al ⟨aO,cb,cc,ru⟩=>spliced_nil ?_) λ_ _ x=>x)) λ_ _ x=>x)));cases rv with
       | int _ t=>
         cases ru with
         | int _ u=>refine call_range_2 ?_;have rW:Step b7 aO aa al aO aa { al with heap:=al.heap.push { cls:=.type "range",data:=.fields #[.int m t,.int n u,.int 1 al.toks] },toks:=al.toks+1 }:=Step.grow (aS _) rfl rfl;exact Qs (nA hh hb.1 hb.2 (cc.grow (aS (h:=al.heap) { cls:=.type "range",data:=.fields #[.int m t,.int n u,.int 1 al.toks] })) (IsRange.new ..)) (λit aR h=>h.back ((aC.trans cb).trans rW)) λ_ _ x=>x
theorem K0(D:Wd Z P gn G cf d)(he:PE Z P gn G cf d e):Mk Z P gn G cf d (.enum e):=λks sc ex env ρ A β σ s I aa hm hA hh F Iv e'=>by
 replace hm:=aq hm;obtain⟨⟨x,args⟩,h0,hm⟩:=hm;obtain⟨p,pos,rfl⟩:=eW h0;replace hm:=aq hm;obtain⟨a,h00,hm⟩:=hm;replace h00:=de h00;subst h00;simp only[Qw,decide_eq_true_eq] at hm;obtain⟨⟨⟨rfl,hg⟩,hs⟩,hm⟩:=hm;rw[IG] at e';obtain⟨x,ae,h1,h2⟩:=Res.bind_ok e';rcases dZ (ie x) (λl=>(.ok ⟨ju l,[],none⟩ ae:Res Items)) .bad with ⟨l,hl,q⟩ | q
 . rw[q] at h2;(injection h2 with e0_ f0_;subst e0_;subst f0_);have trees:backTo pos (starEach [a] env)=[(false,eval a env)]:=by rw[a6 _ hs];rfl
   refine PyProof.Rows.Call_Name trees (eU D F Iv hg D.b.enum.1 D.b.enum.2 ?_);refine RR rfl (evalArgs_plain (spliced_cons (Qs ((he ks sc a env ρ A β σ s hm hA F Iv).1 _ _ h1) (λv ai ⟨ah,aC,ao,rv⟩=>spliced_nil ?_) λ_ _ x=>x)));have hx:=dP hl;subst hx;exact Qs (zB hh ao rv) (λx al h=>Qs h (λit aR h=>h.back aC) λ_ _ x=>x) λ_ _ x=>x
 . rw[q] at h2;injection h2
set_option tactic.hygienic true in
theorem zH:∀ {acc:List (Str×Addr)},(∀ x∈names,x.2=.free->∃ c,env.cells.lookup x.1=some c)->(∀ x c,acc.lookup x=some c->env.cells.lookup x=some c)->
   ∃ cl,A4 ((forIn names acc λ(x:Str×NameKind) (cs:List (Str×Addr))=>(if (x.2==.free)=true then do let c <- cellOf env x.1;pure (ForInStep.yield ((x.1,c)::cs)) else pure (ForInStep.yield cs):Sem (ForInStep (List (Str×Addr)))))=(pure cl:Sem (List (Str×Addr)))) ((∀ x c,cl.lookup x=some c->env.cells.lookup x=some c)) ((∀ x,(x,NameKind.free)∈names\/(acc.lookup x).isSome=true->(cl.lookup x).isSome=true)) ((∀ x,(cl.lookup x).isSome=true->(x,NameKind.free)∈names\/(acc.lookup x).isSome=true)):=by
 induction names with
 | nil=>intro acc _ ha;exact⟨acc,rfl,ha,λx h=>h.elim (λq=>by cases q) id,λx h=>.inr h⟩
 | cons n ns ih=>
   intro acc hn ha;obtain⟨n,k⟩:=n;by_cases hk:k=.free
   . subst hk;obtain⟨c,hc⟩:=hn (n,.free) (Qh ..) rfl;have hc:env.cells.lookup n=some c:=hc;obtain⟨cl,h1,h2,h3,h4⟩:=ih (acc:=(n,c)::acc) (λx hx=>hn x (Qj _ hx)) (λx c' h=>by
       rw[QD] at h;split at h
       . rename_i hxn;have:=eq_of_beq hxn;subst this;(injection h with e0_;subst e0_);exact hc
       . exact ha x c' h)
     refine⟨cl,?_,h2,λx h=>h3 x ?_,λx h=>?_⟩
     . rw[List.forIn_cons];have:cellOf env n=pure c:=by unfold cellOf;rw[hc]
       simp only[this];exact h1
     . rcases h with h | h
       . rcases Qq.mp h with h | h
         . cases h;right;simp[QD]
         . exact .inl h
       . right;rw[QD];split
         . rfl
         . exact h
     . rcases h4 x h with h | h
       . exact .inl (Qj _ h)
       . rw[QD] at h;split at h
         . rename_i hxn;have:=eq_of_beq hxn;subst this;exact .inl (Qh ..)
         . exact .inr h
   . obtain⟨cl,h1,h2,h3,h4⟩:=ih (acc:=acc) (λx hx=>hn x (Qj _ hx)) ha;refine⟨cl,?_,h2,λx h=>h3 x ?_,λx h=>?_⟩
     . rw[List.forIn_cons];have:(k==NameKind.free)=false:=by simpa using hk
       simp only[this,SV,if_false];exact h1
     . rcases h with h | h
       . rcases Qq.mp h with h | h
         . (injection h with e0_ f0_;subst e0_;subst f0_);exact absurd rfl hk
         . exact .inl h
       . exact .inr h
     . exact(h4 x h).imp (Qj _) id
theorem sF(hn:∀ x∈scope.names,x.2=.free->∃ c,env.cells.lookup x.1=some c) :
   ∃ cl,A4 (closureFor scope env=pure cl) ((∀ x c,cl.lookup x=some c->env.cells.lookup x=some c)) ((∀ x,(x,NameKind.free)∈scope.names->(cl.lookup x).isSome=true)) ((∀ x,(cl.lookup x).isSome=true->(x,NameKind.free)∈scope.names)):=by
 obtain⟨cl,h1,h2,h3,h4⟩:=zH (acc:=[]) hn (λx c h=>by injection h);refine⟨cl,?_,h2,λx h=>h3 x (.inl h),λx h=>(h4 x h).elim id λq=>by injection q⟩;have e:closureFor scope env=((forIn scope.names ([]:List (Str×Addr)) λ(x:Str×NameKind) (cs:List (Str×Addr))=>(if (x.2==.free)=true then do let c <- cellOf env x.1;pure (ForInStep.yield ((x.1,c)::cs)) else pure (ForInStep.yield cs):Sem (ForInStep (List (Str×Addr))))) >>= λcs=>pure cs):=rfl;rw[e,h1];rfl
end
variable {tx:Expr}{l is:List Nat}{dd:PyData}{t:Tgt}{Q:Unit->Shared->Prop}
theorem nQ(h:jO sc (i::l) xs=true):X3 λx p ys=>A3 (xs=.Name x p::ys) (sc.lookup x=some i) (jO sc l ys=true):=by replace h:=aq h;obtain⟨⟨y,ys⟩,h0,h⟩:=h;replace h:=aq h;obtain⟨x,h1,h⟩:=h;obtain⟨p,h1⟩:=bP h1;simp only[Qw,decide_eq_true_eq] at h;exact⟨x,p,ys,by rw[mG h0];exact congrArg (·::ys) h1,h.1,h.2⟩
theorem lC:∀ {l:List Nat} {xs:List Expr},jO sc l xs=true->(assignEach xs env).length=l.length/\(assignEach xs env).findIdx? (·.1)=none
 | [],xs,h=>by have h:=fF h;subst h;exact⟨rfl,rfl⟩
 | i::l,xs,h=>by replace h:=nQ h;obtain⟨x,p,ys,rfl,_,h⟩:=h;have ih:=lC h;have e:assignEach (.Name x p::ys) env=(false,assign (.Name x p) env)::assignEach ys env:=rfl;rw[e];exact⟨by rw[QF,QF,ih.1],by rw[List.findIdx?_cons,ih.2];rfl⟩
def Bz(env:Env)(xs:List Expr)(h h':Heap):Prop:=(∀ x∈xs.filterMap fm,env.kindOf x=some .local)->∀ b o,b≠env.locals->h.get? b=some o->h'.get? b=some o
theorem nk{E:Value->Shared->Prop}:∀ {xs:List Expr} {vs:List Value} {ds:List PyData} {ρ:Fm} {s:Shared},jO sc l xs=true->l.length=ds.length->RelAll (TT β σ) s.heap vs ds->FrameOk Z env ks sc ρ β σ s.heap->Inv Z β σ s.heap->
   (∀ s',FrameOk Z env ks sc (b8 l ds ρ) β σ s'.heap->Step (own env) β σ s β σ s'->Inv Z β σ s'.heap->Bz env xs s.heap s'.heap->Q () s')->wpAny (model Z.prog Z.w) A (assignInOrder ((assignEach xs env).map (·.2)) vs) Q E s:=by
 induction l with
 | nil=>
   intro xs vs ds ρ s h hl r F I q;cases ds with
   | nil=>have h:=fF h;subst h;exact Ql (q s F Step.refl I λ_ _ _ _ e=>e)
   | cons _ _=>injection hl
 | cons i l ih_=>
   intro xs vs ds ρ s h hl r F I q;cases ds with
   | nil=>injection hl
   | cons d ds=>
     replace h:=nQ h;obtain⟨x,p,ys,rfl,hx,h⟩:=h;obtain⟨v,vs',rfl,z,rs⟩:=r.inv;clear r;refine(?_:wpAny _ _ (holding vs' (assign (.Name x p) env v) >>= λ_=>assignInOrder ((assignEach ys env).map (·.2)) vs') _ _ _);refine Pe (Rs (wpAny_assign_Name (F.store I hx (v:=.d d) z λs' F' S' I' keep kl=>?_)));refine ih_ h (Nat.succ.inj hl) ?_ F' I' λs'' F'' S'' I'' k''=>q s'' F'' (S'.trans S'') I'' λhloc b o hb e=>k'' (λy hy=>hloc y ?_) b o hb ((kl (hloc x ?_)).1 b o hb e)
     . exact S'.relAll F.notSeq rs
     . exact Qj _ hy
     . exact Qh ..
theorem rU{E:Value->Shared->Prop}{w:Value}(hh:A.handled=none)(h1:jO sc l xs=true)(F:FrameOk Z env ks sc ρ β σ s.heap)(I:Inv Z β σ s.heap)(r:aA β σ s.heap w (.d dd))(hb:fz (.tup l) dd ρ=some ρ')
   (q:∀ s',FrameOk Z env ks sc ρ' β σ s'.heap->Step (own env) β σ s β σ s'->Inv Z β σ s'.heap->Bz env xs s.heap s'.heap->Q () s'):wpAny (model Z.prog Z.w) A (assign (.Tuple xs k p) env w) Q E s:=by
 obtain⟨ds,hd,hb⟩:=uF hb;rw[ui hd] at r;by_cases hl:l.length=ds.length
 . rw[if_pos hl] at hb;(injection hb with e0_;subst e0_);apply (pF r).el;intro a vs n ha _ _ rr;have hn:=lC (env:=env) h1;have hz:=rr.length;simp only[QA] at hz;refine wpAny_assign_Tuple hh ⟨_,ha,rfl,_,rfl⟩ (by rw[hn.1,hz,hl]) hn.2 λh' he=>?_;have hk:∀ b o,s.heap.get? b=some o->h'.get? b=some o:=λb o e=>he b o (Rd (Q8 e)) e;have S2:Step b7 β σ s β σ { s with heap:=h' }:=Step.grow hk rfl rfl;exact nk h1 hl (rr.mono λx o _ _ e _ t=>⟨hk _ _ e,t⟩) (F.step S2) (I.grow hk) λs' F' S' I' k'=>q s' F' (S2.ofNo.trans S') I' λhloc b o hb e=>k' hloc b o hb (hk b o e)
 . rw[if_neg hl] at hb;injection hb
theorem Gl{E:Value->Shared->Prop}{w:Value}(hh:A.handled=none)(h1:nP sc t tx=true)(hloc:∀ x∈ff tx,env.kindOf x=some .local)(F:FrameOk Z env ks sc ρ β σ s.heap)(I:Inv Z β σ s.heap)(r:aA β σ s.heap w (.d dd))(hb:fz t dd ρ=some ρ')
   (q:∀ s',FrameOk Z env ks sc ρ' β σ s'.heap->Step (own env) β σ s β σ s'->Inv Z β σ s'.heap->(∀ b o,b≠env.locals->s.heap.get? b=some o->s'.heap.get? b=some o)->Q () s'):wpAny (model Z.prog Z.w) A (assign tx env w) Q E s:=by
 cases t with
 | var i=>replace h1:=aq h1;obtain⟨x,h0,hx⟩:=h1;obtain⟨p,rfl⟩:=bP h0;(injection hb with e0_;subst e0_);exact wpAny_assign_Name (F.store I (of_decide_eq_true hx) (v:=.d dd) r λs' F' S' I' _ kl=>q s' F' S' I' (kl (hloc x (Qt.mpr rfl))).1)
 | tup l=>replace h1:=aq h1;obtain⟨xs,h0,h1⟩:=h1;obtain⟨k',p,rfl⟩:=kA h0;exact rU hh h1 F I r hb λs' F' S' I' k'=>q s' F' S' I' (k' hloc)
noncomputable def C3(is:List Nat)(ρ:Fm):Fm:=ρ.mapIdx λj v=>if j∈is then .un else v
theorem o9{v:V}(h:(C3 is ρ)[j]?=some v)(hu:v≠.un):j∉is/\ρ[j]?=some v:=by
 unfold C3 at h;rw[T2] at h;obtain⟨w,h1,h2⟩:=QL.mp h;by_cases hj:j∈is
 . rw[if_pos hj] at h2;exact absurd h2.symm hu
 . rw[if_neg hj] at h2;exact⟨hj,by rw[h1,h2]⟩
theorem Bq(h:j∉is):(C3 is ρ)[j]?=ρ[j]?:=by
 unfold C3;rw[T2];cases ρ[j]? with
 | none=>rfl
 | some v=>exact congrArg some (if_neg h)
theorem pY:∀ {l:List Nat} {ds:List PyData} {ρ:Fm} {j:Nat},j∉l->(b8 l ds ρ)[j]?=ρ[j]?
 | [],_,_,_,_=>rfl
 | _::_,[],_,_,_=>rfl
 | i::l,d::ds,ρ,j,h=>by show (b8 l ds (ρ.set i (.d d)))[j]?=_;rw[pY λq=>h (Qj _ q),gp λq=>h (Qq.mpr (.inl q.symm))]
theorem iQ:∀ {l:List Nat} {ds:List PyData} {ρ ρ':Fm},l.length=ds.length->ρ.length=ρ'.length->(∀ j,j∉l->ρ[j]?=ρ'[j]?)->b8 l ds ρ=b8 l ds ρ'
 | [],ds,ρ,ρ',_,_,h=>by rw[(S8 λj=>h j (λq=>by cases q))]
 | _::_,[],_,_,hl,_,_=>by injection hl
 | i::l,d::ds,ρ,ρ',hl,hn,h=>by
   show b8 l ds (ρ.set i (.d d))=b8 l ds (ρ'.set i (.d d));refine iQ (Nat.succ.inj hl) (by rw[SW,SW,hn]) λj hj=>?_;by_cases q:i=j
   . subst q;rw[List.getElem?_set,List.getElem?_set,hn];simp
   . rw[gp q,gp q];exact h j λz=>(Qq.mp z).elim (λz=>q z.symm) hj
theorem Br(is:List Nat)(ρ:Fm):(C3 is ρ).length=ρ.length:=List.length_mapIdx
theorem CR{ρ ρ':Fm}(h:fz t dd ρ=some ρ'):fz t dd (C3 (cR t) ρ)=some ρ'/\∀ j,j∉cR t->ρ'[j]?=ρ[j]?:=by
 cases t with
 | var i=>(injection h with e0_;subst e0_);refine⟨congrArg some ?_,λj hj=>gp λq=>hj (Qt.mpr q.symm)⟩;have:=iQ (l:=[i]) (ds:=[dd]) (ρ:=C3 [i] ρ) (ρ':=ρ) rfl (Br ..) λj hj=>Bq hj;exact this
 | tup l=>
   obtain⟨ds,hd,h⟩:=uF h;by_cases hl:l.length=ds.length
   . rw[if_pos hl] at h;(injection h with e0_;subst e0_);refine⟨?_,λj hj=>pY hj⟩;show oc (Dw dd) _ _=_;rw[hd];show (if l.length=ds.length then some (b8 l ds (C3 l ρ)) else none)=_;rw[if_pos hl,iQ hl (Br ..) λj hj=>Bq hj]
   . rw[if_neg hl] at h;injection h
theorem FrameOk.less(F:FrameOk Z env ks sc ρ β σ h)(hl:∀ (j:Nat) (v:V),ρ'[j]?=some v->v≠.un->ρ[j]?=some v):FrameOk Z env ks sc ρ' β σ h:=by
 refine⟨F.kind,F.globals,F.builtins,F.kinds,F.bound,F.inj,?_,?_,F.apart,F.cinj,F.cloc,F.frs⟩
 . obtain⟨m,N,q⟩:=F.ns;exact⟨m,N,λx j h1 h2 v h3 h4=>q x j h1 h2 v (hl j v h3 h4) h4⟩
 . intro x c e;obtain⟨ov,C,q⟩:=F.cell x c e;exact⟨ov,C,λj h1 h2 v h3 h4=>q j h1 h2 v (hl j v h3 h4) h4⟩
theorem Nl{t:Sem α}{Q:α->Shared->Prop}{E:Value->Shared->Prop}(h:wpAny (model Z.prog Z.w) A t Q (λ_ _=>False) s):wpAny (model Z.prog Z.w) A t Q E s:=Qs h (λ_ _ x=>x) λ_ _ x=>x.elim
structure Lp(Z:Cx)(A:Around)(O:Addr->Prop)(T:Itr)(cz:List Addr)(bB:ac)(c5:Shared)(X:Heap->Prop)(β:List Addr)(σ:ac)(s:Shared):Prop where
 op:Opened Z A T cz bB c5.heap
 st0:Step (λx=>O x\/x∈T.wr) cz bB c5 β σ s
 inv:Inv Z β σ s.heap
 st:X s.heap
 nm:∀ a∈T.wr,a∉β
 n0:∀ a∈T.wr,Z.h₀.get? a=none
 live:∀ a∈T.wr,(∃ o,s.heap.get? a=some o/\¬ fH o)/\¬ bS s.heap a
 stay:∀ b∈T.fp,b∈T.wr\/oQ β σ s.heap b
 seq:b3 cz bB c5.heap β σ s.heap
variable {Y X:Heap->Prop}{T:Itr}{cl:List (Str×Addr)}{sc':List (Str×Nat)}{cz:List Addr}{elts:List Expr}{tk:Nat}{c5:Shared}
theorem Lp.start(op:Opened Z A T cz bB c5.heap)(I:Inv Z cz bB c5.heap)(hn:∀ a∈T.wr,a∉cz)(h0:∀ a∈T.wr,Z.h₀.get? a=none):Lp Z A O T cz bB c5 (T.St 0) cz bB c5:=
 ⟨op,Step.refl,I,op.start,hn,h0,op.noseq _ _ op.start,op.stay,b3.refl⟩
theorem Lp.exAll(L:Lp Z A O T cz bB c5 X β σ s):∀ b∈T.fp,∃ o,s.heap.get? b=some o:=λb hb=>by
 rcases L.stay b hb with h | h
 . obtain⟨o,e,_⟩:=(L.live b h).1;exact⟨o,e⟩
 . exact h.ex L.inv
theorem Lp.step(L:Lp Z A O T cz bB c5 (T.St k) β σ s)(S:Step O β σ s β' σ' s')(I':Inv Z β' σ' s'.heap)(hO:∀ x,O x->x∉β/\¬ bS s.heap x)(hI:∀ a∈T.wr,¬ O a):Lp Z A O T cz bB c5 (T.St k) β' σ' s':=by
 have keepI:∀ a∈T.wr,∀ o,s.heap.get? a=some o->s'.heap.get? a=some o:=λa ha o e=>S.keep a o e (λz=>L.nm a ha z.tt.mem) (hI a ha) (by obtain⟨o',e',q⟩:=(L.live a ha).1;rw[e] at e';(injection e' with e0_;subst e0_);exact q)
 have keep:∀ b∈T.fp,∀ o,s.heap.get? b=some o->s'.heap.get? b=some o:=λb hb o e=>by
   rcases L.stay b hb with h | h
   . exact keepI b h o e
   . exact(h.keep S L.inv I' hO).1 o e
 have st':=L.op.frame k _ _ L.st keep;refine⟨L.op,L.st0.trans (S.weaken λ_=>.inl),I',st',λa ha m=>?_,L.n0,L.op.noseq _ _ st',λb hb=>?_,L.seq.trans (S.relH λx z=>(hO x z).2)⟩
 . obtain⟨e,rfl,f⟩:=S.ext;rcases Qx.mp m with m | m
   . exact L.nm a ha m
   . obtain⟨o,e',_⟩:=(L.live a ha).1;rw[f _ m] at e';injection e'
 . exact(L.stay b hb).imp id λh=>(h.keep S L.inv I' hO).2
theorem Lp.off(L:Lp Z A O T cz bB c5 (T.St k) β σ s)(hf:c5.heap.get? a=none)(ha:a∉T.fp)(I':Inv Z β σ s'.heap)(hn:∀ o vs n,s.heap.get? a=some o->xT o vs n->TT β σ a)(hk:∀ b o,b≠a->s.heap.get? b=some o->s'.heap.get? b=some o)(hg:s'.gens=s.gens)(ho:s'.os=s.os) :
   Lp Z A O T cz bB c5 (T.St k) β σ s':=by
 have st':=L.op.frame k _ s'.heap L.st λb hb o e=>hk b o (λq=>ha (q▸hb)) e;refine⟨L.op,L.st0.tail (W:=(·=a)) (λ_ q=>q▸hf) hk hg ho,I',st',L.nm,L.n0,L.op.noseq _ _ st',λb hb=>?_,L.seq.trans λx o vs n e d t=>⟨hk x o (λq=>t (q▸hn o vs n (q▸e) d)) e,t⟩⟩;refine(L.stay b hb).imp id λh=>h.imp id ?_
 rintro⟨⟨o,vs,n,e,d⟩,t⟩
 exact⟨⟨o,vs,n,hk b o (λq=>ha (q▸hb)) e,d⟩,t⟩
theorem Lp.move(L:Lp Z A O T cz bB c5 X β σ s)(hk:Kp T s.heap h')(st':Y h')(hl:∀ a∈T.wr,(∃ o,h'.get? a=some o/\¬ fH o)/\¬ bS h' a):Lp Z A O T cz bB c5 Y β σ { s with heap:=h',toks:=tk }:=by
 refine⟨L.op,?_,L.inv.touch (W:=(·∈T.wr)) L.nm L.n0 (λa q=>(L.live a q).2) hk,st',L.nm,L.n0,hl,λb hb=>?_,L.seq.trans (λx o vs n e d t=>⟨hk x o (λq=>(L.live x q).2 ⟨o,vs,n,e,d⟩) e,t⟩)⟩
 . refine L.st0.trans ⟨⟨[],by simp,by simp⟩,λk c' _ e=>⟨c',e,id,id,id⟩,JE λx o e _ hx=>hk x o (λq=>hx (.inr q)) e,λx e=>?_,rfl,rfl⟩;by_cases q:x∈T.wr
   . obtain⟨o,ho,_⟩:=(hl x q).1;have e:h'.get? x=none:=e;rw[ho] at e;injection e
   . cases q':s.heap.get? x with
     | none=>rfl
     | some o=>have e:h'.get? x=none:=e;rw[hk x o q q'] at e;injection e
 . by_cases q:b∈T.wr
   . exact .inl q
   . refine(L.stay b hb).imp id λh=>h.imp id ?_
     rintro⟨⟨o,vs,n,e,d⟩,t⟩
     exact⟨⟨o,vs,n,hk b o q e,d⟩,t⟩
theorem Lp.next(L:Lp Z A O T cz bB c5 (T.St k) β σ s){E:Value->Shared->Prop}{Q:Option Value->Shared->Prop}(hk:k < T.shown.length)
   (h:∀ v d s',Lp Z A O T cz bB c5 (T.Mid k v) β σ s'->T.shown[k]?=some d->Rel (TT β σ) s'.heap v d->Kp T s.heap s'.heap->Q (some v) s'):wpAny (model Z.prog Z.w) A (pyNext (.ref T.Ia)) Q E s:=by
 refine L.op.item k s Q E hk L.st λv h' tk hp md keep=>?_;have L':=L.move (tk:=tk) keep md (L.op.noseqM _ _ _ md);obtain⟨d,h1,h2⟩:=L.op.items k v _ h' hk hp β σ L.inv L'.seq;exact h v d _ L' h1 h2 keep
theorem Lp.skip(L:Lp Z A O T cz bB c5 (T.Mid k v) β σ s)(he:T.en=false):Lp Z A O T cz bB c5 (T.St (k+1)) β σ s:=
 ⟨L.op,L.st0,L.inv,L.op.skip he _ _ _ L.st,L.nm,L.n0,L.live,L.stay,L.seq⟩
theorem Lp.go(L:Lp Z A O T cz bB c5 (T.Mid k v) β σ s){E:Value->Shared->Prop} 
   (h:∀ s',Lp Z A O T cz bB c5 (T.St (k+1)) β σ s'->Kp T s.heap s'.heap->Q () s'):wpAny (model Z.prog Z.w) A (letOwnedTupleGo (.Tuple elts n pos) (.ref T.Ia) v) Q E s:=
 L.op.go elts n pos k v s Q E L.st λh' st' keep=>h _ (L.move (tk:=s.toks) keep st' (L.op.noseq _ _ st')) keep
theorem Lp.goT(L:Lp Z A O T cz bB c5 (T.Mid k v) β σ s){E:Value->Shared->Prop}(pt:nP sc t tx=true)(he:y6 t=true\/T.en=false)
   (h:∀ s',Lp Z A O T cz bB c5 (T.St (k+1)) β σ s'->Kp T s.heap s'.heap->Q () s'):wpAny (model Z.prog Z.w) A (letOwnedTupleGo tx (.ref T.Ia) v) Q E s:=by
 cases t with
 | var i=>replace pt:=aq pt;obtain⟨x,h0,hx⟩:=pt;apply iG (bP h0);intro p;exact Ql (h s (L.skip (he.resolve_left QB)) λ_ _ _ e=>e)
 | tup l=>replace pt:=aq pt;obtain⟨xs,h0,h1⟩:=pt;apply GP (kA h0);intro k' p;exact L.go h
theorem Lp.done(L:Lp Z A O T cz bB c5 (T.St k) β σ s){E:Value->Shared->Prop}{Q:Option Value->Shared->Prop}(hk:k=T.shown.length)
   (h:∀ s',Kp T s.heap s'.heap->s'.gens=s.gens->s'.os=s.os->Q none s'):wpAny (model Z.prog Z.w) A (pyNext (.ref T.Ia)) Q E s:=by
 subst hk;exact L.op.done s Q E L.st λh' tk keep=>h _ keep rfl rfl
set_option tactic.hygienic true in
theorem qz{k:NameKind}(h:names.lookup x=some k) :
   (names.map λ(n,k)=>if (k==NameKind.free&&env.scope.kind==.function&&env.kindOf n==some .cell) then (n,NameKind.cell) else (n,k)).lookup x=some (if (k==NameKind.free&&env.scope.kind==.function&&env.kindOf x==some .cell) then .cell else k):=by
 induction names with
 | nil=>injection h
 | cons a r ih=>
   obtain⟨n,k'⟩:=a;rw[QD] at h;refine(?_:List.lookup x ((if (k'==NameKind.free&&env.scope.kind==.function&&env.kindOf n==some .cell)=true then (n,NameKind.cell) else (n,k'))::_)=_);cases hx:x==n with
   | true=>
     rw[hx] at h;(injection h with e0_;subst e0_);have:=eq_of_beq hx;subst this;split
     . rename_i hc;simp[QD]
     . rename_i hc;simp[QD]
   | false=>
     rw[hx] at h;split
     . rw[QD,hx];exact ih h
     . rw[QD,hx];exact ih h
set_option tactic.hygienic true in
theorem mj{names:List (Str×NameKind)}{x:Str}{i:Nat}:∀ {l:List (Str×NameKind)},(∀ y∈l,y.2=.free)->(l.filterMap λx=>(sc.lookup x.1).map λi=>(x.1,i)).lookup x=some i->(x,NameKind.free)∈l/\sc.lookup x=some i
 | []=>@λ_ h=>by injection h
 | (n,k)::l=>@λhl h=>by
   have hk:k=.free:=hl (n,k) (Qh ..);subst hk;have ih:=mj (names:=names) (x:=x) (i:=i) (l:=l) λy hy=>hl y (Qj _ hy);rw[R4] at h;cases hs:sc.lookup n with
   | none=>simp only[hs,Option.map_none] at h;exact⟨Qj _ (ih h).1,(ih h).2⟩
   | some j=>
     simp only[hs,Option.map_some] at h;rw[QD] at h;split at h
     . rename_i hx;have:=eq_of_beq hx;subst this;(injection h with e0_;subst e0_);exact⟨Qh ..,hs⟩
     . exact⟨Qj _ (ih h).1,(ih h).2⟩
set_option tactic.hygienic true in
theorem kr:∀ {l:List (Str×Nat)},(l.map (·.2)).Nodup->∀ {x y:Str} {i:Nat},l.lookup x=some i->l.lookup y=some i->x=y
 | []=>@λ_ _ _ _ h _=>by injection h
 | (n,j)::l=>@λhn x y i hx hy=>by
   rw[Q6,RB] at hn;have mem:∀ {z:Str},l.lookup z=some i->i∈l.map (·.2):=λ{z} h=>by
     have:∃ p∈l,p.2=i:=by
       clear hn hx hy
       induction l with
       | nil=>injection h
       | cons a l ih=>
         rw[QD] at h;split at h
         . (injection h with e0_;subst e0_);exact⟨a,Qh ..,rfl⟩
         . obtain⟨p,h1,h2⟩:=ih h;exact⟨p,Qj _ h1,h2⟩
     obtain⟨p,h1,h2⟩:=this;exact QV.mpr ⟨p,h1,h2⟩
   rw[QD] at hx hy;split at hx
   . rename_i h1;(injection hx with e0_;subst e0_);split at hy
     . rename_i h2;rw[eq_of_beq h1,eq_of_beq h2]
     . exact absurd (mem hy) hn.1
   . split at hy
     . (injection hy with e0_;subst e0_);exact absurd (mem hx) hn.1
     . exact kr hn.2 hx hy
set_option tactic.hygienic true in
theorem nU:∀ {l:List (Str×Nat)} {x:Str} {i:Nat},l.lookup x=some i->(x,i)∈l
 | (y,j)::l,x,i,h=>by
   rw[QD] at h;split at h
   . rename_i q;(injection h with e0_;subst e0_);rw[eq_of_beq q];exact Qh ..
   . exact Qj _ (nU h)
def vN(scope:Scope):Prop:=∀ y∈scope.names,y.2=.local->scope.names.lookup y.1=some .local
def sM(ks:List (Str×NameKind))(sc:List (Str×Nat))(scope:Scope):Prop:=∀ y,(y,NameKind.free)∈scope.names->scope.names.lookup y=some .free/\(ks.lookup y=some .cell\/ks.lookup y=some .free)/\(sc.lookup y).isSome=true/\bV y=true
def vO(sc:List (Str×Nat))(scope:Scope)(xs:List Str)(is:List Nat)(sc':List (Str×Nat)):Prop:=∀ x i,sc'.lookup x=some i->(x∈xs/\i∈is)\/((x,NameKind.free)∈scope.names/\sc.lookup x=some i/\i∉is)
structure CompNames(ks:List (Str×NameKind))(sc:List (Str×Nat))(scope:Scope)(xs:List Str)(is:List Nat)(sc':List (Str×Nat)):Prop where
 kind:scope.kind=.function
 loc:vN scope
 free:sM ks sc scope
 nocell:∀ y∈scope.names,y.2≠.cell
 x0:∀ x∈xs,scope.names.lookup x=some .local/\bV x=true
 inj:(sc'.map (·.2)).Nodup
 at1:vO sc scope xs is sc'
set_option tactic.hygienic true in
theorem qA:∀ {l l':List (Str×Nat)} {x:Str} {i:Nat},(l++l').lookup x=some i->(x,i)∈l\/l'.lookup x=some i
 | [],_,_,_,h=>.inr h
 | (y,j)::l,l',x,i,h=>by
   rw[List.cons_append,QD] at h;split at h
   . rename_i q;(injection h with e0_;subst e0_);exact(eq_of_beq q)▸.inl (Qh ..)
   . exact(qA h).imp (Qj _) id
theorem CI(h:F3 ks sc scope t tx=true):CompNames ks sc scope (ff tx) (cR t) (di sc scope.names t tx):=by
 obtain⟨hk,hn,hx,hi,hl⟩:=N7 h;replace hk:=of_decide_eq_true hk;replace hi:=of_decide_eq_true hi;replace hl:=of_decide_eq_true hl;have hn':=Rf.mp hn;have hfr:∀ y,(y,NameKind.free)∈scope.names->scope.names.lookup y=some .free/\(ks.lookup y=some .cell\/ks.lookup y=some .free)/\(sc.lookup y).isSome=true/\bV y=true:=λy hy=>by obtain⟨q1,q2,q3,q4⟩:=IX (show (decide (scope.names.lookup y=some .free)&&decide (ks.lookup y=some .cell\/ks.lookup y=some .free)&&(sc.lookup y).isSome&&bV y)=true from hn' _ hy);exact⟨of_decide_eq_true q1,of_decide_eq_true q2,q3,q4⟩
 refine⟨hk,λy hy hl=>?_,hfr,λy hy hc=>?_,λx hx'=>?_,hi,λx i hx=>?_⟩
 . have:=hn' y hy;rw[hl] at this;simpa using this
 . have:=hn' y hy;rw[hc] at this;injection this
 . have:=Rf.mp hx x hx';simpa only[Qw,decide_eq_true_eq] using this
 . rcases qA hx with q | q
   . exact .inl ⟨(TN q).1,(TN q).2⟩
   . obtain⟨h2,h3⟩:=mj (names:=scope.names) (λy hy=>by have:=(Q1.mp hy).2;simpa using this) q;refine .inr ⟨(Q1.mp h2).1,h3,λz=>?_⟩;unfold di at hi;rw[Qv,List.map_snd_zip (Q4 hl.symm)] at hi;exact(R3.mp hi).2.2 i z i (QV.mpr ⟨(x,i),nU q,rfl⟩) rfl
set_option tactic.hygienic true in
theorem CJ{xs:List Str}(N:CompNames ks sc scope xs is sc')(F:FrameOk Z env ks sc ρ β σ h)
   (h2:∀ x c,cl.lookup x=some c->env.cells.lookup x=some c) (h3:∀ x,(x,NameKind.free)∈scope.names->(cl.lookup x).isSome=true) (h4:∀ x,(cl.lookup x).isSome=true->(x,NameKind.free)∈scope.names)
   (hC:h.get? C=none) (hCb:C∉β') (hC0:Z.h₀.get? C=none) (hn:h'.Ns C λ_=>none) (hk:∀ b o,h.get? b=some o->h'.get? b=some o) (hv:∀ w v,aA β σ h w v->aA β' σ' h' w v) (hβ:∀ a o,h.get? a=some o->a∉β->a∉β') :
   FrameOk Z (compEnvC scope cl C env) scope.names sc' (C3 is ρ) β' σ' h':=by
 have kd:∀ x k,scope.names.lookup x=some k->(compEnvC scope cl C env).kindOf x=some (if (k==NameKind.free&&env.scope.kind==.function&&env.kindOf x==some .cell) then .cell else k):=λx k hx=>qz hx;have kl:∀ x∈xs,(compEnvC scope cl C env).kindOf x=some .local:=λx hx=>by rw[kd x .local (N.x0 x hx).1];rfl
 have kf:∀ x,(x,NameKind.free)∈scope.names->(compEnvC scope cl C env).kindOf x=some .cell\/(compEnvC scope cl C env).kindOf x=some .free:=λx hx=>by
   rw[kd x .free (N.free x hx).1];split
   . exact .inl rfl
   . exact .inr rfl
 refine⟨N.kind,F.globals,F.builtins,λx k hx=>?_,λx i hx=>?_,λx y i hx hy=>kr N.inj hx hy,⟨_,hn,λx i hx hl v hv' hu=>?_⟩,λx c hc=>?_,λa ha=>?_,λx y c hx hy=>F.cinj x y c (h2 x c hx) (h2 y c hy),λx hx=>?_,λf hf=>?_⟩
 . rw[kd x k hx];split
   . rename_i hc;simp only[Qw] at hc;exact .inr ⟨eq_of_beq hc.1.1,rfl⟩
   . exact .inl rfl
 . rcases N.at1 x i hx with ⟨h1,_⟩ | ⟨hf,hs,_⟩
   . exact⟨.inl (kl x h1),(cI (N.x0 x h1).2).2⟩
   . obtain⟨c,hc⟩:=QZ.mp (h3 x hf);exact⟨.inr ⟨kf x hf,c,hc⟩,(cI (N.free x hf).2.2.2).2⟩
 . exfalso;rcases N.at1 x i hx with ⟨_,h2⟩ | ⟨hf,_,_⟩
   . exact(o9 hv' hu).1 h2
   . rcases kf x hf with q | q <;> rw[hl] at q <;> (injection q with e0_;injection e0_)
 . obtain⟨ov,⟨o,ho,hd⟩,q⟩:=F.cell x c (h2 x c hc);refine⟨ov,⟨o,hk c o ho,hd⟩,λi hx hk' v hv' hu=>?_⟩;have hf:=h4 x (by have hc:List.lookup x cl=some c:=hc;rw[hc];rfl);rcases N.at1 x i hx with ⟨h1,_⟩ | ⟨_,hs,hne⟩
   . have:=(N.free x hf).1;rw[(N.x0 x h1).1] at this;(injection this with e0_;injection e0_)
   . replace hv':=(o9 hv' hu).2;have hkx:env.kindOf x=some .cell\/env.kindOf x=some .free:=by
       rcases (N.free x hf).2.1 with q | q
       . exact(F.kinds x _ q).elim .inl λz=>by cases z.1
       . exact(F.kinds x _ q).elim .inr λz=>.inl z.2
     obtain⟨w,g1,g2⟩:=q i hs hkx v hv' hu;exact⟨w,g1,hv _ _ g2⟩
 . rcases ha with rfl | ⟨x,hx⟩
   . exact⟨hCb,hC0⟩
   . have hown:own env a:=.inr ⟨x,h2 x a hx⟩;obtain⟨o,ho,_⟩:=F.ownSome hown;exact⟨hβ a o ho (F.apart a hown).1,(F.apart a hown).2⟩
 . obtain⟨o,ho,_⟩:=F.ownSome (.inr ⟨x,h2 x C hx⟩);rw[hC] at ho;injection ho
 . refine kk λK k=>?_;obtain⟨⟨o,e,q⟩,nb,n0⟩:=F.frs f hf;refine k ?_;exact⟨⟨o,hk f o e,q⟩,hβ f o e nb,n0⟩
noncomputable def xV(G:Nat->Option PyData)(cf:Nat->List V->ac->Res V)(t:Tgt)(c:EO)(e:E)(ρ:Fm):PyData->ac->Res (Option PyData):=λx σ'=>match fz t x ρ with
 | none=>.bad
 | some ρ'=>(dg G cf c ρ' σ').bind λcv ae=>match cv with
   | none=>(ag G cf e ρ' ae).bind λy az=>bj ((bK y).map some) az
   | some cv=>(bj (truthy ae cv) ae).bind λb ae=>if b then (ag G cf e ρ' ae).bind λy az=>bj ((bK y).map some) az else .ok none ae
theorem zA(G:Nat->Option PyData)(cf:Nat->List V->ac->Res V)(m:Bool)(t:Tgt)(it:It)(c:EO)(e:E)(ρ:Fm)(σ:ac):ag G cf (.comp m t it c e) ρ σ=(cj G cf it ρ σ).bind λI aa=>(gM (xV G cf t c e ρ) I.shown (cM I.lk aa++[.busy])).bind λr ae=>aM m r ((bn I.lk I.base ae).take aa.length):=rfl
noncomputable def JF(G:Nat->Option PyData)(cf:Nat->List V->ac->Res V)(c:EO)(e:E)(ρ':Fm)(σ':ac):Res (Option PyData):=(dg G cf c ρ' σ').bind λcv ae=>match cv with
   | none=>(ag G cf e ρ' ae).bind λy az=>bj ((bK y).map some) az
   | some cv=>(bj (truthy ae cv) ae).bind λb ae=>if b then (ag G cf e ρ' ae).bind λy az=>bj ((bK y).map some) az else .ok none ae
variable {c:EO}{o:Option PyData}
theorem F4{x:PyData}(h:xV G cf t c e ρ x σ=.ok o σ'):∃ ρ',fz t x ρ=some ρ'/\JF G cf c e ρ' σ=.ok o σ':=by
 unfold xV at h;cases hb:fz t x ρ with
 | none=>rw[hb] at h;injection h
 | some ρ'=>rw[hb] at h;exact⟨ρ',rfl,h⟩
inductive CompDone(Z:Cx)(β:List Addr)(σ:ac)(s:Shared)(v:V)(σ':ac)(acc:Value)(C:Addr)(s':Shared):Prop where
 | mk (β':List Addr) (mm:Str->Option Value) (h1:Step b7 β σ s β' σ' s') (h2:Inv Z β' σ' s'.heap) (h3:aA β' σ' s'.heap acc v) (h4:s'.heap.Ns C mm) (h5:s.heap.get? C=none) (h6:C∉β'):CompDone Z β σ s v σ' acc C s'
variable {l r:List PyData}{f:PyData->ac->Res (Option PyData)}
theorem zE{d:PyData}(hd:l[k]?=some d)(h:gM f (l.drop k) σ=.ok r σ') :
   X3 λo aa wx=>A3 (f d σ=.ok o aa) (gM f (l.drop (k+1)) aa=.ok wx σ') (r=o.toList++wx):=by
 have hd':=(Qi.mp hd).2;rw[Rv ((Qi.mp hd).1),hd'] at h;replace h:((f d σ).bind λo aa=>(gM f (l.drop (k+1)) aa).bind λr ae=>.ok (o.toList++r) ae)=.ok r σ':=h;refine kk λK k=>?_;obtain⟨o,aa,h1,h2⟩:=Res.bind_ok h;obtain⟨wx,ae,h2,h3⟩:=Res.bind_ok h2;cases (h3);refine k ?_;exact⟨o,aa,wx,h1,h2,rfl⟩
variable {Dd:Addr}{ce:Env}{elt iter:Expr}{ρt:Fm}{βk βc:List Addr}{ifs:List Expr}{nb mm:Nat}{sb nv sz:Shared}{σL σk σb σc:ac}{mC:Str->Option Value}{v:V}{Q:Value->Shared->Prop}
theorem lX{m:Str->Option Value}(hn:h.Ns a m):¬ bS h a:=λ⟨o,vs,n,e,d⟩=>by obtain⟨o',es,ep,e',hd,_⟩:=hn;rw[e] at e';(injection e' with e0_;subst e0_);rcases d with d | ⟨_,_,d | d⟩ <;> rw[hd] at d <;> injection d
theorem ye{x:Value}{E:Value->Shared->Prop}(e:s.heap.get? a=some (dq vs n))(hz:vs.size<=sizeLine)
   (q:∀ h' m,h'.get? a=some (dq (vs.push x) m)->(∀ b o,b≠a->s.heap.get? b=some o->h'.get? b=some o)->Q .none { s with heap:=h' }):wpAny (model Z.prog Z.w) A (call (.builtin "list.append") [.ref a,x]) Q E s:=by
 refine call_meets F.slot_list_append ⟨_,e,rfl⟩ F.entry_list_append (F.args_list_append_2 _ _) (list_append a vs n x hz) ⟨e,?_⟩;obtain⟨⟨m',e'⟩,hk⟩:=jB (f:=λx_1=>x_1.push x) e;exact q _ m' e' hk
theorem Step.takeN(a:Step O β σ s ah aa ai)(hn:β.length<=n):Step O β σ s (ah.take n) (aa.take n) ai:=by obtain⟨e,rfl,f⟩:=a.ext;refine⟨⟨e.take (n - β.length),by rw[List.take_append,R6 hn],λx hx=>f x (QO hx)⟩,λk c' hk hc=>a.mono k c' hk ?_,a.keepW,a.alive,a.gens,a.os⟩;rw[RF,if_pos (by lia)] at hc;exact hc
theorem Ag(h:k < n):n+1 - (k+1) < n+1 - k:=Nat.sub_lt_sub_left (Nat.lt_succ_of_lt h) (Sq k)
inductive CompPk(Z:Cx)(A:Around)(T:Itr)(ah:List Addr)(σL:ac)(al:Shared)(env:Env)(ks:List (Str×NameKind))(sc:List (Str×Nat))(n:Nat)(Dd:Addr)(k kk:Nat)(done:List PyData)(βk:List Addr)(σk:ac)(s':Shared)(ρ':Fm):Prop where
 | mk (L:Lp Z A b7 T ah σL al (T.St k) βk σk s') (Fr:FrameOk Z env ks sc ρ' βk σk s'.heap) (db:βk[n]?=some Dd) (dc:σk[n]?=some .busy) (ys:Array Value) (mm:Nat) (dh:s'.heap.get? Dd=some (dq ys mm)) (dr:RelAll (TT βk σk) s'.heap ys.toList done) (dz:ys.size<=kk):CompPk Z A T ah σL al env ks sc n Dd k kk done βk σk s' ρ'
inductive CompJ(Z:Cx)(A:Around)(T:Itr)(ah:List Addr)(σL:ac)(al:Shared)(env:Env)(ks:List (Str×NameKind))(sc:List (Str×Nat))(nb:Nat)(Dd:Addr)(ρ:Fm)(f:PyData->ac->Res (Option PyData))(r:List PyData)(ae:ac)(n:Nat)(s':Shared):Prop where
 | mk (k:Nat) (βk:List Addr) (σk:ac) (done rest:List PyData) (h1:n=T.shown.length+1 - k) (h2:k<=T.shown.length) (pk:CompPk Z A T ah σL al env ks sc nb Dd k k done βk σk s' ρ) (h4:gM f (T.shown.drop k) σk=.ok rest ae) (h5:r=done++rest):CompJ Z A T ah σL al env ks sc nb Dd ρ f r ae n s'
theorem CompPk.lp{kk:Nat}{done:List PyData}:CompPk Z A T ah σL al env ks sc n Dd k kk done βk σk s' ρ'->Lp Z A b7 T ah σL al (T.St k) βk σk s'
 | ⟨L,_,_,_,_,_,_,_,_⟩=>L
theorem CompPk.fr{kk:Nat}{done:List PyData}:CompPk Z A T ah σL al env ks sc n Dd k kk done βk σk s' ρ'->FrameOk Z env ks sc ρ' βk σk s'.heap
 | ⟨_,F,_,_,_,_,_,_,_⟩=>F
theorem CompPk.step{kk:Nat}{done:List PyData}{βb:List Addr}(pk:CompPk Z A T ah σL al env ks sc n Dd k kk done βk σk s' ρ')(S:Step b7 βk σk s' βb σb sb)(Ib:Inv Z βb σb sb.heap):CompPk Z A T ah σL al env ks sc n Dd k kk done βb σb sb ρ':=by
 obtain⟨L,Fr,db,dc,ys,mm,dh,dr,dz⟩:=pk;have hlt:n < βk.length:=(Qi.mp db).1;have hltb:n < σb.length:=by rw[<- Ib.len];exact(Qi.mp (S.get db)).1
 obtain⟨c',h1,_,_,hbz⟩:=S.mono n σb[n] hlt (Qk hltb);rw[dc] at h1;(injection h1 with e0_;subst e0_);exact⟨L.step S Ib (λx z=>z.elim) (λ_ _=>id),Fr.step S,S.get db,by rw[Qk hltb,hbz rfl],ys,mm,(oQ.keep S L.inv Ib (λx z=>z.elim) (.inl ⟨n,db,dc⟩)).1 _ dh,S.relAll0 dr,dz⟩
theorem CG{prog:Program}{R:Result->Shared->Prop}{elt target iter:Expr}{ifs:List Expr}{scope:Scope}{pos:Pos}{acc:Value}(J:Nat->Shared->Prop)
   (turn:∀ n s,J n s->wpAny (model prog w) A (pyNext it) (λr ai=>match r with
     | none=>R (.ok .next) ai
     | some v=>wpAny (model prog w) A (letOwnedTupleGo target it v) (λ_ ai=>wpAny (model prog w) A (assign target env v) (λ_ al=>
         wpAny (model prog w) A (forIn ifs true λc r=>if r=true then do let ok <- isTrue c env (eval c env);pure (ForInStep.yield ok) else pure (ForInStep.yield r)) (λok aR=>
           if ok=true then wpAny (model prog w) A (eval elt env) (λx dm=>wpAny (model prog w) A (call (.builtin "list.append") [acc,x]) (λ_ fP=>∃ m,m < n/\J m fP) (λ_ _=>False) dm) (λ_ _=>False) aR
           else ∃ m,m < n/\J m aR) (λ_ _=>False) al) (λ_ _=>False) ai) (λ_ _=>False) ai) (λ_ _=>False) s) (n:Nat) {s:Shared} (h:J n s) :
   codeAny (model prog w) A (.compLoop (.ListComp elt [⟨target,iter,ifs,0⟩] scope pos) 0 it acc env) R s:=by
 refine codeAny_loop rfl J (λn s hI=>?_) n h;refine(?_:wpAny _ A ((compTurn (.ListComp elt [⟨target,iter,ifs,0⟩] scope pos) 0 it acc env).onRaise (λx=>do noteFrame x env;theTreesLotGoes x)) _ _ s);refine wpAny_noted ?_;rw[compTurn_list];refine Pe (Rb (Pe (Qs (turn n s hI) (λr ai a5=>?_) λ_ _ x=>x.elim)));cases r with
 | none=>exact Ql a5
 | some v=>
   refine Pe (Qs a5 (λ_ ai a5=>Pe (Qs a5 (λ_ al fK=>Pe (Qs fK (λok aR mX=>?_) λ_ _ x=>x.elim)) λ_ _ x=>x.elim)) λ_ _ x=>x.elim);cases ok with
   | false=>exact Ql ⟨rfl,mX⟩
   | true=>exact Pe (Pe (Qs mX (λx dm H7=>Pe (Qs H7 (λ_ fP OE=>Ql (Ql ⟨rfl,OE⟩)) λ_ _ x=>x.elim)) λ_ _ x=>x.elim))
theorem tY{done:List PyData}{Q:Shared->Prop}(he:PE Z P gn G cf d e)(hme:mE P gn ks sc e elt=true)(hA:jy Z d A)(hDf:al.heap.get? Dd=none)(hfpD:Dd∉T.fp)(hz:k<=sizeLine)
   (pk:CompPk Z A T ah σL al ce ks sc nb Dd (k+1) k done βc σc nv ρt) (h:((ag G cf e ρt σc).bind λy az=>bj ((bK y).map some) az)=.ok o σb)
   (fin:∀ βd fP,CompPk Z A T ah σL al ce ks sc nb Dd (k+1) (k+1) (done++o.toList) βd σb fP ρt->Q fP) :
   wpAny (model Z.prog Z.w) A (eval elt ce) (λx dm=>wpAny (model Z.prog Z.w) A (call (.builtin "list.append") [.ref Dd,x]) (λ_ fP=>Q fP) (λ_ _=>False) dm) (λ_ _=>False) nv:=by
 refine kk λK k=>?_;obtain⟨y,az,hy,hl⟩:=Res.bind_ok h;obtain⟨yd,hyd,eo,eσ⟩:=iC hl;rw[ch hyd,<- eσ] at hy;refine k ?_;refine Qs ((he ks sc elt _ _ A βc σc nv hme hA pk.fr pk.lp.inv).1 _ _ hy) (λx dm ⟨βd,Sd,Id,rx⟩=>?_) λ_ _ x=>x;obtain⟨Ld,Fd,db',dc',ys',mm',dh',dr',dz'⟩:=CompPk.step pk Sd Id;refine ye dh' (iv dz' hz) λh' m' e' hk'=>fin βd _ ?_;refine(Ld.inv.touchBusy db' dc' hk' ⟨_,e'⟩).elim λIe sq=>?_;rw[eo];exact⟨Ld.off (s':={ dm with heap:=h' }) (a:=Dd) hDf hfpD Ie (λ_ _ _ _ _=>⟨_,_,db',dc',rfl⟩) hk' rfl rfl,
   Fd.seq sq (λD o _ e t=>⟨hk' D o (λq=>t (q▸⟨_,_,db',dc',rfl⟩)) e,t⟩) (λb hb o e=>hk' b o (λq=>(Fd.frs b hb).2.1 (q▸Qp db')) e) λb hb o e=>hk' b o (λq=>(Fd.apart b hb).1 (q▸Qp db')) e,
   db',dc',_,m',e',by rw[Tw];exact(dr'.mono sq).append (.one (Rel.mono sq rx)),by rw[Array.size_push];exact QE dz'⟩
theorem CF{done:List PyData}{Q:Shared->Prop}(hc:I2 Z P gn G cf d c)(he:PE Z P gn G cf d e)
   (hmc:(match ifs with | []=>AM P gn ks sc c none | [x]=>AM P gn ks sc c (some x) | _=>false)=true) (hme:mE P gn ks sc e elt=true) (hA:jy Z d A) (hDf:al.heap.get? Dd=none) (hfpD:Dd∉T.fp) (hz:k<=sizeLine)
   (pk:CompPk Z A T ah σL al ce ks sc nb Dd (k+1) k done βk σk sb ρt) (hf:JF G cf c e ρt σk=.ok o σb)
   (fin:∀ βd fP,CompPk Z A T ah σL al ce ks sc nb Dd (k+1) (k+1) (done++o.toList) βd σb fP ρt->Q fP) :
   wpAny (model Z.prog Z.w) A (forIn ifs true λc r=>if r=true then do let ok <- isTrue c ce (eval c ce);pure (ForInStep.yield ok) else pure (ForInStep.yield r)) (λok aR=>if ok=true then wpAny (model Z.prog Z.w) A (eval elt ce) (λx dm=>wpAny (model Z.prog Z.w) A (call (.builtin "list.append") [.ref Dd,x]) (λ_ fP=>Q fP) (λ_ _=>False) dm) (λ_ _=>False) aR else Q aR) (λ_ _=>False) sb:=by
 cases ifs with
 | nil=>
   cases c with
   | yes e=>exact Rt (show false=true from hmc)
   | no=>exact wpAny_tests_nil (by rw[if_pos rfl];exact tY he hme hA hDf hfpD hz pk hf fin)
 | cons x xs=>
   cases xs with
   | cons _ _=>injection hmc
   | nil=>
     obtain⟨c',ec,B⟩:=hc.2 ks sc x _ _ A βk σk sb (hmc:AM P gn ks sc c (some x)=true) hA pk.fr pk.lp.inv;replace hf:=ec▸hf;clear hmc hc ec;refine kk λK k=>?_;obtain⟨cv,σc,hcv,hf⟩:=Res.bind_ok hf;obtain⟨cv',σc',hcv',hq⟩:=Res.bind_ok (r:=ag G cf c' ρt σk) (f:=λx aa=>.ok (some x) aa) hcv;cases (hq);obtain⟨b,σd,hb,hf⟩:=Res.bind_ok hf;have htr:truthy σc cv'=some b/\σd=σc:=by
       cases hq:truthy σc cv' with
       | none=>rw[hq] at hb;injection hb
       | some b'=>replace hb:=hq▸hb;cases (hb);exact⟨rfl,rfl⟩
     obtain⟨htr,rfl⟩:=htr;refine k ?_;refine wpAny_tests_one (Qs (B.2 b σd (by rw[hcv'];simp[lJ,Res.bind,bj,htr])) (λa nv ⟨βc,Sc,Ic,q⟩=>?_) λ_ _ x=>x);refine q▸?_;have pkc:=CompPk.step pk Sc Ic;cases b with
     | true=>rw[if_pos rfl];exact tY he hme hA hDf hfpD hz pkc hf fin
     | false=>rw[if_neg QB];cases (hf);obtain⟨Lc,Fc,db',dc',ys',mm',dh',dr',dz'⟩:=pkc;exact fin βc nv ⟨Lc,Fc,db',dc',ys',mm',dh',by rw[Option.toList_none,QG];exact dr',Sh dz'⟩
theorem F2{m:Bool}(aC:Step b7 β σ s ah aa al)(ao:Inv Z ah aa al.heap)(h0:∀ a,s.heap.get? a=none->Z.h₀.get? a=none)(hw:∀ a∈T.wr,s.heap.get? a=none/\a∉ah)
   (Op:Opened Z A T ah (cM I.lk aa) al.heap) (hlk:∀ n,I.lk=some n->aa[n]?=some (.lst I.base)) (hrl:r.length<=LIM) (hCs:s.heap.get? C=none) (hfpC:C∉T.fp) (L:Lp Z A b7 T ah (cM I.lk aa) al X βk ae s') (hnC:s'.heap.Ns C mC) (hCk:C∉βk) (db:βk[aa.length]?=some Dd) (dc:ae[aa.length]?=some .busy)
   (dh:s'.heap.get? Dd=some (dq ys mm)) (dr:RelAll (TT βk ae) s'.heap ys.toList r) (hkz:Kp T s'.heap sz.heap) (hgz:sz.gens=s'.gens) (hoz:sz.os=s'.os) (hv:aM m r ((bn I.lk I.base ae).take aa.length)=.ok v σ'):CompDone Z β σ s v σ' (.ref Dd) C sz:=by
 obtain⟨Sx,Ix,ttx⟩:=kI aC ao hlk L.st0 L.inv (λx z=>z.elim) (λa q=>(Op.noseq 0 _ Op.start a q).2) (λa q=>(hw a q).1);have hUn:(bn I.lk I.base ae)[aa.length]?=some .busy:=by
   cases hlk':I.lk with
   | none=>exact dc
   | some n=>show (ae.set n _)[aa.length]?=_;rw[dC (Rd (Qi.mp (hlk n hlk')).1)];exact dc
 generalize bn I.lk I.base ae=U at *;have hnβ:β.length<=aa.length:=by obtain⟨e,q,_⟩:=aC.ext;rw[<- ao.len,q,Qg];exact Qz _ _
 have hnsI:∀ a,a∈T.wr->¬ bS s'.heap a:=λa q=>(L.live a q).2;have dU:=dr.mono λx o _ _ e _ t=>⟨e,λz=>t ((ttx x).mp z)⟩;have key:∀ {βf:List Addr},Step b7 β σ s βf σ' s'->Inv Z βf σ' s'.heap->(∀ a∈T.wr,a∉βf)->C∉βf->aA βf σ' s'.heap (.ref Dd) v->CompDone Z β σ s v σ' (.ref Dd) C sz:=by intro βf Sf If nI nC rv;refine⟨βf,mC,Sf.tail (W:=(·∈T.wr)) (λa q=>(hw a q).1) hkz hgz hoz,If.touch (W:=(·∈T.wr)) nI (λa q=>h0 a (hw a q).1) hnsI hkz,ic (W:=(·∈T.wr)) hkz hnsI nI rv,?_,hCs,nC⟩;obtain⟨o,es,ep,ho,q⟩:=hnC;exact⟨o,es,ep,hkz _ _ (λq=>hfpC (Op.sub _ q)) ho,q⟩
 cases m with
 | false=>
   cases (hv);refine key (βf:=βk.take aa.length) (Sx.takeN hnβ) (Ix.take _) (λa ha q=>L.nm a ha (QO q)) (λq=>hCk (QO q)) ?_;refine .list dh (λz=>?_) hrl (dU.mono λx o _ _ e _ t=>⟨e,λz=>t (mB z)⟩);obtain⟨j,c',q1,_,_⟩:=z;rw[RF] at q1;by_cases hj:j < aa.length
   . rw[if_pos hj] at q1;exact L.inv.addr_ne db q1 (Sz hj) rfl
   . rw[if_neg hj] at q1;injection q1
 | true=>
   cases (hv);have So:Step b7 β σ s βk (U.set aa.length (.lst r)) s':=⟨Sx.ext,λj c' hj hc'=>by rw[dC (Sz (Q3 hj hnβ))] at hc';exact Sx.mono j c' hj hc',Sx.keepW,Sx.alive,Sx.gens,Sx.os⟩
   have htk:(U.take aa.length).length=aa.length:=by rw[Ru];exact Ro (Q7 (Qi.mp hUn).1)
   have e1:(U.set aa.length (.lst r)).take (aa.length+1)=U.take aa.length++[.lst r]:=by rw[List.take_add_one];rw[cY hUn,List.take_set_of_le (QP _)];rfl
   exact key (βf:=βk.take (aa.length+1)) (e1▸So.takeN (Sh hnβ)) (e1▸(Ix.openBusy db hUn dh dU hrl).take _) (λa ha q=>L.nm a ha (QO q)) (λq=>hCk (QO q)) ⟨Dd,by rw[htk,RF,if_pos (Sq _)];exact db,rfl⟩
theorem CH(D:Wd Z P gn G cf d){c:EO}(hc:I2 Z P gn G cf d c)(he:PE Z P gn G cf d e) 
   (N:CompNames ks sc scope (ff tx) (cR t) sc') (hmt:nP sc' t tx=true) (hh:A.handled=none) (hmc:(match ifs with | []=>AM P gn scope.names sc' c none | [x]=>AM P gn scope.names sc' c (some x) | _=>false)=true) (hme:mE P gn scope.names sc' e elt=true)
   (h2:∀ x c,cl.lookup x=some c->env.cells.lookup x=some c) (h3:∀ x,(x,NameKind.free)∈scope.names->(cl.lookup x).isSome=true) (h4:∀ x,(cl.lookup x).isSome=true->(x,NameKind.free)∈scope.names)
   (hA:jy Z d A) (Iv:Inv Z β σ s.heap) {I:Items} {T:Itr} (hsh:T.shown=I.shown) (hen:y6 t=true\/T.en=false)
   (aC:Step b7 β σ s ah aa al) (ao:Inv Z ah aa al.heap) (hw:∀ a∈T.wr,s.heap.get? a=none/\a∉ah) (Op:Opened Z A T ah (cM I.lk aa) al.heap) (hlk:∀ n,I.lk=some n->aa[n]?=some (.lst I.base)) (hlen:I.shown.length<=LIM)
   (GF:FrameOk Z env ks sc ρ β σ s.heap) {m:Bool} {r:List PyData} {ae:ac} (hr:gM (xV G cf t c e ρ) I.shown (cM I.lk aa++[.busy])=.ok r ae) {v:V} {σ':ac} (hv:aM m r ((bn I.lk I.base ae).take aa.length)=.ok v σ') :
   wpAny (model Z.prog Z.w) A (newList []) (λacc aR=>wpAny (model Z.prog Z.w) A (newFunctionEnv scope env.globals cl [] env.qual none .none (some env)) (λcenv dm=>
     codeAny (model Z.prog Z.w) A (.compStart (.ListComp elt [⟨tx,iter,ifs,0⟩] scope pos) 0 (.ref T.Ia) acc { cenv with scope:=relabel scope env }) (λr s'=>match r with | .ok _=>CompDone Z β σ s v σ' acc cenv.locals s' | .error _=>False) dm) (λ_ _=>False) aR) (λ_ _=>False) al:=by
 rw[<- hsh] at hlen hr;have F:=GF.step aC;have h0:∀ a,s.heap.get? a=none->Z.h₀.get? a=none:=λa ha=>by
   cases q:Z.h₀.get? a with
   | none=>rfl
   | some o=>rw[Iv.base a o q] at ha;injection ha
 have h0':∀ a,al.heap.get? a=none->s.heap.get? a=none:=aC.alive;have q9:=AO ao hlk;have IL:=q9.1;have SL:=q9.2;generalize hσL:cM I.lk aa=σL at *;have hlL:σL.length=aa.length:=by subst hσL;cases I.lk with | none=>rfl | some n=>exact SW
 have hn0:ah.length=aa.length:=ao.len;refine wpAny_newList ?_ (by simp);generalize hDd:al.heap.objs.size=Dd;have hDf:al.heap.get? Dd=none:=by exact hDd▸aU _
 refine wpAny_newFunctionEnv N.nocell (by intro y hy;simp at hy) (λa5 qJ uV=>?_) N.kind;dsimp only at qJ uV ⊢;generalize hH3:al.heap.push { cls:=.type "list",dict:=none,data:=.seq ([]:List Value).toArray }=H3 at qJ uV ⊢;have hk23:∀ b o,al.heap.get? b=some o->H3.get? b=some o:=λb o e=>by exact hH3▸Qm _ e
 have hD3:H3.get? Dd=some (dq #[] 0):=by exact hH3▸hDd▸Qy _ rfl
 generalize hC:H3.objs.size=C at qJ uV ⊢;have hCf3:H3.get? C=none:=by exact hC▸aU _
 have hCf:al.heap.get? C=none:=by
   cases q:al.heap.get? C with
   | none=>rfl
   | some o=>rw[hk23 _ _ q] at hCf3;injection hCf3
 have hDC:Dd≠C:=λq=>by rw[q,hCf3] at hD3;injection hD3
 have hk34:∀ b o,H3.get? b=some o->a5.get? b=some o:=λb o e=>(uV.2 b (λq=>by rw[q,hCf3] at e;injection e)).trans (Qm _ e);have hk24:∀ b o,al.heap.get? b=some o->a5.get? b=some o:=λb o e=>hk34 b o (hk23 b o e)
 -- the state behind
 have NB:=uH (O:=b7) (s:=al) (ai:={ al with heap:=a5,toks:=al.toks+([]:List (Str×Value)).length }) (a:=Dd) (c:=.busy) IL hk24 hDf rfl rfl ⟨_,hk34 _ _ hD3⟩;have hC4:∃ o,a5.get? C=some o:=by obtain⟨o,_,_,ho,_⟩:=qJ;exact⟨o,ho⟩
 have hCβ:C∉ah++[Dd]:=λmm=>by
   rcases Qx.mp mm with q | q
   . exact ao.notMem hCf q
   . simp at q;exact hDC q.symm
 have FC:FrameOk Z (compEnvC scope cl C env) scope.names sc' (C3 (cR t) ρ) (ah++[Dd]) (σL++[.busy]) a5:=
   CJ N F h2 h3 h4 hCf hCβ (h0 C (h0' C hCf)) qJ hk24 (λw v q=>(SL.trans NB.1).vrel0 q) λa o ho hb mm=>by
     rcases Qx.mp mm with q | q
     . exact hb q
     . simp at q;rw[q,hDf] at ho;injection ho
 have vJ:Lp Z A b7 T ah σL al (T.St 0) ah σL al:=Lp.start Op IL (λa q=>(hw a q).2) λa q=>h0 a (hw a q).1;have N9:Lp Z A b7 T ah σL al (T.St 0) (ah++[Dd]) (σL++[.busy]) { al with heap:=a5,toks:=al.toks+([]:List (Str×Value)).length }:=
   vJ.step NB.1 NB.2 (λx z=>z.elim) λ_ _=>id
 have hfpC:C∉T.fp:=λq=>by obtain⟨o,ho⟩:=vJ.exAll C q;rw[hCf] at ho;injection ho
 have hfpD:Dd∉T.fp:=λq=>by obtain⟨o,ho⟩:=vJ.exAll Dd q;rw[hDf] at ho;injection ho
 have ownC:∀ a,own (compEnvC scope cl C env) a->a=C\/∃ o,al.heap.get? a=some o:=λa ha=>by
   rcases ha with q | ⟨x,hx⟩
   . exact .inl q
   . obtain⟨o,ho,_⟩:=F.ownSome (.inr ⟨x,h2 x a hx⟩);exact .inr ⟨o,ho⟩
 have hIaOwn:∀ a∈T.wr,¬ own (compEnvC scope cl C env) a:=λa ha z=>by
   rcases z with q | ⟨x,hx⟩
   . have q:a=C:=q;exact hfpC (Op.sub _ (q▸ha))
   . obtain⟨o,ho,_⟩:=GF.ownSome (.inr ⟨x,h2 x a hx⟩);rw[(hw a ha).1] at ho;injection ho
 -- what a turn keeps
 let Pk:Nat->Nat->List PyData->List Addr->ac->Shared->Fm->Prop:=CompPk Z A T ah σL al (compEnvC scope cl C env) scope.names sc' aa.length Dd
 let J:Nat->Shared->Prop:=CompJ Z A T ah σL al (compEnvC scope cl C env) scope.names sc' aa.length Dd (C3 (cR t) ρ) (xV G cf t c e ρ) r ae
 have loop:∀ aR:Shared,aR={ al with heap:=a5,toks:=al.toks+([]:List (Str×Value)).length }->
     codeAny (model Z.prog Z.w) A (.compLoop (.ListComp elt [⟨tx,iter,ifs,0⟩] scope pos) 0 (.ref T.Ia) (.ref Dd) (compEnvC scope cl C env)) (λr s'=>match r with | .ok _=>CompDone Z β σ s v σ' (.ref Dd) C s' | .error _=>False) aR:=by
   rintro aR rfl
   refine CG J ?_ (T.shown.length+1) ⟨0,_,_,[],r,rfl,QI _,⟨N9,FC,by rw[<- hn0];simp,by rw[<- hlL];simp,#[],0,hk34 _ _ hD3,.nil,QP _⟩,by simpa using hr,rfl⟩
   rintro n s' ⟨k,βk,σk,done,rest,rfl,hkl,pk,hrest,hdone⟩
   obtain⟨L,Fr,db,dc,ys,mm,dh,dr,dz⟩:=pk;by_cases hlt:k < T.shown.length
   . refine L.next hlt λw dd sa Lm hdd kS hka=>?_;obtain⟨o,σb,Hu,hf,E7,er⟩:=zE hdd hrest;obtain⟨ρt,hbt,hf⟩:=F4 hf;obtain⟨hb1,hb2⟩:=CR hbt;refine Lm.goT (pt:=hmt) hen λsa' La hk'=>?_;replace hka:Kp T s'.heap sa'.heap:=λb o hb e=>hk' b o hb (hka b o hb e);replace kS:Rel (TT βk σk) sa'.heap w dd:=ic (W:=(·∈T.wr)) (v:=.d dd) hk' (λa q=>(Lm.live a q).2) Lm.nm kS;clear hk' Lm;have Fa:FrameOk Z (compEnvC scope cl C env) scope.names sc' (C3 (cR t) ρ) βk σk sa'.heap:=Fr.touch (W:=(·∈T.wr)) L.nm (λa q=>GF.frs.not (hw a q).1) hIaOwn (λa q=>(L.live a q).2) hka;have sqa:b3 βk σk s'.heap βk σk sa'.heap:=λx o vs n e d t=>⟨hka x o (λq=>(L.live x q).2 ⟨o,vs,n,e,d⟩) e,t⟩;refine Gl hh hmt (λx hx=>lookup_relabel_local (N.x0 x hx).1) Fa La.inv (dd:=dd) kS hb1 λsb Fb Sb Ib kC=>?_;have nsC:¬ bS sa'.heap C:=Fa.notSeq C (.inl rfl);have Lb:=La.off (a:=C) hCf hfpC Ib (λo vs n e d=>absurd ⟨o,vs,n,e,d⟩ nsC) kC Sb.gens Sb.os;refine CF hc he hmc hme hA hDf hfpD (iv (Q7 hlt) (I3 _ hlen)) (⟨Lb,Fb,db,dc,ys,mm,kC _ _ hDC (hka _ _ (λq=>hfpD (Op.sub _ q)) dh),(dr.mono sqa).mono (λx o vs n e d t=>⟨kC x o (λq=>by have q:x=C:=q;rw[q] at e;exact nsC ⟨o,vs,n,e,d⟩) e,t⟩),dz⟩) hf λβd fP pk=>?_;obtain⟨Ld,Fd,db',dc',ys',mm',dh',dr',dz'⟩:=pk;exact⟨T.shown.length+1 - (k+1),Ag hlt,k+1,βd,σb,done++o.toList,Hu,rfl,hlt,⟨Ld,Fd.less λj v h1 h2=>(o9 h1 h2).2▸hb2 j (o9 h1 h2).1,db',dc',ys',mm',dh',dr',dz'⟩,E7,by rw[hdone,er,Qr]⟩
   . have hke:k=T.shown.length:=Si hkl (Rm hlt);refine L.done hke λsz hkz hgz hoz=>?_;refine kk λK k=>?_;replace hrest:=SP▸hke▸hrest;cases (hrest);rw[QG] at hdone;have hrl:r.length<=LIM:=by rw[hdone,<- dr.length,QA];exact iv dz (iv hkl hlen)
     obtain⟨mC,hnC,_⟩:=Fr.ns;rw[<- hσL] at L;refine k ?_;exact F2 aC ao h0 hw (hσL▸Op) hlk hrl (h0' C hCf) hfpC L hnC (Fr.apart C (.inl rfl)).1 db dc dh (hdone▸dr) hkz hgz hoz hv
 exact codeAny_compStart_list (loop _ rfl) (Op.self 0 _ _ _ N9.st (loop _ rfl))
variable {it:It}
theorem nO(h:qj iter=true)(x:Value):foldedSetIterable iter env x=pure x:=by cases iter <;> first | rfl | injection h
inductive CompX(P:Nat->Option Fn)(gn:Nat->Str)(ks:List (Str×NameKind))(sc:List (Str×Nat))(t:Tgt)(it:It)(c:EO)(e:E)(ex:Expr):Prop where
 | mk (elt tx iter:Expr) (ifs:List Expr) (scope:Scope) (pos:Pos) (h1:ex=.ListComp elt [⟨tx,iter,ifs,0⟩] scope pos) (h2:nP (di sc scope.names t tx) t tx=true) (h3:y6 t=true\/y8 it=false) (h4:Np P gn ks sc it iter=true) (h5:qj iter=true) (h6:CompNames ks sc scope (ff tx) (cR t) (di sc scope.names t tx))
     (h7:(match (generalizing:=false) ifs with | []=>AM P gn scope.names (di sc scope.names t tx) c none | [x]=>AM P gn scope.names (di sc scope.names t tx) c (some x) | _=>false)=true)
     (h8:mE P gn scope.names (di sc scope.names t tx) e elt=true) (h9:(P 0).isSome=true):CompX P gn ks sc t it c e ex
theorem rh{m:Bool}{ex:Expr}(hm:mE P gn ks sc (.comp m t it c e) ex=true):CompX P gn ks sc t it c e ex:=by
 refine kk λK k=>?_;replace hm:=aq hm;obtain⟨⟨elt,gs,scope⟩,h0,hm⟩:=hm;refine k ?_;apply iG (Fv h0);intro pos;replace hm:=aq hm;obtain⟨⟨target,iter,ifs,as⟩,h00,hm⟩:=hm;replace h00:=de h00;subst h00;simp only[Qw,decide_eq_true_eq,Bool.or_eq_true,Rg] at hm;obtain⟨⟨⟨⟨⟨⟨⟨⟨⟨h0',he⟩,h1⟩,h2⟩,h3⟩,h4⟩,h5⟩,h5'⟩,h6⟩,hP⟩:=hm;subst h0';refine⟨elt,target,iter,ifs,scope,pos,rfl,h4,he,h1,h2,CI h3,?_,h6,hP⟩;cases ifs with
 | nil=>exact h5'
 | cons a l=>cases l with
   | nil=>exact h5'
   | cons _ _=>exact absurd h5 (by simp)
theorem tX(D:Wd Z P gn G cf d){m:Bool}(hi:Mk Z P gn G cf d it)(hc:I2 Z P gn G cf d c)(he:PE Z P gn G cf d e){iter:Expr}{pos pos':Pos}
   (hmt:nP (di sc scope.names t tx) t tx=true) (hen:y6 t=true\/y8 it=false) (h1:Np P gn ks sc it iter=true) (h2:qj iter=true) (N:CompNames ks sc scope (ff tx) (cR t) (di sc scope.names t tx))
   (h5:(match ifs with | []=>AM P gn scope.names (di sc scope.names t tx) c none | [x]=>AM P gn scope.names (di sc scope.names t tx) c (some x) | _=>false)=true)
   (h6:mE P gn scope.names (di sc scope.names t tx) e elt=true) (hA:jy Z d A) (hh:A.handled=none) (F:FrameOk Z env ks sc ρ β σ s.heap) (I:Inv Z β σ s.heap) {v:V} {σ':ac} (ev:ag G cf (.comp m t it c e) ρ σ=.ok v σ')
   {use:Option (Value->Sem Unit)} {Q:Value->Shared->Prop} (q:∀ acc C s',CompDone Z β σ s v σ' acc C s'->compPost (model Z.prog Z.w) A (λ_ _=>False) use Q acc C (.ok .next) s') :
   wpAny (model Z.prog Z.w) A (comprehension (.ListComp elt [⟨tx,iter,ifs,0⟩] scope pos) scope env pos' (newList []) false (eval iter env) use) Q (λ_ _=>False) s:=by
 refine kk λK k=>?_;rw[zA] at ev;obtain⟨It,aa,hit,ev⟩:=Res.bind_ok ev;obtain⟨r,ae,hr,hv⟩:=Res.bind_ok ev;have hcells:∀ x∈scope.names,x.2=.free->∃ c,env.cells.lookup x.1=some c:=λx hx hf=>by
   obtain⟨n,k⟩:=x;subst hf;have q9:=N.free n hx;have hks:=q9.2.1;have hsc:=q9.2.2.1;obtain⟨i,hi⟩:=QZ.mp hsc;have hk:env.kindOf n=some .cell\/env.kindOf n=some .free:=by
     rcases hks with q | q
     . exact(F.kinds n _ q).elim .inl λz=>by cases z.1
     . exact(F.kinds n _ q).elim .inr λz=>.inl z.2
   rcases (F.bound n i hi).1 with q | ⟨_,q⟩
   . rcases hk with z | z <;> rw[q] at z <;> (injection z with e0_;injection e0_)
   . exact q
 obtain⟨cl,hcl,c2,c3,c4⟩:=sF hcells;refine k ?_;refine wpAny_comprehension_free (use:=use) rfl (λx=>nO h2 x) hcl N.kind N.loc ?_;refine Qs (hi ks sc iter env ρ A β σ s It aa h1 hA hh F I hit) (λx ai h=>Qs h (λitv al h=>?_) λ_ _ x=>x) λ_ _ x=>x;obtain⟨ah,T,rfl,hsh,hen',aC,ao,hw,Op,hlk,hlen⟩:=h;refine Qs (CH D hc he N hmt hh h5 h6 c2 c3 c4 hA I hsh (hen.imp id hen'.trans) aC ao hw Op hlk hlen F hr hv (iter:=iter) (pos:=pos)) (λacc aR h=>Qs h (λcenv dm h=>codeAny_mono h λr s' hr=>?_) λ_ _ x=>x) λ_ _ x=>x;cases r with
 | ok f=>have:=q acc cenv.locals s' hr;cases use <;> exact this
 | error x=>exact hr.elim
theorem K2(D:Wd Z P gn G cf d){m:Bool}(hi:Mk Z P gn G cf d it)(hc:I2 Z P gn G cf d c)(he:PE Z P gn G cf d e):PE Z P gn G cf d (.comp m t it c e):=λks sc ex env ρ A β σ s hm hA F I=>by
 obtain⟨elt,tx,iter,ifs,scope,pos,rfl,hmt,hen,h1,h2,N,h5,h6,hP⟩:=rh hm;refine gx.plain D.y rfl λv σ' ev=>?_;rw[arm_eval_ListComp];refine tX D hi hc he hmt hen h1 h2 N h5 h6 hA (hA.1 (D.q hP)) F I ev (use:=none) λacc C s' h=>?_;obtain⟨β',mm,S,I',rv,hn,hC,hCb⟩:=h;refine⟨mm,hn,λh' hs'=>?_⟩;have hk:∀ b o,b≠C->s'.heap.get? b=some o->h'.get? b=some o:=λb o hb e=>(hs'.2 b hb).trans e;have h0:Z.h₀.get? C=none:=by
   cases q:Z.h₀.get? C with
   | none=>rfl
   | some o=>rw[I.base C o q] at hC;injection hC
 exact⟨β',S.tail (W:=(·=C)) (λ_ q=>q▸hC) hk rfl rfl,I'.touch (W:=(·=C)) (λ_ q=>q▸hCb) (λ_ q=>q▸h0) (λ_ q=>q▸lX hn) hk,fX hk (lX hn) hCb rv⟩
mutual
theorem jK(D:Wd Z P gn G cf d):∀ e,PE Z P gn G cf d e
 | .none=>KU D
 | .bool b=>K5 D b
 | .int i=>Na D i
 | .str x=>M2 D x
 | .var i=>M0 D i
 | .glob g=>KZ D g
 | .bin op m a b=>Nf D (jK D a) (jK D b)
 | .neg a=>M7 D (jK D a)
 | .not a=>M5 D (jK D a)
 | .bop k es=>Nd D (si D es)
 | .cmp op a b=>Nc D (jK D a) (jK D b)
 | .cmp2 bA fQ a b c=>K3 D (jK D a) (jK D b) (jK D c)
 | .ite c a b=>M8 D (jK D c) (jK D a) (jK D b)
 | .tup es=>M1 D (si D es)
 | .list m es=>KW D (si D es)
 | .dict0=>HD D
 | .idx a i=>Nb D (jK D a) (jK D i)
 | .slc m a lo hi=>M3 D (jK D a) (HC D lo) (HC D hi)
 | .comp m t it c e=>K2 D (KX D it) (HC D c) (jK D e)
 | .call f es=>K4 D (si D es)
 | .bi b m es=>OA D (si D es)
 | .meth b o es=>KV D (jK D o) (si D es)
 | .isx k e=>M9 D (jK D e)
 | .freeze e=>Es D (jK D e)
theorem si(D:Wd Z P gn G cf d):∀ es,GB Z P gn G cf d es
 | .nil=>M6 D
 | .cons e es=>K1 D (jK D e) (si D es)
theorem HC(D:Wd Z P gn G cf d):∀ e,I2 Z P gn G cf d e
 | .no=>Oz D
 | .yes e=>MZ D (jK D e)
theorem KX(D:Wd Z P gn G cf d):∀ e,Mk Z P gn G cf d e
 | .seq e=>M4 D (jK D e)
 | .range e=>HB D (jK D e)
 | .range2 a b=>En D (jK D a) (jK D b)
 | .enum e=>K0 D (jK D e)
end
noncomputable def mc(ex:Expr):Bool:=(tK ex).isSome
noncomputable def MJ(ex:Expr):Nat:=Expr.casesOn (motive_1:=λ_=>Nat) ex (λ_ _ _=>0) (λ_ _ _=>0) (λ_ _ _ _=>0) (λ_ _ _=>0) (λ_ _ _ _=>0) (λ_ _ _ _=>0) (λ_ _ _=>0) (λ_ _ _=>0) (λ_ _ _ _=>1) (λ_ _ _ _=>2) (λ_ _ _ _ _=>2) (λ_ _ _ _=>0) (λ_ _=>0) (λ_ _=>0) (λ_ _=>0) (λ_ _ _ _=>0) (λ_ _ _ _=>0) (λ_ _ _ _=>0) (λ_ _=>0) (λ_ _ _=>0) (λ_ _ _=>0) (λ_ _ _=>0) (λ_ _=>0) (λ_ _=>0) (λ_ _=>0) (λ_ _ _=>0) (λ_ _ _ _=>0)
noncomputable def F0:E->Bool
 | .comp ..=>true
 | _=>false
theorem FZ(h:F0 e=true):X5 λm t it c e'=>e=.comp m t it c e':=by cases e <;> first | exact⟨_,_,_,_,_,rfl⟩ | exact Rt h
noncomputable def JL(e:E)(v:Expr):Bool:=match MJ v with
 | 0=>true
 | 1=>F0 e
 | _=>false
noncomputable def D1(ex:Stmt):Option (Expr):=cB ex.ctorIdx 24 λe=>Stmt.Expr.elim (motive_2:=λ_=>Expr) ex e λa0 _=>a0
theorem ww{ex:Stmt}{t:Expr}(h:D1 ex=some t):∃ p,ex=.Expr t p:=by refine(aT h).elim λe q=>?_;exact Stmt.Expr.elim (motive_2:=λex=>∀ e:ex.ctorIdx=24,(Stmt.Expr.elim (motive_2:=λ_=>Expr) ex e λa0 _=>a0)=t->∃ p,ex=.Expr t p) ex e (λ_ p _ q=>q▸⟨p,rfl⟩) e q
theorem KI{ex:Stmt}{t:List Expr×Expr}(h:yF ex=some t):∃ p,ex=.Assign t.1 t.2 p:=by refine(aT h).elim λe q=>?_;exact Stmt.Assign.elim (motive_2:=λex=>∀ e:ex.ctorIdx=5,(Stmt.Assign.elim (motive_2:=λ_=>List Expr×Expr) ex e λa0 a1 _=>(a0,a1))=t->∃ p,ex=.Assign t.1 t.2 p) ex e (λ_ _ p _ q=>q▸⟨p,rfl⟩) e q
variable {v:Expr}
theorem lR{ex:Stmt}{t:List Expr}(h:yF ex=some (t,v)):∃ p,ex=.Assign t v p:=KI h
noncomputable def Ou(ex:Stmt):Option (Expr×List Stmt×List Stmt):=cB ex.ctorIdx 12 λe=>Stmt.If.elim (motive_2:=λ_=>Expr×List Stmt×List Stmt) ex e λa0 a1 a2 _=>(a0,a1,a2)
theorem MT{ex:Stmt}{t:Expr×List Stmt×List Stmt}(h:Ou ex=some t):∃ p,ex=.If t.1 t.2.1 t.2.2 p:=by refine(aT h).elim λe q=>?_;exact Stmt.If.elim (motive_2:=λex=>∀ e:ex.ctorIdx=12,(Stmt.If.elim (motive_2:=λ_=>Expr×List Stmt×List Stmt) ex e λa0 a1 a2 _=>(a0,a1,a2))=t->∃ p,ex=.If t.1 t.2.1 t.2.2 p) ex e (λ_ _ _ p _ q=>q▸⟨p,rfl⟩) e q
variable {b:List Stmt}
theorem KF{ex:Stmt}{t:Expr}{a:List Stmt}(h:Ou ex=some (t,a,b)):∃ p,ex=.If t a b p:=MT h
noncomputable def KH(ex:Stmt):Option (Expr×Expr×List Stmt×List Stmt):=cB ex.ctorIdx 9 λe=>Stmt.For.elim (motive_2:=λ_=>Expr×Expr×List Stmt×List Stmt) ex e λa0 a1 a2 a3 _=>(a0,a1,a2,a3)
theorem KG{ex:Stmt}{t:Expr×Expr×List Stmt×List Stmt}(h:KH ex=some t):∃ p,ex=.For t.1 t.2.1 t.2.2.1 t.2.2.2 p:=by refine(aT h).elim λe q=>?_;exact Stmt.For.elim (motive_2:=λex=>∀ e:ex.ctorIdx=9,(Stmt.For.elim (motive_2:=λ_=>Expr×Expr×List Stmt×List Stmt) ex e λa0 a1 a2 a3 _=>(a0,a1,a2,a3))=t->∃ p,ex=.For t.1 t.2.1 t.2.2.1 t.2.2.2 p) ex e (λ_ _ _ _ p _ q=>q▸⟨p,rfl⟩) e q
theorem Hs{ex:Stmt}{t i:Expr}{o:List Stmt}(h:KH ex=some (t,i,b,o)):∃ p,ex=.For t i b o p:=KG h
noncomputable def Hm(ex:Stmt):Option (Option Expr):=cB ex.ctorIdx 3 λe=>Stmt.Return.elim (motive_2:=λ_=>Option Expr) ex e λa0 _=>a0
theorem uy{ex:Stmt}{t:Option Expr}(h:Hm ex=some t):∃ p,ex=.Return t p:=by refine(aT h).elim λe q=>?_;exact Stmt.Return.elim (motive_2:=λex=>∀ e:ex.ctorIdx=3,(Stmt.Return.elim (motive_2:=λ_=>Option Expr) ex e λa0 _=>a0)=t->∃ p,ex=.Return t p) ex e (λ_ p _ q=>q▸⟨p,rfl⟩) e q
noncomputable def Jk(ex:Stmt):Option (Unit):=cB ex.ctorIdx 25 λe=>Stmt.Pass.elim (motive_2:=λ_=>Unit) ex e λ_=>()
theorem DY{ex:Stmt}{t:Unit}(h:Jk ex=some t):∃ p,ex=.Pass p:=by refine(aT h).elim λe q=>?_;exact Stmt.Pass.elim (motive_2:=λex=>∀ e:ex.ctorIdx=25,(Stmt.Pass.elim (motive_2:=λ_=>Unit) ex e λ_=>())=t->∃ p,ex=.Pass p) ex e (λp _ _=>⟨p,rfl⟩) e q
noncomputable def yE(ex:Stmt):Option (Option Expr×Option Expr):=cB ex.ctorIdx 16 λe=>Stmt.Raise.elim (motive_2:=λ_=>Option Expr×Option Expr) ex e λa0 a1 _=>(a0,a1)
theorem DX{ex:Stmt}{t:Option Expr×Option Expr}(h:yE ex=some t):∃ p,ex=.Raise t.1 t.2 p:=by refine(aT h).elim λe q=>?_;exact Stmt.Raise.elim (motive_2:=λex=>∀ e:ex.ctorIdx=16,(Stmt.Raise.elim (motive_2:=λ_=>Option Expr×Option Expr) ex e λa0 a1 _=>(a0,a1))=t->∃ p,ex=.Raise t.1 t.2 p) ex e (λ_ _ p _ q=>q▸⟨p,rfl⟩) e q
theorem BV{ex:Stmt}{a b:Option Expr}(h:yE ex=some (a,b)):∃ p,ex=.Raise a b p:=DX h
noncomputable def Kv(ex:Stmt):Option (List Stmt×List ExceptHandler×List Stmt×List Stmt):=cB ex.ctorIdx 17 λe=>Stmt.Try.elim (motive_2:=λ_=>List Stmt×List ExceptHandler×List Stmt×List Stmt) ex e λa0 a1 a2 a3 _=>(a0,a1,a2,a3)
theorem Ku{ex:Stmt}{t:List Stmt×List ExceptHandler×List Stmt×List Stmt}(h:Kv ex=some t):∃ p,ex=.Try t.1 t.2.1 t.2.2.1 t.2.2.2 p:=by refine(aT h).elim λe q=>?_;exact Stmt.Try.elim (motive_2:=λex=>∀ e:ex.ctorIdx=17,(Stmt.Try.elim (motive_2:=λ_=>List Stmt×List ExceptHandler×List Stmt×List Stmt) ex e λa0 a1 a2 a3 _=>(a0,a1,a2,a3))=t->∃ p,ex=.Try t.1 t.2.1 t.2.2.1 t.2.2.2 p) ex e (λ_ _ _ _ p _ q=>q▸⟨p,rfl⟩) e q
theorem Hl{ex:Stmt}{a c d:List Stmt}{b:List ExceptHandler}(h:Kv ex=some (a,b,c,d)):∃ p,ex=.Try a b c d p:=Ku h
noncomputable def Pp(sc:List (Str×Nat)):RT->Stmt->Option Expr
 | .drop,st=>D1 st
 | .var i,st=>(yF st).bind λq=>(one q.1).bind λtx=>(fm tx).bind λx=>if sc.lookup x=some i then some q.2 else none
 | .ret,_=>none
 | .retL,st=>((Hm st).bind id).bind λv=>(Fq v).bind one
noncomputable def PF:ExceptHandler->Option (Str×Option Str×Expr)
 | .ExceptHandler ty nm bd _=>ty.bind λt=>(fm t).bind λx=>(one bd).bind λst=>(Hm st).bind λo=>o.bind λv=>some (x,nm,v)
variable {eh:ExceptHandler}{nm:Option Str}
theorem LH(h:PF eh=some (x,nm,v)):X3 λxp rp hp=>eh=.ExceptHandler (some (.Name x xp)) nm [.Return (some v) rp] hp:=by refine kk λK k=>?_;obtain⟨ty,nm',bd,hp⟩:=eh;obtain⟨t,h1,h⟩:=Qo.mp h;obtain⟨x',h2,h⟩:=Qo.mp h;obtain⟨st,h3,h⟩:=Qo.mp h;obtain⟨o,h4,h⟩:=Qo.mp h;obtain⟨v',h5,h⟩:=Qo.mp h;have g1:=Prod.mk.inj (Option.some.inj h);have g2:=Prod.mk.inj g1.2;obtain⟨xp,e2⟩:=bP h2;obtain⟨rp,e4⟩:=uy h4;refine k ?_;exact⟨xp,rp,hp,by rw[h1,de h3,e4,h5,e2,g1.1,g2.1,g2.2]⟩
noncomputable def OD (P:Nat->Option Fn) (ks:List (Str×NameKind)) (f:Nat) (n:Str) (v:Expr):Bool:=ob (qM v) λz=>ob (one z.2) λa=>ob (fm a) λn'=>decide (n'=n)&&decide ((P f).map (·.name)=some z.1)&&decide (z.1=("_law_kind":Str))&&qG ks z.1
noncomputable def Pw(ks:List (Str×NameKind))(sc:List (Str×Nat))(i:Nat)(n:Str):Bool:=decide (sc.lookup n=some i)&&bV n&&decide (ks.lookup n=some .local)
noncomputable def Px(P:Nat->Option Fn)(ks:List (Str×NameKind))(sc:List (Str×Nat))(h:Hk)(nm:Option Str)(v:Expr):Bool:=match h with
   | .kind _ _=>false
   | .tup i f a=>ob nm λn=>ob (Co v) λxs=>Pw ks sc i n&&ob (Kf xs) λq=>OD P ks f n q.1&&(if a then ob (two q.2) λr=>Ju n jn r.1&&Ju n dj r.2 else q.2.isEmpty)
   | .none=>false
noncomputable def Le(P:Nat->Option Fn)(ks:List (Str×NameKind))(sc:List (Str×Nat)):List Hd->List ExceptHandler->Bool
 | [],_=>true
 | h::hs,es=>ob (Kf es) λq=>ob (PF q.1) λg=>decide (g.1=lg h.k)&&qG ks g.1&&decide (h.k<=6)&&Px P ks sc h.h g.2.1 g.2.2&&Le P ks sc hs q.2
section
variable (P:Nat->Option Fn)(gn:Nat->Str)
noncomputable def N5(v:Expr):Bool:=(Cp v).isSome||mc v
mutual
noncomputable def mS(ks:List (Str×NameKind))(sc:List (Str×Nat)):S->Stmt->Bool
 | .expr e,st=>ob (D1 st) λv=>mc v&&mE P gn ks sc e v
 | .asg t e,st=>ob (yF st) λq=>ob (one q.1) λtx=>No sc t tx&&JL e q.2&&mE P gn ks sc e q.2
 | .asgT l e,st=>ob (yF st) λq=>ob (one q.1) λtx=>ob (Co tx) λxs=>jO sc l xs&&N5 q.2&&(P 0).isSome&&mE P gn ks sc e q.2
 | .put o i e,st=>ob (yF st) λq=>ob (one q.1) λtx=>ob (Cp tx) λp=>wQ p.2&&mE P gn ks sc o p.1&&mE P gn ks sc i p.2&&mE P gn ks sc e q.2
 | .ite c a b,st=>ob (Ou st) λq=>mE P gn ks sc c q.1&&GN ks sc a q.2.1&&GN ks sc b q.2.2
 | .forr t it b,st=>ob (KH st) λq=>q.2.2.2.isEmpty&&nP sc t q.1&&qj q.2.1&&Np P gn ks sc it q.2.1&&GN ks sc b q.2.2.1&&(y6 t||!y8 it)&&(P 0).isSome
 | .ret e,st=>ob (Hm st) λo=>ob o λv=>mE P gn ks sc e v
 | .pass,st=>ob (Jk st) λ_=>true
 | .stop,_=>true
 | .calls t f es,st=>ob (Pp sc t st) λv=>ob (qM v) λq=>decide ((P f).map (λfn=>(fn.name,fn.meth||fn.ctor))=some (q.1,false))&&qG ks q.1&&qu P gn ks sc es q.2
 | .raise k es,st=>ob (yE st) λq=>ob q.1 λex=>ob (qM ex) λz=>q.2.isNone&&decide (z.1=lg k)&&qG ks z.1&&decide (1<=k/\k<=6)&&(P 0).isSome&&qu P gn ks sc es z.2&&decide (z.2.length<=1000)
 | .tryS b hs,st=>ob (Kv st) λq=>q.2.2.1.isEmpty&&q.2.2.2.isEmpty&&GN ks sc b q.1&&(P 0).isSome&&(Kf q.2.1).isSome&&Le P ks sc hs q.2.1
noncomputable def GN(ks:List (Str×NameKind))(sc:List (Str×Nat)):SL->List Stmt->Bool
 | .nil,xs=>xs.isEmpty
 | .cons s r,xs=>ob (Kf xs) λq=>mS ks sc s q.1&&GN ks sc r q.2
end
end
variable {c:E}{Q:Flow->Shared->Prop}{sp px:Pos}{st:S}{r:SL}
def FR(Z:Cx)(env:Env)(ks:List (Str×NameKind))(sc:List (Str×Nat))(f:Flow)(o:Out)(β:List Addr)(σ:ac)(h:Heap):Prop:=match o with
 | .next ρ'=>f=.next/\FrameOk Z env ks sc ρ' β σ h
 | .ret v=>∃ w,f=.ret w/\aA β σ h w v
 | .exc _ _=>False
def yg(A:Around)(env:Env):Prop:=X2 λouter f=>A.frames=some (env::outer)/\env.frame=some f
def PS(Z:Cx)(P:Nat->Option Fn)(gn:Nat->Str)(G:Nat->Option PyData)(cf:Nat->List V->ac->Res V)(d:Nat)(st:S):Prop:=
 ∀ ks sc x env ρ A β σ s,mS P gn ks sc st x=true->jy Z d A->FrameOk Z env ks sc ρ β σ s.heap->Inv Z β σ s.heap->yg A env->vM env.frame Z (own env) A (PySem.exec x env) (exec G cf st ρ σ) (FR Z env ks sc) (FrameOk Z env ks sc []) β σ s
def GQ(Z:Cx)(P:Nat->Option Fn)(gn:Nat->Str)(G:Nat->Option PyData)(cf:Nat->List V->ac->Res V)(d:Nat)(st:SL):Prop:=
 ∀ ks sc xs env ρ A β σ s,GN P gn ks sc st xs=true->jy Z d A->FrameOk Z env ks sc ρ β σ s.heap->Inv Z β σ s.heap->yg A env->vM env.frame Z (own env) A (PySem.execs xs env) (execs G cf st ρ σ) (FR Z env ks sc) (FrameOk Z env ks sc []) β σ s
theorem nj{t:Option Expr}(h:mc v=true):swapsWith v t n env=pure false:=by refine(QZ.mp h).elim λq e=>?_;rw[u8 e];rfl
theorem wy{x:Expr}{E:Value->Shared->Prop}(hk:env.scope.kind=.function)(hx:mc x=true)(h:wpAny (model Z.prog Z.w) A (eval x env) (λ_ ai=>Q .next ai) E s):wpAny (model Z.prog Z.w) A (PySem.exec (.Expr x sp) env) Q E s:=by
 have hi:interactive env=false:=by unfold interactive;rw[hk];rfl
 rw[arm_exec_Expr];refine Pe (Rb ?_);rw[hi,nj hx];show wpAny _ _ (do dropValue x sp (<- eval x env)) _ _ _;exact Pe (Qs h (λa ai q=>wpAny_dropValue q) λ_ _ x=>x)
theorem Au{n:Str}{E:Value->Shared->Prop}(hs:swapsWith v (some (.Name n px)) sp.line env=pure false)(hw:swappedStores [.Name n px] v env=pure none)
   (h:wpAny (model Z.prog Z.w) A (eval v env) (λu ai=>wpAny (model Z.prog Z.w) A (assign (.Name n px) env u) (λ_ al=>Q .next al) E ai) E s):wpAny (model Z.prog Z.w) A (PySem.exec (.Assign [.Name n px] v sp) env) Q E s:=by
 rw[arm_exec_Assign];refine Pe (Rb ?_);refine(?_:wpAny _ _ (swapsWith v (some (.Name n px)) sp.line env >>= λb=>if b=true then _ else _) _ _ _);rw[hs];refine Pe (Ql ?_);rw[if_neg QB];refine Pe (Qs h (λu ai q=>?_) λ_ _ x=>x);rw[hw];refine Pe (Ql ?_);show wpAny _ _ (assign (.Name n px) env u >>= λ_=>pure Flow.next) _ _ _;exact Pe (Qs q (λ_ _ q=>Ql q) λ_ _ x=>x)
theorem D3{E:Value->Shared->Prop}(hs:swapsWith v (some (.Tuple xs k p)) sp.line env=pure false)(hw:swappedStores [.Tuple xs k p] v env=pure none)
   (h:wpAny (model Z.prog Z.w) A (eval v env) (λu ai=>wpAny (model Z.prog Z.w) A (assign (.Tuple xs k p) env u) (λ_ al=>Q .next al) E ai) E s):wpAny (model Z.prog Z.w) A (PySem.exec (.Assign [.Tuple xs k p] v sp) env) Q E s:=by
 rw[arm_exec_Assign];refine Pe (Rb ?_);refine(?_:wpAny _ _ (swapsWith v (some (.Tuple xs k p)) sp.line env >>= λb=>if b=true then _ else _) _ _ _);rw[hs];refine Pe (Ql ?_);rw[if_neg QB];refine Pe (Qs h (λu ai q=>?_) λ_ _ x=>x);rw[hw];refine Pe (Ql ?_);show wpAny _ _ (assign (.Tuple xs k p) env u >>= λ_=>pure Flow.next) _ _ _;exact Pe (Qs q (λ_ _ q=>Ql q) λ_ _ x=>x)
theorem Ht{x:Expr}{E:Value->Shared->Prop}(h:wpAny (model Z.prog Z.w) A (eval x env) (λu ai=>Q (.ret u) ai) E s):wpAny (model Z.prog Z.w) A (PySem.exec (.Return (some x) sp) env) Q E s:=by rw[arm_exec_Return];refine Pe (Rb ?_);show wpAny _ _ (eval x env >>= λr=>pure (Flow.ret r)) _ _ _;exact Pe (Qs h (λ_ _ q=>Ql q) λ_ _ x=>x)
theorem Hp(D:Wd Z P gn G cf d):PS Z P gn G cf d (.expr e):=λks sc x env ρ A β σ s hm hA F I hE=>vM.of <| by
 replace hm:=aq hm;obtain⟨v,h0,hm⟩:=hm;apply iG (ww h0);intro pos
 . simp only[Qw] at hm;intro c σ' ev;rw[J7] at ev;obtain⟨w,aa,h1,h2⟩:=Res.bind_ok ev;(injection h2 with e0_ f0_;subst e0_;subst f0_);exact wy F.kind hm.1 (Qs (((jK D e) ks sc v env ρ A β σ s hm.2 hA F I).1 _ _ h1) (λa ai ⟨ah,S,ao,q⟩=>⟨ah,S.ofNo,ao,rfl,F.step S⟩) λ_ _ x=>x)
theorem rM{v:V}{w:Value}{Q:Unit->Shared->Prop}{E:Value->Shared->Prop}(F:FrameOk Z env ks sc ρ β σ s.heap)(I:Inv Z β σ s.heap)(hx:sc.lookup x=some i)(r:aA β σ s.heap w v)
   (q:∀ s',FrameOk Z env ks sc (ρ.set i v) β σ s'.heap->Step (own env) β σ s β σ s'->Inv Z β σ s'.heap->Q () s'):wpAny (model Z.prog Z.w) A (storeName env x w) Q E s:=
 F.store I hx r λs' F' S' I' _ _=>q s' F' S' I'
inductive SwapX(e:E)(v:Expr):Prop where
 | mk (m:Bool) (t:Tgt) (it:It) (c:EO) (e':E) (a:Expr) (g:List Comprehension) (s:Scope) (p:Pos) (h1:e=.comp m t it c e') (h2:v=.ListComp a g s p):SwapX e v
set_option tactic.hygienic true in
theorem wh(h:JL e v=true):swapsWith v (some (.Name x px)) n env=pure false\/(swapsWith v (some (.Name x px)) n env=pure true/\SwapX e v):=by
 cases v
 case ListComp a g s p=>
   obtain⟨m,t,it,c,e',rfl⟩:=FZ (h:F0 e=true);have hb:swapsWith (.ListComp a g s p) (some (.Name x px)) n env=pure (env.blockKind==.function&&env.kindOf x==some .local&&px.line==(Expr.ListComp a g s p).pos.line&&!(s.names.any λ(n,k)=>n==x&&(k==.local||k==.cell))):=rfl;generalize (env.blockKind==.function&&env.kindOf x==some .local&&px.line==(Expr.ListComp a g s p).pos.line&&!(s.names.any λ(n,k)=>n==x&&(k==.local||k==.cell)))=b at hb;cases b with
   | false=>exact .inl hb
   | true=>exact .inr ⟨hb,_,_,_,_,_,_,_,_,_,rfl,rfl⟩
 all_goals first
   | exact .inl rfl
   | exact Rt (h:false=true)
theorem KD(D:Wd Z P gn G cf d):PS Z P gn G cf d (.asg t e):=λks sc x env ρ A β σ s hm hA F I hE=>vM.of <| by
 replace hm:=aq hm;obtain⟨⟨txs,v⟩,hz,hm⟩:=hm;obtain⟨pos,rfl⟩:=lR hz;clear hz;replace hm:=aq hm;obtain⟨tx,h00,hm⟩:=hm;replace h00:=de h00;subst h00
 . obtain⟨h1,h0,h2⟩:=Mf hm;replace h1:=HN h1;obtain⟨i,x,px,rfl,rfl,h1,_⟩:=h1
   . intro c σ' ev;obtain⟨w,aa,h3,h4⟩:=Res.bind_ok ev;apply uO h4;intro ρ' hb;(injection hb with e0_;subst e0_);rcases wh (env:=env) (x:=x) (px:=px) (n:=pos.line) h0 with hq | ⟨hq,m,t,it,c,e',a,g,nv,p,rfl,rfl⟩
     . exact Au hq rfl (Qs ((jK D e ks sc v env ρ A β σ s h2 hA F I).1 _ _ h3) (λu ai ⟨ah,S,ao,q⟩=>wpAny_assign_Name (rM (F.step S) ao h1 q λs' F' S' I'=>⟨ah,S.ofNo.trans S',I',rfl,F'⟩)) λ_ _ x=>x)
     . rw[arm_exec_Assign];refine Pe (Rb ?_);refine(?_:wpAny _ _ (swapsWith (.ListComp a g nv p) (some (.Name x px)) pos.line env >>= λb=>if b=true then _ else _) _ _ _);refine hq▸?_;refine Pe (Ql ?_);rw[if_pos rfl];refine kk λK k=>?_;obtain⟨elt,tgx,iter,ifs,scope,pos',q,kt,k0,k1,k2,N,k5,k6,hP⟩:=rh h2;cases (q);refine k ?_;rw[arm_evalThenUse_ListComp];refine Pe (Pe ?_);show wpAny _ _ (comprehension _ nv env _ (newList []) false (eval iter env) (some λv=>assign (.Name x px) env v)) _ _ _;refine tX D (KX D it) (HC D c) (jK D e') kt k0 k1 k2 N k5 k6 hA (hA.1 (D.q hP)) F I h3 λacc C s' h=>?_;obtain⟨β',mm,S,I',rv,hn,hC,hCb⟩:=h;have h0:Z.h₀.get? C=none:=by
         cases q:Z.h₀.get? C with
         | none=>rfl
         | some o=>rw[I.base C o q] at hC;injection hC
       have hnC:¬ own env C:=λz=>by obtain⟨o,ho,_⟩:=F.ownSome z;rw[hC] at ho;injection ho
       refine(?_:wpAny _ _ (assign (.Name x px) env acc) _ _ _);refine wpAny_assign_Name (rM (F.step S) I' h1 rv λs'' F'' S'' I''=>?_);have hn'':∃ m,s''.heap.Ns C m:=by
         obtain⟨o,es,ep,ho,q⟩:=hn;rcases S''.keepW C o ho (λz=>hCb z.tt.mem) hnC with e | ⟨_,_,sl,e⟩
         . exact⟨mm,o,es,ep,e,q⟩
         . exact⟨mm,_,es,ep,e,q⟩
       obtain⟨m'',hn''⟩:=hn'';refine⟨m'',hn'',λh' hs'=>?_⟩;have hk:∀ b o,b≠C->s''.heap.get? b=some o->h'.get? b=some o:=λb o hb e=>(hs'.2 b hb).trans e;refine Ql (Ql ⟨β',(S.ofNo.trans S'').tail (W:=(·=C)) (λ_ q=>q▸hC) hk rfl rfl,I''.touch (W:=(·=C)) (λ_ q=>q▸hCb) (λ_ q=>q▸h0) (λ_ q=>q▸lX hn'') hk,rfl,F''.touch (W:=(·=C)) (λ_ q=>q▸hCb) (λ_ q=>q▸F.frs.not hC) (λ_ q=>q▸hnC) (λ_ q=>q▸lX hn'') hk⟩)
theorem BJ(h:N5 v=true):swapsWith v (some (.Tuple xs k p)) n env=pure false/\swappedStores [.Tuple xs k p] v env=pure none:=by
 rcases QS.mp h with h | h
 . obtain⟨q,e⟩:=QZ.mp h;obtain⟨p',e⟩:=Fj e;rw[e];exact⟨rfl,rfl⟩
 . obtain⟨q,e⟩:=QZ.mp h;rw[u8 e];exact⟨rfl,rfl⟩
theorem Hr(D:Wd Z P gn G cf d){l:List Nat}:PS Z P gn G cf d (.asgT l e):=λks sc x env ρ A β σ s hm hA F I hE=>vM.of <| by replace hm:=aq hm;obtain⟨⟨txs,v⟩,hz,hm⟩:=hm;obtain⟨pos,rfl⟩:=lR hz;clear hz;replace hm:=aq hm;obtain⟨tx,hz,hm⟩:=hm;replace hz:=de hz;subst hz;replace hm:=aq hm;obtain⟨xs,hz,hm⟩:=hm;apply GP (kA hz);intro k p;clear hz;obtain⟨h1,h2,hP,h4⟩:=IX hm;intro c σ' ev;rw[J8] at ev;obtain⟨w,aa,e1,ev⟩:=Res.bind_ok ev;obtain⟨ds,hw,ev⟩:=iB ev;obtain⟨hl,ev⟩:=AX ev;cases (ev);have hw:=dP hw;subst hw;obtain⟨q1,q2⟩:=BJ (env:=env) (xs:=xs) (k:=k) (p:=p) (n:=pos.line) h2;refine D3 q1 q2 (Qs ((jK D e ks sc v env ρ A β σ s h4 hA F I).1 _ _ e1) (λu ai ⟨ah,S,ao,q⟩=>?_) λ_ _ x=>x);apply (pF q).el;intro a vs n ha ht hz r;have hn:=lC (env:=env) h1;have hz:=r.length;simp only[QA] at hz;refine wpAny_assign_Tuple (hA.1 (D.q hP)) ⟨_,ha,rfl,_,rfl⟩ (by rw[hn.1,hz,hl]) hn.2 λh' he=>?_;have hk:∀ b o,ai.heap.get? b=some o->h'.get? b=some o:=λb o e=>he b o (Rd (Q8 e)) e;have S2:Step b7 ah σ' ai ah σ' { ai with heap:=h' }:=Step.grow hk rfl rfl;refine nk h1 hl (r.mono λx o _ _ e _ t=>⟨hk _ _ e,t⟩) ((F.step S).step S2) (ao.grow hk) λs' F' S' I' _=>⟨ah,(S.trans S2).ofNo.trans S',I',rfl,F'⟩
theorem BK{o i:Expr}:swapsWith v (some (.Subscript o i p)) n env=pure false:=by cases v <;> rfl
theorem Ky(D:Wd Z P gn G cf d){o i:E}:PS Z P gn G cf d (.put o i e):=λks sc x env ρ A β σ s hm hA F I hE=>vM.of <| by
 replace hm:=aq hm;obtain⟨⟨txs,v⟩,hz,hm⟩:=hm;obtain⟨pos,rfl⟩:=lR hz;clear hz;replace hm:=aq hm;obtain⟨tx,h00,hm⟩:=hm;replace h00:=de h00;subst h00;replace hm:=aq hm;obtain⟨⟨ox,ix⟩,h00,hm⟩:=hm;apply iG (u0 h00);intro p
 . refine kk λK k=>?_;obtain⟨h0,h1,h2,h3⟩:=IX hm;refine k ?_;intro c σ' ev;rw[MD] at ev;obtain⟨x,aa,e1,ev⟩:=Res.bind_ok ev;obtain⟨a,ae,e2,ev⟩:=Res.bind_ok ev;obtain⟨k,az,e3,ev⟩:=Res.bind_ok ev;obtain⟨xd,hx,ev⟩:=iB ev;obtain⟨n,ks',ha,hk,ev⟩:=JK ev;obtain⟨l,hl,ev⟩:=iB ev;obtain⟨hlim,evF⟩:=AX ev;clear ev;clear ev;replace hl:=gu hl;replace hx:=ch hx;replace ha:=gG ha;replace hk:=eO hk;subst hx;subst ha;subst hk
   . skip
     . skip
       . skip
         (injection evF with e0_ f0_;subst e0_;subst f0_);refine wpAny_Assign_Subscript ?_ BK;refine Qs ((jK D e ks sc v env ρ A β σ s h3 hA F I).1 _ _ e1) (λu ai ⟨ah,aC,ao,ru⟩=>?_) λ_ _ x=>x;refine Qs ((jK D o ks sc ox env ρ A ah aa ai h1 hA (F.step aC) ao).1 _ _ e2) (λov al ⟨aO,cb,cc,ro⟩=>?_) λ_ _ x=>x;refine Qs ((jK D i ks sc ix env ρ A aO ae al h2 hA ((F.step aC).step cb) cc).1 _ _ e3) (λiv aR ⟨vS,rW,CZ,ri⟩=>?_) λ_ _ x=>x;obtain⟨ad,hb,rfl⟩:=rW.vrel0 ro;apply Cy (oB ri);intro t g;have S:=(aC.trans cb).trans rW;refine BZ (O:=b7) CZ hb hl g (rW.rel0 (cb.rel0 ru)) hlim λs' S' I'=>?_;exact⟨vS,(S.trans S').ofNo,I',rfl,F.step (S.trans S')⟩
theorem Kx(D:Wd Z P gn G cf d):PS Z P gn G cf d (.ret e):=λks sc x env ρ A β σ s hm hA F I hE=>vM.of <| by
 replace hm:=aq hm;obtain⟨o,h0,hm⟩:=hm;apply iG (uy h0);intro pos;replace hm:=aq hm;obtain⟨v,h00,hm⟩:=hm;subst h00
 . intro c σ' ev;rw[MC] at ev;obtain⟨y,aa,e1,ev⟩:=Res.bind_ok ev;(injection ev with e0_ f0_;subst e0_;subst f0_);rw[arm_exec_Return];refine Pe (Rb ?_);show wpAny _ _ (eval v env >>= λr=>pure (Flow.ret r)) _ _ _;exact Pe (Qs ((jK D e ks sc v env ρ A β σ s hm hA F I).1 _ _ e1) (λu ai ⟨ah,aC,ao,ru⟩=>Ql ⟨ah,aC.ofNo,ao,u,rfl,ru⟩) λ_ _ x=>x)
theorem Ho(D:Wd Z P gn G cf d):PS Z P gn G cf d .pass:=λks sc x env ρ A β σ s hm hA F I hE=>vM.of <| by replace hm:=aq hm;obtain⟨_,h0,hm⟩:=hm;apply iG (DY h0);intro pos;rw[arm_exec_Pass];exact Ev.standAt (Ev.pure I ⟨rfl,F⟩)
theorem KB(D:Wd Z P gn G cf d){a b:SL}(ha:GQ Z P gn G cf d a)(hb:GQ Z P gn G cf d b):PS Z P gn G cf d (.ite c a b):=λks sc x env ρ A β σ s hm hA F I hE=>by
 refine kk λK k=>?_;replace hm:=aq hm;obtain⟨⟨t,x,y⟩,h0,hm⟩:=hm;refine k ?_;apply iG (KF h0);intro pos
 . refine kk λK k=>?_;obtain⟨h1,h2,h3⟩:=Mf hm;refine k ?_;have ev:exec G cf (.ite c a b) ρ σ=(lJ (ag G cf c ρ σ)).bind λt aa=>if t then execs G cf a ρ aa else execs G cf b ρ aa:=by have ev0:exec G cf (.ite c a b) ρ σ=(ag G cf c ρ σ).bind (λx aa=>(bj (truthy aa x) aa).bind λt aa=>if t then execs G cf a ρ aa else execs G cf b ρ aa):=rfl;rw[ev0];unfold lJ;cases ag G cf c ρ σ <;> rfl
   rw[ev,arm_exec_If];refine vM.standAt (vM.bindO (jK D c ks sc t env ρ A β σ s h1 hA F I).2 λv w ah aa ai aC ao q _=>?_);subst q;cases v with
   | true=>exact ha ks sc x env ρ A ah aa ai h2 hA (F.step aC) ao hE
   | false=>exact hb ks sc y env ρ A ah aa ai h3 hA (F.step aC) ao hE
theorem Kz(D:Wd Z P gn G cf d):GQ Z P gn G cf d .nil:=λks sc xs env ρ A β σ s hm hA F I hE=>by replace hm:=fF hm;subst hm;exact vM.of (Ev.pure I ⟨rfl,F⟩)
theorem Hq(D:Wd Z P gn G cf d)(hs:PS Z P gn G cf d st)(hr:GQ Z P gn G cf d r):GQ Z P gn G cf d (.cons st r):=λks sc xs env ρ A β σ s hm hA F I hE=>by
 replace hm:=aq hm;obtain⟨⟨x,xs⟩,h0,hm⟩:=hm;replace h0:=mG h0;subst h0
 . simp only[Qw] at hm;rw[arm_execs_cons];intro c σ' ev;rw[GW] at ev;obtain⟨o,aa,h1,h2⟩:=Res.bind_ok ev;refine Pe (Qs (hs ks sc x env ρ A β σ s hm.1 hA F I hE o aa h1) (λf ai ⟨ah,aC,ao,q⟩=>?_) λv ai ⟨k,ds,q,fq⟩=>?_)
   . cases o with
     | next ρ'=>obtain⟨rfl,F'⟩:=q;exact Qs (hr ks sc xs env ρ' A ah aa ai hm.2 hA F' ao hE c σ' h2) (λf al ⟨aO,cb,cc,q⟩=>⟨aO,aC.trans cb,cc,q⟩) λv al ⟨k,ds,q,fq⟩=>⟨k,ds,q,fq.back aC⟩
     | ret v=>obtain⟨w,rfl,q⟩:=q;(injection h2 with e0_ f0_;subst e0_;subst f0_);exact Ql ⟨ah,aC,ao,w,rfl,q⟩
     | exc k ds=>exact q.elim
   . subst q;(injection h2 with e0_ f0_;subst e0_;subst f0_);exact⟨k,ds,rfl,fq⟩
variable {e:Addr}{hk:Hk}{hs:List Hd}{us:List Value}{f:Nat}{L:Option Addr}{out:Out}{tp np rp:Pos}{x y z:PyData}{b:SL}{aR:Shared}{fx:Str}{mL:Str->Option Value}
structure Landed(Z:Cx)(env:Env)(ks:List (Str×NameKind))(sc:List (Str×Nat))(L:Option Addr)(β:List Addr)(σ:ac)(s:Shared)(β':List Addr)(σ':ac)(s':Shared)(e:Addr)(k:Nat)(ds:List PyData):Prop where
 st:Step (own env) β σ s β' σ' s'
 inv:Inv Z β' σ' s'.heap
 nb:e∉β'
 fl:Fl L s.heap s'.heap e k ds
 fr:FrameOk Z env ks sc [] β' σ' s'.heap
 xd:k=6->XD s.heap β' σ' s'.heap e ds
theorem FlyQ.elim{Q:Prop}{v:Value}(q:FlyQ L Z (own env) β σ s σ' k ds (FrameOk Z env ks sc []) v s')(f:∀ β' e,v=.ref e->Landed Z env ks sc L β σ s β' σ' s' e k ds->Q):Q:=by obtain⟨β',e,h0,h1,h2,h3,h4,h5,h6⟩:=q;exact f β' e h0 ⟨h1,h2,h3,h4,h5,h6⟩
theorem Landed.q(q:Landed Z env ks sc L β σ s β' σ' s' e k ds):FlyQ L Z (own env) β σ s σ' k ds (FrameOk Z env ks sc []) (.ref e) s':=⟨β',e,rfl,q.st,q.inv,q.nb,q.fl,q.fr,q.xd⟩
theorem Fl.elim{Q:Prop}(q:Fl L h0 h e k ds)(f:∀ oe vs,h.get? e=some oe->oe.cls=.ref (KA k)->oe.data=.fields vs->gR L h e vs->(∀ T,vs[1]?=some (.ref T)->h0.get? T=none)->Q):Q:=by obtain⟨_,_,oe,vs,h1,h2,h3,h4,h5⟩:=q;exact f oe vs h1 h2 h3 h4 h5
theorem yg.elim{Q:Prop}(hE:yg A env)(hA:jy Z d A)(f:∀ outer L,A.frames=some (env::outer)->env.frame=some L->(env::outer).filterMap (·.frame)=Z.fr->(∀ x∈env::outer,x.scope.kind=.function/\∃ f',x.frame=some f'/\f'∈Z.fr)->Q):Q:=by obtain⟨outer,L,hfr,hfL⟩:=hE;obtain⟨l,hl,hlf,hlk⟩:=hA.2.2.2;rw[hfr] at hl;(injection hl with e0_;subst e0_);obtain⟨hfm,hfx⟩:=Cr hlf;exact f outer L hfr hfL hfm λx hx=>⟨hlk x hx,hfx x hx⟩
theorem Landed.frames(q:Landed Z env ks sc L β σ s β' σ' s' e k ds){l:List Env}(h:∀ x∈l,x.scope.kind=.function/\∃ f',x.frame=some f'/\f'∈Z.fr):s'.heap.FunFrames jM l:=tL λx hx'=>by obtain⟨h1,f',hf1,hf2⟩:=h x hx';obtain⟨⟨o',q1,q2⟩,_⟩:=q.fr.frs f' hf2;exact⟨by rw[h1];decide,f',o',hf1,q1,q2⟩
theorem Landed.noted{L':Option Addr}(q:Landed Z env ks sc L β σ s β' σ' s' e k ds)(F:dK Z β s.heap)(I:Inv Z β σ s.heap)(hfv:fv=.none\/∃ l,L'=some l/\fv=rawInt l)(hfs:∀ f∈fs,f∈Z.fr)
   (he:s'.heap.get? e=some oe) (hc:oe.cls=.ref (KA k)) (hd:oe.data=.fields vs) (hL:gR L s'.heap e vs) (hT:∀ T,vs[1]?=some (.ref T)->s.heap.get? T=none) (N:Noted fv fs e oe vs s'.heap h'):Landed Z env ks sc L' β σ s β' σ' { s' with heap:=h' } e k ds:=by
 have base0:∀ a,s.heap.get? a=none->Z.h₀.get? a=none:=λa q=>by
   cases z:Z.h₀.get? a with
   | none=>rfl
   | some o'=>rw[I.base a o' z] at q;injection q
 exact⟨q.st.noted N q.fl.1 hT λf' hf=>⟨(q.fr.frs f' (hfs f' hf)).1,(F f' (hfs f' hf)).2.1⟩,q.inv.noted (h0:=s.heap) N he hd hL (λf' hf=>q.fr.frs f' (hfs f' hf)) (base0 _ q.fl.1) λT z=>base0 _ (hT T z),q.nb,Fl.noted N hfv q.st.alive q.fl.1 hT q.fl.2.1 hc,q.fr.noted N he hd hL λf' hf=>(q.fr.frs f' (hfs f' hf)).1,λz=>(q.xd z).noted N he hd hL λf' hf=>⟨(q.fr.frs f' (hfs f' hf)).1,λy=>by obtain⟨⟨o,y',_⟩,_⟩:=F f' (hfs f' hf);rw[y] at y';injection y'⟩⟩
theorem FF{v:Value}(hA:jy Z d A)(hE:yg A env)(F:dK Z β s.heap)(I:Inv Z β σ s.heap)(ho:out=.exc k ds)(fq:FlyQ env.frame Z (own env) β σ s σ' k ds (FrameOk Z env ks sc []) v aR) :
   notedBy (model Z.prog Z.w) A env (cameBackBy (model Z.prog Z.w) A env (λv s'=>X2 λk ds=>out=.exc k ds/\FlyQ env.frame Z (own env) β σ s σ' k ds (FrameOk Z env ks sc []) v s')) v aR:=
 fq.elim λβ' e hv q=>hE.elim hA λouter L hfr hfL hfm hfx=>q.fl.elim λoe vs he hc hd hL hT=>by subst hv;exact EM hfr (q.frames hfx) hfL he hd hL λfK N=>⟨k,ds,ho,(q.noted F I (.inr ⟨L,hfL,rfl⟩) (λf' hf=>hfm▸hf) he hc hd hL hT N).q⟩
theorem zY(t:RT)(k:Nat)(ds:List PyData)(ρ:Fm)(σ:ac):jm t (.exc k ds) ρ σ=.ok (.exc k ds) σ:=rfl
theorem jl{v:V}(h:oM v=none)(t:RT)(ρ:Fm)(σ:ac):jm t v ρ σ=Pq t v ρ σ:=by unfold jm;rw[h]
theorem Gf(D:Wd Z P gn G cf d){x:Str}{pos:Pos}(h1:(P f).map (λfn=>(fn.name,fn.meth||fn.ctor))=some (x,false))(h2:qG ks x=true)(h3:qu P gn ks sc es args=true)(hA:jy Z d A)(F:FrameOk Z env ks sc ρ β σ s.heap)(I:Inv Z β σ s.heap) :
   C4 Z A (eval (.Call (.Name x p) args [] pos) env) ((aV G cf es ρ σ).bind λvs aa=>cf f vs aa) β σ s:=λc σ' e=>by
 obtain⟨fn,hf,hq⟩:=QL.mp h1;have hq1:=(Prod.mk.inj hq).1;subst hq1;obtain⟨a,o,fd,hg,ho,hd,hcall⟩:=D.c f fn hf (Prod.mk.inj hq).2;obtain⟨vs,aa,he,hc⟩:=Res.bind_ok e;refine PyProof.Rows.Call_Name (c9 (pos:=pos) h3).1 (gH D F I h2 hg ?_);refine callWith_function (o:=o) (fd:=fd) (eJ (si D es) h3 hA F I he λws β' s' S I' r=>⟨⟨I'.base a o ho,hd⟩,?_⟩);exact Qs (hcall A β' aa s' ws vs hA (F.step S).frs I' r c σ' hc) (λv s'' ⟨z,β'',S',I'',q⟩=>⟨z,β'',S.trans S',I'',q⟩) λv s'' ⟨k,ds,q,fq⟩=>⟨k,ds,q,fq.back S⟩
theorem FlyQ.own{v:Value}(F:FrameOk Z env ks sc ρ β σ s.heap)(q:FlyQ none Z b7 β σ s σ' k ds (λ_ _ _=>True) v s'):FlyQ env.frame Z (own env) β σ s σ' k ds (FrameOk Z env ks sc []) v s':=by obtain⟨β',e,rfl,S,I,n,f,_,y⟩:=q;obtain⟨f1,f2,oe,vs,f3,f4,f5,f6,f7⟩:=f;exact⟨β',e,rfl,S.ofNo,I,n,⟨f1,f2,oe,vs,f3,f4,f5,f6.any,f7⟩,(F.step S).bare,y⟩
theorem ID{t:RT}{v:V}{c:Out}(F:FrameOk Z env ks sc ρ β σ s.heap)(ev:jm t v ρ ae=.ok c σ'):(X2 λk ds=>v=.exc k ds/\FlyQ none Z b7 β σ s ae k ds (λ_ _ _=>True) u s')->X2 λk ds=>c=.exc k ds/\FlyQ env.frame Z (own env) β σ s σ' k ds (FrameOk Z env ks sc []) u s':=λ⟨k,ds,q,fq⟩=>by rw[q,zY] at ev;(injection ev with e0_ f0_;subst e0_;subst f0_);exact⟨k,ds,rfl,fq.own F⟩
theorem D2{x:Expr}{lp:Pos}{E:Value->Shared->Prop}(hx:backTo lp (starEach [x] env)=[(false,eval x env)])(h:wpAny (model Z.prog Z.w) A (eval x env) (λu ai=>wpAny (model Z.prog Z.w) A (newList [u]) (λr al=>Q (.ret r) al) E ai) E s):wpAny (model Z.prog Z.w) A (PySem.exec (.Return (some (.List [x] lp)) sp) env) Q E s:=by refine Ht ?_;rw[arm_eval_List,hx];exact Pe (Rb (Pe (spliced_cons (Qs h (λu ai q=>spliced_nil q) λ_ _ x=>x))))
theorem CK{t:RT}{x:Stmt}{v:V}{c:Out}{E:Value->Shared->Prop}(hx:Pp sc t x=some (.Call (.Name fx p) args [] pos))(F:FrameOk Z env ks sc ρ β σ s.heap)(ev:jm t v ρ ae=.ok c σ')(C:wpAny (model Z.prog Z.w) A (eval (.Call (.Name fx p) args [] pos) env) (λa ai=>oM v=none/\Po Z b7 β σ s ae ai λβ'=>aA β' ae ai.heap a v) E s)
   (fin:∀ f s',(Po Z (own env) β σ s σ' s' λβ'=>FR Z env ks sc f c β' σ' s'.heap)->Q f s'):wpAny (model Z.prog Z.w) A (PySem.exec x env) Q E s:=by
 cases t with
 | drop=>apply iG (ww hx);intro sp;refine wy F.kind rfl (Qs C (λa ai ⟨z,ah,S,ao,q⟩=>?_) λ_ _ x=>x);rw[jl z] at ev;(injection ev with e0_ f0_;subst e0_;subst f0_);exact fin _ _ ⟨ah,S.ofNo,ao,rfl,F.step S⟩
 | var i=>
   replace hx:=Qo.mp hx;obtain⟨⟨txs,w⟩,hz,hx⟩:=hx;replace hx:=Qo.mp hx;obtain⟨tx,h00,hx⟩:=hx;replace hx:=Qo.mp hx;obtain⟨n,hn,hx⟩:=hx;apply iG (lR hz);intro sp;apply Bg (show txs=[tx] from de h00);apply iG (bP hn);intro px;by_cases hl:sc.lookup n=some i
   . rw[if_pos hl] at hx;apply Bg (show w=(.Call (.Name fx p) args [] pos) from Option.some.inj hx);refine Au (nj rfl) rfl (Qs C (λu ai ⟨z,ah,S,ao,q⟩=>?_) λ_ _ x=>x);rw[jl z] at ev;(injection ev with e0_ f0_;subst e0_;subst f0_);exact wpAny_assign_Name (rM (F.step S) ao hl q λs' F' S' I'=>fin _ _ ⟨ah,S.ofNo.trans S',I',rfl,F'⟩)
   . rw[if_neg hl] at hx;injection hx
 | ret=>injection hx
 | retL=>replace hx:=Qo.mp hx;obtain⟨w,hz,hx⟩:=hx;replace hz:=Qo.mp hz;obtain⟨o,hz,hw⟩:=hz;apply iG (uy hz);intro sp;apply Bg (show o=some w from hw);replace hx:=Qo.mp hx;obtain⟨xs,hg,hx⟩:=hx;apply iG (xt hg);intro lp;apply Bg (de hx);refine D2 rfl (Qs C (λu ai ⟨z,ah,S,ao,q⟩=>?_) λ_ _ x=>x);rw[jl z] at ev;have ev:oc (bK v) (λx=>Res.ok (Out.ret (.d (.list [x]))) ae) .bad=.ok c σ':=ev;obtain⟨y,hy,ev⟩:=iB ev;(injection ev with e0_ f0_;subst e0_;subst f0_);rw[ch hy] at q;have M:=dI (O:=b7) (A:=A) (m:=false) (l:=[y]) (t:=newList [u]) ao (by simp[LIM]) (wpAny_newList (by exact⟨_,_,0,rfl,aU _,Qy _ rfl,aS _,rfl,rfl,by simpa using RelAll.one q⟩) (by simp[sizeLine])) _ _ rfl;exact Qs M (λr al ⟨aO,cb,cc,yJ⟩=>fin _ _ ⟨aO,(S.trans cb).ofNo,cc,r,rfl,yJ⟩) λ_ _ x=>x.elim
theorem D0(D:Wd Z P gn G cf d){t:RT}:PS Z P gn G cf d (.calls t f es):=λks sc x env ρ A β σ s hm hA F I hE=>by refine kk λK k=>?_;replace hm:=aq hm;obtain⟨v,hx,hm⟩:=hm;replace hm:=aq hm;obtain⟨⟨fx,args⟩,h0,hm⟩:=hm;obtain⟨p,pos,e0⟩:=eW h0;rw[e0] at hx;obtain⟨h1,h3⟩:=Qn.mp hm;obtain⟨h1,h2⟩:=Qn.mp h1;have h1:=of_decide_eq_true h1;clear h0 e0 hm;refine k λc σ' ev=>?_;clear k;have ev:((aV G cf es ρ σ).bind λvs aa=>(cf f vs aa).bind λv ae=>jm t v ρ ae)=.ok c σ':=ev;obtain⟨vs,σa,ea,ev⟩:=Res.bind_ok ev;obtain⟨v,ae,eb,ev⟩:=Res.bind_ok ev;have C:=Gf (p:=p) (pos:=pos) D h1 h2 h3 hA F I v ae (by exact ea▸eb);clear h1 h2 h3 eb ea;exact CK hx F ev (Qs C (λ_ _ x=>x) λ_ _=>ID F ev) λ_ _ q=>q
theorem VRels.two{vs:List Value}(r:VRels β σ h vs [.d x,.d y]):X2 λv1 v2=>A3 (vs=[v1,v2]) (Rel (TT β σ) h v1 x) (Rel (TT β σ) h v2 y):=by
 cases r with
 | cons r1 r=>cases r with
   | cons r2 r=>cases r;exact⟨_,_,rfl,r1,r2⟩
theorem KL(D:Wd Z P gn G cf d){pos:Pos}{Q:Flow->Shared->Prop}{E:Value->Shared->Prop}(hg:qG ks (lg 6)=true)(h3:qu P gn ks sc es args=true)(hh:A.handled=none)(hA:jy Z d A)(F:FrameOk Z env ks sc ρ β σ s.heap)(I:Inv Z β σ s.heap)(he:aV G cf es ρ σ=.ok [.d x,.d y] σ')
   (k:∀ v s',FlyQ env.frame Z (own env) β σ s σ' 6 [x,y] (FrameOk Z env ks sc []) v s'->E v s'):wpAny (model Z.prog Z.w) A (PySem.exec (.Raise (some (.Call (.Name (lg 6) p) args [] pos)) none sp) env) Q E s:=by
 have es':=c9 (env:=env) (pos:=pos) h3;rw[arm_exec_Raise];refine Pe (Rb ?_);refine XAt.elim (D.x.own 6 (QP 6)).2 λnm q' N bs hdct sn sub ab col dd k0 k1 k2 k3 k5 mN hC hN _ _=>?_;refine yI (C:=KA 6) (nm:=nm) (q:=q') (N:=N) (bs:=bs) (bm:=dG 6) (hdct:=hdct) (sn:=sn) (sub:=sub) (ab:=ab) (col:=col) (dd:=dd) (k0:=k0) (k1:=k1) (k2:=k2) (k3:=k3) (k5:=k5) (newId:="ValueError.__new__") (by rw[hY (by decide),Rh];rfl) hh ?_;refine Pe (Qs (Q:=λv ai=>X4 λe t D sl=>A4 (v=.ref e) (ai.heap.get? (KA 6)=some (excClassObj nm q' (KA 6) N bs (dG 6) hdct sn sub ab col dd k0 k1 k2 k3 k5 "ValueError.__new__")) (ai.heap.get? e=some { cls:=.ref (KA 6),dict:=D,data:=.fields #[.ref t,.none,.none,.none,.bool false,.none],slots:=sl }) (E (.ref e) ai)) ?_ (λv aR mX=>Pe (Rb (Ql mX))) λ_ _ z=>z);refine PyProof.Rows.Call_Name es'.1 (gH D F I hg (D.x.own 6 (QP 6)).1 ?_);unfold callWith;refine Pe (Rs (eJ (si D es) h3 hA F I he λws β' s' S I' r=>Pe (Rb ?_)));obtain⟨v1,v2,rfl,r1,r2⟩:=r.two;have X6:=Gc (D.x.at I' (QP 6)) (D.x.at I' (QI _));have hlim:=(D.w.keeps I').2.2;have hC':=I'.base _ _ hC;obtain⟨hp,g,dr,tk,os⟩:=s';rw[es'.2];refine Pe (wpAny_keeperOf_exc hC' ?_);refine Pe (zJ (prog:=Z.prog) (w:=Z.w) (h:=hp) (g:=g) (d:=dr) (t:=tk) (os:=os) (v1:=v1) (v2:=v2) X6 hlim (QN (Ra (Qz _ d) (by decide)) hA.2.1) λh' tk' e M=>Pe (Rs (wpAny_point (Ql ?_))));obtain⟨t,Dd,sl,m,kp,e1,e2,e3,e4,e5⟩:=M;have G':Step b7 β' σ' ⟨hp,g,dr,tk,os⟩ β' σ' ⟨h',g,dr,tk',os⟩:=Step.grow kp rfl rfl;have nb:Dd∉β':=I'.notMem e3;refine⟨e,t,_,sl,rfl,kp _ _ hC',e2,k _ _ ⟨β',e,rfl,(S.trans G').ofNo,I'.grow kp,I'.notMem e1,⟨S.alive _ e1,⟨by decide,by decide⟩,_,_,e2,rfl,rfl,.inl rfl,λT q=>by (injection q with e0_;injection e0_)⟩,((F.step S).step G').bare,λ_=>⟨_,Dd,m,v1,v2,x,y,rfl,e2,rfl,⟨S.alive _ e3,nb⟩,e4,e5,G'.rel0 r1,G'.rel0 r2⟩⟩⟩
theorem KM(D:Wd Z P gn G cf d){pos:Pos}{vs:List V}{E:Value->Shared->Prop}(hk:1<=k/\k<=5)(hg:qG ks (lg k)=true)(h3:qu P gn ks sc es args=true)(hlen:args.length<=1000)(hh:A.handled=none)(hA:jy Z d A)(F:FrameOk Z env ks sc ρ β σ s.heap)(I:Inv Z β σ s.heap)(he:aV G cf es ρ σ=.ok vs σ')
   (fin:∀ v s',FlyQ env.frame Z (own env) β σ s σ' k [] (FrameOk Z env ks sc []) v s'->E v s'):wpAny (model Z.prog Z.w) A (PySem.exec (.Raise (some (.Call (.Name (lg k) p) args [] pos)) none sp) env) Q E s:=by
 refine XAt.elim (D.x.own k (Sh hk.2)).2 λnm q N bs hdct sn sub ab col dd k0 k1 k2 k3 k5 mN hC hN hq hi=>?_;refine XAt.elim (D.x.own 0 (QI _)).2 λnm' q' N' bs' hdct' sn' sub' ab' col' dd' k0' k1' k2' k3' k5' mN' hC' hN' hq' hi'=>?_;have es':=c9 (env:=env) (pos:=pos) h3;refine wpAny_Raise_call_subT (C:=KA k) (nm:=nm) (q:=q) (N:=N) (bs:=bs) (bm:=dG k) (hdct:=hdct) (sn:=sn) (sub:=sub) (ab:=ab) (col:=col) (dd:=dd) (k0:=k0) (k1:=k1) (k2:=k2) (k3:=k3) (k5:=k5)
   PySem.F.excBase_ValueError (mN:=mN) (by rw[hY hk.1,Rh];rfl) hh (by rw[es'.1];exact es'.2) (hi hk.2) (gH D F I hg ((D.x.own k (Sh hk.2)).1) ⟨rfl,?_⟩)
 rw[es'.1];refine eJ (si D es) h3 hA F I he λws β' s' S I' r=>⟨rfl,?_,I'.base _ _ hC,hN.keeps I'.base,?_,λh' e M=>?_⟩
 . show ws.length<=sizeLine;rw[fO r,kG h3 he];exact iv hlen (by decide)
 . rw[hY hk.1];exact .own (I'.base _ _ hC') (hN'.keeps I'.base) (hi' (QI _)) .base
 . obtain⟨t,ht,_,_⟩:=M.there;have G':Step b7 β' σ' s' β' σ' { s' with heap:=h' }:=Step.grow M.keeps rfl rfl;exact fin _ _ ⟨β',e,rfl,(S.trans G').ofNo,I'.grow M.keeps,I'.notMem M.new,⟨S.alive _ M.new,⟨hk.1,Sh hk.2⟩,_,_,ht,rfl,rfl,.inl rfl,λT q=>by (injection q with e0_;injection e0_)⟩,((F.step S).step G').bare,λz=>absurd (z▸hk.2) (by decide)⟩
theorem DZ(D:Wd Z P gn G cf d):PS Z P gn G cf d (.raise k es):=λks sc x env ρ A β σ s hm hA F I hE=>by
 replace hm:=aq hm;obtain⟨⟨ox,oc⟩,h0,hm⟩:=hm;apply iG (BV h0);intro sp;replace hm:=aq hm;obtain⟨ex,h00,hm⟩:=hm;apply Bg (show ox=some ex from h00);replace hm:=aq hm;obtain⟨⟨z,args⟩,h01,hm⟩:=hm;apply GP (eW h01);intro p pos;refine kk λK kx=>?_;obtain⟨hm,hlen⟩:=Qn.mp hm;obtain⟨hm,h3⟩:=Qn.mp hm;obtain⟨hm,hP⟩:=Qn.mp hm;obtain⟨hm,hk⟩:=Qn.mp hm;obtain⟨hm,hg⟩:=Qn.mp hm;obtain⟨hn,hz⟩:=Qn.mp hm;replace hk:=of_decide_eq_true hk;replace hz:z=lg k:=of_decide_eq_true hz;replace hn:oc=none:=Q9.mp hn;rw[hz] at hg;refine kx ?_;clear kx h0 h00 h01 hm;apply Bg hz;apply Bg hn;clear hz hn;intro c σ' ev;have ev:((aV G cf es ρ σ).bind λvs aa=>Oh k vs aa)=.ok c σ':=ev;obtain⟨vs,aa,he,ev⟩:=Res.bind_ok ev;unfold Oh at ev;by_cases hk5:k<=5
 . rw[if_pos ⟨hk.1,hk5⟩] at ev;cases (ev);exact KM D ⟨hk.1,hk5⟩ hg h3 (of_decide_eq_true hlen) (hA.1 (D.q hP)) hA F I he λv s' q=>⟨k,[],rfl,q⟩
 . have hk6:k=6:=Si hk.2 (Nat.lt_of_not_le hk5);rw[if_neg λz=>hk5 z.2,if_pos hk6] at ev;obtain⟨⟨a,b⟩,h2,ev⟩:=iB ev;obtain⟨x,y,hx,hy,ev⟩:=JK ev;rw[iM h2,show a=.d x from ch hx,show b=.d y from ch hy] at he;(injection ev with e0_ f0_;subst e0_;subst f0_);clear h2 hx hy;subst hk6;exact KL D hg h3 (hA.1 (D.q hP)) hA F I he λv s' q=>⟨6,[x,y],rfl,q⟩
theorem Cg (D:Wd Z P gn G cf d) {n:Str} {v:V} {E:Value->Shared->Prop} (h1:(P f).map (·.name)=some fx) (h1':fx=("_law_kind":Str)) (h2:qG ks fx=true) (hn:sc.lookup n=some i) (hno:bV n=true)
   (hA:jy { Z with q:=true } d A) (F:FrameOk Z env ks sc ρ β σ s.heap) (I:Inv Z β σ s.heap) (hv:ρ[i]?=some (.exc k ds)) (hc:cf f [.exc k ds] σ=.ok v σ') (hx:oM v=none) :
   wpAny (model Z.prog Z.w) A (eval (.Call (.Name fx p) [.Name n np] [] pos) env) (λa s'=>Po Z b7 β σ s σ' s' λβ'=>aA β' σ' s'.heap a v) E s:=by
 obtain⟨fn,hf,rfl⟩:=QL.mp h1;obtain⟨a,o,fd,hg,ho,hd,hcall⟩:=D.k f fn hf h1';refine PyProof.Rows.Call_Name rfl (gH D F I h2 hg ?_);refine callWith_function (o:=o) (fd:=fd) (evalArgs_plain (spliced_cons (wpAny_Name (F.load hn hv (by simp) λw hw=>spliced_nil ⟨⟨I.base a o ho,hd⟩,?_⟩) (cI hno).1)));refine Qs (hcall A β σ s [w] [.exc k ds] hA F.frs I (.cons hw .nil) v σ' hc) (λu s'' q=>q.2) λu s'' ⟨k',ds',q,_⟩=>?_;subst q;injection hx
theorem EH {n:Str} {Q:Prop} (hm:OD P ks f n v=true) (q:∀ fp np fpos,v=.Call (.Name "_law_kind" fp) [.Name n np] [] fpos->(P f).map (·.name)=some "_law_kind"->qG ks "_law_kind"=true->Q):Q:=by replace hm:=aq hm;obtain⟨⟨fx,fargs⟩,q5,hm⟩:=hm;obtain⟨fp,fpos,rfl⟩:=eW q5;replace hm:=aq hm;obtain⟨ax,q6,hm⟩:=hm;replace q6:fargs=[ax]:=de q6;subst q6;replace hm:=aq hm;obtain⟨n',q7,hm⟩:=hm;obtain⟨np,rfl⟩:=bP q7;simp only[Qw,decide_eq_true_eq] at hm;obtain⟨⟨⟨q8,hf⟩,hf'⟩,hgf⟩:=hm;subst q8;subst hf';exact q fp np fpos rfl hf hgf
theorem yX{n x:Str}(hm:Ju n x v=true):X2 λnp p=>v=.Attribute (.Name n np) x p:=by replace hm:=aq hm;obtain⟨⟨o,y,p⟩,h0,hm⟩:=hm;apply Bg (xw h0);replace hm:=aq hm;obtain⟨n',h1,hm⟩:=hm;obtain⟨np,h1⟩:=bP h1;subst h1;simp only[Qw,decide_eq_true_eq] at hm;obtain⟨rfl,h2⟩:=hm;subst h2;exact⟨np,p,rfl⟩
theorem Cb{n:Str}{v:V}{f:Flow}{E:Value->Shared->Prop}(hkl:env.kindOf n=some .local)(F:FrameOk Z env ks sc ρ β σ s.heap)(I:Inv Z β σ s.heap)(r:aA β σ s.heap u v)(q:∀ s',Step (own env) β σ s β σ s'->Inv Z β σ s'.heap->aA β σ s'.heap u v->Q f s') :
   wpAny (model Z.prog Z.w) A (do bindName env n .none;unbindBehindTheSuite env n pos) (λ_ s'=>Q f s') E s:=by
 obtain⟨PW,O8,_⟩:=F.ns;refine wpAny_nameGoes hkl O8 (by refine F.kind▸?_;rfl) λNv PV O7 Jx=>?_;have hk6':∀ b' o',b'≠env.locals->s.heap.get? b'=some o'->Nv.get? b'=some o':=λb' o' q z=>(Jx.2 b' q).trans z;have nS:=F.notSeq env.locals (.inl rfl);refine q _ ⟨⟨[],by simp,by simp⟩,λk c' _ e=>⟨c',e,id,id,id⟩,JE λb' o' z _ hb'=>hk6' b' o' (λq=>hb' (.inl q)) z,λb' z=>?_,rfl,rfl⟩ (I.touch (W:=(·=env.locals)) (λ_ q=>q▸(F.apart _ (.inl rfl)).1) (λ_ q=>q▸(F.apart _ (.inl rfl)).2) (λ_ q=>q▸nS) hk6') (fX hk6' nS (F.apart _ (.inl rfl)).1 r);by_cases q:b'=env.locals
 . subst q;obtain⟨o',_,_,z',_⟩:=O7;have z:Nv.get? env.locals=none:=z;rw[z'] at z;injection z
 . exact(Jx.2 b' q).symm.trans z
def I5(Z:Cx)(A:Around)(env:Env)(v:Expr)(σ':ac)(x:V)(β:List Addr)(σ:ac)(s:Shared):Prop:=
 wpAny (model Z.prog Z.w) A (eval v env) (λu ai=>Po Z b7 β σ s σ' ai λβ'=>aA β' σ' ai.heap u x) (λ_ _=>False) s
theorem DD{x:V}{n:Str}{v:Expr}{E Od:Value->Shared->Prop}(q:Landed Z env ks sc none β σ s β' aa ai e k ds)(GF:FrameOk Z env ks sc ρ β σ s.heap)
   (hni:sc.lookup n=some i) (hkl:env.kindOf n=some .local)
   (hv:∀ ρ' dm,ρ'[i]?=some (.exc k ds)->FrameOk Z env ks sc ρ' β' aa dm.heap->Inv Z β' aa dm.heap->Step (own env) β' aa ai β' aa dm->(k=6->XD s.heap β' aa dm.heap e ds)->(X2 λo vs=>A3 (dm.heap.get? e=some o) (o.cls=.ref (KA k)) (o.data=.fields vs))->(∃ m,dm.heap.Ns env.locals m/\m n=some (.ref e))->I5 Z (A.mark (some (.ref e))) env v σ' x β' aa dm)
   (k':∀ lK u fP,Step (own env) β σ s lK σ' fP->Inv Z lK σ' fP.heap->aA lK σ' fP.heap u x->Q (.ret u) fP) :
   wpAny (model Z.prog Z.w) (A.mark (some (.ref e))) (storeName env n (.ref e)) (λ_ al=>wpAny (model Z.prog Z.w) (A.mark (some (.ref e))) (PySem.execs [.Return (some v) rp] env)
     (λf aR=>wpAny (model Z.prog Z.w) A (do bindName env n .none;unbindBehindTheSuite env n pos) (λ_ s'=>Q f s') E' aR) E al) Od ai:=by
 refine q.fl.elim λoe vs he hc hd _ _=>(q.fr.empty:FrameOk Z env ks sc (List.replicate (i+1) .un) β' aa ai.heap).store (v:=.exc k ds) q.inv hni ⟨e,oe,vs,rfl,he,⟨hc,hd,q.fl.2.1⟩,λz=>q.nb z.mem⟩ λdm C0 N8 GE kv kl=>?_;obtain⟨keepL,hNm⟩:=kl hkl;have lo:s.heap.get? env.locals≠none:=λz=>by obtain⟨o,ho,_⟩:=GF.ownSome (.inl rfl);rw[z] at ho;injection ho
 have eL:e≠env.locals:=λz=>lo (z▸q.fl.1);rw[arm_execs_cons,arm_exec_Return];refine Pe (Pe (Rb ?_));show wpAny _ _ (eval v env >>= λr=>pure (Flow.ret r)) _ _ _;refine Pe (Qs (hv _ dm (by simp) C0 GE N8 (λz=>(q.xd z).move (λ_ y=>y) (λo y=>⟨o,keepL e o eL y,rfl⟩) (λD o y _ nb hn=>⟨nb,o.slots,keepL D o (λy'=>lo (y'▸hn)) y⟩) λu y r=>kv u (.d y) r) ⟨oe,vs,keepL e oe eL he,hc,hd⟩ hNm) (λu fP ⟨lK,CX,GD,r⟩=>Ql (Ql ?_)) λ_ _ z=>z.elim);exact Cb hkl (C0.step CX) GD r λOm O6 Pb Ov=>k' lK u Om (((q.st.trans N8).trans CX.ofNo).trans O6) Pb Ov
theorem rR (D:Wd Z P gn G cf d) {n y:Str} {m:Str->Option Value} {Q:Value->Shared->Prop} {E:Value->Shared->Prop} (hy:y∈dN) (hB:typeLookup (.type "ValueError") y=pure none) (hno:bV n=true) (hk:env.scope.kind=.function) (hkl:env.kindOf n=some .local) (I:Inv Z β σ s.heap)
   (hNm:s.heap.Ns env.locals mL) (hn':mL n=some (.ref e)) (he:s.heap.get? e=some oe) (hc:oe.cls=.ref (KA 6)) (hd:oe.data=.fields vs) (hD:oe.dict=some Dd) (hn:s.heap.Ns1 Dd m) (hu:m y=some u) (r:Rel (TT β σ) s.heap u z) (q:∀ tk,Q u { s with toks:=tk }) :
   wpAny (model Z.prog Z.w) A (eval (.Attribute (.Name n np) y pos) env) Q E s:=by
 refine PyProof.Rows.Attribute_name (wpAny_Name (wpAny_loadName_local hk hkl hNm hn' ?_) (cI hno).1);obtain⟨mN,mN',T,qn,_⟩:=Gc (D.x.at I (QP 6)) (D.x.at I (QI _));have n1:=qn "__getattribute__" (.head _);have n2:=qn "__getattr__" (.tail _ (.head _));have n3:=qn y hy;obtain⟨hp,g,dr,tk,os⟩:=s;exact xq T n1.1 n1.2 n2.1 n2.2 n3.1 n3.2 hB he hc hd hD hn hu (by cases r <;> rfl) λt'=>q t'
theorem Ah{xs:List PyData}{E:Value->Shared->Prop}(I:Inv Z β σ s.heap)(r:RelAll (TT β σ) s.heap us xs)(hl:xs.length<=1000):wpAny (model Z.prog Z.w) A (newTuple us) (λw s'=>Po Z b7 β σ s σ s' λβ'=>aA β' σ s'.heap w (.d (.tuple xs))) E s:=by exact Nl (rc (O:=b7) I (iv hl (by decide)) (wpAny_newTuple ⟨_,_,0,rfl,aU _,Qy _ rfl,aS _,rfl,rfl,by simpa using r⟩ (by rw[r.length];exact iv hl (by decide))) _ _ rfl)
theorem XD.step(X:XD h0 β σ s.heap e ds)(S:Step b7 β σ s ah aa ai)(he:s.heap.get? e=some oe)(hd:oe.data=.fields vs)(nb:e∉β):XD h0 ah aa ai.heap e ds:=
 X.move (λ_ z=>z) (λo z=>⟨o,S.keep e o z (λy=>nb y.tt.mem) id (by rw[he] at z;(injection z with e0_;subst e0_);exact d0 hd),rfl⟩) (λD o z hf nb' _=>⟨(λy=>by
     obtain⟨l,rfl,g⟩:=S.ext;rcases Qx.mp y with y | y
     . exact nb' y
     . rw[g D y] at z;injection z),(S.keepW D o z (λy=>nb' y.tt.mem) id).elim (λy=>⟨o.slots,y⟩) λy=>y.2.2⟩) λv x r=>S.rel0 r
theorem E5(D:Wd Z P gn G cf d){a:Bool}{n:Str}{q:Expr}{xs:List Expr}{kk:Nat}(hq:OD P ks f n q=true)(hxs:(if a then ob (two xs) λr=>Ju n jn r.1&&Ju n dj r.2 else xs.isEmpty)=true)(hak:a=true->k=6)
   (hni:sc.lookup n=some i) (hno:bV n=true) (hkl:env.kindOf n=some .local) (hA:jy { Z with q:=true } d A) (F:FrameOk Z env ks sc ρ β σ s.heap) (I:Inv Z β σ s.heap) (hv:ρ[i]?=some (.exc k ds)) (ec:cf f [.exc k ds] σ=.ok (.d x) σ')
   (nb:e∉β) (xd:k=6->XD h0 β σ s.heap e ds) (he:s.heap.get? e=some oe) (hc:oe.cls=.ref (KA k)) (hd:oe.data=.fields vs) (hNm:s.heap.Ns env.locals mL) (hn:mL n=some (.ref e)):I5 Z A env (.Tuple (q::xs) kk tp) σ' (.d (.tuple (x::if a then ds else []))) β σ s:=by
 refine EH hq λfp np fpos q0 hf hgf=>?_;subst q0;have C:=Cg (p:=fp) (np:=np) (pos:=fpos) D hf rfl hgf hni hno hA F I hv ec rfl (E:=λ_ _=>False);unfold I5;cases a with
 | false=>have hxs:xs=[]:=fF hxs;subst hxs;have trees:backTo tp (starEach [.Call (.Name "_law_kind" fp) [.Name n np] [] fpos] env)=[(false,eval (.Call (.Name "_law_kind" fp) [.Name n np] [] fpos) env)]:=rfl;rw[arm_eval_Tuple,trees];exact Pe (Rb (Pe (spliced_cons (Qs C (λu ai ⟨ah,S,ao,r⟩=>spliced_nil (Qs (Ah ao (RelAll.one r) (QM rfl)) (λw al ⟨aO,cb,cc,uz⟩=>⟨aO,S.trans cb,cc,uz⟩) λ_ _ z=>z)) λ_ _ z=>z))))
 | true=>
   have hk:=hak rfl;subst hk;have hxs:(ob (two xs) λr=>Ju n jn r.1&&Ju n dj r.2)=true:=hxs;replace hxs:=aq hxs;obtain⟨⟨y1,y2⟩,h2,hxs⟩:=hxs;have h2:xs=[y1,y2]:=iM h2;subst h2;obtain⟨m1,m2⟩:=Qn.mp hxs;obtain⟨np1,p1,m1⟩:=yX m1;obtain⟨np2,p2,m2⟩:=yX m2;have m2:y2=_:=m2;subst m1;subst m2;have trees:backTo tp (starEach [.Call (.Name "_law_kind" fp) [.Name n np] [] fpos,.Attribute (.Name n np1) jn p1,.Attribute (.Name n np2) dj p2] env)=[(false,eval (.Call (.Name "_law_kind" fp) [.Name n np] [] fpos) env),(false,eval (.Attribute (.Name n np1) jn p1) env),(false,eval (.Attribute (.Name n np2) dj p2) env)]:=rfl;rw[arm_eval_Tuple,trees];refine Pe (Rb (Pe (spliced_cons (Qs C (λu ai ⟨ah,S,ao,r⟩=>?_) λ_ _ z=>z))));have tF:=S.keep e oe he (λy=>nb y.tt.mem) id (d0 hd);obtain⟨oe',Dd,m,v1,v2,x1,x2,rfl,z2,z3,z4,z5,z6,z7,z8⟩:=(xd rfl).step S he hd nb;replace z2:=tF▸z2;(injection z2 with e0_;subst e0_);have uW:∃ mL,ai.heap.Ns env.locals mL/\mL n=some (.ref e):=by
     obtain⟨o,es,ep,ho,rr⟩:=hNm;rcases S.keepW _ o ho (λy=>(F.apart _ (.inl rfl)).1 y.tt.mem) id with y | ⟨_,_,sl,y⟩
     . exact⟨mL,⟨o,es,ep,y,rr⟩,hn⟩
     . exact⟨mL,⟨_,es,ep,y,rr⟩,hn⟩
   obtain⟨mL',uW,mf⟩:=uW;have k1:jn∈dN:=.tail _ (.tail _ (.tail _ (.tail _ (.head _))));refine spliced_cons (rR D k1 tA hno F.kind hkl ao uW mf tF hc hd z3 z5 z6.1 z7 λtk=>spliced_cons (rR (s:={ ai with toks:=tk }) D (.tail _ (.tail _ (.tail _ (.tail _ (.tail _ (.head _)))))) nV hno F.kind hkl ao uW mf tF hc hd z3 z5 z6.2 z8 λtk'=>spliced_nil ?_));exact Qs (Ah (s:={ ai with toks:=tk' }) (us:=[u,v1,v2]) (xs:=[x,x1,x2]) ao (.cons r (.cons z7 (.cons z8 .nil))) (by simp)) (λw al ⟨aO,cb,cc,uz⟩=>⟨aO,(S.trans (Step.grow (s:=ai) (ai:={ ai with toks:=tk' }) (λ_ _ z=>z) rfl rfl)).trans cb,cc,uz⟩) λ_ _ z=>z
def Pc(Z:Cx)(A:Around)(env:Env)(ks:List (Str×NameKind))(sc:List (Str×Nat))(β:List Addr)(σ:ac)(s:Shared)(β':List Addr)(aa:ac)(al:Shared)(e:Addr)(k:Nat)(ds:List PyData):Prop:=
 ∀ (Q:Unit->Shared->Prop) (E:Value->Shared->Prop),(∀ aR,Landed Z env ks sc none β σ s β' aa aR e k ds->Q () aR)->wpAny (model Z.prog Z.w) (A.mark (some (.ref e))) (setFlight (.ref e) none) Q E al
section
variable {c:Out}{hp:Pos}
abbrev HQ(Z:Cx)(env:Env)(ks:List (Str×NameKind))(sc:List (Str×Nat))(β:List Addr)(σ:ac)(s:Shared)(σ':ac)(c:Out)(f:Flow)(aR:Shared):Prop:=Po Z (own env) β σ s σ' aR λβ'=>FR Z env ks sc f c β' σ' aR.heap
theorem H8{n:Str}{x:V}{E:Value->Shared->Prop}(fly:Pc Z A env ks sc β σ s β' aa al e k ds)(F:FrameOk Z env ks sc ρ β σ s.heap)(hmn:Pw ks sc i n=true)
   (hv:∀ ρ' dm,bV n=true->sc.lookup n=some i->env.kindOf n=some .local->ρ'[i]?=some (.exc k ds)->FrameOk Z env ks sc ρ' β' aa dm.heap->Inv Z β' aa dm.heap->(k=6->XD s.heap β' aa dm.heap e ds)->(X2 λo vs=>A3 (dm.heap.get? e=some o) (o.cls=.ref (KA k)) (o.data=.fields vs))->(∃ m,dm.heap.Ns env.locals m/\m n=some (.ref e))->I5 Z (A.mark (some (.ref e))) env v σ' x β' aa dm)
   (hR:∀ f aR,wpAny (model Z.prog Z.w) A (do bindName env n .none;unbindBehindTheSuite env n hp) (λ_ s'=>HQ Z env ks sc β σ s σ' (.ret x) f s') E aR->R (.ok f) aR):codeAny (model Z.prog Z.w) (A.mark (some (.ref e))) (.handlers (.ref e) [.ExceptHandler none (some n) [.Return (some v) rp] hp] env) R al:=by
 refine(Qn.mp hmn).elim λh1 h2=>?_;obtain⟨h1,hno⟩:=Qn.mp h1;have hni:=of_decide_eq_true h1;have hkl:env.kindOf n=some .local:=(F.kinds n _ (of_decide_eq_true h2)).elim id λz=>by cases z.1
 refine codeAny_handlers_suite_as (fly _ _ λaR wE=>?_);refine Qs (DD (Q:=HQ Z env ks sc β σ s σ' (.ret x)) (E':=E) (E:=λ_ _=>False) (Od:=λ_ _=>False) wE F hni hkl (λρ' dm hv' C0 GE _ xd ho hN=>hv ρ' dm hno hni hkl hv' C0 GE xd ho hN) λlK u fP CX GD Ow=>⟨lK,CX,GD,u,rfl,Ow⟩) (λ_ dm h=>Qs h (λf fP h=>hR f fP h) λ_ _ z=>z.elim) λ_ _ z=>z.elim
theorem LB(D:Wd Z P gn G cf d){E:Value->Shared->Prop}(fly:Pc Z A env ks sc β σ s β' aa al e k ds)(hA:jy Z d A)(F:FrameOk Z env ks sc ρ β σ s.heap)(nb:e∉β')(hmk:Px P ks sc hk nm v=true)(ev:o4 cf hk k ds aa=.ok c σ')
   (hR:∀ f aR,(match nm with | none=>HQ Z env ks sc β σ s σ' c f aR | some n=>wpAny (model Z.prog Z.w) A (do bindName env n .none;unbindBehindTheSuite env n hp) (λ_ s'=>HQ Z env ks sc β σ s σ' c f s') E aR)->R (.ok f) aR):codeAny (model Z.prog Z.w) (A.mark (some (.ref e))) (.handlers (.ref e) [.ExceptHandler none nm [.Return (some v) rp] hp] env) R al:=by
 have hA':jy { Z with q:=true } d (A.mark (some (.ref e))):=⟨(λz=>by injection z),hA.2⟩
 cases hk with
 | none=>injection hmk
 | kind i f=>injection hmk
 | tup i f a=>obtain⟨n,n1,hmk⟩:=aq hmk;subst n1;obtain⟨xs,n2,hmk2⟩:=aq hmk;apply GP (kA n2);intro kk tp;obtain⟨hmn,hmk3⟩:=Qn.mp hmk2;obtain⟨⟨y,ys⟩,n3,hmk4⟩:=aq hmk3;have n3:=mG n3;subst n3;obtain⟨m1,m2⟩:=Qn.mp hmk4;obtain⟨vr,σa,ec,ev⟩:=Res.bind_ok (show ((cf f [.exc k ds] aa).bind λv aa=>oc (bK v) (λx=>if a=true->k=6 then Res.ok (Out.ret (.d (.tuple (x::if a then ds else [])))) aa else .bad) .bad)=.ok c σ' from ev);obtain⟨x,hx,ev2⟩:=iB ev;obtain⟨hak,ev3⟩:=AX ev2;have hx:=ch hx;subst hx;(injection ev3 with e0_ f0_;subst e0_;subst f0_);exact H8 fly F hmn (λρ' dm hno hni hkl hv C0 GE xd ⟨o,vs',y1,y2,y3⟩ ⟨mL,y4,y5⟩=>E5 D m1 m2 hak hni hno hkl hA' C0 GE hv ec nb xd y1 y2 y3 y4 y5) hR
theorem xn(D:Wd Z P gn G cf d){E:Value->Shared->Prop}(fly:Pc Z A env ks sc β σ s β' aa al e k ds)(hA:jy Z d A)(F:FrameOk Z env ks sc ρ β σ s.heap)(q:Landed Z env ks sc none β σ s β' aa al e k ds)(he:al.heap.get? e=some oe)(hc:oe.cls=.ref (KA k))(hs:List Hd):∀ (ehs:List ExceptHandler),Le P ks sc hs ehs=true->mY cf hs k ds aa=.ok c σ'->wpAny (model Z.prog Z.w) A (handleBy (.ref e) env ehs) (HQ Z env ks sc β σ s σ' c) E al:=by
 induction hs with
 | nil=>intro ehs _ ev;injection ev
 | cons h hs ih=>
   intro ehs hm ev;obtain⟨⟨eh,es⟩,g0,hm1⟩:=aq hm;have g0':=mG g0;subst g0';obtain⟨⟨x,nm,v⟩,g1,hm2⟩:=aq hm1;obtain⟨xp,rp,hp,g1'⟩:=LH g1;subst g1';obtain⟨hm3,hms⟩:=Qn.mp hm2;obtain⟨hm4,hmk⟩:=Qn.mp hm3;obtain⟨hm5,hj⟩:=Qn.mp hm4;obtain⟨g2,hgx⟩:=Qn.mp hm5;have g2:x=lg h.k:=of_decide_eq_true g2;subst g2;have hj6:=of_decide_eq_true hj;have hk6:=q.fl.2.1;refine wpAny_handleBy_cons (codeAny_handlers_test (gH D q.fr q.inv hgx (D.x.own h.k hj6).1 (zy (D.x.at q.inv hk6.2) (D.x.at q.inv hj6) he hc (I8 D.x hk6.1 hk6.2 hj6) ?_))) (by intro q;injection q);have ev:(if h.k=k\/h.k=0 then o4 cf h.h k ds aa else mY cf hs k ds aa)=.ok c σ':=ev;by_cases hit:h.k=k\/h.k=0
   . rw[if_pos hit] at ev;have hb:(h.k==k||h.k==0)=true:=by rcases hit with z | z <;> rw[z] <;> simp
     rw[hb];exact LB D fly hA F q.nb hmk ev λf aR h=>h
   . rw[if_neg hit] at ev;have hb:(h.k==k||h.k==0)=false:=by rw[beq_eq_false_iff_ne.mpr λz=>hit (.inl z),beq_eq_false_iff_ne.mpr λz=>hit (.inr z)];rfl
     rw[hb];exact ih es hms ev
end
theorem Kw(D:Wd Z P gn G cf d)(hb:GQ Z P gn G cf d b):PS Z P gn G cf d (.tryS b hs):=λks sc x env ρ A β σ s hm hA F I hE=>by
 replace hm:=aq hm;obtain⟨⟨body,hds,els,fin⟩,h0,hm⟩:=hm;apply iG (Hl h0);intro sp;simp only[Qw] at hm;obtain⟨⟨⟨⟨⟨h1,h2⟩,h3⟩,hP⟩,hne⟩,hm⟩:=hm;have h1:els=[]:=fF h1;have h2:fin=[]:=fF h2;subst h1;subst h2;obtain⟨⟨hd0,hds'⟩,hne⟩:=QZ.mp hne;have hne:hds=hd0::hds':=mG hne;subst hne;intro c σ' ev;obtain⟨o,aa,e1,ev⟩:=Res.bind_ok (ev:((execs G cf b ρ σ).bind λo aa=>match o with | .exc k ds=>mY cf hs k ds aa | o=>.ok o aa)=.ok c σ');refine wpAny_Try_except (Qs (hb ks sc body env ρ A β σ s h3 hA F I hE o aa e1) (λf ai ⟨ah,aC,ao,q⟩=>?_) λv ai ⟨k,ds,q,fq⟩=>?_)
 . cases o with
   | next ρ'=>obtain⟨rfl,F'⟩:=q;(injection ev with e0_ f0_;subst e0_;subst f0_);exact wpAny_execs_nil ⟨ah,aC,ao,rfl,F'⟩
   | ret w=>obtain⟨u,rfl,q⟩:=q;(injection ev with e0_ f0_;subst e0_;subst f0_);exact⟨ah,aC,ao,u,rfl,q⟩
   | exc k ds=>exact q.elim
 . subst q;refine fq.elim λβ' e hv q=>hE.elim hA λouter L hfr hfL hfm hfx=>q.fl.elim λoe vs he hc hd hL hT=>?_;subst hv;refine wO (fo:=none) hfr (q.frames hfx) hfL he hd hL λfK N=>?_;have yJ:=q.noted (L':=none) F.frs I (.inl rfl) (λf' hf=>hfm▸hf) he hc hd hL hT N;refine N.then (v':=.none) λT Nh oT MF ts oa Nx NA hTe hT2 hdT h3T _=>yJ.fl.elim λNg ME nZ Jy tG Nz A1=>?_;have z:Ng=Nh:=Option.some.inj (nZ.symm.trans oa);subst z;have z:ME=MF:=by have:=tG.symm.trans Nx;cases (this);rfl
   subst z;exact xn D (λQ E hq=>lA (fo:=none) nZ tG NA hTe hT2 hdT h3T λmX O9=>hq _ (yJ.noted (L':=none) F.frs I (.inl rfl) (λf' hf=>by cases hf) nZ Jy tG Nz A1 O9)) hA F yJ nZ Jy hs (hd0::hds') hm ev
noncomputable def qx(G:Nat->Option PyData)(cf:Nat->List V->ac->Res V)(t:Tgt)(b:SL):PyData->Fm->ac->Res Out:=λx ρ' σ'=>match fz t x ρ' with
 | none=>.bad
 | some ρ''=>execs G cf b ρ'' σ'
variable {o:Out}
theorem EN(h:qx G cf t b x ρ σ=.ok o σ'):∃ ρ',fz t x ρ=some ρ'/\execs G cf b ρ' σ=.ok o σ':=by
 unfold qx at h;cases hb:fz t x ρ with
 | none=>rw[hb] at h;injection h
 | some ρ'=>rw[hb] at h;exact⟨ρ',rfl,h⟩
theorem Cw(G:Nat->Option PyData)(cf:Nat->List V->ac->Res V)(t:Tgt)(it:It)(b:SL)(ρ:Fm)(σ:ac):exec G cf (.forr t it b) ρ σ=(cj G cf it ρ σ).bind λI aa=>(aY (qx G cf t b) I.shown ρ (cM I.lk aa)).bind λo ae=>.ok o (bn I.lk I.base ae):=rfl
variable {f:PyData->Fm->ac->Res Out}
theorem yY{d:PyData}(hd:l[k]?=some d)(h:aY f (l.drop k) ρ σ=.ok o σ') :
   X2 λbA aa=>f d ρ σ=.ok bA aa/\((∃ bH,bA=.next bH/\aY f (l.drop (k+1)) bH aa=.ok o σ')\/(∃ v,A3 (bA=.ret v) (o=.ret v) (σ'=aa))\/(X2 λk ds=>A3 (bA=.exc k ds) (o=.exc k ds) (σ'=aa))):=by
 have hlt:=(Qi.mp hd).1;have hd':=(Qi.mp hd).2;replace h:=hd'▸(Rv hlt)▸h;rw[HR] at h;obtain⟨bA,aa,h1,h2⟩:=Res.bind_ok h;cases bA with
 | next bH=>exact⟨_,aa,h1,.inl ⟨bH,rfl,h2⟩⟩
 | ret v=>(injection h2 with e0_ f0_;subst e0_;subst f0_);exact⟨_,_,h1,.inr (.inl ⟨v,rfl,rfl,rfl⟩)⟩
 | exc k ds=>(injection h2 with e0_ f0_;subst e0_;subst f0_);exact⟨_,_,h1,.inr (.inr ⟨k,ds,rfl,rfl,rfl⟩)⟩
variable {ρk:Fm}{X:Fm->Prop}{body:List Stmt}{k':Nat}{τ:ac}
inductive ForJ(Z:Cx)(A:Around)(env:Env)(ks:List (Str×NameKind))(sc:List (Str×Nat))(T:Itr)(ah:List Addr)(σL:ac)(al:Shared)(f:PyData->Fm->ac->Res Out)(out:Out)(ae:ac)(n:Nat)(s':Shared):Prop where
 | mk (k:Nat) (βk:List Addr) (σk:ac) (ρk:Fm) (h1:n=T.shown.length+1 - k) (h2:k<=T.shown.length) (L:Lp Z A (own env) T ah σL al (T.St k) βk σk s') (Fr:FrameOk Z env ks sc ρk βk σk s'.heap) (hr:aY f (T.shown.drop k) ρk σk=.ok out ae):ForJ Z A env ks sc T ah σL al f out ae n s'
theorem FA{It:Items}{sa:Shared}{bA:Out}{E:Value->Shared->Prop}(hb:GQ Z P gn G cf d b)(h4:GN P gn ks sc b body=true)(hA:jy Z d A)(hE:yg A env)
   (aC:Step b7 β σ s ah aa al) (ao:Inv Z ah aa al.heap) (hlk:∀ n,It.lk=some n->aa[n]?=some (.lst It.base)) (hw:∀ a∈T.wr,s.heap.get? a=none/\a∉ah) (hwOwn:∀ a∈T.wr,¬ own env a) (ownS:∀ x,own env x->¬ bS al.heap x)
   (La:Lp Z A (own env) T ah (cM It.lk aa) al (T.St k') βk σk sa) (Fa:FrameOk Z env ks sc ρk βk σk sa.heap) (Fb:FrameOk Z env ks sc ρt βk σk sb.heap) (Sb:Step (own env) βk σk sa βk σk sb) (Ib:Inv Z βk σk sb.heap)
   (hf:execs G cf b ρt σk=.ok bA σc) (hor:(∃ bH,bA=.next bH/\X bH)\/(∃ v,A3 (bA=.ret v) (out=.ret v) (ae=σc))\/(X2 λk ds=>A3 (bA=.exc k ds) (out=.exc k ds) (ae=σc)))
   (q1:∀ bH βc aR,X bH->Lp Z A (own env) T ah (cM It.lk aa) al (T.St k') βc σc aR->FrameOk Z env ks sc bH βc σc aR.heap->Q .next aR)
   (q2:∀ u βc aR,Step (own env) β σ s βc (bn It.lk It.base ae) aR->Inv Z βc (bn It.lk It.base ae) aR.heap->FR Z env ks sc (.ret u) out βc (bn It.lk It.base ae) aR.heap->Q (.ret u) aR)
   (q3:∀ k ds v aR,out=.exc k ds->FlyQ env.frame Z (own env) β σ s (bn It.lk It.base ae) k ds (FrameOk Z env ks sc []) v aR->E v aR):wpAny (model Z.prog Z.w) A (PySem.execs body env) Q E sb:=by
 have Lb:=La.step Sb Ib (λx z=>⟨(Fa.apart x z).1,Fa.notSeq x z⟩) hwOwn;have own2:∀ x,own env x->x∉βk/\¬ bS sb.heap x:=λx z=>⟨(Fb.apart x z).1,Fb.notSeq x z⟩;have Jq:∀ a∈T.wr,¬ bS al.heap a:=λa q=>(La.op.noseq 0 _ La.op.start a q).2;refine Qs (hb ks sc body env _ A βk σk sb h4 hA Fb Ib hE bA σc hf) (λf aR ⟨βc,Sc,Ic,q⟩=>?_) λv aR ⟨kx,dx,hx,fq⟩=>fq.elim λβc ea hv q=>?_
 . have Lc:=Lb.step Sc Ic own2 hwOwn;rcases hor with ⟨bH,e,x⟩ | ⟨v,e,e',e''⟩ | ⟨k',ds',e,_⟩
   . refine kk λK k=>?_;rw[e] at q;obtain⟨ef,Fc⟩:=q;refine k ?_;rw[ef];exact q1 bH βc aR x Lc Fc
   . rw[e] at q;obtain⟨u,ef,ru⟩:=q;rw[ef];rw[e''] at q2;obtain⟨Sx,Ix,ttx⟩:=kI aC.ofNo ao hlk Lc.st0 Lc.inv ownS Jq λa q=>(hw a q).1;refine q2 u βc aR Sx Ix ?_;rw[e'];exact⟨u,rfl,b3.vrel (λx o vs n e d t=>⟨e,λz=>t ((ttx x).mp z)⟩) (λD o _ e t=>⟨e,λz=>t ((ttx D).mp z)⟩) ru⟩
   . rw[e] at q;exact q.elim
 . have hor':out=.exc kx dx/\ae=σc:=by
     rw[hx] at hor;rcases hor with ⟨bH,z,_⟩ | ⟨v,z,_⟩ | ⟨k',ds',z,z',z''⟩
     . injection z
     . injection z
     . (injection z with e0_ f0_;subst e0_;subst f0_);exact⟨z',z''⟩
   replace q3:=hor'.2▸q3;have Lc:=Lb.step q.st q.inv own2 hwOwn;obtain⟨Sx,Ix,ttx⟩:=kI aC.ofNo ao hlk Lc.st0 Lc.inv ownS Jq λa q=>(hw a q).1;exact q3 kx dx v aR hor'.1 ⟨βc,ea,hv,Sx,Ix,q.nb,q.fl.back λa q=>aC.alive a (Lb.st0.alive a q),q.fr.seq (λx o vs n e d t=>⟨e,λz=>t ((ttx x).mp z)⟩) (λD o _ e t=>⟨e,λz=>t ((ttx D).mp z)⟩) (λb _ o e=>e) (λb _ o e=>e),λz=>(q.xd z).same (λa q=>aC.alive a (Lb.st0.alive a q)) (λ_ z=>z) λa=>(ttx a).mp⟩
theorem Iz{It:Items}(F:FrameOk Z env ks sc ρ β σ s.heap)(aC:Step b7 β σ s ah aa al)(ao:Inv Z ah aa al.heap)(h0:∀ a,s.heap.get? a=none->Z.h₀.get? a=none)(hlk:∀ n,It.lk=some n->aa[n]?=some (.lst It.base))(hw:∀ a∈T.wr,s.heap.get? a=none/\a∉ah)(hwOwn:∀ a∈T.wr,¬ own env a)(ownS:∀ x,own env x->¬ bS al.heap x)
   (L:Lp Z A (own env) T ah (cM It.lk aa) al (T.St k') βk ae s') (Fr:FrameOk Z env ks sc ρk βk ae s'.heap) (hkz:Kp T s'.heap sz.heap) (hgz:sz.gens=s'.gens) (hoz:sz.os=s'.os):Po Z (own env) β σ s (bn It.lk It.base ae) sz λβ'=>FR Z env ks sc .next (.next ρk) β' (bn It.lk It.base ae) sz.heap:=by
 obtain⟨Sx,Ix,ttx⟩:=kI aC.ofNo ao hlk L.st0 L.inv ownS (λa q=>(L.op.noseq 0 _ L.op.start a q).2) (λa q=>(hw a q).1);have hnsI:∀ a,a∈T.wr->¬ bS s'.heap a:=λa q=>(L.live a q).2;exact⟨βk,Sx.tail (W:=(·∈T.wr)) (λa q=>(hw a q).1) hkz hgz hoz,Ix.touch (W:=(·∈T.wr)) L.nm (λa q=>h0 a (hw a q).1) hnsI hkz,rfl,(Fr.seq (λx o vs n e d t=>⟨e,λz=>t ((ttx x).mp z)⟩) (λD o _ e t=>⟨e,λz=>t ((ttx D).mp z)⟩) (λb _ o e=>e) λb _ o e=>e).touch (W:=(·∈T.wr)) L.nm (λa q=>F.frs.not (hw a q).1) hwOwn hnsI hkz⟩
theorem Em{a b:α}(h:Res.ok a σ=.ok b τ):a=b/\σ=τ:=by (injection h with e0_ f0_;subst e0_;subst f0_);exact⟨rfl,rfl⟩
theorem FB(hb:GQ Z P gn G cf d b)(h1:nP sc t tx=true)(h4:GN P gn ks sc b body=true)(h5:(y6 t||!y8 it)=true)(hh:A.handled=none)(hA:jy Z d A)(F:FrameOk Z env ks sc ρ β σ s.heap)(Iv:Inv Z β σ s.heap)(hE:yg A env)
   (hen:T.en=y8 it) (aC:Step b7 β σ s ah aa al) (ao:Inv Z ah aa al.heap) (hw:∀ a∈T.wr,s.heap.get? a=none/\a∉ah) (Op:Opened Z A T ah (cM I.lk aa) al.heap) (hlk:∀ n,I.lk=some n->aa[n]?=some (.lst I.base)) (hr:aY (qx G cf t b) T.shown ρ (cM I.lk aa)=.ok out ae)
   (r1:∀ f s',(f=.next\/∃ u,f=.ret u)->(Po Z (own env) β σ s (bn I.lk I.base ae) s' λβ'=>FR Z env ks sc f out β' (bn I.lk I.base ae) s'.heap)->R (.ok f) s')
   (r3:∀ k ds v aR,out=.exc k ds->FlyQ env.frame Z (own env) β σ s (bn I.lk I.base ae) k ds (FrameOk Z env ks sc []) v aR->notedBy (model Z.prog Z.w) A env (λe s'=>R (.error e) s') v aR):codeAny (model Z.prog Z.w) A (.forLoop tx (.ref T.Ia) body [] env) R al:=by
 have h0:∀ a,s.heap.get? a=none->Z.h₀.get? a=none:=λa ha=>by
   cases q:Z.h₀.get? a with
   | none=>rfl
   | some o=>rw[Iv.base a o q] at ha;injection ha
 obtain⟨IL,SL⟩:=AO ao hlk;have hwOwn:∀ a∈T.wr,¬ own env a:=λa ha z=>by obtain⟨o,ho,_⟩:=F.ownSome z;rw[(hw a ha).1] at ho;injection ho
 have ownS:∀ x,own env x->¬ bS al.heap x:=(F.step aC).notSeq;refine codeAny_forLoop_any (ForJ Z A env ks sc T ah (cM I.lk aa) al (qx G cf t b) out ae) ?_ (T.shown.length+1) ⟨0,_,_,ρ,rfl,QI _,Lp.start Op IL (λa q=>(hw a q).2) λa q=>h0 a (hw a q).1,(F.step aC).step SL,hr⟩;clear hr IL SL
 rintro n s' ⟨k,βk,σk,ρk,en,hkl,L,Fr,hrest⟩
 refine en▸?_;clear en;by_cases hlt:k < T.shown.length
 . refine L.next hlt λw dd sa Lm hdd kS hka=>?_;have Fa:FrameOk Z env ks sc ρk βk σk sa.heap:=Fr.touch (W:=(·∈T.wr)) L.nm (λa q=>F.frs.not (hw a q).1) hwOwn (λa q=>(L.live a q).2) hka;obtain⟨bA,σc,hf0,hor⟩:=yY hdd hrest;obtain⟨ρt,hbt,hf⟩:=EN hf0;clear hf0 hrest hka L Fr hdd;have turn:=λ{sa'} (La:Lp Z A (own env) T ah (cM I.lk aa) al (T.St (k+1)) βk σk sa') (Fa:FrameOk Z env ks sc ρk βk σk sa'.heap) {sb} (Fb:FrameOk Z env ks sc ρt βk σk sb.heap) (Sb:Step (own env) βk σk sa' βk σk sb) (Ib:Inv Z βk σk sb.heap)=>FA (Q:=λf aR=>match f with | .next | .cont=>∃ m,m < T.shown.length+1 - k/\ForJ Z A env ks sc T ah (cM I.lk aa) al (qx G cf t b) out ae m aR | .brk=>R (.ok .next) aR | .ret v=>R (.ok (.ret v)) aR) hb h4 hA hE aC ao hlk hw hwOwn ownS La Fa Fb Sb Ib hf hor (λbH βc aR x Lc Fc=>⟨T.shown.length+1 - (k+1),Ag hlt,k+1,βc,σc,bH,rfl,hlt,Lc,Fc,x⟩) (λu βc aR Sx Ix fr=>r1 _ _ (.inr ⟨u,rfl⟩) ⟨βc,Sx,Ix,fr⟩) r3
   clear hor hf;cases t with
   | var i=>replace h1:=aq h1;obtain⟨x,h0,hx⟩:=h1;apply iG (bP h0);intro p;have La:=Lm.skip (hen.trans (wP h5));rw[<- Option.some.inj hbt] at turn;refine Ql (a:=()) ?_;exact wpAny_assign_Name (Fa.store La.inv (of_decide_eq_true hx) (v:=.d dd) kS λsb Fb Sb Ib _ _=>turn La Fa Fb Sb Ib)
   | tup l=>replace h1:=aq h1;obtain⟨xs,h0,h1⟩:=h1;apply GP (kA h0);intro k' p;refine Lm.go λsa' La hk'=>?_;have Fa':FrameOk Z env ks sc ρk βk σk sa'.heap:=Fa.touch (W:=(·∈T.wr)) Lm.nm (λa q=>F.frs.not (hw a q).1) hwOwn (λa q=>(Lm.live a q).2) hk';exact rU hh h1 Fa' La.inv (ic (W:=(·∈T.wr)) hk' (λa q=>(Lm.live a q).2) Lm.nm kS) hbt λsb Fb Sb Ib _=>turn La Fa' Fb Sb Ib
 . have hke:k=T.shown.length:=Si hkl (Rm hlt);refine L.done hke λsz hkz hgz hoz=>?_;rw[hke,SP,Lg] at hrest;have e:=Em hrest;rw[e.2] at L Fr;exact wpAny_execs_nil (r1 _ _ (.inl rfl) (e.1▸Iz F aC ao h0 hlk hw hwOwn ownS L Fr hkz hgz hoz))
inductive ForX(G:Nat->Option PyData)(cf:Nat->List V->ac->Res V)(t:Tgt)(it:It)(b:SL)(ρ:Fm)(σ:ac)(out:Out)(σ':ac):Prop where
 | mk (I:Items) (aa ae:ac) (h1:cj G cf it ρ σ=.ok I aa) (h2:aY (qx G cf t b) I.shown ρ (cM I.lk aa)=.ok out ae) (h3:σ'=bn I.lk I.base ae):ForX G cf t it b ρ σ out σ'
theorem NL(ev:exec G cf (.forr t it b) ρ σ=.ok out σ'):ForX G cf t it b ρ σ out σ':=by rw[Cw] at ev;obtain⟨I,aa,hit,ev⟩:=Res.bind_ok ev;obtain⟨o,ae,hr,hv⟩:=Res.bind_ok ev;have e:=Em hv;exact⟨I,aa,ae,hit,e.1▸hr,e.2.symm⟩
theorem KC(D:Wd Z P gn G cf d)(hb:GQ Z P gn G cf d b):PS Z P gn G cf d (.forr t it b):=λks sc x env ρ A β σ s hm hA F I hE=>by replace hm:=aq hm;obtain⟨⟨tx,iter,body,els⟩,h0,hm⟩:=hm;apply iG (Hs h0);intro pos;refine kk λK kx=>?_;obtain⟨hm,hP⟩:=Qn.mp hm;obtain⟨hm,h5⟩:=Qn.mp hm;obtain⟨hm,h4⟩:=Qn.mp hm;obtain⟨hm,h3⟩:=Qn.mp hm;obtain⟨hm,h2⟩:=Qn.mp hm;obtain⟨hm,h1⟩:=Qn.mp hm;have hh:=hA.1 (D.q hP);refine kx λout σ' ev=>?_;apply Bg (fF hm:els=[]);clear kx hm hP h0;obtain⟨I',aa,ae,hit,hr,e⟩:=NL ev;refine e▸?_;refine wpAny_For ?_ (λx=>nO h2 x);refine Qs (KX D it ks sc iter env ρ A β σ s I' aa h3 hA hh F I hit) (λx ai h=>Qs h (λitv al h=>?_) λ_ _ x=>x.elim) λ_ _ x=>x.elim;obtain⟨ah,T,ei,hsh,hen,aC,ao,hw,Op,hlk,hlen⟩:=h;exact ei▸(FB hb h1 h4 h5 hh hA F I hE hen aC ao hw Op hlk (hsh▸hr) (λf s' hf q=>q) λk ds v aR hx fq=>FF hA hE F.frs I hx fq)
theorem Hn(D:Wd Z P gn G cf d):PS Z P gn G cf d .stop:=λks sc x env ρ A β σ s hm hA F I hE=>by intro c σ' ev;injection ev
mutual
theorem PU(D:Wd Z P gn G cf d):∀ st,PS Z P gn G cf d st
 | .expr e=>Hp D
 | .asg t e=>KD D
 | .asgT l e=>Hr D
 | .put o i e=>Ky D
 | .ite c a b=>KB D (B7 D a) (B7 D b)
 | .forr t it b=>KC D (B7 D b)
 | .ret e=>Kx D
 | .pass=>Ho D
 | .stop=>Hn D
 | .calls t f es=>D0 D
 | .raise k es=>DZ D
 | .tryS b h=>Kw D (B7 D b)
theorem B7(D:Wd Z P gn G cf d):∀ st,GQ Z P gn G cf d st
 | .nil=>Kz D
 | .cons s r=>Hq D (PU D s) (B7 D r)
end
noncomputable def oU(names:List (Str×NameKind))(slots:List (Str×Nat))(ps:List Str)(np ns:Nat):Bool:=
 (slots.all λp=>(decide (names.lookup p.1=some .local)||(decide (names.lookup p.1=some .cell)))&&bV p.1)&&decide (slots.map (·.2)).Nodup&&decide (ps.length=np)&&
 (ps.zipIdx.all λp=>decide (slots.lookup p.1=some p.2))&&decide (np<=ns)&&(slots.all λp=>decide (p.2 < ns))
noncomputable def fnAt(Z:Cx)(fn:Fn):Option Value:=if fn.meth then Z.mn fn.name else Z.mg fn.name
inductive FnX(Z:Cx)(P:Nat->Option Fn)(gn:Nat->Str)(fn:Fn):Prop where
 | mk (a:Addr) (o:Obj) (fd:FuncData) (body:List Stmt) (ps:List Str) (h1:fnAt Z fn=some (.ref a)) (h2:Z.h₀.get? a=some o) (h2':fn.meth=true->o.cls=.type "function") (h3:o.data=.func fd) (h4:fd.body=.stmts body) (h5:fd.closure=[]) (h6:Z.h₀.CodeRec fd.code fd.qualname) (h7:fd.globals=mainGlobals) (h8:fd.builtins=builtinsNs)
   (h9:fd.scope.kind=.function) (h10:fd.scope.isCoroutine=false) (h11:fd.scope.isGenerator=false) (h12:∀ vals:List Value,vals.length=ps.length->bindArgs fd ⟨vals,[]⟩=pure (ps.zip vals))
   (h13:oU fd.scope.names fn.slots ps fn.np fn.ns=true) (h14:GN P gn fd.scope.names fn.slots fn.body body=true):FnX Z P gn fn
structure FnOk(Z:Cx)(P:Nat->Option Fn)(gn:Nat->Str)(fn:Fn):Prop where
 ex:FnX Z P gn fn
 noC:fn.ctor=false
set_option tactic.hygienic true in
theorem eY:∀ {names:List (Str×NameKind)} {n:Nat} {acc:List (Str×Addr)} {x:Str},(x,NameKind.cell)∈names\/(acc.lookup x).isSome=true->((cellsFrom n names acc).lookup x).isSome=true
 | [],n,acc,x,h=>by
   rcases h with h | h
   . cases h
   . exact h
 | (y,k)::r,n,acc,x,h=>by
   unfold cellsFrom;split
   . rename_i hk;refine eY ?_;rcases h with h | h
     . rcases Qq.mp h with h | h
       . (injection h with e0_ f0_;subst e0_;subst f0_);right;simp[QD]
       . exact .inl h
     . right;rw[QD];split
       . rfl
       . exact h
   . rename_i hk;refine eY ?_;rcases h with h | h
     . rcases Qq.mp h with h | h
       . (injection h with e0_ f0_;subst e0_;subst f0_);simp at hk
       . exact .inl h
     . exact .inr h
variable {x:Str}{kindOf:Str->Option NameKind}
theorem yb(hx:kindOf x=some .local):∀ {ps:List Str} {vals:List Value} {m:Str->Option Value},ps.Nodup->(∀ (i:Nat) (v:Value),ps[i]?=some x->vals[i]?=some v->bindL kindOf (ps.zip vals) m x=some v)/\(x∉ps->bindL kindOf (ps.zip vals) m x=m x)
 | [],vals,m,_=>⟨λi v h=>by simp at h,λ_=>rfl⟩
 | p::ps,[],m,_=>⟨λi v _ h=>by simp at h,λ_=>rfl⟩
 | p::ps,w::vals,m,hn=>by
   have q9:=RB.mp hn;have h1:=q9.1;have h2:=q9.2;have e:∀ y,bindL kindOf ((p::ps).zip (w::vals)) m y=bindL kindOf (ps.zip vals) (if kindOf p=some .local then λy=>if y=p then some w else m y else m) y:=λ_=>rfl;have ih:=λm'=>yb hx (ps:=ps) (vals:=vals) (m:=m') h2;refine⟨λi v hi hv=>?_,λhx'=>?_⟩
   . rw[e];cases i with
     | zero=>simp at hi hv;subst hi hv;rw[(ih _).2 h1,if_pos hx];simp
     | succ i=>exact(ih _).1 i v (by simpa using hi) (by simpa using hv)
   . simp only[Qq,not_or] at hx';rw[e,(ih _).2 hx'.2];split
     . show (if x=p then some w else m x)=m x;exact(if_neg hx'.1)
     . rfl
theorem yc(hx:kindOf x≠some .local):∀ {ps:List Str} {vals:List Value} {m:Str->Option Value},ps.Nodup->(∀ (i:Nat) (v:Value),ps[i]?=some x->vals[i]?=some v->bindC kindOf (ps.zip vals) m x=some v)/\(x∉ps->bindC kindOf (ps.zip vals) m x=m x)
 | [],vals,m,_=>⟨λi v h=>by simp at h,λ_=>rfl⟩
 | p::ps,[],m,_=>⟨λi v _ h=>by simp at h,λ_=>rfl⟩
 | p::ps,w::vals,m,hn=>by
   have q9:=RB.mp hn;have h1:=q9.1;have h2:=q9.2;have e:∀ y,bindC kindOf ((p::ps).zip (w::vals)) m y=bindC kindOf (ps.zip vals) (if kindOf p=some .local then m else λy=>if y=p then some w else m y) y:=λ_=>rfl;have ih:=λm'=>yc hx (ps:=ps) (vals:=vals) (m:=m') h2;refine⟨λi v hi hv=>?_,λhx'=>?_⟩
   . rw[e];cases i with
     | zero=>simp at hi hv;subst hi hv;rw[(ih _).2 h1,if_neg hx];simp
     | succ i=>exact(ih _).1 i v (by simpa using hi) (by simpa using hv)
   . simp only[Qq,not_or] at hx';rw[e,(ih _).2 hx'.2];split
     . rfl
     . show (if x=p then some w else m x)=m x;exact(if_neg hx'.1)
variable {fd:FuncData}{slots:List (Str×Nat)}{ps:List Str}{xs:List V}{vs vals:List Value}{p:Prog}{v v':V}
theorem VRels.get(r:VRels β σ h vs xs){x:V}(e:xs[i]?=some x):∃ v,vs[i]?=some v/\aA β σ h v x:=by
 induction r generalizing i with
 | nil=>cases (e)
 | cons r rs ih=>
   cases i with
   | zero=>(injection e with e0_;subst e0_);exact⟨_,rfl,r⟩
   | succ i=>exact ih e
theorem jG{np ns:Nat}(h:oU names slots ps np ns=true) :
   A5 (∀ x i,slots.lookup x=some i->(names.lookup x=some .local\/names.lookup x=some .cell)/\bV x=true) (slots.map (·.2)).Nodup (ps.length=np) (∀ i x,ps[i]?=some x->slots.lookup x=some i) (np<=ns):=by
 obtain⟨h1,h2,h3,h4,h5,h6⟩:=Md h;refine⟨λx i hx=>?_,of_decide_eq_true h2,of_decide_eq_true h3,λi x hx=>of_decide_eq_true (Rf.mp h4 (x,i) (List.mem_zipIdx_iff_getElem?.mpr hx)),of_decide_eq_true h5⟩;have q:=Qn.mp (Rf.mp h1 (x,i) (mem_of_lookup hx));exact⟨(QS.mp q.1).imp of_decide_eq_true of_decide_eq_true,q.2⟩
theorem wF(h:∀ i x,ps[i]?=some x->slots.lookup x=some i):ps.Nodup:=by unfold List.Nodup;rw[List.pairwise_iff_getElem];intro i j hi hj hij e;have h1:=h i _ (Qk hi);rw[e,(h j _ (Qk hj))] at h1;exact Rd hij (Option.some.inj h1).symm
noncomputable abbrev Cx.at(Z:Cx)(l:List Addr):Cx:={ Z with fr:=l }
theorem Inv.fr(l:List Addr)(I:Inv Z β σ h):Inv (Z.at l) β σ h:=⟨I.len,I.nodup,I.base,I.fresh,λk a c h1 h2=>by have:=I.cell k a c h1 h2;cases c <;> exact this⟩
theorem CN(hs:oU fd.scope.names fn.slots ps fn.np fn.ns=true)(hk:fd.scope.kind=.function)(hg:fd.globals=mainGlobals)(hb:fd.builtins=builtinsNs)
   (Fs:dK Z β s.heap) (I:Inv Z β σ s.heap) (r:VRels β σ s.heap vals xs) (hl:xs.length=fn.np)
   (x:InCallC s (callEnvC fd s.heap.objs.size a).locals (bindL (callEnvC fd s.heap.objs.size a).kindOf (ps.zip vals) λ_=>none) (callEnvC fd s.heap.objs.size a).cells (bindC (callEnvC fd s.heap.objs.size a).kindOf (ps.zip vals) λ_=>none) ai) :
   A4 (FrameOk (Z.at (s.heap.objs.size::Z.fr)) (callEnvC fd s.heap.objs.size a) fd.scope.names fn.slots (xs++List.replicate (fn.ns - fn.np) .un) β σ ai.heap) (Step (own (callEnvC fd s.heap.objs.size a)) β σ s β σ ai) (Inv (Z.at (s.heap.objs.size::Z.fr)) β σ ai.heap) (∀ y,own (callEnvC fd s.heap.objs.size a) y->s.heap.get? y=none):=by
 refine kk λK k=>?_;obtain⟨f1,f2,f3,f4,f5⟩:=jG hs;have pn:=wF f4;obtain⟨h',tk,rfl,hkeep⟩:=x.done;refine k ?_;have S:Step (own (callEnvC fd s.heap.objs.size a)) β σ s β σ { s with heap:=h',toks:=tk }:=Step.grow hkeep rfl rfl;have Sn:Step b7 β σ s β σ { s with heap:=h',toks:=tk }:=Step.grow hkeep rfl rfl;have fresh:∀ y,own (callEnvC fd s.heap.objs.size a) y->s.heap.get? y=none:=λy hy=>by
   rcases hy with rfl | ⟨n,hn⟩
   . exact ft x.toInCall.fresh
   . exact ft (Q7 (QN x.toInCall.fresh (x.above n y (mem_of_lookup hn))))
 have argAt:∀ {x:Str} {i:Nat} {v:V},fn.slots.lookup x=some i->(xs++List.replicate (fn.ns - fn.np) .un)[i]?=some v->v≠.un->ps[i]?=some x/\∃ w,vals[i]?=some w/\aA β σ h' w v:=by
   intro x i v hx hv hu;have hi:i < fn.np:=by
     rcases TM i fn.np with q | q
     . exact q
     . rw[QH (by rw[hl];exact q)] at hv;have:=Qp hv;rw[SX] at this;exact absurd this.2 hu
   rw[QJ (by rw[hl];exact hi)] at hv;obtain⟨w,h1,h2⟩:=r.get hv;have hp:i < ps.length:=by rw[f3];exact hi
   have h3:=f4 i _ (Qk hp);exact⟨by rw[Qk hp,(kr f2 hx h3)],w,h1,Sn.vrel0 h2⟩
 refine⟨⟨hk,hg,hb,λy k hy=>.inl hy,λy i hy=>?_,λy z i hy hz=>kr f2 hy hz,⟨_,x.toInCall.ns,λy i hy hl v hv hu=>?_⟩,λy c hc=>⟨_,x.cell y c hc,λi hy hk' v hv hu=>?_⟩,λy hy=>?_,λy z c hy hz=>name_of_addr x.apart (mem_of_lookup hy) (mem_of_lookup hz),λy hy=>?_,λf hf=>?_⟩,S,(I.grow hkeep).fr _,fresh⟩
 . obtain⟨h1,h2⟩:=f1 y i hy;refine⟨?_,(cI h2).2⟩;rcases h1 with h1 | h1
   . exact .inl h1
   . exact .inr ⟨.inl h1,QZ.mp (eY (.inl (mem_of_lookup h1)))⟩
 . obtain⟨h1,w,h2,h3⟩:=argAt hy hv hu;exact⟨w,(yb hl pn).1 i w h1 h2,h3⟩
 . obtain⟨h1,w,h2,h3⟩:=argAt hy hv hu;exact⟨w,(yc (by rcases hk' with q | q <;> rw[q] <;> simp) pn).1 i w h1 h2,h3⟩
 . refine⟨I.notMem (fresh y hy),?_⟩;cases q:Z.h₀.get? y with
   | none=>rfl
   | some o=>have:=I.base y o q;rw[fresh y hy] at this;injection this
 . exact Sl _ (x.above y _ (mem_of_lookup hy))
 . rcases Qq.mp hf with rfl | hf
   . have q:s.heap.get? s.heap.objs.size=none:=fresh _ (.inl rfl);obtain⟨o,es,ep,ho,hd,_⟩:=x.toInCall.ns;refine⟨⟨o,ho,es,ep,hd⟩,I.notMem q,?_⟩;cases z:Z.h₀.get? s.heap.objs.size with
     | none=>rfl
     | some o=>have:=I.base _ o z;rw[q] at this;injection this
   . obtain⟨⟨o,e,q⟩,r⟩:=Fs f hf;exact⟨⟨o,hkeep f o e,q⟩,r⟩
theorem oj{Q:V->ac->Prop}{c:V}(h:mr n v σ=.ok c σ')(h1:∀ x,v=.d x->Q (.d x) (σ.take n))(h2:∀ k,v=.loc k->k < n->Q (.loc k) (σ.take n))(h3:∀ k c',v=.loc k->¬ k < n->σ[k]?=some c'->Q (.loc n) (σ.take n++[c'])):Q c σ':=by
 cases v with
 | d x=>(injection h with e0_ f0_;subst e0_;subst f0_);exact h1 x rfl
 | loc k=>
   have h:(if k < n then Res.ok (V.loc k) (σ.take n) else match σ[k]? with | some (.lst l)=>.ok (.loc n) (σ.take n++[.lst l]) | some (.dct l)=>.ok (.loc n) (σ.take n++[.dct l]) | _=>.bad)=.ok c σ':=h;by_cases hk:k < n
   . rw[if_pos hk] at h;(injection h with e0_ f0_;subst e0_;subst f0_);exact h2 k rfl hk
   . rw[if_neg hk] at h;cases hc:σ[k]? with
     | none=>rw[hc] at h;injection h
     | some c'=>
       replace h:=hc▸h;cases c' with
       | lst l=>(injection h with e0_ f0_;subst e0_;subst f0_);exact h3 k _ rfl hk hc
       | dct l=>(injection h with e0_ f0_;subst e0_;subst f0_);exact h3 k _ rfl hk hc
       | _=>injection h
 | _=>injection h
theorem qW{w:Value}(S:Step O β σ s ah aa ai)(I:Inv Z β σ s.heap)(ao:Inv Z ah aa ai.heap)(r:aA ah aa ai.heap w v)(h:mr σ.length v aa=.ok v' σ'):Po Z O β σ s σ' ai λβ'=>aA β' σ' ai.heap w v':=by
 have hl:=I.len;apply oj h
 . intro x e;rw[e] at r;exact⟨_,S.take hl ao.len,ao.take _,G8 r⟩
 . intro k e hk;rw[e] at r;obtain⟨a,hb,ew⟩:=r;exact⟨_,S.take hl ao.len,ao.take _,a,by rw[RF,if_pos hk];exact hb,ew⟩
 . intro k c' e hk hc;rw[e] at r;obtain⟨a,hb,ew⟩:=r;have hlen:(ah.take σ.length).length=σ.length:=by obtain⟨e,q,_⟩:=S.ext;rw[q,Ru,Qg];exact Ro (by rw[<- hl];exact Qz _ _)
   have E:=IB S hl ao (Rm hk) hb hc;exact⟨_,E.1,E.2,a,by rw[QH (Q4 hlen),hlen];simp,ew⟩
theorem qX{c:V}(h:mr n v σ=.ok c σ'):oM c=none:=
 oj (Q:=λc _=>oM c=none) h (λ_ _=>rfl) (λ_ _ _=>rfl) λ_ _ _ _ _=>rfl
def I1(Z:Cx)(p:Prog)(gn:Nat->Str):Prop:=∀ k x,p.G k=some x->∃ v,Z.mg (gn k)=some v/\∀ T h,Rel T h v x
noncomputable def I0 (Z:Cx) (p:Prog) (gn:Nat->Str):Prop:=∀ i fn,p.P i=some fn->fn.name=("_law_kind":Str)->FnOk Z (λ_=>none) gn fn
noncomputable def GA (p:Prog):Prop:=∀ i fn,p.P i=some fn->fn.name=("_law_kind":Str)->fn.meth=false
structure Static(Z:Cx)(p:Prog)(gn:Nat->Str):Prop where
 w:World0 Z
 y:vR Z
 b:BiOk Z
 g:I1 Z p gn
 f:∀ i fn,p.P i=some fn->fn.ctor=false->FnOk Z p.P gn fn
 x:XOk Z
 k:I0 Z p gn
 km:GA p
noncomputable abbrev Cx.of(Z:Cx)(l:List Addr)(q:Bool):Cx:={ Z with fr:=l,q:=q }
theorem Inv.of(l:List Addr)(q:Bool)(I:Inv Z β σ h):Inv (Z.of l q) β σ h:=⟨I.len,I.nodup,I.base,I.fresh,λk a c h1 h2=>by have:=I.cell k a c h1 h2;cases c <;> exact this⟩
theorem Inv.ofBack{l:List Addr}{q:Bool}(I:Inv (Z.of l q) β σ h):Inv Z β σ h:=⟨I.len,I.nodup,I.base,I.fresh,λk a c h1 h2=>by have:=I.cell k a c h1 h2;cases c <;> exact this⟩
theorem FnX.of(h:FnX Z P gn fn)(l:List Addr)(q:Bool):FnX (Z.of l q) P gn fn:=by
 cases h with
 | mk a o fd body ps h1 h2 h2' h3 h4 h5 h6 h7 h8 h9 h10 h11 h12 h13 h14=>exact .mk a o fd body ps h1 h2 h2' h3 h4 h5 h6 h7 h8 h9 h10 h11 h12 h13 h14
theorem Static.of(T:Static Z p gn)(l:List Addr)(q:Bool):Static (Z.of l q) p gn:=
 ⟨{ T.w with },T.y,{ T.b with },T.g,λi fn h hc=>⟨(T.f i fn h hc).ex.of _ _,(T.f i fn h hc).noC⟩,{ T.x with }
 ,(λi fn h h'=>⟨(T.k i fn h h').ex.of _ _,(T.k i fn h h').noC⟩),T.km
 ⟩
set_option tactic.hygienic true in
theorem FD{f:Nat}{q:Bool}(T:Static Z p gn)(hf:p.P f=some fn)(Fn:FnOk Z P gn fn)(ih:∀ l,Wd (Z.of l q) P gn p.G (af p d) d) :
   X3 λa o fd=>A4 (fnAt Z fn=some (.ref a)) ((Z.h₀.get? a=some o/\(fn.meth=true->o.cls=.type "function"))) (o.data=.func fd) (∀ A β σ s vs xs,jy (Z.of Z.fr q) (d+1) A->dK Z β s.heap->Inv Z β σ s.heap->VRels β σ s.heap vs xs->C4 Z A (call (.ref a) vs) (af p (d+1) f xs σ) β σ s):=by
 obtain⟨a,o,fd,body,ps,h1,h2,h2',h3,h4,h5,h6,h7,h8,h9,h10,h11,h12,h13,h14⟩:=Fn.ex;refine⟨a,o,fd,h1,⟨h2,h2'⟩,h3,λA β σ s vs xs hA Fs I r c σ' ev=>?_⟩;have ev:(match p.P f with | none=>Res.bad | some fn=>if fn.ctor then Bn p d fn xs σ else if xs.length=fn.np then (execs p.G (af p d) fn.body (xs++List.replicate (fn.ns - fn.np) V.un) σ).bind λo aa=>om σ.length o aa else .bad)=.ok c σ':=ev;replace ev:=hf▸ev;dsimp only at ev;rw[if_neg (by exact Fn.noC▸QB)] at ev;split at ev
 . rename_i hl;obtain⟨out,aa,e1,e2⟩:=Res.bind_ok ev;obtain⟨f1,f2,f3,f4,f5⟩:=jG h13;have hvl:vs.length=ps.length:=by rw[fO r,hl,f3]
   have q9:=T.w.keeps I;have k3:=q9.2.2;refine wpAny_call (codeAny_call_cells (QN (iv (Qz _ (d+1)) (Qz _ 2)) hA.2.1) (I.base a o h2) h3 k3 (h6.keeps I.base) h4 (h12 vs hvl) h5 (λy hy=>?_) (λai x=>?_) h10 h11 h9)
   . obtain⟨i,hi⟩:=T0 (TN hy).1;rcases (f1 _ i (f4 i _ hi)).1 with q | q
     . exact .inl q
     . exact .inr ⟨q,eY (.inl (mem_of_lookup q))⟩
   . obtain⟨Fr,S,ao,fresh⟩:=CN (Z:=Z.of Z.fr q) h13 h9 h7 h8 Fs (I.of Z.fr q) r hl x;have hA2:=hA.deeper (callEnvC fd s.heap.objs.size a) rfl h9;obtain⟨_,_,_,l0,hl0,_⟩:=hA;have hfr:=Around.frames_deeper (env:=callEnvC fd s.heap.objs.size a) hl0;refine Qs (B7 (ih (s.heap.objs.size::Z.fr)) fn.body _ _ body _ _ _ β σ ai h14 hA2 Fr ao ⟨_,_,hfr,rfl⟩ out aa e1) (λfl al ⟨aO,cb,cc,q⟩=>?_) λv al ⟨k,ds,q,fq⟩=>?_
     . have S':=(S.trans cb).drop fresh;have cc:=cc.ofBack;cases out with
       | next ρ'=>obtain⟨rfl,_⟩:=q;have e2:mr σ.length (.d .none) aa=.ok c σ':=e2;exact⟨qX e2,qW S' I cc (v:=.d .none) .none e2⟩
       | ret v=>obtain⟨w,rfl,q⟩:=q;have e2:mr σ.length v aa=.ok c σ':=e2;exact⟨qX e2,qW S' I cc q e2⟩
       | exc k ds=>exact q.elim
     . subst q;(injection e2 with e0_ f0_;subst e0_;subst f0_);refine fq.elim λaO e hv q=>yg.elim ⟨_,_,hfr,rfl⟩ hA2 λouter L hfr' hfL hfm hfx=>q.fl.elim λoe vs' he hc hd hL hT=>?_;subst hv;refine w0 hfr' (q.frames hfx) hfL he hd hL λmX N=>?_;have wE:=q.noted (L':=none) Fr.frs ao (.inl rfl) (λf' hf=>hfm▸hf) he hc hd hL hT N;exact⟨k,ds,rfl,aO.take σ.length,e,rfl,((S.trans wE.st).drop fresh).take I.len wE.inv.len,wE.inv.ofBack.take _,λm=>wE.nb (QO m),wE.fl.back S.alive,trivial,λz=>(wE.xd z).same S.alive (λ_=>QO) λ_=>mB⟩
 . injection ev
theorem D6(T:Static Z p gn):Wd Z (λ_=>none) gn p.G cf d:=⟨T.w,T.y,T.b,T.g,(λf fn hf=>by injection hf),(λh=>by injection h)
 ,T.x,λf fn hf=>by injection hf⟩
theorem AH(h:(fn.meth||fn.ctor)=false):fn.meth=false/\fn.ctor=false:=SH.mp h
theorem qO(h:fn.meth=false):fnAt Z fn=Z.mg fn.name:=if_neg (by rw[h];exact QB)
theorem GY(p:Prog)(gn:Nat->Str)(Z:Cx)(T:Static Z p gn)(hz:Z.q=false)(hcf:∀ f xs σ,cf f xs σ=.bad):Wd Z p.P gn p.G cf 0:=⟨T.w,T.y,T.b,T.g,λf fn hf hn=>by
   obtain⟨a,o,fd,body,ps,h1,h2,h2',h3,_⟩:=(T.f f fn hf (AH hn).2).ex;exact⟨a,o,fd,(qO (AH hn).1).symm.trans h1,h2,h3,λA β σ s vs xs _ _ _ _=>by rw[hcf];exact C4.bad⟩,λ_=>hz
   ,T.x
   ,λf fn hf hn=>by
   obtain⟨a,o,fd,body,ps,h1,h2,h2',h3,_⟩:=(T.k f fn hf hn).ex;exact⟨a,o,fd,(qO (T.km f fn hf hn)).symm.trans h1,h2,h3,λA β σ s vs xs _ _ _ _=>by rw[hcf];exact C4.bad⟩
   ⟩
theorem vV(p:Prog)(gn:Nat->Str):∀ (d:Nat) (Z:Cx) (T:Static Z p gn) (hz:Z.q=false),Wd Z p.P gn p.G (af p d) d
 | 0=>@λZ T hz=>GY p gn Z T hz λ_ _ _=>rfl
 | d+1=>@λZ T hz=>⟨T.w,T.y,T.b,T.g,λf fn hf hn=>by
     obtain⟨a,o,fd,h1,h2,h3,h4⟩:=FD (q:=Z.q) T hf (T.f f fn hf (AH hn).2) λl=>vV p gn d (Z.of l Z.q) (T.of _ _) hz;exact⟨a,o,fd,(qO (AH hn).1).symm.trans h1,h2.1,h3,h4⟩,λ_=>hz
     ,T.x
     ,λf fn hf hn=>by
     obtain⟨a,o,fd,h1,h2,h3,h4⟩:=FD (q:=true) T hf (T.k f fn hf hn) λl=>D6 (T.of l true);exact⟨a,o,fd,(qO (T.km f fn hf hn)).symm.trans h1,h2.1,h3,h4⟩
     ⟩
theorem xx{f g:α->Option γ}:∀ {l:List α},(∀ n∈l,f n=g n)->l.filterMap f=l.filterMap g
 | []=>@λ_=>rfl
 | a::l=>@λh=>by rw[R4,R4,h a (Qh ..),xx λn hn=>h n (Qj _ hn)]
set_option tactic.hygienic true in
theorem pC:∀ {ps:List Str} {vals:List Value},ps.Nodup->vals.length=ps.length->(∀ n∈ps,((ps.zip vals).lookup n).isSome=true)/\(ps.filterMap λn=>((ps.zip vals).lookup n).map (n,·))=ps.zip vals
 | [],[]=>@λ_ _=>⟨(λn h=>by cases h),rfl⟩
 | [],_::_=>@λ_ h=>by simp at h
 | _::_,[]=>@λ_ h=>by simp at h
 | p::ps,v::vals=>@λhn hl=>by
   obtain⟨h1,h2⟩:=RB.mp hn;have ih:=pC h2 (by simpa using hl);refine⟨λn hm=>?_,?_⟩
   . rw[List.zip_cons_cons,QD];split
     . rfl
     . rename_i hne;rcases Qq.mp hm with rfl | hm
       . simp at hne
       . exact ih.1 n hm
   . rw[List.zip_cons_cons,R4,QD];simp only[beq_self_eq_true,Option.map_some];rw[xx (g:=λn=>((ps.zip vals).lookup n).map (n,·)) λn hm=>?_,ih.2];rw[QD];have:(n==p)=false:=by
       simp only[beq_eq_false_iff_ne]
       rintro rfl;exact h1 hm
     rw[this]
variable {as:List Arg}
theorem rN{qual:Str}{pm code doc:Value}(hn:(as.map (·.arg)).Nodup)(hl:vals.length=(as.map (·.arg)).length) :
   bindArgs (PyProof.Rows.methDef name qual ⟨[],as,none,[],[],none,[]⟩ body scope pm code doc) ⟨vals,[]⟩=pure ((as.map (·.arg)).zip vals):=by
 refine(pC hn hl).elim λz1 z2=>?_;refine Eq.trans (b:=if (decide (vals.length > (as.map Arg.arg).length)&&true)=true then _ else _) rfl ((if_neg (by refine hl▸?_;simp)).trans ?_);refine Eq.trans (b:=if (!(List.filter (λn=>(List.lookup n ((as.map Arg.arg).zip vals)).isNone) (List.take ((as.map Arg.arg).length - (List.drop (0 - (as.map Arg.arg).length) ([]:List Value)).length) (as.map Arg.arg))).isEmpty)=true then _ else _) rfl ((if_neg ?_).trans ?_)
 . rw[Rk.mpr λn hn=>?_]
   . simp
   . rw[Q9,<- Option.not_isSome_iff_eq_none];exact not_not_intro (z1 n (QO hn))
 . show (forIn (List.zip (List.drop _ (as.map Arg.arg)) (List.drop (0 - (as.map Arg.arg).length) ([]:List Value))) ((as.map Arg.arg).zip vals) _ >>= λ_=>_)=_;rw[List.drop_nil,List.zip_nil_right];show (pure (List.filterMap _ (as.map Arg.arg++[])):Sem _)=_;rw[QG];exact congrArg pure z2
theorem wI{a:Arguments}(h:jJ a=true):a=⟨[],a.args,none,[],[],none,[]⟩:=by obtain⟨p,as,v,k,kd,kw,d⟩:=a;obtain⟨h1,h2,h3,h4,h5,h6⟩:=Md h;rw[show p=[] from SR.mp h1,show v=none from Q9.mp h2,show k=[] from SR.mp h3,show kd=[] from SR.mp h4,show kw=none from Q9.mp h5,show d=[] from SR.mp h6]
noncomputable def jg(rs:List DefRec)(P:Nat->Option Fn)(gn:Nat->Str)(fn:Fn):Bool:=ob (rs.find? λr=>decide (r.name=fn.name)) λr=>jJ r.params&&decide (r.scope.kind=.function)&&!r.scope.isCoroutine&&!r.scope.isGenerator&&oU r.scope.names fn.slots (r.params.args.map (·.arg)) fn.np fn.ns&&GN P gn r.scope.names fn.slots fn.body r.body&&!fn.ctor&&!fn.meth
variable {view:Program}
theorem Bf(TA:∀ e:PyProof.Rows.DefItem,e∈List.map PySem.W.itemOf (PyProof.Rows.recsOf view)->e.params.defaults=[]->e.At Z.mg Z.h₀)
   (h:jg (PyProof.Rows.recsOf view) P gn fn=true):FnOk Z P gn fn:=by
 replace h:=aq h;obtain⟨r,hr,h⟩:=h
 . skip
   obtain⟨h1,h2,h3,h4,h5,h6,h7,h8⟩:=O3 h;replace h2:=of_decide_eq_true h2;replace h3:=wP h3;replace h4:=wP h4;replace h7:=wP h7;replace h8:=wP h8;have hn:r.name=fn.name:=by simpa using List.find?_some hr
   have hp:=wI h1;obtain⟨a,c,P',o,pm,doc,q1,q2,q3,q4,_⟩:=TA (PySem.W.itemOf r) (QV.mpr ⟨r,(List.mem_of_find?_eq_some hr),rfl⟩) (by show r.params.defaults=[];exact congrArg _ hp);obtain⟨f1,f2,f3,f4,f5⟩:=jG h5;refine⟨⟨a,o,_,r.body,r.params.args.map (·.arg),(qO h8).trans (hn▸q1),q2,(λz=>by rw[h8] at z;injection z),q3,rfl,rfl,q4,rfl,rfl,h2,h3,h4,λvals hl=>?_,h5,h6⟩,h7⟩;refine(?_:bindArgs (docDef r.name r.params r.body r.scope pm (.ref c) doc) ⟨vals,[]⟩=_);exact hp▸(rN (qual:=r.name) (wF f4) hl)
variable {rs:List DefRec}
theorem vv(h:jg rs P gn fn=true):fn.meth=false:=by
 replace h:=aq h;obtain⟨r,hr,h⟩:=h
 . simp only[Qw,Rg] at h;exact h.2
noncomputable def pp:List Str:=["len","list","dict","int","max","tuple","sorted","set","any","all","isinstance","bool","str","range","enumerate","zip"]
noncomputable def tM(names:List Str):Bool:=pp.all λx=>!names.contains x&&!PySem.bootMainNames.contains x
theorem L5 (b:Bi):rO b∈pp:=by cases b <;> first | decide | exact(by decide:("isinstance":Str)∈pp)
theorem N3 (b:Bi):rO b≠"__name__":=by cases b <;> first | decide | exact(by decide:("isinstance":Str)≠"__name__")
variable {consts:List (Str×PyData)}{names:List Str}{mg mb mn:Str->Option Value}
theorem static_of{prog:Program}{zh:List Fn}
   (GL:PyProof.Rows.Glob 0 mg mb (List.map PySem.W.itemOf (PyProof.Rows.recsOf view)) consts [] names ai.heap)
   (TA:∀ e:PyProof.Rows.DefItem,e∈List.map PySem.W.itemOf (PyProof.Rows.recsOf view)->e.params.defaults=[]->e.At mg ai.heap)
   (hchk:(zh.all λfn=>jg (PyProof.Rows.recsOf view) p.P gn fn)=true)
   (hP:p.P=λn=>zh[n]?) (hfree:tM names=true)
   (hg:∀ k x,p.G k=some x->∃ v,mg (gn k)=some v/\∀ T h,Rel T h v x)
   (hkd:(zh.all λfn=>!decide (fn.name=("_law_kind":Str))||jg (PyProof.Rows.recsOf view) (λ_=>none) gn fn)=true)
   (X:XOk ⟨prog,w,ai.heap,mg,mb,[],false,mn⟩):Static ⟨prog,w,ai.heap,mg,mb,[],false,mn⟩ p gn:=by
 have fr:∀ x∈pp,mg x=none:=λx hx=>by have:=Rf.mp hfree x hx;simp only[Qw,Rg,T3,decide_eq_false_iff_not] at this;exact GL.free x this.1 this.2
 have bt:∀ x:Str,x≠"__name__"->mb x=bootBuiltins x:=GL.builtins;refine⟨⟨GL.g,GL.b,GL.nolimit⟩,?_,⟨λb=>⟨?_,λhb=>?_⟩,λt=>⟨?_,?_⟩,⟨fr _ (by decide),?_⟩
   ,⟨fr _ (by decide),?_⟩
   ,⟨fr _ (by decide),?_⟩
   ⟩,hg,λi fn hf hc=>?_,X
   ,λi fn hf hn=>?_,λi fn hf hn=>?_
   ⟩
 . obtain⟨mm,⟨o,es,ep,e,_⟩,_⟩:=GL.seer.mods;exact⟨o,e⟩
 . exact fr _ (L5 b)
 . show mb (rO b)=_;rw[bt _ (N3 b)];cases b <;> first | rfl | (exfalso;rcases hb with hb | ⟨t,hb⟩ <;> injection hb)
 . exact fr _ (by cases t <;> decide)
 . show mb (sP t)=_;rw[bt _ (by cases t <;> decide)];cases t <;> rfl
 . show mb "range"=_;rw[bt _ (by decide)];rfl
 . show mb "enumerate"=_;rw[bt _ (by decide)];rfl
 . show mb "set"=_;rw[bt _ (by decide)];rfl
 . rw[hP] at hf;exact Bf (Z:=⟨prog,w,ai.heap,mg,mb,[],false,mn⟩) TA (Rf.mp hchk fn (Qp hf))
 . rw[hP] at hf;have:=Rf.mp hkd fn (Qp hf);rw[decide_eq_true hn,SE,SF] at this;exact Bf (Z:=⟨prog,w,ai.heap,mg,mb,[],false,mn⟩) TA this
 . rw[hP] at hf;have:=Rf.mp hkd fn (Qp hf);rw[decide_eq_true hn,SE,SF] at this;exact vv this
variable {T:Addr->Prop}{Pm:Params}
theorem yB{l:List Int}(hT:¬ T a)(hl:l.length<=LIM)(hw:PySem.W.Well Pm h (.ref a) (PySem.W.ofPy (.list (l.map .int)))):Rel T h (.ref a) (.list (l.map .int)):=by
 have all:∀ {l:List Int} {vs:List Value},PySem.W.WellAll Pm h vs (PySem.W.ofPys (l.map .int))->RelAll T h vs (l.map .int):=by
   intro l
   induction l with
   | nil=>intro vs w;cases w;exact .nil
   | cons i l ih=>
     intro vs w;cases w with
     | cons w ws=>cases w;exact .cons (.int _ _) (ih ws)
 cases hw with
 | list e ws=>exact .list (n:=0) e hT (by simpa using hl) (by simpa using all ws)
theorem zW(hz:Z.fr=[])(h:d<=600):jy Z d callerA:=⟨λ_=>rfl,by show 1+claimMargin+d+2 < recursionLimit;unfold claimMargin recursionLimit;omega,by show 4+8 * d+200 < cLine;unfold cLine;omega,[],rfl,by rw[hz];rfl,λ_ h=>by cases h⟩
theorem run_law{prog:Program}{w:PySem.World}{fa:Addr}{l:List Int}(T:Static ⟨prog,w,ai.heap,mg,mb,[],false,mn⟩ p gn)(hf:p.P i=some fn)(hmc:(fn.meth||fn.ctor)=false)(hmg:mg fn.name=some (.ref fa))
   (hw:PySem.W.Well w.params ai.heap (.ref a) (PySem.W.ofPy (.list (l.map .int)))) (hl:l.length<=LIM) (hd:d<=600) (hrun:af p d i [.d (.list (l.map .int))] []=.ok (.d (.bool true)) σ') {Q E:Value->Shared->Prop}
   (q:∀ s',(∀ b o,ai.heap.get? b=some o->s'.heap.get? b=some o)->s'.os=ai.os->s'.gens=ai.gens->Q (.bool true) s'):wpAny (model prog w) callerA (call (.ref fa) [.ref a]) Q E ai:=by
 obtain⟨a',o,fd,h1,_,_,hc⟩:=(vV p gn d _ T rfl).c i fn hf hmc;have:a'=fa:=by have h1:mg fn.name=some (.ref a'):=h1;rw[hmg] at h1;(injection h1 with e0_;injection e0_ with e0_;subst e0_);rfl
 subst this;have hr:VRels [] [] ai.heap [.ref a] [.d (.list (l.map .int))]:=.cons (yB (λ⟨k,c,h,_,_⟩=>by simp at h) hl hw) .nil;refine Qs (hc callerA [] [] ai _ _ (zW rfl hd) (λ_ h=>by cases h) (⟨rfl,.nil,λ_ _ e=>e,(λ_ h=>by cases h),λk a c h=>by simp at h⟩) hr _ _ hrun) (λv s' ⟨_,β',S,I',rv⟩=>?_) λ_ _ ⟨_,_,q,_⟩=>by injection q
 cases rv;exact q s' (λb o e=>I'.base b o e) S.os S.gens
noncomputable def xy:PyData->Bool
 | .int _=>true
 | .str y=>A2 y
 | _=>false
variable {a5:Heap}{ds:List PyProof.Rows.DefItem}
theorem globs_of(GL:PyProof.Rows.Glob 0 mg mb ds consts [] names a5)
   (h:∀ k x,p.G k=some x->(gn k,x)∈consts/\xy x=true):∀ k x,p.G k=some x->∃ v,mg (gn k)=some v/\∀ T h,Rel T h v x:=λk x hk=>by
 refine(h k x hk).elim λh1 h2=>?_;obtain⟨v,q1,q2⟩:=GL.bound _ h1;refine⟨v,q1,λT h=>?_⟩;have r:Reads h v x []:=q2 h;cases x with
 | int i=>cases r;exact .int _ _
 | str y=>cases r;exact .str _ _ (xo h2)
 | _=>injection h2
noncomputable def gnames:Nat->Str
 | 0=>"REST"
 | 1=>"LETTERS"
 | _=>"LONGEST"
theorem dE{a b:Bool}(h:(a&&b)=true):a=true/\b=true:=Qn.mp h
variable {st:Stmt}
theorem wV{p f n:Str}(h:EG p f n st=true):X4 λn1 n2 n3 n4=>st=.Assign [.Attribute (.Name p n1) f n2] (.Name n n3) n4:=by refine kk λK k=>?_;obtain⟨⟨ts,v⟩,z1,h1⟩:=aq h;obtain⟨t,z2,h2⟩:=aq h1;have h3:=dE h2;obtain⟨n1,n2,u1⟩:=yX h3.1;obtain⟨m,z3,h4⟩:=aq h3.2;obtain⟨n3,u2⟩:=bP z3;obtain⟨n4,u3⟩:=lR z1;refine k ?_;have u5:v=.Name m n3:=u2;exact⟨n1,n2,n3,n4,by rw[u3,(de z2:ts=[t]),u1,u5,of_decide_eq_true h4]⟩
variable {b:List Stmt}
theorem Cq{f:FuncBody}(h:Fk f=some b):f=.stmts b:=by cases f <;> first | ((injection h with e0_;subst e0_);rfl) | injection h
theorem HF{a:Bool}(h:(!a)=true):a=false:=by cases a <;> first | rfl | injection h
theorem BI{l:List Str}{a b c:Str}(h:DA l=some (a,b,c)):l=[a,b,c]:=by
 match l,h with
 | [x,y,z],h=>(injection h with e0_;injection e0_ with e0_ f0_;subst e0_;injection f0_ with e0_ f0_;subst e0_;subst f0_);rfl
theorem NN(e0:fd.params=⟨[],as,none,[],[],none,[]⟩)(e1:fd.body=.stmts b)(e2:fd.globals=mainGlobals)(e3:fd.closure=[])(e4:fd.defaults=.none)(e5:fd.kwdefaults=.none)(e6:fd.annotations=none)(e7:fd.closureTuple=.none)(e8:fd.builtins=builtinsNs) :
   fd=PyProof.Rows.methDef fd.name fd.qualname ⟨[],as,none,[],[],none,[]⟩ b fd.scope fd.pyModule fd.code fd.doc:=
 congr (congr (congr (congr (congr (congr (congr (congr (congrArg (λp b g c d k a t u=>FuncData.mk fd.name fd.qualname p b fd.scope g c d k fd.doc fd.pyModule a fd.code t u) e0) e1) e2) e3) e4) e5) e6) e7) e8
theorem K6(w:p1≠p0/\p2≠p0/\p2≠p1):[p0,p1,p2].Nodup:=
 RB.mpr ⟨λz=>(Qq.mp z).elim (λz=>w.1 z.symm) λz=>w.2.1 (Qt.mp z).symm,RB.mpr ⟨λz=>w.2.2 (Qt.mp z).symm,RB.mpr ⟨Re,SM⟩⟩⟩
theorem N2{as:List Arg}(e:fd=PyProof.Rows.methDef fd.name fd.qualname ⟨[],as,none,[],[],none,[]⟩ b fd.scope fd.pyModule fd.code fd.doc)(w4:as.map (·.arg)=[p0,p1,p2])(w6:p1≠p0/\p2≠p0/\p2≠p1)(u v w:Value):bindArgs fd ⟨[u,v,w],[]⟩=pure [(p0,u),(p1,v),(p2,w)]:=by have:=rN (name:=fd.name) (qual:=fd.qualname) (as:=as) (body:=b) (scope:=fd.scope) (pm:=fd.pyModule) (code:=fd.code) (doc:=fd.doc) (vals:=[u,v,w]) (w4▸K6 w6) (by refine w4▸?_;rfl);rw[w4,<- e] at this;exact this
theorem LA(h:PB fd p0 p1 p2 b=true):X8 λn1 n2 n3 n4 n5 n6 n7 n8=>b=[.Assign [.Attribute (.Name p0 n1) jn n2] (.Name p1 n3) n4,.Assign [.Attribute (.Name p0 n5) dj n6] (.Name p2 n7) n8]:=by refine kk λK k=>?_;obtain⟨q,z1,h1⟩:=aq h;have h2:=dE h1;obtain⟨n1,n2,n3,n4,u3⟩:=wV h2.1;obtain⟨n5,n6,n7,n8,u4⟩:=wV h2.2;refine k ?_;exact⟨n1,n2,n3,n4,n5,n6,n7,n8,by rw[iM z1,u3,u4]⟩
variable {ns:Addr}{o:Obj}
theorem H4 (h1:h.nsMap ns "__init__"=some (.ref a)) (h2:h.get? a=some o) (x0:o.cls=.type "function") (h3:o.data=.func fd) (x:PA h fd=true):InitX h (h.nsMap ns):=by have x1:=dE x;have x2:=dE x1.2;refine kk λK k=>?_;obtain⟨b,z1,y1⟩:=aq x2.2;obtain⟨⟨p0,p1,p2⟩,z2,y2⟩:=aq y1;have y3:=dE y2;obtain⟨n1,n2,n3,n4,n5,n6,n7,n8,hb⟩:=LA y3.1;refine k ?_;have w:=dE y3.2;have s1:=dE x2.1;have s2:=dE s1.2;have s3:=dE s2.2;have s4:=dE s3.2;have s5:=dE s4.2;have s6:=dE s5.2;have s7:=dE s6.2;have s8:=dE s7.2;have s9:=dE s8.2;have s10:=dE s9.2;have eb:=Cq z1;exact⟨a,o,fd,p0,p1,p2,n1,n2,n3,n4,n5,n6,n7,n8,h1,h2,x0,h3,eb.trans (congrArg FuncBody.stmts hb),fF s2.1,.of_ok s8.1,⟨of_decide_eq_true s9.1,HF s10.1,HF s10.2⟩,N2 (NN (wI x1.1) eb (of_decide_eq_true s1.1) (fF s2.1) (of_decide_eq_true s3.1) (of_decide_eq_true s4.1) (Q9.mp s5.1) (of_decide_eq_true s6.1) (of_decide_eq_true s7.1)) (BI z2) (of_decide_eq_true w.2),λp hp=>⟨of_decide_eq_true (dE (Rf.mp w.1 p hp)).1,(dE (Rf.mp w.1 p hp)).2⟩,of_decide_eq_true w.2⟩
theorem H2(x:Lz h ns=true):InitX h (h.nsMap ns):=by
 unfold Lz at x;cases hf:h.fnAt ns "__init__" with
 | none=>rw[hf] at x;injection x
 | some y=>refine kk λK k=>?_;obtain⟨a,o,fd⟩:=y;rw[hf] at x;obtain⟨h1,h2,h3⟩:=Heap.fnAt_spec hf;refine k ?_;exact H4 h1 h2 (of_decide_eq_true (dE x).1) h3 (dE x).2
def XF(mg:Str->Option Value)(h:Heap):Prop:=∀ k,k<=6->mg (lg k)=some (.ref (KA k))/\XAt h k
variable {cd:ClassData}
theorem J6 (ho:h.get? (KA k)=some o) (hd:o.data=.cls cd) (h1:o.cls=.type "type") (h2:cd.mro=.ref (KA k)::dG k) (h3:cd.hasDel=false) (h4:o.slots.size=6) (h5:o.slots[4]?=some (some (.builtin "ValueError.__new__"))) (h6:h.isNs cd.ns=true) (h7:∀ n∈dN,h.nsMap cd.ns n=none) (h8:k<=5->h.nsMap cd.ns "__init__"=none) (h9:k=6->cd.hasDict=true/\InitX h (h.nsMap cd.ns)):XAt h k:=by obtain⟨oc,dd,dt,sl⟩:=o;obtain⟨nm,bs,mro,N,q,hdct,sn,sub,ab,col,hdel⟩:=cd;obtain⟨l⟩:=sl;obtain⟨k0,k1,k2,k3,k5,rfl⟩:=six_places (l:=l) h4 (by simpa using h5);subst h1;subst hd;subst h3;subst h2;exact⟨nm,q,N,bs,hdct,sn,sub,ab,col,dd,k0,k1,k2,k3,k5,h.nsMap N,ho,.of_isNs h6,h7,h8,h9⟩
theorem xf_of(x:xChk h=true):XF (h.nsMap mainGlobals) h:=λk hk=>by
 have x:=Rf.mp x k (RV.mpr (Ta hk));unfold I9 at x;cases hc:h.clsAt mainGlobals (lg k) with
 | none=>rw[hc] at x;injection x
 | some y=>obtain⟨a,o,cd⟩:=y;rw[hc] at x;obtain⟨hn,ho,hd⟩:=Heap.clsAt_spec hc;have s9:=dE x;have s8:=dE s9.1;have s7:=dE s8.1;have s6:=dE s7.1;have s5:=dE s6.1;have s4:=dE s5.1;have s3:=dE s4.1;have s2:=dE s3.1;have s1:=dE s2.1;rw[(of_decide_eq_true s1.1)] at hn ho;exact⟨hn,J6 ho hd (eq_of_beq s1.2) (eq_of_beq s2.2) (HF s3.2) (eq_of_beq s4.2) (eq_of_beq s5.2) s6.2 (λn hn=>Q9.mp (Rf.mp s7.2 n hn)) (λh5=>(QS.mp s8.2).elim (λz=>absurd (of_decide_eq_true z) (λz=>by rw[z] at h5;exact absurd h5 (by decide))) Q9.mp) λh6=>(QS.mp s9.2).elim (λz=>absurd h6 (of_decide_eq_false (HF z))) λz=>⟨(dE z).1,H2 (dE z).2⟩⟩
theorem XF.keeps(x:XF mg h)(hk:∀ b o,h.get? b=some o->h'.get? b=some o):XF mg h':=λk hk6=>⟨(x k hk6).1,(x k hk6).2.keeps hk⟩
theorem Mm:∀ i j,i<=6->j<=6->KA i=KA j->i=j:=by
 have:∀ i,i < 7->∀ j,j < 7->KA i=KA j->i=j:=by decide +kernel
 exact λi j hi hj=>this i (Ta hi) j (Ta hj)
theorem xok_of {prog:Program} (GL:PyProof.Rows.Glob 0 mg mb ds consts [] names ai.heap) (hve:(!names.contains ("ValueError":Str)&&!PySem.bootMainNames.contains "ValueError")=true) (X:XF mg ai.heap):XOk ⟨prog,w,ai.heap,mg,mb,[],false,mn⟩:=by
 refine⟨λk hk=>⟨(X k hk).1,(X k hk).2⟩,Mm,?_,?_⟩
 . simp only[Qw,Rg,T3,decide_eq_false_iff_not] at hve;exact GL.free _ hve.1 hve.2
 . show mb "ValueError"=_;rw[GL.builtins _ (by decide)];rfl
namespace L10
noncomputable def aK:Str:=⟨#[110,97,109,101]⟩
noncomputable def lP:Str:=⟨#[110,117,109]⟩
noncomputable def ny:Str:=⟨#[115,101,116]⟩
noncomputable def yC:Str:=⟨#[116,101,108,108]⟩
noncomputable def ll:Str:=⟨#[119,104,101,110]⟩
noncomputable def gc:Str:=⟨#[99,97,108,108]⟩
noncomputable def dW:Str:=⟨#[97,103,97,105,110]⟩
noncomputable def kR:Str:=⟨#[110,111,32,115,117,99,104,32,112,108,97,99,101]⟩
noncomputable def lm:Str:=⟨#[110,111,32,114,111,119,32,115,116,97,110,100,115,32,116,104,101,114,101]⟩
noncomputable def DW:Str:=⟨#[110,111,32,99,97,108,108]⟩
noncomputable def aj:Str:=⟨#[97,98,99,100,101,102,103,104,105,106,107,108,109,110,111,112,113,114,115,116,117,118,119,120,121,122]⟩
noncomputable def Ar:Str:=⟨#[115,117,109]⟩
noncomputable def ux:Str:=⟨#[108,101,115,115]⟩
noncomputable def oV:Str:=⟨#[116,105,109,101,115]⟩
noncomputable def oG:Str:=⟨#[110,111,116,32,115,111,32,109,97,110,121,32,114,111,119,115]⟩
noncomputable def DV:Str:=⟨#[110,111,32,110,97,109,101]⟩
noncomputable def jw:Str:=⟨#[97,32,102,117,110,99,116,105,111,110,32,111,102,32,116,104,97,116,32,110,97,109,101]⟩
noncomputable def bC:Str:=⟨#[112,108,97,99,101]⟩
noncomputable def bX:Str:=⟨#[]⟩
noncomputable def ke:Str:=⟨#[116,97,107,101,110]⟩
noncomputable def bG:Str:=⟨#[99,108,97,115,104]⟩
noncomputable def jI:Str:=⟨#[97,98,99,100,101,102,103,104,105]⟩
noncomputable def Kt:Str:=⟨#[97,49]⟩
noncomputable def Ot:Str:=⟨#[97,123]⟩
noncomputable def Kr:Str:=⟨#[95,97]⟩
noncomputable def BU:Str:=⟨#[115,101,118,101,114,97,108]⟩
noncomputable def DS:Str:=⟨#[117,110,108,105,107,101]⟩
noncomputable def Jj:Str:=⟨#[97]⟩
noncomputable def Pn:Str:=⟨#[65]⟩
noncomputable def zx(a b:E):E:=.idx a b
noncomputable def a8:E:=.var 0
noncomputable def cP:E:=.int 0
noncomputable def aH(s:Str):E:=.str s
noncomputable def dy(a b:E):E:=.cmp .eq a b
noncomputable def bw:E:=.int 1
noncomputable def br:E:=.var 1
noncomputable def fE(a b:E):E:=.cmp .notIn a b
noncomputable def aP(a:E):EL:=.cons a .nil
noncomputable def bD(a:S):SL:=.cons a .nil
noncomputable def cq(c:E)(l:SL):S:=.ite c l .nil
noncomputable def Ad(a b:E):E:=.cmp .ne a b
noncomputable def zc(f:Nat)(l:EL):E:=.call f l
noncomputable def aW(a b:E):EL:=.cons a (.cons b .nil)
noncomputable def dL:E:=.int 2
noncomputable def r9(a b:S):SL:=.cons a (.cons b .nil)
noncomputable def ak(k:Nat)(e:E):S:=.asg (.var k) e
noncomputable def zr(e:E):S:=.ret e
noncomputable def rX(a b c:S):SL:=.cons a (.cons b (.cons c .nil))
noncomputable def rY(l:EL):E:=.bop false l
noncomputable def lf:E:=.int 3
noncomputable def GS(a b c d:S):SL:=.cons a (.cons b (.cons c (.cons d .nil)))
noncomputable def bN:E:=.var 3
noncomputable def bv:E:=.var 2
noncomputable def gS(k:Nat)(i:It)(l:SL):S:=.forr (.var k) i l
noncomputable def zt(l:EL):E:=.tup l
noncomputable def cH:E:=.var 4
noncomputable def iL(a:E):E:=.cmp .isNotN a .none
noncomputable def fb(l:EL):E:=.bop true l
noncomputable def Di(a b:E):E:=.cmp .gt a b
noncomputable def da:E:=.var 5
noncomputable def GJ(a b:E):E:=.cmp .lt a b
noncomputable def J5(k f:Nat)(l:EL):S:=.calls (.var k) f l
noncomputable def jA:E:=.var 6
noncomputable def C8:E:=.var 9
noncomputable def gy:E:=.var 7
noncomputable def jz:E:=.var 8
noncomputable def I6(a b c d e:S):SL:=.cons a (.cons b (.cons c (.cons d (.cons e .nil))))
noncomputable def Oe(a b c d e f:S):SL:=.cons a (.cons b (.cons c (.cons d (.cons e (.cons f .nil)))))
noncomputable def mF(a b c d:E):EL:=.cons a (.cons b (.cons c (.cons d .nil)))
noncomputable def jq(a b c:E):EL:=.cons a (.cons b (.cons c .nil))
noncomputable def pA(a b:E):E:=.cmp .isIn a b
noncomputable def pv:E:=.var 10
noncomputable def C9(a b c d e f g:S):SL:=.cons a (.cons b (.cons c (.cons d (.cons e (.cons f (.cons g .nil))))))
noncomputable def J4(a:E):E:=.cmp .isN a .none
noncomputable def I7(a b c d e:E):EL:=.cons a (.cons b (.cons c (.cons d (.cons e .nil))))
noncomputable def GK:E:=.int 8
noncomputable def yt:E:=.int 6
noncomputable def C2:E:=.int 4
noncomputable def Og(a b c d e f:E):EL:=.cons a (.cons b (.cons c (.cons d (.cons e (.cons f .nil)))))
noncomputable def Ph(a b:E):E:=.cmp (.ge ()) a b
noncomputable def PL(a b:E):E:=.cmp .le a b
noncomputable def Pg:Nat->List Str->List (Str×Nat)
 | _,[]=>[]
 | k,x::l=>(x,k)::Pg (k+1) l
noncomputable def dM(x:Str)(n:Nat)(l:List Str)(m:Nat)(b:SL):Fn:={ name:=x,np:=n,slots:=Pg 0 l,ns:=m,body:=b }
noncomputable def Ok:Str:=⟨#[116,101,114,109]⟩
noncomputable def GI:Str:=⟨#[102,111,117,110,100]⟩
noncomputable def vP:Str:=⟨#[114,111,119]⟩
noncomputable def Df:Str:=⟨#[114,111,119,115]⟩
noncomputable def JX:Str:=⟨#[110,117,109,98,101,114]⟩
noncomputable def Oj:Str:=⟨#[110,97,109,101,115]⟩
noncomputable def Dc:Str:=⟨#[112,114,111,103,114,97,109]⟩
noncomputable def GT:Str:=⟨#[102,117,110,99,116,105,111,110]⟩
noncomputable def Oi:Str:=⟨#[109,97,110,121]⟩
noncomputable def Of:Str:=⟨#[110,101,119,115]⟩
noncomputable def J3:Str:=⟨#[112,97,114,97,109,101,116,101,114,115]⟩
noncomputable def J2:Str:=⟨#[114,101,115,117,108,116]⟩
noncomputable def J1:Str:=⟨#[107]⟩
noncomputable def J0:Str:=⟨#[115,112,111,116]⟩
noncomputable def Dh:Str:=⟨#[95,108,97,119,95,115,99,114,105,112,116]⟩
noncomputable def GV:Str:=⟨#[95,108,97,119,95,107]⟩
noncomputable def py:Str:=⟨#[95,108,97,119,95,99,101,108,108,95,104,101,114,101]⟩
noncomputable def pw:Str:=⟨#[95,108,97,119,95,109,97,110,121]⟩
noncomputable def ub:Str:=⟨#[95,108,97,119,95,97,116]⟩
noncomputable def yr:Str:=⟨#[95,108,97,119,95,119,111,114,100,115,95,104,101,114,101]⟩
noncomputable def JZ:Str:=⟨#[95,108,97,119,95,100,101,101,112]⟩
noncomputable def oA:Str:=⟨#[95,108,97,119,95,110,97,109,101]⟩
noncomputable def GU:Str:=⟨#[95,108,97,119,95,104,101,97,100,115]⟩
noncomputable def oz:Str:=⟨#[95,108,97,119,95,114,111,119,115,95,104,101,114,101]⟩
noncomputable def oy:Str:=⟨#[95,108,97,119,95,112,114,111,103,114,97,109,95,104,101,114,101]⟩
noncomputable def Dg:Str:=⟨#[95,108,97,119,95,110,97,109,101,115,95,104,101,114,101]⟩
noncomputable def JY:Str:=⟨#[95,108,97,119,95,102,117,110,99,116,105,111,110,95,104,101,114,101]⟩
noncomputable def vU:Str:=⟨#[95,108,97,119,95,114,111,119,95,104,101,114,101]⟩
noncomputable def se:Str:=⟨#[95,108,97,119,95,102,111,117,110,100]⟩
noncomputable def sd:Str:=⟨#[95,108,97,119,95,112,108,97,99,101]⟩
noncomputable def De:Str:=⟨#[95,108,97,119,95,116,111,108,100,95,104,101,114,101]⟩
noncomputable def yq:E:=.bi .len false (aP br)
noncomputable def yp:E:=.list false .nil
noncomputable def C5:E:=zx br (.neg bw)
noncomputable def JT:E:=.slc false br (.yes bw) .no
noncomputable def rZ:E:=zx br cP
noncomputable def Mx:E:=zc 25 (aW a8 (.bin .add false br dL))
noncomputable def vT:E:=zx a8 cP
noncomputable def GR:E:=.slc false a8 .no (.yes cH)
noncomputable def Pf:S:=cq (dy yq bw) (bD (zr (.bin .add false (.bin .add false GR bN) (.slc false a8 (.yes (.bin .add false cH bv)) .no))))
noncomputable def JS:E:=.bi .len false (aP a8)
noncomputable def Mw:E:=.bin .add false a8 (zt (aP bN))
noncomputable def MB:E:=zc 32 (I7 da br gy (.bin .sub false bN bw) (.bin .add false bw (.bin .mod false (.bin .fdiv false a8 (.int 9)) lf)))
noncomputable def BA:E:=.bi .len false (aP bv)
noncomputable def JU:E:=.slc false br .no (.yes (.neg bw))
noncomputable def MA:E:=.bin .add false JU (zt (aP (.bin .sub false (.bin .add false C5 bv) bw)))
noncomputable def yo:E:=zc 25 (aW a8 bw)
noncomputable def JW:E:=.slc false a8 (.yes (.bin .add false cH bw)) .no
noncomputable def pr:E:=zx a8 bw
noncomputable def C7:E:=.bin .fdiv false a8 yt
noncomputable def C6:E:=.bi .len false (aP bN)
noncomputable def Mz:E:=rY (aW (dy (zx bN cP) (aH ll)) (fb (aW (dy (zx bN cP) (aH dW)) (Di (zx bN bw) cP))))
noncomputable def ua:E:=.bool true
noncomputable def JV:E:=.slc false br (.yes bw) (.yes (.neg bw))
noncomputable def My:SL:=r9 (cq (rY (aW (dy vT (aH ny)) (dy vT (aH gc)))) (bD (zr pr))) (zr .none)
noncomputable def r8:EL:=aW a8 br
noncomputable def FO:Fn:=dM ⟨#[103,97,116,104,101,114]⟩ 2 [Ok,GI] 2 (bD (.ite (dy vT (aH aK)) (bD (cq (fE pr br) (bD (.expr (.meth .append br (aP pr)))))) (bD (cq (Ad vT (aH lP)) (r9 (.expr (zc 0 (aW pr br))) (.expr (zc 0 (aW (zx a8 dL) br))))))))
noncomputable def zl:Fn:=dM ⟨#[110,97,109,101,115,95,105,110]⟩ 1 [Ok,GI] 2 (rX (ak 1 (.list true .nil)) (.expr (zc 0 r8)) (zr (.freeze br)))
noncomputable def oh:Fn:=dM ⟨#[111,119,110,95,116,101,114,109,115]⟩ 1 [vP] 1 (GS (cq (dy vT (aH ny)) (bD (zr (.list false (aP (zx a8 dL)))))) (cq (rY (aW (dy vT (aH yC)) (dy vT (aH ll)))) (bD (zr (.list false (aP pr))))) (cq (dy vT (aH gc)) (bD (zr (.bi .list false (aP (zx a8 lf)))))) (zr yp))
noncomputable def kW:SL:=bD (.put br bN ua)
noncomputable def kU:SL:=bD (gS 3 (.seq (zc 1 (aP bv))) kW)
noncomputable def xA:Fn:=dM ⟨#[111,119,110,95,110,97,109,101,115]⟩ 1 [vP,GI,Ok,aK] 4 (rX (ak 1 .dict0) (gS 2 (.seq (zc 2 (aP a8))) kU) (zr (.bi .list false (aP br))))
noncomputable def tN:Fn:=dM ⟨#[111,119,110,95,115,101,116]⟩ 1 [vP] 1 (My)
noncomputable def qV:Fn:=dM ⟨#[104,97,115,95,114,111,119,115]⟩ 1 [vP] 1 (bD (zr (rY (aW (dy vT (aH ll)) (dy vT (aH dW))))))
noncomputable def sv:Fn:=dM ⟨#[114,111,119,115,95,119,105,116,104,105,110]⟩ 1 [vP] 1 (r9 (cq (zc 5 (aP a8)) (bD (zr (zx a8 dL)))) (zr (zt .nil)))
noncomputable def ly:SL:=r9 (.expr (.meth .append bv (aP (zt (aW Mw cH))))) (.expr (.meth .extend bv (aP (zc 7 (aW Mw (zc 6 (aP cH)))))))
noncomputable def FK:Fn:=dM ⟨#[119,97,108,107,101,100]⟩ 2 [⟨#[97,116]⟩,Df,GI,JX,vP] 5 (rX (ak 2 (.list true .nil)) (.forr (.tup [3,4]) (.enum br) ly) (zr (.freeze bv)))
noncomputable def eV:SL:=r9 (cq (iL (zc 4 (aP bv))) (bD (.put br (zc 4 (aP bv)) ua))) (cq (fb (aW (dy (zx bv cP) (aH dW)) (Di (zx bv bw) cP))) (bD (.expr (.meth .update br (aP (zc 8 (aP (zx bv dL))))))))
noncomputable def jW:Fn:=dM ⟨#[115,117,114,101,108,121,95,105,110]⟩ 1 [Df,GI,vP] 3 (rX (ak 1 .dict0) (gS 2 (.seq a8) eV) (zr br))
noncomputable def fT:SL:=bD (cq (fE da bv) (bD (.put br da ua)))
noncomputable def cy:SL:=GS (ak 4 (zc 3 (aP bN))) (cq Mz (bD (ak 4 (.bin .add false cH (.bi .list false (aP (zc 9 (aP (zx bN dL))))))))) (gS 5 (.seq cH) fT) (.expr (.meth .update bv (aP (zc 8 (aP (zt (aP bN)))))))
noncomputable def zv:Fn:=dM ⟨#[102,105,114,115,116,95,105,110]⟩ 1 [Df,GI,⟨#[107,110,111,119,110]⟩,vP,Oj,aK] 6 (GS (ak 1 .dict0) (ak 2 .dict0) (gS 3 (.seq a8) cy) (zr br))
noncomputable def ja:SL:=r9 (cq (rY (aW (.not (.cmp2 .le .lt cP bN BA)) (.not (zc 5 (aP (zx bv bN)))))) (bD (.raise 1 (aP (aH kR))))) (ak 2 (zx (zx bv bN) dL))
noncomputable def zj:Fn:=dM ⟨#[116,117,112,108,101,95,97,116]⟩ 2 [Dc,bC,Df,JX] 4 (GS (cq (rY (aW (GJ yq dL) (.not (.cmp2 .le .lt cP rZ JS)))) (bD (.raise 1 (aP (aH kR))))) (ak 2 (zx (zx a8 rZ) dL)) (gS 3 (.seq JV) ja) (zr bv))
noncomputable def FL:Fn:=dM ⟨#[114,111,119,95,97,116]⟩ 2 [Dc,bC,Df] 3 (rX (J5 2 10 r8) (cq (.not (.cmp2 .le .lt cP C5 BA)) (bD (.raise 1 (aP (aH lm))))) (zr (zx bv C5)))
noncomputable def jb:SL:=I6 (ak 6 (.slc false bN (.yes (.bin .add false (zx br da) bw)) .no)) (ak 7 (zc 8 (aP jA))) (ak 4 (.bin .add false (.bi .list false (aP (zc 9 (aP jA)))) (.comp false (.var 9) (.seq cH) (.yes (fE C8 gy)) C8))) (ak 8 (zx bN (zx br da))) (cq (GJ da (.bin .sub false yq bw)) (r9 (ak 3 (zx jz dL)) (cq (fb (aW (dy (zx jz cP) (aH dW)) (Di (zx jz bw) bw))) (bD (ak 4 (.bin .add false cH (.bi .list false (aP (zc 9 (aP bN))))))))))
noncomputable def FN:Fn:=dM ⟨#[110,101,101,100,101,100]⟩ 2 [Dc,bC,GT,Df,Oj,⟨#[100,101,112,116,104]⟩,⟨#[98,101,104,105,110,100]⟩,⟨#[115,117,114,101]⟩,vP] 10 (Oe (.calls .drop 11 r8) (ak 2 (zx a8 rZ)) (ak 3 (zx bv dL)) (ak 4 (zc 1 (aP (zx bv lf)))) (gS 5 (.range2 bw yq) jb) (zr (.bi .sortedSet false (aP cH))))
noncomputable def qQ:Fn:=dM ⟨#[119,105,116,104,95,114,111,119,115,95,105,110]⟩ 4 [Df,⟨#[112,97,116,104]⟩,Oi,Of,⟨#[97,116]⟩,vP] 6 (GS (ak 4 rZ) Pf (ak 5 (zx a8 cH)) (zr (.bin .add false (.bin .add false GR (zt (aP (zt (jq (zx da cP) (zx da bw) (zc 13 (mF (zx da dL) JT bv bN))))))) JW)))
noncomputable def xz:Fn:=dM ⟨#[119,105,116,104,95,114,111,119,115]⟩ 4 [Dc,bC,Oi,Of,aK,J3,Df,J2,GT] 9 (rX (.asgT [4,5,6,7] (zx a8 rZ)) (ak 8 (zt (mF cH da (zc 13 (mF jA JT bv bN)) gy))) (zr (.bin .add false (.bin .add false (.slc false a8 .no (.yes rZ)) (zt (aP jz))) (.slc false a8 (.yes (.bin .add false rZ bw)) .no))))
noncomputable def du:SL:=bD (cq (dy (zx bN cP) br) (bD (zr bv)))
noncomputable def xB:Fn:=dM ⟨#[110,117,109,98,101,114,95,111,102]⟩ 2 [Dc,aK,JX,GT] 4 (r9 (.forr (.tup [2,3]) (.enum a8) du) (zr .none))
noncomputable def sw:Fn:=dM ⟨#[110,117,109,98,101,114,115,95,115,101,116]⟩ 2 [vP,GT] 4 (bD (zr (.comp false (.tup [2,3]) (.enum (zx br bw)) (.yes (Ad (zx (zx a8 lf) bv) (zt (aW (aH aK) bN)))) bv)))
noncomputable def zk:Fn:=dM ⟨#[114,111,119,115,95,112,117,116]⟩ 2 [vP,GT,Of] 4 (rX (ak 2 (.bin .add false (.bi .tuple false (aP (.comp false (.var 3) (.seq (zc 16 r8)) .no (zt (jq (aH ny) (zx (zx br bw) bN) (zx (zx a8 lf) bN)))))) (zx br dL))) (cq (fb (aW (iL pr) (Ad (zx br lf) (zt (aW (aH aK) pr))))) (bD (ak 2 (.bin .add false bv (zt (aP (zt (jq (aH ny) pr (zx br lf))))))))) (zr bv))
noncomputable def qE:SL:=bD (cq (pA (zx (zx bv bw) bN) (zc 1 (aP (zx (zx br lf) cH)))) (bD (zr (zt (aW Mw (.bin .add false a8 (zt (aP cH))))))))
noncomputable def qD:SL:=bD (gS 4 (.range2 (.bin .add false bN bw) (.bi .len false (aP (zx br lf)))) qE)
noncomputable def u9:Fn:=dM ⟨#[116,101,114,109,95,99,108,97,115,104]⟩ 3 [bC,vP,GT,J1,⟨#[111,116,104,101,114]⟩] 5 (r9 (gS 3 (.seq (zc 16 (aW br bv))) qD) (zr .none))
noncomputable def vh:Fn:=dM ⟨#[98,97,114,101,95,99,108,97,115,104]⟩ 3 [Dc,bC,JX,J3,Df,J2,⟨#[115,117,114,101]⟩,Oj,⟨#[98,97,114,101]⟩] 11 (C9 (.asgT [3,4,5] (.slc false (zx a8 bv) (.yes bw) .no)) (ak 6 (zc 8 (aP cH))) (ak 7 (.bin .add false (.bi .list false (aP (zc 9 (aP cH)))) (.comp false (.var 9) (.seq (zc 1 (aP da))) (.yes (fE C8 jA)) C8))) (ak 8 (.comp false (.var 10) (.seq gy) (.yes (fE pv bN)) pv)) (cq (dy jz yp) (bD (zr .none))) .stop .stop)
noncomputable def w9:SL:=bD (.put cH (zx (zx bN bw) da) (.bin .add false a8 (zt (aP da))))
noncomputable def jQ:SL:=bD (cq (fb (aW (iL (zc 4 (aP gy))) (fE (zc 4 (aP gy)) cH))) (bD (.put cH (zc 4 (aP gy)) jA)))
noncomputable def Cs:Fn:=dM ⟨#[115,101,116,116,101,114,115]⟩ 4 [bC,vP,JX,GT,GI,J1,J0,⟨#[111,110,101]⟩] 8 (I6 (ak 4 .dict0) (gS 5 (.seq (zc 16 (aW br bN))) w9) (.forr (.tup [6,7]) (.seq (zc 7 (aW (zt (aP bv)) (zx bN dL)))) jQ) (.expr (.meth .pop cH (aW (zx br bw) .none))) (zr cH))
noncomputable def FM:Fn:=dM ⟨#[114,101,97,100,101,114]⟩ 3 [Dc,bC,aK] 3 (I6 .stop .stop .stop .stop .stop)
noncomputable def gj:SL:=bD (cq (pA da cH) (bD (zr (zt (aW (zx cH da) (zc 21 (jq a8 br da)))))))
noncomputable def vb:Fn:=dM ⟨#[108,111,115,116,95,99,108,97,115,104]⟩ 4 [Dc,bC,vP,JX,GI,aK] 6 (rX (ak 4 (zc 20 (mF br bv bN (zx a8 bN)))) (gS 5 (.seq (zc 12 r8)) gj) (zr .none))
noncomputable def dv:SL:=bD (cq (fb (aW (dy (zx cH cP) (aH gc)) (dy (zx cH dL) br))) (bD (zr ua)))
noncomputable def kY:SL:=bD (.forr (.tup [3,4]) (.seq (zc 7 (aW (zt .nil) (zx bv dL)))) dv)
noncomputable def xI:Fn:=dM ⟨#[105,115,95,99,97,108,108,101,100]⟩ 2 [Dc,aK,GT,J0,vP] 5 (r9 (gS 2 (.seq a8) kY) (zr (.bool false)))
noncomputable def NO:Fn:=dM ⟨#[112,117,116]⟩ 2 [Dc,bC,vP,JX,GT,bG,Of,⟨#[97,102,116,101,114]⟩] 8 (.cons (J5 2 11 r8) (.cons (cq (Ad (zx bv cP) (aH gc)) (bD (.raise 4 (aP (aH DW))))) (.cons (ak 3 (zc 15 (aW a8 (zx bv dL)))) (.cons (ak 4 (zx a8 bN)) (.cons (ak 5 (zc 18 (jq br bv cH))) (.cons (cq (J4 da) (bD (ak 5 (zc 19 (jq a8 br bN))))) (C9 (cq (J4 da) (bD (J5 5 22 (mF a8 br bv bN)))) (cq (iL da) (bD (.raise 6 (aW (zx da cP) (zx da bw))))) (ak 6 (zc 17 (aW bv cH))) (ak 7 (zc 14 (mF a8 br bw jA))) (cq (zc 23 (aW gy (zx bv dL))) (bD (zr (zt (aW gy (zt (I7 br (.bi .len false (aP jA)) bv bN .none))))))) (ak 7 (.bin .add false (.slc false gy .no (.yes bN)) (.slc false gy (.yes (.bin .add false bN bw)) .no))) (zr (zt (aW gy (zt (I7 (.bin .add false (zt (aP (.bin .sub false rZ bw))) JT) (.bi .len false (aP jA)) bv bN cH))))))))))))
noncomputable def rP:SL:=GS (ak 2 (.ite (GJ br JS) (zx a8 br) cP)) (ak 3 (.bin .mod false (.bin .mul false (.bin .add false (.bin .mod false bv (.int 2147483629)) (.bin .mul false (.int 7919) (.bin .add false br bw))) (.int 48271)) (.int 2147483647))) (ak 3 (.bin .mod false (.bin .mul false (.bin .mod false (.bin .mul false bN bN) (.int 2147483629)) (.int 69621)) (.int 2147483647))) (zr (.bin .add false (.bin .mul false (.bin .add false (.bin .mul false (.bin .fdiv false bv (.int 2147483629)) (.int 2147483647)) bN) (.int 2147483629)) (.bin .mod false (.bin .mul false bN bN) (.int 2147483629))))
noncomputable def qU:Fn:=dM ⟨#[95,108,97,119,95,99,101,108,108]⟩ 2 [Dh,GV,py,⟨#[95,108,97,119,95,109,97,114,107]⟩] 4 rP
noncomputable def xE:Fn:=dM ⟨#[95,108,97,119,95,109,105,120,101,100]⟩ 2 [py,GV,⟨#[95,108,97,119,95,109,97,114,107]⟩] 3 (r9 (ak 2 (.bin .mod false (.bin .add false (.bin .mul false a8 (.int 48271)) (.bin .mul false (.bin .add false br bw) (.int 1299721))) (.int 2147483647))) (zr (.bin .mod false (.bin .mul false bv (.bin .add false (.bin .mod false (.bin .fdiv false bv (.int 7)) (.int 65536)) lf)) (.int 2147483647))))
noncomputable def xC:Fn:=dM ⟨#[95,108,97,119,95,119,111,114,100,115]⟩ 2 [py,pw,⟨#[95,108,97,119,95,108,101,116,116,101,114,115]⟩,⟨#[95,108,97,119,95,98,97,115,101]⟩,ub] 7 (I6 (ak 2 (aH aj)) (ak 3 (.bin .mul false (zx bv (.bin .mod false a8 (.int 26))) (.bin .add false bw (.bin .mod false (.bin .fdiv false a8 (.int 26)) GK)))) (ak 4 (.bin .mod false (.bin .fdiv false a8 (.int 208)) C6)) (cq (dy (.bin .mod false (.bin .fdiv false a8 (.int 1664)) lf) bw) (bD (zr (.comp false (.var 5) (.range br) .no (.bin .mul false (zx bv (.bin .mod false a8 (.int 26))) (.bin .add false bw da)))))) (zr (.comp false (.var 6) (.range br) .no (.bin .add false (.bin .add false (.slc false bN .no (.yes cH)) (zx bv (.bin .mod false (.bin .add false (.bin .fdiv false a8 (.int 4992)) (.bin .mul false (.int 5) jA)) (.int 26)))) (.slc false bN (.yes (.bin .add false cH bw)) .no)))))
noncomputable def zq:Fn:=dM ⟨#[95,108,97,119,95,116,101,114,109]⟩ 3 [py,yr,JZ,⟨#[95,108,97,119,95,107,105,110,100,95,104,101,114,101]⟩,⟨#[95,108,97,119,95,119,111,114,100]⟩] 5 (Oe (ak 3 (.bin .mod false a8 yt)) (cq (dy bN cP) (bD (zr (zt (aW (aH lP) (.bin .mod false C7 lf)))))) (cq (dy bN bw) (bD (zr (zt (aW (aH lP) (.bin .mod false C7 (.int 1000003))))))) (cq (rY (aW (GJ bN C2) (dy bv cP))) (bD (zr (zt (aW (aH aK) (zx br (.bin .mod false C7 yq))))))) (ak 4 (zx (.list false (jq (aH Ar) (aH ux) (aH oV))) (.bin .mod false C7 lf))) (zr (zt (jq cH (zc 28 (jq (zc 26 (aW a8 bw)) br (.bin .sub false bv bw))) (zc 28 (jq (zc 26 (aW a8 dL)) br (.bin .sub false bv bw)))))))
noncomputable def xF:Fn:=dM ⟨#[95,108,97,119,95,103,105,118,101,110]⟩ 3 [py,yr,oA] 3 (r9 (cq (dy (.bin .mod false a8 dL) cP) (bD (zr (zt (aW (aH aK) bv))))) (zr (zc 28 (jq (.bin .fdiv false a8 dL) br bw))))
noncomputable def zu:Fn:=dM ⟨#[95,108,97,119,95,99,97,108,108]⟩ 3 [py,yr,GU,⟨#[95,108,97,119,95,104,101,97,100]⟩,⟨#[95,108,97,119,95,116,101,114,109,115]⟩,⟨#[95,108,97,119,95,116,97,114,103,101,116,95,104,101,114,101]⟩] 7 (I6 (ak 3 (zx bv (.bin .mod false (.bin .fdiv false a8 (.int 7)) BA))) (ak 4 (.comp false (.var 6) (.range (.bi .len false (aP (zx bN bw)))) .no (zc 29 (jq (zc 26 (aW a8 (.bin .add false (.int 10) jA))) br (zx (zx bN bw) jA))))) (ak 5 (zx br (.bin .mod false (.bin .fdiv false a8 (.int 49)) yq))) (cq (dy (.bin .mod false a8 lf) cP) (bD (ak 5 .none))) (zr (zt (mF (aH gc) da (zx bN cP) (.bi .tuple false (aP cH))))))
noncomputable def Ct:Fn:=dM ⟨#[95,108,97,119,95,114,111,119]⟩ 4 [py,yr,GU,JZ,⟨#[95,108,97,119,95,107,105,110,100,95,104,101,114,101]⟩,⟨#[95,108,97,119,95,114,101,115,116]⟩,⟨#[95,108,97,119,95,119,111,114,100]⟩,⟨#[95,108,97,119,95,102,101,119]⟩,oz,⟨#[95,108,97,119,95,99,111,117,110,116]⟩] 10 (.cons (ak 4 (.bin .mod false a8 (.int 9))) (.cons (ak 5 (zc 26 (aW a8 lf))) (C9 (ak 6 (zx br (.bin .mod false (.bin .fdiv false a8 (.int 9)) yq))) (ak 7 (.slc false bv .no (.yes (.bin .add false bw (.bi .int false (aP (dy (.bin .mod false (.bin .fdiv false a8 (.int 3645)) GK) bw))))))) (cq (rY (aW (dy cH dL) (dy cH GK))) (bD (zr (zt (aW (aH yC) (zc 28 (jq da br dL))))))) (cq (fb (jq (GJ dL cH) (GJ cH yt) (Ad bv yp))) (bD (zr (zc 30 (jq da br bv))))) (cq (fb (aW (dy cH yt) (Di bN cP))) (r9 (ak 8 MB) (zr (zt (jq (aH ll) (zc 28 (jq (zc 26 (aW a8 C2)) br bw)) jz))))) (cq (fb (aW (dy cH (.int 7)) (Di bN cP))) (rX (ak 9 (zx (.list false (mF dL bw dL cP)) (.bin .mod false (.bin .fdiv false a8 (.int 27)) C2))) (cq (fb (aW (dy bv yp) (dy bN dL))) (bD (ak 9 (zx (.list false (I7 dL lf bw (.bin .mod false (.bin .fdiv false a8 (.int 135)) (.int 10)) cP)) (.bin .mod false (.bin .fdiv false a8 (.int 27)) (.int 5)))))) (zr (zt (jq (aH dW) C8 MB))))) (zr (zt (jq (aH ny) jA (zc 28 (jq da br (.bin .add false bw (.bin .mod false cH dL))))))))))
noncomputable def zs:Fn:=dM ⟨#[95,108,97,119,95,114,111,119,115]⟩ 5 [py,yr,GU,JZ,pw] 6 (bD (zr (.bi .tuple false (aP (.comp false (.var 5) (.range cH) .no (zc 31 (mF (zc 26 (aW a8 (.bin .add false (.int 20) da))) br bv bN)))))))
noncomputable def jS:SL:=bD (ak 4 (zt (aP (zt (jq (aH ll) (zt (aW (aH lP) (.bin .add false bw jA))) cH)))))
noncomputable def vg:Fn:=dM ⟨#[95,108,97,119,95,108,111,111,112,101,100]⟩ 2 [oy,py,oA,Dg,oz,⟨#[95,108,97,119,95,114,101,115,117,108,116]⟩,GV] 7 (GS (cq (rY (aW (dy (.bin .mod false br dL) cP) (dy (zx (zx a8 (.neg bw)) dL) (zt .nil)))) (bD (zr a8))) (.asgT [2,3,4,5] (zx a8 (.neg bw))) (cq (dy (.bin .mod false (.bin .fdiv false br C2) C2) bw) (bD (gS 6 (.range yt) jS))) (zr (.bin .add false (.slc false a8 .no (.yes (.neg bw))) (zt (aP (zt (mF bv bN (zt (aP (zt (jq (aH dW) (.bin .add false dL (.bin .mod false (.bin .fdiv false br dL) dL)) cH)))) da)))))))
noncomputable def qT:Fn:=dM ⟨#[95,108,97,119,95,102,117,110,99,116,105,111,110]⟩ 4 [py,oA,yr,GU,⟨#[95,108,97,119,95,102,105,114,115,116]⟩,Dg,pw,oz] 9 (C9 (ak 4 (.bin .mod false C7 BA)) (ak 5 (.bi .tuple false (aP (.comp false (.var 8) (.range (zx (.list false (Og cP bw dL dL lf C2)) (.bin .mod false a8 yt))) .no (zx bv (.bin .mod false (.bin .add false cH (.bin .mul false dL jz)) BA)))))) (ak 6 (zx (.list false (Og lf C2 dL (.int 5) cP yt)) (.bin .mod false (.bin .fdiv false a8 (.int 30)) yt))) (cq (dy (.bin .mod false (.bin .fdiv false a8 (.int 180)) (.int 12)) bw) (bD (ak 6 (.bin .mod false (.bin .fdiv false a8 (.int 2160)) (.int 30))))) (cq (Di jA yt) (bD (ak 3 yp))) (ak 7 (zc 32 (I7 (zc 26 (aW a8 (.int 5))) bv bN (.bin .sub false dL (.bi .int false (aP (Di jA yt)))) jA))) (zr (zt (mF br da gy (zc 28 (jq (zc 26 (aW a8 yt)) bv bw))))))
noncomputable def oJ:Fn:=dM ⟨#[95,108,97,119,95,118,97,114,105,97,98,108,101,115]⟩ 2 [Dh,ub] 2 (bD (zr (zc 27 (aW (zc 25 r8) (.bin .add false (.int 5) (.bin .mul false dL (.bi .int false (aP (dy (.bin .mod false (.bin .fdiv false Mx (.int 512)) GK) bw)))))))))
noncomputable def cD:SL:=rX (ak 7 (zc 34 (mF (zc 25 (aW a8 (.bin .add false (.bin .add false br lf) jA))) (zx bN jA) bv (.bi .list false (aP (.slc false cH .no (.yes lf))))))) (cq (fb (aW (dy jA cP) (dy (.bin .mod false (.bin .fdiv false Mx (.int 4096)) GK) bw))) (bD (ak 7 (zt (mF (zx bN cP) (zt .nil) (zt .nil) (zx gy lf)))))) (ak 4 (.bin .add false cH (zt (aP gy))))
noncomputable def sy:Fn:=dM ⟨#[95,108,97,119,95,112,114,111,103,114,97,109]⟩ 2 [Dh,ub,yr,Dg,oy,⟨#[95,108,97,119,95,99,111,117,110,116]⟩,GV,JY] 8 (C9 (ak 2 (zc 35 r8)) (ak 3 (zc 27 (aW (zc 25 (aW a8 (.bin .sub false (.bin .add false br bw) (.bi .int false (aP (dy (.bin .mod false (zc 25 (aW a8 (.bin .add false br bw))) GK) lf)))))) GK))) (ak 4 (zt .nil)) (ak 5 (.bin .add false bw (.bin .mod false (.bin .add false Mx dL) C2))) (cq (dy (.bin .mod false (.bin .fdiv false Mx (.int 64)) GK) bw) (bD (ak 5 (.bin .add false da C2)))) (gS 6 (.range da) cD) (zr (zc 33 (aW cH (.bin .fdiv false Mx C2)))))
noncomputable def xD:Fn:=dM ⟨#[95,108,97,119,95,110,97,109,101,115]⟩ 1 [⟨#[95,108,97,119,95,116,101,114,109,95,104,101,114,101]⟩] 1 (rX (cq (dy vT (aH aK)) (bD (zr (.list false (aP pr))))) (cq (dy vT (aH lP)) (bD (zr yp))) (zr (.bin .add false (zc 37 (aP pr)) (zc 37 (aP (zx a8 dL))))))
noncomputable def jR:SL:=bD (ak 2 (.bin .add false bv (zc 37 (aP bN))))
noncomputable def tO:Fn:=dM ⟨#[95,108,97,119,95,111,119,110]⟩ 1 [vU,⟨#[95,108,97,119,95,116,101,114,109,115]⟩,se,⟨#[95,108,97,119,95,116,101,114,109,95,104,101,114,101]⟩] 4 (C9 (cq (dy vT (aH dW)) (bD (zr yp))) (ak 1 (.list false (aP pr))) (cq (dy vT (aH ny)) (bD (ak 1 (.list false (aP (zx a8 dL)))))) (cq (dy vT (aH gc)) (bD (ak 1 (.bi .list false (aP (zx a8 lf)))))) (ak 2 yp) (gS 3 (.seq br) jR) (zr bv))
noncomputable def ml:Fn:=dM ⟨#[95,108,97,119,95,116,97,114,103,101,116]⟩ 1 [vU] 1 (My)
noncomputable def oi:Fn:=dM ⟨#[95,108,97,119,95,98,108,111,99,107]⟩ 1 [vU] 1 (r9 (cq (rY (aW (dy vT (aH ll)) (dy vT (aH dW)))) (bD (zr (zx a8 dL)))) (zr (zt .nil)))
noncomputable def gk:SL:=r9 (.expr (.meth .append bv (aP (zt (aW Mw (zx br bN)))))) (ak 2 (.bin .add true bv (zc 41 (aW Mw (zc 40 (aP (zx br bN)))))))
noncomputable def vd:Fn:=dM ⟨#[95,108,97,119,95,112,108,97,99,101,115]⟩ 2 [sd,oz,se,ub] 4 (rX (ak 2 (.list true .nil)) (gS 3 (.range yq) gk) (zr (.freeze bv)))
noncomputable def fS:SL:=rX (ak 2 (rY (aW bv (pA br (zc 38 (aP bN)))))) (cq Mz (rX (ak 4 (zc 42 (aW (zx bN dL) br))) (ak 2 (rY (aW bv (zx cH cP)))) (cq (fb (aW (dy (zx bN cP) (aH dW)) (.not (zx cH bw)))) (bD (zr (zt (aW bv (.bool false)))))))) (cq (dy (zc 39 (aP bN)) br) (bD (zr (zt (aW bv (.bool false))))))
noncomputable def qR:Fn:=dM ⟨#[95,108,97,119,95,115,99,97,110]⟩ 2 [oz,oA,⟨#[95,108,97,119,95,114,101,97,100]⟩,vU,De] 5 (rX (ak 2 (.bool false)) (gS 3 (.seq a8) fS) (zr (zt (aW bv ua))))
noncomputable def gm:SL:=I6 (ak 7 (zc 42 (aW (.slc false cH (.yes (.bin .add false jA bw)) .no) bv))) (ak 5 (rY (aW (zx gy cP) (fb (aW (zx gy bw) da))))) (ak 8 (zx cH jA)) (ak 4 (zx jz dL)) (cq (fb (aW (dy (zx jz cP) (aH dW)) (Di (zx jz bw) bw))) (bD (ak 5 (rY (aW da (zx (zc 42 (aW cH bv)) cP))))))
noncomputable def vf:Fn:=dM ⟨#[95,108,97,119,95,110,101,101,100,101,100]⟩ 3 [oy,sd,oA,JY,oz,⟨#[95,108,97,119,95,108,97,116,101,114]⟩,ub,De,vU] 9 (Oe (ak 3 (zx a8 rZ)) (ak 4 (zx bN dL)) (ak 5 (pA bv (zc 37 (aP (zx bN lf))))) (gS 6 (.seq JV) gm) (ak 7 (zc 42 (aW (.slc false cH (.yes (.bin .add false C5 bw)) .no) bv))) (zr (rY (aW (zx gy cP) (fb (aW (zx gy bw) da))))))
noncomputable def jT:SL:=bD (ak 1 (.bin .add false br (zc 41 (aW (zt (aP bv)) (zx (zx a8 bv) dL)))))
noncomputable def Cu:Fn:=dM ⟨#[95,108,97,119,95,97,108,108]⟩ 1 [oy,se,⟨#[95,108,97,119,95,110,117,109,98,101,114]⟩] 3 (rX (ak 1 yp) (gS 2 (.range JS) jT) (zr br))
noncomputable def vc:Fn:=dM ⟨#[95,108,97,119,95,119,105,116,104,105,110]⟩ 4 [oz,⟨#[95,108,97,119,95,115,116,101,112,115]⟩,pw,⟨#[95,108,97,119,95,111,116,104,101,114,115]⟩,ub,vU,⟨#[95,108,97,119,95,105,110,110,101,114]⟩] 7 (I6 (ak 4 rZ) Pf (ak 5 (zx a8 cH)) (ak 6 (zc 45 (mF (zx da dL) JT bv bN))) (zr (.bin .add false (.bin .add false GR (zt (aP (zt (jq (zx da cP) (zx da bw) jA))))) JW)))
noncomputable def zo:Fn:=dM ⟨#[95,108,97,119,95,119,105,116,104]⟩ 4 [oy,sd,pw,⟨#[95,108,97,119,95,111,116,104,101,114,115]⟩,ub,JY,oz,⟨#[95,108,97,119,95,109,97,100,101]⟩] 8 (I6 (ak 4 rZ) (ak 5 (zx a8 cH)) (ak 6 (zc 45 (mF (zx da dL) JT bv bN))) (ak 7 (zt (mF (zx da cP) (zx da bw) jA (zx da lf)))) (zr (.bin .add false (.bin .add false GR (zt (aP gy))) JW)))
noncomputable def tP:Fn:=dM ⟨#[105,115,95,110,97,109,101]⟩ 1 [⟨#[119,111,114,100]⟩] 2 (bD (zr (fb (aW (.cmp2 .le .le bw JS (.glob 2)) (.bi .all false (aP (.comp false (.var 1) (.seq a8) .no (pA br (.glob 1)))))))))
noncomputable def d7:SL:=bD (cq (fb (aW (iL (zc 4 (aP gy))) (fE (zc 4 (aP gy)) bv))) (bD (.put bv (zc 4 (aP gy)) jA)))
noncomputable def gi:SL:=r9 (ak 5 (.bin .add false (.slc false a8 .no (.yes (.neg bw))) (zt (aP (.bin .add false (zx a8 (.neg bw)) bN))))) (.forr (.tup [6,7]) (.seq (.bin .add false (.list false (aP (zt (aW da cH)))) (zc 7 (aW da (zc 6 (aP cH)))))) d7)
noncomputable def va:Fn:=dM ⟨#[115,101,116,116,101,114,115,95,105,110]⟩ 2 [bC,Df,GI,J1,vP,J0,⟨#[119,104,101,114,101]⟩,⟨#[111,110,101]⟩] 8 (rX (ak 2 .dict0) (.forr (.tup [3,4]) (.enum br) gi) (zr bv))
noncomputable def gK:Fn:=dM ⟨#[100,114,97,119,110]⟩ 4 [Dc,bC,Oi,aK,Df,GI,⟨#[108,97,115,116]⟩,⟨#[98,111,116,104]⟩,⟨#[116,97,114,103,101,116]⟩,J2,J3,gc,⟨#[97,102,116,101,114]⟩] 15 (.cons (.calls .drop 11 r8) (.cons (ak 4 (.slc false (zc 10 r8) (.yes C5) (.yes (.bin .add false C5 (.bi .max false (aW cP bv)))))) (.cons (cq (rY (aW (GJ bv bw) (GJ (.bi .len false (aP cH)) bv))) (bD (.raise 1 (aP (aH oG))))) (.cons (cq (.not (zc 47 (aP bN))) (bD (.raise 2 (aP (aH DV))))) (.cons (cq (iL (zc 15 (aW a8 bN))) (bD (.raise 3 (aP (aH jw))))) (.cons (ak 5 (zc 48 (aW br cH))) (.cons (ak 6 MA) (.cons (ak 7 (.comp false (.var 13) (.seq (zc 12 (aW a8 jA))) (.yes (pA (.var 13) da)) (.var 13))) (.cons (cq (Di (.bi .len false (aP gy)) bw) (bD (.raise 6 (aW (zx da (zx gy cP)) (zx da (zx gy bw)))))) (.cons (ak 8 .none) (.cons (ak 9 (zt (aW (aH lP) cP))) (C9 (ak 10 (.bi .list true (aP (zc 9 (aP cH))))) (cq (Ad gy yp) (rX (ak 8 (zx gy cP)) (ak 9 (zt (aW (aH aK) jz))) (cq (fE jz (zc 8 (aP cH))) (bD (.expr (.meth .append pv (aP jz))))))) (ak 10 (.bi .tuple false (aP (.bi .sortedSet false (aP pv))))) (ak 11 (zt (mF (aH gc) jz bN (.bi .tuple false (aP (.comp false (.var 14) (.seq pv) .no (zt (aW (aH aK) (.var 14))))))))) (ak 12 (zc 14 (mF a8 br bv (zt (aP (.var 11)))))) (ak 12 (.bin .add false (.bin .add false (.slc false (.var 12) .no (.yes rZ)) (zt (aP (zt (mF bN pv cH C8))))) (.slc false (.var 12) (.yes rZ) .no))) (zr (zt (aW (.var 12) (.bin .add false (zt (aP (.bin .add false rZ bw))) JT))))))))))))))))
noncomputable def kX:SL:=bD (ak 5 (zx (zx da jA) dL))
noncomputable def cr:Fn:=dM ⟨#[95,108,97,119,95,100,114,97,119,110]⟩ 5 [oy,sd,pw,oA,De,oz,ub,Dg,⟨#[95,108,97,119,95,116,97,114,103,101,116,95,104,101,114,101]⟩,⟨#[95,108,97,119,95,114,101,115,117,108,116]⟩,⟨#[95,108,97,119,95,99,97,108,108,95,104,101,114,101]⟩,se] 14 (.cons (ak 5 (zx (zx a8 rZ) dL)) (.cons (gS 6 (.seq JV) kX) (.cons (ak 5 (.slc false da (.yes C5) (.yes (.bin .add false C5 bv)))) (.cons (ak 7 (.comp true (.var 12) (.seq (zc 60 (aP da))) (.yes (zx (zc 42 (aW da (.var 12))) cP)) (.var 12))) (.cons (ak 8 .none) (C9 (ak 9 (zt (aW (aH lP) cP))) (cq (Ad cH yp) (rX (ak 8 (zx cH cP)) (ak 9 (zt (aW (aH aK) jz))) (cq (fb (aW (fE jz gy) (zx (zc 42 (aW da jz)) bw))) (bD (.expr (.meth .append gy (aP jz))))))) (ak 7 (.bi .sortedSet false (aP gy))) (ak 10 (zt (mF (aH gc) jz bN (.bi .tuple false (aP (.comp false (.var 13) (.seq gy) .no (zt (aW (aH aK) (.var 13))))))))) (ak 11 (zc 46 (mF a8 br bv (zt (aP pv))))) (ak 11 (.bin .add false (.bin .add false (.slc false (.var 11) .no (.yes rZ)) (zt (aP (zt (mF bN (.bi .tuple false (aP gy)) da C8))))) (.slc false (.var 11) (.yes rZ) .no))) (zr (zt (aW (.var 11) (.bin .add false (zt (aP (.bin .add false rZ bw))) JT))))))))))
noncomputable def cN:SL:=r9 (ak 7 (fb (aW (dy (.slc false da .no (.yes (.bin .sub false yq bw))) JU) (Ph (.bi .len false (aP da)) yq)))) (cq (fb (jq gy (PL C5 (zx da (.bin .sub false yq bw))) (GJ (zx da (.bin .sub false yq bw)) (.bin .add false C5 bv)))) (r9 (ak 8 (zc 39 (aP jA))) (cq (fb (aW (iL jz) (zc 43 (jq a8 bN jz)))) (bD (.expr (.meth .append cH (aP (zt (aW da jz)))))))))
noncomputable def oK:Fn:=dM ⟨#[95,108,97,119,95,100,114,97,119,110,95,115,101,116]⟩ 3 [oy,sd,pw,⟨#[95,108,97,119,95,108,97,115,116]⟩,se,⟨#[95,108,97,119,95,116,104,101,114,101]⟩,vU,⟨#[95,108,97,119,95,105,110,110,101,114]⟩,oA] 9 (GS (ak 3 MA) (ak 4 (.list true .nil)) (.forr (.tup [5,6]) (.seq (zc 41 (aW (zt (aP rZ)) (zx (zx a8 rZ) dL)))) cN) (zr (.freeze cH)))
noncomputable def sx:Fn:=dM ⟨#[95,108,97,119,95,114,101,102,117,115,101,100]⟩ 4 [oy,sd,pw,oA,oz,⟨#[95,108,97,119,95,108,101,116,116,101,114,115]⟩] 9 (Oe (ak 4 (.comp false (.var 6) (.seq (zc 44 (aP a8))) (.yes (fb (aW (dy (.slc false (zx jA cP) .no (.yes (.neg bw))) JU) (dy (.bi .len false (aP (zx jA cP))) yq)))) jA)) (cq (rY (aW (GJ bv bw) (Di (.bin .add false C5 bv) (.bi .len false (aP cH))))) (bD (zr (aH bC)))) (ak 5 (aH aj)) (cq (rY (jq (dy bN (aH bX)) (Di C6 GK) (Ad (.comp false (.var 7) (.seq bN) (.yes (fE gy da)) gy) yp))) (bD (zr (aH aK)))) (cq (pA bN (.comp false (.var 8) (.seq a8) .no (zx jz cP))) (bD (zr (aH ke)))) (zr (aH bX)))
noncomputable def cE:SL:=bD (cq (fb (aW (Ad bN da) (zc 57 (aW a8 (zt (jq (aH bG) bv cH)))))) (bD (zr ua)))
noncomputable def jt:SL:=bD (.forr (.tup [4,5]) (.seq br) cE)
noncomputable def sB:Fn:=dM ⟨#[95,108,97,119,95,99,108,97,115,104,101,115]⟩ 2 [se,De,⟨#[95,108,97,119,95,111,110,101]⟩,oA,⟨#[95,108,97,119,95,111,116,104,101,114]⟩,⟨#[95,108,97,119,95,109,111,114,101]⟩] 6 (r9 (.forr (.tup [2,3]) (.seq br) jt) (zr (.bool false)))
noncomputable def xG:Fn:=dM ⟨#[95,108,97,119,95,97,115,107,101,100]⟩ 3 [Dh,oy,sd,⟨#[95,108,97,119,95,108,101,102,116]⟩,pw,⟨#[95,108,97,119,95,102,114,101,115,104]⟩,oA,⟨#[95,108,97,119,95,115,111,109,101]⟩] 12 (C9 (ak 3 (.bi .len false (aP (.comp false (.var 8) (.seq (zc 44 (aP br))) (.yes (fb (aW (dy (.slc false (zx jz cP) .no (.yes (.neg bw))) (.slc false bv .no (.yes (.neg bw)))) (Ph (zx jz cP) bv)))) jz)))) (ak 4 (.bin .add false bw (.bin .mod false yo (zx (.list false (aW lf bN)) (.bin .mod false (.bin .fdiv false yo (.int 5)) dL))))) (cq (dy (.bin .mod false (.bin .fdiv false yo lf) GK) bw) (bD (ak 4 (zx (.list false (mF cP (.neg bw) (.int 40) (.bin .sub false (.neg bw) (.bin .mod false (.bin .fdiv false yo (.int 24)) (.bin (.pow ()) false (.int 10) (.int 20)))))) (.bin .mod false (.bin .fdiv false yo (.int 24)) C2))))) (ak 5 (zc 27 (aW (zc 25 (aW a8 lf)) (.int 24)))) (ak 6 (zx (.comp false (.var 9) (.seq da) (.yes (fE C8 (.comp false (.var 10) (.seq br) .no (zx pv cP)))) C8) cP)) (cq (dy (.bin .mod false (zc 25 (aW a8 dL)) yt) bw) (r9 (ak 7 (.bin .add false (.comp false (.var 11) (.seq br) .no (zx (.var 11) cP)) (.list false (I7 (aH bX) (aH jI) (aH Kt) (aH Ot) (aH Kr))))) (ak 6 (zx gy (.bin .mod false (.bin .fdiv false (zc 25 (aW a8 dL)) yt) (.bi .len false (aP gy))))))) (zr (zt (aW cH jA))))
noncomputable def jk:SL:=C9 (ak 2 (.bin .mod false (.bin .fdiv false br yt) JS)) (ak 3 (zx (zx a8 bv) dL)) (ak 4 (.bin .mod false (.bin .fdiv false br (.int 30)) (.bin (.pow ()) false (.int 10) (.int 20)))) (ak 5 (.list false (Og (zt (aW bv (.neg bw))) (zt (aW bv C6)) (zt (aW (.bin .add false JS cH) cP)) (zt (aW (.bin .sub false (.neg bw) cH) cP)) (zt (aP bv)) (zt .nil)))) (ak 5 (.bin .add false da (.list false (jq (zt (aW bv (.bin .add false C6 cH))) (zt (jq bv cP (.bin .sub false (.neg bw) cH))) (zt (jq bv C6 cP)))))) (ak 6 (.comp false (.var 7) (.seq (zc 41 (aW (zt (aP bv)) bN))) (.yes (dy (zc 40 (aP (zx gy bw))) (zt .nil))) (.bin .add false (zx gy cP) (zt (aP (.bin .mod false cH dL)))))) (zr (zx (.bin .add false da jA) (.bin .mod false br (.bin .add false (.int 9) (.bi .len false (aP jA))))))
noncomputable def qS:Fn:=dM ⟨#[95,108,97,119,95,110,111,110,101]⟩ 2 [oy,py,⟨#[95,108,97,119,95,110,117,109,98,101,114]⟩,oz,⟨#[95,108,97,119,95,102,97,114]⟩,⟨#[95,108,97,119,95,115,111,109,101]⟩,⟨#[95,108,97,119,95,108,101,97,118,101,115]⟩] 8 jk
noncomputable def gq:Fn:=dM ⟨#[95,108,97,119,95,107,105,110,100]⟩ 1 [⟨#[95,108,97,119,95,101,114,114,111,114]⟩,se] 2 (GS (ak 1 (.list false (jq (.isx 1 a8) (.isx 2 a8) (.isx 3 a8)))) (ak 1 (.bin .add false br (.list false (jq (.isx 4 a8) (.isx 5 a8) (.isx 6 a8))))) (cq (rY (jq (.not (.isx 0 a8)) (.not (.isx 7 a8)) (Ad (.meth .count br (aP ua)) bw))) (bD (zr (aH BU)))) (zr (zx (.list false (Og (aH bC) (aH aK) (aH ke) (aH gc) (aH DS) (aH bG))) (.meth .index br (aP ua)))))
noncomputable def xH:Fn:=dM ⟨#[95,108,97,119,95,97,108,105,107,101]⟩ 2 [se,⟨#[95,108,97,119,95,100,117,101]⟩] 3 (rX (cq (.bi (.isinst .tuple) false (aP br)) (r9 (cq (rY (aW (.not (.bi (.isinst .tuple) false (aP a8))) (Ad JS yq))) (bD (zr (.bool false)))) (zr (.not (.comp false (.var 2) (.range yq) (.yes (.not (zc 57 (aW (zx a8 bv) (zx br bv))))) bv))))) (cq (rY (aW (J4 br) (.bi (.isinst .str) false (aP br)))) (bD (zr (fb (aW (dy a8 br) (dy (.bi (.isinst .str) false (aP a8)) (.bi (.isinst .str) false (aP br)))))))) (zr (fb (jq (.bi (.isinst .int) false (aP a8)) (.not (.bi (.isinst .bool) false (aP a8))) (dy a8 br)))))
noncomputable def eG:Fn:=dM ⟨#[95,108,97,119,95,116,111,108,100]⟩ 4 [oy,sd,pw,oA,⟨#[95,108,97,119,95,101,114,114,111,114]⟩] 5 (bD (.tryS (bD (.calls .retL 49 (mF a8 br bv bN))) [{ k:=6,h:=.tup 4 56 true },{ k:=0,h:=.tup 4 56 false }]))
noncomputable def AR:SL:=bD (ak 11 (zx (zx (.var 11) (.var 12)) dL))
noncomputable def rQ:SL:=.cons (ak 1 (zc 36 (aW a8 C2))) (.cons (ak 2 (zc 44 (aP br))) (.cons (cq (dy (.bin .mod false (.bin .fdiv false (zc 25 (aW a8 dL)) (.int 24)) yt) bw) (rX (ak 3 (zc 55 (aW br (zc 25 (aW a8 cP))))) (ak 4 (zx (.list false (jq (aH Jj) (aH Pn) (zx rZ cP))) (.bin .mod false yo lf))) (zr (zc 57 (aW (zc 58 (mF br bN (.bin .add false bw (.bin .mod false (.bin .fdiv false yo lf) lf)) cH)) (zt (aP (aH bC)))))))) (.cons (cq (dy bv yp) (bD (zr ua))) (.cons (ak 3 (zx (zx bv (.bin .mod false (zc 25 (aW a8 cP)) BA)) cP)) (.cons (.asgT [5,6] (zc 54 (jq a8 br bN))) (.cons (ak 7 (zc 58 (mF br bN da jA))) (.cons (ak 8 (zc 52 (mF br bN da jA))) (.cons (cq (Ad jz (aH bX)) (bD (zr (zc 57 (aW gy (zt (aP jz))))))) (.cons (ak 9 (zc 51 (jq br bN da))) (.cons (ak 10 (.comp false (.var 14) (.seq C8) .no (zx (.var 14) bw))) (.cons (cq (Ad (.comp false (.var 15) (.seq pv) (.yes (Ad (.var 15) (zx pv cP))) (.var 15)) yp) (bD (zr (zc 53 (aW gy C8))))) (C9 (ak 8 (zc 50 (I7 br bN da jA pv))) (cq (rY (aW (.not (.bi (.isinst .list) false (aP gy))) (.not (zc 57 (aW (zx gy cP) jz))))) (bD (zr (.bool false)))) (ak 11 (zx (zx (zx jz cP) (zx (zx jz bw) cP)) dL)) (gS 12 (.seq (.slc false (zx jz bw) (.yes bw) (.yes (.neg bw)))) AR) (ak 11 (zx (.var 11) (zx (zx jz bw) (.neg bw)))) (ak 13 (zt (I7 bN da (.var 11) (zx bN cP) (zx (zx jz cP) (zx bN cP))))) (zr (zc 57 (aW (zc 24 (aW (zx jz cP) (zx jz bw))) (zt (aW br (.var 13))))))))))))))))))
noncomputable def f_law:Fn:=dM ⟨#[108,97,119]⟩ 1 [Dh,oy,⟨#[95,108,97,119,95,112,97,105,114,115]⟩,sd,⟨#[95,108,97,119,95,116,97,107,101,110]⟩,pw,oA,se,⟨#[95,108,97,119,95,100,117,101]⟩,De,Dg,⟨#[95,108,97,119,95,99,97,108,108,95,104,101,114,101]⟩,ub,⟨#[95,108,97,119,95,98,97,99,107]⟩] 16 rQ
noncomputable def d8:SL:=bD (ak 1 (.bin .add false br (.comp false (.var 4) (.seq (zc 38 (aP bN))) (.yes (fE cH br)) cH)))
noncomputable def oL:Fn:=dM ⟨#[95,108,97,119,95,97,108,108,95,119,111,114,100,115]⟩ 1 [oz,se,sd,vU] 5 (rX (ak 1 yp) (.forr (.tup [2,3]) (.seq (zc 41 (aW (zt .nil) a8))) d8) (zr br))
noncomputable def zh:List Fn:=[FO,zl,oh,xA,tN,qV,sv,FK,jW,zv,zj,FL,FN,qQ,xz,xB,sw,zk,u9,vh,Cs,FM,vb,xI,NO,qU,xE,xC,zq,xF,zu,Ct,zs,vg,qT,oJ,sy,xD,tO,ml,oi,vd,qR,vf,Cu,vc,zo,tP,va,gK,cr,oK,sx,sB,xG,qS,gq,xH,eG,f_law,oL]
noncomputable def NC:Nat->Option PyData
 | 2=>some (.int 8)
 | 1=>some (.str ⟨#[97,98,99,100,101,102,103,104,105,106,107,108,109,110,111,112,113,114,115,116,117,118,119,120,121,122]⟩)
 | _=>none
noncomputable def prog:Prog:={ G:=NC,P:=λn=>zh[n]? }
set_option linter.unusedSimpArgs false
noncomputable def gO(l:List Int)(k:Nat):Int:=(l[k]?).getD 0
noncomputable def EE(c k:Int):Int:=(c % 2147483629+7919 * (k+1)) * 48271 % 2147483647
noncomputable def EF(m:Int):Int:=m * m % 2147483629 * 69621 % 2147483647
noncomputable def bU(l:List Int)(k:Nat):Int:=(gO l k / 2147483629 * 2147483647+EF (EE (gO l k) k)) * 2147483629+EF (EE (gO l k) k) * EF (EE (gO l k) k) % 2147483629
theorem nG(h:n<=d):∃ e,d=e+n:=⟨d - n,(R9 h).symm⟩
theorem iY(d:Nat){a b:Nat}(h:a < b):a < d+b:=Q3 h (QK b d)
theorem fZ(e:Nat):((e+1:Nat):Int) - 1=(e:Int):=Int.add_sub_cancel (e:Int) 1
theorem dT{p:Prop}[Decidable p](h:p):some (decide p)=some true:=congrArg some (decide_eq_true h)
theorem dF{p:Prop}[Decidable p](h:¬ p):some (decide p)=some false:=congrArg some (decide_eq_false h)
abbrev same(σ:ac):σ.take σ.length=σ:=List.take_length
theorem iK(d:Nat)(l:List Int)(k:Nat)(σ:ac):af prog (d+1) 25 [.d (.list (l.map .int)),.d (.int k)] σ=.ok (.d (.int (bU l k))) σ:=by
 have first:ag prog.G (af prog d) (.ite (.cmp .lt (.var 1) (.bi .len false (.cons (.var 0) (.nil)))) (.idx (.var 0) (.var 1)) (.int 0)) [.d (.list (l.map .int)),.d (.int k),.un,.un] σ=.ok (.d (.int (gO l k))) σ:=by
   by_cases h:k < l.length
   . exact MH (Dq (bJ rfl rfl rfl) (decide_eq_true (by rw[PN];exact QU.mpr h))) (bI rfl rfl (by rw[iE _ (QT k)];simp[gO,h]))
   . refine MI (Dq (bJ rfl rfl rfl) (decide_eq_false (by rw[PN];exact λq=>h (QU.mp q)))) ?_;simp only[gO,RK (Rm h)];rfl
 exact co (fn:=qU) rfl rfl (a7 (cU first) ((dn prog.G (af prog d) (tl rP) [.d (.list (l.map .int)),.d (.int k),.d (.int (gO l k)),.un] σ 26960 (Mq _ _ (by decide)) (OC _ _ (by decide) (by decide)) (Mq _ _ (by decide)) (Mq _ _ (by decide)) ((λ(x:Int)=>Mq (x:=x) (y:=2147483629) false σ (by decide)) _) (OC _ _ (by decide) (by decide)))))
theorem fU(d:Nat)(l:List Int)(σ:ac)(k:Nat)(i:Int)(hi:i=(k:Int)):af prog (d+1) 25 [.d (.list (l.map .int)),.d (.int i)] σ=.ok (.d (.int (bU l k))) σ:=by subst hi;exact iK d l k σ
noncomputable def jx(c k:Int):Int:=(c * 48271+(k+1) * 1299721) % 2147483647 * ((c * 48271+(k+1) * 1299721) % 2147483647 / 7 % 65536+3) % 2147483647
theorem dD(d:Nat)(c k:Int)(σ:ac):af prog (d+1) 26 [.d (.int c),.d (.int k)] σ=.ok (.d (.int (jx c k))) σ:=
 (a9 prog 26 d [.d (.int c),.d (.int k)] σ rfl 261 (Mq _ _ (by decide)) (Mq _ _ (by decide)) (OC _ _ (by decide) (by decide)) (same σ))
theorem wS(h:0 < d)(c k:Int)(σ:ac):af prog d 26 [.d (.int c),.d (.int k)] σ=.ok (.d (.int (jx c k))) σ:=by obtain⟨e,rfl⟩:∃ e,d=e+1:=nG h;exact dD e c k σ
inductive Tm where
 | num (i:Int)
 | name (x:Str)
 | op (k:Nat) (a b:Tm)
noncomputable def Tm.ctorIdx(t:Tm):Nat:=by cases (t);exact 0;exact 1;exact 2
noncomputable def KT:Nat->Str
 | 0=>Ar
 | 1=>ux
 | _=>oV
noncomputable def dl:Tm->PyData
 | .num i=>.tuple [.str lP,.int i]
 | .name x=>.tuple [.str aK,.str x]
 | .op k a b=>.tuple [.str (KT k),dl a,dl b]
noncomputable def ht:Tm->Nat
 | .op _ a b=>max (ht a) (ht b)+1
 | _=>0
theorem tq(k:Nat):KT k=Ar\/KT k=ux\/KT k=oV:=match k with
 | 0=>.inl rfl
 | 1=>.inr (.inl rfl)
 | _+2=>.inr (.inr rfl)
variable {c:Cell}
theorem Ap(h:σ[n]?=some c):(σ.set n c')[n]?=some c':=by have:=(Qi.mp h).1;simp[this]
theorem wu(hc:σ[n]?=some c):σ.set n c=σ:=by
 apply S8;intro k;by_cases hk:n=k
 . subst hk;rw[Ap hc,hc]
 . simp[hk]
theorem aB(σ:ac)(c:Cell):(σ++[c])[σ.length]?=some c:=by simp
theorem ij(σ:ac)(c c':Cell):(σ++[c]).set σ.length c'=σ++[c']:=by simp
theorem kB(σ:ac)(l:List PyData):Ms (.loc σ.length) (σ++[.lst l])=.ok (.d (.list l)) (σ++[.gone]):=by rw[LN (aB _ _),ij]
theorem Ao(n:Nat)(c:Cell):(σ.set n c).take σ.length=σ.set n c:=R6 (by simp)
variable {i:Int}
theorem ER(h0:0<=i)(h:i < 26)(σ:ac):c8 (.d (.str aj)) (.d (.int i)) σ=some (.d (.str (ar [97+i.toNat]))):=by
 have hl:(av aj).length=26:=by decide
 have ha:∀ n,n < 26->(av aj)[n]?=some (97+n):=by decide
 rw[H5,index,hl,if_pos h0,if_pos (show i < ((26:Nat):Int) from h)];show ((av aj)[i.toNat]?).map _=_;rw[ha _ ((SU h0).mpr h)];rfl
theorem dR(l:List Nat):av (ar l)=l:=by simp[av,ar]
theorem vp(l:List Nat):(ar l).cps.size=l.length:=by simp[ar]
theorem Aw(a:Nat):∀ n:Nat,(List.replicate n [a]).flatten=List.replicate n a
 | 0=>rfl
 | n+1=>by rw[Tj,List.flatten_cons,Aw a n];rfl
theorem JI(a:Nat){n:Int}(h0:0<=n)(h:n<=1000)(m:Bool)(σ:ac):cZ .mul m (.d (.str (ar [a]))) (.d (.int n)) σ=.ok (.d (.str (ar (List.replicate n.toNat a)))) σ:=by rw[L6 ⟨h0,h,by rw[vp];simp⟩,dR,Aw]
theorem sV(l:List α)(lo hi:Option Int):(au l lo hi).length<=l.length:=by unfold au;rw[Ru,Rn];exact iv (R7 _ _) (Nat.sub_le _ _)
theorem tw{g:Nat->Str}{n:Nat}(h:∀ i j,i < n->j < n->g i=g j->i=j):((List.range n).map g).Nodup:=by rw[List.Nodup,List.pairwise_map];refine List.Pairwise.imp_of_mem (λ{a b} ha hb hne=>?_) (List.nodup_range (n:=n));exact λe=>hne (h a b (RV.mp ha) (RV.mp hb) e)
theorem uN(g:Nat->Str)(n:Nat):(List.range n).map (λk=>PyData.str (g k))=((List.range n).map g).map .str:=by rw[Rj];rfl
theorem p8:(0:Int) < 8:=by decide
theorem p4:(0:Int) < 4:=by decide
theorem eR:cx none=some none:=rfl
theorem dY(i:Int):cx (some (.d (.int i)))=some (some i):=rfl
theorem FH:∀ i j:Fin 26,(5 * i.val) % 26=(5 * j.val) % 26->i=j:=by decide
theorem HK(m:Int){i:Nat}(hi:i < 26)(hj:j < 26)(h:((m+5 * (i:Int)) % 26).toNat=((m+5 * (j:Int)) % 26).toNat):i=j:=by
 have h1:=TJ (m+5 * (i:Int)) (by decide:(26:Int)≠0);have h3:(m+5 * (i:Int)) % 26=(m+5 * (j:Int)) % 26:=by rw[<- R5 h1,<- R5 (TJ (m+5 * (j:Int)) (by decide:(26:Int)≠0)),h]
 have h4:((5 * i:Nat):Int) % ((26:Nat):Int)=((5 * j:Nat):Int) % ((26:Nat):Int):=Int.emod_add_cancel_left.mp h3;rw[<- Int.natCast_emod,<- Int.natCast_emod] at h4;exact congrArg Fin.val (FH ⟨i,hi⟩ ⟨j,hj⟩ (S1.mp h4))
noncomputable def Ja(base:List Nat)(at' m:Int):Str:=ar (au base none (some at')++[97+(m % 26).toNat]++au base (some (at'+1)) none)
theorem j0(n k:Nat):iI n (k:Int)=min k n:=by
 unfold iI;rw[if_neg (R8.mpr (QT k))];rcases Uh k n with h | h
 . rw[Tk (Rc.mpr h),SO (QT _),QY,Ro h]
 . rw[Int.min_eq_right (Rc.mpr h),SO (QT _),QY,TC h]
theorem pU(l:List α)(k:Nat):au l none (some (k:Int))=l.take k:=by show (l.drop 0).take (iI l.length k - 0)=_;rw[j0,List.drop_zero,Nat.sub_zero,TO,Nat.min_assoc,Ui]
theorem lj(l:List α)(k:Nat):au l (some (k:Int)) none=l.drop k:=by
 show (l.drop (iI l.length k)).take (l.length - iI l.length k)=_;rw[j0,R6 (Q4 Rn)];rcases Uh k l.length with h | h
 . rw[Ro h]
 . rw[TC h,SP,TH h]
theorem lG(c many:Int)(hm:0<=many/\many<=26)(d:Nat)(σ:ac):∃ ws:List Str,A3 (ws.length=many.toNat) (ws.Nodup) (∀ (d:Nat) (σ:ac),af prog (d+1) 27 [.d (.int c),.d (.int many)] σ=.ok (.d (.list (ws.map .str))) σ):=by
 have iy:∀ σ',c8 (.d (.str aj)) (.d (.int (c % 26))) σ'=some (.d (.str (ar [97+(c % 26).toNat]))):=λσ'=>ER (bk c (by decide)).1 (bk c (by decide)).2 σ';have hn:=bk (c / 26) p8;have ib:=λσ=>JI (97+(c % 26).toNat) (n:=1+c / 26 % 8) (Su (by decide) hn.1) (Rq (Tn (SC hn.2) 1) (by decide)) false σ;generalize hbase:List.replicate (1+c / 26 % 8).toNat (97+(c % 26).toNat)=base at ib;have hbl:0 < (((av (ar base)).length:Nat):Int):=by rw[dR,<- hbase,Td,R5 (Su (by decide) hn.1)];exact Sy (by decide) (RD hn.1)
 have hbu:base.length<=8:=by rw[<- hbase,Td];exact RX.mpr (by rw[TP];exact hn.2)
 have hat:=bk (c / 208) hbl;rw[dR] at hat;have im:∀ σ,cZ .mod false (.d (.int (c / 208))) (.d (.int ((av (ar base)).length:Int))) σ=.ok (.d (.int (c / 208 % (base.length:Int)))) σ:=λσ=>by rw[fB _ _ hbl,dR]
 generalize c / 208 % (base.length:Int)=at' at im hat;by_cases hk:c / 1664 % 3=1
 . refine⟨(List.range many.toNat).map λ(k:Nat)=>ar (List.replicate (1+(k:Int)).toNat (97+(c % 26).toNat)),by simp,tw λi j _ _ e=>?_,λd σ=>?_⟩
   . have:=congrArg (λx=>(av x).length) e;simp only[dR,Td] at this;lia
   . rw[<- uN];exact(a9 prog 27 d [.d (.int c),.d (.int many)] σ rfl 4386 (iy _) (ib _) (im _) (dT hk) (vZ _ rfl ⟨hm.1,Rq hm.2 (by decide)⟩ λk hk=>gD (bI rfl rfl (iy _)) rfl (JI _ (by lia) (by lia) _ _)) (same σ))
 . refine⟨(List.range many.toNat).map λ(k:Nat)=>Ja base at' (c / 4992+5 * (k:Int)),by simp,tw λi j hi hj e=>?_,λd σ=>?_⟩
   . have:=congrArg av e;simp only[Ja,dR] at this;have:=RZ (List.append_cancel_right this);simp only[List.cons.injEq,and_true] at this;exact HK (c / 4992) (Q3 hi (RX.mpr hm.2)) (Q3 hj (RX.mpr hm.2)) (Nat.add_left_cancel this)
   . have s1:=sV base none (some at');have s2:=sV base (some (at'+1)) none;have h2:∀ m τ,eB m (.d (.str (ar base))) (some (.d (.int (at'+1)))) none τ=.ok (.d (.str (ar (au base (some (at'+1)) none)))) τ:=λm τ=>by rw[Am _ _ (dY _) eR,dR]
     have cat:∀ (a b:List Nat) (m:Bool) (τ:ac),a.length+b.length<=100->cZ .add m (.d (.str (ar a))) (.d (.str (ar b))) τ=.ok (.d (.str (ar (a++b)))) τ:=λa b m τ h=>by rw[N4 (by rw[vp,vp];unfold LIM;lia),dR,dR]
     rw[<- uN];exact(a9 prog 27 d [.d (.int c),.d (.int many)] σ rfl 4386 (iy _) (ib _) (im _) (dF hk) (vZ _ rfl ⟨hm.1,Rq hm.2 (by decide)⟩ λk hk=>gD (gD (kQ rfl rfl rfl ((λm τ=>by rw[Am _ _ eR (dY _),dR]:∀ m τ,eB m (.d (.str (ar base))) none (some (.d (.int at'))) τ=.ok (.d (.str (ar (au base none (some at'))))) τ) _ _)) (bI rfl rfl (ER (bk _ (by decide)).1 (bk _ (by decide)).2 _)) (cat _ _ _ _ (by rw[Rr];lia))) (kQ rfl rfl rfl (h2 _ _)) (cat _ _ _ _ (by rw[Qg,Rr];lia))) (same σ))
variable {ws:List Str}
theorem Ae(h0:0<=i)(h:i < ws.length)(σ:ac):∃ w:Str,w∈ws/\c8 (.d (.list (ws.map .str))) (.d (.int i)) σ=some (.d (.str w)):=by have:i.toNat < ws.length:=(SU h0).mpr h;exact⟨ws[i.toNat],SQ _,by rw[iE _ h0];simp[this]⟩
theorem hZ(hw:0 < ws.length)(x:Int)(σ:ac):0 < (((ws.map PyData.str).length:Nat):Int)/\∃ w:Str,w∈ws/\c8 (.d (.list (ws.map .str))) (.d (.int (x % ((ws.map PyData.str).length:Int)))) σ=some (.d (.str w)):=by
 have hwl:0 < (((ws.map PyData.str).length:Nat):Int):=by rw[PN];exact QU.mpr hw
 have:=bk x hwl;exact⟨hwl,Ae this.1 (by rw[PN] at this ⊢;exact this.2) σ⟩
theorem MX(x:Int)(σ:ac):∃ k:Nat,c8 (.d (.list [.str Ar,.str ux,.str oV])) (.d (.int (x % 3))) σ=some (.d (.str (KT k))):=by
 have h0:=bk x (show (0:Int) < 3 by decide);have h2:(x % 3).toNat < 3:=(SU h0.1).mpr h0.2;rw[iE _ h0.1];generalize (x % 3).toNat=n at h2;exact⟨n,match n,h2 with
   | 0,_=>rfl
   | 1,_=>rfl
   | 2,_=>rfl⟩
noncomputable def cC:Tm->List Str
 | .num _=>[]
 | .name x=>[x]
 | .op _ a b=>cC a++cC b
def T1(ws:List Str)(deep:Nat)(t:Tm):Prop:=(∀ x∈cC t,x∈ws)/\ht t<=deep
theorem vH(ws:List Str)(deep:Nat)(i:Int):T1 ws deep (.num i):=⟨λ_ h=>(by cases h),QI _⟩
theorem kJ(deep:Nat)(h:x∈ws):T1 ws deep (.name x):=⟨λ_ q=>Qt.mp q▸h,QI _⟩
def zZ(ws:List Str)(deep:Nat):Prop:=∀ (d:Nat) (c:Int) (σ:ac),deep+1 < d->∃ t,T1 ws deep t/\af prog d 28 [.d (.int c),.d (.list (ws.map .str)),.d (.int deep)] σ=.ok (.d (dl t)) σ
variable {deep:Nat}
theorem Ai(hw:0 < ws.length)(H:∀ e,deep=e+1->zZ ws e):zZ ws deep:=by
 intro d c σ hd;obtain⟨d,rfl⟩:∃ e,d=e+1:=nG (iv (QK 1 _) hd);obtain⟨hwl,w,hwm,iw⟩:=hZ hw (c / 6) σ;have R:=λ(D:Int)=>a9 prog 28 d [.d (.int c),.d (.list (ws.map .str)),.d (.int D)] σ rfl;by_cases h0:c % 6=0
 . exact⟨.num (c / 6 % 3),vH ..,(R deep 4 (dT h0) (same σ))⟩
 by_cases h1:c % 6=1
 . exact⟨.num (c / 6 % 1000003),vH ..,(R deep 20 (dF h0) (dT h1) (same σ))⟩
 by_cases h4:c % 6 < 4
 . exact⟨.name w,kJ _ hwm,(R deep 6548 (dF h0) (dF h1) (dT h4) (dT h4) (fB _ _ hwl) iw (same σ))⟩
 cases deep with
 | zero=>exact⟨.name w,kJ _ hwm,(R 0 12436 (dF h0) (dF h1) (dF h4) (fB _ _ hwl) iw (same σ))⟩
 | succ deep=>obtain⟨k,hk⟩:=MX (c / 6) σ;have hd:=S4 hd;obtain⟨a,ha,ea⟩:=H deep rfl d (jx c 1) σ hd;obtain⟨b,hb,eb⟩:=H deep rfl d (jx c 2) σ hd;have hD:((deep+1:Nat):Int)≠0:=λq=>absurd (S1.mp q) (TB deep);have hd0:0 < d:=Q3 (RY _) (Q7 hd);rw[<- fZ deep] at ea eb;generalize ((deep+1:Nat):Int)=D at *;exact⟨.op k a b,⟨λx hx=>(Qx.mp hx).elim (ha.1 x) (hb.1 x),QE (TZ.mpr ⟨ha.2,hb.2⟩)⟩,(R D 4756 (dF h0) (dF h1) (dF h4) (dF hD) hk (wS hd0 c 1 σ) ea (wS hd0 c 2 σ) eb (same σ))⟩
theorem dJ(ws:List Str)(hw:0 < ws.length):∀ deep,zZ ws deep
 | 0=>Ai hw λe h=>by injection h
 | n+1=>Ai hw λe h=>by (injection h with e0_;subst e0_);exact dJ ws hw n
theorem uG:∀ t:Tm,(cC t).length<=2 ^ ht t
 | .num _=>QI _
 | .name _=>QP _
 | .op _ a b=>by show (cC a++cC b).length<=2 ^ (max (ht a) (ht b)+1);rw[Qg,Nat.pow_succ,Nat.mul_two];exact Ra (iv (uG a) (Tg (by decide) (SD ..))) (iv (uG b) (Tg (by decide) (Sr ..)))
noncomputable def gw(L:List Str)(x:Str):List Str:=if x∈L then L else L++[x]
theorem Gx(L:List Str)(x:Str):(gw L x).length<=L.length+1:=by
 unfold gw;by_cases h:x∈L
 . rw[if_pos h];exact S7 _
 . rw[if_neg h,Qg];exact QP _
theorem Gw(L:List Str)(x y:Str):y∈gw L x↔y∈L\/y=x:=by
 unfold gw;by_cases h:x∈L
 . rw[if_pos h];exact⟨.inl,λq=>q.elim id λe=>e▸h⟩
 . rw[if_neg h,Qx,Qt]
noncomputable def xr:Tm->List Str->List Str
 | .num _,L=>L
 | .name x,L=>gw L x
 | .op _ a b,L=>xr b (xr a L)
theorem uM{a b:Nat}(h:max a b+1 < d+1):a < d/\b < d:=⟨QN (SD _ _) (S4 h),QN (Sr _ _) (S4 h)⟩
theorem qL:∀ (t:Tm) (L:List Str),(xr t L).length<=L.length+(cC t).length
 | .num _=>@λL=>QP _
 | .name x=>@λL=>Gx L x
 | .op _ a b=>@λL=>by show _<=L.length+(cC a++cC b).length;rw[Qg,<- QQ];exact iv (qL b (xr a L)) (Qu (qL a L) _)
theorem mz(L:List Str)(x:Str):((L.map PyData.str).any λy=>y.eqv (.str x))=decide (x∈L):=by
 induction L with
 | nil=>rfl
 | cons y L ih=>
   rw[Q6,Th,ih,IE];by_cases h:y=x
   . rw[h,decide_eq_true rfl,decide_eq_true (Qh ..)];rfl
   . rw[decide_eq_false h,SF];exact decide_eq_decide.mpr ⟨λq=>Qj _ q,λq=>(Qq.mp q).resolve_left (Ne.symm h)⟩
theorem o3(L:List Str)(x:Str)(σ:ac):bq .isIn (.d (.str x)) (.d (.list (L.map .str))) σ=some (decide (x∈L)):=by rw[OW,uU,mz]
variable {L:List Str}
theorem Pz(h:σ[n]?=some (.lst (L.map .str)))(x:Str):bq .notIn (.d (.str x)) (.loc n) σ=some (!decide (x∈L)):=by rw[pj,Lx x h,mz];rfl
theorem AC(k:Nat):decide (KT k=lP)=false:=by rcases tq k with h | h | h <;> exact h▸rfl <;> decide
theorem wM(k:Nat):decide (KT k=aK)=false:=by rcases tq k with h | h | h <;> exact h▸rfl <;> decide
theorem Gp(h:σ[n]?=some (.lst l))(hl:l.length<=900000)(x:PyData):AK .append (.loc n) σ [.d x] σ=.ok (.d .none) (σ.set n (.lst (l++[x]))):=by unfold AK;rw[wU h];exact Mc h (QN hl (by decide)) x
variable {b:Bool}
theorem nT(h:b=false):some (!b)=some true:=congrArg (λb=>some (!b)) h
theorem nF(h:b=true):some (!b)=some false:=congrArg (λb=>some (!b)) h
theorem bT(h:b=true):some b=some true:=congrArg some h
theorem bF(h:b=false):some b=some false:=congrArg some h
theorem j3(n:Nat):∀ (t:Tm) (d:Nat) (σ:ac) (L:List Str),ht t < d->σ[n]?=some (.lst (L.map .str))->L.length+(cC t).length<=1000->af prog d 0 [.d (dl t),.loc n] σ=.ok (.d .none) (σ.set n (.lst ((xr t L).map .str)))
 | .num i,0=>@λ_ _ hd _ _=>by cases hd
 | .name i,0=>@λ_ _ hd _ _=>by cases hd
 | .op ..,0=>@λ_ _ hd _ _=>by cases hd
 | .num i,d+1=>@λσ L hd hc hl=>by show _=Res.ok (V.d .none) (σ.set n (.lst (L.map .str)));rw[wu hc];exact((wz prog 0 d [.d (dl (.num i)),.loc n] σ rfl 0)).trans (mo _ (same σ))
 | .name x,d+1=>@λσ L hd hc hl=>by
   have ck:=Pz hc x;refine(?_:_=Res.ok (V.d .none) (σ.set n (.lst ((gw L x).map .str))));unfold gw;by_cases hx:x∈L
   . rw[if_pos hx,wu hc];rw[decide_eq_true hx] at ck;exact((wz prog 0 d [.d (dl (.name x)),.loc n] σ rfl 16 ck)).trans (mo _ (same σ))
   . rw[if_neg hx,Qv];rw[decide_eq_false hx] at ck;exact((wz prog 0 d [.d (dl (.name x)),.loc n] σ rfl 16 ck (Gp hc (by rw[PN];exact iv (Rp hl) (by decide)) _))).trans (mo _ (Ao _ _))
 | .op k a b,d+1=>@λσ L hd hc hl=>by have hl:L.length+(cC a++cC b).length<=1000:=hl;rw[Qg,<- QQ] at hl;have h2:=j3 n b d _ (xr a L) (uM hd).2 (Ap hc) (iv (Qu (qL a L) _) hl);rw[List.set_set] at h2;exact((wz prog 0 d [.d (dl (.op k a b)),.loc n] σ rfl 36 (bF (wM k)) (nT (AC k)) (j3 n a d σ L (uM hd).1 hc (iv (Qz _ _) hl)) h2)).trans (mo _ (Ao _ _))
def sh(ws:List Str)(t:Tm):Prop:=T1 ws 2 t
variable {t:Tm}
theorem oZ(h:sh ws t):(cC t).length<=4:=iv (uG t) (Tg (n:=2) (by decide) h.2)
theorem lu(hd:deep<=2)(h:T1 ws deep t):sh ws t:=⟨h.1,iv h.2 hd⟩
structure St(K:List Str)(P:Str->Prop):Prop where
 nd:K.Nodup
 mem:∀ x,x∈K↔P x
variable {K:List Str}{P:Str->Prop}
theorem St.few(h:St K P)(w7:ws.length<=7)(hp:∀ x,P x->x∈ws):K.length<=7:=iv (h.nd.length_le_of_subset λx hx=>hp x ((h.mem x).mp hx)) w7
theorem St.add(h:St K P)(y:Str):St (gw K y) λx=>P x\/x=y:=by
 refine⟨?_,λx=>by rw[Gw,h.mem x]⟩;unfold gw;by_cases q:y∈K
 . rw[if_pos q];exact h.nd
 . rw[if_neg q];exact R3.mpr ⟨h.nd,SY _ y,λa ha b hb e=>q (Qt.mp hb▸e▸ha)⟩
theorem St.nil:St [] λ_=>False:=⟨SM,λx=>⟨(λh=>by cases h),False.elim⟩⟩
theorem St.of{Q:Str->Prop}(h:St K P)(e:∀ x,P x↔Q x):St K Q:=⟨h.nd,λx=>(h.mem x).trans (e x)⟩
theorem uZ:∀ (t:Tm) {L:List Str} {P:Str->Prop},St L P->St (xr t L) λx=>P x\/x∈cC t
 | .num _,L,P,h=>h.of λx=>⟨.inl,λq=>q.elim id λq=>by cases q⟩
 | .name y,L,P,h=>(h.add y).of λx=>or_congr Iff.rfl Qt.symm
 | .op _ a b,L,P,h=>(uZ b (uZ a h)).of λx=>by show _↔P x\/x∈cC a++cC b;rw[Qx,or_assoc]
theorem g8(h:sh ws t)(d:Nat)(σ:ac):∃ L:List Str,St L (·∈cC t)/\af prog (d+4) 1 [.d (dl t)] σ=.ok (.d (.list (L.map .str))) σ:=by have e:=j3 σ.length t (d+3) (σ++[.lst []]) [] (QN h.2 (iY d (by decide))) (aB _ _) (by rw[RO,Q5];exact iv (oZ h) (by decide));rw[ij] at e;exact⟨xr t [],(uZ t St.nil).of λx=>⟨λq=>q.resolve_left id,.inr⟩,(a9 prog 1 (d+3) [.d (dl t)] σ rfl 0 e (kB _ _) (ez _ _))⟩
theorem jv{a b:List PyData}(h:a.length+b.length<=100000)(σ:ac):cZ .add false (.d (.list a)) (.d (.list b)) σ=.ok (.d (.list (a++b))) σ:=L8 (iv h (by decide)) _ _
theorem gQ{a b:List PyData}(h:a.length+b.length<=100000)(σ:ac):cZ .add false (.d (.tuple a)) (.d (.tuple b)) σ=.ok (.d (.tuple (a++b))) σ:=L7 (iv h (by decide)) _ _
theorem lH:∀ (t:Tm) (d:Nat) (σ:ac),ht t < d->(cC t).length<=1000->af prog d 37 [.d (dl t)] σ=.ok (.d (.list ((cC t).map .str))) σ
 | .num i,0=>@λ_ hd _=>by cases hd
 | .name i,0=>@λ_ hd _=>by cases hd
 | .op ..,0=>@λ_ hd _=>by cases hd
 | .num i,d+1=>@λσ hd hl=>(a9 prog 37 d [.d (dl (.num i))] σ rfl 0 (same σ))
 | .name x,d+1=>@λσ hd hl=>(a9 prog 37 d [.d (dl (.name x))] σ rfl 0 (same σ))
 | .op k a b,d+1=>@λσ hd hl=>by have hl:(cC a++cC b).length<=1000:=hl;rw[Qg] at hl;have h1:=lH a d σ (uM hd).1 (iv (Qz _ _) hl);rw[show cC (.op k a b)=cC a++cC b from rfl,Qv];exact(a9 prog 37 d [.d (dl (.op k a b))] σ rfl 292 (bF (wM k)) (bF (AC k)) h1 (lH b d σ (uM hd).2 (iv (QK _ _) hl)) (jv (by rw[PN,PN];exact iv hl (by decide)) _) (same σ))
theorem Bt(h:sh ws t)(d:Nat)(σ:ac):af prog (d+3) 37 [.d (dl t)] σ=.ok (.d (.list ((cC t).map .str))) σ:=lH t (d+3) σ (QN h.2 (iY d (by decide))) (iv (oZ h) (by decide))
mutual
inductive Rw where
 | set (x:Str) (t:Tm)
 | tell (t:Tm)
 | call (o:Option Str) (f:Str) (ts:List Tm)
 | whn (t:Tm) (b:RL)
 | aga (n:Int) (b:RL)
inductive RL where
 | nil
 | cons (r:Rw) (b:RL)
end
noncomputable def Rw.ctorIdx(t:Rw):Nat:=by cases (t);exact 0;exact 1;exact 2;exact 3;exact 4
noncomputable def RL.ctorIdx(t:RL):Nat:=by cases (t);exact 0;exact 1
noncomputable def Ek:Option Str->PyData
 | none=>.none
 | some x=>.str x
mutual
noncomputable def bp:Rw->PyData
 | .set x t=>.tuple [.str ny,.str x,dl t]
 | .tell t=>.tuple [.str yC,dl t]
 | .call o f ts=>.tuple [.str gc,Ek o,.str f,.tuple (ts.map dl)]
 | .whn t b=>.tuple [.str ll,dl t,.tuple (am b)]
 | .aga n b=>.tuple [.str dW,.int n,.tuple (am b)]
noncomputable def am:RL->List PyData
 | .nil=>[]
 | .cons r b=>bp r::am b
end
mutual
noncomputable def hR:Rw->Nat
 | .whn _ b=>hL b+1
 | .aga _ b=>hL b+1
 | _=>0
noncomputable def hL:RL->Nat
 | .nil=>0
 | .cons r b=>max (hR r) (hL b)
end
mutual
noncomputable def nR:Rw->Nat
 | .whn _ b=>nL b+1
 | .aga _ b=>nL b+1
 | _=>1
noncomputable def nL:RL->Nat
 | .nil=>0
 | .cons r b=>nR r+nL b
end
abbrev CS:=List (Str×Nat)
mutual
noncomputable def ls(ws:List Str)(cs:CS):Rw->Prop
 | .set x t=>x∈ws/\sh ws t
 | .tell t=>sh ws t
 | .call o f ts=>(∀ x,o=some x->x∈ws)/\(∀ t∈ts,sh ws t)/\ts.length<=7/\(f,ts.length)∈cs
 | .whn t b=>sh ws t/\fC ws cs b
 | .aga _ b=>fC ws cs b
noncomputable def fC(ws:List Str)(cs:CS):RL->Prop
 | .nil=>True
 | .cons r b=>ls ws cs r/\fC ws cs b
end
noncomputable def bu:List Rw->RL
 | []=>.nil
 | r::l=>.cons r (bu l)
theorem j7:∀ l:List Rw,am (bu l)=l.map bp
 | []=>rfl
 | r::l=>congrArg (bp r::·) (j7 l)
variable {cs:CS}
theorem mR:∀ l:List Rw,(∀ r∈l,ls ws cs r)->fC ws cs (bu l)
 | []=>@λ_=>trivial
 | r::l=>@λh=>⟨h r (Qh ..),mR l λx hx=>h x (Qj _ hx)⟩
theorem tH:∀ l:List Rw,(∀ r∈l,hR r<=n)->hL (bu l)<=n
 | []=>@λ_=>QI _
 | r::l=>@λh=>TZ.mpr ⟨h r (Qh ..),tH l λx hx=>h x (Qj _ hx)⟩
theorem Js:∀ l:List Rw,(∀ r∈l,nR r<=n)->nL (bu l)<=l.length * n
 | []=>@λ_=>QI _
 | r::l=>@λh=>by show nR r+nL (bu l)<=(l.length+1) * n;rw[Ts,QW];exact Ra (Js l λx hx=>h x (Qj _ hx)) (h r (Qh ..))
structure Fd where
 nm:Str
 ps:List Str
 rs:RL
 t:Tm
noncomputable def ay(f:Fd):PyData:=.tuple [.str f.nm,.tuple (f.ps.map .str),.tuple (am f.rs),dl f.t]
noncomputable def kz(f:Fd):Str×Nat:=(f.nm,f.ps.length)
def KY(ws:List Str)(cs:CS)(f:Fd):Prop:=(∀ x∈f.ps,x∈ws)/\f.ps.length<=7/\kz f∈cs
structure okF(ws:List Str)(cs:CS)(f:Fd):Prop where
 ps:∀ x∈f.ps,x∈ws
 p4:f.ps.length<=7
 rs:fC ws cs f.rs
 h9:hL f.rs<=9
 n4:nL f.rs<=600
 t:sh ws f.t
theorem eQ(m:Bool)(x:List PyData){l h:Option Int}(hl:cx lo=some l)(hh:cx hi=some h)(σ:ac):eB m (.d (.tuple x)) lo hi σ=.ok (.d (.tuple (au x l h))) σ:=by unfold eB;rw[hl,hh];rfl
theorem sU{β:Type}(f:α->β)(l:List α)(lo hi:Option Int):au (l.map f) lo hi=(au l lo hi).map f:=by unfold au;rw[PN,SG,S3]
theorem BP{l:List α}{lo hi:Option Int}{x:α}(h:x∈au l lo hi):x∈l:=RE (QO h)
theorem o7(l:List PyData)(σ:ac):bq .eq (.d (.list l)) (.d (.list [])) σ=some l.isEmpty:=by show LS (.list l) (.list [])=_;rw[iH (iv (R7 _ _) (by decide))];cases l <;> rfl
theorem E3(h0:0<=i)(h:i < l.length)(σ:ac):∃ x,x∈l/\c8 (.d (.list l)) (.d (.int i)) σ=some (.d x):=by have:i.toNat < l.length:=(SU h0).mpr h;exact⟨l[i.toNat],SQ _,by rw[iE _ h0,Qk this];rfl⟩
theorem AZ(φ:α->PyData){l:List α}(h:0 < l.length)(x:Int):0 < (((l.map φ).length:Nat):Int)/\∃ a,a∈l/\∀ σ,c8 (.d (.list (l.map φ))) (.d (.int (x % ((l.map φ).length:Int)))) σ=some (.d (φ a)):=by
 have hl:0 < (((l.map φ).length:Nat):Int):=by rw[PN];exact QU.mpr h
 have b:=bk x hl;have:(x % ((l.map φ).length:Int)).toNat < l.length:=Nat.lt_of_lt_of_eq ((SU b.1).mpr b.2) (PN φ);exact⟨hl,l[(x % ((l.map φ).length:Int)).toNat],SQ _,λσ=>by rw[iE _ b.1,Q0,Qk this];rfl⟩
theorem Hf(a0:α){p:Nat->Prop}{Q:Nat->α->Prop}(h:∀ k,p k->∃ r,Q k r):∃ g:Nat->α,∀ k,p k->Q k (g k):=by
 classical exact⟨λk=>if hk:p k then Classical.choose (h k hk) else a0,λk hk=>by refine(?_:Q k (if hk:p k then Classical.choose (h k hk) else a0));rw[dif_pos hk];exact Classical.choose_spec (h k hk)⟩
theorem zO(hw:0 < ws.length)(hx:x∈ws)(c:Int)(d:Nat)(σ:ac):∃ t,sh ws t/\af prog (d+4) 29 [.d (.int c),.d (.list (ws.map .str)),.d (.str x)] σ=.ok (.d (dl t)) σ:=by
 by_cases h:c % 2=0
 . exact⟨.name x,kJ _ hx,(a9 prog 29 (d+3) [.d (.int c),.d (.list (ws.map .str)),.d (.str x)] σ rfl 4 (dT h) (same σ))⟩
 . obtain⟨t,h1,h2⟩:=dJ ws hw 1 (d+3) (c / 2) σ (iY d (by decide));exact⟨t,lu (by decide) h1,(a9 prog 29 (d+3) [.d (.int c),.d (.list (ws.map .str)),.d (.str x)] σ rfl 4 (dF h) h2 (same σ))⟩
variable {fs:List Fd}
theorem CM(hw:0 < ws.length)(hf:0 < fs.length)(hok:∀ f∈fs,KY ws cs f)(c:Int)(d:Nat)(σ:ac):∃ r,(ls ws cs r/\hR r=0/\nR r=1)/\af prog (d+6) 30 [.d (.int c),.d (.list (ws.map .str)),.d (.list (fs.map ay))] σ=.ok (.d (bp r)) σ:=by
 refine kk λK k=>?_;obtain⟨hfl,f,hf1,ih⟩:=AZ ay hf (c / 7);have ih:=ih σ;have of:=hok f hf1;obtain⟨hwl,w,hwm,iw⟩:=hZ hw (c / 49) σ;have hsk:∀ k:Nat,k < f.ps.length->∃ t,sh ws t/\af prog (d+5) 29 [.d (.int (jx c (10+k))),.d (.list (ws.map .str)),.d (.str ((f.ps[k]?).getD aK))] (σ++[.busy])=.ok (.d (dl t)) (σ++[.busy]):=λk hk=>zO hw (of.1 _ (by rw[Qk hk];exact SQ _)) _ (d+1) _
 obtain⟨g,hg⟩:=Hf (.num 0) hsk;have hlen:(f.ps.map PyData.str).length=f.ps.length:=PN _;have comp:=vZ (G:=prog.G) (cf:=af prog (d+5)) (i:=6) (eb:=.bi .len false (.cons (.idx (.var 3) (.int 1)) (.nil))) (e:=.call 29 (.cons (.call 26 (.cons (.var 0) (.cons (.bin .add false (.int 10) (.var 6)) (.nil)))) (.cons (.var 1) (.cons (.idx (.idx (.var 3) (.int 1)) (.var 6)) (.nil)))))
   (ρ:=(F7 (.d (.int c)) (.d (.list (ws.map .str))) (.d (.list (fs.map ay))) (.d (ay f)) .un .un .un)) (σ:=σ) (b:=((f.ps.map PyData.str).length:Int)) (λk=>dl (g k)) rfl ⟨QT _,by rw[hlen];exact Rc.mpr (iv of.2.1 (by decide))⟩ (λk hk=>by rw[hlen,QY] at hk;exact aD (jc (aD rfl (dD (d+4) c (10+k) _)) (jc rfl (ma (bI rfl rfl (by rw[cX,Q0,Qk hk];rfl))))) (by have:=(hg k hk).2;rw[Qk hk] at this;exact this))
 rw[hlen,QY] at comp;have okts:(∀ t∈(List.range f.ps.length).map g,sh ws t)/\((List.range f.ps.length).map g).length=f.ps.length:=by refine⟨λt ht=>?_,by rw[PN,RU]⟩;obtain⟨k,hk,rfl⟩:=QV.mp ht;exact(hg k (RV.mp hk)).1
 have e:(List.range f.ps.length).map (λk=>dl (g k))=((List.range f.ps.length).map g).map dl:=by rw[Rj];rfl
 rw[e] at comp;refine k ?_;generalize (List.range f.ps.length).map g=ts at comp okts;have okc:∀ o:Option Str,(∀ x,o=some x->x∈ws)->ls ws cs (.call o f.nm ts):=λo ho=>⟨ho,okts.1,okts.2▸of.2.1,okts.2.symm▸of.2.2⟩;by_cases h3:c % 3=0
 . exact⟨.call none f.nm ts,⟨okc none (λx hx=>by injection hx),rfl,rfl⟩,(a9 prog 30 (d+5) [.d (.int c),.d (.list (ws.map .str)),.d (.list (fs.map ay))] σ rfl 1228 (fB _ _ hfl) ih comp (fB _ _ hwl) iw (dT h3) (same σ))⟩
 . exact⟨.call (some w) f.nm ts,⟨okc (some w) (λx hx=>by (injection hx with e0_;subst e0_);exact hwm),rfl,rfl⟩,(a9 prog 30 (d+5) [.d (.int c),.d (.list (ws.map .str)),.d (.list (fs.map ay))] σ rfl 1228 (fB _ _ hfl) ih comp (fB _ _ hwl) iw (dF h3) (same σ))⟩
noncomputable def KK:Nat->Nat
 | 0=>1
 | n+1=>1+3 * KK n
theorem Ml:∀ n,1<=KK n
 | 0=>QP _
 | n+1=>Qz ..
def JO(ws:List Str)(deep:Nat):Prop:=∀ (cs:CS) (fs:List Fd) (c:Int) (d:Nat) (σ:ac),(∀ f∈fs,KY ws cs f)->2 * deep+8<=d->∃ r,(ls ws cs r/\hR r<=deep/\nR r<=KK deep)/\
 af prog d 31 [.d (.int c),.d (.list (ws.map .str)),.d (.list (fs.map ay)),.d (.int (deep:Int))] σ=.ok (.d (bp r)) σ
def z9(ws:List Str)(deep:Nat):Prop:=∀ (cs:CS) (fs:List Fd) (c many:Int) (d:Nat) (σ:ac),(∀ f∈fs,KY ws cs f)->0<=many/\many<=30->2 * deep+9<=d->∃ rs,(fC ws cs rs/\hL rs<=deep/\nL rs<=many.toNat * KK deep)/\
 af prog d 32 (F5 (.d (.int c)) (.d (.list (ws.map .str))) (.d (.list (fs.map ay))) (.d (.int (deep:Int))) (.d (.int many))) σ=.ok (.d (.tuple (am rs))) σ
theorem Hy(h:(n:Int) > 0):∃ e,n=e+1:=nG (QU.mp h)
variable {x:Int}
theorem LP(h:0<=x/\x < 3):0<=1+x/\1+x<=30:=⟨Su (by decide) h.1,Rq (Tn (SC h.2) 1) (by decide)⟩
theorem AD(h:0<=x/\x < 2):∃ n:Nat,1+x=(n:Int)/\n<=2:=⟨(1+x).toNat,(R5 (Su (by decide) h.1)).symm,RX.mpr (by rw[TP];exact h.2)⟩
theorem nz(H:JO ws deep):z9 ws deep:=by
 intro cs fs c many d σ hok hm hd;obtain⟨d,rfl⟩:∃ e,d=e+2:=nG (iv (QK 2 (2 * deep+7)) hd);have hsk:∀ k:Nat,True->∃ r,(ls ws cs r/\hR r<=deep/\nR r<=KK deep)/\af prog (d+1) 31 [.d (.int (jx c (20+k))),.d (.list (ws.map .str)),.d (.list (fs.map ay)),.d (.int (deep:Int))] (σ++[.busy])=.ok (.d (bp r)) (σ++[.busy]):=λk _=>H cs fs _ (d+1) _ hok (Sw hd)
 obtain⟨g,hg⟩:=Hf (.tell (.num 0)) hsk;refine⟨bu ((List.range many.toNat).map g),⟨mR _ λr hr=>?_,tH _ λr hr=>?_,?_⟩,?_⟩
 . obtain⟨k,_,rfl⟩:=QV.mp hr;exact(hg k trivial).1.1
 . obtain⟨k,_,rfl⟩:=QV.mp hr;exact(hg k trivial).1.2.1
 . have:=Js (n:=KK deep) ((List.range many.toNat).map g) λr hr=>by obtain⟨k,_,rfl⟩:=QV.mp hr;exact(hg k trivial).1.2.2
   simpa using this
 . rw[j7,Rj];exact(a9 prog 32 (d+1) (F5 (.d (.int c)) (.d (.list (ws.map .str))) (.d (.list (fs.map ay))) (.d (.int (deep:Int))) (.d (.int many))) σ rfl 0 (vZ (λk=>bp (g k)) rfl ⟨hm.1,Rq hm.2 (by decide)⟩ λk hk=>aD (jc (aD rfl (dD d c (20+k) _)) rfl) (hg k trivial).2) (same σ))
variable {e:Nat}{rs:RL}
theorem p5{c:Int}(hm:0<=c / 9 % 3/\c / 9 % 3 < 3)(h:nL rs<=(1+c / 9 % 3).toNat * KK e):nL rs+1<=1+3 * KK e:=by rw[QW];exact QR (iv h (SI (KK e) (RX.mpr (by rw[TP];exact hm.2)))) 1
theorem iF(l:List Int)(h0:0<=i)(h:i < l.length)(σ:ac):∃ n,n∈l/\c8 (.d (.list (l.map .int))) (.d (.int i)) σ=some (.d (.int n)):=by refine kk λK k=>?_;obtain⟨x,hx,e⟩:=E3 (l:=l.map .int) h0 (by simpa using h) σ;obtain⟨n,hn,rfl⟩:=QV.mp hx;refine k ?_;exact⟨n,hn,e⟩
theorem l4(l:List PyData)(σ:ac):bq .ne (.d (.list l)) (.d (.list [])) σ=some (!l.isEmpty):=by show (bq .eq (.d (.list l)) (.d (.list [])) σ).map _=_;rw[o7];rfl
set_option maxHeartbeats 1000000 in
theorem D4(hw:0 < ws.length)(H:∀ e,deep=e+1->z9 ws e):JO ws deep:=by
 intro cs fs c d σ hok hd;obtain⟨d,rfl⟩:∃ e,d=e+7:=nG (iv (QK 7 (2 * deep+1)) hd);obtain⟨hwl,w,hwm,iw⟩:=hZ hw (c / 9) σ;obtain⟨few,fok,few'⟩:∃ few:List Fd,(∀ f∈few,KY ws cs f)/\eB false (.d (.list (fs.map ay))) none (some (.d (.int (1+if decide (c / 3645 % 8=1) then 1 else 0)))) σ=.ok (.d (.list (few.map ay))) σ:=
   ⟨au fs none (some (1+if decide (c / 3645 % 8=1) then 1 else 0)),λf hf=>hok f (BP hf),congrArg (λl=>Res.ok (V.d (.list l)) σ) (sU ..)⟩
 have kp:=Ml deep;have hm:=bk (c / 9) (show (0:Int) < 3 by decide);have R:=λ(D:Int)=>a9 prog 31 (d+6) [.d (.int c),.d (.list (ws.map .str)),.d (.list (fs.map ay)),.d (.int D)] σ rfl;have m3:=dD (d+5) c 3 σ;have bm:=fB (x:=c / 9) σ false hwl;by_cases h1:c % 9=2
 . obtain⟨t,ht,et⟩:=dJ ws hw 2 (d+6) (jx c 3) σ (iY d (by decide));exact⟨.tell t,⟨lu (by decide) ht,QI _,kp⟩,(R deep 25624 m3 bm iw few' (dT h1) (dT h1) et (same σ))⟩
 by_cases h1':c % 9=8
 . obtain⟨t,ht,et⟩:=dJ ws hw 2 (d+6) (jx c 3) σ (iY d (by decide));exact⟨.tell t,⟨lu (by decide) ht,QI _,kp⟩,(R deep 42008 m3 bm iw few' (dF h1) (dT h1') et (same σ))⟩
 have k2:=λ(D:Int)=>pH (G:=prog.G) (cf:=af prog (d+6)) (e:=.cmp .lt (.int 2) (.var 4)) (e':=.cmp .lt (.var 4) (.int 6)) (es:=.cons (.cmp .ne (.var 2) (.list false (.nil))) (.nil)) (ρ:=(JR (.d (.int c)) (.d (.list (ws.map .str))) (.d (.list (fs.map ay))) (.d (.int D)) (.d (.int (c % 9))) (.d (.int (jx c 3))) (.d (.str w)) (.d (.list (few.map ay))) .un .un)) (bJ rfl rfl rfl) λ_=>pH (bJ rfl rfl rfl) λ_=>dO (bJ rfl rfl (l4 _ σ));cases h2:(decide (2 < c % 9)&&(decide (c % 9 < 6)&&!(fs.map ay).isEmpty)) with
 | true=>
   have hf:0 < fs.length:=by
     cases fs with
     | nil=>rw[R2,List.isEmpty_nil,SE,Tc,Tc] at h2;injection h2
     | cons _ _=>exact RY _
   obtain⟨r,⟨h5,h6,h7⟩,er⟩:=CM hw hf hok (jx c 3) d σ;exact⟨r,⟨h5,h6▸QI _,h7▸kp⟩,(R deep 238616 m3 bm iw few' (dF h1) (dF h1') (k2 deep) (bT h2) er (same σ))⟩
 | false=>
   by_cases hD:(deep:Int) > 0
   . refine kk λK k=>?_;obtain⟨e,rfl⟩:∃ e,deep=e+1:=Hy hD;obtain⟨rs,⟨a1,a2,a3⟩,ers⟩:=H e rfl cs few (jx c 3) (1+c / 9 % 3) (d+6) σ fok (LP hm) (Sw hd);replace ers:=(fZ e)▸ers;refine k ?_;generalize ((e+1:Nat):Int)=D at *;by_cases h3:c % 9=6
     . obtain⟨t,ht,et⟩:=dJ ws hw 1 (d+6) (jx c 4) σ (iY d (by decide));exact⟨.whn t rs,⟨⟨lu (by decide) ht,a1⟩,QE a2,p5 hm a3⟩,(R D 5481496 m3 bm iw few' (dF h1) (dF h1') (k2 D) (bF h2) (dT h3) (dT hD) ers (dD (d+5) c 4 σ) et (same σ))⟩
     by_cases h4:c % 9=7
     . have b4:=bk (c / 27) p4;have b5:=bk (c / 27) (show (0:Int) < 5 by decide);refine kk λK k=>?_;obtain⟨n4,m4,i4⟩:=iF [2,1,2,0] b4.1 b4.2 σ;obtain⟨n5,m5,i5⟩:=iF [2,3,1,c / 135 % 10,0] b5.1 b5.2 σ;refine k ?_;have k5:=pH (G:=prog.G) (cf:=af prog (d+6)) (e:=.cmp .eq (.var 2) (.list false (.nil))) (e':=.cmp .eq (.var 3) (.int 2)) (es:=.nil) (ρ:=(JR (.d (.int c)) (.d (.list (ws.map .str))) (.d (.list (fs.map ay))) (.d (.int D)) (.d (.int (c % 9))) (.d (.int (jx c 3))) (.d (.str w)) (.d (.list (few.map ay))) .un (.d (.int n4)))) (bJ rfl rfl (o7 _ σ)) λ_=>dO (bJ rfl rfl rfl);cases h5:((fs.map ay).isEmpty&&decide (D=2)) with
       | true=>exact⟨.aga n5 rs,⟨a1,QE a2,p5 hm a3⟩,(R D 72564843544 m3 bm iw few' (dF h1) (dF h1') (k2 D) (bF h2) (dF h3) (dF h3) (dT h4) (dT hD) i4 k5 (bT h5) i5 ers (same σ))⟩
       | false=>exact⟨.aga n4 rs,⟨a1,QE a2,p5 hm a3⟩,(R D 3845366808 m3 bm iw few' (dF h1) (dF h1') (k2 D) (bF h2) (dF h3) (dF h3) (dT h4) (dT hD) i4 k5 (bF h5) ers (same σ))⟩
     refine kk λK k=>?_;obtain⟨n,hn,hn2⟩:∃ n:Nat,1+c % 9 % 2=(n:Int)/\n<=2:=AD (bk (c % 9) (by decide));obtain⟨t,ht,et⟩:=dJ ws hw n (d+6) (jx c 3) σ (QN (QE hn2) (iY d (by decide)));replace et:=hn▸et;refine k ?_;exact⟨.set w t,⟨⟨hwm,lu hn2 ht⟩,QI _,kp⟩,(R D 53715992 m3 bm iw few' (dF h1) (dF h1') (k2 D) (bF h2) (dF h3) (dF h3) (dF h4) (dF h4) et (same σ))⟩
   . obtain⟨n,hn,hn2⟩:∃ n:Nat,1+c % 9 % 2=(n:Int)/\n<=2:=AD (bk (c % 9) (by decide));obtain⟨t,ht,et⟩:=dJ ws hw n (d+6) (jx c 3) σ (QN (QE hn2) (iY d (by decide)));rw[<- hn] at et;refine⟨.set w t,⟨⟨hwm,lu hn2 ht⟩,QI _,kp⟩,?_⟩;by_cases h3:c % 9=6
     . have h4:¬ c % 9=7:=λq=>by rw[h3] at q;(injection q with e0_;injection e0_ with e0_;injection e0_ with e0_;injection e0_ with e0_;injection e0_ with e0_;injection e0_ with e0_;injection e0_ with e0_;injection e0_)
       exact(R deep 106144792 m3 bm iw few' (dF h1) (dF h1') (k2 deep) (bF h2) (dT h3) (dF hD) (dF h4) (dF h4) et (same σ))
     by_cases h4:c % 9=7
     . exact(R deep 87270424 m3 bm iw few' (dF h1) (dF h1') (k2 deep) (bF h2) (dF h3) (dF h3) (dT h4) (dF hD) et (same σ))
     exact(R deep 53715992 m3 bm iw few' (dF h1) (dF h1') (k2 deep) (bF h2) (dF h3) (dF h3) (dF h4) (dF h4) et (same σ))
theorem Av(hw:0 < ws.length):∀ deep,z9 ws deep
 | 0=>nz (D4 hw λe h=>by injection h)
 | n+1=>nz (D4 hw λe h=>by (injection h with e0_;subst e0_);exact Av hw n)
def Mp(ws:List Str)(cs:CS)(f:Fd):Prop:=okF ws cs f/\hL f.rs<=2/\nL f.rs<=390
theorem sK(hw:0 < ws.length)(hok:∀ f∈fs,KY ws cs f)(c:Int)(nm:Str)(d:Nat)(σ:ac):∃ f,(Mp ws cs f/\f.nm=nm)/\
   af prog (d+16) 34 [.d (.int c),.d (.str nm),.d (.list (ws.map .str)),.d (.list (fs.map ay))] σ=.ok (.d (ay f)) σ:=by
 have b6:=bk c (show (0:Int) < 6 by decide);have b6':=bk (c / 30) (show (0:Int) < 6 by decide);obtain⟨n0,hn0,i0⟩:=iF [0,1,2,2,3,4] b6.1 b6.2 σ;obtain⟨n6,hn6,i6⟩:=iF [3,4,2,5,0,6] b6'.1 b6'.2 σ;have b0:0<=n0/\n0<=7:=(by decide:∀ x∈([0,1,2,2,3,4]:List Int),0<=x/\x<=7) n0 hn0;have b6:0<=n6/\n6<=6:=(by decide:∀ x∈([3,4,2,5,0,6]:List Int),0<=x/\x<=6) n6 hn6;have hwl:=(hZ hw 0 σ).1;obtain⟨g,hg⟩:=Hf aK (λk _=>(hZ hw _ _).2);obtain⟨t,ht,et⟩:=dJ ws hw 1 (d+15) (jx c 6) σ (iY d (by decide));have okp:((List.range n0.toNat).map g).length<=7:=by rw[PN,RU];exact RX.mpr b0.2
 have okw:∀ x∈(List.range n0.toNat).map g,x∈ws:=λx hx=>by obtain⟨k,_,rfl⟩:=QV.mp hx;exact(hg k trivial).1
 have cm:ag prog.G (af prog (d+15)) (.comp false (.var 8) (.range (.idx (.list false (.cons (.int 0) (.cons (.int 1) (.cons (.int 2) (.cons (.int 2) (.cons (.int 3) (.cons (.int 4) (.nil)))))))) (.bin .mod false (.var 0) (.int 6)))) .no (.idx (.var 2) (.bin .mod false (.bin .add false (.var 4) (.bin .mul false (.int 2) (.var 8))) (.bi .len false (.cons (.var 2) (.nil)))))) (F9 (.d (.int c)) (.d (.str nm)) (.d (.list (ws.map .str))) (.d (.list (fs.map ay))) (.d (.int (c / 6 % ((ws.map PyData.str).length:Int)))) .un .un .un .un) σ=.ok (.d (.list (((List.range n0.toNat).map g).map .str))) σ:=by rw[<- uN];exact vZ (λk=>.str (g k)) (bI rfl rfl i0) ⟨b0.1,Rq b0.2 (by decide)⟩ λk hk=>bI rfl (gD rfl rfl (fB _ _ hwl)) (hg k trivial).2
 generalize (List.range n0.toNat).map g=ps at cm okp okw;have R:=a9 prog 34 (d+15) [.d (.int c),.d (.str nm),.d (.list (ws.map .str)),.d (.list (fs.map ay))] σ rfl;have fin:∀ (M:Int) (hs:List Fd) (deep:Nat),0<=M/\M<=30->(∀ f∈hs,KY ws cs f)->deep<=2->∃ rs,af prog (d+15) 32 (F5 (.d (.int (jx c 5))) (.d (.list (ws.map .str))) (.d (.list (hs.map ay))) (.d (.int deep)) (.d (.int M))) σ=.ok (.d (.tuple (am rs))) σ/\Mp ws cs ⟨nm,ps,rs,t⟩:=λM hs deep bM hok' hd2=>by obtain⟨rs,hrs,ers⟩:=Av hw deep cs hs (jx c 5) M (d+15) σ hok' bM (iv (Qu (RJ 2 hd2) 9) (iv (by decide) (QK 15 d)));have hn:nL rs<=390:=iv hrs.2.2 (T6 (RX.mpr bM.2) ((by decide:∀ n,n < 3->KK n<=13) deep (Ta hd2)));exact⟨rs,ers,⟨okw,okp,hrs.1,iv hrs.2.1 (iv hd2 (by decide)),iv hn (by decide),lu (by decide) ht⟩,iv hrs.2.1 hd2,hn⟩
 have bl:=fB (x:=c / 6) σ false hwl;have m5:=dD (d+14) c 5 σ;have m6:=dD (d+14) c 6 σ;have one:∀ b:Bool,some (b:Bool)=some b:=λ_=>rfl;by_cases h1:c / 180 % 12=1
 . have bM:=bk (c / 2160) (show (0:Int) < 30 by decide);by_cases h2:c / 2160 % 30 > 6
   . obtain⟨rs,e,ok⟩:=fin (c / 2160 % 30) [] 1 ⟨bM.1,SC bM.2⟩ (λf hf=>by cases hf) (by decide);exact⟨_,⟨ok,rfl⟩,(R 83012 bl cm i6 (dT h1) (dT h2) m5 ((show yn .int false [.d (.bool (decide (c / 2160 % 30 > 6)))] σ=.ok (.d (.int 1)) σ by rw[decide_eq_true h2];rfl)) e m6 et (same σ))⟩
   . obtain⟨rs,e,ok⟩:=fin (c / 2160 % 30) fs 2 ⟨bM.1,SC bM.2⟩ hok (by decide);exact⟨_,⟨ok,rfl⟩,(R 83012 bl cm i6 (dT h1) (dF h2) m5 ((show yn .int false [.d (.bool (decide (c / 2160 % 30 > 6)))] σ=.ok (.d (.int 0)) σ by rw[decide_eq_false h2];rfl)) e m6 et (same σ))⟩
 . have h2:¬ n6 > 6:=R8.mpr b6.2;obtain⟨rs,e,ok⟩:=fin n6 fs 2 ⟨b6.1,Rq b6.2 (by decide)⟩ hok (by decide);exact⟨_,⟨ok,rfl⟩,(R 21572 bl cm i6 (dF h1) (dF h2) m5 ((show yn .int false [.d (.bool (decide (n6 > 6)))] σ=.ok (.d (.int 0)) σ by rw[decide_eq_false h2];rfl)) e m6 et (same σ))⟩
theorem rm(l:List Int)(a:Nat):∃ ws:List Str,(5<=ws.length/\ws.length<=7)/\∀ (d:Nat) (σ:ac),af prog (d+3) 35 [.d (.list (l.map .int)),.d (.int (a:Int))] σ=.ok (.d (.list (ws.map .str))) σ:=by
 generalize hM:(5+2 * (if decide (bU l (a+2) / 512 % 8=1) then 1 else 0):Int)=M;have bM:5<=M/\M<=7:=by rw[<- hM];cases decide (bU l (a+2) / 512 % 8=1) <;> decide
 obtain⟨ws,h1,_,h3⟩:=lG (bU l a) M ⟨Rq (by decide) bM.1,Rq bM.2 (by decide)⟩ 0 [];refine⟨ws,⟨h1▸Int.toNat_le_toNat bM.1,h1▸Int.toNat_le_toNat bM.2⟩,λd σ=>?_⟩;have h3:=h3 (d+1) σ;rw[<- hM] at h3;exact(a9 prog 35 (d+2) [.d (.list (l.map .int)),.d (.int (a:Int))] σ rfl 0 (iK (d+1) l a σ) (fU (d+1) l σ (a+2) _ rfl) h3 (same σ))
theorem K7(n:Nat):(-1:Int)+((n+1:Nat):Int)=(n:Int):=by rw[TP];exact fZ n
theorem xi(a:List PyData)(x:PyData)(σ:ac):c8 (.d (.tuple (a++[x]))) (.d (.int (-1))) σ=some (.d x):=by
 rw[AY];have e:(-1:Int)+((a++[x]).length:Int)=(a.length:Int):=by rw[Qg,Rr];exact K7 _
 have:index (a++[x]).length (-1)=some a.length:=by unfold index;rw[if_neg (by decide),e,if_pos (QT _)];rfl
 rw[this];show ((a++[x])[a.length]?).map V.d=_;rw[QH (QP _),TQ];rfl
theorem li(a:List α)(x:α):au (a++[x]) none (some (-1))=a:=by
 have e:(-1:Int)+((a++[x]).length:Int)=(a.length:Int):=by rw[Qg,Rr];exact K7 _
 have h:iI (a++[x]).length (-1)=a.length:=by unfold iI;rw[if_pos (by decide),e,Tk (Rc.mpr (by rw[Qg];exact Qz ..)),SO (QT _)];rfl
 refine(?_:((a++[x]).drop 0).take (iI (a++[x]).length (-1) - 0)=a);rw[h];exact TS rfl
theorem Bh(l:List PyData)(σ:ac):bq .eq (.d (.tuple l)) (.d (.tuple [])) σ=some l.isEmpty:=by show LS (.tuple l) (.tuple [])=_;rw[iH (iv (R7 _ _) (by decide))];cases l <;> rfl
noncomputable def yu:List Nat->RL->RL
 | [],b=>b
 | k::ks,b=>yu ks (.cons (.whn (.num (1+(k:Int))) b) .nil)
theorem BB(cf:Nat->List V->ac->Res V)(v0 v1 v2 v3 v5:V)(σ:ac):∀ (ks:List Nat) (b:RL) (v:V),∃ v',aY (aG prog.G cf (.var 6) jS) (ks.map λ(k:Nat)=>PyData.int (k:Int)) (F7 v0 v1 v2 v3 (.d (.tuple (am b))) v5 v) σ=.ok (.next (F7 v0 v1 v2 v3 (.d (.tuple (am (yu ks b)))) v5 v')) σ:=by
 intro xs_
 induction xs_ with
 | nil=>intro b v;exact⟨v,rfl⟩
 | cons k ks ih_=>intro b v;obtain⟨v',ih⟩:=ih_ (.cons (.whn (.num (1+(k:Int))) b) .nil) (.d (.int (k:Int)));exact⟨v',aQ (bc rfl) ih⟩
theorem GX:∀ (ks:List Nat) (b:RL),fC ws cs b->fC ws cs (yu ks b)/\hL (yu ks b)=hL b+ks.length/\nL (yu ks b)=nL b+ks.length:=by
 intro xs_
 induction xs_ with
 | nil=>intro b h;exact⟨h,rfl,rfl⟩
 | cons k ks ih_=>
   intro b h;obtain⟨h1,h2,h3⟩:=ih_ (.cons (.whn (.num (1+(k:Int))) b) .nil) ⟨⟨vH ..,h⟩,trivial⟩;have e2:hL (.cons (.whn (.num (1+(k:Int))) b) .nil)=hL b+1:=Nat.max_eq_left (QI _);refine⟨h1,?_,?_⟩
   . show hL (yu ks _)=_;rw[h2,e2,QF,QQ,QW 1]
   . show nL (yu ks _)=_;rw[h3,QF,QW ks.length,<- QQ];rfl
variable {f:Fd}
theorem x5(hf:Mp ws cs f)(hl:fs.length<=100)(c:Int)(d:Nat)(σ:ac):∃ f',(okF ws cs f'/\kz f'=kz f/\nL f'.rs<=400)/\af prog (d+1) 33 [.d (.tuple ((fs++[f]).map ay)),.d (.int c)] σ=.ok (.d (.tuple ((fs++[f']).map ay))) σ:=by
 have em:∀ g,(fs++[g]).map ay=fs.map ay++[ay g]:=λg=>by rw[Qv];rfl
 have il:=xi (fs.map ay) (ay f) σ;rw[em];have R:=a9 prog 33 d [.d (.tuple (fs.map ay++[ay f])),.d (.int c)] σ rfl;by_cases h1:c % 2=0
 . exact⟨f,⟨hf.1,rfl,iv hf.2.2 (by decide)⟩,by rw[em];exact(R 24 (dT h1) (dT h1) (same σ))⟩
 have en:=Bh (am f.rs) σ;cases h2:(am f.rs).isEmpty with
 | true=>replace en:=h2▸en;exact⟨f,⟨hf.1,rfl,iv hf.2.2 (by decide)⟩,by rw[em];exact(R 88 (dF h1) il en (same σ))⟩
 | false=>
   replace en:=h2▸en;have hlen:∀ x:PyData,(fs.map ay).length+List.length [x]<=100000:=λx=>by rw[PN,Rr];exact iv (QE hl) (by decide)
   have sl:eB false (.d (.tuple (fs.map ay++[ay f]))) none (some (.d (.int (-1)))) σ=.ok (.d (.tuple (fs.map ay))) σ:=by rw[eQ _ _ eR (dY _),li]
   have fin:∀ b:RL,fC ws cs b->hL b<=8->nL b<=396->okF ws cs ⟨f.nm,f.ps,.cons (.aga (2+c / 2 % 2) b) .nil,f.t⟩:=λb w1 w2 w3=>⟨hf.1.ps,hf.1.p4,⟨w1,trivial⟩,TZ.mpr ⟨QE w2,QI _⟩,iv (QE w3) (by decide),hf.1.t⟩
   by_cases h4:c / 4 % 4=1
   . refine(BB (af prog d) (.d (.tuple (fs.map ay++[ay f]))) (.d (.int c)) (.d (.str f.nm)) (.d (.tuple (f.ps.map .str))) (.d (dl f.t)) σ (List.range 6) f.rs .un).elim λv' lp=>?_;obtain⟨w1,w2,w3⟩:=GX (List.range 6) f.rs hf.1.rs;rw[RU] at w2 w3;refine⟨_,⟨fin _ w1 (w2▸Qu hf.2.1 6) (w3▸Qu hf.2.2 6),rfl,iv (QE (w3▸Qu hf.2.2 6)) (by decide)⟩,?_⟩;rw[em];exact(R 143704 (dF h1) il en il (dT h4) (bf (jd rfl (by decide)) lp) sl (gQ (hlen _) _) (same σ))
   . refine⟨_,⟨fin f.rs hf.1.rs (iv hf.2.1 (by decide)) (iv hf.2.2 (by decide)),rfl,iv (QE hf.2.2) (by decide)⟩,?_⟩;rw[em];exact(R 143704 (dF h1) il en il (dF h4) sl (gQ (hlen _) _) (same σ))
variable {cs':CS}
mutual
theorem Eo(h:∀ x∈cs,x∈cs'):∀ r:Rw,ls ws cs r->ls ws cs' r
 | .set _ _=>@λq=>q
 | .tell _=>@λq=>q
 | .call _ _ _=>@λq=>⟨q.1,q.2.1,q.2.2.1,h _ q.2.2.2⟩
 | .whn _ b=>@λq=>⟨q.1,iA h b q.2⟩
 | .aga _ b=>@λq=>iA h b q
theorem iA(h:∀ x∈cs,x∈cs'):∀ b:RL,fC ws cs b->fC ws cs' b
 | .nil=>@λ_=>trivial
 | .cons r b=>@λq=>⟨Eo h r q.1,iA h b q.2⟩
end
theorem lV(h:∀ x∈cs,x∈cs')(q:okF ws cs f):okF ws cs' f:={ q with rs:=iA h _ q.rs }
noncomputable def hX(fs:List Fd):List Str:=fs.map (·.nm)
def Er(ws:List Str)(fs:List Fd):Prop:=∀ f∈fs,Mp ws (fs.map kz) f
variable {a:α}
theorem l6{l:List α}{x:α}(h:x∈l++[a]):x∈l\/x=a:=(Qx.mp h).imp id Qt.mp
theorem xm(f:Fd):∀ x∈fs.map kz,x∈(fs++[f]).map kz:=λx hx=>by rw[Qv];exact RP _ hx
theorem B8(h:Er ws fs)(hf:Mp ws (fs.map kz) f):Er ws (fs++[f]):=λg hg=>by
 rcases l6 hg with hg | rfl
 . exact⟨lV (xm f) (h g hg).1,(h g hg).2⟩
 . exact⟨lV (xm g) hf.1,hf.2⟩
def Oy(ws:List Str)(fs:List Fd):Prop:=∀ f∈fs,okF ws (fs.map kz) f/\nL f.rs<=400
variable {l:List Str}
theorem xh(h:k < l.length)(σ:ac):c8 (.d (.list (l.map .str))) (.d (.int (k:Int))) σ=some (.d (.str l[k])):=by rw[iE _ (QT k)];show ((l.map PyData.str)[k]?).map V.d=_;rw[Q0,Qk h];rfl
theorem B1{cC:List Str}(hw:0 < ws.length)(hn:cC.length=8)(l:List Int)(a:Nat)(hok:Er ws fs)(hk:fs.length < 8)(d:Nat)(v5 v6 v7:V)(σ:ac) :
   X2 λ(f:Fd) (v7':V)=>(Mp ws (fs.map kz) f/\some f.nm=cC[fs.length]?)/\
     aG prog.G (af prog (d+16)) (.var 6) cD (.int (fs.length:Int)) (F8 (.d (.list (l.map .int))) (.d (.int (a:Int))) (.d (.list (ws.map .str))) (.d (.list (cC.map .str))) (.d (.tuple (fs.map ay))) v5 v6 v7) σ =
     .ok (.next (F8 (.d (.list (l.map .int))) (.d (.int (a:Int))) (.d (.list (ws.map .str))) (.d (.list (cC.map .str))) (.d (.tuple ((fs++[f]).map ay))) v5 (.d (.int (fs.length:Int))) v7')) σ:=by
 have h8:fs.length < cC.length:=hn▸hk;have h0:0 < cC.length:=hn▸(by decide)
 have ck:=fU (d+15) l σ (a+3+fs.length) ((a:Int)+3+(fs.length:Int)) rfl;have c4:=fU (d+15) l σ (a+2) ((a:Int)+2) rfl;have hokh:∀ f∈fs.take 3,KY ws (fs.map kz) f:=λf hf=>by have hf:=QO hf;exact⟨(hok f hf).1.ps,(hok f hf).1.p4,List.mem_map_of_mem hf⟩
 refine kk λK k=>?_;obtain⟨f,⟨okf,nmf⟩,ef⟩:=sK hw hokh (bU l (a+3+fs.length)) cC[fs.length] d σ;refine k ?_;have sl:eB false (.d (.tuple (fs.map ay))) none (some (.d (.int 3))) σ=.ok (.d (.tuple ((fs.take 3).map ay))) σ:=by rw[eQ _ _ eR (dY _),sU];exact congrArg (λx=>Res.ok (V.d (.tuple (x.map ay))) σ) (pU fs 3)
 have ad:∀ g:Fd,cZ .add false (.d (.tuple (fs.map ay))) (.d (.tuple [ay g])) σ=.ok (.d (.tuple ((fs++[g]).map ay))) σ:=λg=>by rw[Qv];exact gQ (by rw[PN,Rr];exact iv hk (by decide)) σ
 have R:=dn prog.G (af prog (d+16)) cD (F8 (.d (.list (l.map .int))) (.d (.int (a:Int))) (.d (.list (ws.map .str))) (.d (.list (cC.map .str))) (.d (.tuple (fs.map ay))) v5 (.d (.int (fs.length:Int))) v7) σ;have i1:=xh h8 σ;have nof:some f.nm=cC[fs.length]?:=by rw[nmf];exact(Qk h8).symm
 by_cases hz:(fs.length:Int)=0
 . by_cases h:bU l (a+2) / 4096 % 8=1
   . have i0:=xh h0 σ;refine⟨⟨cC[0],[],.nil,f.t⟩,.d (ay ⟨cC[0],[],.nil,f.t⟩),⟨⟨⟨(λx hx=>by cases hx),QI _,trivial,QI _,QI _,okf.1.t⟩,QI _,QI _⟩,?_⟩,bc ?_⟩
     . rw[(S1.mp hz)];exact(Qk h0).symm
     . exact(R 45196 ck i1 sl ef (dT hz) c4 (dT h) i0 (ad ⟨cC[0],[],.nil,f.t⟩))
   . exact⟨f,.d (ay f),⟨okf,nof⟩,bc ((R 12428 ck i1 sl ef (dT hz) c4 (dF h) (ad f)))⟩
 . exact⟨f,.d (ay f),⟨okf,nof⟩,bc ((R 908 ck i1 sl ef (dF hz) (dF hz) (ad f)))⟩
noncomputable def PJ(l:List Int)(a:Nat)(ws cC:List Str)(σ:ac)(N:Nat)(v5:V):List Nat->Fm->ac->Prop:=λrest ρ τ=>X3 λ(fs:List Fd) (v6:V) (v7:V)=>A6 (rest=List.range' fs.length (N - fs.length)) (fs.length<=N) (Er ws fs) (hX fs=cC.take fs.length) (ρ=(F8 (.d (.list (l.map .int))) (.d (.int (a:Int))) (.d (.list (ws.map .str))) (.d (.list (cC.map .str))) (.d (.tuple (fs.map ay))) v5 v6 v7)) (τ=σ)
theorem wl{N:Nat}(h:m < N):N - m=(N - (m+1))+1:=by rw[Nat.sub_add_eq,R9 (Nat.sub_pos_of_lt h)]
theorem B2{cC:List Str}(hw:0 < ws.length)(hn:cC.length=8)(l:List Int)(a d N:Nat)(hN:N<=8)(v5:V)(σ:ac):X2 λρ' τ'=>aY (aG prog.G (af prog (d+16)) (.var 6) cD) ((List.range N).map λ(k:Nat)=>PyData.int (k:Int)) (F8 (.d (.list (l.map .int))) (.d (.int (a:Int))) (.d (.list (ws.map .str))) (.d (.list (cC.map .str))) (.d (.tuple [])) v5 .un .un) σ=.ok (.next ρ') τ'/\PJ l a ws cC σ N v5 [] ρ' τ':=by
 refine EK (λ(k:Nat)=>PyData.int (k:Int)) (PJ l a ws cC σ N v5) ?_ (List.range N) _ _ ⟨[],.un,.un,by rw[SJ];rfl,QI _,(λf h=>by cases h),rfl,rfl,rfl⟩
 rintro x xs ρ τ ⟨fs,v6,v7,h1,h2,h3,h4,rfl,rfl⟩
 have hlt:fs.length < N:=by
   rcases TM fs.length N with h | h
   . exact h
   . rw[Nat.sub_eq_zero_of_le h] at h1;injection h1
 rw[wl hlt,TD] at h1;injection h1 with hx hxs;subst hx;have h8:=Q3 hlt hN;obtain⟨f,v7',⟨a1,a2⟩,e⟩:=B1 hw hn l a h3 h8 d v5 v6 v7 τ;have el:(fs++[f]).length=fs.length+1:=Qg;refine⟨_,_,e,fs++[f],.d (.int (fs.length:Int)),v7',by rw[el,hxs],by rw[el];exact hlt,B8 h3 a1,?_,rfl,rfl⟩;have en:hX (fs++[f])=hX fs++[f.nm]:=Qv;have h8:fs.length < cC.length:=hn▸h8;rw[Qk h8] at a2;rw[en,el,h4,Option.some.inj a2,List.take_succ_eq_append_getElem h8]
theorem ED(g:Fd):g∈fs++[g]:=RM _ (Qt.mpr rfl)
variable {hs:List Fd}
theorem Ep{g f':Fd}(h:Er ws (hs++[g]))(hf:okF ws ((hs++[g]).map kz) f')(e:kz f'=kz g)(h4:nL f'.rs<=400):Oy ws (hs++[f']):=by
 have:(hs++[f']).map kz=(hs++[g]).map kz:=by rw[Qv,Qv,Sa,Sa,e]
 intro f q;rw[this];rcases l6 q with q | rfl
 . exact⟨(h f (RP _ q)).1,iv (h f (RP _ q)).2.2 (by decide)⟩
 . exact⟨hf,h4⟩
theorem Pu(h:0<=x)(h4:x < 4):1<=(1+x+4).toNat/\(1+x+4).toNat<=8:=by obtain⟨n,rfl⟩:=RC h;exact⟨QK 1 (1+n+3),Qu (QR (S9 (QU.mp h4)) 1) 4⟩
theorem Pv(h:0<=x)(h4:x < 4):1<=(1+x).toNat/\(1+x).toNat<=8:=
 ⟨(Int.le_toNat (RD h |> Rq (by decide))).mpr (RD h),iv (RX.mpr (Tn (SC h4) 1)) (by decide)⟩
theorem vy(l:List Int)(a d:Nat)(σ:ac):X2 λ(ws:List Str) (fs:List Fd)=>(ws.length<=7/\0 < fs.length/\fs.length<=8/\Oy ws fs/\(hX fs).Nodup)/\af prog (d+17) 36 [.d (.list (l.map .int)),.d (.int (a:Int))] σ=.ok (.d (.tuple (fs.map ay))) σ:=by
 obtain⟨ws,hw,hv⟩:=rm l a;have c3:=fU (d+15) l σ (a+1) ((a:Int)+1) rfl;have c4:=fU (d+15) l σ (a+2) ((a:Int)+2) rfl;obtain⟨k,hk⟩:∃ k:Nat,((a:Int)+1 - (if decide (bU l (a+1) % 8=3) then 1 else 0):Int)=(k:Int):=by
   cases decide (bU l (a+1) % 8=3) with
   | true=>exact⟨a,Int.add_sub_cancel _ 1⟩
   | false=>exact⟨a+1,Ud _⟩
 obtain⟨cC,hn,hnd,h3⟩:=lG (bU l k) 8 (by decide) 0 [];have ck:=fU (d+15) l σ k _ hk;have bm:=bk (bU l (a+2)+2) p4;have R:=a9 prog 36 (d+16) [.d (.list (l.map .int)),.d (.int (a:Int))] σ rfl;have main:∀ N:Nat,1<=N->N<=8->X4 λ(fs:List Fd) (fs':List Fd) (v6:V) (v7:V)=>A3 ((0 < fs'.length/\fs'.length<=8/\Oy ws fs'/\(hX fs').Nodup)) (exec prog.G (af prog (d+16)) (.forr (.var 6) (.range (.var 5)) cD) (F8 (.d (.list (l.map .int))) (.d (.int (a:Int))) (.d (.list (ws.map .str))) (.d (.list (cC.map .str))) (.d (.tuple [])) (.d (.int (N:Int))) .un .un) σ=.ok (.next (F8 (.d (.list (l.map .int))) (.d (.int (a:Int))) (.d (.list (ws.map .str))) (.d (.list (cC.map .str))) (.d (.tuple (fs.map ay))) (.d (.int (N:Int))) v6 v7)) σ) (af prog (d+16) 33 [.d (.tuple (fs.map ay)),.d (.int (bU l (a+2) / 4))] σ=.ok (.d (.tuple (fs'.map ay))) σ):=λN hN1 hN8=>by
   refine kk λK k=>?_;obtain⟨ρ',τ',lp,fs,v6,v7,h1,h2,h3,h4,rfl,rfl⟩:=B2 (Q3 (by decide) hw.1) hn l a d N hN8 (.d (.int (N:Int))) σ;have hlen:fs.length=N:=by
     rcases TM fs.length N with h | h
     . rw[wl h,TD] at h1;injection h1
     . exact Si h2 h
   have hne:fs≠[]:=λh=>by replace hN1:=h▸hlen▸hN1;cases hN1
   obtain⟨hs,g,rfl⟩:X2 λhs g=>fs=hs++[g]:=⟨fs.dropLast,fs.getLast hne,(List.dropLast_concat_getLast hne).symm⟩
   have hlen:hs.length+1=N:=by rw[<- hlen,Qg];rfl
   obtain⟨f',⟨hf',hf2,hf4⟩,ef⟩:=x5 (fs:=hs) (h3 g (ED g)) (by rw[<- hlen] at hN8;exact iv (Rp hN8) (by decide)) (bU l (a+2) / 4) (d+15) τ';rw[<- gd] at lp;refine k ?_;refine⟨hs++[g],hs++[f'],v6,v7,⟨by rw[Qg];exact RY _,by rw[Qg];exact hlen▸hN8,Ep h3 hf' hf2 hf4,?_⟩,bf (jd rfl ⟨Rq (by decide) (QT N),Rc.mpr (iv hN8 (by decide))⟩) lp,ef⟩;have:hX (hs++[f'])=hX (hs++[g]):=by unfold hX;rw[Qv,Qv,Sa,Sa];exact congrArg (λx=>hs.map (·.nm)++[x]) (congrArg Prod.fst hf2)
   rw[this,h4];exact(S5 _ _).nodup hnd
 have w:=hw.2;by_cases h:bU l (a+2) / 64 % 8=1
 . obtain⟨N,hN,hN1,hN8⟩:∃ N:Nat,A3 (1+(bU l (a+2)+2) % 4+4=(N:Int)) (1<=N) (N<=8):=⟨_,(R5 (Su (Su (by decide) bm.1) (by decide))).symm,(Pu bm.1 bm.2).1,(Pu bm.1 bm.2).2⟩
   obtain⟨fs,fs',v6,v7,ok,e1,e2⟩:=main N hN1 hN8;rw[<- hN] at e1;exact⟨ws,fs',⟨w,ok⟩,(R 16384 (hv (d+13) σ) c3 ck (h3 (d+15) σ) c4 c4 (dT h) e1 c4 e2 (same σ))⟩
 . obtain⟨N,hN,hN1,hN8⟩:∃ N:Nat,A3 (1+(bU l (a+2)+2) % 4=(N:Int)) (1<=N) (N<=8):=⟨_,(R5 (Su (by decide) bm.1)).symm,(Pv bm.1 bm.2).1,(Pv bm.1 bm.2).2⟩
   obtain⟨fs,fs',v6,v7,ok,e1,e2⟩:=main N hN1 hN8;rw[<- hN] at e1;exact⟨ws,fs',⟨w,ok⟩,(R 16384 (hv (d+13) σ) c3 ck (h3 (d+15) σ) c4 c4 (dF h) e1 c4 e2 (same σ))⟩
noncomputable def lst:RL->List Rw
 | .nil=>[]
 | .cons r b=>r::lst b
theorem fe:∀ b:RL,am b=(lst b).map bp
 | .nil=>rfl
 | .cons r b=>congrArg (bp r::·) (fe b)
theorem fG:∀ l:List Rw,lst (bu l)=l
 | []=>rfl
 | r::l=>congrArg (r::·) (fG l)
theorem lv:∀ b:RL,bu (lst b)=b
 | .nil=>rfl
 | .cons r b=>congrArg (RL.cons r) (lv b)
variable {b:RL}{r:Rw}
theorem qr{Q:Rw->Prop}(h1:Q r)(h2:∀ x∈lst b,Q x):∀ x∈lst (.cons r b),Q x:=λx hx=>(Qq.mp hx).elim (λe=>e▸h1) (h2 x)
theorem cg:∀ {b:RL},fC ws cs b->∀ r∈lst b,ls ws cs r
 | .nil=>@λ_ r hr=>by cases hr
 | .cons r b=>@λh x hx=>qr h.1 (cg h.2) x hx
theorem ca:∀ {b:RL},∀ r∈lst b,hR r<=hL b
 | .nil=>@λr hr=>by cases hr
 | .cons r b=>@λx hx=>qr (SD ..) (λx hx=>iv (ca x hx) (Sr ..)) x hx
theorem EA:∀ {b:RL},∀ r∈lst b,nR r<=nL b
 | .nil=>@λr hr=>by cases hr
 | .cons r b=>@λx hx=>qr (Qz ..) (λx hx=>iv (EA x hx) (QK ..)) x hx
noncomputable def cG:Rw->RL
 | .whn _ b=>b
 | .aga _ b=>b
 | _=>.nil
theorem g9(h:ls ws cs r):fC ws cs (cG r):=by
 cases r with
 | whn t b=>exact h.2
 | aga n b=>exact h
 | _=>trivial
theorem Bv(r:Rw):nL (cG r)+1=nR r:=by cases r <;> rfl
theorem zS(h:r∈lst b)(hn:nL b<=n):nL (cG r)<=n:=iv (Rp (iv (Q4 (Bv r)) (EA r h))) hn
variable {h:Nat}
theorem ou(hh:hR r<=h+1):hL (cG r)<=h:=by
 cases r with
 | whn t b=>exact Sw hh
 | aga n b=>exact Sw hh
 | _=>exact QI _
theorem mv(h:hR r<=0):cG r=.nil:=by
 cases r with
 | whn t b=>cases h
 | aga n b=>cases h
 | _=>rfl
noncomputable def iP:Rw->List Tm
 | .set _ t=>[t]
 | .tell t=>[t]
 | .call _ _ ts=>ts
 | .whn t _=>[t]
 | .aga _ _=>[]
noncomputable def own(r:Rw):List Str:=(iP r).flatMap cC
noncomputable def vQ:Rw->Option Str
 | .set x _=>some x
 | .call o _ _=>o
 | _=>none
theorem jE(h:ls ws cs r):(∀ t∈iP r,sh ws t)/\(iP r).length<=7:=by
 have one:∀ t,sh ws t->(∀ u∈[t],sh ws u)/\[t].length<=7:=λt h=>⟨λu hu=>Qt.mp hu▸h,QK 1 6⟩;cases r with
 | set x t=>exact one t h.2
 | tell t=>exact one t h
 | call o f ts=>exact⟨h.2.1,h.2.2.1⟩
 | whn t b=>exact one t h.1
 | aga n b=>exact⟨(λu hu=>by cases hu),QI _⟩
variable {x:Str}
theorem lr(h:ls ws cs r)(hx:x∈own r):x∈ws:=by obtain⟨t,ht,q⟩:=TF.mp hx;exact((jE h).1 t ht).1 x q
theorem Kj(h:ls ws cs r)(hx:vQ r=some x):x∈ws:=by
 cases r with
 | set y t=>(injection hx with e0_;subst e0_);exact h.1
 | call o f ts=>exact h.1 x hx
 | _=>injection hx
theorem rH(r:Rw)(d:Nat)(σ:ac):af prog (d+1) 40 [.d (bp r)] σ=.ok (.d (.tuple (am (cG r)))) σ:=co (fn:=oi) rfl rfl (by cases r <;> rfl)
theorem oo(r:Rw)(d:Nat)(σ:ac):af prog (d+1) 39 [.d (bp r)] σ=.ok (.d (Ek (vQ r))) σ:=co (fn:=ml) rfl rfl (by cases r <;> rfl)
theorem ji(r:Rw)(d:Nat)(σ:ac):af prog (d+1) 4 [.d (bp r)] σ=.ok (.d (Ek (vQ r))) σ:=co (fn:=tN) rfl rfl (by cases r <;> rfl)
theorem rq(r:Rw)(d:Nat)(σ:ac):af prog (d+1) 2 [.d (bp r)] σ=.ok (.d (.list ((iP r).map dl))) σ:=co (fn:=oh) rfl rfl (by cases r <;> rfl)
noncomputable def uR:Rw->Bool
 | .whn _ _=>true
 | .aga _ _=>true
 | _=>false
theorem ld(r:Rw)(d:Nat)(σ:ac):af prog (d+1) 5 [.d (bp r)] σ=.ok (.d (.bool (uR r))) σ:=co (fn:=qV) rfl rfl (by cases r <;> rfl)
theorem on(r:Rw)(d:Nat)(σ:ac):af prog (d+2) 6 [.d (bp r)] σ=.ok (.d (.tuple (am (cG r)))) σ:=by have e:=ld r d σ;have R:=a9 prog 6 (d+1) [.d (bp r)] σ rfl;cases r <;> exact(R 0 e (same σ))
theorem Ei(d:Nat)(v0 v1:V)(σ:ac):∀ (ts:List Tm) (acc:List Str) (v3:V),(∀ t∈ts,sh ws t)->acc.length+ts.length * 4<=1000->∃ v3',aY (aG prog.G (af prog (d+3)) (.var 3) jR) (ts.map dl) [v0,v1,.d (.list (acc.map .str)),v3] σ=.ok (.next [v0,v1,.d (.list ((acc++ts.flatMap cC).map .str)),v3']) σ:=by
 intro xs_
 induction xs_ with
 | nil=>intro acc v3 _ _;exact⟨v3,by rw[List.flatMap_nil,QG];rfl⟩
 | cons t ts ih_=>
   intro acc v3 h hl;have ht:=h t (Qh ..);have hl:(acc++cC t).length+ts.length * 4<=1000:=by rw[QF,Ts,QW _ 4,<- QQ] at hl;rw[Qg];exact iv (Qu (QR (oZ ht) _) _) hl
   refine(ih_ (acc++cC t) (.d (dl t)) (λu hu=>h u (Qj _ hu)) hl).elim λv3' ih=>?_;have ad:=jv (a:=acc.map .str) (b:=(cC t).map .str) (by rw[PN,PN,<- Qg];exact iv (RS hl) (by decide)) σ;rw[<- Qv] at ad;refine⟨v3',aQ (bc ((dn prog.G (af prog (d+3)) jR [v0,v1,.d (.list (acc.map .str)),.d (dl t)] σ 1 (Bt ht d σ) ad))) ?_⟩;rw[Tb,<- Qr];exact ih
theorem x4{ws:List Str}(h:ls ws cs r)(d:Nat)(σ:ac):af prog (d+4) 38 [.d (bp r)] σ=.ok (.d (.list ((own r).map .str))) σ:=by
 refine(jE h).elim λt1 t2=>?_;obtain⟨v',lp⟩:=Ei (ws:=ws) d (.d (bp r)) (.d (.list ((iP r).map dl))) σ (iP r) [] .un t1 (by rw[RO,Q5];exact iv (SI 4 t2) (by decide));have lp:=bf (it:=.seq (.var 1)) (aZ rfl rfl) lp;have R:=a9 prog 38 (d+3) [.d (bp r)] σ rfl;cases r with
 | aga n b=>exact co (fn:=tO) rfl rfl rfl
 | set _ _=>exact(R 0 lp (same σ))
 | tell _=>exact(R 0 lp (same σ))
 | call _ _ _=>exact(R 0 lp (same σ))
 | whn _ _=>exact(R 0 lp (same σ))
noncomputable def dk(L:List Str):List (Str×PyData):=L.map λk=>(k,.bool true)
theorem LZ(L:List Str)(k:Str):(dk L).any (λx=>decide (x.1=k))=decide (k∈L):=by
 induction L with
 | nil=>rfl
 | cons y L ih=>
   show (decide (y=k)||(dk L).any (λx=>decide (x.1=k)))=_;rw[ih];by_cases h:y=k
   . rw[h,decide_eq_true rfl,decide_eq_true (Qh ..)];rfl
   . rw[decide_eq_false h,SF];exact decide_eq_decide.mpr ⟨λq=>Qj _ q,λq=>(Qq.mp q).resolve_left (Ne.symm h)⟩
theorem Ay(L:List Str)(k:Str):ek k (.bool true) (dk L)=dk (gw L k):=by
 unfold ek gw;rw[LZ];by_cases h:k∈L
 . rw[if_pos (decide_eq_true h),if_pos h];unfold dk;rw[Rj];refine Sk λy _=>?_;refine(?_:(if y=k then (y,PyData.bool true) else (y,PyData.bool true))=_);exact ite_self _
 . rw[if_neg λq=>h (of_decide_eq_true q),if_neg h];unfold dk;rw[Qv];rfl
theorem zD(L:List Str):(dk L).length=L.length:=PN _
theorem gI(h:σ[n]?=some (.dct (dk L))):yn .list false [.loc n] σ=.ok (.d (.list (L.map .str))) σ:=by
 have e:aE σ (.loc n)=none:=by show σ[n]?.bind EI=_;rw[h];rfl
 refine(?_:oc (aE σ (.loc n)) (λl=>aM false l σ) (oc (fu σ (.loc n)) (λkvs=>aM false (kvs.map λx=>.str x.1) σ) .bad)=_);rw[e,eH h];show aM false ((dk L).map λx=>.str x.1) σ=_;unfold dk;rw[Rj];rfl
theorem g0(σ:ac)(a:Cell)(g:List Cell):(σ++a::g)[σ.length]?=some a:=by rw[QH (QP _),TQ];rfl
theorem st0(σ:ac)(a a':Cell)(g:List Cell):(σ++a::g).set σ.length a'=σ++a'::g:=by rw[TU _ _ (QP _),TQ];rfl
variable {e:E}{g:List Cell}{F:List Str}
theorem yD{o i:E}{k:Str}(h1:ag prog.G cf e ρ (σ++.dct (dk F)::g)=.ok (.d (.bool true)) (σ++.dct (dk F)::g))(h2:ag prog.G cf o ρ (σ++.dct (dk F)::g)=.ok (.loc σ.length) (σ++.dct (dk F)::g))(h3:ag prog.G cf i ρ (σ++.dct (dk F)::g)=.ok (.d (.str k)) (σ++.dct (dk F)::g))(hl:F.length<=7):exec prog.G cf (.put o i e) ρ (σ++.dct (dk F)::g)=.ok (.next ρ) (σ++.dct (dk (gw F k))::g):=by refine(Ji h1 h2 h3 (g0 _ _ _) (by rw[zD];exact QN hl (by decide))).trans ?_;rw[st0,Ay]
theorem D8(w7:ws.length<=7)(cf:Nat->List V->ac->Res V)(v0 v2:V)(σ:ac):∀ (ns F:List Str) (P:Str->Prop) (v3:V),(∀ x∈ns,x∈ws)->(∀ x,P x->x∈ws)->St F P->X2 λF' v3'=>St F' (λx=>P x\/x∈ns)/\aY (aG prog.G cf (.var 3) kW) (ns.map .str) [v0,.loc σ.length,v2,v3] (σ++[.dct (dk F)])=.ok (.next [v0,.loc σ.length,v2,v3']) (σ++[.dct (dk F')]):=by
 intro xs_
 induction xs_ with
 | nil=>intro F P v3 _ _ h;exact⟨F,v3,h.of λx=>⟨.inl,λq=>q.elim id λq=>by cases q⟩,rfl⟩
 | cons y ns ih_=>intro F P v3 hn hp h;obtain⟨F',v3',h',e⟩:=ih_ (gw F y) _ (.d (.str y)) (λx hx=>hn x (Qj _ hx)) (λx q=>q.elim (hp x) λe=>e▸hn y (Qh ..)) (h.add y);exact⟨F',v3',h'.of λx=>by rw[or_assoc,Qq],aQ (bc (a7 (yD rfl rfl rfl (h.few w7 hp)) rfl)) e⟩
theorem yU(w7:ws.length<=7)(d:Nat)(v0:V)(σ:ac):∀ (ts:List Tm) (F:List Str) (P:Str->Prop) (v2 v3:V),(∀ t∈ts,sh ws t)->(∀ x,P x->x∈ws)->St F P->X3 λF' v2' v3'=>St F' (λx=>P x\/x∈ts.flatMap cC)/\aY (aG prog.G (af prog (d+4)) (.var 2) kU) (ts.map dl) [v0,.loc σ.length,v2,v3] (σ++[.dct (dk F)])=.ok (.next [v0,.loc σ.length,v2',v3']) (σ++[.dct (dk F')]):=by
 intro xs_
 induction xs_ with
 | nil=>intro F P v2 v3 _ _ h;exact⟨F,v2,v3,h.of λx=>⟨.inl,λq=>q.elim id λq=>by cases q⟩,rfl⟩
 | cons t ts ih_=>intro F P v2 v3 hn hp h;have ht:=hn t (Qh ..);refine kk λK k=>?_;obtain⟨L,hL,e⟩:=g8 ht d (σ++[.dct (dk F)]);obtain⟨Mn,Ds,a5,lp⟩:=D8 w7 (af prog (d+4)) v0 (.d (dl t)) σ L F P v3 (λx hx=>ht.1 x ((hL.mem x).mp hx)) hp h;obtain⟨F',v2',v3',h',ih⟩:=ih_ Mn _ (.d (dl t)) Ds (λu hu=>hn u (Qj _ hu)) (λx q=>q.elim (hp x) λq=>ht.1 x ((hL.mem x).mp q)) a5;refine k ?_;exact⟨F',v2',v3',h'.of λx=>by rw[or_assoc,Tb,Qx,hL.mem x],aQ (bc (a7 (bf (aZ (aD rfl e) rfl) lp) rfl)) ih⟩
theorem rt(w7:ws.length<=7)(h:ls ws cs r)(d:Nat)(σ:ac):∃ L:List Str,St L (·∈own r)/\af prog (d+5) 3 [.d (bp r)] σ=.ok (.d (.list (L.map .str))) σ:=by obtain⟨F,v2',v3',hF,lp⟩:=yU w7 d (.d (bp r)) σ (iP r) [] _ .un .un (jE h).1 (λ_ q=>q.elim) St.nil;exact⟨F,hF.of λx=>⟨λq=>q.resolve_left id,.inr⟩,(a9 prog 3 (d+4) [.d (bp r)] σ rfl 1 (bf (aZ (aD rfl (rq r (d+3) _)) rfl) lp) (gI (aB _ _)) (ez _ _))⟩
mutual
noncomputable def mI(x:Str):Rw->Bool
 | .set y _=>decide (y=x)
 | .call o _ _=>decide (o=some x)
 | .aga n b=>decide (n > 0)&&bz x b
 | .tell _=>false
 | .whn _ _=>false
noncomputable def bz(x:Str):RL->Bool
 | .nil=>false
 | .cons r b=>mI x r||bz x b
end
mutual
noncomputable def qN(x:Str):Rw->Bool
 | .set y t=>decide (x∈own (.set y t))
 | .tell t=>decide (x∈own (.tell t))
 | .call o f ts=>decide (x∈own (.call o f ts))
 | .whn t b=>decide (x∈own (.whn t b))||aN x b
 | .aga n b=>decide (n > 0)&&aN x b
noncomputable def aN(x:Str):RL->Bool
 | .nil=>false
 | .cons r b=>qN x r||(!mI x r&&aN x b)
end
theorem Iw(x:Str)(t:Tm)(b:RL):qN x (.whn t b)=(decide (x∈own (.whn t b))||aN x b):=rfl
theorem Be(x:Str)(n:Int)(b:RL):qN x (.aga n b)=(decide (n > 0)&&aN x b):=rfl
mutual
theorem ul(x:Str):∀ r:Rw,ls ws cs r->mI x r=true->x∈ws
 | .set y _,h,q=>of_decide_eq_true q▸h.1
 | .call o _ _,h,q=>h.1 x (of_decide_eq_true q)
 | .aga _ b,h,q=>um x b h (Qn.mp q).2
theorem um(x:Str):∀ b:RL,fC ws cs b->bz x b=true->x∈ws
 | .cons r b,h,q=>(QS.mp q).elim (ul x r h.1) (um x b h.2)
end
mutual
theorem Fz(x:Str):∀ r:Rw,ls ws cs r->qN x r=true->x∈ws
 | .set _ _=>@λh q=>lr h (of_decide_eq_true q)
 | .tell _=>@λh q=>lr h (of_decide_eq_true q)
 | .call _ _ _=>@λh q=>lr h (of_decide_eq_true q)
 | .whn t b=>@λh q=>(QS.mp q).elim (λq=>lr h (of_decide_eq_true q)) (bQ x b h.2)
 | .aga _ b=>@λh q=>bQ x b h (Qn.mp q).2
theorem bQ(x:Str):∀ b:RL,fC ws cs b->aN x b=true->x∈ws
 | .cons r b,h,q=>(QS.mp q).elim (Fz x r h.1) λq=>bQ x b h.2 (Qn.mp q).2
end
noncomputable def iu(a b:Bool):PyData:=.tuple [.bool a,.bool b]
theorem KS(o:Option Str)(x:Str)(σ:ac):bq .eq (.d (Ek o)) (.d (.str x)) σ=some (decide (o=some x)):=by
 cases o with
 | none=>rw[decide_eq_false (λh=>by injection h)];rfl
 | some y=>show bq .eq (.d (.str y)) (.d (.str x)) σ=_;rw[Gh];exact congrArg some (decide_eq_decide.mpr Option.some_inj.symm)
noncomputable def js(s:Bool)(a b:Res Out):Res Out:=match s with
 | true=>a
 | false=>b
theorem BS(hr:ls ws cs r)(x:Str)(d:Nat)(v0:V)(σ:ac)(H:af prog (d+4) 42 [.d (.tuple (am (cG r))),.d (.str x)] σ=.ok (.d (iu (aN x (cG r)) (!bz x (cG r)))) σ)(rd:Bool)(v3 v4:V) :
   ∃ v4',aG prog.G (af prog (d+4)) (.var 3) fS (bp r) (F5 v0 (.d (.str x)) (.d (.bool rd)) v3 v4) σ=js (mI x r) (.ok (.ret (.d (iu (rd||qN x r) false))) σ) (.ok (.next (F5 v0 (.d (.str x)) (.d (.bool (rd||qN x r))) (.d (bp r)) v4')) σ):=by
 have s1:=G1 (G:=prog.G) (cf:=af prog (d+4)) (e:=.var 2) (e':=.cmp .isIn (.var 1) (.call 38 (.cons (.var 3) .nil))) (es:=.nil) (ρ:=(F5 v0 (.d (.str x)) (.d (.bool rd)) (.d (bp r)) v4)) (σ:=σ) rfl λ_=>dO (bJ rfl (aD rfl (x4 hr d σ)) (o3 _ _ _));have R:=dn prog.G (af prog (d+4)) fS (F5 v0 (.d (.str x)) (.d (.bool rd)) (.d (bp r)) v4) σ;have tg:=oo r (d+3) σ;have te:=KS (vQ r) x σ;have s2:=λb (v:V)=>G1 (G:=prog.G) (cf:=af prog (d+4)) (e:=.var 2) (e':=.idx (.var 4) (.int 0)) (es:=.nil) (ρ:=(F5 v0 (.d (.str x)) (.d (.bool (rd||decide (x∈own r)))) (.d (bp r)) (.d (iu b (!bz x (cG r)))))) (σ:=σ) rfl λ_=>dO rfl;cases r with
 | set y t=>
   show ∃ _,_=js (decide (y=x)) _ _;by_cases h:y=x
   . rw[decide_eq_true h];exact⟨v4,bc ((R 3073 s1 tg te (dT (congrArg some h))))⟩
   . rw[decide_eq_false h];exact⟨v4,bc ((R 3073 s1 tg te (dF λq=>h (Option.some.inj q))))⟩
 | tell t=>exact⟨v4,bc ((R 1 s1 tg))⟩
 | call o f ts=>
   show ∃ _,_=js (decide (o=some x)) _ _;by_cases h:o=some x
   . rw[decide_eq_true h];exact⟨v4,bc ((R 3073 s1 tg te (dT h)))⟩
   . rw[decide_eq_false h];exact⟨v4,bc ((R 3073 s1 tg te (dF h)))⟩
 | whn t b=>have e:(rd||qN x (.whn t b))=((rd||decide (x∈own (.whn t b)))||aN x b):=(Ub ..).symm;exact e▸⟨_,bc ((R 129 s1 H (s2 _ .un) tg))⟩
 | aga n b=>
   have e:(rd||decide (x∈own (.aga n b)))=rd:=RW rd;refine(?_:∃ _,_=js (decide (n > 0)&&bz x b) (.ok (.ret (.d (iu (rd||(decide (n > 0)&&aN x b)) false))) σ) (.ok (.next (F5 v0 (.d (.str x)) (.d (.bool (rd||(decide (n > 0)&&aN x b)))) _ _)) σ));rw[e] at s1 s2;by_cases h:n > 0
   . rw[decide_eq_true h,RI,RI];cases h2:bz x b with
     | true=>exact⟨v4,bc ((R 534529 s1 (dT h) H (s2 _ .un) (nT (congrArg (!·) h2))))⟩
     | false=>exact⟨_,bc ((R 534529 s1 (dT h) H (s2 _ .un) (nF (congrArg (!·) h2)) tg))⟩
   . rw[decide_eq_false h,Se,Se,RW];exact⟨v4,bc ((R 2049 s1 (dF h) tg))⟩
theorem sY(x:Str)(d:Nat)(v0:V)(σ:ac):∀ (b:RL),fC ws cs b->(∀ r∈lst b,af prog (d+4) 42 [.d (.tuple (am (cG r))),.d (.str x)] σ=.ok (.d (iu (aN x (cG r)) (!bz x (cG r)))) σ)->∀ (rd:Bool) (v3 v4:V),
   X2 λv3' v4'=>aY (aG prog.G (af prog (d+4)) (.var 3) fS) (am b) (F5 v0 (.d (.str x)) (.d (.bool rd)) v3 v4) σ=js (bz x b) (.ok (.ret (.d (iu (rd||aN x b) false))) σ) (.ok (.next (F5 v0 (.d (.str x)) (.d (.bool (rd||aN x b))) v3' v4')) σ)
 | .nil=>@λ_ _ rd v3 v4=>⟨v3,v4,by rw[show aN x .nil=false from rfl,RW];rfl⟩
 | .cons r b=>@λh H rd v3 v4=>by
   obtain⟨wc,e⟩:=BS h.1 x d v0 σ (H r (Qh ..)) rd v3 v4;obtain⟨v3',v4',ih⟩:=sY x d v0 σ b h.2 (λq hq=>H q (Qj _ hq)) (rd||qN x r) (.d (bp r)) wc;refine⟨v3',v4',?_⟩;refine(show bz x (.cons r b)=(mI x r||bz x b) from rfl)▸(show aN x (.cons r b)=(qN x r||(!mI x r&&aN x b)) from rfl)▸?_;cases hs:mI x r with
   | true=>rw[hs] at e;rw[SE,Se,RW];exact qv e
   | false=>rw[hs] at e;rw[Bool.not_false,RI,<- Ub];exact aQ e ih
theorem iJ(x:Str):∀ (h:Nat) (b:RL) (d:Nat) (σ:ac),fC ws cs b->hL b<=h->af prog (d+h+5) 42 [.d (.tuple (am b)),.d (.str x)] σ=.ok (.d (iu (aN x b) (!bz x b))) σ:=by
 have fin:∀ (b:RL) (d:Nat) (σ:ac),fC ws cs b->(∀ r∈lst b,af prog (d+4) 42 [.d (.tuple (am (cG r))),.d (.str x)] σ=.ok (.d (iu (aN x (cG r)) (!bz x (cG r)))) σ)->af prog (d+5) 42 [.d (.tuple (am b)),.d (.str x)] σ=.ok (.d (iu (aN x b) (!bz x b))) σ:=λb d σ ok H=>by
   obtain⟨v3',v4',e⟩:=sY x d (.d (.tuple (am b))) σ b ok H false .un .un;have R:=a9 prog 42 (d+4) [.d (.tuple (am b)),.d (.str x)] σ rfl;cases h2:bz x b with
   | true=>rw[h2] at e;exact(R 0 (bf (aZ rfl rfl) e) (same σ))
   | false=>rw[h2] at e;exact(R 0 (bf (aZ rfl rfl) e) (same σ))
 intro h
 induction h with
 | zero=>exact λb d σ ok hh=>fin b d σ ok λr hr=>by rw[mv (iv (ca r hr) hh)];exact(λd σ=>co (fn:=qR) (d:=d+3) rfl rfl rfl) d σ
 | succ h ih=>exact λb d σ ok hh=>fin b (d+h+1) σ ok λr hr=>ih (cG r) d σ (g9 (cg ok r hr)) (ou (iv (ca r hr) hh))
theorem Al:∀ (M:List Str) {F:List Str} {P:Str->Prop},St F P->St (M.foldl gw F) λx=>P x\/x∈M:=by
 intro xs_
 induction xs_ with
 | nil=>intro F P h;exact h.of λx=>⟨.inl,λq=>q.elim id λq=>by cases q⟩
 | cons y M ih_=>intro F P h;exact(ih_ (h.add y)).of λx=>by rw[or_assoc,Qq]
theorem B0:∀ (M L:List Str),dX (dk L) (dk M)=dk (M.foldl gw L):=by
 intro xs_
 induction xs_ with
 | nil=>intro L;exact rfl
 | cons x M ih_=>intro L;have e:dX (dk L) (dk (x::M))=dX (ek x (.bool true) (dk L)) (dk M):=rfl;rw[e,Ay,ih_,TK]
theorem Jd{S:List Str}(hn:τ[n]?=some (.dct (dk F)))(h1:F.length<=7)(h2:S.length<=7):AK .update (.loc n) τ [.loc τ.length] (τ++[.dct (dk S)])=.ok (.d .none) ((τ.set n (.dct (dk (S.foldl gw F))))++[.dct (dk S)]):=by
 have hlt:=(Qi.mp hn).1;have e:sk .update τ (.loc n)=true:=by show (fu τ (.loc n)).isSome=true;rw[eH hn];rfl
 unfold AK;rw[e];show GM .update (.loc n) [.loc τ.length] (τ++[.dct (dk S)])=_;rw[BE (x:=dk F) (y:=dk S) (by rw[QJ hlt];exact hn) (aB _ _) (Rd hlt) (by rw[zD,zD];exact iv (Ra h1 h2) (by decide)),B0,List.set_append_left _ _ hlt]
theorem O2(σ g:ac)(a c:Cell):(σ++a::g)++[c]=σ++a::(g++[c]):=Qr ..
def gv(b:RL)(d:Nat):Prop:=∀ σ,∃ S,St S (λx=>bz x b=true)/\af prog d 8 [.d (.tuple (am b))] σ=.ok (.loc σ.length) (σ++[.dct (dk S)])
theorem BL(w7:ws.length<=7)(d:Nat)(v0:V)(σ:ac){F:List Str}(h:St F P)(hp:∀ x,P x->x∈ws)(g:List Cell)(r:Rw)(ok:ls ws cs r)(H:gv (cG r) (d+1))(v2:V) :
   X2 λF' g'=>St F' (λx=>P x\/mI x r=true)/\aG prog.G (af prog (d+1)) (.var 2) eV (bp r) [v0,.loc σ.length,v2] (σ++.dct (dk F)::g)=.ok (.next [v0,.loc σ.length,.d (bp r)]) (σ++.dct (dk F')::g'):=by
 have e:=ji r d (σ++.dct (dk F)::g);have R:=dn prog.G (af prog (d+1)) eV [v0,.loc σ.length,.d (bp r)] (σ++.dct (dk F)::g);have no:St F λx=>P x\/false=true:=h.of λx=>⟨.inl,λq=>q.elim id λq=>by injection q⟩;have some1:∀ y,St (gw F y) λx=>P x\/decide (y=x)=true:=λy=>(h.add y).of λx=>or_congr Iff.rfl ⟨λq=>decide_eq_true q.symm,λq=>(of_decide_eq_true q).symm⟩;have pt:=λy (h:vQ r=some y)=>yD (cf:=af prog (d+1)) (ρ:=[v0,.loc σ.length,.d (bp r)]) (σ:=σ) (g:=g) (o:=.var 1) (i:=.call 4 (.cons (.var 2) .nil)) (e:=.bool true) (F:=F) (k:=y) rfl rfl (aD rfl (by rw[h] at e;exact e)) (St.few ‹_› w7 hp);cases r with
 | set y t=>exact⟨_,g,some1 y,bc ((R 0 e (pt y rfl)))⟩
 | tell t=>exact⟨F,g,no,bc ((R 0 e))⟩
 | whn t b=>exact⟨F,g,no,bc ((R 0 e))⟩
 | call o f ts=>
   cases o with
   | none=>exact⟨F,g,no,bc ((R 0 e))⟩
   | some y=>exact⟨_,g,(some1 y).of λx=>or_congr Iff.rfl (by show _↔decide (some y=some x)=true;rw[decide_eq_true_iff,decide_eq_true_iff,Option.some_inj]),bc ((R 0 e (pt y rfl)))⟩
 | aga n b=>
   refine(?_:X2 λF' g'=>St F' (λx=>P x\/(decide (n > 0)&&bz x b)=true)/\_);by_cases q:n > 0
   . obtain⟨S,hS,eS⟩:=H (σ++.dct (dk F)::g);have u:=Jd (g0 σ (.dct (dk F)) g) (h.few w7 hp) (hS.few w7 λx=>um x b ok);rw[st0,O2 σ g (.dct (dk (S.foldl gw F)))] at u;refine⟨S.foldl gw F,g++[.dct (dk S)],(Al S h).of λx=>?_,bc ((R 256 e (dT q) eS u))⟩;rw[decide_eq_true q,RI,hS.mem x];rfl
   . rw[decide_eq_false q];exact⟨F,g,no,bc ((R 256 e (dF q)))⟩
theorem sS(w7:ws.length<=7)(d:Nat)(v0:V)(σ:ac):∀ (b:RL) {F:List Str} {P:Str->Prop} (g:List Cell) (v2:V),St F P->(∀ x,P x->x∈ws)->fC ws cs b->(∀ r∈lst b,gv (cG r) (d+1))->
   X3 λF' g' v2'=>St F' (λx=>P x\/bz x b=true)/\aY (aG prog.G (af prog (d+1)) (.var 2) eV) (am b) [v0,.loc σ.length,v2] (σ++.dct (dk F)::g)=.ok (.next [v0,.loc σ.length,v2']) (σ++.dct (dk F')::g')
 | .nil,F,P,g,v2,h,_,_,_=>⟨F,g,v2,h.of λx=>⟨.inl,λq=>q.elim id λq=>by injection q⟩,rfl⟩
 | .cons r b,F,P,g,v2,h,hp,ok,H=>by refine kk λK k=>?_;obtain⟨Mn,Ff,a5,e⟩:=BL w7 d v0 σ h hp g r ok.1 (H r (Qh ..)) v2;obtain⟨F',g',v2',h',ih⟩:=sS w7 d v0 σ b Ff (.d (bp r)) a5 (λx q=>q.elim (hp x) (ul x r ok.1)) ok.2 λq hq=>H q (Qj _ hq);refine k ?_;exact⟨F',g',v2',h'.of λx=>by rw[or_assoc,<- QS];rfl,aQ e ih⟩
theorem x3(w7:ws.length<=7):∀ (h:Nat) (b:RL) (d:Nat),fC ws cs b->hL b<=h->gv b (d+h+2):=by
 have fin:∀ (b:RL) (d:Nat),fC ws cs b->(∀ r∈lst b,gv (cG r) (d+1))->gv b (d+2):=λb d ok H σ=>by obtain⟨F,g',v2',h,e⟩:=sS w7 d (.d (.tuple (am b))) σ b [] .un St.nil (λ_ q=>q.elim) ok H;exact⟨F,h.of λx=>⟨λq=>q.resolve_left id,.inr⟩,Gg (fn:=jW) (d:=d+1) (g:=[]) (g':=g') rfl rfl (a7 (cU rfl) (a7 (bf (aZ rfl rfl) e) (io (DT rfl)))) rfl (.inr ⟨_,rfl⟩)⟩
 intro h
 induction h with
 | zero=>exact λb d ok hh=>fin b d ok λr hr=>by rw[mv (iv (ca r hr) hh)];exact(λd σ=>⟨[],St.nil.of λx=>⟨False.elim,λq=>by injection q⟩,Gg (fn:=jW) (d:=d) (g:=[]) (g':=[]) rfl rfl rfl rfl (.inr ⟨_,rfl⟩)⟩:∀ d,gv .nil (d+1)) d
 | succ h ih=>exact λb d ok hh=>fin b (d+h+1) ok λr hr=>ih (cG r) d (g9 (cg ok r hr)) (ou (iv (ca r hr) hh))
theorem IK(L:List Str)(x:Str):((dk L).lookup x).isSome=decide (x∈L):=by
 induction L with
 | nil=>rfl
 | cons y L ih=>
   show (List.lookup x ((y,PyData.bool true)::dk L)).isSome=_;rw[QD];by_cases h:x=y
   . rw[h,beq_self_eq_true,decide_eq_true (Qh ..)];rfl
   . rw[beq_false_of_ne h];exact ih.trans (decide_eq_decide.mpr ⟨λq=>Qj _ q,λq=>(Qq.mp q).resolve_left h⟩)
theorem H1(h:σ[n]?=some (.dct (dk L)))(x:Str):bq .isIn (.d (.str x)) (.loc n) σ=some (decide (x∈L)):=by
 have e:aE σ (.loc n)=none:=by show σ[n]?.bind EI=_;rw[h];rfl
 refine(?_:oc (aE σ (.loc n)) (λl=>xg (.str x) l) (oc (fu σ (.loc n)) (λkvs=>some (kvs.lookup x).isSome) none)=_);rw[e,eH h];exact congrArg some (IK L x)
theorem lY(h:σ[n]?=some (.dct (dk L)))(x:Str):bq .notIn (.d (.str x)) (.loc n) σ=some (!decide (x∈L)):=by show (bq .isIn (.d (.str x)) (.loc n) σ).map _=_;rw[H1 h];rfl
theorem g1(σ:ac)(a b:Cell)(g:List Cell):(σ++a::b::g)[σ.length+1]?=some b:=by rw[QH (Qz _ 1),Sp];rfl
theorem PQ(σ:ac)(a b b':Cell)(g:List Cell):(σ++a::b::g).set (σ.length+1) b'=σ++a::b'::g:=by rw[TU _ _ (Qz _ 1),Sp];rfl
theorem IA(w7:ws.length<=7)(cf:Nat->List V->ac->Res V)(v0 v3 v4:V)(σ:ac)(K:List Str)(g:List Cell)(hm:m=σ.length+1):∀ (ns:List Str) {F:List Str} {P:Str->Prop} (v5:V),(∀ x∈ns,x∈ws)->(∀ x,P x->x∈ws)->St F P->X2 λF' v5'=>St F' (λx=>P x\/(x∈ns/\x∉K))/\aY (aG prog.G cf (.var 5) fT) (ns.map .str) (F6 v0 (.loc σ.length) (.loc m) v3 v4 v5) (σ++.dct (dk F)::.dct (dk K)::g)=.ok (.next (F6 v0 (.loc σ.length) (.loc m) v3 v4 v5')) (σ++.dct (dk F')::.dct (dk K)::g):=by
 intro xs_
 induction xs_ with
 | nil=>intro F P v5 _ _ h;exact⟨F,v5,h.of λx=>⟨.inl,λq=>q.elim id λq=>by cases q.1⟩,rfl⟩
 | cons y ns ih_=>
   intro F P v5 hn hp h;have hy:=hn y (Qh ..);have hn:=λx hx=>hn x (Qj _ hx);have ck:=lY (L:=K) (n:=m) (σ:=σ++.dct (dk F)::.dct (dk K)::g) (by exact hm▸g1 ..) y;by_cases q:y∈K
   . rw[decide_eq_true q] at ck;obtain⟨F',v5',h',e⟩:=ih_ (.d (.str y)) hn hp h;refine⟨F',v5',h'.of λx=>or_congr Iff.rfl ⟨λz=>⟨Qj _ z.1,z.2⟩,λz=>⟨(Qq.mp z.1).resolve_left λe=>z.2 (e▸q),z.2⟩⟩,aQ (bc ?_) e⟩;exact(dn prog.G cf fT (F6 v0 (.loc σ.length) (.loc m) v3 v4 (.d (.str y))) (σ++.dct (dk F)::.dct (dk K)::g) 1 ck)
   . rw[decide_eq_false q] at ck;obtain⟨F',v5',h',e⟩:=ih_ (.d (.str y)) hn (λx z=>z.elim (hp x) λe=>e▸hy) (h.add y);refine⟨F',v5',h'.of λx=>?_,aQ (bc ?_) e⟩
     . rw[or_assoc,Qq,or_and_right];exact or_congr Iff.rfl (or_congr ⟨λe=>⟨e,e▸q⟩,And.left⟩ Iff.rfl)
     . exact(dn prog.G cf fT (F6 v0 (.loc σ.length) (.loc m) v3 v4 (.d (.str y))) (σ++.dct (dk F)::.dct (dk K)::g) 1 ck (yD rfl rfl rfl (h.few w7 hp)))
def kK(b:RL)(d:Nat):Prop:=∀ σ,∃ S,St S (λx=>aN x b=true)/\af prog d 9 [.d (.tuple (am b))] σ=.ok (.loc σ.length) (σ++[.dct (dk S)])
theorem zi(w7:ws.length<=7)(d:Nat)(v0:V)(σ:ac){Q:Str->Prop}(hF:St F P)(hp:∀ x,P x->x∈ws)(hK:St K Q)(hq:∀ x,Q x->x∈ws)(g:List Cell)(hm:m=σ.length+1)(r:Rw)(ok:ls ws cs r)(HS:gv (.cons r .nil) (d+5))(H:kK (cG r) (d+5))(v3 v4 v5:V) :
   X5 λF' K' g' v4' v5'=>A3 (St F' (λx=>P x\/(qN x r=true/\¬ Q x))) (St K' (λx=>Q x\/mI x r=true)) (aG prog.G (af prog (d+5)) (.var 3) cy (bp r) (F6 v0 (.loc σ.length) (.loc m) v3 v4 v5) (σ++.dct (dk F)::.dct (dk K)::g)=.ok (.next (F6 v0 (.loc σ.length) (.loc m) (.d (bp r)) v4' v5')) (σ++.dct (dk F')::.dct (dk K')::g')):=by
 obtain⟨L,hL,eL⟩:=rt w7 ok d (σ++.dct (dk F)::.dct (dk K)::g)
 -- the names are found: what follows
 have tail:∀ (N:List Str) (g:List Cell),(∀ x∈N,x∈ws)->X4 λF' K' g' v5'=>A3 (St F' (λx=>P x\/(x∈N/\¬ Q x))) (St K' (λx=>Q x\/mI x r=true)) (∀ {q:Res Out},q=.ok (.next (F6 v0 (.loc σ.length) (.loc m) (.d (bp r)) (.d (.list (N.map .str))) v5')) (σ++.dct (dk F')::.dct (dk K')::g')->execs prog.G (af prog (d+5)) (tl (tl cy)) (F6 v0 (.loc σ.length) (.loc m) (.d (bp r)) (.d (.list (N.map .str))) v5) (σ++.dct (dk F)::.dct (dk K)::g)=q):=λN g hN=>by
   obtain⟨F',v5',h',e⟩:=IA w7 (af prog (d+5)) v0 (.d (bp r)) (.d (.list (N.map .str))) σ K g hm N v5 hN hp hF;obtain⟨S,hS,eS⟩:=HS (σ++.dct (dk F')::.dct (dk K)::g);have hS:=hS.of (Q:=λx=>mI x r=true) λx=>by show (mI x r||false)=true↔_;rw[RW]
   have u:=Jd (τ:=σ++.dct (dk F')::.dct (dk K)::g) (n:=m) (by rw[hm];exact g1 ..) (hK.few w7 hq) (hS.few w7 λx=>ul x r ok);have es:(σ++Cell.dct (dk F')::.dct (dk K)::g).set m (.dct (dk (S.foldl gw K)))++[.dct (dk S)]=σ++.dct (dk F')::.dct (dk (S.foldl gw K))::(g++[.dct (dk S)]):=by rw[hm,PQ];exact Qr ..
   rw[es] at u;refine⟨F',S.foldl gw K,g++[.dct (dk S)],v5',h'.of λx=>by rw[hK.mem x],(Al S hK).of λx=>by rw[hS.mem x],λ{q} hq=>?_⟩;rw[hq];exact(dn prog.G (af prog (d+5)) (tl (tl cy)) (F6 v0 (.loc σ.length) (.loc m) (.d (bp r)) (.d (.list (N.map .str))) v5) (σ++.dct (dk F)::.dct (dk K)::g) 0 (bf (aZ rfl rfl) e) eS u)
 have lw:∀ x∈L,x∈ws:=λx hx=>lr ok ((hL.mem x).mp hx)
 -- with the names within,if they count
 have within:X2 λ(N:List Str) (g':List Cell)=>A3 ((∀ x,x∈N↔qN x r=true)) ((∀ x∈N,x∈ws)) (∀ {q:Res Out},execs prog.G (af prog (d+5)) (tl (tl cy)) (F6 v0 (.loc σ.length) (.loc m) (.d (bp r)) (.d (.list (N.map .str))) v5) (σ++.dct (dk F)::.dct (dk K)::g')=q->execs prog.G (af prog (d+5)) (tl cy) (F6 v0 (.loc σ.length) (.loc m) (.d (bp r)) (.d (.list (L.map .str))) v5) (σ++.dct (dk F)::.dct (dk K)::g)=q):=by
   clear tail HS;have plain:(∀ x,qN x r=decide (x∈own r))->∀ x,x∈L↔qN x r=true:=λh x=>by rw[h x,hL.mem x,decide_eq_true_iff]
   have both:∃ M:List Str,A4 ((∀ x,x∈M↔aN x (cG r)=true)) ((fC ws cs (cG r))) (M.length<=7) (∃ τ,A4 (af prog (d+5) 9 [.d (.tuple (am (cG r)))] (σ++.dct (dk F)::.dct (dk K)::g)=.ok (.loc (σ++.dct (dk F)::.dct (dk K)::g).length) τ) (τ=σ++.dct (dk F)::.dct (dk K)::(g++[Cell.dct (dk M)])) (yn .list false [.loc (σ++.dct (dk F)::.dct (dk K)::g).length] τ=.ok (.d (.list (M.map .str))) τ) (cZ .add false (.d (.list (L.map .str))) (.d (.list (M.map .str))) τ=.ok (.d (.list ((L++M).map .str))) τ)):=by refine(H (σ++.dct (dk F)::.dct (dk K)::g)).elim λM q9=>?_;have hM:=q9.1;have eM:=q9.2;have m7:=hM.few w7 λx=>bQ x _ (g9 ok);refine⟨M,hM.mem,g9 ok,m7,_,eM,Qr ..,gI (aB _ _),?_⟩;rw[Qv];exact jv (by rw[PN,PN];exact iv (Ra (hL.few w7 λx=>lr ok) m7) (by decide)) _
   clear H eL;cases r with
   | set y t=>exact⟨L,g,plain λ_=>rfl,lw,λh=>iS rfl h⟩
   | tell t=>exact⟨L,g,plain λ_=>rfl,lw,λh=>iS rfl h⟩
   | call o f ts=>exact⟨L,g,plain λ_=>rfl,lw,λh=>iS rfl h⟩
   | whn t b=>refine kk λK k=>?_;obtain⟨M,hM,okb,m7,τ,e1,rfl,e3,e4⟩:=both;refine k ?_;refine⟨L++M,g++[Cell.dct (dk M)],λx=>?_,λx hx=>(Qx.mp hx).elim (lw x) λq=>bQ x _ okb ((hM x).mp q),λ{q} h=>a7 (As rfl (a7 (cU (gD rfl (Kd (ma (aD rfl e1)) e3) e4)) rfl)) h⟩;rw[Qx,hM x,hL.mem x,Iw,QS,decide_eq_true_iff];rfl
   | aga n b=>
     have nown:∀ x,¬ x∈L:=λx hx=>by cases (hL.mem x).mp hx
     by_cases h:n > 0
     . refine kk λK k=>?_;obtain⟨M,hM,okb,m7,τ,e1,rfl,e3,e4⟩:=both;refine k ?_;refine⟨L++M,g++[Cell.dct (dk M)],λx=>?_,λx hx=>(Qx.mp hx).elim (lw x) λq=>bQ x _ okb ((hM x).mp q),λ{q} z=>a7 (As (Dp rfl (dO (yv rfl (dO (Dq (bJ rfl rfl rfl) (decide_eq_true h)))))) (a7 (cU (gD rfl (Kd (ma (aD rfl e1)) e3) e4)) rfl)) z⟩;rw[Qx,hM x,Be,decide_eq_true h,RI];exact⟨λq=>q.resolve_left (nown x),.inr⟩
     . refine⟨L,g,λx=>?_,lw,λz=>iS (Dp rfl (dO (yv rfl (dO (Dq (bJ rfl rfl rfl) (decide_eq_false h)))))) z⟩;rw[Be,decide_eq_false h,Se];exact⟨λq=>(nown x q).elim,λq=>by injection q⟩
 refine kk λK k=>?_;obtain⟨N,g',hN,hw,e1⟩:=within;obtain⟨F',K',g'',v5',h1,h2,e2⟩:=tail N g' hw;refine k ?_;exact⟨F',K',g'',_,v5',h1.of λx=>by rw[hN x],h2,bc (a7 (cU (aD rfl eL)) (e1 (e2 rfl)))⟩
theorem qP(w7:ws.length<=7)(d:Nat)(v0:V)(σ:ac)(hm:m=σ.length+1):∀ (b:RL) {F K:List Str} {P Q:Str->Prop} (g:List Cell) (v3 v4 v5:V),St F P->(∀ x,P x->x∈ws)->St K Q->(∀ x,Q x->x∈ws)->fC ws cs b->(∀ r∈lst b,gv (.cons r .nil) (d+5))->(∀ r∈lst b,kK (cG r) (d+5))->
   X6 λF' c g' v3' v4' v5'=>St F' (λx=>P x\/(aN x b=true/\¬ Q x))/\aY (aG prog.G (af prog (d+5)) (.var 3) cy) (am b) (F6 v0 (.loc σ.length) (.loc m) v3 v4 v5) (σ++.dct (dk F)::.dct (dk K)::g)=.ok (.next (F6 v0 (.loc σ.length) (.loc m) v3' v4' v5')) (σ++.dct (dk F')::c::g')
 | .nil,F,K,P,Q,g,v3,v4,v5,h,_,_,_,_,_,_=>⟨F,_,g,v3,v4,v5,h.of λx=>⟨.inl,λq=>q.elim id λq=>by cases q.1⟩,rfl⟩
 | .cons r b,F,K,P,Q,g,v3,v4,v5,hF,hp,hK,hq,ok,HS,H=>by refine kk λK k=>?_;obtain⟨Mn,Qa,Ff,wc,MM,a5,Lk,e⟩:=zi w7 d v0 σ hF hp hK hq g hm r ok.1 (HS r (Qh ..)) (H r (Qh ..)) v3 v4 v5;obtain⟨F',c,g',v3',v4',v5',h',ih⟩:=qP w7 d v0 σ hm b Ff (.d (bp r)) wc MM a5 (λx q=>q.elim (hp x) λq=>Fz x r ok.1 q.1) Lk (λx q=>q.elim (hq x) (ul x r ok.1)) ok.2 (λq hq=>HS q (Qj _ hq)) λq hq=>H q (Qj _ hq);refine k ?_;refine⟨F',c,g',v3',v4',v5',h'.of λx=>?_,aQ e ih⟩;show _↔P x\/((qN x r||(!mI x r&&aN x b))=true/\¬ Q x);rw[or_assoc];refine or_congr Iff.rfl ?_;cases qN x r <;> cases mI x r <;> cases aN x b <;> simp
variable {l:List (Str×PyData)}
theorem mq(h1:τ.take σ.length=σ)(h2:τ[σ.length]?=some (.dct l)):om σ.length (.ret (.loc σ.length)) τ=.ok (.loc σ.length) (σ++[.dct l]):=by
 show (if σ.length < σ.length then _ else match τ[σ.length]? with
   | some (.lst l)=>Res.ok (V.loc σ.length) (τ.take σ.length++[Cell.lst l])
   | some (.dct l)=>.ok (.loc σ.length) (τ.take σ.length++[Cell.dct l])
   | _=>.bad)=_
 rw[if_neg (Sl _),h2,h1]
theorem bO(σ g:ac):(σ++g).take σ.length=σ:=TS rfl
variable {D:Nat}
theorem uk(w7:ws.length<=7)(ok:fC ws cs b)(h:hL b+2<=D):gv b D:=by obtain⟨d,rfl⟩:=nG h;exact x3 w7 (hL b) b d ok (QP _)
theorem wj(w7:ws.length<=7){cs:CS}{b:RL}(ok:fC ws cs b)(hr:r∈lst b)(hh:hL b<=h)(hD:h+2<=D):gv (.cons r .nil) D:=uk (cs:=cs) (b:=.cons r .nil) w7 ⟨cg ok r hr,trivial⟩ (iv (Qu (TZ.mpr ⟨iv (ca r hr) hh,QI _⟩) 2) hD)
theorem jj(w7:ws.length<=7):∀ (h:Nat) (b:RL) (d:Nat),fC ws cs b->hL b<=h->kK b (d+h+6):=by
 have fin:∀ (b:RL) (d:Nat),fC ws cs b->(∀ r∈lst b,gv (.cons r .nil) (d+5))->(∀ r∈lst b,kK (cG r) (d+5))->kK b (d+6):=λb d ok HS H σ=>by
   obtain⟨F,c,g',v3',v4',v5',h,e⟩:=qP w7 d (.d (.tuple (am b))) σ (m:=(σ++[Cell.dct []]).length) Qg b [] .un .un .un St.nil (λ_ q=>q.elim) St.nil (λ_ q=>q.elim) ok HS H;have ea:σ++Cell.dct (dk [])::.dct (dk [])::[]=(σ++[.dct []])++[.dct []]:=by rw[Qr];rfl
   rw[ea] at e;exact⟨F,h.of λx=>⟨λq=>(q.resolve_left id).1,λq=>.inr ⟨q,id⟩⟩,((wz prog 9 (d+5) [.d (.tuple (am b))] σ rfl 0 (bf (aZ rfl rfl) e))).trans (mq (bO ..) (g0 ..))⟩
 intro h
 induction h with
 | zero=>exact λb d ok hh=>fin b d ok (λr hr=>wj w7 ok hr hh (iv (by decide) (QK 5 d))) λr hr=>by rw[mv (iv (ca r hr) hh)];exact(λd σ=>⟨[],St.nil.of λx=>⟨False.elim,λq=>by injection q⟩,((wz prog 9 d [.d (.tuple (am .nil))] σ rfl 0 (bf (aZ rfl rfl) rfl))).trans (mq (by rw[Qr];exact bO ..) (by rw[Qr];exact g0 ..))⟩:∀ d,kK .nil (d+1)) (d+4)
 | succ h ih=>exact λb d ok hh=>fin b (d+h+1) ok (λr hr=>wj w7 ok hr hh (by rw[QQ d,QQ d];exact iv (QR (by decide) _) (QK _ d))) λr hr=>ih (cG r) d (g9 (cg ok r hr)) (ou (iv (ca r hr) hh))
noncomputable def nI(k:Nat):PyData:=.int (k:Int)
noncomputable def pD(p:List Nat):PyData:=.tuple (p.map nI)
noncomputable def a4(p:List Nat×Rw):PyData:=.tuple [pD p.1,bp p.2]
mutual
noncomputable def nJ(pl:List Nat):Rw->List (List Nat×Rw)
 | .whn _ b=>eu pl 0 b
 | .aga _ b=>eu pl 0 b
 | .set _ _=>[]
 | .tell _=>[]
 | .call _ _ _=>[]
noncomputable def eu(pl:List Nat)(k:Nat):RL->List (List Nat×Rw)
 | .nil=>[]
 | .cons r b=>(pl++[k],r)::(nJ (pl++[k]) r++eu pl (k+1) b)
end
theorem uD(pl:List Nat)(k:Nat):eu pl k .nil=[]:=rfl
theorem ki(pl:List Nat)(r:Rw):nJ pl r=eu pl 0 (cG r):=by cases r <;> rfl
mutual
theorem oW(pl:List Nat):∀ r:Rw,(nJ pl r).length+1=nR r
 | .whn _ b=>congrArg (·+1) (gF pl 0 b)
 | .aga _ b=>congrArg (·+1) (gF pl 0 b)
 | .set _ _=>rfl
 | .tell _=>rfl
 | .call _ _ _=>rfl
theorem gF(pl:List Nat)(k:Nat):∀ b:RL,(eu pl k b).length=nL b
 | .nil=>rfl
 | .cons r b=>by show (nJ (pl++[k]) r++eu pl (k+1) b).length+1=nR r+nL b;rw[Qg,gF pl (k+1) b,<- oW (pl++[k]) r,RN]
end
theorem Gv{pl:List Nat}(h:pl.length<=100)(k:Nat)(σ:ac):cZ .add false (.d (pD pl)) (.d (.tuple [.int (k:Int)])) σ=.ok (.d (pD (pl++[k]))) σ:=by unfold pD;rw[Qv];exact gQ (by rw[PN];exact iv (QE h) (by decide)) σ
theorem PI(L M N:List α)(x:α):(L++[x]++M)++N=L++x::(M++N):=by rw[Qr,Qr];rfl
variable {l:List PyData}
theorem vF(hl:l.length<=900000)(x:PyData):AK .append (.loc σ.length) (σ++[.lst l]) [.d x] (σ++[.lst l])=.ok (.d .none) (σ++[.lst (l++[x])]):=by rw[Gp (aB _ _) hl,ij]
theorem LR{y:List PyData}(hl:l.length+y.length<=100000):AK .extend (.loc σ.length) (σ++[.lst l]) [.d (.list y)] (σ++[.lst l])=.ok (.d .none) (σ++[.lst (l++y)]):=by have e:sk .extend (σ++[.lst l]) (.loc σ.length)=true:=wU (aB _ _);unfold AK;rw[e];show GM .extend (.loc σ.length) [.d (.list y)] (σ++[.lst l])=_;rw[Cv (aB _ _) rfl (iv hl (by decide)),ij]
theorem Az{a:Nat}(pl:List Nat)(k:Nat)(r:Rw)(b:RL)(h:a+nL (.cons r b)<=n):a<=n/\a+1+(nJ (pl++[k]) r).length+nL b<=n:=by
 have e:a+1+(nJ (pl++[k]) r).length+nL b=a+nL (.cons r b):=by show _=a+(nR r+nL b);rw[<- oW (pl++[k]) r,QQ a,QW 1,QQ]
 exact⟨iv (Qz _ _) h,e▸h⟩
def hJ(f:Nat)(b:RL)(pl:List Nat)(d:Nat):Prop:=∀ σ,af prog d f [.d (pD pl),.d (.tuple (am b))] σ=.ok (.d (.list ((eu pl 0 b).map a4))) σ
theorem sN{pl:List Nat}(hpl:pl.length<=100)(d:Nat)(v1:V)(σ:ac):∀ (b:RL) (k:Nat) (L:List PyData) (v3 v4:V),L.length+nL b<=9000->(∀ r∈lst b,∀ k,hJ 7 (cG r) (pl++[k]) (d+2))->
   X2 λv3' v4'=>aY (aG prog.G (af prog (d+2)) (.tup [3,4]) ly) (((am b).zipIdx k).map λp=>.tuple [.int p.2,p.1]) (F5 (.d (pD pl)) v1 (.loc σ.length) v3 v4) (σ++[.lst L])=.ok (.next (F5 (.d (pD pl)) v1 (.loc σ.length) v3' v4')) (σ++[.lst (L++(eu pl k b).map a4)])
 | .nil=>@λk L v3 v4 _ _=>⟨v3,v4,by rw[uD,R2,QG];rfl⟩
 | .cons r b=>@λk L v3 v4 hl IH=>by
   obtain⟨h1,h2⟩:=Az pl k r b hl;have hl2:(L++[a4 (pl++[k],r)]++(nJ (pl++[k]) r).map a4).length+nL b<=9000:=by rw[Qg,Qg,PN];exact h2
   obtain⟨v3',v4',ih⟩:=sN hpl d v1 σ b (k+1) (L++[a4 (pl++[k],r)]++(nJ (pl++[k]) r).map a4) (.d (nI k)) (.d (bp r)) hl2 λx hx=>IH x (Qj _ hx);have w:=IH r (Qh ..) k (σ++[.lst (L++[a4 (pl++[k],r)])]);rw[<- ki] at w;rw[PI,<- Qv] at ih;exact⟨v3',v4',aQ (cA rfl ((dn prog.G (af prog (d+2)) ly (F5 (.d (pD pl)) v1 (.loc σ.length) (.d (.int (k:Int))) (.d (bp r))) (σ++[Cell.lst L]) 3 (Gv hpl k _) (vF (iv h1 (by decide)) _) (Gv hpl k _) (on r d _) w (LR (σ:=σ) (l:=L++[a4 (pl++[k],r)]) (y:=(nJ (pl++[k]) r).map a4) (by rw[<- Qg];exact iv (RS hl2) (by decide)))))) ih⟩
theorem G0{pl:List Nat}(hpl:pl.length<=100)(d:Nat)(hn:nL b<=9000)(IH:∀ r∈lst b,∀ k,hJ 7 (cG r) (pl++[k]) (d+2)):hJ 7 b pl (d+3):=λσ=>by obtain⟨v3',v4',lp⟩:=sN hpl d (.d (.tuple (am b))) σ b 0 [] .un .un (by rw[RO,Q5];exact hn) IH;exact(a9 prog 7 (d+2) [.d (pD pl),.d (.tuple (am b))] σ rfl 0 (bf (mV rfl) lp) (kB _ _) (ez _ _))
variable {F:RL->List Nat->Nat->Prop}
theorem nf{c:Nat}(h0:∀ pl d,F .nil pl (d+c))(h:∀ (b:RL) (pl:List Nat) (d:Nat),pl.length<=100->nL b<=9000->(∀ r∈lst b,∀ k,F (cG r) (pl++[k]) (d+c))->F b pl (d+c+1)):∀ (n:Nat) (b:RL) (pl:List Nat) (d:Nat),hL b<=n->nL b<=9000->pl.length+n<=100->F b pl (d+n+c+1)
 | 0=>@λb pl d hh hn hp=>h b pl d hp hn λr hr k=>by rw[mv (iv (ca r hr) hh)];exact h0 _ d
 | n+1=>@λb pl d hh hn hp=>h b pl (d+n+1) (iv (Qz _ _) hp) hn λr hr k=>by have:=nf h0 h n (cG r) (pl++[k]) d (ou (iv (ca r hr) hh)) (zS hr hn) (by rw[Qg,QQ,QW _ n];exact hp);rw[RN (d+n) 1 c];exact this
theorem j1:∀ (n:Nat) (b:RL) (pl:List Nat) (d:Nat),hL b<=n->nL b<=9000->pl.length+n<=100->hJ 7 b pl (d+n+3):=nf (F:=hJ 7) (c:=2) (λpl d σ=>(a9 prog 7 (d+1) [.d (pD pl),.d (.tuple (am .nil))] σ rfl 0 (bf (mV rfl) rfl) (kB _ _) (ez _ _))) λb pl d hp hn H=>G0 hp d hn H
theorem L9{x:List PyData}(h:σ[n]?=some (.lst x))(y:List PyData)(hl:x.length+y.length<=100000):cZ .add true (.loc n) (.d (.list y)) σ=.ok (.loc σ.length) (σ++[.lst (x++y)]):=by show b2 (aE σ (.loc n)) (some y) (λx y=>if x.length+y.length<=LIM then aM true (x++y) σ else .bad) .bad=_;rw[iZ h];exact if_pos (iv hl (by decide))
theorem jX{l0 l:List α}(h:l0.drop k=a::l):l0[k]?=some a/\l0.drop (k+1)=l:=by
 constructor
 . have:=congrArg (λl=>l[0]?) h;rw[List.getElem?_drop,Uj] at this;exact this
 . rw[<- Sg,h];rfl
theorem nH{pl:List Nat}(hpl:pl.length<=100)(d:Nat)(b0:RL)(σ:ac):∀ (b:RL) (k:Nat) (L:List PyData) (g:ac) (v3:V),(am b0).drop k=am b->L.length+nL b<=9000->(∀ r∈lst b,∀ k,hJ 41 (cG r) (pl++[k]) (d+1))->
   X2 λg' v3'=>aY (aG prog.G (af prog (d+1)) (.var 3) gk) ((List.range' k (am b).length).map λ(k:Nat)=>PyData.int (k:Int)) [.d (pD pl),.d (.tuple (am b0)),.loc (σ++g).length,v3] ((σ++g)++[.lst L])=.ok (.next [.d (pD pl),.d (.tuple (am b0)),.loc (σ++g').length,v3']) ((σ++g')++[.lst (L++(eu pl k b).map a4)])
 | .nil=>@λk L g v3 _ _ _=>⟨g,v3,by rw[uD,R2,QG];rfl⟩
 | .cons r b=>@λk L g v3 hd hl IH=>by
   have q9:=Az pl k r b hl;have h1:=q9.1;have h2:=q9.2;have hl2:(L++[a4 (pl++[k],r)]++(nJ (pl++[k]) r).map a4).length+nL b<=9000:=by rw[Qg,Qg,PN];exact h2
   have q9:=jX hd;have hk:=q9.1;have hd':=q9.2;have hI:∀ τ:ac,c8 (.d (.tuple (am b0))) (.d (.int (k:Int))) τ=some (.d (bp r)):=λτ=>by rw[cX,hk];rfl
   obtain⟨g',v3',ih⟩:=nH hpl d b0 σ b (k+1) (L++[a4 (pl++[k],r)]++(nJ (pl++[k]) r).map a4) (g++[.lst (L++[a4 (pl++[k],r)])]) (.d (.int (k:Int))) hd' hl2 λx hx=>IH x (Qj _ hx);have w:=IH r (Qh ..) k ((σ++g)++[.lst (L++[a4 (pl++[k],r)])]);rw[<- ki] at w;rw[PI,<- Qv,<- Qr] at ih;exact⟨g',v3',aQ (bc ((dn prog.G (af prog (d+1)) gk [.d (pD pl),.d (.tuple (am b0)),.loc (σ++g).length,.d (.int (k:Int))] ((σ++g)++[Cell.lst L]) 31 (Gv hpl k _) (hI _) (vF (iv h1 (by decide)) _) (Gv hpl k _) (hI _) (rH r d _) w (L9 (aB (σ++g) (.lst (L++[a4 (pl++[k],r)]))) ((nJ (pl++[k]) r).map a4) (by rw[<- Qg];exact iv (RS hl2) (by decide)))))) ih⟩
theorem iX:∀ b:RL,(am b).length<=nL b
 | .nil=>QP _
 | .cons r b=>by show (am b).length+1<=nR r+nL b;rw[QW,<- Bv r];exact Ra (QK ..) (iX b)
theorem uA(h:n<=9000):-100000<=(n:Int)/\(n:Int)<=100000:=⟨Rq (by decide) (QT n),Rc.mpr (iv h (by decide))⟩
theorem B5{pl:List Nat}(hpl:pl.length<=100)(d:Nat)(hn:nL b<=9000)(IH:∀ r∈lst b,∀ k,hJ 41 (cG r) (pl++[k]) (d+1)):hJ 41 b pl (d+2):=λσ=>by obtain⟨g',v3',lp⟩:=nH hpl d b σ b 0 [] [] .un rfl (by rw[RO,Q5];exact hn) IH;rw[QG,<- SJ,<- gd] at lp;exact(a9 prog 41 (d+1) [.d (pD pl),.d (.tuple (am b))] σ rfl 0 (bf (jd rfl (uA (iv (iX b) hn))) lp) (kB _ _) (by rw[Qr];exact bO ..))
theorem gP:∀ (n:Nat) (b:RL) (pl:List Nat) (d:Nat),hL b<=n->nL b<=9000->pl.length+n<=100->hJ 41 b pl (d+n+2):=nf (F:=hJ 41) (c:=1) (λpl d σ=>(a9 prog 41 d [.d (pD pl),.d (.tuple (am .nil))] σ rfl 0 (bf (xs:=b9 0 0) (jd (b:=0) rfl (by decide)) rfl) (kB _ _) (ez _ _))) λb pl d hp hn H=>B5 hp d hn H
noncomputable def pI(a:Int)(ms:List Int)(z:Int):PyData:=.tuple (.int a::(ms.map PyData.int++[.int z]))
noncomputable def gZ{α:Type}(l:List α)(i:Int):Option α:=if 0<=i then l[i.toNat]? else none
theorem cF(l:List α)(k:Nat):gZ l (k:Int)=l[k]?:=if_pos (QT k)
variable {l:List α}
theorem Ba(hn:l.length=n):(0<=i/\i < (n:Int))↔(gZ l i).isSome=true:=by
 subst hn;unfold gZ;by_cases h:0<=i
 . obtain⟨k,rfl⟩:=RC h;rw[if_pos h];show (0<=(k:Int)/\(k:Int) < (l.length:Int))↔(l[k]?).isSome=true;rw[QZ];exact⟨λq=>⟨_,Qk (QU.mp q.2)⟩,λ⟨a,q⟩=>⟨h,QU.mpr (Qi.mp q).1⟩⟩
 . rw[if_neg h];exact⟨λq=>(h q.1).elim,λq=>by injection q⟩
theorem Do{σ:ac}{a b:E}{n:Int}(h1:ag G cf a ρ σ=.ok (.d (.int i)) σ)(h2:ag G cf b ρ σ=.ok (.d (.int n)) σ):ag G cf (.cmp2 .le .lt (.int 0) a b) ρ σ=.ok (.d (.bool (decide (0<=i/\i < n)))) σ:=by
 rw[Bj];refine aI (a:=V.d (.int 0)) (σ:=σ) rfl (aI h1 (aI (a:=decide (0<=i)) (σ:=σ) rfl ?_));by_cases h:0<=i
 . rw[decide_eq_true h];refine(aI h2 rfl:_=Res.ok (V.d (.bool (decide (i < n)))) σ).trans ?_;rw[decide_eq_decide.mpr (show (i < n)↔(0<=i/\i < n) from ⟨λq=>⟨h,q⟩,And.right⟩)]
 . rw[decide_eq_false h];show Res.ok (V.d (.bool false)) σ=_;rw[decide_eq_false λq=>h q.1]
theorem G2{a b:E}(hn:l.length=n)(h1:ag G cf a ρ σ=.ok (.d (.int i)) σ)(h2:ag G cf b ρ σ=.ok (.d (.int n)) σ):ag G cf (.cmp2 .le .lt (.int 0) a b) ρ σ=.ok (.d (.bool (gZ l i).isSome)) σ:=by
 rw[Do h1 h2];cases hs:(gZ l i).isSome with
 | true=>rw[decide_eq_true ((Ba hn).mpr hs)]
 | false=>rw[decide_eq_false λq=>by rw[(Ba hn).mp q] at hs;injection hs]
theorem d6(b:RL):(lst b).length=(am b).length:=by rw[fe,PN]
theorem fk(h:gZ (lst b) i=some r)(σ:ac):c8 (.d (.tuple (am b))) (.d (.int i)) σ=some (.d (bp r)):=by
 unfold gZ at h;by_cases q:0<=i
 . obtain⟨k,rfl⟩:=RC q;rw[if_pos q] at h;have h:(lst b)[k]?=some r:=h;show c8 _ (.d (.int (k:Int))) σ=_;rw[cX,fe,Q0,h];rfl
 . rw[if_neg q] at h;injection h
theorem d9(h:fs[j]?=some f)(σ:ac):c8 (.d (.tuple (fs.map ay))) (.d (.int (j:Int))) σ=some (.d (ay f)):=by rw[cX,Q0,h];rfl
theorem vA(h:uR r=true)(σ:ac):c8 (.d (bp r)) (.d (.int 2)) σ=some (.d (.tuple (am (cG r)))):=by cases r <;> first | rfl | injection h
theorem oY(a:Int)(ms:List Int)(z:Int)(σ:ac):c8 (.d (pI a ms z)) (.d (.int (-1))) σ=some (.d (.int z)):=xi (.int a::ms.map PyData.int) (.int z) σ
theorem BO(a:α)(l:List α)(x:α):au (a::(l++[x])) (some 1) (some (-1))=l:=by
 have e:(-1:Int)+((a::(l++[x])).length:Int)=((l.length+1:Nat):Int):=by rw[QF,Qg,Rr];exact K7 _
 have h:iI (a::(l++[x])).length (-1)=l.length+1:=by unfold iI;rw[if_pos (by decide),e,Tk (Rc.mpr (by rw[QF,Qg];exact Qz ..)),SO (QT _)];rfl
 refine(?_:((a::(l++[x])).drop (iI (a::(l++[x])).length ((1:Nat):Int))).take (iI (a::(l++[x])).length (-1) - iI (a::(l++[x])).length ((1:Nat):Int))=l);rw[h,j0,Ro (by rw[QF];exact QK ..),Nat.add_sub_cancel];exact TS rfl
theorem yM(a:Int)(ms:List Int)(z:Int)(σ:ac):eB false (.d (pI a ms z)) (some (.d (.int 1))) (some (.d (.int (-1)))) σ=.ok (.d (.tuple (ms.map PyData.int))) σ:=by unfold pI;rw[eQ _ _ (dY _) (dY _),BO]
theorem uE(a:Int)(ms:List Int)(z:Int):¬ (((PyData.int a::(ms.map PyData.int++[.int z])).length:Nat):Int) < 2:=λq=>by rw[QF,Qg] at q;exact absurd (QU.mp q) (TY.mpr (QK 2 _))
noncomputable def kL(b:RL):List Int->Option RL
 | []=>some b
 | i::is=>match gZ (lst b) i with
   | some r=>match uR r with
     | true=>kL (cG r) is
     | false=>none
   | none=>none
theorem uc(b:RL)(i:Int)(is:List Int):kL b (i::is)=(match gZ (lst b) i with | some r=>(match uR r with | true=>kL (cG r) is | false=>none) | none=>none):=rfl
theorem Af(h:gZ (lst b) i=none)(is:List Int):kL b (i::is)=none:=by rw[uc,h]
theorem sO(h:gZ (lst b) i=some r)(hb:uR r=false)(is:List Int):kL b (i::is)=none:=by rw[uc,h];show (match uR r with | true=>_ | false=>_)=_;rw[hb]
theorem oR(h:gZ (lst b) i=some r)(hb:uR r=true)(is:List Int):kL b (i::is)=kL (cG r) is:=by rw[uc,h];show (match uR r with | true=>_ | false=>_)=_;rw[hb]
noncomputable def P5(o:Option RL)(f:RL->Fm)(σ:ac):Res Out:=match o with
 | some c=>.ok (.next (f c)) σ
 | none=>.ok (.exc 1 []) σ
noncomputable def P6(o:Option RL):V:=match o with
 | some c=>.d (.tuple (am c))
 | none=>.exc 1 []
theorem qf(a:Int)(ms:List Int)(z:Int)(σ:ac):c8 (.d (pI a ms z)) (.d (.int 0)) σ=some (.d (.int a)):=cX (k:=0) ..
theorem IV(d:Nat)(v0 v1:V)(σ:ac):∀ (ms:List Int) (b:RL) (v3:V),∃ v3',aY (aG prog.G (af prog (d+1)) (.var 3) ja) (ms.map PyData.int) [v0,v1,.d (.tuple (am b)),v3] σ=P5 (kL b ms) (λc=>[v0,v1,.d (.tuple (am c)),v3']) σ:=by
 intro xs_
 induction xs_ with
 | nil=>intro b v3;exact⟨v3,rfl⟩
 | cons i is ih_=>
   intro b v3;have c1:=G2 (G:=prog.G) (cf:=af prog (d+1)) (a:=.var 3) (b:=.bi .len false (.cons (.var 2) .nil)) (ρ:=[v0,v1,.d (.tuple (am b)),.d (.int i)]) (σ:=σ) (d6 b) rfl rfl;have R:=dn prog.G (af prog (d+1)) ja [v0,v1,.d (.tuple (am b)),.d (.int i)] σ;cases hr:gZ (lst b) i with
   | none=>rw[hr] at c1;rw[Af hr];exact⟨.un,EJ (bc ((R 0 c1)))⟩
   | some r=>
     replace c1:=hr▸c1;have gr:=fk hr σ;have hh:=ld r d σ;cases hb:uR r with
     | false=>rw[hb] at hh;rw[sO hr hb];exact⟨.un,EJ (bc ((R 4 c1 gr hh)))⟩
     | true=>rw[hb] at hh;rw[oR hr hb];refine(ih_ (cG r) (.d (.int i))).elim λv3' ih=>?_;exact⟨v3',aQ (bc ((R 52 c1 gr hh gr (vA hb σ)))) ih⟩
theorem jC(hj:fs[j]?=some f)(ms:List Int)(z:Int)(d:Nat)(σ:ac):af prog (d+2) 10 [.d (.tuple (fs.map ay)),.d (pI (j:Int) ms z)] σ=.ok (P6 (kL f.rs ms)) σ:=by
 refine(IV d (.d (.tuple (fs.map ay))) (.d (pI (j:Int) ms z)) σ ms f.rs .un).elim λv3' lp=>?_;have c0:=G2 (G:=prog.G) (cf:=af prog (d+1)) (a:=.idx (.var 1) (.int 0)) (b:=.bi .len false (.cons (.var 0) .nil)) (ρ:=[.d (.tuple (fs.map ay)),.d (pI (j:Int) ms z),.un,.un]) (σ:=σ) (l:=fs) (i:=(j:Int)) (PN _).symm (bI rfl rfl (qf ..)) rfl;rw[cF,hj] at c0;have R:=a9 prog 10 (d+1) [.d (.tuple (fs.map ay)),.d (pI (j:Int) ms z)] σ rfl;have gf:=d9 hj σ;have it:=aZ (kQ (G:=prog.G) (cf:=af prog (d+1)) (m:=false) (a:=.var 1) (lo:=.yes (.int 1)) (hi:=.yes (.neg (.int 1))) (ρ:=[.d (.tuple (fs.map ay)),.d (pI (j:Int) ms z),.d (.tuple (am f.rs)),.un]) rfl rfl rfl (yM (j:Int) ms z σ)) rfl;cases hw:kL f.rs ms with
 | some c=>rw[hw] at lp;exact(R 104 (dF (uE _ _ _)) c0 (qf (j:Int) ms z σ) gf (bf it lp) (same σ))
 | none=>replace lp:=hw▸lp;exact(R 104 (dF (uE _ _ _)) c0 (qf (j:Int) ms z σ) gf (bf it lp) (same σ))
theorem ug{a:Int}(ha:gZ fs a=none)(ms:List Int)(z:Int)(d:Nat)(σ:ac):af prog (d+2) 10 [.d (.tuple (fs.map ay)),.d (pI a ms z)] σ=.ok (.exc 1 []) σ:=by have c0:=G2 (G:=prog.G) (cf:=af prog (d+1)) (a:=.idx (.var 1) (.int 0)) (b:=.bi .len false (.cons (.var 0) .nil)) (ρ:=[.d (.tuple (fs.map ay)),.d (pI a ms z),.un,.un]) (σ:=σ) (l:=fs) (i:=a) (PN _).symm (bI rfl rfl (qf ..)) rfl;rw[ha] at c0;exact(a9 prog 10 (d+1) [.d (.tuple (fs.map ay)),.d (pI a ms z)] σ rfl 8 (dF (uE _ _ _)) c0 (same σ))
variable {v:PyData}
theorem mM{P:PyData}(d:Nat)(σ:ac)(h:af prog (d+2) 10 [.d v,.d P] σ=.ok (.exc 1 []) σ):af prog (d+3) 11 [.d v,.d P] σ=.ok (.exc 1 []) σ:=
 (a9 prog 11 (d+2) [.d v,.d P] σ rfl 0 h (same σ))
noncomputable def Ox:Option Rw->V
 | some r=>.d (bp r)
 | none=>.exc 1 []
variable {ms:List Int}{c:RL}
theorem sZ{a:Int}{z:Int}(d:Nat)(σ:ac)(h:af prog (d+2) 10 [.d v,.d (pI a ms z)] σ=.ok (.d (.tuple (am c))) σ):af prog (d+3) 11 [.d v,.d (pI a ms z)] σ=.ok (Ox (gZ (lst c) z)) σ:=by
 have c0:=G2 (G:=prog.G) (cf:=af prog (d+2)) (a:=.idx (.var 1) (.neg (.int 1))) (b:=.bi .len false (.cons (.var 2) .nil)) (ρ:=[.d v,.d (pI a ms z),.d (.tuple (am c))]) (σ:=σ) (l:=lst c) (i:=z) (d6 c) (bI rfl rfl (oY a ms z σ)) rfl;have R:=a9 prog 11 (d+2) [.d v,.d (pI a ms z)] σ rfl;cases hz:gZ (lst c) z with
 | none=>rw[hz] at c0;exact(R 0 h c0 (same σ))
 | some r=>rw[hz] at c0;exact(R 6 h c0 (oY a ms z σ) (fk hz σ) (same σ))
def GH(fs:List Fd)(x:PyData):Prop:=∀ (d:Nat) (σ:ac),af prog (d+3) 11 [.d (.tuple (fs.map ay)),.d x] σ=.ok (.exc 1 []) σ
theorem t6(hj:fs[j]?=some f)(ms:List Int)(z:Int)(h:∀ c,kL f.rs ms=some c->gZ (lst c) z=none):GH fs (pI (j:Int) ms z):=λd σ=>by
 have e:=jC hj ms z d σ;cases hw:kL f.rs ms with
 | none=>rw[hw] at e;exact mM d σ e
 | some c=>rw[hw] at e;rw[sZ d σ e,h c hw];rfl
variable {a:Int}
theorem Bx(ha:gZ fs a=none)(ms:List Int)(z:Int):GH fs (pI a ms z):=λd σ=>mM d σ (ug ha ms z d σ)
theorem t7{P:List PyData}(hP:P.length < 2):GH fs (.tuple P):=λd σ=>mM d σ ((a9 prog 10 (d+1) [.d (.tuple (fs.map ay)),.d (.tuple P)] σ rfl 24 (dT (QU.mpr hP)) (dT (QU.mpr hP)) (same σ)))
inductive Pth:RL->List Nat->RL->Prop
 | nil (b:RL):Pth b [] b
 | cons {b c:RL} {r:Rw} {k:Nat} {ks:List Nat}:(lst b)[k]?=some r->uR r=true->Pth (cG r) ks c->Pth b (k::ks) c
noncomputable def iN(p:List Nat):List Int:=p.map λ(k:Nat)=>(k:Int)
noncomputable def aX(j:Nat)(pre:List Nat)(z:Nat):List Nat:=j::(pre++[z])
theorem wH(j:Nat)(pre:List Nat)(z:Nat):pD (aX j pre z)=pI (j:Int) (iN pre) (z:Int):=by unfold pD aX pI iN;rw[Q6,Qv,Rj];rfl
variable {pre:List Nat}
theorem vY(h:Pth b pre c):kL b (iN pre)=some c:=by
 induction h with
 | nil b=>rfl
 | @cons b c r k ks hk hb _ ih=>exact(oR ((cF _ k).trans hk) hb (iN ks)).trans ih
variable {z:Nat}
theorem fy(hj:fs[j]?=some f)(hp:Pth f.rs pre c)(hz:(lst c)[z]?=some r)(d:Nat)(σ:ac):af prog (d+3) 11 [.d (.tuple (fs.map ay)),.d (pD (aX j pre z))] σ=.ok (.d (bp r)) σ:=by have e:=jC hj (iN pre) (z:Int) d σ;rw[vY hp] at e;rw[wH,sZ d σ e,cF,hz];rfl
mutual
theorem Ec(pl:List Nat):∀ (r:Rw) (p:List Nat×Rw),p∈nJ pl r->uR r=true/\X3 λ(pre:List Nat) (z:Nat) (c:RL)=>A3 (p.1=pl++(pre++[z])) (Pth (cG r) pre c) ((lst c)[z]?=some p.2)
 | .whn t b=>@λp hp=>⟨rfl,gh pl b b 0 rfl p hp⟩
 | .aga n b=>@λp hp=>⟨rfl,gh pl b b 0 rfl p hp⟩
 | .set _ _=>@λp hp=>by cases hp
 | .tell _=>@λp hp=>by cases hp
 | .call _ _ _=>@λp hp=>by cases hp
theorem gh(pl:List Nat)(b0:RL):∀ (b:RL) (k:Nat),(lst b0).drop k=lst b->∀ p∈eu pl k b,X3 λ(pre:List Nat) (z:Nat) (c:RL)=>A3 (p.1=pl++(pre++[z])) (Pth b0 pre c) ((lst c)[z]?=some p.2)
 | .nil=>@λk _ p hp=>by cases hp
 | .cons r b=>@λk hd p hp=>by
   obtain⟨g,hd'⟩:=jX hd;rcases Qq.mp hp with rfl | hp
   . exact⟨[],k,b0,rfl,.nil b0,g⟩
   . rcases Qx.mp hp with hp | hp
     . obtain⟨hb,pre,z,c,e,h1,h2⟩:=Ec _ r p hp;exact⟨k::pre,z,c,by rw[e,Qr];rfl,.cons g hb h1,h2⟩
     . exact gh pl b0 b (k+1) hd' p hp
end
theorem kh(h:Pth b pre c):pre.length<=hL b:=by
 induction h with
 | nil b=>exact QI _
 | @cons b c r k ks hk hb _ ih=>
   have h2:hL (cG r)+1=hR r:=by cases r <;> first | rfl | injection hb
   exact iv (QE ih) (iv (Q4 h2) (ca r (Qp hk)))
theorem Dk(h:Pth b pre c)(i:Int):kL b (iN pre++[i])=kL c [i]:=by
 induction h with
 | nil b=>rfl
 | @cons b c r k ks hk hb _ ih=>exact(oR ((cF _ k).trans hk) hb (iN ks++[i])).trans ih
theorem Gm(hj:fs[j]?=some f)(hp:Pth f.rs pre c)(hz:(lst c)[z]?=some r)(hr:cG r=.nil)(y:Int):GH fs (.tuple ((aX j pre z).map nI++[.int y])):=by
 have e:PyData.tuple ((aX j pre z).map nI++[.int y])=pI (j:Int) (iN pre++[(z:Int)]) y:=by unfold pI aX iN;rw[Q6,Qv,Qv,Rj];rfl
 rw[e];refine t6 hj _ y λc' hc=>?_;rw[Dk hp] at hc;have hz:=(cF _ z).trans hz;cases hb:uR r with
 | true=>rw[oR hz hb,hr] at hc;(injection hc with e0_;subst e0_);unfold gZ;exact ite_self _
 | false=>rw[sO hz hb] at hc;injection hc
theorem IS(h:(am (cG r)).isEmpty=true):cG r=.nil:=by
 cases hb:cG r with
 | nil=>rfl
 | cons _ _=>rw[hb] at h;injection h
theorem qK(l:List α)(h:i < 0):gZ l i=none:=if_neg (Uc.mpr h)
theorem mi(l:List α)(hn:l.length<=n)(h:(n:Int)<=i):gZ l i=none:=by obtain⟨k,rfl⟩:=RC (Rq (QT n) h);exact(cF l k).trans (RK (iv hn (Rc.mp h)))
theorem CL(f0:0 < fs.length)(fok:∀ f∈fs,hL f.rs<=9/\nL f.rs<=600)(c:Int)(d:Nat)(σ:ac):∃ x,af prog (d+14) 55 [.d (.tuple (fs.map ay)),.d (.int c)] σ=.ok (.d x) σ/\GH fs x:=by
 have fpos:0 < ((fs.map ay).length:Int):=by rw[PN];exact QU.mpr f0
 obtain⟨j,hjN⟩:=RC (bk (c / 6) fpos).1;have hlt:j < fs.length:=by have:=(bk (c / 6) fpos).2;rw[hjN,PN] at this;exact QU.mp this
 have m1:=fB (x:=c / 6) σ false fpos;rw[hjN] at m1;have hj:fs[j]?=some fs[j]:=Qk hlt;generalize fs[j]=f at hj;obtain⟨fh,fn⟩:=fok f (Qp hj);have far0:=(bk (c / 30) (m:=100000000000000000000) (by decide)).1;generalize hfar:c / 30 % 100000000000000000000=far at far0;have m2:cZ .mod false (.d (.int (c / 30))) (.d (.int 100000000000000000000)) σ=.ok (.d (.int far)) σ:=by rw[fB _ _ (by decide),hfar]
 -- the nine
 obtain⟨Sm,lS,badS,s5⟩:∃ Sm:List PyData,A3 (Sm.length=9) ((∀ x∈Sm,GH fs x)) (execs prog.G (af prog (d+13)) jk ([.d (.tuple (fs.map ay)),.d (.int c)]++List.replicate 6 .un) σ=execs prog.G (af prog (d+13)) (tl (tl (tl (tl (tl jk))))) (F8 (.d (.tuple (fs.map ay))) (.d (.int c)) (.d (.int (j:Int))) (.d (.tuple (am f.rs))) (.d (.int far)) (.d (.list Sm)) .un .un) σ):=by
   refine⟨[.tuple [.int (j:Int),.int (-1)],.tuple [.int (j:Int),.int (am f.rs).length],.tuple [.int (((fs.map ay).length:Int)+far),.int 0],.tuple [.int (-1 - far),.int 0],.tuple [.int (j:Int)],.tuple [],.tuple [.int (j:Int),.int ((am f.rs).length+far)],.tuple [.int (j:Int),.int 0,.int (-1 - far)],.tuple [.int (j:Int),.int (am f.rs).length,.int 0]],rfl,?_,?_⟩
   . have neg:-1 - far < 0:=Int.lt_of_le_of_lt (Int.sub_le_sub_left far0 (-1)) (by decide);have L:=d6 f.rs;have rows:∀ c',kL f.rs []=some c'->(lst c').length<=(am f.rs).length:=λc' hc=>by (injection hc with e0_;subst e0_);exact Q4 L
     have all:∀ l:List PyData,(∀ x∈l,GH fs x)->∀ y,GH fs y->∀ x∈y::l,GH fs x:=λl h y hy x hx=>(Qq.mp hx).elim (λe=>e▸hy) (h x);refine all _ (all _ (all _ (all _ (all _ (all _ (all _ (all _ (all _ (λx hx=>by cases hx) _ ?_) _ ?_) _ ?_) _ ?_) _ ?_) _ ?_) _ ?_) _ ?_) _ ?_
     . exact t6 hj [((am f.rs).length:Int)] 0 λc' hc=>by rw[Af (mi _ (Q4 L) (Int.le_refl _))] at hc;injection hc
     . exact t6 hj [0] (-1 - far) λc' _=>qK _ neg
     . exact t6 hj [] ((am f.rs).length+far) λc' hc=>mi _ (rows c' hc) (RD far0)
     . exact t7 (by decide)
     . exact t7 (Sq 1)
     . exact Bx (qK _ neg) [] 0
     . exact Bx (mi _ (Q4 (PN ay).symm) (RD far0)) [] 0
     . exact t6 hj [] (am f.rs).length λc' hc=>mi _ (rows c' hc) (Int.le_refl _)
     . exact t6 hj [] (-1) λc' _=>qK _ (by decide)
   . refine a7 (cU (gD rfl rfl m1)) (a7 (cU (bI (bI rfl rfl (d9 hj σ)) rfl rfl)) (a7 (cU (gD rfl rfl m2)) (a7 (cU rfl) (a7 (cU (gD rfl rfl (jv (QM rfl) σ))) rfl))))
 -- the leaves
 have cm:=ey (G:=prog.G) (cf:=af prog (d+13)) (i:=7) (it:=.seq (.call 41 (.cons (.tup (.cons (.var 2) (.nil))) (.cons (.var 3) (.nil))))) (c:=.cmp .eq (.call 40 (.cons (.idx (.var 7) (.int 1)) (.nil))) (.tup (.nil))) (e:=.bin .add false (.idx (.var 7) (.int 0)) (.tup (.cons (.bin .mod false (.var 4) (.int 2)) (.nil))))
   (ρ:=(F8 (.d (.tuple (fs.map ay))) (.d (.int c)) (.d (.int (j:Int))) (.d (.tuple (am f.rs))) (.d (.int far)) (.d (.list Sm)) .un .un)) (σ:=σ) (aa:=σ) a4 (λp=>.tuple (p.1.map nI++[.int (far % 2)])) (λp=>(am (cG p.2)).isEmpty) (ps:=eu [j] 0 f.rs)
   (aZ (aD rfl (gP 9 f.rs [j] (d+2) fh (iv fn (by decide)) (QK 10 90) σ)) rfl) (λp hp=>bJ (aD rfl (rH p.2 (d+12) _)) rfl (Bh ..)) (λp hp _=>by obtain⟨pre,z,c',e1,h1,h2⟩:=gh _ f.rs f.rs 0 rfl p hp;refine gD (x:=.d (.tuple (p.1.map nI))) rfl rfl (gQ ?_ _);rw[PN,e1,Qg,Qg];exact iv (QE (QR (QE (iv (kh h1) fh)) 1)) (by decide))
 have bLv:∀ x∈((eu [j] 0 f.rs).filter λp=>(am (cG p.2)).isEmpty).map (λp=>PyData.tuple (p.1.map nI++[.int (far % 2)])),GH fs x:=λx hx=>by obtain⟨p,hp,rfl⟩:=QV.mp hx;obtain⟨hp,hb⟩:=Q1.mp hp;obtain⟨pre,z,c',e1,h1,h2⟩:=gh _ f.rs f.rs 0 rfl p hp;exact e1▸Gm hj h1 h2 (IS hb) (far % 2)
 have lLv:(((eu [j] 0 f.rs).filter λp=>(am (cG p.2)).isEmpty).map (λp=>PyData.tuple (p.1.map nI++[.int (far % 2)]))).length<=600:=by rw[PN];exact iv (Rz ..) (by rw[gF];exact fn)
 generalize ((eu [j] 0 f.rs).filter λp=>(am (cG p.2)).isEmpty).map (λp=>PyData.tuple (p.1.map nI++[.int (far % 2)]))=Lv at cm bLv lLv;have p9:0 < (9:Int)+(Lv.length:Int):=Sy (by decide) (RD (QT _));have em:=bk c p9;obtain⟨x,hx,ix⟩:=E3 (l:=Sm++Lv) (i:=c % (9+(Lv.length:Int))) em.1 (by rw[Qg,lS];exact em.2) σ;refine⟨x,co (fn:=qS) (d:=d+13) rfl rfl (s5.trans ?_),(Qx.mp hx).elim (badS x) (bLv x)⟩;exact(dn prog.G (af prog (d+13)) (tl (tl (tl (tl (tl jk))))) (F8 (.d (.tuple (fs.map ay))) (.d (.int c)) (.d (.int (j:Int))) (.d (.tuple (am f.rs))) (.d (.int far)) (.d (.list Sm)) .un .un) σ 25 cm (jv (by rw[lS];exact iv (QR lLv 9) (by decide)) σ) (fB _ _ p9) ix)
noncomputable def aJ(n:Nat)(b:RL):RL:=bu ((lst b).drop n)
theorem vj(h:fC ws cs b):fC ws cs (aJ n b):=mR _ λr hr=>cg h r (RE hr)
theorem vk(h:hL b<=m):hL (aJ n b)<=m:=tH _ λr hr=>iv (ca r (RE hr)) h
theorem eA(b:RL)(k:Nat)(σ:ac):eB false (.d (.tuple (am b))) (some (.d (.int ((k:Int)+1)))) none σ=.ok (.d (.tuple (am (aJ (k+1) b)))) σ:=by
 have e:am (aJ (k+1) b)=(am b).drop (k+1):=by unfold aJ;rw[j7,fe,S3]
 rw[eQ _ _ (dY _) eR,e];exact congrArg (λx=>Res.ok (V.d (.tuple x)) σ) (lj (am b) (k+1))
noncomputable def df(x:Str)(B:RL)(l:Bool):Bool:=aN x B||(!bz x B&&l)
noncomputable def LT(x:Str)(r:Rw)(l:Bool):Bool:=match r with
 | .aga n b=>l||(decide (n > 1)&&aN x b)
 | _=>l
noncomputable def l9(x:Str):RL->List Nat->Nat->Bool->Bool
 | b,[],z,l=>df x (aJ (z+1) b) l
 | b,k::ks,z,l=>match (lst b)[k]? with
   | some r=>l9 x (cG r) ks z (LT x r (df x (aJ (k+1) b) l))
   | none=>l
theorem Lh(x:Str)(b:RL)(k:Nat)(ks:List Nat)(z:Nat)(l:Bool):l9 x b (k::ks) z l=(match (lst b)[k]? with | some r=>l9 x (cG r) ks z (LT x r (df x (aJ (k+1) b) l)) | none=>l):=rfl
theorem iD(h:(lst b)[k]?=some r)(ks:List Nat)(z:Nat)(l:Bool):l9 x b (k::ks) z l=l9 x (cG r) ks z (LT x r (df x (aJ (k+1) b) l)):=by rw[Lh,h]
variable {i:Nat}{B:RL}
theorem Jc{l:Bool}(h1:ag prog.G cf (.var i) ρ σ=.ok (.d (iu (aN x B) (!bz x B))) σ)(h2:ag prog.G cf (.var 5) ρ σ=.ok (.d (.bool l)) σ):ag prog.G cf (.bop false (.cons (.idx (.var i) (.int 0)) (.cons (.bop true (.cons (.idx (.var i) (.int 1)) (.cons (.var 5) .nil))) .nil))) ρ σ=.ok (.d (.bool (df x B l))) σ:=
 G1 (bI h1 rfl rfl) λ_=>dO (pH (bI h1 rfl rfl) λ_=>dO h2)
theorem HT(d:Nat)(x:Str)(v0 v1 v3:V)(σ:ac):∀ (pre:List Nat) (b c:RL) (l:Bool) (v6 v7 v8:V),Pth b pre c->fC ws cs b->hL b<=9->X4 λl' v6' v7' v8'=>A4 (aY (aG prog.G (af prog (d+14)) (.var 6) gm) ((iN pre).map PyData.int) (F9 v0 v1 (.d (.str x)) v3 (.d (.tuple (am b))) (.d (.bool l)) v6 v7 v8) σ=.ok (.next (F9 v0 v1 (.d (.str x)) v3 (.d (.tuple (am c))) (.d (.bool l')) v6' v7' v8')) σ) ((∀ z,l9 x b pre z l=l9 x c [] z l')) (fC ws cs c) (hL c<=9):=by
 intro xs_
 induction xs_ with
 | nil=>intro b c l v6 v7 v8 h ok h9;cases h;exact⟨l,v6,v7,v8,rfl,λz=>rfl,ok,h9⟩
 | cons k ks ih_=>
   intro b c l v6 v7 v8 h ok h9;cases h with
   | @cons _ _ r _ _ hk hb hp=>
   have hr:=Qp hk;have okr:=cg ok r hr;have h8:hL (cG r)<=9:=ou (iv (iv (ca r hr) h9) (by decide));obtain⟨l',v6',v7',v8',ih,h2,h3,h4⟩:=ih_ (cG r) c (LT x r (df x (aJ (k+1) b) l)) (.d (.int (k:Int))) (.d (iu (aN x (aJ (k+1) b)) (!bz x (aJ (k+1) b)))) (.d (bp r)) hp (g9 okr) h8;have sc:=iJ x 9 (aJ (k+1) b) d σ (vj ok) (vk h9);have sc2:=iJ x 9 (cG r) d σ (g9 okr) h8;have gr:=fk ((cF _ k).trans hk) σ;have sl:=eA b k σ;have R:=dn prog.G (af prog (d+14)) gm (F9 v0 v1 (.d (.str x)) v3 (.d (.tuple (am b))) (.d (.bool l)) (.d (.int (k:Int))) v7 v8) σ;have vo:=Jc (cf:=af prog (d+14)) (ρ:=(F9 v0 v1 (.d (.str x)) v3 (.d (.tuple (am b))) (.d (.bool l)) (.d (.int (k:Int))) (.d (iu (aN x (aJ (k+1) b)) (!bz x (aJ (k+1) b)))) v8)) (σ:=σ) (i:=7) rfl rfl;refine⟨l',v6',v7',v8',aQ (bc ?_) ih,λz=>by rw[iD hk,h2 z],h3,h4⟩;clear ih;clear h2;cases r with
   | whn t b'=>exact(R 14 sl sc vo gr)
   | aga n b'=>
     have e:LT x (.aga n b') (df x (aJ (k+1) b) l)=(df x (aJ (k+1) b) l||(decide (n > 1)&&aN x b')):=rfl;rw[e];by_cases h:n > 1
     . rw[decide_eq_true h,RI];exact(R 6158 sl sc vo gr (dT h) (G1 rfl λ_=>dO (bI (aD rfl sc2) rfl rfl)))
     . rw[decide_eq_false h,Se,RW];exact(R 2062 sl sc vo gr (dF h))
   | set _ _=>injection hb
   | tell _=>injection hb
   | call _ _ _=>injection hb
theorem vz(hj:fs[j]?=some f)(of:okF ws cs f)(hp:Pth f.rs pre c)(x:Str)(d:Nat)(σ:ac):af prog (d+15) 43 [.d (.tuple (fs.map ay)),.d (pD (aX j pre z)),.d (.str x)] σ=.ok (.d (.bool (l9 x f.rs pre z (decide (x∈cC f.t))))) σ:=by obtain⟨l',v6',v7',v8',lp,h2,h3,h4⟩:=HT d x (.d (.tuple (fs.map ay))) (.d (pI (j:Int) (iN pre) (z:Int))) (.d (ay f)) σ pre f.rs c (decide (x∈cC f.t)) .un .un .un hp of.rs of.h9;rw[h2 z,wH];have sc:=iJ x 9 (aJ (z+1) c) d σ (vj h3) (vk h4);have it:=aZ (kQ (G:=prog.G) (cf:=af prog (d+14)) (m:=false) (a:=.var 1) (lo:=.yes (.int 1)) (hi:=.yes (.neg (.int 1))) (ρ:=(F9 (.d (.tuple (fs.map ay))) (.d (pI (j:Int) (iN pre) (z:Int))) (.d (.str x)) (.d (ay f)) (.d (.tuple (am f.rs))) (.d (.bool (decide (x∈cC f.t)))) .un .un .un)) rfl rfl rfl (yM (j:Int) (iN pre) (z:Int) σ)) rfl;exact(a9 prog 43 (d+14) [.d (.tuple (fs.map ay)),.d (pI (j:Int) (iN pre) (z:Int)),.d (.str x)] σ rfl 435 (qf ..) (d9 hj σ) (Bt of.t (d+11) σ) (o3 ..) (bf it lp) (oY ..) ((eA c z σ)) sc (Jc (cf:=af prog (d+14)) (ρ:=(F9 (.d (.tuple (fs.map ay))) (.d (pI (j:Int) (iN pre) (z:Int))) (.d (.str x)) (.d (ay f)) (.d (.tuple (am c))) (.d (.bool l')) v6' (.d (iu (aN x (aJ (z+1) c)) (!bz x (aJ (z+1) c)))) v8')) (σ:=σ) (i:=7) rfl rfl) (same σ))
structure Nm(ws N:List Str)(P:Str->Bool)(n:Nat):Prop where
 mem:∀ x,x∈N↔P x=true
 inw:∀ x∈N,x∈ws
 len:N.length<=n
theorem dp(Q:List Nat)(h:Q[m]?=some k)(σ:ac):c8 (.d (pD Q)) (.d (.int (m:Int))) σ=some (.d (.int (k:Int))):=by unfold pD;rw[cX,Q0,h];rfl
theorem we(τ:ac)(a b c:Cell):((τ++[a])++[b]++[c])[τ.length]?=some a:=by rw[Qr,Qr];exact g0 ..
variable {N:List Str}
theorem AJ(w7:ws.length<=7)(d:Nat)(v0 v2:V){Q:List Nat}(hm:Q[m]?=some k){b:RL}{r:Rw}(hk:(lst b)[k]?=some r)(ok:fC ws cs b)(h9:hL b<=9){P:Str->Bool}(hN:Nm ws N P n)(h1:n<=1000)(v5 v6 v7 v8 v9:V)(τ:ac)(more:Bool)(hmore:decide ((m:Int) < ((Q.map nI).length:Int) - 1)=more)(hb:more=true->uR r=true) :
   X4 λN' g v6' v7'=>Nm ws N' (λx=>bif more then LT x r (df x (aJ (k+1) b) (P x)) else df x (aJ (k+1) b) (P x)) (n+14)/\aG prog.G (af prog (d+16)) (.var 5) jb (.int (m:Int)) (JR v0 (.d (pD Q)) v2 (.d (.tuple (am b))) (.d (.list (N.map .str))) v5 v6 v7 v8 v9) τ=.ok (.next (JR v0 (.d (pD Q)) v2 (.d (.tuple (am (bif more then cG r else b)))) (.d (.list (N'.map .str))) (.d (.int (m:Int))) v6' v7' (.d (bp r)) v9)) (τ++g):=by
 have okB:fC ws cs (aJ (k+1) b):=vj ok;obtain⟨S,hS,eS⟩:=uk w7 okB (D:=d+16) (iv (Qu (vk h9) 2) (iv (by decide) (QK 16 d))) τ;refine(jj w7 9 _ (d+1) okB (vk h9) (τ++[.dct (dk S)])).elim λF q9=>?_;have hF:=q9.1;have eF:=q9.2;have fw:=λx (q:x∈F)=>bQ x _ okB ((hF.mem x).mp q);have c:=ey (G:=prog.G) (cf:=af prog (d+16)) (i:=9) (it:=.seq (.var 4)) (c:=.cmp .notIn (.var 9) (.var 7)) (e:=.var 9) (ρ:=(JR v0 (.d (pD Q)) v2 (.d (.tuple (am b))) (.d (.list (N.map .str))) (.d (.int (m:Int))) (.d (.tuple (am (aJ (k+1) b)))) (.loc τ.length) v8 v9)) (σ:=(τ++[Cell.dct (dk S)])++[Cell.dct (dk F)]) (aa:=(τ++[Cell.dct (dk S)])++[Cell.dct (dk F)]) (base:=N.map .str) PyData.str PyData.str (λx=>!decide (x∈S)) (ps:=N) (aZ rfl rfl) (λp hp=>bJ rfl rfl (lY (we ..) p)) (λp hp _=>rfl);have l1:F.length+(N.filter λx=>!decide (x∈S)).length<=n+7:=by rw[QW];exact Ra (iv (Rz ..) hN.len) (hF.few w7 λx=>bQ x _ okB)
 have ad:=jv (a:=F.map PyData.str) (b:=(N.filter λx=>!decide (x∈S)).map .str) (by rw[PN,PN];exact iv l1 (iv (Qu h1 7) (by decide))) ((τ++[Cell.dct (dk S)])++[Cell.dct (dk F)]);replace ad:=Qv▸ad;have hN1:Nm ws (F++N.filter λx=>!decide (x∈S)) (λx=>df x (aJ (k+1) b) (P x)) (n+7):=by refine⟨λx=>?_,λx hx=>(Qx.mp hx).elim (fw x) λq=>hN.inw x (Q1.mp q).1,by rw[Qg];exact l1⟩;unfold df;rw[Qx,Q1,hF.mem x,hN.mem x,QS,Qn,Rg,Rg,decide_eq_false_iff_not,hS.mem x,SS];exact or_congr Iff.rfl and_comm
 generalize F++(N.filter λx=>!decide (x∈S))=N1 at ad hN1;have R:=dn prog.G (af prog (d+16)) jb (JR v0 (.d (pD Q)) v2 (.d (.tuple (am b))) (.d (.list (N.map .str))) (.d (.int (m:Int))) v6 v7 v8 v9) τ;have gr:=λσ=>fk ((cF _ k).trans hk) σ;have hq:=λσ=>dp Q hm σ;have as2:(τ++[Cell.dct (dk S)])++[Cell.dct (dk F)]=τ++[Cell.dct (dk S),Cell.dct (dk F)]:=Qr ..;have up:Nm ws N1 (λx=>df x (aJ (k+1) b) (P x)) (n+14):={ hN1 with len:=iv hN1.len (QR (by decide) n) }
 cases more with
 | false=>refine⟨N1,[.dct (dk S),.dct (dk F)],.d (.tuple (am (aJ (k+1) b))),.loc τ.length,up,bc ?_⟩;exact as2▸(R 1149 (hq _) ((eA b k τ)) eS eF (gI (aB _ _)) c ad (hq _) (gr _) (bF hmore))
 | true=>
   cases r with
   | whn t b'=>refine⟨N1,[.dct (dk S),.dct (dk F)],.d (.tuple (am (aJ (k+1) b))),.loc τ.length,up,bc ?_⟩;exact as2▸(R 1149 (hq _) ((eA b k τ)) eS eF (gI (aB _ _)) c ad (hq _) (gr _) (bT hmore))
   | aga i b'=>
     have okr:=cg ok _ (Qp hk);by_cases h:i > 1
     . obtain⟨M,hM,eM⟩:=jj w7 9 b' (d+1) okr (ou (r:=.aga i b') (iv (iv (ca _ (Qp hk)) h9) (by decide))) ((τ++[Cell.dct (dk S)])++[Cell.dct (dk F)]);have m7:=hM.few w7 λx=>bQ x _ okr;have ad2:=jv (a:=N1.map PyData.str) (b:=M.map .str) (by rw[PN,PN];exact iv (Ra hN1.len m7) (iv (Qu h1 14) (by decide))) ((τ++[Cell.dct (dk S)])++[Cell.dct (dk F)]++[Cell.dct (dk M)]);rw[<- Qv] at ad2;have as3:(τ++[Cell.dct (dk S)])++[Cell.dct (dk F)]++[Cell.dct (dk M)]=τ++[Cell.dct (dk S),Cell.dct (dk F),Cell.dct (dk M)]:=by rw[Qr,Qr];rfl
       refine⟨N1++M,[.dct (dk S),.dct (dk F),.dct (dk M)],.d (.tuple (am (aJ (k+1) b))),.loc τ.length,⟨λx=>?_,λx hx=>(Qx.mp hx).elim (hN1.inw x) λq=>bQ x _ okr ((hM.mem x).mp q),by rw[Qg];exact(Ra hN1.len m7:_<=n+7+7)⟩,bc ?_⟩
       . show _↔(df x (aJ (k+1) b) (P x)||(decide (i > 1)&&aN x b'))=true;rw[Qx,hN1.mem x,hM.mem x,decide_eq_true h,RI,QS]
       . exact as3▸(R 1836157 (hq _) ((eA b k τ)) eS eF (gI (aB _ _)) c ad (hq _) (gr _) (bT hmore) (dT h) eM (gI (aB _ _)) ad2)
     . refine⟨N1,[.dct (dk S),.dct (dk F)],.d (.tuple (am (aJ (k+1) b))),.loc τ.length,{ up with mem:=λx=>?_ },bc ?_⟩
       . show _↔(df x (aJ (k+1) b) (P x)||(decide (i > 1)&&aN x b'))=true;rw[hN1.mem x,decide_eq_false h,Se,RW]
       . exact as2▸(R 263293 (hq _) ((eA b k τ)) eS eF (gI (aB _ _)) c ad (hq _) (gr _) (bT hmore) (dF h))
   | set _ _=>cases hb rfl
   | tell _=>cases hb rfl
   | call _ _ _=>cases hb rfl
theorem Lj(h:n - m=1):¬ ((m:Int) < (n:Int) - 1):=λq=>Sz (Nat.lt_sub_of_add_lt ((QW 1 m).symm▸QU.mp (Int.add_lt_of_lt_sub_right q):1+m < n)) h
theorem Li(h:n - m=k+1+1):(m:Int) < (n:Int) - 1:=Int.lt_sub_right_of_add_lt (QU.mpr (Nat.add_lt_of_lt_sub' (h▸Nat.succ_lt_succ (RY k):1 < n - m)))
theorem HJ(w7:ws.length<=7)(d:Nat)(v0 v2 v9:V)(Q:List Nat)(z:Nat)(rz:Rw)(σ:ac):∀ (pre:List Nat) (b c:RL) (N:List Str) (P:Str->Bool) (n:Nat) (g:ac) (m:Nat) (v5 v6 v7 v8:V),Pth b pre c->(lst c)[z]?=some rz->Q.drop m=pre++[z]->fC ws cs b->hL b<=9->Nm ws N P n->n+14 * pre.length<=1000->
   X7 λN' g' v3' v5' v6' v7' v8'=>Nm ws N' (λx=>l9 x b pre z (P x)) (n+14 * pre.length+14)/\aY (aG prog.G (af prog (d+16)) (.var 5) jb) ((List.range' m (pre.length+1)).map nI) (JR v0 (.d (pD Q)) v2 (.d (.tuple (am b))) (.d (.list (N.map .str))) v5 v6 v7 v8 v9) (σ++g)=.ok (.next (JR v0 (.d (pD Q)) v2 v3' (.d (.list (N'.map .str))) v5' v6' v7' v8' v9)) (σ++g'):=by
 intro xs_
 induction xs_ with
 | nil=>
   intro b c N P n g m v5 v6 v7 v8 hp hz hq ok h9 hN hl;refine kk λK k=>?_;cases hp;obtain⟨q1,q2⟩:=jX hq;have q3:¬ ((m:Int) < ((Q.map nI).length:Int) - 1):=by have:=congrArg List.length hq;rw[Rn] at this;rw[PN];exact Lj this
   obtain⟨N',g',v6',v7',h,e⟩:=AJ w7 d v0 v2 q1 hz ok h9 hN hl v5 v6 v7 v8 v9 (σ++g) false (decide_eq_false q3) (λq=>by injection q);rw[Qr] at e;refine k ?_;exact⟨N',g++g',_,_,v6',v7',_,h,aQ e rfl⟩
 | cons k ks ih_=>
   intro b c N P n g m v5 v6 v7 v8 hp hz hq ok h9 hN hl;cases hp with
   | @cons _ _ r _ _ hk hb hp=>
   refine kk λK k=>?_;obtain⟨q1,q2⟩:=jX hq;have q3:(m:Int) < ((Q.map nI).length:Int) - 1:=by have:=congrArg List.length hq;rw[Rn,Qg,QF] at this;rw[PN];exact Li (k:=ks.length) this
   have hr:=Qp hk;rw[QF,Nat.mul_succ,QW (14 * ks.length),<- QQ] at hl;obtain⟨Pa,Ff,ML,MK,h,e⟩:=AJ w7 d v0 v2 q1 hk ok h9 hN (iv (Qz _ _) (iv (Qz _ _) hl)) v5 v6 v7 v8 v9 (σ++g) true (decide_eq_true q3) (λ_=>hb);obtain⟨N',g',v3',v5',v6',v7',v8',h',ih⟩:=ih_ (cG r) c Pa _ (n+14) (g++Ff) (m+1) (.d (.int (m:Int))) ML MK (.d (bp r)) hp hz q2 (g9 (cg ok r hr)) (ou (iv (iv (ca r hr) h9) (by decide))) h hl;rw[<- Qr] at ih;refine k ?_;refine⟨N',g',v3',v5',v6',v7',v8',⟨λx=>?_,h'.inw,?_⟩,?_⟩
   . rw[iD hk];exact h'.mem x
   . rw[QF,Nat.mul_succ,QW (14 * ks.length),<- QQ];exact h'.len
   . rw[QF,TD];exact aQ e ih
theorem uo:∀ L:List Str,gU (L.map .str)=some L
 | []=>rfl
 | x::L=>by show (gU (L.map .str)).map (x::·)=_;rw[uo L];rfl
theorem xS(y:Str)(l:List Str):cn (y::l)=if y∈l then cn l else y::cn l:=rfl
theorem E0(x y:Str)(r:List Str):fJ x (y::r)=if jr y x then y::fJ x r else x::y::r:=rfl
theorem bg(x:Str):∀ l:List Str,x∈cn l↔x∈l
 | []=>Iff.rfl
 | y::l=>by
   rw[xS];by_cases h:y∈l
   . rw[if_pos h,bg x l,Qq];exact⟨.inr,λq=>q.elim (λe=>e▸h) id⟩
   . rw[if_neg h,Qq,bg x l,Qq]
theorem bL:∀ l:List Str,(cn l).Nodup
 | []=>SM
 | y::l=>by
   rw[xS];by_cases h:y∈l
   . rw[if_pos h];exact bL l
   . rw[if_neg h];exact RB.mpr ⟨λq=>h ((bg y l).mp q),bL l⟩
theorem uK(x y:Str):∀ l:List Str,x∈fJ y l↔x=y\/x∈l
 | []=>Qq
 | a::l=>by
   rw[E0];cases jr a y with
   | true=>rw[if_pos rfl,Qq,uK x y l,Qq];exact or_left_comm
   | false=>rw[if_neg QB,Qq]
theorem l5(x:Str):∀ l:List Str,x∈bW l↔x∈l
 | []=>Iff.rfl
 | y::l=>(uK x y _).trans (by rw[l5 x l,Qq])
theorem BW(n:Nat):b9 1 ((n+1:Nat):Int)=(List.range' 1 n).map nI:=by unfold b9;rw[List.range'_eq_map_range,Rj,show (((n+1:Nat):Int) - 1).toNat=n from congrArg Int.toNat (fZ n)];refine Sk λk _=>?_;show PyData.int (1+(k:Int))=.int ((1+k:Nat):Int);rw[Int.natCast_add];rfl
theorem oq(w7:ws.length<=7)(hj:fs[j]?=some f)(of:okF ws cs f)(hp:Pth f.rs pre c)(hz:(lst c)[z]?=some r)(d:Nat)(σ:ac):X2 λ(L:List Str) (N:List Str)=>A3 (∀ x,x∈L↔l9 x f.rs pre z (decide (x∈cC f.t))=true) (L=bW (cn N)) (af prog (d+17) 12 [.d (.tuple (fs.map ay)),.d (pD (aX j pre z))] σ=.ok (.d (.list (L.map .str))) σ):=by
 refine kk λK k=>?_;obtain⟨N0,h0,e0⟩:=g8 of.t (d+12) σ;have hl:=iv (kh hp) of.h9;have hb:7+14 * pre.length<=133:=QR (RJ 14 hl) 7;obtain⟨N,g',v3',v5',v6',v7',v8',hN,lp⟩:=HJ w7 d (.d (.tuple (fs.map ay))) (.d (ay f)) .un (aX j pre z) z r σ pre f.rs c N0 _ 7 [] 1 .un .un .un .un hp hz rfl of.rs of.h9 (⟨λx=>by rw[h0.mem x,decide_eq_true_iff],λx hx=>of.t.1 x ((h0.mem x).mp hx),h0.few w7 of.t.1⟩:Nm ws N0 (λx=>decide (x∈cC f.t)) 7) (iv hb (by decide));rw[QG,<- BW] at lp;have so:yn .sortedSet false [.d (.list (N.map .str))] (σ++g')=.ok (.d (.list ((bW (cn N)).map .str))) (σ++g'):=by show oc (gU (N.map .str)) (λl=>if l.length < 2000/\(cn l).length < 64 then aM false ((bW (cn l)).map .str) (σ++g') else .bad) .bad=_;rw[uo];exact if_pos ⟨QN (iv hN.len (Qu hb 14)) (by decide),(QN (iv ((bL N).length_le_of_subset λx hx=>hN.inw x ((bg x N).mp hx)) w7) (by decide))⟩
 have ln:(aX j pre z).map nI=(aX j pre z).map nI:=rfl;have le:((aX j pre z).map nI).length=pre.length+1+1:=by rw[PN];exact congrArg (·+1) Qg
 rw[<- le] at lp;refine k ?_;refine⟨bW (cn N),N,λx=>by rw[l5,bg,hN.mem x],rfl,?_⟩;exact(a9 prog 12 (d+16) [.d (.tuple (fs.map ay)),.d (pD (aX j pre z))] σ rfl 19 (fy hj hp hz (d+13) σ) (dp (m:=0) (aX j pre z) rfl σ) (d9 hj σ) e0 (bf (E4 rfl rfl (⟨by decide,uA (by rw[le];exact iv (Qu hl 2) (by decide))⟩)) lp) so (bO ..))
theorem cS(l:List PyData)(k:Nat)(σ:ac):eB false (.d (.tuple l)) none (some (.d (.int (k:Int)))) σ=.ok (.d (.tuple (l.take k))) σ:=by rw[eQ _ _ eR (dY _),pU]
theorem yz(l:List PyData)(k m:Nat)(σ:ac):eB false (.d (.tuple l)) (some (.d (.int ((k:Int)+(m:Int))))) none σ=.ok (.d (.tuple (l.drop (k+m)))) σ:=by rw[eQ _ _ (dY _) eR];exact congrArg (λx=>Res.ok (V.d (.tuple x)) σ) (lj l (k+m))
theorem jH(l:List PyData)(k:Nat)(σ:ac):eB false (.d (.tuple l)) (some (.d (.int ((k:Int)+1)))) none σ=.ok (.d (.tuple (l.drop (k+1)))) σ:=yz l k 1 σ
theorem dS(k:Nat)(p:List Nat)(σ:ac):eB false (.d (pD (k::p))) (some (.d (.int 1))) none σ=.ok (.d (pD p)) σ:=jH ((k::p).map nI) 0 σ
theorem bx(k:Nat)(p:List Nat)(σ:ac):c8 (.d (pD (k::p))) (.d (.int 0)) σ=some (.d (.int (k:Int))):=cX (k:=0) ..
noncomputable def fg{α:Type}(m:Nat)(l:List α)(k:Nat)(news:List α):List α:=l.take k++news++l.drop (k+m)
noncomputable abbrev dB{α:Type}(l:List α)(k:Nat)(news:List α):List α:=fg 1 l k news
theorem wA{β:Type}(φ:α->β)(m:Nat)(l:List α)(k:Nat)(news:List α):(fg m l k news).map φ=fg m (l.map φ) k (news.map φ):=by unfold fg;rw[Qv,Qv,SG,S3]
theorem D5{β:Type}(φ:α->β)(l:List α)(k:Nat)(news:List α):(dB l k news).map φ=dB (l.map φ) k (news.map φ):=wA φ 1 l k news
theorem Bl(m:Nat)(l:List α)(k:Nat):(l.take k).length+(l.drop (k+m)).length<=l.length:=by have h:=congrArg List.length (Q2 k l);rw[Qg] at h;exact iv (QR (by rw[Rn,Rn];exact Nat.sub_le_sub_left (Qz k m) _) _) (Q4 h)
theorem IM(l:List α)(k:Nat):(l.take k).length+(l.drop (k+1)).length<=l.length:=Bl 1 l k
theorem p6{l news:List PyData}(h:l.length+news.length<=90000)(m k:Nat)(σ:ac):cZ .add false (.d (.tuple (l.take k))) (.d (.tuple news)) σ=.ok (.d (.tuple (l.take k++news))) σ/\cZ .add false (.d (.tuple (l.take k++news))) (.d (.tuple (l.drop (k+m)))) σ=.ok (.d (.tuple (fg m l k news))) σ:=by
 refine⟨gQ (iv (iv (Qu (T4 ..) _) h) (by decide)) σ,gQ ?_ σ⟩;have h2:(l.take k++news).length+(l.drop (k+m)).length<=(l.length+news.length)+0:=by rw[Qg,RN];exact Qu (Bl m l k) _
 exact iv h2 (iv h (by decide))
noncomputable def gW:Rw->RL->Rw
 | .whn t _,b=>.whn t b
 | .aga n _,b=>.aga n b
 | r,_=>r
noncomputable def bo(m:Nat)(news:RL)(z:Nat):RL->List Nat->RL
 | b,[]=>bu (fg m (lst b) z (lst news))
 | b,k::ks=>match (lst b)[k]? with
   | some r=>bu (dB (lst b) k [gW r (bo m news z (cG r) ks)])
   | none=>b
noncomputable abbrev Pi(news:RL)(z:Nat)(b:RL)(pre:List Nat):RL:=bo 1 news z b pre
theorem ia(m:Nat)(news:RL)(z:Nat)(b:RL):bo m news z b []=bu (fg m (lst b) z (lst news)):=rfl
theorem Dj(m:Nat)(news:RL)(z:Nat)(b:RL)(k:Nat)(ks:List Nat):bo m news z b (k::ks)=(match (lst b)[k]? with | some r=>bu (dB (lst b) k [gW r (bo m news z (cG r) ks)]) | none=>b):=rfl
theorem cQ(h:(lst b)[k]?=some r)(m:Nat)(news:RL)(z:Nat)(ks:List Nat):bo m news z b (k::ks)=bu (dB (lst b) k [gW r (bo m news z (cG r) ks)]):=by rw[Dj,h]
theorem sQ(m:Nat)(b:RL)(k:Nat)(news:List Rw):am (bu (fg m (lst b) k news))=fg m (am b) k (news.map bp):=by rw[j7,wA,<- fe]
def vG(f m:Nat)(news:RL)(z:Nat)(b:RL)(pre:List Nat)(d:Nat):Prop:=∀ σ,af prog d f [.d (.tuple (am b)),.d (pD (pre++[z])),.d (.int (m:Int)),.d (.tuple (am news))] σ=.ok (.d (.tuple (am (bo m news z b pre)))) σ
theorem lL(pre:List Nat)(k z:Nat):¬ (((k::(pre++[z])).map nI).length:Int)=1:=λq=>by rw[PN,QF,Qg] at q;exact absurd (Nat.succ.inj (S1.mp q)) (TB pre.length)
theorem ET(h:nL b<=9000)(hn:n<=9000):(am b).length+n<=90000:=iv (Ra (iv (iX b) h) hn) (by decide)
theorem GZ(m:Nat){news:RL}(hn:nL news<=9000)(z:Nat):∀ (pre:List Nat) (b:RL) (d:Nat),Pth b pre c->nL b<=9000->vG 13 m news z b pre (d+pre.length+1)/\vG 45 m news z b pre (d+pre.length+1):=by
 intro xs_
 induction xs_ with
 | nil=>
   intro b d _ h;have ra:=λσ=>p6 (ET h (iv (iX news) hn)) m z σ;have e:am (bo m news z b [])=fg m (am b) z (am news):=by rw[ia,sQ,<- fe]
   unfold vG;exact e▸(⟨λσ=>(a9 prog 13 d [.d (.tuple (am b)),.d (pD [z]),.d (.int (m:Int)),.d (.tuple (am news))] σ rfl 432 ((cS ..)) ((ra σ).1) ((yz ..)) ((ra σ).2) (same σ)),
     λσ=>(a9 prog 45 d [.d (.tuple (am b)),.d (pD [z]),.d (.int (m:Int)),.d (.tuple (am news))] σ rfl 432 ((cS ..)) ((ra σ).1) ((yz ..)) ((ra σ).2) (same σ))⟩)
 | cons k ks ih_=>
   intro b d hp h;cases hp with
   | @cons _ _ r _ _ hk hb hp=>
   obtain⟨i1,i2⟩:=ih_ (cG r) d hp (zS (Qp hk) h);have ra:=λx σ=>p6 (news:=[x]) (ET h (QM rfl)) 1 k σ;have e:am (bo m news z b (k::ks))=dB (am b) k [bp (gW r (bo m news z (cG r) ks))]:=by rw[cQ hk];exact sQ ..
   have gr:=λσ=>fk ((cF _ k).trans hk) σ;unfold vG;refine e▸?_;clear e;have R:=λσ=>a9 prog 13 (d+ks.length+1) [.d (.tuple (am b)),.d (pD (k::(ks++[z]))),.d (.int (m:Int)),.d (.tuple (am news))] σ rfl;have R':=λσ=>a9 prog 45 (d+ks.length+1) [.d (.tuple (am b)),.d (pD (k::(ks++[z]))),.d (.int (m:Int)),.d (.tuple (am news))] σ rfl;cases r with
   | whn t b'=>exact⟨λσ=>(R σ 13881 (bx ..) (dF (lL ks k z)) (gr σ) ((cS ..)) ((dS ..)) (i1 σ) ((ra _ σ).1) ((jH ..)) ((ra _ σ).2) (same σ)),λσ=>(R' σ 13529 (bx ..) (dF (lL ks k z)) (gr σ) ((dS ..)) (i2 σ) ((cS ..)) ((ra _ σ).1) ((jH ..)) ((ra _ σ).2) (same σ))⟩
   | aga n b'=>exact⟨λσ=>(R σ 13881 (bx ..) (dF (lL ks k z)) (gr σ) ((cS ..)) ((dS ..)) (i1 σ) ((ra _ σ).1) ((jH ..)) ((ra _ σ).2) (same σ)),λσ=>(R' σ 13529 (bx ..) (dF (lL ks k z)) (gr σ) ((dS ..)) (i2 σ) ((cS ..)) ((ra _ σ).1) ((jH ..)) ((ra _ σ).2) (same σ))⟩
   | set _ _=>injection hb
   | tell _=>injection hb
   | call _ _ _=>injection hb
noncomputable def gB(m:Nat)(news:RL)(pre:List Nat)(z:Nat)(f:Fd):Fd:={ f with rs:=bo m news z f.rs pre }
theorem na(m:Nat){news:RL}(hn:nL news<=9000)(hj:fs[j]?=some f)(h8:fs.length<=9)(hp:Pth f.rs pre c)(hf:nL f.rs<=9000)(h9:hL f.rs<=9)(d:Nat)(σ:ac):af prog (d+11) 14 [.d (.tuple (fs.map ay)),.d (pD (aX j pre z)),.d (.int (m:Int)),.d (.tuple (am news))] σ=.ok (.d (.tuple ((dB fs j [gB m news pre z f]).map ay))) σ/\
   af prog (d+11) 46 [.d (.tuple (fs.map ay)),.d (pD (aX j pre z)),.d (.int (m:Int)),.d (.tuple (am news))] σ=.ok (.d (.tuple ((dB fs j [gB m news pre z f]).map ay))) σ:=by
 refine kk λK k=>?_;obtain⟨e,he⟩:=nG (iv (kh hp) h9);obtain⟨i1,i2⟩:=GZ m hn z pre f.rs (d+e) hp hf;refine k ?_;have h10:d+e+pre.length+1=d+10:=by rw[QQ d e,<- he]
 rw[h10] at i1 i2;have ra:=p6 (l:=fs.map ay) (news:=[ay (gB m news pre z f)]) (by rw[PN];exact iv (Qu h8 1) (by decide)) 1 j σ;rw[D5];have gf:=d9 hj σ;exact⟨(a9 prog 14 (d+10) [.d (.tuple (fs.map ay)),.d (pD (aX j pre z)),.d (.int (m:Int)),.d (.tuple (am news))] σ rfl 895 (bx ..) gf ((dS ..)) (i1 σ) (bx ..) ((cS ..)) ra.1 (bx ..) ((jH ..)) ra.2 (same σ)),
   (a9 prog 46 (d+10) [.d (.tuple (fs.map ay)),.d (pD (aX j pre z)),.d (.int (m:Int)),.d (.tuple (am news))] σ rfl 3467 (bx ..) gf ((dS ..)) (i2 σ) ((cS ..)) ra.1 ((jH ..)) ra.2 (same σ))⟩
theorem Eu(cf:Nat->List V->ac->Res V)(x:Str)(v0:V)(σ:ac):∀ (fs:List Fd) (k:Nat) (v2 v3:V),x∈hX fs->aY (aG prog.G cf (.tup [2,3]) du) (((fs.map ay).zipIdx k).map λp=>.tuple [.int p.2,p.1]) [v0,.d (.str x),v2,v3] σ=.ok (.ret (.d (.int ((k+(hX fs).idxOf x:Nat):Int)))) σ:=by
 intro xs_
 induction xs_ with
 | nil=>intro k v2 v3 h;cases h
 | cons f fs ih_=>
   intro k v2 v3 h;have R:=dn prog.G cf du [v0,.d (.str x),.d (.int (k:Int)),.d (ay f)] σ;have e:hX (f::fs)=f.nm::hX fs:=rfl;rw[e] at h ⊢;by_cases q:f.nm=x
   . rw[q,T5];exact qv (cA rfl ((R 4 (dT q))))
   . rw[List.idxOf_cons,beq_false_of_ne q,cond_false,QW ((hX fs).idxOf x),<- QQ];exact aQ (cA rfl ((R 4 (dF q)))) (ih_ (k+1) (.d (.int (k:Int))) (.d (ay f)) ((Qq.mp h).resolve_left (Ne.symm q)))
theorem j2(h:x∈hX fs)(d:Nat)(σ:ac):af prog (d+1) 15 [.d (.tuple (fs.map ay)),.d (.str x)] σ=.ok (.d (.int ((hX fs).idxOf x:Nat))) σ:=by have lp:=Eu (af prog d) x (.d (.tuple (fs.map ay))) σ fs 0 .un .un h;rw[Q5] at lp;exact(a9 prog 15 d [.d (.tuple (fs.map ay)),.d (.str x)] σ rfl 0 (bf (mV rfl) lp) (same σ))
noncomputable def qF(ts:List Tm)(ps:List Str)(k:Nat):Bool:=match ts[k]?,ps[k]? with
 | some t,some p=>!(dl t).eqv (dl (.name p))
 | _,_=>false
noncomputable def gY(ts:List Tm)(ps:List Str):List Nat:=(List.range ts.length).filter (qF ts ps)
theorem AI(t:Tm)(p:Str)(σ:ac):bq .ne (.d (dl t)) (.d (.tuple [.str aK,.str p])) σ=some (!(dl t).eqv (dl (.name p))):=by show (LS (dl t) (.tuple [.str aK,.str p])).map _=_;rw[iH (iv (R7 _ _) (QM rfl))];rfl
variable {ts:List Tm}
theorem AS(hl:ts.length=ps.length)(hk:k < ts.length):X2 λt p=>A3 (ts[k]?=some t) (ps[k]?=some p) (qF ts ps k=!(dl t).eqv (dl (.name p))):=by have h1:ts[k]?=some ts[k]:=Qk hk;have h2:ps[k]?=some (ps[k]'(hl▸hk)):=Qk (hl▸hk);exact⟨_,_,h1,h2,by unfold qF;rw[h1,h2]⟩
theorem E2(h:ts[k]?=some t)(σ:ac):c8 (.d (.tuple (ts.map dl))) (.d (.int (k:Int))) σ=some (.d (dl t)):=by rw[cX,Q0,h];rfl
theorem Ly{p:Str}(h:ps[k]?=some p)(σ:ac):c8 (.d (.tuple (ps.map .str))) (.d (.int (k:Int))) σ=some (.d (.str p)):=by rw[cX,Q0,h];rfl
variable {ds:List PyData}
theorem IQ{l:List Nat}{c:E}{b:Bool}{y:PyData}(hl:l.length=ds.length)(hc:ag G cf c (b8 l ds ρ) σ=.ok (.d (.bool b)) σ)(h:b=true->ag G cf e (b8 l ds ρ) σ=.ok (.d y) σ):lD G cf (.tup l) (.yes c) e ρ (.tuple ds) σ=.ok (if b then some y else none) σ:=by
 have eb:fz (.tup l) (.tuple ds) ρ=some (b8 l ds ρ):=if_pos hl;unfold lD;rw[eb];show (dg G cf (.yes c) (b8 l ds ρ) σ).bind _=_;rw[Jp hc,s0];cases b with
 | true=>show (ag G cf e (b8 l ds ρ) σ).bind _=_;rw[h rfl];rfl
 | false=>rfl
variable {g:Fd}{o:Option Str}{fn:Str}
theorem eI(hl:ts.length=g.ps.length)(d:Nat)(σ:ac):af prog (d+1) 16 [.d (bp (.call o fn ts)),.d (ay g)] σ=.ok (.d (.list ((gY ts g.ps).map nI))) σ:=by
 have c:=ud (G:=prog.G) (cf:=af prog d) (m:=false) (t:=.tup [2,3]) (it:=.enum (.idx (.var 1) (.int 1))) (c:=.yes (.cmp .ne (.idx (.idx (.var 0) (.int 3)) (.var 2)) (.tup (.cons (.str aK) (.cons (.var 3) .nil))))) (e:=.var 2) (ρ:=[.d (bp (.call o fn ts)),.d (ay g),.un,.un]) (σ:=σ) (aa:=σ) (mV rfl) (mt (λp:PyData×Nat=>.tuple [.int p.2,p.1]) (λp=>if qF ts g.ps p.2 then some (nI p.2) else none) ((g.ps.map PyData.str).zipIdx) λp hp=>by
   have hk:=List.mem_zipIdx hp;obtain⟨t,q,h1,h2,h3⟩:=AS hl (k:=p.2) (by rw[hl];have:=hk.2.1;rw[PN,Q5] at this;exact this);have e:p.1=.str q:=by
     have:=hk.2.2;have h4:(g.ps.map PyData.str)[p.2]?=some (.str q):=by rw[Q0,h2];rfl
     rw[this];exact Option.some.inj ((Qk _).symm.trans h4)
   rw[e,h3];exact IQ rfl (bJ (bI rfl rfl (E2 h1 _)) rfl (AI ..)) λ_=>rfl)
 have e:(((g.ps.map PyData.str).zipIdx).filterMap λp=>if qF ts g.ps p.2 then some (nI p.2) else none)=(gY ts g.ps).map nI:=by
   rw[FI (λp:PyData×Nat=>qF ts g.ps p.2) (λp=>nI p.2)];have h1:((g.ps.map PyData.str).zipIdx).map (·.2)=List.range ts.length:=by rw[List.zipIdx_map_snd,PN,hl,SJ]
   unfold gY;rw[<- h1,List.filter_map,Rj];rfl
 rw[e] at c;exact(a9 prog 16 d [.d (bp (.call o fn ts)),.d (ay g)] σ rfl 0 c (same σ))
noncomputable def pX(ts:List Tm)(ps:List Str)(k:Nat):Rw:=match ts[k]?,ps[k]? with
 | some t,some p=>.set p t
 | _,_=>.tell (.num 0)
noncomputable def tD(o:Option Str)(t:Tm):List Rw:=match o with
 | some y=>if (dl t).eqv (dl (.name y)) then [] else [.set y t]
 | none=>[]
variable {y:Str}
theorem AQ(h:(dl t).eqv (dl (.name y))=true):tD (some y) t=[]:=if_pos h
theorem HX(h:(dl t).eqv (dl (.name y))=false):tD (some y) t=[.set y t]:=if_neg (by rw[h];exact QB)
noncomputable def wR(o:Option Str)(ts:List Tm)(g:Fd):RL:=bu ((gY ts g.ps).map (pX ts g.ps)++lst g.rs++tD o g.t)
theorem HZ(h:k∈gY ts ps):k < ts.length:=RV.mp (Q1.mp h).1
theorem EW(ts:List Tm)(ps:List Str):(gY ts ps).length<=ts.length:=iv (Rz ..) (Q4 RU)
theorem BQ{a b:Nat}(hl:ts.length=g.ps.length)(h1:ag prog.G cf e ρ σ=.ok (.d (.list ((gY ts g.ps).map nI))) σ)(ha:∀ k σ,ag prog.G cf (.var a) (ρ.set i (.d (nI k))) σ=.ok (.d (ay g)) σ)(hb:∀ k σ,ag prog.G cf (.var b) (ρ.set i (.d (nI k))) σ=.ok (.d (bp (.call o fn ts))) σ)(hi:∀ k σ,ag prog.G cf (.var i) (ρ.set i (.d (nI k))) σ=.ok (.d (nI k)) σ) :
   ag prog.G cf (.comp false (.var i) (.seq e) .no (.tup (.cons (.str ny) (.cons (.idx (.idx (.var a) (.int 1)) (.var i)) (.cons (.idx (.idx (.var b) (.int 3)) (.var i)) .nil))))) ρ σ=.ok (.d (.list (((gY ts g.ps).map (pX ts g.ps)).map bp))) σ:=by
 rw[Rj];exact nh nI (λk=>bp (pX ts g.ps k)) (aZ h1 rfl) λk hk=>by
   obtain⟨t,p,h1,h2,h3⟩:=AS hl (HZ hk);have e:pX ts g.ps k=.set p t:=by unfold pX;rw[h1,h2]
   rw[e];exact Jb (jc rfl (jc (bI (bI (ha k _) rfl rfl) (hi k _) (Ly h2 _)) (ma (bI (bI (hb k _) rfl rfl) (hi k _) (E2 h1 _))))) rfl
theorem BH(o:Option Str)(ts:List Tm)(g:Fd):am (wR o ts g)=(((gY ts g.ps).map (pX ts g.ps)).map bp++am g.rs)++(tD o g.t).map bp:=by unfold wR;rw[j7,Qv,Qv,<- fe]
theorem Ez(h4:ts.length<=7)(hn:nL g.rs<=600)(σ:ac):cZ .add false (.d (.tuple (((gY ts g.ps).map (pX ts g.ps)).map bp))) (.d (.tuple (am g.rs))) σ=.ok (.d (.tuple (((gY ts g.ps).map (pX ts g.ps)).map bp++am g.rs))) σ/\∀ x,cZ .add false (.d (.tuple (((gY ts g.ps).map (pX ts g.ps)).map bp++am g.rs))) (.d (.tuple [x])) σ=.ok (.d (.tuple ((((gY ts g.ps).map (pX ts g.ps)).map bp++am g.rs)++[x]))) σ:=by
 have h:(((gY ts g.ps).map (pX ts g.ps)).map bp).length+(am g.rs).length<=607:=by rw[PN,PN];exact Ra (iv (EW ..) h4) (iv (iX _) hn)
 exact⟨gQ (iv h (by decide)) σ,λx=>gQ (by rw[Qg];exact iv (QE h) (by decide)) σ⟩
theorem sJ{o:Option Str}{fn:Str}{g:Fd}(hl:ts.length=g.ps.length)(h4:ts.length<=7)(hn:nL g.rs<=600)(d:Nat)(σ:ac):af prog (d+2) 17 [.d (bp (.call o fn ts)),.d (ay g)] σ=.ok (.d (.tuple (am (wR o ts g)))) σ:=by
 have c:=BQ (cf:=af prog (d+1)) (ρ:=[.d (bp (.call o fn ts)),.d (ay g),.un,.un]) (σ:=σ) (i:=3) (a:=1) (b:=0) (e:=.call 16 (.cons (.var 0) (.cons (.var 1) .nil))) (o:=o) (fn:=fn) hl (aD rfl (eI hl d σ)) (λ_ _=>rfl) (λ_ _=>rfl) (λ_ _=>rfl);obtain⟨a1,a2⟩:=Ez (g:=g) h4 hn σ;have R:=a9 prog 17 (d+1) [.d (bp (.call o fn ts)),.d (ay g)] σ rfl;rw[BH];cases o with
 | none=>refine(?_:_=Res.ok (V.d (.tuple (_++[]))) σ);rw[QG];exact(R 4 c a1 (same σ))
 | some y=>
   have ne:=AI g.t y σ;cases h:(dl g.t).eqv (dl (.name y)) with
   | true=>rw[h] at ne;rw[AQ h,R2,QG];exact(R 516 c a1 ne (same σ))
   | false=>rw[h] at ne;rw[HX h];exact(R 8708 c a1 ne (a2 _) (same σ))
noncomputable def GO(x:Str):Rw->Bool
 | .call _ f _=>decide (f=x)
 | _=>false
mutual
noncomputable def IY:Rw->List Rw
 | .whn _ b=>ng b
 | .aga _ b=>ng b
 | .set _ _=>[]
 | .tell _=>[]
 | .call _ _ _=>[]
noncomputable def ng:RL->List Rw
 | .nil=>[]
 | .cons r b=>r::(IY r++ng b)
end
mutual
theorem Hz(pl:List Nat):∀ r:Rw,(nJ pl r).map (·.2)=IY r
 | .whn _ b=>gE pl 0 b
 | .aga _ b=>gE pl 0 b
 | .set _ _=>rfl
 | .tell _=>rfl
 | .call _ _ _=>rfl
theorem gE(pl:List Nat)(k:Nat):∀ b:RL,(eu pl k b).map (·.2)=ng b
 | .nil=>rfl
 | .cons r b=>by
   show r::(nJ (pl++[k]) r++eu pl (k+1) b).map (·.2)=r::(IY r++ng b)
   rw[Qv,Hz (pl++[k]) r,gE pl (k+1) b]
end
noncomputable def jh(x:Str)(fs:List Fd):Bool:=fs.any λf=>(ng f.rs).any (GO x)
theorem IP(B:SL)(hB:B=dv)(cf:Nat->List V->ac->Res V)(x:Str)(v0 v2:V)(σ:ac):∀ (L:List (List Nat×Rw)) (v3 v4:V),X2 λv3' v4'=>aY (aG prog.G cf (.tup [3,4]) B) (L.map a4) (F5 v0 (.d (.str x)) v2 v3 v4) σ=js ((L.map (·.2)).any (GO x)) (.ok (.ret (.d (.bool true))) σ) (.ok (.next (F5 v0 (.d (.str x)) v2 v3' v4')) σ):=by
 intro xs_
 induction xs_ with
 | nil=>intro v3 v4;exact⟨v3,v4,rfl⟩
 | cons p L ih_=>
   intro v3 v4;obtain⟨v3',v4',ih⟩:=ih_ (.d (pD p.1)) (.d (bp p.2));have st:aG prog.G cf (.tup [3,4]) B (a4 p) (F5 v0 (.d (.str x)) v2 v3 v4) σ=js (GO x p.2) (.ok (.ret (.d (.bool true))) σ) (.ok (.next (F5 v0 (.d (.str x)) v2 (.d (pD p.1)) (.d (bp p.2)))) σ):=by
     clear ih;obtain⟨q,r⟩:=p;refine cA rfl ?_;have R:=dn prog.G cf dv (F5 v0 (.d (.str x)) v2 (.d (pD q)) (.d (bp r))) σ;have go:execs prog.G cf dv (F5 v0 (.d (.str x)) v2 (.d (pD q)) (.d (bp r))) σ=js (GO x r) (.ok (.ret (.d (.bool true))) σ) (.ok (.next (F5 v0 (.d (.str x)) v2 (.d (pD q)) (.d (bp r)))) σ):=by
       cases r with
       | call o f ts=>
         show _=js (decide (f=x)) _ _;by_cases h:f=x
         . rw[decide_eq_true h];exact(R 64 (dT h))
         . rw[decide_eq_false h];exact(R 64 (dF h))
       | set _ _=>exact(R 0)
       | tell _=>exact(R 0)
       | whn _ _=>exact(R 0)
       | aga _ _=>exact(R 0)
     rw[hB];exact go
   refine⟨v3',v4',?_⟩;refine(?_:_=js (GO x p.2||(L.map (·.2)).any (GO x)) _ _);cases h:GO x p.2 with
   | true=>rw[h] at st;exact qv st
   | false=>rw[h] at st;exact aQ st ih
theorem H6(d:Nat)(x:Str)(v0:V)(σ:ac):∀ (fs:List Fd) (v2 v3 v4:V),(∀ f∈fs,hL f.rs<=18/\nL f.rs<=9000)->X3 λv2' v3' v4'=>aY (aG prog.G (af prog (d+21)) (.var 2) kY) (fs.map ay) (F5 v0 (.d (.str x)) v2 v3 v4) σ=js (jh x fs) (.ok (.ret (.d (.bool true))) σ) (.ok (.next (F5 v0 (.d (.str x)) v2' v3' v4')) σ):=by
 intro xs_
 induction xs_ with
 | nil=>intro v2 v3 v4 _;exact⟨v2,v3,v4,rfl⟩
 | cons f fs ih_=>
   intro v2 v3 v4 h;refine kk λK k=>?_;obtain⟨h1,h2⟩:=h f (Qh ..);obtain⟨Ds,wc,lp⟩:=IP dv rfl (af prog (d+21)) x v0 (.d (ay f)) σ (eu [] 0 f.rs) v3 v4;rw[gE] at lp;obtain⟨v2',v3',v4',ih⟩:=ih_ (.d (ay f)) Ds wc λg hg=>h g (Qj _ hg);refine k ?_;have it:=aZ (G:=prog.G) (cf:=af prog (d+21)) (e:=.call 7 (.cons (.tup .nil) (.cons (.idx (.var 2) (.int 2)) .nil))) (ρ:=(F5 v0 (.d (.str x)) (.d (ay f)) v3 v4)) (aD rfl (j1 18 f.rs [] d h1 h2 (by decide) σ)) rfl;refine⟨v2',v3',v4',?_⟩;refine(?_:_=js ((ng f.rs).any (GO x)||jh x fs) _ _);cases q:(ng f.rs).any (GO x) with
   | true=>rw[q] at lp;exact qv (bc (io (bf it lp)))
   | false=>rw[q] at lp;exact aQ (bc (a7 (bf it lp) rfl)) ih
theorem rE(h:∀ f∈fs,hL f.rs<=18/\nL f.rs<=9000)(x:Str)(d:Nat)(σ:ac):af prog (d+22) 23 [.d (.tuple (fs.map ay)),.d (.str x)] σ=.ok (.d (.bool (jh x fs))) σ:=by
 obtain⟨v2',v3',v4',lp⟩:=H6 d x (.d (.tuple (fs.map ay))) σ fs .un .un .un h;cases q:jh x fs with
 | true=>rw[q] at lp;exact(a9 prog 23 (d+21) [.d (.tuple (fs.map ay)),.d (.str x)] σ rfl 0 (bf (aZ rfl rfl) lp) (same σ))
 | false=>rw[q] at lp;exact(a9 prog 23 (d+21) [.d (.tuple (fs.map ay)),.d (.str x)] σ rfl 0 (bf (aZ rfl rfl) lp) (same σ))
variable {f:PyData->Fm->ac->Res Out}
theorem qB(φ:α->PyData)(Fr:Fm->Prop)(C:α->Prop)(val:α->V->Prop)(σ:ac):∀ (xs:List α) (ρ:Fm),(∀ x∈xs,∀ ρ,Fr ρ->(∃ ρ',A3 (Fr ρ') (¬ C x) (f (φ x) ρ σ=.ok (.next ρ') σ))\/∃ v,A3 (C x) (val x v) (f (φ x) ρ σ=.ok (.ret v) σ))->Fr ρ->
   (∃ ρ',A3 (Fr ρ') ((∀ x∈xs,¬ C x)) (aY f (xs.map φ) ρ σ=.ok (.next ρ') σ))\/X2 λx v=>A4 (x∈xs) (C x) (val x v) (aY f (xs.map φ) ρ σ=.ok (.ret v) σ):=by
 intro xs_
 induction xs_ with
 | nil=>intro ρ _ h;exact .inl ⟨ρ,h,(λx hx=>by cases hx),rfl⟩
 | cons x xs ih_=>
   intro ρ H h;rcases H x (Qh ..) ρ h with ⟨bH,a5,n,e⟩ | ⟨v,c,q,e⟩
   . rcases ih_ bH (λy hy=>H y (Qj _ hy)) a5 with ⟨pq,fK,m,kP⟩ | ⟨y,v,hy,c,q,kP⟩
     . exact .inl ⟨pq,fK,λy hy=>(Qq.mp hy).elim (λe=>e▸n) (m y),aQ e kP⟩
     . exact .inr ⟨y,v,Qj _ hy,c,q,aQ e kP⟩
   . exact .inr ⟨x,v,Qh ..,c,q,qv e⟩
theorem ze{β:Type}(φ:α->PyData)(D:β->PyData)(Fr:Fm->Prop)(g:α->List β)(w:Nat)(σ:ac):∀ (xs:List α) (ρ:Fm) (L:List β),(∀ x∈xs,(g x).length<=w/\∀ ρ L,Fr ρ->L.length+w<=900000->∃ ρ',Fr ρ'/\f (φ x) ρ (σ++[.lst (L.map D)])=.ok (.next ρ') (σ++[.lst ((L++g x).map D)]))->Fr ρ->L.length+xs.length * w<=900000->∃ ρ',Fr ρ'/\aY f (xs.map φ) ρ (σ++[.lst (L.map D)])=.ok (.next ρ') (σ++[.lst ((L++xs.flatMap g).map D)]):=by
 intro xs_
 induction xs_ with
 | nil=>intro ρ L _ h _;exact⟨ρ,h,by rw[List.flatMap_nil,QG];rfl⟩
 | cons x xs ih_=>intro ρ L H h hl;refine kk λK k=>?_;rw[QF,Ts,QW _ w,<- QQ] at hl;obtain⟨hw,hx⟩:=H x (Qh ..);obtain⟨bH,a5,e⟩:=hx ρ L h (RS hl);obtain⟨pq,fK,kP⟩:=ih_ bH (L++g x) (λy hy=>H y (Qj _ hy)) a5 (by rw[Qg];exact iv (Qu (QR hw _) _) hl);rw[Qr,<- Tb] at kP;refine k ?_;exact⟨pq,fK,aQ e kP⟩
mutual
theorem KP(pl:List Nat):∀ r:Rw,ls ws cs r->∀ p∈nJ pl r,ls ws cs p.2
 | .set _ _=>@λ_ _ hp=>absurd hp Re
 | .tell _=>@λ_ _ hp=>absurd hp Re
 | .call _ _ _=>@λ_ _ hp=>absurd hp Re
 | .whn _ b=>@λh p hp=>mP pl 0 b h.2 p hp
 | .aga _ b=>@λh p hp=>mP pl 0 b h p hp
theorem mP(pl:List Nat)(k:Nat):∀ b:RL,fC ws cs b->∀ p∈eu pl k b,ls ws cs p.2
 | .nil=>@λ_ _ hp=>absurd hp Re
 | .cons r b=>@λh p hp=>by
   rcases Qq.mp hp with e | hp
   . rw[e];exact h.1
   . exact(Qx.mp hp).elim (KP _ r h.1 p) (mP pl (k+1) b h.2 p)
end
noncomputable def Bw(f:Fd)(x:Str):Bool:=!decide (x∈f.ps)&&(aN x f.rs||(!bz x f.rs&&decide (x∈cC f.t)))
theorem B9(L:List Str)(x:Str)(σ:ac):bq .notIn (.d (.str x)) (.d (.tuple (L.map .str))) σ=some (!decide (x∈L)):=by rw[pj,Lu,mz];rfl
theorem x8(b:α->Bool):∀ L:List α,eg (L.map λx=>.bool (b x))=some (L.map b)
 | []=>rfl
 | x::L=>by show (eg (L.map λx=>.bool (b x))).map (b x::·)=_;rw[x8 b L];rfl
mutual
theorem Fy(x:Str):∀ r:Rw,qN x r=true->x∈own r\/∃ q∈IY r,x∈own q
 | .set _ _=>@λh=>.inl (of_decide_eq_true h)
 | .tell _=>@λh=>.inl (of_decide_eq_true h)
 | .call _ _ _=>@λh=>.inl (of_decide_eq_true h)
 | .whn _ b=>@λh=>(QS.mp h).imp of_decide_eq_true (kE x b)
 | .aga _ b=>@λh=>.inr (kE x b (Qn.mp h).2)
theorem kE(x:Str):∀ b:RL,aN x b=true->∃ q∈ng b,x∈own q
 | .cons r b,h=>by
   rcases QS.mp h with h | h
   . rcases Fy x r h with h | ⟨q,hq,h⟩
     . exact⟨r,Qh ..,h⟩
     . exact⟨q,Qj _ (RP _ hq),h⟩
   . obtain⟨q,hq,h⟩:=kE x b (Qn.mp h).2;exact⟨q,Qj _ (RM _ hq),h⟩
end
theorem Mg(h:r∈ng b)(pl:List Nat)(k:Nat):∃ p∈eu pl k b,p.2=r:=by rw[<- gE pl k b] at h;exact QV.mp h
theorem wX:∀ (p q:List Nat),∃ b,AN (p.map nI) (q.map nI)=some b
 | [],[]=>⟨_,rfl⟩
 | [],_::_=>⟨_,rfl⟩
 | _::_,[]=>⟨_,rfl⟩
 | a::p,b::q=>by
   show ∃ c,(if (a:Int)=(b:Int) then AN (p.map nI) (q.map nI) else some (decide ((a:Int) < (b:Int))))=some c;by_cases h:(a:Int)=(b:Int)
   . rw[if_pos h];exact wX p q
   . rw[if_neg h];exact⟨_,rfl⟩
theorem tj(k:Str)(v:PyData)(x:Str):∀ kvs:List (Str×PyData),(ek k v kvs).lookup x=if x=k then some v else kvs.lookup x:=by
 have rep:∀ kvs:List (Str×PyData),(kvs.map λy=>if y.1=k then (y.1,v) else y).lookup x=if x=k then (if kvs.any (λy=>decide (y.1=k)) then some v else none) else kvs.lookup x:=λkvs=>by
   induction kvs with
   | nil=>exact(ite_self _).symm
   | cons a l ih=>
     obtain⟨y,w⟩:=a;rw[Q6];by_cases h:y=k
     . rw[if_pos h,QD,ih,Th,decide_eq_true h,Bool.true_or,if_pos rfl,QD,h];by_cases q:x=k
       . rw[if_pos q,if_pos q,beq_iff_eq.mpr q]
       . rw[if_neg q,if_neg q,beq_false_of_ne q]
     . rw[if_neg h,QD,ih,Th,decide_eq_false h,SF,QD];by_cases q:x=k
       . rw[if_pos q,if_pos q,beq_false_of_ne λe=>h (e.symm.trans q)]
       . rw[if_neg q,if_neg q]
 have no:∀ kvs:List (Str×PyData),kvs.any (λy=>decide (y.1=k))=false->kvs.lookup k=none:=λkvs h=>by
   induction kvs with
   | nil=>rfl
   | cons a l ih=>obtain⟨y,w⟩:=a;rw[Th,SH] at h;rw[QD,beq_false_of_ne λe=>of_decide_eq_false h.1 e.symm];exact ih h.2
 intro kvs;unfold ek;cases h:kvs.any λy=>decide (y.1=k) with
 | true=>rw[if_pos rfl,rep,h,if_pos rfl]
 | false=>
   rw[if_neg QB,List.lookup_append,QD];by_cases q:x=k
   . rw[if_pos q,q,no kvs h,beq_self_eq_true];rfl
   . rw[if_neg q,beq_false_of_ne q];exact Option.or_none
theorem mZ(k x:Str):∀ kvs:List (Str×PyData),(kvs.filter λy=>!decide (y.1=k)).lookup x=if x=k then none else kvs.lookup x
 | []=>(ite_self _).symm
 | (y,w)::l=>by
   rw[TG];by_cases h:y=k
   . rw[decide_eq_true h,SE,if_neg QB,mZ k x l,QD];by_cases q:x=k
     . rw[if_pos q,if_pos q]
     . rw[if_neg q,if_neg q,beq_false_of_ne λe=>q (e.trans h)]
   . rw[decide_eq_false h,Bool.not_false,if_pos rfl,QD,mZ k x l,QD];by_cases q:x=k
     . rw[if_pos q,if_pos q,beq_false_of_ne λe=>h (e.symm.trans q)]
     . rw[if_neg q,if_neg q]
theorem Ea(k:Str)(v:PyData)(kvs:List (Str×PyData)):(ek k v kvs).length<=kvs.length+1:=by
 unfold ek;cases kvs.any λx=>decide (x.1=k) with
 | true=>rw[if_pos rfl,PN];exact S7 _
 | false=>rw[if_neg QB,Qg];exact QP _
abbrev JP:=List (List Nat×Option Str)
structure Dm(kvs:List (Str×PyData))(G:JP):Prop where
 some:∀ x v,kvs.lookup x=some v->∃ q,v=pD q/\(q,Option.some x)∈G
 none:∀ x,kvs.lookup x=none->∀ q,(q,Option.some x)∉G
 len:kvs.length<=G.length
variable {kvs:List (Str×PyData)}
theorem Dm.put{G:JP}(h:Dm kvs G)(k:Str)(q:List Nat):Dm (ek k (pD q) kvs) (G++[(q,Option.some k)]):=by
 refine⟨λx v e=>?_,λx e p m=>?_,by exact Qg▸iv (Ea ..) (QE h.len)⟩
 . rw[tj] at e;by_cases c:x=k
   . rw[if_pos c] at e;exact⟨q,(Option.some.inj e).symm,c▸RM _ (Qt.mpr rfl)⟩
   . rw[if_neg c] at e;obtain⟨p,h1,h2⟩:=h.some x v e;exact⟨p,h1,RP _ h2⟩
 . rw[tj] at e;by_cases c:x=k
   . rw[if_pos c] at e;injection e
   . rw[if_neg c] at e;rcases l6 m with m | m
     . exact h.none x e p m
     . exact c (Option.some.inj (congrArg Prod.snd m))
theorem Dm.skip{G:JP}(h:Dm kvs G)(q:List Nat)(o:Option Str)(ho:∀ x,o=Option.some x->(kvs.lookup x).isSome=true):Dm kvs (G++[(q,o)]):=by
 refine⟨λx v e=>?_,λx e p m=>?_,by rw[Qg];exact iv h.len (Qz _ _)⟩
 . obtain⟨p,h1,h2⟩:=h.some x v e;exact⟨p,h1,RP _ h2⟩
 . rcases l6 m with m | m
   . exact h.none x e p m
   . have:=ho x (congrArg Prod.snd m).symm;rw[e] at this;injection this
variable {x:PyData}
theorem DU{o i:E}{k:Str}(h1:ag prog.G cf e ρ (σ++[.dct kvs])=.ok (.d x) (σ++[.dct kvs]))(h2:ag prog.G cf o ρ (σ++[.dct kvs])=.ok (.loc σ.length) (σ++[.dct kvs]))(h3:ag prog.G cf i ρ (σ++[.dct kvs])=.ok (.d (.str k)) (σ++[.dct kvs]))(hl:kvs.length<=9000):exec prog.G cf (.put o i e) ρ (σ++[.dct kvs])=.ok (.next ρ) (σ++[.dct (ek k x kvs)]):=by refine(Ji h1 h2 h3 (aB _ _) (QN hl (by decide))).trans ?_;rw[ij]
theorem tW(φ:α->PyData)(Fr:Fm->Prop)(γ:α->List Nat×Option Str)(σ:ac):∀ (xs:List α) (ρ:Fm) (kvs:List (Str×PyData)) (G:JP),(∀ x∈xs,∀ ρ kvs G,Fr ρ->Dm kvs G->G.length<=9000->X2 λρ' kvs'=>A3 (Fr ρ') (Dm kvs' (G++[γ x])) (f (φ x) ρ (σ++[.dct kvs])=.ok (.next ρ') (σ++[.dct kvs'])))->Fr ρ->Dm kvs G->G.length+xs.length<=9000->X2 λρ' kvs'=>A3 (Fr ρ') (Dm kvs' (G++xs.map γ)) (aY f (xs.map φ) ρ (σ++[.dct kvs])=.ok (.next ρ') (σ++[.dct kvs'])):=by
 intro xs_
 induction xs_ with
 | nil=>intro ρ kvs G _ h hd _;exact⟨ρ,kvs,h,by rw[R2,QG];exact hd,rfl⟩
 | cons x xs ih_=>intro ρ kvs G H h hd hl;refine kk λK k=>?_;rw[QF,QW xs.length,<- QQ] at hl;obtain⟨bH,Lk,a5,OJ,e⟩:=H x (Qh ..) ρ kvs G h hd (iv (Qz _ _) (iv (Qz _ _) hl));obtain⟨pq,HY,fK,NR,kP⟩:=ih_ bH Lk (G++[γ x]) (λy hy=>H y (Qj _ hy)) a5 OJ (by rw[Qg];exact hl);rw[Qr] at NR;refine k ?_;exact⟨pq,HY,fK,NR,aQ e kP⟩
noncomputable def yl(p:List Nat×Rw):List Nat×Option Str:=(p.1,vQ p.2)
theorem y7(h:σ[n]?=some (.dct kvs))(x:Str):bq .isIn (.d (.str x)) (.loc n) σ=some (kvs.lookup x).isSome:=by
 have e:aE σ (.loc n)=none:=by show σ[n]?.bind EI=_;rw[h];rfl
 refine(?_:oc (aE σ (.loc n)) (λl=>xg (.str x) l) (oc (fu σ (.loc n)) (λkvs=>some (kvs.lookup x).isSome) none)=_);rw[e,eH h];rfl
theorem AE(h:σ[n]?=some (.dct kvs))(x:Str):bq .notIn (.d (.str x)) (.loc n) σ=some (!(kvs.lookup x).isSome):=by show (bq .isIn (.d (.str x)) (.loc n) σ).map _=_;rw[y7 h];rfl
theorem A0{x:Str}(h:σ[n]?=some (.dct kvs))(hx:kvs.lookup x=some v):c8 (.loc n) (.d (.str x)) σ=some (.d v):=by show b2 (some x) (fu σ (.loc n)) (λk kvs=>(kvs.lookup k).map V.d) none=_;rw[eH h];show (kvs.lookup x).map V.d=_;rw[hx];rfl
theorem mT:∀ l:List Rw,nL (bu l)=(l.map nR).sum
 | []=>rfl
 | r::l=>congrArg (nR r+·) (mT l)
theorem o0(b:RL):nL b=((lst b).map nR).sum:=by rw[<- mT,lv]
theorem P7(a n d r:Nat):a+n+d+r=a+(r+d)+n:=by rw[RN a n d,RN (a+d) n r,QQ a d r,QW d r]
theorem pN(m:Nat)(l:List Rw)(k:Nat)(news:List Rw):((fg m l k news).map nR).sum+(((l.drop k).take m).map nR).sum=(l.map nR).sum+(news.map nR).sum:=by
 have e:l=l.take k++((l.drop k).take m++l.drop (k+m)):=by rw[<- Sg,Q2,Q2]
 have e2:(l.map nR).sum=((l.take k).map nR).sum+((((l.drop k).take m).map nR).sum+((l.drop (k+m)).map nR).sum):=by
   conv=>lhs;rw[e]
   rw[Qv,Qv,To,To]
 unfold fg;rw[Qv,Qv,To,To,e2];exact P7 ..
theorem DB{r:α}(h:l[k]?=some r):(l.drop k).take 1=[r]:=by rw[Rv ((Qi.mp h).1),(Qi.mp h).2];rfl
noncomputable def aF(z m:Nat)(c:RL):RL:=bu (((lst c).drop z).take m)
theorem Km(h:uR r=true)(b:RL):nR (gW r b)=nL b+1:=by cases r <;> first | rfl | injection h
theorem po(h:uR r=true)(b:RL):cG (gW r b)=b/\uR (gW r b)=true:=by cases r <;> first | exact⟨rfl,rfl⟩ | injection h
theorem Kn(h:uR r=true)(b:RL):hR (gW r b)=hL b+1:=by cases r <;> first | rfl | injection h
theorem Gk(h:uR r=true):hL (cG r)+1=hR r:=by cases r <;> first | rfl | injection h
theorem Hh(h:ls ws cs r)(hb:fC ws cs b):ls ws cs (gW r b):=by
 cases r with
 | whn t _=>exact⟨h.1,hb⟩
 | aga n _=>exact hb
 | set _ _=>exact h
 | tell _=>exact h
 | call _ _ _=>exact h
theorem jN{news:List α}{x:α}(h:x∈fg m l k news):x∈l\/x∈news:=by
 rcases Qx.mp h with h | h
 . exact(Qx.mp h).imp QO id
 . exact .inl (RE h)
theorem wB(m:Nat)(h:k < l.length)(x:α):(fg m l k [x])[k]?=some x:=by
 unfold fg;have hk:(l.take k).length=k:=by rw[Ru];exact Ro (Q7 h)
 rw[Qr,QH (Q4 hk),hk,TQ];rfl
variable {news:RL}
theorem vX(m:Nat)(z:Nat)(hp:Pth b pre c):A3 (fC ws cs b->fC ws cs news->fC ws cs (bo m news z b pre)) (hL (bo m news z b pre)<=hL b+hL news) (nL (bo m news z b pre)+nL (aF z m c)=nL b+nL news):=by
 induction hp with
 | nil b=>refine⟨λh1 h2=>mR _ λq hq=>(jN hq).elim (cg h1 q) (cg h2 q),tH _ λq hq=>(jN hq).elim (λh=>iv (ca q h) (Qz ..)) λh=>iv (ca q h) (QK ..),?_⟩;unfold aF;rw[ia,mT,mT,pN,<- o0,<- o0]
 | @cons b c q k ks hk hb hp ih=>
   obtain⟨i1,i2,i3⟩:=ih;have hq:=Qp hk;rw[cQ hk];refine⟨λh1 h2=>mR _ λx hx=>?_,tH _ λx hx=>?_,?_⟩
   . rcases jN hx with hx | hx
     . exact cg h1 x hx
     . rw[Qt.mp hx];exact Hh (cg h1 q hq) (i1 (g9 (cg h1 q hq)) h2)
   . rcases jN hx with hx | hx
     . exact iv (ca x hx) (Qz ..)
     . rw[Qt.mp hx,Kn hb];refine iv (QE i2) ?_;rw[<- Nat.succ_add];exact Qu (iv (Q4 (Gk hb)) (ca q hq)) _
   . have h1:=pN 1 (lst b) k [gW q (bo m news z (cG q) ks)];rw[DB hk,Sa,List.sum_singleton,Sa,List.sum_singleton,Km hb,<- Bv q] at h1;unfold dB;rw[mT,o0 b];lia
variable {r':Rw}
theorem Eb(m:Nat)(z:Nat)(hz:z < (lst c).length)(hp:Pth b pre c):Pth (bo m (.cons r' .nil) z b pre) pre (bo m (.cons r' .nil) z c [])/\(lst (bo m (.cons r' .nil) z c []))[z]?=some r':=by
 refine⟨?_,by rw[ia,fG];exact wB m hz r'⟩
 induction hp with
 | nil b=>exact .nil _
 | @cons b c q k ks hk hb hp ih=>rw[cQ hk];exact .cons (by rw[fG];exact wB 1 (Qi.mp hk).1 _) (po hb _).2 (by rw[(po hb _).1];exact ih hz)
noncomputable def CE(fs:List Fd)(n:Nat):List Fd:=fs.take n++fs.drop (n+1)
structure At(ws:List Str)(cs:CS)(fs:List Fd)(j n:Nat)(f g:Fd)(pre:List Nat)(z:Nat)(c:RL)(o:Option Str)(fn:Str)(ts:List Tm):Prop where
 w7:ws.length<=7
 h8:fs.length<=9
 all:∀ f∈fs,okF ws cs f
 hj:fs[j]?=some f
 hp:Pth f.rs pre c
 hz:(lst c)[z]?=some (.call o fn ts)
 hn:fs[n]?=some g
 num:n=(hX fs).idxOf fn
 mem:fn∈hX fs
 nm:g.nm=fn
 hl:ts.length=g.ps.length
 h4:ts.length<=7
 ok:∀ t∈ts,sh ws t
variable {f:Fd}
theorem At.of(h:At ws cs fs j n f g pre z c o fn ts):okF ws cs f:=h.all f (Qp h.hj)
theorem At.og(h:At ws cs fs j n f g pre z c o fn ts):okF ws cs g:=h.all g (Qp h.hn)
theorem At.pl(h:At ws cs fs j n f g pre z c o fn ts):(aX j pre z).length<=11:=by show (pre++[z]).length+1<=11;rw[Qg];exact Qu (iv (kh h.hp) h.of.h9) 2
theorem At.after(h:At ws cs fs j n f g pre z c o fn ts){news:RL}(n1:nL news<=600)(n2:hL news<=9):∀ q∈dB fs j [gB 1 news pre z f],hL q.rs<=18/\nL q.rs<=9000:=λq hq=>by
 rcases jN hq with hq | hq
 . exact⟨iv (h.all q hq).h9 (by decide),iv (h.all q hq).n4 (by decide)⟩
 . obtain⟨_,w2,w3⟩:=vX (ws:=ws) (cs:=cs) 1 (news:=news) z h.hp;rw[Qt.mp hq];exact⟨iv w2 (Ra h.of.h9 n2),iv (iv (Qz _ _) (Q4 w3)) (iv (Ra h.of.n4 n1) (by decide))⟩
theorem wC(x:α)(hk:k < l.length):(dB l k [x]).length=l.length:=by unfold dB fg;rw[Qg,Qg,Ru,Rn,Ro (Q7 hk)];exact Tp hk
theorem At.len(h:At ws cs fs j n f g pre z c o fn ts)(x:Fd):(dB fs j [x]).length<=9:=iv (Q4 (wC x (Qi.mp h.hj).1)) h.h8
theorem IN{l:List PyData}(h:l.length<=9)(k:Nat)(σ:ac):cZ .add false (.d (.tuple (l.take k))) (.d (.tuple (l.drop (k+1)))) σ=.ok (.d (.tuple (l.take k++l.drop (k+1)))) σ:=gQ (iv (IM l k) (iv h (by decide))) σ
theorem rn{pl:List Nat}(hl:ts.length=g.ps.length)(hk:gY ts g.ps=[])(d:Nat)(σ:ac):af prog (d+2) 18 [.d (pD pl),.d (bp (.call o fn ts)),.d (ay g)] σ=.ok (.d .none) σ:=by have e:=eI (o:=o) (fn:=fn) hl d σ;rw[hk] at e;exact((a9 prog 18 (d+1) [.d (pD pl),.d (bp (.call o fn ts)),.d (ay g)] σ rfl 0 (bf (aZ (aD rfl e) rfl) rfl) (same σ)))
theorem rI(w7:ws.length<=7)(hn:fs[n]?=some g)(og:okF ws cs g)(no:∀ x,Bw g x=false)(pl:List Nat)(d:Nat)(σ:ac):af prog (d+17) 19 [.d (.tuple (fs.map ay)),.d (pD pl),.d (.int (n:Int))] σ=.ok (.d .none) σ:=by
 refine kk λK k=>?_;obtain⟨S,hS,eS⟩:=uk w7 og.rs (D:=d+16) (iv (Qu og.h9 2) (iv (by decide) (QK 16 d))) σ;obtain⟨F,hF,eF⟩:=jj w7 9 _ (d+1) og.rs og.h9 (σ++[.dct (dk S)]);obtain⟨N,hN,eN⟩:=g8 og.t (d+12) ((σ++[.dct (dk S)])++[.dct (dk F)]);refine k ?_;generalize hτ:(σ++[Cell.dct (dk S)])++[Cell.dct (dk F)]=τ at eF eN;have ht:(τ++[Cell.busy])[σ.length]?=some (.dct (dk S)):=by exact hτ▸we ..
 have hf:τ[(σ++[Cell.dct (dk S)]).length]?=some (.dct (dk F)):=by rw[<- hτ];exact aB ..
 have hb:τ.take σ.length=σ:=by rw[<- hτ,Qr];exact bO ..
 have ad:=jv (a:=F.map PyData.str) (b:=(N.filter λx=>!decide (x∈S)).map .str) (by rw[PN,PN];exact iv (Ra (hF.few w7 λx=>bQ x _ og.rs) (iv (Rz ..) (hN.few w7 og.t.1))) (by decide)) τ;rw[<- Qv] at ad;have c2:=λ(M:List Str)=>ey (G:=prog.G) (cf:=af prog (d+16)) (i:=12) (it:=.seq (.var 7)) (c:=.cmp .notIn (.var 12) (.var 3)) (e:=.var 12) (ρ:=(JQ (.d (.tuple (fs.map ay))) (.d (pD pl)) (.d (.int (n:Int))) (.d (.tuple (g.ps.map .str))) (.d (.tuple (am g.rs))) (.d (dl g.t)) (.loc σ.length) (.d (.list (M.map .str))) .un .un .un .un .un .un)) (σ:=τ) (aa:=τ) (base:=M.map .str) PyData.str PyData.str (λx=>!decide (x∈g.ps)) (ps:=M) (aZ rfl rfl) (λp hp=>bJ rfl rfl (B9 ..)) (λp hp _=>rfl);have c2:=c2 (F++N.filter λx=>!decide (x∈S));have hM:(F++N.filter λx=>!decide (x∈S)).filter (λx=>!decide (x∈g.ps))=[]:=Rk.mpr λx hx q=>by
   refine QB ((no x).symm.trans ?_);unfold Bw;rw[q,RI,QS];rcases Qx.mp hx with hx | hx
   . exact .inl ((hF.mem x).mp hx)
   . obtain⟨h1,h2⟩:=Q1.mp hx;refine .inr (Qn.mpr ⟨?_,decide_eq_true ((hN.mem x).mp h1)⟩);cases hs:bz x g.rs with
     | false=>rfl
     | true=>rw[decide_eq_true ((hS.mem x).mpr hs)] at h2;injection h2
 rw[hM] at c2;generalize F++(N.filter λx=>!decide (x∈S))=M at ad c2;exact(a9 prog 19 (d+16) [.d (.tuple (fs.map ay)),.d (pD pl),.d (.int (n:Int))] σ rfl 29 (d9 hn σ) eS eF (gI hf) (ey (G:=prog.G) (cf:=af prog (d+16)) (i:=11) (it:=.seq (.call 1 (.cons (.var 5) .nil))) (c:=.cmp .notIn (.var 11) (.var 6)) (e:=.var 11) (ρ:=(JQ (.d (.tuple (fs.map ay))) (.d (pD pl)) (.d (.int (n:Int))) (.d (.tuple (g.ps.map .str))) (.d (.tuple (am g.rs))) (.d (dl g.t)) (.loc σ.length) .un .un .un .un .un .un .un)) (σ:=τ) (aa:=τ) (base:=N.map .str) PyData.str PyData.str (λx=>!decide (x∈S)) (ps:=N) (aZ (aD rfl eN) rfl) (λp hp=>bJ rfl rfl (lY ht p)) (λp hp _=>rfl)) ad c2 (o7 [] τ) hb)
structure Sets(kvs:List (Str×PyData))(G:JP)(o:Option Str):Prop where
 some:∀ x v,kvs.lookup x=some v->(∃ q,(q,Option.some x)∈G)/\o≠Option.some x
theorem vw{o:Option Str}{fn:Str}{pl:List Nat}(hl:ts.length=g.ps.length)(hk0:gY ts g.ps=[])(og:okF ws cs g)(n d:Nat)(σ:ac):∃ kvs,Sets kvs ((eu [n] 0 g.rs).map yl) o/\af prog (d+13) 20 [.d (pD pl),.d (bp (.call o fn ts)),.d (.int (n:Int)),.d (ay g)] σ=.ok (.loc σ.length) (σ++[.dct kvs]):=by
 refine kk λK k=>?_;obtain⟨_,k2,⟨v6,v7,rfl⟩,d2,e2⟩:=tW (f:=aG prog.G (af prog (d+12)) (.tup [6,7]) jQ) a4 (λρ=>X2 λv6 v7=>ρ=(F8 (.d (pD pl)) (.d (bp (.call o fn ts))) (.d (.int (n:Int))) (.d (ay g)) (.loc σ.length) .un v6 v7)) yl σ (eu [n] 0 g.rs) (F8 (.d (pD pl)) (.d (bp (.call o fn ts))) (.d (.int (n:Int))) (.d (ay g)) (.loc σ.length) .un .un .un) [] [] (by
   rintro⟨q,r⟩ hp _ kvs G ⟨v6,v7,rfl⟩ hd hG
   have eo:=ji r (d+11) (σ++[.dct kvs]);have R:=dn prog.G (af prog (d+12)) jQ (F8 (.d (pD pl)) (.d (bp (.call o fn ts))) (.d (.int (n:Int))) (.d (ay g)) (.loc σ.length) .un (.d (pD q)) (.d (bp r))) (σ++[Cell.dct kvs]);refine(?_:X2 λρ' kvs'=>A3 (_) (Dm kvs' (G++[(q,vQ r)])) (_));cases ht:vQ r with
   | none=>rw[ht] at eo;exact⟨_,kvs,⟨.d (pD q),.d (bp r),rfl⟩,hd.skip q none (λx h=>by injection h),cA rfl ((R 0 eo))⟩
   | some y=>
     rw[ht] at eo;have ni:=AE (aB σ (.dct kvs)) y;cases hi:(kvs.lookup y).isSome with
     | true=>rw[hi] at ni;exact⟨_,kvs,⟨.d (pD q),.d (bp r),rfl⟩,hd.skip q (some y) (λx h=>by (injection h with e0_;subst e0_);exact hi),cA rfl ((R 8 eo eo ni))⟩
     | false=>rw[hi] at ni;exact⟨_,_,⟨.d (pD q),.d (bp r),rfl⟩,hd.put y q,cA rfl ((R 8 eo eo ni (DU rfl rfl (aD rfl eo) (iv hd.len hG))))⟩) ⟨.un,.un,rfl⟩ ⟨(λx v h=>by injection h),(λx _ q h=>by cases h),QP _⟩ (by rw[RO,Q5,gF];exact iv og.n4 (by decide))
 have en:=eI (o:=o) (fn:=fn) hl (d+11) (σ++[Cell.dct []]);replace en:=hk0▸en;have it1:=aZ (G:=prog.G) (cf:=af prog (d+12)) (e:=.call 16 (.cons (.var 1) (.cons (.var 3) .nil))) (ρ:=(F8 (.d (pD pl)) (.d (bp (.call o fn ts))) (.d (.int (n:Int))) (.d (ay g)) (.loc σ.length) .un .un .un)) (aD rfl en) rfl;have it2:=aZ (G:=prog.G) (cf:=af prog (d+12)) (e:=.call 7 (.cons (.tup (.cons (.var 2) .nil)) (.cons (.idx (.var 3) (.int 2)) .nil))) (ρ:=(F8 (.d (pD pl)) (.d (bp (.call o fn ts))) (.d (.int (n:Int))) (.d (ay g)) (.loc σ.length) .un .un .un)) (aD rfl (j1 9 g.rs [n] d og.h9 (iv og.n4 (by decide)) (QK 10 90) (σ++[Cell.dct []]))) rfl;have R:=wz prog 20 (d+12) [.d (pD pl),.d (bp (.call o fn ts)),.d (.int (n:Int)),.d (ay g)] σ rfl;have mk:sk .pop (σ++[.dct k2]) (.loc σ.length)=true:=by show (fu (σ++[.dct k2]) (.loc σ.length)).isSome=true;rw[eH (aB _ _)];rfl
 have hk:ee (σ++[.dct k2]) σ.length=some k2:=jY (aB _ _);have ex:=λl=>mq (σ:=σ) (τ:=σ++[.dct l]) (bO ..) (aB ..);rw[TV] at d2;refine k ?_;cases o with
 | none=>
   have pop:AK .pop (.loc σ.length) (σ++[.dct k2]) [.d .none,.d .none] (σ++[.dct k2])=.ok (.d .none) (σ++[.dct k2]):=by unfold AK;rw[mk,if_pos rfl];show oc (ee (σ++[.dct k2]) σ.length) (λkvs=>Res.ok (V.d .none) (σ++[.dct k2])) .bad=_;rw[hk];rfl
   exact⟨k2,⟨λx v e=>⟨(d2.some x v e).imp λ_ h=>h.2,λq=>by injection q⟩⟩,((R 0 (bf it1 rfl) (bf it2 e2) pop)).trans (ex k2)⟩
 | some y=>
   have pop:AK .pop (.loc σ.length) (σ++[.dct k2]) [.d (.str y),.d .none] (σ++[.dct k2])=.ok (.d ((k2.lookup y).getD .none)) (σ++[.dct (k2.filter λx=>!decide (x.1=y))]):=by unfold AK;rw[mk,if_pos rfl];show oc (ee (σ++[.dct k2]) σ.length) (λkvs=>Res.ok (V.d ((kvs.lookup y).getD .none)) ((σ++[Cell.dct k2]).set σ.length (Cell.dct (kvs.filter λx=>!decide (x.1=y))))) .bad=_;exact hk▸congrArg (Res.ok _) (ij ..)
   refine⟨k2.filter λx=>!decide (x.1=y),⟨λx v e=>?_⟩,((R 0 (bf it1 rfl) (bf it2 e2) pop)).trans (ex _)⟩;rw[mZ] at e;by_cases c:x=y
   . rw[if_pos c] at e;injection e
   . rw[if_neg c] at e;exact⟨(d2.some x v e).imp λ_ h=>h.2,λq=>c (Option.some.inj q).symm⟩
theorem rB(h:At ws cs fs j n f g pre z c o fn ts)(hk:gY ts g.ps=[])(no:∀ q x,(q,some x)∈(eu [n] 0 g.rs).map yl->o≠some x->l9 x f.rs pre z (decide (x∈cC f.t))=false)(d:Nat)(σ:ac):af prog (d+18) 22 [.d (.tuple (fs.map ay)),.d (pD (aX j pre z)),.d (bp (.call o fn ts)),.d (.int (n:Int))] σ=.ok (.d .none) σ:=by
 obtain⟨kvs,hs,es⟩:=vw (o:=o) (fn:=fn) (pl:=aX j pre z) h.hl hk h.og n (d+4) σ;obtain⟨L,_,hL,_,eL⟩:=oq h.w7 h.hj h.of h.hp h.hz d (σ++[.dct kvs]);have lp:=qB (f:=aG prog.G (af prog (d+17)) (.var 5) gj) PyData.str (λρ=>∃ v5,ρ=(F6 (.d (.tuple (fs.map ay))) (.d (pD (aX j pre z))) (.d (bp (.call o fn ts))) (.d (.int (n:Int))) (.loc σ.length) v5)) (λ_=>False) (λ_ _=>True) (σ++[Cell.dct kvs]) L (F6 (.d (.tuple (fs.map ay))) (.d (pD (aX j pre z))) (.d (bp (.call o fn ts))) (.d (.int (n:Int))) (.loc σ.length) .un) (by
   rintro x hx _ ⟨v5,rfl⟩
   have ii:=y7 (aB σ (.dct kvs)) x;have hk:kvs.lookup x=none:=by
     cases hk:kvs.lookup x with
     | none=>rfl
     | some v=>obtain⟨⟨q,hq⟩,ho⟩:=hs.some x v hk;exact absurd ((hL x).mp hx) (by rw[no q x hq ho];exact QB)
   rw[hk] at ii;exact .inl ⟨_,⟨_,rfl⟩,id,bc ((dn prog.G (af prog (d+17)) gj (F6 (.d (.tuple (fs.map ay))) (.d (pD (aX j pre z))) (.d (bp (.call o fn ts))) (.d (.int (n:Int))) (.loc σ.length) (.d (.str x))) (σ++[Cell.dct kvs]) 1 ii))⟩) ⟨.un,rfl⟩
 rcases lp with ⟨_,⟨v5,rfl⟩,_,e⟩ | ⟨_,_,_,q,_⟩
 . exact(a9 prog 22 (d+17) [.d (.tuple (fs.map ay)),.d (pD (aX j pre z)),.d (bp (.call o fn ts)),.d (.int (n:Int))] σ rfl 1 (d9 h.hn σ) es (bf (aZ (G:=prog.G) (cf:=af prog (d+17)) (e:=.call 12 (.cons (.var 0) (.cons (.var 1) .nil))) (ρ:=(F6 (.d (.tuple (fs.map ay))) (.d (pD (aX j pre z))) (.d (bp (.call o fn ts))) (.d (.int (n:Int))) (.loc σ.length) .un)) (aD rfl eL) rfl) e) (bO ..))
 . exact q.elim
theorem Ge(h:At ws cs fs j n f g pre z c o fn ts)(hk:gY ts g.ps=[])(hb:∀ x,Bw g x=false)(no:∀ q x,(q,some x)∈(eu [n] 0 g.rs).map yl->o≠some x->l9 x f.rs pre z (decide (x∈cC f.t))=false)(hn:wR o ts g=g.rs)(hc:jh fn (dB fs j [gB 1 g.rs pre z f])=false)(d:Nat)(σ:ac):af prog (d+23) 24 [.d (.tuple (fs.map ay)),.d (pD (aX j pre z))] σ=.ok (.d (.tuple [.tuple ((CE (dB fs j [gB 1 g.rs pre z f]) n).map ay),.tuple [.tuple (.int ((j:Int) - 1)::(pre++[z]).map nI),.int (am g.rs).length,bp (.call o fn ts),.int (n:Int),ay g]])) σ:=by
 have e1:=fy h.hj h.hp h.hz (d+19) σ;have e2:=j2 h.mem (d+21) σ;rw[<- h.num] at e2;have e3:=d9 h.hn σ;have t1:=rn (o:=o) (fn:=fn) (pl:=aX j pre z) h.hl hk (d+20) σ;have t2:=rI h.w7 h.hn h.og hb (aX j pre z) (d+5) σ;have t3:=rB h hk no (d+4) σ;have e4:=sJ (o:=o) (fn:=fn) h.hl h.h4 h.og.n4 (d+20) σ;rw[hn] at e4;have e5:=(na 1 (news:=g.rs) (iv h.og.n4 (by decide)) h.hj h.h8 h.hp (iv h.of.n4 (by decide)) h.of.h9 (z:=z) (d+11) σ).1;have e6:=rE (h.after h.og.n4 h.og.h9) fn d σ;rw[hc] at e6;have l8:((dB fs j [gB 1 g.rs pre z f]).map ay).length<=9:=by rw[PN];exact h.len _
 have e7:(CE (dB fs j [gB 1 g.rs pre z f]) n).map ay=((dB fs j [gB 1 g.rs pre z f]).map ay).take n++((dB fs j [gB 1 g.rs pre z f]).map ay).drop (n+1):=by unfold CE;rw[Qv,SG,S3]
 rw[e7];exact(a9 prog 24 (d+22) [.d (.tuple (fs.map ay)),.d (pD (aX j pre z))] σ rfl 1810448 e1 e2 e3 t1 t2 t3 e4 e5 e6 ((cS ..)) ((jH ..)) (IN l8 n σ) (bx ..) ((dS ..)) (gQ (by rw[PN];exact iv (QR (iv (S7 _) h.pl) 1) (by decide)) σ) (same σ))
def AL(d:Nat)(x y:PyData)(b:Bool):Prop:=∀ σ,af prog d 57 [.d x,.d y] σ=.ok (.d (.bool b)) σ
theorem Gr(s:Str)(d:Nat):AL (d+1) (.str s) (.str s) true:=λσ=>by
 have e:bq .eq (.d (.str s)) (.d (.str s)) σ=some true:=by rw[Gh,decide_eq_true rfl]
 exact(a9 prog 57 d [.d (.str s),.d (.str s)] σ rfl 256 e (same σ))
theorem Gs(i k:Int)(d:Nat):AL (d+1) (.int i) (.int k) (decide (i=k)):=λσ=>(a9 prog 57 d [.d (.int i),.d (.int k)] σ rfl 0 (same σ))
theorem IZ(d:Nat):AL (d+1) .none .none true:=λσ=>(a9 prog 57 d [.d .none,.d .none] σ rfl 0 (same σ))
theorem zX{xs ys:List PyData}(hx:ys.length<=9000)(H:∀ (k:Nat) x y,xs[k]?=some x->ys[k]?=some y->∃ b,AL d x y b):∃ b,AL (d+1) (.tuple xs) (.tuple ys) b/\(xs.length=ys.length->(∀ (k:Nat) x y,xs[k]?=some x->ys[k]?=some y->AL d x y true)->b=true):=by
 by_cases hl:xs.length=ys.length
 . obtain⟨g,hg⟩:∃ g:Nat->Bool,∀ k,k < ys.length->∀ x y,xs[k]?=some x->ys[k]?=some y->AL d x y (g k):=by
     have:=Hf true (p:=λk=>k < ys.length) (Q:=λk b=>∀ x y,xs[k]?=some x->ys[k]?=some y->AL d x y b) λk hk=>by obtain⟨b,hb⟩:=H k xs[k] ys[k] (Qk (hl▸hk)) (Qk hk);exact⟨b,λx y h1 h2=>by rw[Qk (hl▸hk)] at h1;rw[Qk hk] at h2;(injection h1 with e0_;subst e0_);(injection h2 with e0_;subst e0_);exact hb⟩
     exact this
   refine⟨((List.range ys.length).filter λk=>!g k).isEmpty,λσ=>?_,λ_ h=>?_⟩
   . have hI:=jd (G:=prog.G) (cf:=af prog d) (ρ:=[.d (.tuple xs),.d (.tuple ys),.un]) (σ:=σ) (aa:=σ) (e:=.bi .len false (.cons (.var 1) (.nil))) (b:=(ys.length:Int)) rfl (uA hx);rw[gd] at hI;have cm:=ey (i:=2) (c:=.not (.call 57 (.cons (.idx (.var 0) (.var 2)) (.cons (.idx (.var 1) (.var 2)) (.nil))))) (e:=.var 2) (λ(k:Nat)=>PyData.int (k:Int)) nI (λk=>!g k) hI (λk hk=>by have hk:=RV.mp hk;have e1:xs[k]?=some (xs[k]'(hl▸hk)):=Qk _;have e2:ys[k]?=some ys[k]:=Qk hk;exact Kc (aD (jc (bI rfl rfl (by rw[cX,e1];rfl)) (ma (bI rfl rfl (by rw[cX,e2];rfl)))) (hg k hk _ _ e1 e2 _))) (λk hk q=>rfl)
     have e3:=(a9 prog 57 d [.d (.tuple xs),.d (.tuple ys)] σ rfl 256 (nF (decide_eq_true (congrArg _ hl))) cm (same σ))
     rw[e3];show Res.ok (V.d (.bool (!(!(((List.range ys.length).filter λk=>!g k).map nI).isEmpty)))) σ=_;rw[Bool.not_not,Te]
   . rw[SR,Rk];intro k hk q;have hk:=RV.mp hk;have e1:xs[k]?=some (xs[k]'(hl▸hk)):=Qk _;have e2:ys[k]?=some ys[k]:=Qk hk;have a:=h k _ _ e1 e2 [];rw[hg k hk _ _ e1 e2 []] at a;injection a with a;injection a with a;injection a with a;rw[a] at q;injection q
 . exact⟨false,λσ=>(a9 prog 57 d [.d (.tuple xs),.d (.tuple ys)] σ rfl 256 (nT (decide_eq_false λq=>hl (S1.mp q))) (same σ)),λh=>(hl h).elim⟩
def SA(n:Nat)(x:PyData):Prop:=∀ d,AL (d+n+1) x x true
theorem SA.up(h:SA n x)(hm:n<=m):SA m x:=λd=>by obtain⟨e,rfl⟩:=nG hm;rw[<- QQ];exact h (d+e)
theorem cT(n:Nat)(s:Str):SA n (.str s):=λd=>Gr s (d+n)
theorem pZ(n:Nat)(i:Int):SA n (.int i):=λd=>by have:=Gs i i (d+n);rw[decide_eq_true rfl] at this;exact this
theorem Hi(n:Nat):SA n .none:=λd=>IZ (d+n)
variable {l:List PyData}
theorem gX(hl:l.length<=9000)(h:∀ y∈l,SA n y):SA (n+1) (.tuple l):=λd=>by
 have q:∀ (k:Nat) x y,l[k]?=some x->l[k]?=some y->AL (d+n+1) x y true:=λk x y h1 h2=>by rw[h1] at h2;(injection h2 with e0_;subst e0_);exact h x (Qp h1) d
 obtain⟨b,h1,h2⟩:=zX hl λk x y a b=>⟨true,q k x y a b⟩;rw[h2 rfl q] at h1;exact h1
theorem kN(hx:SA n x)(h:∀ y∈l,SA n y):∀ y∈x::l,SA n y:=λy hy=>(Qq.mp hy).elim (λe=>e▸hx) (h y)
theorem BT:∀ y∈([]:List PyData),SA n y:=λy hy=>by cases hy
theorem DR{a b:PyData}(ha:SA n a)(hb:SA n b):SA (n+1) (.tuple [a,b]):=gX (QM rfl) (kN ha (kN hb BT))
theorem DQ{a b c:PyData}(ha:SA n a)(hb:SA n b)(hc:SA n c):SA (n+1) (.tuple [a,b,c]):=gX (QM rfl) (kN ha (kN hb (kN hc BT)))
theorem MR{a b c d:PyData}(ha:SA n a)(hb:SA n b)(hc:SA n c)(hd:SA n d):SA (n+1) (.tuple [a,b,c,d]):=gX (QM rfl) (kN ha (kN hb (kN hc (kN hd BT))))
theorem uv(φ:α->PyData){l:List α}(hl:l.length<=9000)(h:∀ a∈l,SA n (φ a)):SA (n+1) (.tuple (l.map φ)):=gX (by rw[PN];exact hl) λy hy=>by obtain⟨a,ha,rfl⟩:=QV.mp hy;exact h a ha
theorem Ko:∀ t:Tm,SA (ht t+1) (dl t)
 | .num i=>DR (cT _ _) (pZ _ _)
 | .name x=>DR (cT _ _) (cT _ _)
 | .op k a b=>DQ (cT _ _) ((Ko a).up (QE (SD ..))) ((Ko b).up (QE (Sr ..)))
theorem wv(h:sh ws t):SA 3 (dl t):=(Ko t).up (QE h.2)
theorem Os(n:Nat)(o:Option Str):SA n (Ek o):=by
 cases o with
 | none=>exact Hi n
 | some x=>exact cT n x
theorem LO(n:Nat)(h:m<=5):m<=n+5:=iv h (QK 5 n)
mutual
theorem MO:∀ r:Rw,ls ws cs r->nR r<=9000->SA (2 * hR r+5) (bp r)
 | .set x t=>@λh _=>(DQ (cT 3 _) (cT 3 _) (wv h.2)).up (LO _ (by decide))
 | .tell t=>@λh _=>(DR (cT 3 _) (wv h)).up (LO _ (by decide))
 | .whn t b=>@λh n=>DQ (cT _ _) ((wv h.1).up (iv (by decide) (QK 6 _))) (gX (iv (iX b) (Rp n)) (Hj b h.2 (Rp n)))
 | .aga k b=>@λh n=>DQ (cT _ _) (pZ _ _) (gX (iv (iX b) (Rp n)) (Hj b h (Rp n)))
 | .call o f ts=>@λh _=>(MR (cT 4 _) (Os _ _) (cT _ _) (uv dl (iv h.2.2.1 (by decide)) λt ht=>wv (h.2.1 t ht))).up (LO _ (by decide))
theorem Hj:∀ b:RL,fC ws cs b->nL b<=9000->∀ y∈am b,SA (2 * hL b+5) y
 | .nil=>@λ_ _ y hy=>by cases hy
 | .cons r b=>@λh n y hy=>by
   rcases Qq.mp hy with rfl | hy
   . exact(MO r h.1 (iv (Qz ..) n)).up (Qu (RJ 2 (SD ..)) 5)
   . exact(Hj b h.2 (iv (QK ..) n) y hy).up (Qu (RJ 2 (Sr ..)) 5)
end
theorem MP(h1:f.ps.length<=7)(h2:fC ws cs f.rs)(h3:hL f.rs<=18)(h4:nL f.rs<=9000)(h5:sh ws f.t):SA 43 (ay f):=
 MR (cT _ _) ((uv (n:=0) PyData.str (iv h1 (by decide)) λx _=>cT _ _).up (by decide)) ((gX (iv (iX f.rs) h4) (Hj f.rs h2 h4)).up (QE (Qu (RJ 2 h3) 5))) ((wv h5).up (by decide))
theorem Aq(p:List Nat)(h:p.length<=9000):SA 1 (pD p):=uv nI h λk _=>pZ _ _
theorem Lq(d:Nat)(σ:ac):af prog (d+1) 56 [.exc 1 []] σ=.ok (.d (.str bC)) σ:=co (fn:=gq) rfl rfl rfl
theorem Lo(d:Nat)(σ:ac):af prog (d+1) 56 [.exc 2 []] σ=.ok (.d (.str aK)) σ:=co (fn:=gq) rfl rfl rfl
theorem Ln(d:Nat)(σ:ac):af prog (d+1) 56 [.exc 3 []] σ=.ok (.d (.str ke)) σ:=co (fn:=gq) rfl rfl rfl
theorem Ll(x y:PyData)(d:Nat)(σ:ac):af prog (d+1) 56 [.exc 6 [x,y]] σ=.ok (.d (.str bG)) σ:=co (fn:=gq) rfl rfl rfl
variable {a:Bool}
theorem uX{f:Nat}(h:cf f [.exc k ds] σ=.ok (.d x) σ)(hk:a=true->k=6):o4 cf (.tup i f a) k ds σ=.ok (.ret (.d (.tuple (x::if a then ds else [])))) σ:=by show ((cf f [.exc k ds] σ).bind λv aa=>oc (bK v) (λx=>if a=true->k=6 then Res.ok (Out.ret (.d (.tuple (x::if a then ds else [])))) aa else .bad) .bad)=_;exact h▸if_pos hk
section
variable {P Q N X y:PyData}
theorem G7(h:af prog d 49 [.d P,.d Q,.d N,.d X] σ=.ok (.d x) σ):af prog (d+1) 58 [.d P,.d Q,.d N,.d X] σ=.ok (.d (.list [x])) σ:=
 co (fn:=eG) rfl rfl (io (Kq (io (lQ rfl h rfl))))
theorem Dz(h:af prog (d+1) 49 [.d P,.d Q,.d N,.d X] σ=.ok (.exc 1 []) σ):af prog (d+2) 58 [.d P,.d Q,.d N,.d X] σ=.ok (.d (.tuple [.str bC])) σ:=
 co (fn:=eG) rfl rfl (io (uw (Ax (lQ rfl h rfl)) (uX (i:=4) (a:=false) (Lq d σ) (λq=>by injection q))))
theorem Ki(h:af prog (d+1) 49 [.d P,.d Q,.d N,.d X] σ=.ok (.exc 2 []) σ):af prog (d+2) 58 [.d P,.d Q,.d N,.d X] σ=.ok (.d (.tuple [.str aK])) σ:=
 co (fn:=eG) rfl rfl (io (uw (Ax (lQ rfl h rfl)) (uX (i:=4) (a:=false) (Lo d σ) (λq=>by injection q))))
theorem Kh(h:af prog (d+1) 49 [.d P,.d Q,.d N,.d X] σ=.ok (.exc 3 []) σ):af prog (d+2) 58 [.d P,.d Q,.d N,.d X] σ=.ok (.d (.tuple [.str ke])) σ:=
 co (fn:=eG) rfl rfl (io (uw (Ax (lQ rfl h rfl)) (uX (i:=4) (a:=false) (Ln d σ) (λq=>by injection q))))
theorem Kg(h:af prog (d+1) 49 [.d P,.d Q,.d N,.d X] σ=.ok (.exc 6 [x,y]) σ):af prog (d+2) 58 [.d P,.d Q,.d N,.d X] σ=.ok (.d (.tuple [.str bG,x,y])) σ:=
 co (fn:=eG) rfl rfl (io (uw (Ax (lQ rfl h rfl)) (uX (i:=4) (a:=true) (Ll x y d σ) (λ_=>rfl))))
end
noncomputable def nK:Nat->List Fd->List (List Nat×Rw)
 | _,[]=>[]
 | k,f::fs=>eu [k] 0 f.rs++nK (k+1) fs
theorem ES{a w:Nat}(h:a+(n+1) * w<=m){b:Nat}(hb:b<=w):a+b<=m/\(a+b)+n * w<=m:=by rw[Ts,QW _ w,<- QQ] at h;exact⟨iv (QR hb _) (RS h),iv (Qu (QR hb _) _) h⟩
theorem Gq(d:Nat)(fs0:List Fd)(σ:ac):∀ (fs:List Fd) (k:Nat) (L:List PyData) (v2:V),fs0.drop k=fs->(∀ f∈fs,hL f.rs<=9/\nL f.rs<=600)->L.length+fs.length * 600<=9000->
   ∃ v2',aY (aG prog.G (af prog (d+11)) (.var 2) jT) ((List.range' k fs.length).map λ(k:Nat)=>PyData.int (k:Int)) [.d (.tuple (fs0.map ay)),.d (.list L),v2] σ=.ok (.next [.d (.tuple (fs0.map ay)),.d (.list (L++(nK k fs).map a4)),v2']) σ:=by
 intro xs_
 induction xs_ with
 | nil=>intro k L v2 _ _ _;exact⟨v2,by rw[show nK k []=[] from rfl,R2,QG];rfl⟩
 | cons f fs ih_=>intro k L v2 hd hf hl;obtain⟨f9,f4⟩:=hf f (Qh ..);obtain⟨hk,hd'⟩:=jX hd;obtain⟨h1,h2⟩:=ES hl f4;obtain⟨v2',ih⟩:=ih_ (k+1) (L++(eu [k] 0 f.rs).map a4) (.d (.int (k:Int))) hd' (λx hx=>hf x (Qj _ hx)) (by rw[Qg,PN,gF];exact h2);rw[Qr,<- Qv] at ih;exact⟨v2',aQ (bc ((dn prog.G (af prog (d+11)) jT [.d (.tuple (fs0.map ay)),.d (.list L),.d (.int (k:Int))] σ 5 (d9 hk σ) (gP 9 f.rs [k] d f9 (iv f4 (by decide)) (QK 10 90) σ) (jv (by rw[PN,gF];exact iv h1 (by decide)) σ)))) ih⟩
theorem rK(hf:∀ f∈fs,hL f.rs<=9/\nL f.rs<=600)(h8:fs.length<=8)(d:Nat)(σ:ac):af prog (d+12) 44 [.d (.tuple (fs.map ay))] σ=.ok (.d (.list ((nK 0 fs).map a4))) σ:=by obtain⟨v2',lp⟩:=Gq d fs σ fs 0 [] .un rfl hf (by rw[RO,Q5];exact iv (SI 600 h8) (by decide));have hl:(fs.map ay).length=fs.length:=PN _;rw[TV,<- SJ,<- gd,<- hl] at lp;exact(a9 prog 44 (d+11) [.d (.tuple (fs.map ay))] σ rfl 0 (bf (jd rfl (uA (by rw[hl];exact iv h8 (by decide)))) lp) (same σ))
theorem yL:∀ (fs:List Fd) (k:Nat) (p:List Nat×Rw),p∈nK k fs->X2 λj f=>fs[j]?=some f/\p∈eu [k+j] 0 f.rs:=by
 intro xs_
 induction xs_ with
 | nil=>intro k p h;cases h
 | cons f fs ih_=>
   intro k p h;rcases Qx.mp h with h | h
   . exact⟨0,f,rfl,h⟩
   . obtain⟨j,g,hj,hp⟩:=ih_ (k+1) p h;exact⟨j+1,g,hj,by rw[QQ,QW 1] at hp;exact hp⟩
variable {p:List Nat×Rw}
theorem Ed(h:p∈nK 0 fs):X5 λj f pre z c=>A4 (fs[j]?=some f) (p.1=aX j pre z) (Pth f.rs pre c) ((lst c)[z]?=some p.2):=by refine kk λK k=>?_;obtain⟨j,f,hj,hp⟩:=yL fs 0 p h;rw[Q5] at hp;obtain⟨pre,z,c,e,h1,h2⟩:=gh _ f.rs f.rs 0 rfl p hp;refine k ?_;exact⟨j,f,pre,z,c,hj,e,h1,h2⟩
variable {x:Str}
theorem lM(h:av x=av y):x=y:=by cases x;cases y;unfold av at h;exact congrArg Str.mk (Array.ext' h)
def Mi(l:List Str):Prop:=l.Pairwise λa b=>av a < av b
theorem Ck(x y:Str)(r:List Str):fJ x (y::r)=if jr y x then y::fJ x r else x::y::r:=rfl
theorem AV(x:Str):∀ l:List Str,x∉l->Mi l->Mi (fJ x l)
 | []=>λ_ _=>SY _ _
 | y::r=>λhx h=>by
   rw[Ck];refine(Rx.mp h).elim λh1 h2=>?_;by_cases q:av y < av x
   . rw[if_pos (show jr y x=true from decide_eq_true q)];refine Rx.mpr ⟨λa ha=>?_,AV x r (λm=>hx (Qj _ m)) h2⟩;rcases (uK a x r).mp ha with e | m
     . rw[e];exact q
     . exact h1 a m
   . have lt:av x < av y:=by
       rcases Decidable.em (av x < av y) with h | h
       . exact h
       . exact absurd (lM (List.le_antisymm (T8.mp q) (T8.mp h))▸Qh ..) hx
     rw[if_neg (show ¬ jr y x=true from λe=>q (of_decide_eq_true e))];refine Rx.mpr ⟨λa ha=>?_,h⟩;rcases Qq.mp ha with e | m
     . rw[e];exact lt
     . exact List.lt_trans lt (h1 a m)
theorem wt:∀ l:List Str,l.Nodup->Mi (bW l)
 | []=>λ_=>List.Pairwise.nil
 | x::r=>λh=>AV x _ (λm=>(RB.mp h).1 ((l5 x r).mp m)) (wt r (RB.mp h).2)
theorem BN{l:List Str}(h:Mi l):l.Nodup:=List.Pairwise.imp (S:=λa b=>a≠b) (λ{a b} q e=>Tu (av b) (by rw[e] at q;exact q)) h
theorem DJ:∀ {a b:List Str},Mi a->Mi b->(∀ x,x∈a↔x∈b)->a=b
 | [],[],_,_,_=>rfl
 | [],y::b,_,_,h=>by cases (h y).mpr (Qh ..)
 | x::a,[],_,_,h=>by cases (h x).mp (Qh ..)
 | x::a,y::b,ha,hb,h=>by
   obtain⟨a1,a2⟩:=Rx.mp ha;obtain⟨b1,b2⟩:=Rx.mp hb;have e:x=y:=by
     rcases Qq.mp ((h x).mp (Qh ..)) with e | m
     . exact e
     . rcases Qq.mp ((h y).mpr (Qh ..)) with e | n
       . exact e.symm
       . exact absurd (List.lt_trans (b1 x m) (a1 y n)) (Tu _)
   subst e;refine congrArg (x::·) (DJ a2 b2 λz=>⟨λm=>?_,λm=>?_⟩)
   . rcases Qq.mp ((h z).mp (Qj _ m)) with e | n
     . exact absurd (e▸a1 z m) (Tu _)
     . exact n
   . rcases Qq.mp ((h z).mpr (Qj _ m)) with e | n
     . exact absurd (e▸b1 z m) (Tu _)
     . exact n
noncomputable def Hb(l:List Str):List Str:=bW (cn l)
theorem j8(x:Str)(l:List Str):x∈Hb l↔x∈l:=(l5 x _).trans (bg x l)
theorem uq(l:List Str):Mi (Hb l):=wt _ (bL l)
theorem DI(l:List Str):(Hb l).Nodup:=BN (uq l)
theorem Kl{a b:List Str}(h:∀ x,x∈a↔x∈b):Hb a=Hb b:=DJ (uq a) (uq b) λx=>(j8 x a).trans ((h x).trans (j8 x b).symm)
noncomputable def gJ(c:Nat):Bool:=(av aj).any λe=>[c]==[e]
theorem E1(c:Nat)(σ:ac):bq .isIn (.d (.str (ar [c]))) (.d (.str aj)) σ=some (gJ c):=by show (if (ar [c]).cps.size=1 then some ((av aj).any λe=>av (ar [c])==[e]) else none)=_;rw[if_pos (show (ar [c]).cps.size=1 from vp [c]),dR];rfl
noncomputable def sm(w:Str):Bool:=decide ((1:Int)<=((av w).length:Int))&&decide (((av w).length:Int)<=8)&&(av w).all gJ
theorem lT(w:Str)(σ:ac):tn (.d (.str w)) σ=some ((av w).map λc=>.str (ar [c]),none):=rfl
theorem mu(w:Str)(d:Nat)(σ:ac):af prog (d+1) 47 [.d (.str w)] σ=.ok (.d (.bool (sm w))) σ:=by
 have h1:ag prog.G (af prog d) (.cmp2 .le .le (.int 1) (.bi .len false (.cons (.var 0) (.nil))) (.glob 2)) [.d (.str w),.un] σ=.ok (.d (.bool (decide ((1:Int)<=((av w).length:Int))&&decide (((av w).length:Int)<=8)))) σ:=by
   rw[Bj];refine aI (a:=V.d (.int 1)) (σ:=σ) rfl (aI (a:=V.d (.int ((av w).length:Int))) (σ:=σ) rfl (aI (a:=decide ((1:Int)<=((av w).length:Int))) (σ:=σ) rfl ?_));cases decide ((1:Int)<=((av w).length:Int)) with
   | true=>rfl
   | false=>rfl
 have h2:ag prog.G (af prog d) (.bi .all false (.cons (.comp false (.var 1) (.seq (.var 0)) .no (.cmp .isIn (.var 1) (.glob 1))) (.nil))) [.d (.str w),.un] σ=.ok (.d (.bool ((av w).all gJ))) σ:=by refine Kd (ma (nh (λ(c:Nat)=>PyData.str (ar [c])) (λc=>.bool (gJ c)) (aZ rfl (lT w σ)) λc _=>bJ rfl rfl (E1 c _))) ?_;show oc (eg ((av w).map λc=>.bool (gJ c))) _ _=_;rw[x8];show Res.ok (V.d (.bool (((av w).map gJ).all id))) σ=_;rw[List.all_map];rfl
 exact co (fn:=tP) rfl rfl (io (DT (pH h1 λ_=>dO h2)))
theorem Et(cf:Nat->List V->ac->Res V)(x:Str)(v0:V)(σ:ac):∀ (fs:List Fd) (k:Nat) (v2 v3:V),x∉hX fs->X2 λv2' v3'=>aY (aG prog.G cf (.tup [2,3]) du) (((fs.map ay).zipIdx k).map λp=>.tuple [.int p.2,p.1]) [v0,.d (.str x),v2,v3] σ=.ok (.next [v0,.d (.str x),v2',v3']) σ:=by
 intro xs_
 induction xs_ with
 | nil=>intro k v2 v3 _;exact⟨v2,v3,rfl⟩
 | cons f fs ih_=>intro k v2 v3 h;obtain⟨v2',v3',ih⟩:=ih_ (k+1) (.d (.int (k:Int))) (.d (ay f)) (λm=>h (Qj _ m));exact⟨v2',v3',aQ (cA rfl ((dn prog.G cf du [v0,.d (.str x),.d (.int (k:Int)),.d (ay f)] σ 4 (dF λq=>h (q▸Qh ..))))) ih⟩
theorem rA(h:x∉hX fs)(d:Nat)(σ:ac):af prog (d+1) 15 [.d (.tuple (fs.map ay)),.d (.str x)] σ=.ok (.d .none) σ:=by obtain⟨v2,v3,lp⟩:=Et (af prog d) x (.d (.tuple (fs.map ay))) σ fs 0 .un .un h;exact(a9 prog 15 d [.d (.tuple (fs.map ay)),.d (.str x)] σ rfl 0 (bf (mV rfl) lp) (same σ))
theorem dw(j:Nat)(pre:List Nat)(z:Nat)(σ:ac):eB false (.d (pD (aX j pre z))) none (some (.d (.int (-1)))) σ=.ok (.d (pD (j::pre))) σ:=by have e:(aX j pre z).map nI=(j::pre).map nI++[nI z]:=Qv (l₁:=j::pre) (l₂:=[z]);unfold pD;rw[eQ _ _ eR (dY _),e,li]
theorem ba(j:Nat)(pre:List Nat)(z:Nat)(σ:ac):c8 (.d (pD (aX j pre z))) (.d (.int (-1))) σ=some (.d (.int (z:Int))):=by rw[wH];exact oY ..
theorem Ef(h:pre.length<=9)(z k:Nat)(σ:ac):cZ .add false (.d (pD (j::pre))) (.d (.tuple [.int ((z:Int)+(k:Int))])) σ=.ok (.d (pD (aX j pre (z+k)))) σ:=
 Gv (pl:=j::pre) (iv (QE h) (by decide)) (z+k) σ
theorem Hg(d:Nat)(v0 v1 v3 v4 v5:V)(σ:ac)(xs:List (List Nat×Rw))(kvs:List (Str×PyData))(G:JP)(v6 v7:V)(hd:Dm kvs G)(hG:G.length+xs.length<=9000):X3 λkvs' v6' v7'=>Dm kvs' (G++xs.map yl)/\aY (aG prog.G (af prog (d+1)) (.tup [6,7]) d7) (xs.map a4) (F8 v0 v1 (.loc σ.length) v3 v4 v5 v6 v7) (σ++[.dct kvs])=.ok (.next (F8 v0 v1 (.loc σ.length) v3 v4 v5 v6' v7')) (σ++[.dct kvs']):=by
 obtain⟨_,k2,⟨v6,v7,rfl⟩,d2,e2⟩:=tW (f:=aG prog.G (af prog (d+1)) (.tup [6,7]) d7) a4 (λρ=>X2 λv6 v7=>ρ=F8 v0 v1 (.loc σ.length) v3 v4 v5 v6 v7) yl σ xs (F8 v0 v1 (.loc σ.length) v3 v4 v5 v6 v7) kvs G (by
   rintro⟨q,r⟩ hp _ kvs G ⟨v6,v7,rfl⟩ hd hG
   have eo:=ji r d (σ++[.dct kvs]);have R:=dn prog.G (af prog (d+1)) d7 (F8 v0 v1 (.loc σ.length) v3 v4 v5 (.d (pD q)) (.d (bp r))) (σ++[Cell.dct kvs]);refine(?_:X2 λρ' kvs'=>A3 (_) (Dm kvs' (G++[(q,vQ r)])) (_));cases ht:vQ r with
   | none=>rw[ht] at eo;exact⟨_,kvs,⟨.d (pD q),.d (bp r),rfl⟩,hd.skip q none (λx h=>by injection h),cA rfl ((R 0 eo))⟩
   | some y=>
     rw[ht] at eo;have ni:=AE (aB σ (.dct kvs)) y;cases hi:(kvs.lookup y).isSome with
     | true=>rw[hi] at ni;exact⟨_,kvs,⟨.d (pD q),.d (bp r),rfl⟩,hd.skip q (some y) (λx h=>by (injection h with e0_;subst e0_);exact hi),cA rfl ((R 8 eo eo ni))⟩
     | false=>rw[hi] at ni;exact⟨_,_,⟨.d (pD q),.d (bp r),rfl⟩,hd.put y q,cA rfl ((R 8 eo eo ni (DU rfl rfl (aD rfl eo) (iv hd.len hG))))⟩) ⟨v6,v7,rfl⟩ hd hG
 exact⟨k2,v6,v7,d2,e2⟩
theorem qd(pl:List Nat)(k:Nat)(r:Rw)(b:RL):eu pl k (.cons r b)=(pl++[k],r)::(nJ (pl++[k]) r++eu pl (k+1) b):=rfl
theorem An{j z:Nat}(hp:pre.length<=9)(d:Nat)(v1:V)(σ:ac):∀ (b:RL) (k:Nat) (kvs:List (Str×PyData)) (G:JP) (v3 v4 v5 v6 v7:V),Dm kvs G->G.length+nL b<=9000->hL b<=9->X3 λkvs' v3' v4'=>X3 λv5' v6' v7'=>Dm kvs' (G++(eu (j::pre) (z+k) b).map yl)/\aY (aG prog.G (af prog (d+12)) (.tup [3,4]) gi) (((am b).zipIdx k).map λp=>.tuple [.int p.2,p.1]) (F8 (.d (pD (aX j pre z))) v1 (.loc σ.length) v3 v4 v5 v6 v7) (σ++[.dct kvs])=.ok (.next (F8 (.d (pD (aX j pre z))) v1 (.loc σ.length) v3' v4' v5' v6' v7')) (σ++[.dct kvs'])
 | .nil=>λk kvs G v3 v4 v5 v6 v7 hd _ _=>⟨kvs,v3,v4,v5,v6,v7,by rw[uD,R2,QG];exact hd,rfl⟩
 | .cons r b=>λk kvs G v3 v4 v5 v6 v7 hd hG hh=>by
   have hr:hR r<=9:=iv (SD _ _) hh;have nr:=Bv r;have lx:((((j::pre)++[z+k],r)::nJ ((j::pre)++[z+k]) r).map yl).length=nR r:=by rw[PN];exact oW _ r
   have hG1:G.length+nR r+nL b<=9000:=by rw[QQ];exact hG
   have hn:nR r<=9000:=iv (iv (QK _ _) (Qz _ _)) hG1;refine kk λK kx=>?_;obtain⟨k1,u6,u7,d1,e1⟩:=Hg (d+11) (.d (pD (aX j pre z))) v1 (.d (.int (k:Int))) (.d (bp r)) (.d (pD (aX j pre (z+k)))) σ (((j::pre)++[z+k],r)::nJ ((j::pre)++[z+k]) r) kvs G v6 v7 hd (by rw[<- PN yl,lx];exact RS hG1);obtain⟨k2,w3,w4,w5,w6,w7,d2,e2⟩:=An (j:=j) (z:=z) hp d v1 σ b (k+1) k1 _ (.d (.int (k:Int))) (.d (bp r)) (.d (pD (aX j pre (z+k)))) u6 u7 d1 (by rw[Qg,lx];exact hG1) (iv (Sr _ _) hh);refine kx ?_;rw[Qr,<- Qv] at d2;refine⟨k2,w3,w4,w5,w6,w7,d2,aQ (cA rfl ?_) e2⟩;have wk:=j1 9 (cG r) (aX j pre (z+k)) d (ou (iv hr (by decide))) (iv (Rp (Q4 nr)) hn) (iv (Qu (QE (by rw[Qg];exact QE hp)) 9) (by decide)) (σ++[Cell.dct kvs]);rw[<- ki] at wk;have wi:=on r (d+10) (σ++[Cell.dct kvs]);have ad:=jv (a:=[PyData.tuple [pD (aX j pre (z+k)),bp r]]) (b:=(nJ (aX j pre (z+k)) r).map a4) (by rw[PN,Rr,QW,oW];exact iv hn (by decide)) (σ++[Cell.dct kvs]);exact((dn prog.G (af prog (d+12)) gi (F8 (.d (pD (aX j pre z))) v1 (.loc σ.length) (.d (.int (k:Int))) (.d (bp r)) v5 v6 v7) (σ++[Cell.dct kvs]) 11 ((dw ..)) (ba ..) (Ef hp z k _) (bf (aZ (G:=prog.G) (cf:=af prog (d+12)) (e:=.bin .add false (.list false (.cons (.tup (.cons (.var 5) (.cons (.var 4) (.nil)))) (.nil))) (.call 7 (.cons (.var 5) (.cons (.call 6 (.cons (.var 4) (.nil))) (.nil))))) (ρ:=F8 (.d (pD (aX j pre z))) v1 (.loc σ.length) (.d (.int (k:Int))) (.d (bp r)) (.d (pD (aX j pre (z+k)))) v6 v7) (gD rfl (aD (jc rfl (ma (aD rfl wi))) wk) ad) rfl) e1)))
theorem oP{j z:Nat}(hp:pre.length<=9)(hb:hL b<=9)(hn:nL b<=9000)(d:Nat)(σ:ac):∃ kvs,Dm kvs ((eu (j::pre) z b).map yl)/\af prog (d+13) 48 [.d (pD (aX j pre z)),.d (.tuple (am b))] σ=.ok (.loc σ.length) (σ++[.dct kvs]):=by obtain⟨kvs,v3,v4,v5,v6,v7,hd,lp⟩:=An (j:=j) (z:=z) hp d (.d (.tuple (am b))) σ b 0 [] [] .un .un .un .un .un ⟨(λx v h=>by injection h),(λx _ q h=>by cases h),QP _⟩ (by rw[RO,Q5];exact hn) hb;exact⟨kvs,hd,(((wz prog 48 (d+12) [.d (pD (aX j pre z)),.d (.tuple (am b))] σ rfl 0 (bf (mV rfl) lp)))).trans (mq (σ:=σ) (τ:=σ++[.dct kvs]) (bO ..) (aB ..))⟩
theorem DK(l:List α)(z m:Nat):au l (some (z:Int)) (some ((z:Int)+(m:Int)))=(l.drop z).take m:=by
 show (l.drop (iI l.length z)).take (iI l.length ((z+m:Nat):Int) - iI l.length z)=_;rw[j0,j0];rcases Uh z l.length with h | h
 . rw[Ro h,TO,Rn,<- Nat.sub_min_sub_right,Sp,Nat.min_assoc,Ui]
 . rw[TC h,SP,TH h,List.take_nil,List.take_nil]
theorem rg(z m:Nat)(c:RL):am (aF z m c)=((am c).drop z).take m:=by unfold aF;rw[j7,SG,S3,<- fe]
theorem j9(c:RL)(z m:Nat)(σ:ac):eB false (.d (.tuple (am c))) (some (.d (.int (z:Int)))) (some (.d (.int ((z:Int)+(m:Int))))) σ=.ok (.d (.tuple (am (aF z m c)))) σ:=by rw[eQ _ _ (dY _) (dY _),DK,rg]
theorem jf(h:z+m<=(lst c).length):(am (aF z m c)).length=m:=by rw[rg,Ru,Rn,<- d6];exact Ro (Nat.le_sub_of_add_le' h)
theorem L0(z m:Nat)(h:fC ws cs c):fC ws cs (aF z m c):=mR _ λr hr=>cg h r (RE (QO hr))
theorem NT(z m:Nat)(c:RL):hL (aF z m c)<=hL c:=tH _ λr hr=>ca r (RE (QO hr))
theorem NS(z m:Nat)(c:RL):nL (aF z m c)<=nL c:=by have:=pN m (lst c) z [];unfold aF;rw[mT,o0 c];exact iv (QK _ _) (Q4 this)
theorem uC(h:Pth b pre c):A3 (fC ws cs b->fC ws cs c) (hL c<=hL b) (nL c<=nL b):=by
 induction h with
 | nil b=>exact⟨id,QP _,QP _⟩
 | @cons b c r k ks hk hb _ ih=>obtain⟨i1,i2,i3⟩:=ih;have hr:=Qp hk;exact⟨λh=>i1 (g9 (cg h r hr)),iv i2 (iv (Rp (Q4 (Gk hb))) (ca r hr)),iv i3 (zS hr (QP _))⟩
structure Dr(ws:List Str)(cs:CS)(fs:List Fd)(j:Nat)(f:Fd)(pre:List Nat)(z:Nat)(c:RL)(m:Nat):Prop where
 w7:ws.length<=7
 h8:fs.length<=8
 hj:fs[j]?=some f
 of:okF ws cs f
 hp:Pth f.rs pre c
 m1:1<=m
 hm:z+m<=(lst c).length
theorem Dr.p9(h:Dr ws cs fs j f pre z c m):pre.length<=9:=iv (kh h.hp) h.of.h9
theorem Dr.ok(h:Dr ws cs fs j f pre z c m):fC ws cs (aF z m c):=L0 z m ((uC (ws:=ws) (cs:=cs) h.hp).1 h.of.rs)
theorem Dr.h9(h:Dr ws cs fs j f pre z c m):hL (aF z m c)<=9:=iv (NT z m c) (iv (uC (ws:=ws) (cs:=cs) h.hp).2 h.of.h9)
theorem Dr.n6(h:Dr ws cs fs j f pre z c m):nL (aF z m c)<=600:=iv (NS z m c) (iv (uC (ws:=ws) (cs:=cs) h.hp).3 h.of.n4)
noncomputable def cV(ws:List Str)(o:Option Str)(R:RL):List Str:=Hb (ws.filter λx=>aN x R||(decide (o=some x)&&!bz x R))
noncomputable def Hv:Option Str->Tm
 | none=>.num 0
 | some x=>.name x
noncomputable def lE(o:Option Str)(nm:Str)(ps:List Str):Rw:=.call o nm (ps.map Tm.name)
noncomputable def lZ(ws:List Str)(o:Option Str)(nm:Str)(R:RL):Fd:=⟨nm,cV ws o R,R,Hv o⟩
noncomputable def d4(ws:List Str)(o:Option Str)(nm:Str)(pre:List Nat)(z:Nat)(c:RL)(m:Nat)(f:Fd):Fd:=gB m (.cons (lE o nm (cV ws o (aF z m c))) .nil) pre z f
noncomputable def ym(ws:List Str)(fs:List Fd)(j:Nat)(f:Fd)(pre:List Nat)(z:Nat)(c:RL)(m:Nat)(o:Option Str)(nm:Str):List Fd:=
 (dB fs j [d4 ws o nm pre z c m f]).take j++[lZ ws o nm (aF z m c)]++(dB fs j [d4 ws o nm pre z c m f]).drop j
noncomputable def CD(ws:List Str)(fs:List Fd)(j:Nat)(f:Fd)(pre:List Nat)(z:Nat)(c:RL)(m:Nat)(o:Option Str)(nm:Str):PyData:=
 .tuple [.tuple ((ym ws fs j f pre z c m o nm).map ay),pD (aX (j+1) pre z)]
variable {R:RL}
theorem ko(ok:fC ws cs R)(ho:∀ x,o=some x->x∈ws)(h:∀ x,x∈L↔aN x R=true\/(o=some x/\bz x R=false)):Hb L=cV ws o R:=Kl λx=>by rw[h x,Q1,QS,Qn,decide_eq_true_iff,Rg];exact⟨λq=>⟨q.elim (bQ x R ok) λq=>ho x q.1,q⟩,λq=>q.2⟩
theorem wJ(ok:fC ws cs R)(ho:∀ x,o=some x->x∈ws)(x:Str):x∈cV ws o R↔aN x R=true\/(o=some x/\bz x R=false):=by unfold cV;rw[j8,Q1,QS,Qn,decide_eq_true_iff,Rg];exact⟨λq=>q.2,λq=>⟨q.elim (bQ x R ok) λq=>ho x q.1,q⟩⟩
theorem qe(w7:ws.length<=7)(o:Option Str)(R:RL):(cV ws o R).length<=7:=iv ((DI _).length_le_of_subset λx hx=>(Q1.mp ((j8 x _).mp hx)).1) w7
noncomputable abbrev Oc(a b c d e f g h i j k l m n o:V):Fm:=[a,b,c,d,e,f,g,h,i,j,k,l,m,n,o]
theorem g7(hj:fs[j]?=some f)(hp:Pth f.rs pre c)(d:Nat)(σ:ac):af prog (d+2) 10 [.d (.tuple (fs.map ay)),.d (pD (aX j pre z))] σ=.ok (.d (.tuple (am c))) σ:=by have e:=jC hj (iN pre) (z:Int) d σ;rw[vY hp] at e;rw[wH,e];rfl
theorem o2{n:Int}(h:n > 0)(σ:ac):yn .max false [.d (.int 0),.d (.int n)] σ=.ok (.d (.int n)) σ:=by show Res.ok (V.d (.int (if n > 0 then n else 0))) σ=_;rw[if_pos h]
theorem HM{n:Int}(h:¬ n > 0)(σ:ac):yn .max false [.d (.int 0),.d (.int n)] σ=.ok (.d (.int 0)) σ:=by show Res.ok (V.d (.int (if n > 0 then n else 0))) σ=_;rw[if_neg h]
theorem CB{z:Nat}(hj:fs[j]?=some f)(hp:Pth f.rs pre c)(hz:(lst c)[z]?=some r){n:Int}(hn:n < 1\/(((lst c).length:Nat):Int) < (z:Int)+n)(x:Str)(d:Nat)(σ:ac):af prog (d+4) 49 [.d (.tuple (fs.map ay)),.d (pD (aX j pre z)),.d (.int n),.d (.str x)] σ=.ok (.exc 1 []) σ:=by
 have e1:=fy hj hp hz d σ;have e2:=g7 (z:=z) hj hp (d+1) σ;have R:=a9 prog 49 (d+3) [.d (.tuple (fs.map ay)),.d (pD (aX j pre z)),.d (.int n),.d (.str x)] σ rfl;by_cases h1:n < 1
 . exact((R 407 e1 e2 (ba ..) (ba ..) ((HM (R8.mpr (Int.le_of_lt_add_one h1)) σ)) ((j9 c z 0 σ)) (dT h1) (dT h1) (same σ)))
 . obtain⟨m,rfl⟩:=RC (Rq (by decide) (R8.mp h1));have hl:=hn.resolve_left h1;have lt:(((am (aF z m c)).length:Nat):Int) < (m:Int):=by rw[rg,Ru,Rn,<- d6];have:(lst c).length < z+m:=QU.mp hl;exact QU.mpr (QN (R7 ..) (Nat.sub_lt_left_of_lt_add (Q7 (Qi.mp hz).1) this))
   exact((R 1175 e1 e2 (ba ..) (ba ..) ((o2 (QU.mpr (QU.mp (R8.mp h1))) σ)) ((j9 c z m σ)) (dF h1) (dT lt) (same σ)))
theorem Dr.row(h:Dr ws cs fs j f pre z c m)(hk:k < m):∃ r,(lst c)[z+k]?=some r:=⟨_,Qk (Q3 (Tq hk z) h.hm)⟩
theorem re(h:Dr ws cs fs j f pre z c m)(hx:sm x=false\/x∈hX fs)(d:Nat)(σ:ac):af prog (d+4) 49 [.d (.tuple (fs.map ay)),.d (pD (aX j pre z)),.d (.int (m:Int)),.d (.str x)] σ=.ok (.exc (bif sm x then 3 else 2) []) σ:=by
 refine(h.row (k:=0) h.m1).elim λr hz=>?_;have e1:=fy h.hj h.hp hz d σ;have e2:=g7 (z:=z) h.hj h.hp (d+1) σ;have e3:=mu x (d+2) σ;have h1:¬ (m:Int) < 1:=R8.mpr (Rc.mpr h.m1);have h2:¬ (((am (aF z m c)).length:Nat):Int) < (m:Int):=by rw[jf h.hm];exact Int.lt_irrefl _
 have R:=a9 prog 49 (d+3) [.d (.tuple (fs.map ay)),.d (pD (aX j pre z)),.d (.int (m:Int)),.d (.str x)] σ rfl;cases hi:sm x with
 | false=>rw[hi] at e3;exact((R 1175 e1 e2 (ba ..) (ba ..) ((o2 (QU.mpr h.m1) σ)) ((j9 c z m σ)) (dF h1) (dF h2) e3 (same σ)))
 | true=>rw[hi] at e3;exact((R 1175 e1 e2 (ba ..) (ba ..) ((o2 (QU.mpr h.m1) σ)) ((j9 c z m σ)) (dF h1) (dF h2) e3 (j2 (hx.resolve_left (by rw[hi];exact Rt)) (d+2) σ) (same σ)))
theorem lU(τ:ac)(a b:Cell):((τ++[a])++[b])[τ.length]?=some a:=by rw[Qr];exact g0 ..
theorem EQ(h:σ[n]?=some (.dct (dk L))):yn .list true [.loc n] σ=.ok (.loc σ.length) (σ++[.lst (L.map .str)]):=by
 have e:aE σ (.loc n)=none:=by show σ[n]?.bind EI=_;rw[h];rfl
 refine(?_:oc (aE σ (.loc n)) (λl=>aM true l σ) (oc (fu σ (.loc n)) (λkvs=>aM true (kvs.map λx=>.str x.1) σ) .bad)=_);rw[e,eH h];show Res.ok _ (σ++[Cell.lst ((dk L).map λx=>.str x.1)])=_;unfold dk;rw[Rj];rfl
theorem dA(w7:ws.length<=7){Q:List Str}(h:τ[n]?=some (.lst (Q.map .str)))(hw:∀ x∈Q,x∈ws)(hl:Q.length<=1000):yn .sortedSet false [.loc n] τ=.ok (.d (.list ((Hb Q).map .str))) τ:=by show oc ((aE τ (.loc n)).bind gU) (λl=>if l.length < 2000/\(cn l).length < 64 then aM false ((bW (cn l)).map .str) τ else .bad) .bad=_;rw[iZ h,Option.bind_some,uo];exact if_pos ⟨QN hl (by decide),(QN (iv ((bL Q).length_le_of_subset λx hx=>hw x ((bg x Q).mp hx)) w7) (by decide))⟩
theorem gb(l:List PyData)(k:Nat)(σ:ac):eB false (.d (.tuple l)) (some (.d (.int (k:Int)))) none σ=.ok (.d (.tuple (l.drop k))) σ:=by rw[eQ _ _ (dY _) eR,lj]
theorem ku(ps:List Str):ps.map (λp=>PyData.tuple [.str aK,.str p])=(ps.map Tm.name).map dl:=by rw[Rj];rfl
noncomputable def PD(j:Nat)(pre:List Nat)(z:Nat)(R:RL):JP:=(eu (j::pre) z R).map yl
def WS(j:Nat)(f:Fd)(pre:List Nat)(z:Nat)(c:RL)(m:Nat)(q:List Nat)(x:Str):Prop:=(q,some x)∈PD j pre z (aF z m c)/\l9 x f.rs pre (z+(m - 1)) (decide (x∈cC f.t))=true
theorem Jn(h:pre.length<=9)(z:Nat)(m1:1<=m)(σ:ac):cZ .add false (.d (pD (j::pre))) (.d (.tuple [.int ((z:Int)+(m:Int) - 1)])) σ=.ok (.d (pD (aX j pre (z+(m - 1))))) σ:=by
 have q:(z:Int)+(m:Int) - 1=(z:Int)+((m - 1:Nat):Int):=by rw[Int.ofNat_sub m1];exact Int.add_sub_assoc ..
 rw[q];exact Ef h z (m - 1) σ
theorem zC(h:Dr ws cs fs j f pre z c m)(d:Nat)(x:Str)(σ:ac):X2 λ(kvs:List (Str×PyData)) (B:List Str)=>A5 (B.Nodup) (∀ y,y∈B↔∃ q,WS j f pre z c m q y) (∀ y∈B,∃ q,kvs.lookup y=some (pD q)/\WS j f pre z c m q y) (af prog (d+17) 48 [.d (pD (aX j pre z)),.d (.tuple (am (aF z m c)))] σ=.ok (.loc σ.length) (σ++[.dct kvs])) (ag prog.G (af prog (d+17)) (.comp false (.var 13) (.seq (.call 12 (.cons (.var 0) (.cons (.var 6) (.nil))))) (.yes (.cmp .isIn (.var 13) (.var 5))) (.var 13)) (Oc (.d (.tuple (fs.map ay))) (.d (pD (aX j pre z))) (.d (.int (m:Int))) (.d (.str x)) (.d (.tuple (am (aF z m c)))) (.loc σ.length) (.d (pD (aX j pre (z+(m - 1))))) .un .un .un .un .un .un .un .un) (σ++[.dct kvs])=.ok (.d (.list (B.map .str))) (σ++[.dct kvs])):=by
 refine kk λK k=>?_;obtain⟨kvs,hd,e5⟩:=oP (j:=j) (z:=z) h.p9 h.h9 (iv h.n6 (by decide)) (d+4) σ;obtain⟨r,hz⟩:=h.row (k:=m - 1) (Nat.sub_lt h.m1 Nat.one_pos);obtain⟨L,N,hL,eL,e6⟩:=oq h.w7 h.hj h.of h.hp hz d (σ++[.dct kvs]);refine k ?_;have key:∀ y,y∈L.filter (λy=>(kvs.lookup y).isSome)->∃ q,kvs.lookup y=some (pD q)/\WS j f pre z c m q y:=λy hy=>by obtain⟨h1,h2⟩:=Q1.mp hy;obtain⟨v,hv⟩:=QZ.mp h2;obtain⟨q,rfl,hq⟩:=hd.some y v hv;exact⟨q,hv,hq,(hL y).mp h1⟩
 refine⟨kvs,L.filter λy=>(kvs.lookup y).isSome,List.Pairwise.filter _ (show L.Nodup from eL▸DI N),λy=>⟨λhy=>(key y hy).imp λq h=>h.2,?_⟩,key,e5,(ey (G:=prog.G) (cf:=af prog (d+17)) (i:=13) (it:=.seq (.call 12 (.cons (.var 0) (.cons (.var 6) (.nil))))) (c:=.cmp .isIn (.var 13) (.var 5)) (e:=.var 13) (ρ:=Oc (.d (.tuple (fs.map ay))) (.d (pD (aX j pre z))) (.d (.int (m:Int))) (.d (.str x)) (.d (.tuple (am (aF z m c)))) (.loc σ.length) (.d (pD (aX j pre (z+(m - 1))))) .un .un .un .un .un .un .un .un) (σ:=σ++[Cell.dct kvs]) (aa:=σ++[Cell.dct kvs]) (base:=L.map .str) PyData.str PyData.str (λy=>(kvs.lookup y).isSome) (ps:=L) (aZ (aD rfl e6) rfl) (λp hp=>bJ rfl rfl (y7 (lU ..) p)) (λp hp _=>rfl))⟩
 rintro⟨q,h1,h2⟩
 refine Q1.mpr ⟨(hL y).mpr h2,?_⟩;cases hk:kvs.lookup y with
 | none=>exact absurd h1 (hd.none y hk q)
 | some v=>rfl
theorem WS.inw(h:Dr ws cs fs j f pre z c m){q:List Nat}(w:WS j f pre z c m q x):x∈ws:=by obtain⟨p,hp,e2⟩:=QV.mp w.1;exact Kj (mP _ _ _ h.ok p hp) (congrArg Prod.snd e2)
theorem PP(σ:ac)(a b c:Cell):(σ++[a]++[b]++[c]).take σ.length=σ:=by rw[Qr,Qr];exact bO ..
theorem Pl(σ:ac)(a b c d:Cell):(σ++[a]++[b]++[c]++[d]).take σ.length=σ:=by rw[Qr (σ++[a]++[b]),Qr,Qr];exact bO ..
theorem DM(τ:ac)(a a' b:Cell):((τ++[a])++[b]).set τ.length a'=(τ++[a'])++[b]:=by rw[Qr,Qr];exact st0 ..
theorem vm(o:Option Str)(nm:Str):(ym ws fs j f pre z c m o nm).map ay=((dB fs j [d4 ws o nm pre z c m f]).map ay).take j++[ay (lZ ws o nm (aF z m c))]++((dB fs j [d4 ws o nm pre z c m f]).map ay).drop j:=by unfold ym;rw[Qv,Qv,SG,S3];rfl
theorem o8(h:l.length<=8)(k:Nat)(x:PyData)(σ:ac):cZ .add false (.d (.tuple (l.take k))) (.d (.tuple [x])) σ=.ok (.d (.tuple (l.take k++[x]))) σ/\cZ .add false (.d (.tuple (l.take k++[x]))) (.d (.tuple (l.drop k))) σ=.ok (.d (.tuple (l.take k++[x]++l.drop k))) σ:=by have h1:(l.take k).length<=8:=iv (T4 ..) h;exact⟨gQ (iv (Qu h1 1) (by decide)) σ,gQ (by rw[Qg];exact iv (Ra (Qu h1 1) (iv (by rw[Rn];exact Nat.sub_le _ _) h)) (by decide)) σ⟩
theorem Dr.len(h:Dr ws cs fs j f pre z c m)(x:Fd):((dB fs j [x]).map ay).length<=8:=by rw[PN,wC x (Qi.mp h.hj).1];exact h.h8
theorem lh(h:pre.length<=9)(j z:Nat)(σ:ac):cZ .add false (.d (.tuple [.int ((j:Int)+1)])) (.d (pD (pre++[z]))) σ=.ok (.d (pD (aX (j+1) pre z))) σ:=
 gQ (by rw[PN,Qg];exact iv (QR (QE h) 1) (by decide)) σ
noncomputable def pM:Nat->SL->SL
 | n+1,.cons s b=>.cons s (pM n b)
 | _,_=>.nil
noncomputable def k9:Nat->SL->SL
 | 0,b=>b
 | n+1,.cons _ b=>k9 n b
 | _,b=>b
theorem gA{q:Res Out}(k:Nat):∀ {b:SL} {ρ:Fm} {σ:ac},execs G cf (pM k b) ρ σ=.ok (.next ρ') σ'->execs G cf (k9 k b) ρ' σ'=q->execs G cf b ρ σ=q:=by
 induction k with
 | zero=>intro b ρ σ h1 h2;cases (h1);exact h2
 | succ n ih=>
   intro b;cases b with
   | nil=>intro ρ σ h1 h2;cases (h1);exact h2
   | cons s b=>
     intro ρ σ h1 h2;have h1:(exec G cf s ρ σ).bind (λo aa=>DH G cf (pM n b) o aa)=.ok (.next ρ') σ':=h1;refine(?_:(exec G cf s ρ σ).bind (λo aa=>DH G cf b o aa)=q);cases he:exec G cf s ρ σ with
     | bad=>rw[he] at h1;injection h1
     | ok o aa=>
       rw[he] at h1;cases o with
       | next bH=>exact ih h1 h2
       | ret v=>(injection h1 with e0_;injection e0_)
       | exc k ds=>(injection h1 with e0_;injection e0_)
set_option maxHeartbeats 40000000 in
theorem zQ(h:Dr ws cs fs j f pre z c m)(hx1:sm x=true)(hx2:x∉hX fs)(d:Nat)(σ:ac) :
   (X4 λa p b q=>A4 (a≠b) (WS j f pre z c m p a) (WS j f pre z c m q b) (af prog (d+18) 49 [.d (.tuple (fs.map ay)),.d (pD (aX j pre z)),.d (.int (m:Int)),.d (.str x)] σ=.ok (.exc 6 [pD p,pD q]) σ))\/
   (∃ o:Option Str,A3 (∀ y,(∃ q,WS j f pre z c m q y)↔o=some y) (∀ y,o=some y->y∈ws) (af prog (d+18) 49 [.d (.tuple (fs.map ay)),.d (pD (aX j pre z)),.d (.int (m:Int)),.d (.str x)] σ=.ok (.d (CD ws fs j f pre z c m o x)) σ)):=by
 refine(h.row (k:=0) h.m1).elim λr hz=>?_;obtain⟨kvs,B,hnd,hB,hv,e5,cm⟩:=zC h d x σ;refine(jj h.w7 9 _ (d+2) h.ok h.h9 (σ++[.dct kvs])).elim λS q9=>?_;have hS:=q9.1;have e7:=q9.2;have e1:=fy h.hj h.hp hz (d+14) σ;have e2:=g7 (z:=z) h.hj h.hp (d+15) σ;have e3:=mu x (d+16) σ;rw[hx1] at e3;have e4:=rA hx2 (d+16) σ;have h2:¬ (((am (aF z m c)).length:Nat):Int) < (m:Int):=by rw[jf h.hm];exact Int.lt_irrefl _
 have fr:execs prog.G (af prog (d+17)) (pM 8 gK.body) [.d (.tuple (fs.map ay)),.d (pD (aX j pre z)),.d (.int (m:Int)),.d (.str x),.un,.un,.un,.un,.un,.un,.un,.un,.un,.un,.un] σ=.ok (.next (Oc (.d (.tuple (fs.map ay))) (.d (pD (aX j pre z))) (.d (.int (m:Int))) (.d (.str x)) (.d (.tuple (am (aF z m c)))) (.loc σ.length) (.d (pD (aX j pre (z+(m - 1))))) (.d (.list (B.map .str))) .un .un .un .un .un .un .un)) (σ++[.dct kvs]):=((dn prog.G (af prog (d+17)) (pM 8 gK.body) [.d (.tuple (fs.map ay)),.d (pD (aX j pre z)),.d (.int (m:Int)),.d (.str x),.un,.un,.un,.un,.un,.un,.un,.un,.un,.un,.un] σ 312471 e1 e2 (ba ..) (ba ..) ((o2 (QU.mpr h.m1) σ)) ((j9 c z m σ)) (dF (R8.mpr (Rc.mpr h.m1))) (dF h2) e3 e4 e5 ((dw ..)) (ba ..) (Jn h.p9 z h.m1 _) cm))
 have R:=dn prog.G (af prog (d+17)) (k9 8 gK.body) (Oc (.d (.tuple (fs.map ay))) (.d (pD (aX j pre z))) (.d (.int (m:Int))) (.d (.str x)) (.d (.tuple (am (aF z m c)))) (.loc σ.length) (.d (pD (aX j pre (z+(m - 1))))) (.d (.list (B.map .str))) .un .un .un .un .un .un .un) (σ++[Cell.dct kvs]);have l7:=EQ (aB (σ++[.dct kvs]) (.dct (dk S)));have s7:=hS.few h.w7 λy=>bQ y _ h.ok
 -- what is left once the target is known
 have T:=λ(o:Option Str)=>(na m (news:=.cons (lE o x (cV ws o (aF z m c))) .nil) (QM rfl) h.hj (iv h.h8 (by decide)) h.hp (iv h.of.n4 (by decide)) h.of.h9 (z:=z) (d+6));have C:=λ(o:Option Str) (v5 v6 v7 v8 v9:V) (τ:ac)=>nh (G:=prog.G) (cf:=af prog (d+17)) (i:=14) (it:=.seq (.var 10)) (e:=.tup (.cons (.str aK) (.cons (.var 14) .nil))) (ρ:=Oc (.d (.tuple (fs.map ay))) (.d (pD (aX j pre z))) (.d (.int (m:Int))) (.d (.str x)) (.d (.tuple (am (aF z m c)))) v5 v6 v7 v8 v9 (.d (.tuple ((cV ws o (aF z m c)).map .str))) .un .un .un .un) (σ:=τ) (aa:=τ) (base:=(cV ws o (aF z m c)).map .str) PyData.str (λp=>.tuple [.str aK,.str p]) (ps:=cV ws o (aF z m c)) (aZ rfl rfl) λp _=>rfl;cases B with
 | nil=>
   refine .inr ⟨none,λy=>⟨λq=>absurd ((hB y).mpr q) Re,λq=>by injection q⟩,(λy q=>by injection q),?_⟩;have pe:=ko (ws:=ws) (o:=none) (L:=S) h.ok (λy q=>by injection q) λy=>by rw[hS.mem y];exact⟨.inl,λq=>q.elim id λq=>by cases q.1⟩
   have so:=dA h.w7 (aB (σ++[.dct kvs]++[.dct (dk S)]) (.lst (S.map .str))) (λy hy=>bQ y _ h.ok ((hS.mem y).mp hy)) (iv s7 (by decide));rw[pe] at so;have C1:=C none (.loc σ.length) (.d (pD (aX j pre (z+(m - 1))))) (.d (.list [])) (.d .none) (.d (dl (.num 0))) (σ++[.dct kvs]++[.dct (dk S)]++[.lst (S.map .str)]);rw[ku] at C1;have a2:=o8 (h.len (d4 ws none x pre z c m f)) j (ay (lZ ws none x (aF z m c))) (σ++[.dct kvs]++[.dct (dk S)]++[.lst (S.map .str)]);unfold CD;rw[vm];exact j4 (fn:=gK) rfl rfl (gA 8 fr ((R 458312 e7 l7 so C1 ((T none _).1) (bx ..) ((cS ..)) a2.1 (bx ..) ((gb ..)) a2.2 (bx ..) ((dS ..)) (lh h.p9 j z _)))) (PP ..)
 | cons a B=>
   cases B with
   | cons b B=>obtain⟨p,hp,wp⟩:=hv a (Qh ..);refine(hv b (Qj _ (Qh ..))).elim λq q9=>?_;have hq:=q9.1;have wq:=q9.2;have ne:a≠b:=λq=>(RB.mp hnd).1 (q▸Qh ..);exact .inl ⟨a,p,b,q,ne,wp,wq,L4 (fn:=gK) rfl rfl (gA 8 fr ((R 84 (dT (QU.mpr (by rw[PN];exact QE (QE (QI _))))) (A0 (aB ..) hp) (A0 (aB ..) hq)))) (bO ..)⟩
   | nil=>
     obtain⟨p,hp,wp⟩:=hv a (Qh ..);have aw:=WS.inw h wp;refine .inr ⟨some a,λy=>⟨λq=>congrArg some (Qt.mp ((hB y).mpr q)).symm,λq=>(hB y).mp (Option.some.inj q▸Qh ..)⟩,λy q=>Option.some.inj q▸aw,?_⟩;obtain⟨S',hS',e8⟩:=uk h.w7 h.ok (D:=d+17) (iv (Qu h.h9 2) (iv (by decide) (QK 17 d))) (σ++[.dct kvs]++[.dct (dk S)]++[.lst (S.map .str)]);have n8:=lY (aB (σ++[.dct kvs]++[.dct (dk S)]++[.lst (S.map .str)]) (.dct (dk S'))) a;have C1:=C (some a) (.loc σ.length) (.d (pD (aX j pre (z+(m - 1))))) (.d (.list [.str a])) (.d (.str a)) (.d (dl (.name a)));rw[ku] at C1;have a2:=o8 (h.len (d4 ws (some a) x pre z c m f)) j (ay (lZ ws (some a) x (aF z m c)));unfold CD;rw[vm];by_cases q:a∈S'
     . replace n8:=(decide_eq_true q)▸n8;have pe:=ko (ws:=ws) (o:=some a) (L:=S) h.ok (λy q=>Option.some.inj q▸aw) λy=>by rw[hS.mem y];refine⟨.inl,λp=>p.elim id λp=>?_⟩;rw[<- Option.some.inj p.1,(hS'.mem a).mp q] at p;cases p.2
       have so:=dA h.w7 (lU (σ++[.dct kvs]++[.dct (dk S)]) (.lst (S.map .str)) (.dct (dk S'))) (λy hy=>bQ y _ h.ok ((hS.mem y).mp hy)) (iv s7 (by decide));replace so:=pe▸so;exact j4 (fn:=gK) rfl rfl (gA 8 fr ((R 3666568 e7 l7 e8 n8 so (C1 _) ((T (some a) _).1) (bx ..) ((cS ..)) ((a2 _).1) (bx ..) ((gb ..)) ((a2 _).2) (bx ..) ((dS ..)) (lh h.p9 j z _)))) (Pl ..)
     . rw[decide_eq_false q] at n8;have pe:=ko (ws:=ws) (o:=some a) (L:=S++[a]) h.ok (λy q=>Option.some.inj q▸aw) λy=>by rw[Qx,hS.mem y,Qt];refine⟨λp=>p.imp id λp=>⟨congrArg some p.symm,by rw[p];exact(SS _▸λt=>q ((hS'.mem a).mpr t))⟩,λp=>p.imp id λp=>(Option.some.inj p.1).symm⟩
       have ap:=Gp (lU (σ++[.dct kvs]++[.dct (dk S)]) (.lst (S.map .str)) (.dct (dk S'))) (by rw[PN];exact iv s7 (by decide)) (.str a);have e9:S.map PyData.str++[.str a]=(S++[a]).map .str:=(Qv (l₁:=S) (l₂:=[a])).symm;rw[DM,e9] at ap;have so:=dA h.w7 (lU (σ++[.dct kvs]++[.dct (dk S)]) (.lst ((S++[a]).map .str)) (.dct (dk S'))) (λy hy=>(Qx.mp hy).elim (λhy=>bQ y _ h.ok ((hS.mem y).mp hy)) λhy=>Qt.mp hy▸aw) (by rw[Qg];exact iv (Qu s7 1) (by decide));rw[pe] at so;exact j4 (fn:=gK) rfl rfl (gA 8 fr ((R 3666568 e7 l7 e8 n8 ap so (C1 _) ((T (some a) _).1) (bx ..) ((cS ..)) ((a2 _).1) (bx ..) ((gb ..)) ((a2 _).2) (bx ..) ((dS ..)) (lh h.p9 j z _)))) (Pl ..)
theorem Aj(x:Str):∀ A B:List Rw,bz x (bu (A++B))=(bz x (bu A)||bz x (bu B))
 | [],B=>rfl
 | r::A,B=>by
   show (mI x r||bz x (bu (A++B)))=((mI x r||bz x (bu A))||_)
   rw[Aj x A B,Ub]
theorem O1:∀ a s b t c:Bool,(a||(!s&&(b||(!t&&c))))=((a||(!s&&b))||(!(s||t)&&c)):=by decide
theorem o6(x:Str):∀ A B:List Rw,aN x (bu (A++B))=(aN x (bu A)||(!bz x (bu A)&&aN x (bu B)))
 | [],B=>rfl
 | r::A,B=>by refine(?_:(qN x r||(!mI x r&&aN x (bu (A++B))))=((qN x r||(!mI x r&&aN x (bu A)))||(!(mI x r||bz x (bu A))&&_)));exact(o6 x A B)▸O1 ..
theorem wn{l:List Rw}(h:l[k]?=some r):l=l.take k++r::l.drop (k+1):=by have:=Q2 k l;rw[Rv ((Qi.mp h).1),(Qi.mp h).2] at this;exact this.symm
theorem G9(x:Str)(r:Rw)(B:List Rw):bz x (bu (r::B))=(mI x r||bz x (bu B)):=rfl
theorem Iy(x:Str)(r:Rw)(B:List Rw):aN x (bu (r::B))=(qN x r||(!mI x r&&aN x (bu B))):=rfl
theorem ir(x:Str)(h:(lst b)[k]?=some r):bz x b=(bz x (bu ((lst b).take k))||(mI x r||bz x (aJ (k+1) b)))/\aN x b=(aN x (bu ((lst b).take k))||(!bz x (bu ((lst b).take k))&&(qN x r||(!mI x r&&aN x (aJ (k+1) b))))):=by
 have e:b=bu ((lst b).take k++r::(lst b).drop (k+1)):=by rw[<- wn h,lv]
 refine⟨(congrArg (bz x) e).trans ?_,(congrArg (aN x) e).trans ?_⟩
 . rw[Aj,G9];rfl
 . rw[o6,Iy];rfl
variable {l:List α}
theorem pK(h:z<=l.length)(B:List α):(l.take z++B).take z=l.take z/\(l.take z++B).drop z=B:=by
 have hz:(l.take z).length=z:=by rw[Ru];exact Ro h
 exact⟨by rw[List.take_append_of_le_length (Q4 hz.symm),List.take_take,Ui],by have:=List.drop_left (l₁:=l.take z) (l₂:=B);rw[hz] at this;exact this⟩
theorem iV{l:List Rw}(h:z<=l.length)(K:Rw):(lst (bu (fg m l z [K])))[z]?=some K/\A3 ((lst (bu (fg m l z [K]))).take z=l.take z) (aJ (z+1) (bu (fg m l z [K]))=bu (l.drop (z+m))) (True):=by
 rw[fG];unfold aJ fg;rw[fG,Qr];refine(pK h ([K]++l.drop (z+m))).elim λh1 h2=>?_;refine⟨?_,h1,?_,trivial⟩
 . rw[<- List.head?_drop,h2];rfl
 . rw[<- Sg,h2];rfl
theorem P3:∀ fA sA fR sR fD kF:Bool,(kF=true->fR=true)->(fA||(!sA&&(fR||(!sR&&fD))))=false->(fA||(!sA&&(kF||(!false&&fD))))=true->fD=true:=by decide
theorem P2:∀ sA sD:Bool,(sA||(false||sD))=false->sD=false:=by decide
theorem P4:∀ fA sA fr sr fD fr' sr':Bool,(fA||(!sA&&(fr||(!sr&&fD))))=false->(fA||(!sA&&(fr'||(!sr'&&fD))))=true->(fr=false/\fr'=true)\/(sr=true/\sr'=false/\fD=true):=by decide
theorem P1:∀ sA sr sr' sD:Bool,(sA||(sr||sD))=true->(sA||(sr'||sD))=false->sr=true/\sr'=false/\sD=false:=by decide
section
variable {K:Rw}
theorem wN{l l':Bool}(h:l'=true->l=true)(q:df x B l'=true):df x B l=true:=by
 unfold df at q ⊢;cases l' with
 | true=>rw[h rfl];exact q
 | false=>rw[Tc,RW] at q;rw[q];rfl
theorem O0:∀ n f:Bool,(n&&f)=true->n=true/\f=true:=by decide
theorem HV(hK:mI x K=false)(hz:z+m<=(lst c).length)(m1:1<=m)(hp:Pth b pre c):bz x b=true->bz x (bo m (.cons K .nil) z b pre)=false->l9 x b pre (z+(m - 1)) true=true:=by
 have zm:z+(m - 1)+1=z+m:=by rw[QQ,R9 m1]
 induction hp with
 | nil b=>intro _ h2;obtain⟨p1,p2,p3,_⟩:=iV (m:=m) (iv (Qz ..) hz) K;have q:=(ir x p1).1;rw[p2,p3,hK] at q;show df x (aJ (z+(m - 1)+1) b) true=true;rw[zm];unfold df;rw[show bz x (aJ (z+m) b)=false from(P2 _ _ (q.symm.trans h2))];exact Sj _
 | @cons b c r k ks hk hb hp ih=>
   intro h1 h2;rw[cQ hk] at h2;obtain⟨p1,p2,p3,_⟩:=iV (m:=1) (l:=lst b) (Q7 (Qi.mp hk).1) (gW r (bo m (.cons K .nil) z (cG r) ks));have q:=(ir x p1).1;replace q:=p3▸p2▸q;obtain⟨s1,s2,s3⟩:=P1 _ _ _ _ ((ir x hk).1.symm.trans h1) (q.symm.trans h2);rw[iD hk];have o1:df x (aJ (k+1) b) true=true:=by unfold df;rw[show bz x (aJ (k+1) b)=false from s3];exact Sj _
   rw[o1];cases r with
   | aga n b'=>obtain⟨n0,s1⟩:=O0 _ _ s1;have s2:(decide (n > 0)&&bz x (bo m (.cons K .nil) z b' ks))=false:=s2;rw[n0,RI] at s2;exact ih hz s1 s2
   | whn _ _=>injection s1
   | set _ _=>injection hb
   | tell _=>injection hb
   | call _ _ _=>injection hb
theorem HW(hK:mI x K=false)(hR:qN x K=true->aN x (aF z m c)=true)(hz:z+m<=(lst c).length)(m1:1<=m)(hp:Pth b pre c):aN x b=false->aN x (bo m (.cons K .nil) z b pre)=true->∀ l,l9 x b pre (z+(m - 1)) l=true:=by
 have zm:z+(m - 1)+1=z+m:=by rw[QQ,R9 m1]
 induction hp with
 | nil b=>
   intro h1 h2 l;obtain⟨p1,p2,p3,_⟩:=iV (m:=m) (iv (Qz ..) hz) K;have q:=(ir x p1).2;rw[p2,p3,hK] at q;have e:aN x b=(aN x (bu ((lst b).take z))||(!bz x (bu ((lst b).take z))&&(aN x (aF z m b)||(!bz x (aF z m b)&&aN x (bu ((lst b).drop (z+m))))))):=by
     have e:b=bu ((lst b).take z++(((lst b).drop z).take m++(lst b).drop (z+m))):=by rw[<- Sg,Q2,Q2,lv]
     refine(congrArg (aN x) e).trans ?_;rw[o6,o6];rfl
   show df x (aJ (z+(m - 1)+1) b) l=true;rw[zm];unfold df;rw[show aN x (aJ (z+m) b)=true from(P3 _ _ _ _ _ _ hR (e.symm.trans h1) (q.symm.trans h2))];rfl
 | @cons b c r k ks hk hb hp ih=>
   intro h1 h2 l;rw[cQ hk] at h2;obtain⟨p1,p2,p3,_⟩:=iV (m:=1) (l:=lst b) (Q7 (Qi.mp hk).1) (gW r (bo m (.cons K .nil) z (cG r) ks));have q:=(ir x p1).2;replace q:=p3▸p2▸q;rw[iD hk];rcases P4 _ _ _ _ _ _ _ ((ir x hk).2.symm.trans h1) (q.symm.trans h2) with ⟨f1,f2⟩ | ⟨s1,s2,f3⟩
   . cases r with
     | aga n b'=>have f1:(decide (n > 0)&&aN x b')=false:=f1;obtain⟨n0,f2⟩:=O0 _ _ f2;rw[n0,RI] at f1;exact ih hR hz f1 f2 _
     | whn t b'=>obtain⟨o1,f1⟩:=SH.mp f1;have f2:(decide (x∈own (.whn t b'))||aN x (bo m (.cons K .nil) z b' ks))=true:=f2;rw[o1,SF] at f2;exact ih hR hz f1 f2 _
     | set _ _=>injection hb
     | tell _=>injection hb
     | call _ _ _=>injection hb
   . have o1:df x (aJ (k+1) b) l=true:=by unfold df;rw[show aN x (aJ (k+1) b)=true from f3];rfl
     rw[o1];cases r with
     | aga n b'=>obtain⟨n0,s1⟩:=O0 _ _ s1;have s2:(decide (n > 0)&&bz x (bo m (.cons K .nil) z b' ks))=false:=s2;rw[n0,RI] at s2;exact HV hK hz m1 hp s1 s2
     | whn _ _=>injection s1
     | set _ _=>injection hb
     | tell _=>injection hb
     | call _ _ _=>injection hb
theorem EU(hK:mI x K=false)(hR:qN x K=true->aN x (aF z m c)=true)(hz:z+m<=(lst c).length)(m1:1<=m)(hp:Pth b pre c):∀ l l':Bool,(l'=true->l=true)->l9 x (bo m (.cons K .nil) z b pre) pre z l'=true->l9 x b pre (z+(m - 1)) l=true:=by
 have zm:z+(m - 1)+1=z+m:=by rw[QQ,R9 m1]
 induction hp with
 | nil b=>intro l l' hl h;obtain⟨p1,p2,p3,_⟩:=iV (m:=m) (iv (Qz ..) hz) K;have h:df x (aJ (z+1) (bu (fg m (lst b) z [K]))) l'=true:=h;rw[p3] at h;show df x (aJ (z+(m - 1)+1) b) l=true;exact zm▸wN hl h
 | @cons b c r k ks hk hb hp ih=>
   intro l l' hl h;rw[cQ hk] at h;obtain⟨p1,p2,p3,_⟩:=iV (m:=1) (l:=lst b) (Q7 (Qi.mp hk).1) (gW r (bo m (.cons K .nil) z (cG r) ks));rw[iD p1,(po hb _).1,p3] at h;rw[iD hk];have mono:df x (aJ (k+1) b) l'=true->df x (aJ (k+1) b) l=true:=wN hl;have h:l9 x (bo m (.cons K .nil) z (cG r) ks) ks z (LT x (gW r (bo m (.cons K .nil) z (cG r) ks)) (df x (aJ (k+1) b) l'))=true:=h;generalize df x (aJ (k+1) b) l'=v' at h mono;generalize df x (aJ (k+1) b) l=v at mono ⊢;cases r with
   | aga n b'=>
     show l9 x b' ks _ (v||(decide (n > 1)&&aN x b'))=true;have h:l9 x (bo m (.cons K .nil) z b' ks) ks z (v'||(decide (n > 1)&&aN x (bo m (.cons K .nil) z b' ks)))=true:=h;cases hv:v with
     | true=>exact ih hR hz _ _ (λ_=>rfl) h
     | false=>
       rw[hv] at mono;have v0:v'=false:=SS _▸λq=>QB (mono q);rw[v0] at h;cases hn:decide (n > 1) with
       | false=>rw[hn] at h;exact ih hR hz _ _ id h
       | true=>
         replace h:=hn▸h;cases hf:aN x b' with
         | true=>exact ih hR hz _ _ (λ_=>rfl) h
         | false=>
           cases hg:aN x (bo m (.cons K .nil) z b' ks) with
           | true=>exact HW hK hR hz m1 hp hf hg _
           | false=>rw[hg] at h;exact ih hR hz _ _ id h
   | whn t b'=>exact ih hR hz _ _ mono h
   | set _ _=>injection hb
   | tell _=>injection hb
   | call _ _ _=>injection hb
end
theorem xJ(p:Str):(dl (.name p)).eqv (dl (.name p))=true:=by show (decide (aK=aK)&&(decide (p=p)&&true))=true;rw[decide_eq_true rfl,decide_eq_true rfl];rfl
theorem xc(ps:List Str):gY (ps.map Tm.name) ps=[]:=by unfold gY;rw[Rk];intro k hk;rw[RV,PN] at hk;unfold qF;rw[Q0,Qk hk];show ¬ (!(dl (.name ps[k])).eqv (dl (.name ps[k])))=true;rw[xJ];exact Rt
theorem Ca(ws:List Str)(o:Option Str)(nm:Str)(R:RL):wR o ((cV ws o R).map Tm.name) (lZ ws o nm R)=R:=by
 have e:tD o (Hv o)=[]:=by
   cases o with
   | none=>rfl
   | some y=>exact AQ (xJ y)
 show bu ((gY ((cV ws o R).map Tm.name) (cV ws o R)).map _++lst R++tD o (Hv o))=R;rw[xc,e,QG,R2,TV,lv]
theorem DO(r:Rw)(a b:RL):gW (gW r a) b=gW r b:=by cases r <;> rfl
theorem DP(r:Rw):gW r (cG r)=r:=by cases r <;> rfl
theorem BD(K:Rw)(hp:Pth b pre c)(hz:z<=(lst c).length):bo 1 (aF z m c) z (bo m (.cons K .nil) z b pre) pre=b:=by
 induction hp with
 | nil b=>rw[ia,ia];unfold fg;rw[fG];show bu (((lst b).take z++[K]++(lst b).drop (z+m)).take z++lst (aF z m b)++((lst b).take z++[K]++(lst b).drop (z+m)).drop (z+1))=b;rw[Qr ((lst b).take z) [K]];obtain⟨h1,h2⟩:=pK hz ([K]++(lst b).drop (z+m));rw[h1,<- Sg,h2];unfold aF;rw[fG];show bu ((lst b).take z++((lst b).drop z).take m++(lst b).drop (z+m))=b;rw[Qr,<- Sg,Q2,Q2,lv]
 | @cons b c r k ks hk hb hp ih=>obtain⟨p1,p2,p3,_⟩:=iV (m:=1) (l:=lst b) (Q7 (Qi.mp hk).1) (gW r (bo m (.cons K .nil) z (cG r) ks));rw[cQ hk,cQ p1,(po hb _).1,ih hz,DO,DP];show bu ((lst (bu (fg 1 (lst b) k [gW r _]))).take k++[r]++(lst (bu (fg 1 (lst b) k [gW r _]))).drop (k+1))=b;have p4:=congrArg lst p3;unfold aJ at p4;rw[fG,fG] at p4;rw[p2,fG,p4,fG,Qr];show bu ((lst b).take k++r::(lst b).drop (k+1))=b;rw[<- wn hk,lv]
theorem je(hj:j < fs.length)(o:Option Str)(nm:Str):ym ws fs j f pre z c m o nm=fs.take j++(lZ ws o nm (aF z m c)::d4 ws o nm pre z c m f::fs.drop (j+1)):=by unfold ym dB fg;refine(pK (Q7 hj) ([d4 ws o nm pre z c m f]++fs.drop (j+1))).elim λh1 h2=>?_;rw[Qr (fs.take j) [d4 ws o nm pre z c m f],h1,h2,Qr];rfl
theorem Gn(h:j < l.length)(B:List α)(k:Nat):(l.take j++B)[j+k]?=B[k]?:=by
 have hz:(l.take j).length=j:=by rw[Ru];exact Ro (Q7 h)
 rw[QH (by rw[hz];exact Qz ..),hz,Sp]
theorem IT(hj:fs[j]?=some f)(g f':Fd):CE (dB (fs.take j++(g::f'::fs.drop (j+1))) (j+1) [f]) j=fs/\∀ q∈dB (fs.take j++(g::f'::fs.drop (j+1))) (j+1) [f],q∈fs\/q=g:=by
 have hl:=(Qi.mp hj).1;obtain⟨h1,h2⟩:=pK (Q7 hl) (g::f'::fs.drop (j+1));have ef:fs.take j++f::fs.drop (j+1)=fs:=by have:=Q2 j fs;rw[Rv hl,(Qi.mp hj).2] at this;exact this
 have e:dB (fs.take j++(g::f'::fs.drop (j+1))) (j+1) [f]=fs.take j++(g::f::fs.drop (j+1)):=by
   have t:(fs.take j++(g::f'::fs.drop (j+1))).take (j+1)=fs.take j++[g]:=by rw[List.take_add,h1,h2];rfl
   unfold dB fg;rw[t,QQ j 1 1,<- Sg,h2,Qr,Qr];rfl
 refine e▸?_;obtain⟨h3,h4⟩:=pK (Q7 hl) (g::f::fs.drop (j+1));refine⟨?_,λq hq=>?_⟩
 . unfold CE;rw[h3,<- Sg,h4];exact ef
 . rcases Qx.mp hq with hq | hq
   . exact .inl (QO hq)
   . rcases Qq.mp hq with hq | hq
     . exact .inr hq
     . exact .inl (ef▸RM _ hq)
theorem xk(hj:fs[j]?=some f)(o:Option Str)(x:Str)(pre:List Nat)(z:Nat)(c:RL)(m:Nat):(∀ q∈fs.map kz,q∈(ym ws fs j f pre z c m o x).map kz)/\(x,(cV ws o (aF z m c)).length)∈(ym ws fs j f pre z c m o x).map kz:=by
 have hl:=(Qi.mp hj).1;have ef:fs.take j++f::fs.drop (j+1)=fs:=by have:=Q2 j fs;rw[Rv hl,(Qi.mp hj).2] at this;exact this
 rw[je hl,Qv];refine⟨λq hq=>?_,RM _ (Qh ..)⟩;rw[<- ef,Qv] at hq;exact Qx.mpr ((Qx.mp hq).imp id λhq=>Qj _ hq)
theorem Bs(w7:ws.length<=7)(ho:∀ y,o=some y->y∈ws)(hm:(x,(cV ws o R).length)∈cs):ls ws cs (lE o x (cV ws o R)):=by exact⟨ho,λt ht=>by obtain⟨y,hy,rfl⟩:=QV.mp ht;exact kJ 2 ((λy hy=>(Q1.mp ((j8 y _).mp hy)).1) y hy),by rw[PN];exact qe w7 o R,by rw[PN];exact hm⟩
theorem rT(q:∀ f∈fs,okF ws (fs.map kz) f)(h:Dr ws (fs.map kz) fs j f pre z c m)(ho:∀ y,o=some y->y∈ws)(hx:x∉hX fs):At ws ((ym ws fs j f pre z c m o x).map kz) (ym ws fs j f pre z c m o x) (j+1) j (d4 ws o x pre z c m f) (lZ ws o x (aF z m c)) pre z (bo m (.cons (lE o x (cV ws o (aF z m c))) .nil) z c []) o x ((cV ws o (aF z m c)).map Tm.name):=by
 have hl:=(Qi.mp h.hj).1;obtain⟨hd1,hd2⟩:=xk (ws:=ws) h.hj o x pre z c m;have hw:∀ y∈cV ws o (aF z m c),y∈ws:=λy hy=>(Q1.mp ((j8 y _).mp hy)).1;have hz:z < (lst c).length:=Q3 (R1 h.m1) h.hm;obtain⟨w1,w2,w3⟩:=vX (ws:=ws) (cs:=(ym ws fs j f pre z c m o x).map kz) m (news:=.cons (lE o x (cV ws o (aF z m c))) .nil) z h.hp;obtain⟨p1,p2⟩:=Eb m (r':=lE o x (cV ws o (aF z m c))) z hz h.hp;have og:okF ws ((ym ws fs j f pre z c m o x).map kz) (lZ ws o x (aF z m c)):=⟨hw,qe h.w7 ..,iA hd1 _ h.ok,h.h9,h.n6,by
   cases o with
   | none=>exact vH ..
   | some y=>exact kJ 2 (ho y rfl)⟩
 have n1:1<=nL (aF z m c):=iv (iv h.m1 (Q4 (jf h.hm).symm)) (iX _);have of':okF ws ((ym ws fs j f pre z c m o x).map kz) (d4 ws o x pre z c m f):=⟨h.of.ps,h.of.p4,w1 (iA hd1 _ h.of.rs) ⟨(Bs h.w7 ho hd2),trivial⟩,iv w2 h.of.h9,by rw[(rfl:nL (.cons (lE o x (cV ws o (aF z m c))) .nil)=1)] at w3;exact iv (Nat.le_of_add_le_add_right (iv (QR n1 _) (Q4 w3))) h.of.n4,h.of.t⟩
 refine⟨h.w7,?_,?_,?_,p1,p2,?_,?_,?_,rfl,PN _,by rw[PN];exact qe h.w7 ..,λt ht=>by obtain⟨y,hy,rfl⟩:=QV.mp ht;exact kJ 2 (hw y hy)⟩
 . rw[je hl,Qg,Ru,Ro (Q7 hl),QF,QF,Rn];exact QE (iv (Q4 ((Nat.succ_add j _).symm.trans (Tp hl))) h.h8)
 . intro g hg;rw[je hl] at hg;rcases Qx.mp hg with hg | hg
   . exact lV hd1 (q g (QO hg))
   . rcases Qq.mp hg with rfl | hg
     . exact og
     . rcases Qq.mp hg with rfl | hg
       . exact of'
       . exact lV hd1 (q g (RE hg))
 . rw[je hl,Gn hl];rfl
 . rw[je hl];exact Gn hl _ 0
 . rw[je hl];unfold hX;rw[Qv,List.idxOf_append,if_neg (λy=>hx (SG▸y |> QO)),PN,Ru,Ro (Q7 hl),Q6];exact((congrArg (·+j) (T5 (a:=x))).trans (Q5 j)).symm
 . rw[je hl];unfold hX;exact Qv▸RM _ (Qh ..)
theorem Ej(o:Option Str)(x:Str)(ps:List Str):own (lE o x ps)=ps:=by
 show (ps.map Tm.name).flatMap cC=ps
 induction ps with
 | nil=>rfl
 | cons p ps ih=>exact congrArg (p::·) ih
theorem KO{pl pl':List Nat}{q:List Nat}(h:(q,some y)∈(eu pl k b).map yl):∃ q',(q',some y)∈(eu pl' k' b).map yl:=by
 obtain⟨p,hp,e⟩:=QV.mp h;have h1:p.2∈ng b:=by rw[<- gE pl k b];exact List.mem_map_of_mem hp
 rw[<- gE pl' k' b] at h1;obtain⟨p',hp',e'⟩:=QV.mp h1;refine⟨p'.1,QV.mpr ⟨p',hp',?_⟩⟩;have e2:vQ p.2=some y:=congrArg Prod.snd e;unfold yl;rw[e',e2]
theorem HH(ok:fC ws cs R)(ho:∀ y,o=some y->y∈ws)(y:Str):Bw (lZ ws o x R) y=false:=by
 have pm:=wJ (o:=o) ok ho;show (!decide (y∈cV ws o R)&&(aN y R||(!bz y R&&decide (y∈cC (Hv o)))))=false;by_cases h:y∈cV ws o R
 . rw[decide_eq_true h];rfl
 . rw[decide_eq_false h];rw[(SS _▸λq=>h ((pm y).mpr (.inl q)):aN y R=false)];cases hs:bz y R with
   | true=>rfl
   | false=>
     cases o with
     | none=>rfl
     | some w=>exact decide_eq_false λq=>h ((pm y).mpr (.inr ⟨congrArg some (Qt.mp q).symm,hs⟩))
theorem HG(h:Dr ws (fs.map kz) fs j f pre z c m)(ho:∀ y,o=some y->y∈ws)(hw:∀ y,(∃ q,WS j f pre z c m q y)↔o=some y)(q:List Nat)(y:Str)(h1:(q,some y)∈(eu [j] 0 (aF z m c)).map yl)(h2:o≠some y):l9 y (d4 ws o x pre z c m f).rs pre z (decide (y∈cC f.t))=false:=by
 obtain⟨q',hq'⟩:=KO (pl':=j::pre) (k':=z) h1;have hK:mI y (lE o x (cV ws o (aF z m c)))=false:=decide_eq_false h2;have hR:qN y (lE o x (cV ws o (aF z m c)))=true->aN y (aF z m c)=true:=λq=>by have q:y∈own (lE o x (cV ws o (aF z m c))):=of_decide_eq_true q;rw[Ej] at q;exact(((wJ (o:=o) h.ok ho) y).mp q).elim id λe=>absurd e.1 h2
 refine SS _▸λh3=>h2 ((hw y).mp ⟨q',hq',EU hK hR h.hm h.m1 h.hp _ _ id h3⟩)
theorem Mh(h:fC ws cs b)(hr:r∈ng b):ls ws cs r:=by rw[<- gE [] 0 b] at hr;obtain⟨p,hp,rfl⟩:=QV.mp hr;exact mP [] 0 b h p hp
theorem qh(h:fC ws (fs.map kz) b)(hx:x∉hX fs):(ng b).any (GO x)=false:=by
 rw[Tx];intro r hr q;cases r with
 | call o' fn ts=>obtain⟨g,hg,e⟩:=QV.mp (Mh h hr).2.2.2;exact hx (of_decide_eq_true q▸QV.mpr ⟨g,hg,congrArg Prod.fst e⟩)
 | set _ _=>injection q
 | tell _=>injection q
 | whn _ _=>injection q
 | aga _ _=>injection q
theorem tB(h:Dr ws (fs.map kz) fs j f pre z c m)(o:Option Str)(x:Str):gB 1 (aF z m c) pre z (d4 ws o x pre z c m f)=f:=by cases f;exact congrArg (Fd.mk _ _ · _) (BD (m:=m) (lE o x (cV ws o (aF z m c))) h.hp (iv (Qz ..) h.hm))
theorem D9(q:∀ f∈fs,okF ws (fs.map kz) f)(h:Dr ws (fs.map kz) fs j f pre z c m)(ho:∀ y,o=some y->y∈ws)(hw:∀ y,(∃ q,WS j f pre z c m q y)↔o=some y)(hx:x∉hX fs)(d:Nat)(σ:ac):af prog (d+23) 24 [.d (.tuple ((ym ws fs j f pre z c m o x).map ay)),.d (pD (aX (j+1) pre z))] σ=.ok (.d (.tuple [.tuple (fs.map ay),.tuple [pD (aX j pre z),.int (m:Int),bp (lE o x (cV ws o (aF z m c))),.int (j:Int),ay (lZ ws o x (aF z m c))]])) σ:=by
 have hl:=(Qi.mp h.hj).1;obtain⟨b1,b2⟩:=IT h.hj (lZ ws o x (aF z m c)) (d4 ws o x pre z c m f);have nc:jh x (dB (ym ws fs j f pre z c m o x) (j+1) [gB 1 (aF z m c) pre z (d4 ws o x pre z c m f)])=false:=by
   unfold jh;rw[tB h,je hl,Tx];intro g hg w;rcases b2 g hg with hg | rfl
   . rw[qh (q g hg).rs hx] at w;injection w
   . exact QB ((qh (b:=aF z m c) h.ok hx).symm.trans w)
 rw[(Ge (rT q h ho hx) (xc _) (HH h.ok ho) (HG h ho hw) (Ca ..) nc d σ)];show Res.ok (V.d (.tuple [.tuple ((CE (dB (ym ws fs j f pre z c m o x) (j+1) [gB 1 (aF z m c) pre z (d4 ws o x pre z c m f)]) j).map ay),.tuple [.tuple (.int (((j+1:Nat):Int) - 1)::(pre++[z]).map nI),.int (am (aF z m c)).length,_,_,_]])) σ=_;rw[tB h,je hl,b1,jf h.hm,fZ];rfl
structure Wd(ws W D:List Str):Prop where
 mem:∀ x,x∈W↔x∈D
 nd:D.Nodup
 inw:∀ x∈D,x∈ws
 len:W.length<=28 * D.length
theorem AB(h:ls ws cs r):(own r).length<=28:=by
 have fl:∀ l:List Tm,(∀ t∈l,sh ws t)->(l.flatMap cC).length<=l.length * 4:=λl=>by
   induction l with
   | nil=>exact λ_=>QI _
   | cons t l ih=>exact λhw=>by rw[Tb,Qg,QF,Ts,QW];exact Ra (ih λy hy=>hw y (Qj _ hy)) (oZ (hw t (Qh ..)))
 exact iv (fl _ (jE h).1) (SI 4 (jE h).2)
theorem Wd.step{W D:List Str}(h:Wd ws W D)(N:List Str)(hN:∀ x∈N,x∈ws)(h16:N.length<=28):∃ D',Wd ws (W++N.filter λx=>!decide (x∈W)) D':=by
 have hm:∀ x,x∈(N.filter λx=>!decide (x∈W))->x∈N/\x∉D:=λx hx=>by refine(Q1.mp hx).elim λh1 h2=>?_;exact⟨h1,λq=>by rw[decide_eq_true ((h.mem x).mpr q)] at h2;injection h2⟩
 have hl:(N.filter λx=>!decide (x∈W)).length<=28:=iv (Rz ..) h16;generalize (N.filter λx=>!decide (x∈W))=M at hm hl;cases M with
 | nil=>exact⟨D,by rw[QG];exact h⟩
 | cons a M=>
   refine⟨D++cn (a::M),λx=>?_,R3.mpr ⟨h.nd,bL _,λx hx y hy e=>(hm y ((bg y _).mp hy)).2 (e▸hx)⟩,λx hx=>?_,?_⟩
   . rw[Qx,Qx,h.mem x,bg]
   . exact(Qx.mp hx).elim (h.inw x) λq=>hN x (hm x ((bg x _).mp q)).1
   . rw[Qg,Qg,Nat.mul_add];have:1<=(cn (a::M)).length:=TI ((bg a (a::M)).mpr (Qh ..));exact Ra h.len (iv hl (RJ 28 this))
theorem IU(w7:ws.length<=7)(d:Nat)(v0:V)(σ:ac):∀ (L:List (List Nat×Rw)) (W D:List Str) (v2 v3:V),Wd ws W D->(∀ p∈L,ls ws cs p.2)->X4 λW' D' v2' v3'=>A3 (Wd ws W' D') (∀ x,x∈W'↔x∈W\/∃ p∈L,x∈own p.2) (aY (aG prog.G (af prog (d+4)) (.tup [2,3]) d8) (L.map a4) (F5 v0 (.d (.list (W.map .str))) v2 v3 .un) σ=.ok (.next (F5 v0 (.d (.list (W'.map .str))) v2' v3' .un)) σ):=by
 intro xs_
 induction xs_ with
 | nil=>intro W D v2 v3 h _;exact⟨W,D,v2,v3,h,λx=>⟨.inl,λq=>q.elim id λ⟨_,h,_⟩=>by cases h⟩,rfl⟩
 | cons p L ih_=>
   intro W D v2 v3 h H;refine kk λK k=>?_;obtain⟨q,r⟩:=p;have okr:ls ws cs r:=H (q,r) (Qh ..);obtain⟨Mo,a5⟩:=h.step (own r) (λx hx=>lr okr hx) (AB okr);obtain⟨W',D',v2',v3',h',hm,ih⟩:=ih_ _ Mo (.d (pD q)) (.d (bp r)) a5 λx hx=>H x (Qj _ hx);have ad:=jv (a:=W.map .str) (b:=((own r).filter λx=>!decide (x∈W)).map .str) (by rw[PN,PN];exact iv (Ra (iv h.len (RJ 28 (iv (h.nd.length_le_of_subset h.inw) w7))) (iv (Rz ..) (AB okr))) (by decide)) σ
   rw[<- Qv] at ad;refine k ?_;refine⟨W',D',v2',v3',h',λx=>?_,aQ (cA rfl ((dn prog.G (af prog (d+4)) d8 (F5 v0 (.d (.list (W.map .str))) (.d (pD q)) (.d (bp r)) .un) σ 1 (ey (G:=prog.G) (cf:=af prog (d+4)) (i:=4) (it:=.seq (.call 38 (.cons (.var 3) .nil))) (c:=.cmp .notIn (.var 4) (.var 1)) (e:=.var 4) (ρ:=(F5 v0 (.d (.list (W.map .str))) (.d (pD q)) (.d (bp r)) .un)) (σ:=σ) (aa:=σ) (base:=(own r).map .str) PyData.str PyData.str (λx=>!decide (x∈W)) (ps:=own r) (aZ (aD rfl (x4 okr d σ)) rfl) (λx _=>bJ rfl rfl (by rw[pj,uU,mz];rfl)) λx _ _=>rfl) ad))) ih⟩;rw[hm x,Qx,Q1];constructor
   . rintro ((a | a) | ⟨p,hp,hx⟩)
     . exact .inl a
     . exact .inr ⟨(q,r),Qh ..,a.1⟩
     . exact .inr ⟨p,Qj _ hp,hx⟩
   . rintro (a | ⟨p,hp,hx⟩)
     . exact .inl (.inl a)
     . rcases Qq.mp hp with rfl | hp
       . by_cases w:x∈W
         . exact .inl (.inl w)
         . exact .inl (.inr ⟨hx,by rw[decide_eq_false w];rfl⟩)
       . exact .inr ⟨p,hp,hx⟩
theorem rJ{cs:CS}(w7:ws.length<=7)(ok:fC ws cs R)(h9:hL R<=9)(hn:nL R<=600)(d:Nat)(σ:ac):∃ W:List Str,A3 (∀ x,aN x R=true->x∈W) (W.length<=196) (af prog (d+12) 60 [.d (.tuple (am R))] σ=.ok (.d (.list (W.map .str))) σ):=by
 refine kk λK k=>?_;obtain⟨W,D,v2,v3,h,hm,lp⟩:=IU (cs:=cs) w7 (d+7) (.d (.tuple (am R))) σ (eu [] 0 R) [] [] .un .un ⟨λx=>Iff.rfl,SM,(λx h=>by cases h),QP _⟩ (mP [] 0 R ok);refine k ?_;refine⟨W,λx hx=>?_,iv h.len (RJ 28 (iv (h.nd.length_le_of_subset h.inw) w7)),?_⟩
 . obtain⟨q,hq,hx⟩:=kE x R hx;obtain⟨p,hp,rfl⟩:=Mg hq [] 0;exact(hm x).mpr (.inr ⟨p,hp,hx⟩)
 . exact((a9 prog 60 (d+11) [.d (.tuple (am R))] σ rfl 0 (bf (aZ (aD rfl (gP 9 R [] d h9 (iv hn (by decide)) (QK 9 91) σ)) rfl) lp) (same σ)))
variable {ps:List α}
theorem G3{c:E}(φ g:α->PyData)(b:α->Bool)(hI:cj G cf it ρ σ=.ok ⟨ps.map φ,base,none⟩ aa)(hc:∀ p∈ps,ag G cf c (ρ.set i (.d (φ p))) (aa++[Cell.busy])=.ok (.d (.bool (b p))) (aa++[Cell.busy]))(h:∀ p∈ps,b p=true->ag G cf e (ρ.set i (.d (φ p))) (aa++[Cell.busy])=.ok (.d (g p)) (aa++[Cell.busy])):ag G cf (.comp true (.var i) it (.yes c) e) ρ σ=.ok (.loc aa.length) (aa++[.lst ((ps.filter b).map g)]):=by refine(ud hI (r:=(ps.filter b).map g) ?_).trans rfl;rw[mt φ (λp=>if b p then some (g p) else none) ps λp hp=>Gi (hc p hp) (h p hp),FI]
variable {B:SL}{Fr:V->V->Fm}
theorem tV{i:Nat}(H:∀ (b:RL) (r:Rw) (n:Nat) (v:V),(lst b)[n]?=some r->uR r=true->aG prog.G cf (.var k) B (.int (n:Int)) (Fr (.d (.tuple (am b))) v) σ=.ok (.next (Fr (.d (.tuple (am (cG r)))) (.d (.int (n:Int))))) σ)(hp:Pth b pre c):∀ v,∃ v',aY (aG prog.G cf (.var k) B) ((iN pre).map PyData.int) (Fr (.d (.tuple (am b))) v) σ=.ok (.next (Fr (.d (.tuple (am c))) v')) σ:=by
 induction hp with
 | nil b=>exact λv=>⟨v,rfl⟩
 | @cons b c r n ks hk hb hp ih=>intro v;refine(ih (.d (.int (n:Int)))).elim λv' e=>?_;exact⟨v',aQ (H b r n v hk hb) e⟩
theorem Jm(j:Nat)(pre:List Nat)(z:Nat)(σ:ac):eB false (.d (pD (aX j pre z))) (some (.d (.int 1))) (some (.d (.int (-1)))) σ=.ok (.d (.tuple ((iN pre).map PyData.int))) σ:=by rw[wH];exact yM ..
variable {Ns:List Str}
set_option maxHeartbeats 40000000 in
theorem rD(h:Dr ws cs fs j f pre z c m)(x:Str)(ho:∀ y,Ns.head?=some y->y∈ws)(d:Nat)(σ:ac):af prog (d+18) 50 [.d (.tuple (fs.map ay)),.d (pD (aX j pre z)),.d (.int (m:Int)),.d (.str x),.d (.list (Ns.map .str))] σ=.ok (.d (CD ws fs j f pre z c m Ns.head? x)) σ:=by
 refine(tV (B:=kX) (i:=5) (k:=6) (Fr:=λa b=>JQ (.d (.tuple (fs.map ay))) (.d (pD (aX j pre z))) (.d (.int (m:Int))) (.d (.str x)) (.d (.list (Ns.map .str))) a b .un .un .un .un .un .un .un) (cf:=af prog (d+17)) (σ:=σ) (λb r n v hk hb=>bc (a7 (cU (bI (bI rfl rfl (fk ((cF _ n).trans hk) σ)) rfl (vA hb σ))) rfl)) h.hp .un).elim λv6 lp=>?_;obtain⟨W,hW,lW,e3⟩:=rJ h.w7 h.ok h.h9 h.n6 (d+5) σ;have cm:=G3 (G:=prog.G) (cf:=af prog (d+17)) (i:=12) (it:=.seq (.call 60 (.cons (.var 5) .nil))) (c:=.idx (.call 42 (.cons (.var 5) (.cons (.var 12) .nil))) (.int 0)) (e:=.var 12) (ρ:=JQ (.d (.tuple (fs.map ay))) (.d (pD (aX j pre z))) (.d (.int (m:Int))) (.d (.str x)) (.d (.list (Ns.map .str))) (.d (.tuple (am (aF z m c)))) v6 .un .un .un .un .un .un .un) (σ:=σ) (aa:=σ) (base:=W.map .str) PyData.str PyData.str (λy=>aN y (aF z m c)) (ps:=W) (aZ (aD rfl e3) rfl) (λy hy=>bI (aD rfl (iJ y 9 (aF z m c) (d+3) _ h.ok h.h9)) rfl rfl) (λp hp _=>rfl);have mW:∀ y,y∈W.filter (λy=>aN y (aF z m c))↔aN y (aF z m c)=true:=λy=>by rw[Q1];exact⟨λq=>q.2,λq=>⟨hW y q,q⟩⟩
 have lF:(W.filter (λy=>aN y (aF z m c))).length<=196:=iv (Rz ..) lW;generalize W.filter (λy=>aN y (aF z m c))=Q at cm mW lF;have qw:∀ y∈Q,y∈ws:=λy hy=>bQ y _ h.ok ((mW y).mp hy);have it:=aZ (kQ (G:=prog.G) (cf:=af prog (d+17)) (m:=false) (a:=.var 1) (lo:=.yes (.int 1)) (hi:=.yes (.neg (.int 1))) (ρ:=JQ (.d (.tuple (fs.map ay))) (.d (pD (aX j pre z))) (.d (.int (m:Int))) (.d (.str x)) (.d (.list (Ns.map .str))) (.d (.tuple (am f.rs))) .un .un .un .un .un .un .un .un) rfl rfl rfl (Jm j pre z σ)) rfl;have T:=λ(o:Option Str)=>(na m (news:=.cons (lE o x (cV ws o (aF z m c))) .nil) (QM rfl) h.hj (iv h.h8 (by decide)) h.hp (iv h.of.n4 (by decide)) h.of.h9 (z:=z) (d+6));have C:=λ(o:Option Str) (v8 v9:V) (τ:ac)=>nh (G:=prog.G) (cf:=af prog (d+17)) (i:=13) (it:=.seq (.var 7)) (e:=.tup (.cons (.str aK) (.cons (.var 13) .nil))) (ρ:=JQ (.d (.tuple (fs.map ay))) (.d (pD (aX j pre z))) (.d (.int (m:Int))) (.d (.str x)) (.d (.list (Ns.map .str))) (.d (.tuple (am (aF z m c)))) v6 (.d (.list ((cV ws o (aF z m c)).map .str))) v8 v9 .un .un .un .un) (σ:=τ) (aa:=τ) (base:=(cV ws o (aF z m c)).map .str) PyData.str (λp=>.tuple [.str aK,.str p]) (ps:=cV ws o (aF z m c)) (aZ rfl rfl) λp _=>rfl;have nn:=l4 (Ns.map .str);have fr:execs prog.G (af prog (d+17)) (pM 4 cr.body) [.d (.tuple (fs.map ay)),.d (pD (aX j pre z)),.d (.int (m:Int)),.d (.str x),.d (.list (Ns.map .str)),.un,.un,.un,.un,.un,.un,.un,.un,.un] σ=.ok (.next (JQ (.d (.tuple (fs.map ay))) (.d (pD (aX j pre z))) (.d (.int (m:Int))) (.d (.str x)) (.d (.list (Ns.map .str))) (.d (.tuple (am (aF z m c)))) v6 (.loc σ.length) .un .un .un .un .un .un)) (σ++[.lst (Q.map .str)]):=((dn prog.G (af prog (d+17)) (pM 4 cr.body) [.d (.tuple (fs.map ay)),.d (pD (aX j pre z)),.d (.int (m:Int)),.d (.str x),.d (.list (Ns.map .str)),.un,.un,.un,.un,.un,.un,.un,.un,.un] σ 91 (bx ..) (d9 h.hj σ) (bf it lp) (ba ..) (ba ..) ((j9 c z m σ)) cm))
 have R:=dn prog.G (af prog (d+17)) (k9 4 cr.body) (JQ (.d (.tuple (fs.map ay))) (.d (pD (aX j pre z))) (.d (.int (m:Int))) (.d (.str x)) (.d (.list (Ns.map .str))) (.d (.tuple (am (aF z m c)))) v6 (.loc σ.length) .un .un .un .un .un .un) (σ++[Cell.lst (Q.map .str)]);unfold CD;rw[vm];cases Ns with
 | nil=>
   have pe:=ko (ws:=ws) (o:=none) (L:=Q) h.ok (λy q=>by injection q) λy=>by rw[mW y];exact⟨.inl,λq=>q.elim id λq=>by cases q.1⟩
   have so:=dA h.w7 (aB σ (.lst (Q.map .str))) qw (iv lF (by decide));rw[pe] at so;have C1:=C none (.d .none) (.d (dl (.num 0))) (σ++[.lst (Q.map .str)]);rw[ku] at C1;have a2:=o8 (h.len (d4 ws none x pre z c m f)) j (ay (lZ ws none x (aF z m c))) (σ++[.lst (Q.map .str)]);exact j4 (fn:=cr) rfl rfl (gA 4 fr ((R 28596 so C1 ((T none _).2) (bx ..) ((cS ..)) a2.1 (bx ..) ((gb ..)) a2.2 (bx ..) ((dS ..)) (lh h.p9 j z _)))) (bO ..)
 | cons a Ns=>
   have aw:=ho a rfl;have C1:=C (some a) (.d (.str a)) (.d (dl (.name a)));rw[ku] at C1;have a2:=o8 (h.len (d4 ws (some a) x pre z c m f)) j (ay (lZ ws (some a) x (aF z m c)));have ni:=Pz (aB σ (.lst (Q.map .str))) a;have pe:(a∈Q\/bz a (aF z m c)=true)->Hb Q=cV ws (some a) (aF z m c):=λw=>ko (ws:=ws) (o:=some a) (L:=Q) h.ok (λy q=>Option.some.inj q▸aw) λy=>by
     rw[mW y];refine⟨.inl,λp=>p.elim id λp=>?_⟩;have hy:=Option.some.inj p.1;subst hy;rcases w with w | w
     . exact(mW a).mp w
     . replace p:=w▸p;cases p.2
   by_cases q:a∈Q
   . replace ni:=(decide_eq_true q)▸ni;have so:=dA h.w7 (aB σ (.lst (Q.map .str))) qw (iv lF (by decide));replace so:=(pe (.inl q))▸so;exact j4 (fn:=cr) rfl rfl (gA 4 fr ((R 915089 (nn _) ni so (C1 _) ((T (some a) _).2) (bx ..) ((cS ..)) ((a2 _).1) (bx ..) ((gb ..)) ((a2 _).2) (bx ..) ((dS ..)) (lh h.p9 j z _)))) (bO ..)
   . replace ni:=(decide_eq_false q)▸ni;have sc:=iJ a 9 (aF z m c) (d+3) (σ++[.lst (Q.map .str)]) h.ok h.h9;cases hs:bz a (aF z m c) with
     | true=>rw[hs] at sc;have so:=dA h.w7 (aB σ (.lst (Q.map .str))) qw (iv lF (by decide));rw[pe (.inr hs)] at so;exact j4 (fn:=cr) rfl rfl (gA 4 fr ((R 1830161 (nn _) ni sc so (C1 _) ((T (some a) _).2) (bx ..) ((cS ..)) ((a2 _).1) (bx ..) ((gb ..)) ((a2 _).2) (bx ..) ((dS ..)) (lh h.p9 j z _)))) (bO ..)
     | false=>
       rw[hs] at sc;have ap:=vF (σ:=σ) (l:=Q.map .str) (by rw[PN];exact iv lF (by decide)) (.str a);have e9:Q.map PyData.str++[.str a]=(Q++[a]).map .str:=(Qv (l₁:=Q) (l₂:=[a])).symm;rw[e9] at ap;have pe2:=ko (ws:=ws) (o:=some a) (L:=Q++[a]) h.ok (λy q=>Option.some.inj q▸aw) λy=>by rw[Qx,mW y,Qt];refine⟨λp=>p.imp id λp=>⟨congrArg some p.symm,by exact p▸hs⟩,λp=>p.imp id λp=>(Option.some.inj p.1).symm⟩
       have so:=dA h.w7 (aB σ (.lst ((Q++[a]).map .str))) (λy hy=>(Qx.mp hy).elim (qw y) λhy=>Qt.mp hy▸aw) (by rw[Qg];exact iv (Qu lF 1) (by decide));rw[pe2] at so;exact j4 (fn:=cr) rfl rfl (gA 4 fr ((R 1830161 (nn _) ni sc ap so (C1 _) ((T (some a) _).2) (bx ..) ((cS ..)) ((a2 _).1) (bx ..) ((gb ..)) ((a2 _).2) (bx ..) ((dS ..)) (lh h.p9 j z _)))) (bO ..)
mutual
theorem oX(pl:List Nat):∀ r:Rw,∀ p∈nJ pl r,X2 λx t=>p.1=pl++x::t
 | .whn _ b=>λp hp=>by obtain⟨x,t,_,e⟩:=iU pl b 0 p hp;exact⟨x,t,e⟩
 | .aga _ b=>λp hp=>by obtain⟨x,t,_,e⟩:=iU pl b 0 p hp;exact⟨x,t,e⟩
 | .set _ _=>λp hp=>by cases hp
 | .tell _=>λp hp=>by cases hp
 | .call _ _ _=>λp hp=>by cases hp
theorem iU(pl:List Nat):∀ (b:RL) (k:Nat),∀ p∈eu pl k b,X2 λx t=>k<=x/\p.1=pl++x::t
 | .nil=>λk p hp=>by cases hp
 | .cons r b=>λk p hp=>by
   rcases Qq.mp hp with rfl | hp
   . exact⟨k,[],QP _,rfl⟩
   . rcases Qx.mp hp with hp | hp
     . obtain⟨x,t,e⟩:=oX (pl++[k]) r p hp;exact⟨k,x::t,QP _,by rw[e,Qr];rfl⟩
     . obtain⟨x,t,h,e⟩:=iU pl b (k+1) p hp;exact⟨x,t,Rp h,e⟩
end
theorem lq(pl:List Nat)(p:List Nat×Rw):∀ (b:RL) (k:Nat),p∈eu pl k b↔X2 λi r=>(lst b)[i]?=some r/\(p=(pl++[k+i],r)\/p∈nJ (pl++[k+i]) r)
 | .nil=>λk=>⟨(λhp=>by cases hp),(λ⟨i,r,h,_⟩=>by injection h)⟩
 | .cons r b=>λk=>by
   rw[qd,Qq,Qx,lq pl p b (k+1)];constructor
   . rintro (h | h | ⟨i,r',h1,h2⟩)
     . exact⟨0,r,rfl,.inl h⟩
     . exact⟨0,r,rfl,.inr h⟩
     . rw[QQ,QW 1] at h2;exact⟨i+1,r',h1,h2⟩
   . rintro⟨i,r',h1,h2⟩
     cases i with
     | zero=>cases Option.some.inj h1;exact h2.imp id .inl
     | succ i=>rw[QW i 1,<- QQ] at h2;exact .inr (.inr ⟨i,r',h1,h2⟩)
theorem FP{pl:List Nat}(h:p=(pl++[i],r)\/p∈nJ (pl++[i]) r):∃ t,p.1=pl++i::t:=by
 rcases h with rfl | h
 . exact⟨[],rfl⟩
 . obtain⟨x,t,e⟩:=oX _ r p h;exact⟨x::t,by rw[e,Qr];rfl⟩
theorem Ee(hp:Pth b pre c):∀ (pl:List Nat) (p:List Nat×Rw),(p∈eu (pl++pre) 0 c->p∈eu pl 0 b)/\∀ k t,p∈eu pl 0 b->p.1=pl++(pre++k::t)->p∈eu (pl++pre) 0 c:=by
 induction hp with
 | nil b=>exact λpl p=>⟨λh=>by rw[QG] at h;exact h,λk t h _=>by rw[QG];exact h⟩
 | @cons b c r n ks hk hb hp ih=>
   intro pl p;have ea:pl++n::ks=pl++[n]++ks:=(Qr pl [n] ks).symm;refine ea▸?_;refine(ih (pl++[n]) p).elim λi1 i2=>?_;refine⟨λh=>(lq pl p b 0).mpr ⟨n,r,hk,.inr ?_⟩,λk t h e=>i2 k t ?_ ?_⟩
   . rw[Q5,ki];exact i1 h
   . obtain⟨i,r',h1,h2⟩:=(lq pl p b 0).mp h;rw[Q5] at h2;obtain⟨t',e'⟩:=FP h2;have qi:i=n:=(List.cons.inj (RZ (e'.symm.trans e))).1;rw[qi] at h1 h2;cases Option.some.inj (hk.symm.trans h1);rcases h2 with rfl | h2
     . exact absurd (RZ (e.trans rfl)) (λw=>by have w2:[]=ks++k::t:=(List.cons.inj w).2;cases ks <;> injection w2)
     . rw[<- ki];exact h2
   . rw[e,Qr];rfl
theorem Bm(c:RL)(z m n:Nat)(r:Rw):(lst (aF z m c))[n]?=some r↔n < m/\(lst c)[z+n]?=some r:=by
 unfold aF;rw[fG,RF,List.getElem?_drop];by_cases h:n < m
 . rw[if_pos h];exact⟨λq=>⟨h,q⟩,λq=>q.2⟩
 . rw[if_neg h];exact⟨λq=>(by injection q),λq=>absurd q.1 h⟩
theorem xe(hp:Pth b pre c)(j z m:Nat):p∈eu (j::pre) z (aF z m c)↔p∈eu [j] 0 b/\X2 λk t=>A3 (p.1=(j::pre)++k::t) (z<=k) (k < z+m):=by
 refine(Ee hp [j] p).elim λs1 s2=>?_;constructor
 . intro h;obtain⟨i,r,h1,h2⟩:=(lq (j::pre) p _ z).mp h;have q9:=(Bm ..).mp h1;have h0:=q9.1;have h1:=q9.2;refine⟨s1 ((lq (j::pre) p c 0).mpr ⟨z+i,r,h1,?_⟩),?_⟩
   . rw[Q5];exact h2
   . refine(FP h2).elim λt e=>?_;exact⟨z+i,t,e,Qz ..,Tq h0 z⟩
 . rintro⟨h,k,t,e,h1,h2⟩
   obtain⟨i,r,h3,h4⟩:=(lq (j::pre) p c 0).mp (s2 k t h e);rw[Q5] at h4;obtain⟨t',e'⟩:=FP h4;obtain⟨n,rfl⟩:∃ n,k=z+n:=⟨k - z,(Tp h1).symm⟩
   rw[((List.cons.inj (RZ (e'.symm.trans e))).1)] at h3 h4;exact(lq (j::pre) p _ z).mpr ⟨n,r,(Bm ..).mpr ⟨Nat.lt_of_add_lt_add_left h2,h3⟩,h4⟩
noncomputable def tZ(base:List Nat)(L:List (List Nat×Rw)):Nat:=(L.filter λp=>decide (p.1.dropLast=base)).length
theorem vq(base:List Nat)(A B:List (List Nat×Rw)):tZ base (A++B)=tZ base A+tZ base B:=by unfold tZ;rw[List.filter_append,Qg]
variable {L:List (List Nat×Rw)}{base:List Nat}
theorem jZ(h:∀ p∈L,p.1.dropLast≠base):tZ base L=0:=by unfold tZ;rw[Rk.mpr λp hp q=>h p hp (of_decide_eq_true q)];rfl
theorem xX(base:List Nat)(p:List Nat×Rw)(L:List (List Nat×Rw)):tZ base (p::L)=(if p.1.dropLast=base then 1 else 0)+tZ base L:=by
 unfold tZ;by_cases h:p.1.dropLast=base
 . rw[TG,if_pos (decide_eq_true h),if_pos h,QF,QW]
 . rw[TG,if_neg (λq=>h (of_decide_eq_true q)),if_neg h,Q5]
theorem m9(pl:List Nat)(x:Nat)(t:List Nat):(pl++x::t).dropLast=pl++(x::t).dropLast:=List.dropLast_append_cons
theorem Bp:∀ (b:RL) (pl:List Nat) (k:Nat),tZ pl (eu pl k b)=(lst b).length
 | .nil=>λpl k=>rfl
 | .cons r b=>λpl k=>by
   rw[qd,xX,vq,Bp b pl (k+1),jZ (L:=nJ (pl++[k]) r) λp hp q=>?_,if_pos SK,Q5,QW]
   . rfl
   . obtain⟨x,t,e⟩:=oX _ r p hp;rw[e,m9,Qr] at q;have:=congrArg List.length q;rw[Qg,Qg] at this;exact absurd this (Sz (R1 (Q3 (RY 0) (Qz ..))))
theorem Bo{t:List Nat}:∀ (b:RL) (pl:List Nat) (k n:Nat),(lst b)[n]?=some r->tZ (pl++(k+n)::t) (eu pl k b)=tZ (pl++(k+n)::t) (nJ (pl++[k+n]) r)
 | .nil=>λpl k n h=>by injection h
 | .cons r0 b=>λpl k n h=>by
   have ne:∀ (x y:Nat) (s:List Nat),x≠y->pl++x::s≠pl++y::t:=λx y s h q=>h (List.cons.inj (RZ q)).1;have h0:(pl++[k]).dropLast≠pl++(k+n)::t:=λq=>by rw[SK] at q;have:=congrArg List.length q;rw[Qg] at this;exact absurd this (Rd (R1 (RY _)))
   rw[qd,xX,vq,if_neg h0,Q5];cases n with
   | zero=>
     cases Option.some.inj h;rw[Uj,jZ (L:=eu pl (k+1) b) λp hp q=>?_,Uj];obtain⟨x,s,h1,e⟩:=iU pl b (k+1) p hp;rw[e,m9] at q;cases s with
     | nil=>have:=congrArg List.length q;rw[Qg,Qg] at this;exact absurd this (Rd (Tq (RY _) _))
     | cons y s=>exact ne x k _ (λw=>absurd (w▸h1) (Nat.not_succ_le_self k)) q
   | succ n=>
     rw[jZ (L:=nJ (pl++[k]) r0) λp hp q=>?_,Q5]
     . have ih:=Bo (t:=t) b pl (k+1) n h;rw[QQ,QW 1] at ih;exact ih
     . obtain⟨x,s,e⟩:=oX _ r0 p hp;rw[e,m9,Qr] at q;exact ne k (k+(n+1)) _ (Rd (R1 (RY n))) q
theorem Ga(hp:Pth b pre c):∀ pl:List Nat,tZ (pl++pre) (eu pl 0 b)=(lst c).length:=by
 induction hp with
 | nil b=>exact λpl=>by rw[QG];exact Bp b pl 0
 | @cons b c r n ks hk hb hp ih=>intro pl;have:=Bo (t:=ks) b pl 0 n hk;rw[Q5] at this;rw[this,ki,<- ih (pl++[n]),Qr];rfl
theorem Gb{pre:List Nat}:∀ (fs:List Fd) (k n:Nat),fs[n]?=some f->tZ ((k+n)::pre) (nK k fs)=tZ ((k+n)::pre) (eu [k+n] 0 f.rs)
 | []=>λk n h=>by injection h
 | g::fs=>λk n h=>by
   have ne:∀ (x y:Nat) (s:List Nat) (L:List (List Nat×Rw)),x≠y->(∀ p∈L,∃ a s,p.1=x::a::s)->tZ (y::pre) L=0:=λx y s L h H=>jZ λp hp q=>by obtain⟨a,s,e⟩:=H p hp;rw[e] at q;exact h (List.cons.inj q).1
   show tZ _ (eu [k] 0 g.rs++nK (k+1) fs)=_;rw[vq];cases n with
   | zero=>
     cases Option.some.inj h;have z0:tZ ((k+0)::pre) (nK (k+1) fs)=0:=jZ λp hp q=>by obtain⟨j,f',h1,h2⟩:=yL fs (k+1) p hp;obtain⟨x,s,_,e⟩:=iU _ f'.rs 0 p h2;rw[e] at q;have:=(List.cons.inj q).1;lia
     rw[z0];rfl
   | succ n=>
     rw[ne k (k+(n+1)) [] (eu [k] 0 g.rs) (Rd (R1 (RY n))) λp hp=>by obtain⟨x,s,_,e⟩:=iU _ g.rs 0 p hp;exact⟨x,s,e⟩,Q5]
     have ih:=Gb (pre:=pre) fs (k+1) n h;rw[QQ,QW 1] at ih;exact ih
theorem zF{pre:List Nat}(hj:fs[j]?=some f)(hp:Pth f.rs pre c):tZ (j::pre) (nK 0 fs)=(lst c).length:=by have:=Gb (pre:=pre) fs 0 j hj;rw[Q5] at this;rw[this];exact Ga hp [j]
theorem tR:∀ a b:List Nat,PyData.eqvAll (a.map nI) (b.map nI)=decide (a=b)
 | [],[]=>rfl
 | [],_::_=>rfl
 | _::_,[]=>rfl
 | x::a,y::b=>by show ((nI x).eqv (nI y)&&PyData.eqvAll (a.map nI) (b.map nI))=_;rw[tR a b];show (decide ((x:Int)=(y:Int))&&decide (a=b))=_;rw[<- Bool.decide_and];exact decide_eq_decide.mpr ⟨λq=>by rw[S1.mp q.1,q.2],λq=>⟨congrArg _ (List.cons.inj q).1,(List.cons.inj q).2⟩⟩
theorem xR:∀ a:List Nat,PyData.depthAll (a.map nI)<=1
 | []=>QI _
 | x::a=>TZ.mpr ⟨QM rfl,xR a⟩
theorem FQ(a b:List Nat)(σ:ac):bq .eq (.d (pD a)) (.d (pD b)) σ=some (decide (a=b)):=by refine(iH (a:=pD a) (b:=pD b) (iv (R7 _ _) (iv (QE (xR b)) (by decide)))).trans ?_;exact congrArg some (tR a b)
noncomputable def me(j:Nat)(pre:List Nat)(z m:Nat)(q:List Nat):Bool:=decide (q.take (pre.length+1)=j::pre)&&(match q.drop (pre.length+1) with
 | k::_=>decide (z<=k)&&decide (k < z+m)
 | []=>false)
theorem xf(q:List Nat):me j pre z m q=true↔X2 λk t=>A3 (q=(j::pre)++k::t) (z<=k) (k < z+m):=by
 unfold me;rw[Qn,decide_eq_true_iff];constructor
 . rintro⟨h1,h2⟩
   have e:=Q2 (pre.length+1) q;rw[h1] at e;cases hd:q.drop (pre.length+1) with
   | nil=>rw[hd] at h2;injection h2
   | cons k t=>rw[hd] at h2 e;obtain⟨h3,h4⟩:=Qn.mp h2;exact⟨k,t,e.symm,of_decide_eq_true h3,of_decide_eq_true h4⟩
 . rintro⟨k,t,rfl,h1,h2⟩
   have e:(j::pre).length=pre.length+1:=rfl;refine⟨by rw[<- e,List.take_left],?_⟩;rw[<- e,List.drop_left];exact Qn.mpr ⟨decide_eq_true h1,decide_eq_true h2⟩
noncomputable def xN(j:Nat)(f:Fd)(pre:List Nat)(z m:Nat)(p:List Nat×Rw):List (List Nat×Str):=match vQ p.2 with
 | some y=>if me j pre z m p.1&&l9 y f.rs pre (z+(m - 1)) (decide (y∈cC f.t)) then [(p.1,y)] else []
 | none=>[]
noncomputable def kH(q:List Nat×Str):PyData:=.tuple [pD q.1,.str q.2]
theorem LY(hp:Pth f.rs pre c)(q:List Nat)(y:Str):(q,y)∈(eu [j] 0 f.rs).flatMap (xN j f pre z m)↔WS j f pre z c m q y:=by
 rw[TF];unfold WS PD;constructor
 . rintro⟨p,h1,h2⟩
   unfold xN at h2;cases ht:vQ p.2 with
   | none=>replace h2:=ht▸h2;cases h2
   | some w=>
     rw[ht] at h2;by_cases hc:(me j pre z m p.1&&l9 w f.rs pre (z+(m - 1)) (decide (w∈cC f.t)))=true
     . have h2:(q,y)∈(if (me j pre z m p.1&&l9 w f.rs pre (z+(m - 1)) (decide (w∈cC f.t)))=true then [(p.1,w)] else []):=h2;rw[if_pos hc] at h2;obtain⟨c1,c2⟩:=Qn.mp hc;cases Qt.mp h2;refine⟨QV.mpr ⟨p,(xe hp j z m).mpr ⟨h1,(xf p.1).mp c1⟩,?_⟩,c2⟩;unfold yl;exact congrArg _ ht
     . have h2:(q,y)∈(if (me j pre z m p.1&&l9 w f.rs pre (z+(m - 1)) (decide (w∈cC f.t)))=true then [(p.1,w)] else []):=h2;replace h2:=(if_neg hc)▸h2;cases h2
 . rintro⟨h1,h2⟩
   obtain⟨p,hp1,e⟩:=QV.mp h1;obtain⟨i1,i2⟩:=(xe hp j z m).mp hp1;have ht:vQ p.2=some y:=congrArg Prod.snd e;have hq:p.1=q:=congrArg Prod.fst e;refine⟨p,i1,?_⟩;unfold xN;rw[ht];show (q,y)∈(if (me j pre z m p.1&&l9 y f.rs pre (z+(m - 1)) (decide (y∈cC f.t)))=true then [(p.1,y)] else []);rw[if_pos (Qn.mpr ⟨(xf p.1).mpr i2,h2⟩),hq];exact Qt.mpr rfl
theorem fN(j:Nat)(pre:List Nat)(z:Nat)(σ:ac):cZ .sub false (.d (.int (((aX j pre z).map nI).length:Int))) (.d (.int 1)) σ=.ok (.d (.int ((pre.length+1:Nat):Int))) σ:=by
 have e:((aX j pre z).map nI).length=pre.length+1+1:=by rw[PN];exact congrArg (·+1) Qg
 rw[e];exact congrArg (λi=>Res.ok (V.d (.int i)) σ) (fZ (pre.length+1))
theorem pV(q:List Nat)(n:Nat)(σ:ac):eB false (.d (pD q)) none (some (.d (.int (n:Int)))) σ=.ok (.d (pD (q.take n))) σ:=by unfold pD;rw[cS,SG]
theorem IJ(h:Dr ws cs fs j f pre z c m)(d:Nat)(σ:ac)(q:List Nat)(r:Rw)(L:List (List Nat×Str))(hL:L.length<=900000)(v5 v6 v7 v8:V):X2 λv7' v8'=>aG prog.G (af prog (d+15)) (.tup [5,6]) cN (a4 (q,r)) (F9 (.d (.tuple (fs.map ay))) (.d (pD (aX j pre z))) (.d (.int (m:Int))) (.d (pD (aX j pre (z+(m - 1))))) (.loc σ.length) v5 v6 v7 v8) (σ++[.lst (L.map kH)])=.ok (.next (F9 (.d (.tuple (fs.map ay))) (.d (pD (aX j pre z))) (.d (.int (m:Int))) (.d (pD (aX j pre (z+(m - 1))))) (.loc σ.length) (.d (pD q)) (.d (bp r)) v7' v8')) (σ++[.lst ((L++xN j f pre z m (q,r)).map kH)]):=by
 have R:=dn prog.G (af prog (d+15)) cN (F9 (.d (.tuple (fs.map ay))) (.d (pD (aX j pre z))) (.d (.int (m:Int))) (.d (pD (aX j pre (z+(m - 1))))) (.loc σ.length) (.d (pD q)) (.d (bp r)) v7 v8) (σ++[Cell.lst (L.map kH)]);have eq:=FQ (q.take (pre.length+1)) (j::pre) (σ++[Cell.lst (L.map kH)]);have no:me j pre z m q=false->L++xN j f pre z m (q,r)=L:=λw=>by
   unfold xN;refine w▸?_;cases vQ r with
   | none=>exact QG _
   | some y=>exact QG _
 by_cases h1:q.take (pre.length+1)=j::pre
 . replace eq:=(decide_eq_true h1)▸eq;have e:=Q2 (pre.length+1) q;rw[h1] at e;have lp:((aX j pre z).map nI).length=pre.length+2:=by rw[PN];exact congrArg (·+1) Qg
   cases hd:q.drop (pre.length+1) with
   | nil=>
     rw[no (by unfold me;exact hd▸Tc _)];have ge:¬ ((q.map nI).length:Int)≥(((aX j pre z).map nI).length:Int):=by rw[hd,QG] at e;rw[<- e,lp,PN];exact Uc.mpr (QU.mpr (Sq _))
     exact⟨_,_,cA rfl ((R 572 ((fN ..)) ((pV ..)) ((dw ..)) eq (dF ge)))⟩
   | cons k t=>
     rw[hd] at e;have ge:((q.map nI).length:Int)≥(((aX j pre z).map nI).length:Int):=by rw[<- e,lp,PN,Qg];exact Rc.mpr (QR (QE (QI _)) _)
     have gT:bq (.ge ()) (.d (.int ((q.map nI).length:Int))) (.d (.int (((aX j pre z).map nI).length:Int))) (σ++[Cell.lst (L.map kH)])=some true:=dT ge;have ix:c8 (.d (pD q)) (.d (.int ((pre.length+1:Nat):Int))) (σ++[Cell.lst (L.map kH)])=some (.d (.int (k:Int))):=dp q (by rw[<- List.head?_drop,hd];rfl) _;have ib:me j pre z m q=(decide (z<=k)&&decide (k < z+m)):=by unfold me;rw[hd,h1,decide_eq_true rfl];exact RI _
     by_cases h2:z<=k
     . by_cases h3:k < z+m
       . have ib:me j pre z m q=true:=by rw[ib,decide_eq_true h2,decide_eq_true h3];rfl
         have et:=oo r (d+14) (σ++[Cell.lst (L.map kH)]);cases ht:vQ r with
         | none=>
           have e0:L++xN j f pre z m (q,r)=L:=by unfold xN;exact ht▸QG _
           rw[ht] at et;rw[e0];exact⟨_,_,cA rfl ((R 20632124 ((fN ..)) ((pV ..)) ((dw ..)) eq gT (ba ..) ((fN ..)) ix (dT (Rc.mpr h2)) ((fN ..)) ix (ba ..) (dT (QU.mpr h3)) et))⟩
         | some y=>
           have e0:xN j f pre z m (q,r)=if l9 y f.rs pre (z+(m - 1)) (decide (y∈cC f.t))=true then [(q,y)] else []:=by unfold xN;rw[ht,ib];rfl
           replace et:=ht▸et;have en:=vz (z:=z+(m - 1)) h.hj h.of h.hp y d (σ++[Cell.lst (L.map kH)]);cases hl:l9 y f.rs pre (z+(m - 1)) (decide (y∈cC f.t)) with
           | true=>rw[hl] at e0 en;rw[e0,if_pos rfl];have ap:=vF (σ:=σ) (l:=L.map kH) (by rw[PN];exact hL) (kH (q,y));have e9:L.map kH++[kH (q,y)]=(L++[(q,y)]).map kH:=(Qv (l₁:=L) (l₂:=[(q,y)])).symm;rw[e9] at ap;exact⟨_,_,cA rfl ((R 20632124 ((fN ..)) ((pV ..)) ((dw ..)) eq gT (ba ..) ((fN ..)) ix (dT (Rc.mpr h2)) ((fN ..)) ix (ba ..) (dT (QU.mpr h3)) et en ap))⟩
           | false=>rw[hl] at e0 en;rw[e0,if_neg QB,QG];exact⟨_,_,cA rfl ((R 20632124 ((fN ..)) ((pV ..)) ((dw ..)) eq gT (ba ..) ((fN ..)) ix (dT (Rc.mpr h2)) ((fN ..)) ix (ba ..) (dT (QU.mpr h3)) et en))⟩
       . rw[no (by rw[ib,decide_eq_false h3];exact Tc _)];exact⟨_,_,cA rfl ((R 20632124 ((fN ..)) ((pV ..)) ((dw ..)) eq gT (ba ..) ((fN ..)) ix (dT (Rc.mpr h2)) ((fN ..)) ix (ba ..) (dF (λw=>h3 (QU.mp w)))))⟩
     . rw[no (by rw[ib,decide_eq_false h2];rfl)];exact⟨_,_,cA rfl ((R 447036 ((fN ..)) ((pV ..)) ((dw ..)) eq gT (ba ..) ((fN ..)) ix (dF (λw=>h2 (Rc.mp w))) (dF (λw=>h2 (Rc.mp w)))))⟩
 . rw[decide_eq_false h1] at eq;rw[no (by unfold me;rw[decide_eq_false h1];rfl)];exact⟨_,_,cA rfl ((R 60 ((fN ..)) ((pV ..)) ((dw ..)) eq))⟩
theorem rG(h:Dr ws cs fs j f pre z c m)(d:Nat)(σ:ac):af prog (d+16) 51 [.d (.tuple (fs.map ay)),.d (pD (aX j pre z)),.d (.int (m:Int))] σ=.ok (.d (.list (((eu [j] 0 f.rs).flatMap (xN j f pre z m)).map kH))) σ:=by
 have gl:∀ p,(xN j f pre z m p).length<=1:=λp=>by
   unfold xN;cases vQ p.2 with
   | none=>exact QI _
   | some y=>
     show (if _ then _ else _:List (List Nat×Str)).length<=1;split
     . exact QP _
     . exact QI _
 obtain⟨_,⟨v5,v6,v7,v8,rfl⟩,lp⟩:=ze (f:=aG prog.G (af prog (d+15)) (.tup [5,6]) cN) a4 kH (λρ=>X4 λv5 v6 v7 v8=>ρ=F9 (.d (.tuple (fs.map ay))) (.d (pD (aX j pre z))) (.d (.int (m:Int))) (.d (pD (aX j pre (z+(m - 1))))) (.loc σ.length) v5 v6 v7 v8) (xN j f pre z m) 1 σ (eu [j] 0 f.rs) (F9 (.d (.tuple (fs.map ay))) (.d (pD (aX j pre z))) (.d (.int (m:Int))) (.d (pD (aX j pre (z+(m - 1))))) (.loc σ.length) .un .un .un .un) [] (by
   rintro⟨q,r⟩ hp
   refine⟨gl _,?_⟩
   rintro _ L ⟨v5,v6,v7,v8,rfl⟩ hL
   obtain⟨v7',v8',e⟩:=IJ h d σ q r L (Rp hL) v5 v6 v7 v8;exact⟨_,⟨_,_,v7',v8',rfl⟩,e⟩) ⟨.un,.un,.un,.un,rfl⟩ (by rw[RO,Q5,Nat.mul_one,gF];exact iv h.of.n4 (by decide))
 exact((a9 prog 51 (d+15) [.d (.tuple (fs.map ay)),.d (pD (aX j pre z)),.d (.int (m:Int))] σ rfl 19 ((dw ..)) (ba ..) (Jn h.p9 z h.m1 _) (bf (aZ (G:=prog.G) (cf:=af prog (d+15)) (e:=.call 41 (.cons (.tup (.cons (.idx (.var 1) (.int 0)) (.nil))) (.cons (.idx (.idx (.var 0) (.idx (.var 1) (.int 0))) (.int 2)) (.nil)))) (ρ:=F9 (.d (.tuple (fs.map ay))) (.d (pD (aX j pre z))) (.d (.int (m:Int))) (.d (pD (aX j pre (z+(m - 1))))) (.loc σ.length) .un .un .un .un) (σ:=σ++[Cell.lst []]) (aD (jc (Jb (ma (bI rfl rfl (bx ..))) rfl) (ma (bI (bI rfl (bI rfl rfl (bx ..)) (d9 h.hj _)) rfl rfl))) (gP 9 f.rs [j] (d+4) h.of.h9 (iv h.of.n4 (by decide)) (QK 10 90) _)) rfl) lp) (kB _ _) (ez _ _)))
theorem Eg(q:List Nat)(σ:ac):eB false (.d (pD q)) none (some (.d (.int (-1)))) σ=.ok (.d (pD q.dropLast)) σ:=by
 unfold pD;rw[eQ _ _ eR (dY _)];cases h:q.reverse with
 | nil=>rw[List.reverse_eq_nil_iff.mp h];rfl
 | cons x l=>
   have e:q=l.reverse++[x]:=by rw[<- List.reverse_reverse q,h,List.reverse_cons]
   exact e▸Qv▸SK▸(congrArg (λy=>Res.ok (V.d (.tuple y)) σ) (li ..))
theorem qm:fs.map (λf=>PyData.str f.nm)=(hX fs).map .str:=by unfold hX;rw[Rj];rfl
theorem zV(hj:fs[j]?=some f)(hp:Pth f.rs pre c):((nK 0 fs).filter λp=>decide (p.1.dropLast=j::pre)&&decide (((p.1.map nI).length:Int)=(((aX j pre z).map nI).length:Int))).length=(lst c).length:=by
 rw[<- zF hj hp];unfold tZ;refine congrArg List.length (List.filter_congr λp hp=>?_);by_cases h:p.1.dropLast=j::pre
 . rw[decide_eq_true h,RI];refine decide_eq_true ?_;obtain⟨j',f',h1,h2⟩:=yL fs 0 p hp;obtain⟨x,t,_,e⟩:=iU _ f'.rs 0 p h2;have l1:p.1.dropLast.length=p.1.length - 1:=List.length_dropLast;rw[h] at l1;have l2:1<=p.1.length:=by rw[e,Qg];exact Qz ..
   have l3:((aX j pre z).map nI).length=pre.length+2:=by rw[PN];exact congrArg (·+1) Qg
   rw[PN,l3];have:p.1.length=pre.length+2:=(R9 l2).symm.trans (congrArg (·+1) (l1.symm.trans rfl));exact congrArg _ this
 . rw[decide_eq_false h,Se]
theorem Ey(x:Str):sm x=false↔(x=bX\/((av x).length:Int) > 8\/((av x).filter λc=>!gJ c)≠[]):=by
 unfold sm;rw[(⟨λq=>by rw[q];rfl,λq=>lM (RH q)⟩:x=bX↔(av x).length=0),TX,TX,decide_eq_false_iff_not,decide_eq_false_iff_not,Ne,Rk,List.all_eq_false];constructor
 . rintro ((h | h) | ⟨y,hy,h⟩)
   . exact .inl (by lia)
   . exact .inr (.inl (by omega))
   . refine .inr (.inr λq=>q y hy ?_);cases hi:gJ y with
     | true=>exact absurd hi h
     | false=>rfl
 . rintro (h | h | h)
   . exact .inl (.inl (by omega))
   . exact .inl (.inr (by omega))
   . refine .inr (Classical.byContradiction λq=>h λy hy w=>q ⟨y,hy,λe=>?_⟩);rw[e] at w;injection w
theorem HE(c:Nat)(σ:ac):bq .notIn (.d (.str (ar [c]))) (.d (.str aj)) σ=some (!gJ c):=by show (bq .isIn (.d (.str (ar [c]))) (.d (.str aj)) σ).map _=_;rw[E1];rfl
variable {T:List (List Nat×Str)}
noncomputable def KJ(fs:List Fd)(z:Nat)(c:RL)(n:Int)(x:Str):Str:=
 if n < 1\/(((lst c).length:Nat):Int) < (z:Int)+n then bC else bif sm x then (if x∈hX fs then ke else bX) else aK
theorem vx(hj:fs[j]?=some f)(hp:Pth f.rs pre c)(fok:∀ f∈fs,hL f.rs<=9/\nL f.rs<=600)(h8:fs.length<=8)(n:Int)(x:Str)(d:Nat)(σ:ac):af prog (d+13) 52 [.d (.tuple (fs.map ay)),.d (pD (aX j pre z)),.d (.int n),.d (.str x)] σ=.ok (.d (.str (KJ fs z c n x))) σ:=by
 have cm:=ey (G:=prog.G) (cf:=af prog (d+12)) (i:=6) (it:=.seq (.call 44 (.cons (.var 0) (.nil)))) (c:=.bop true (.cons (.cmp .eq (.slc false (.idx (.var 6) (.int 0)) .no (.yes (.neg (.int 1)))) (.slc false (.var 1) .no (.yes (.neg (.int 1))))) (.cons (.cmp .eq (.bi .len false (.cons (.idx (.var 6) (.int 0)) (.nil))) (.bi .len false (.cons (.var 1) (.nil)))) (.nil)))) (e:=.var 6) (ρ:=F9 (.d (.tuple (fs.map ay))) (.d (pD (aX j pre z))) (.d (.int n)) (.d (.str x)) .un .un .un .un .un) (σ:=σ) (aa:=σ) (base:=(nK 0 fs).map a4) a4 a4 (λp=>decide (p.1.dropLast=j::pre)&&decide (((p.1.map nI).length:Int)=(((aX j pre z).map nI).length:Int))) (ps:=nK 0 fs) (aZ (aD rfl (rK fok h8 d σ)) rfl) (λp _=>pH (bJ (kQ rfl rfl rfl (Eg p.1 _)) (kQ rfl rfl rfl (dw ..)) (FQ ..)) λ_=>dO (bJ rfl rfl (NW ..))) (λp _ _=>rfl);have nl:((((nK 0 fs).filter λp=>decide (p.1.dropLast=j::pre)&&decide (((p.1.map nI).length:Int)=(((aX j pre z).map nI).length:Int))).map a4).length:Int)=(((lst c).length:Nat):Int):=by rw[PN,(zV (z:=z) hj hp)]
 generalize ((nK 0 fs).filter λp=>decide (p.1.dropLast=j::pre)&&decide (((p.1.map nI).length:Int)=(((aX j pre z).map nI).length:Int))).map a4=L at cm nl;have cs:=ey (G:=prog.G) (cf:=af prog (d+12)) (i:=7) (it:=.seq (.var 3)) (c:=.cmp .notIn (.var 7) (.var 5)) (e:=.var 7) (ρ:=F9 (.d (.tuple (fs.map ay))) (.d (pD (aX j pre z))) (.d (.int n)) (.d (.str x)) (.d (.list L)) (.d (.str aj)) .un .un .un) (σ:=σ) (aa:=σ) (base:=(av x).map λc=>.str (ar [c])) (λ(c:Nat)=>PyData.str (ar [c])) (λ(c:Nat)=>PyData.str (ar [c])) (λc=>!gJ c) (ps:=av x) (aZ rfl (lT x σ)) (λc _=>bJ rfl rfl (HE c _)) (λp _ _=>rfl);have ns:=nh (G:=prog.G) (cf:=af prog (d+12)) (i:=8) (it:=.seq (.var 0)) (e:=.idx (.var 8) (.int 0)) (ρ:=F9 (.d (.tuple (fs.map ay))) (.d (pD (aX j pre z))) (.d (.int n)) (.d (.str x)) (.d (.list L)) (.d (.str aj)) .un .un .un) (σ:=σ) (aa:=σ) (base:=fs.map ay) ay (λf=>.str f.nm) (ps:=fs) (aZ rfl rfl) λf _=>rfl;rw[qm] at ns;have ne:=l4 (((av x).filter λc=>!gJ c).map λ(c:Nat)=>PyData.str (ar [c])) σ;have R:=a9 prog 52 (d+12) [.d (.tuple (fs.map ay)),.d (pD (aX j pre z)),.d (.int n),.d (.str x)] σ rfl;unfold KJ;by_cases h1:n < 1
 . rw[if_pos (.inl h1)];exact((R 12 cm (dT h1) (dT h1) (same σ)))
 by_cases h2:(((lst c).length:Nat):Int) < (z:Int)+n
 . rw[if_pos (.inr h2)];exact((R 140 cm (dF h1) (ba ..) (dT (nl▸h2)) (same σ)))
 rw[if_neg (λq=>q.elim h1 h2)];have h2':¬ (z:Int)+n > (L.length:Int):=nl▸h2;cases hn:sm x with
 | false=>
   rw[cond_false];rcases Decidable.em (x=bX) with h3 | h3
   . exact((R 3212 cm (dF h1) (ba ..) (dF h2') (dT h3) (dT h3) (same σ)))
   rcases Decidable.em (((av x).length:Int) > 8) with h4 | h4
   . exact((R 25740 cm (dF h1) (ba ..) (dF h2') (dF h3) (dT h4) (dT h4) (same σ)))
   have h5:((av x).filter λc=>!gJ c)≠[]:=(((Ey x).mp hn).resolve_left h3).resolve_left h4;have e5:(((av x).filter λc=>!gJ c).map λ(c:Nat)=>PyData.str (ar [c])).isEmpty=false:=by
     rw[Te];cases q:(av x).filter λc=>!gJ c with
     | nil=>exact absurd q h5
     | cons _ _=>rfl
   rw[e5] at ne;exact((R 25740 cm (dF h1) (ba ..) (dF h2') (dF h3) (dF h4) cs ne (same σ)))
 | true=>
   have ok:=λq=>QB (((Ey x).mpr q).symm.trans hn);rw[(Classical.byContradiction λq=>ok (.inr (.inr q)))] at ne cs;rw[cond_true];by_cases h6:x∈hX fs
   . rw[if_pos h6];exact((R 74892 cm (dF h1) (ba ..) (dF h2') (dF (λq=>ok (.inl q))) (dF (λq=>ok (.inr (.inl q)))) cs ns ((o3 (hX fs) x σ).trans (bT (decide_eq_true h6))) (same σ)))
   . rw[if_neg h6];exact((R 74892 cm (dF h1) (ba ..) (dF h2') (dF (λq=>ok (.inl q))) (dF (λq=>ok (.inr (.inl q)))) cs ns ((o3 (hX fs) x σ).trans (bF (decide_eq_false h6))) (same σ)))
theorem uI(x y:Str)(σ:ac):bq .ne (.d (.str x)) (.d (.str y)) σ=some (!decide (x=y)):=by rw[OV,<- OX,Gh];rfl
theorem NV(hAL:∀ a∈T,∀ b∈T,∃ q,AL (d+4) v (.tuple [.str bG,pD a.1,pD b.1]) q){a:List Nat×Str}(ha:a∈T)(v4 v5:V)(σ:ac) :
   (X2 λv4' v5'=>(∀ b∈T,¬ (a.2≠b.2/\AL (d+4) v (.tuple [.str bG,pD a.1,pD b.1]) true))/\aY (aG prog.G (af prog (d+4)) (.tup [4,5]) cE) (T.map kH) (F6 (.d v) (.d (.list (T.map kH))) (.d (pD a.1)) (.d (.str a.2)) v4 v5) σ=.ok (.next (F6 (.d v) (.d (.list (T.map kH))) (.d (pD a.1)) (.d (.str a.2)) v4' v5')) σ)\/
   ((∃ b∈T,a.2≠b.2/\AL (d+4) v (.tuple [.str bG,pD a.1,pD b.1]) true)/\aY (aG prog.G (af prog (d+4)) (.tup [4,5]) cE) (T.map kH) (F6 (.d v) (.d (.list (T.map kH))) (.d (pD a.1)) (.d (.str a.2)) v4 v5) σ=.ok (.ret (.d (.bool true))) σ):=by
 rcases qB (f:=aG prog.G (af prog (d+4)) (.tup [4,5]) cE) kH (λρ=>X2 λv4 v5=>ρ=F6 (.d v) (.d (.list (T.map kH))) (.d (pD a.1)) (.d (.str a.2)) v4 v5) (λb=>a.2≠b.2/\AL (d+4) v (.tuple [.str bG,pD a.1,pD b.1]) true) (λ_ w=>w=.d (.bool true)) σ T (F6 (.d v) (.d (.list (T.map kH))) (.d (pD a.1)) (.d (.str a.2)) v4 v5) (by
   rintro b hb _ ⟨v4,v5,rfl⟩
   have R:=dn prog.G (af prog (d+4)) cE (F6 (.d v) (.d (.list (T.map kH))) (.d (pD a.1)) (.d (.str a.2)) (.d (pD b.1)) (.d (.str b.2))) σ;have ne:=uI a.2 b.2 σ;by_cases h:a.2=b.2
   . have ne:=ne.trans (nF (decide_eq_true h));exact .inl ⟨_,⟨.d (pD b.1),.d (.str b.2),rfl⟩,λq=>q.1 h,cA rfl ((R 12 ne ne))⟩
   . have ne:=ne.trans (nT (decide_eq_false h));refine(hAL a ha b hb).elim λq hq=>?_;have e:=hq σ;cases q with
     | true=>exact .inr ⟨_,⟨h,hq⟩,rfl,cA rfl ((R 4 ne e))⟩
     | false=>
       have no:¬ (a.2≠b.2/\AL (d+4) v (.tuple [.str bG,pD a.1,pD b.1]) true):=λw=>by have e1:=w.2 σ;rw[e] at e1;injection e1 with e1;injection e1 with e1;injection e1 with e1;injection e1
       exact .inl ⟨_,⟨.d (pD b.1),.d (.str b.2),rfl⟩,no,cA rfl ((R 4 ne e))⟩) ⟨v4,v5,rfl⟩ with ⟨_,⟨v4',v5',rfl⟩,no,e⟩ | ⟨b,w,hb,hc,rfl,e⟩
 . exact .inl ⟨v4',v5',no,e⟩
 . exact .inr ⟨⟨b,hb,hc⟩,e⟩
theorem w8(hAL:∀ a∈T,∀ b∈T,∃ q,AL (d+4) v (.tuple [.str bG,pD a.1,pD b.1]) q)(hx:X2 λa b=>A4 (a∈T) (b∈T) (a.2≠b.2) (AL (d+4) v (.tuple [.str bG,pD a.1,pD b.1]) true))(σ:ac):af prog (d+5) 53 [.d v,.d (.list (T.map kH))] σ=.ok (.d (.bool true)) σ:=by
 obtain⟨a,b,ha,hb,hne,hal⟩:=hx;rcases qB (f:=aG prog.G (af prog (d+4)) (.tup [2,3]) jt) kH (λρ=>X4 λv2 v3 v4 v5=>ρ=F6 (.d v) (.d (.list (T.map kH))) v2 v3 v4 v5) (λa=>∃ b∈T,a.2≠b.2/\AL (d+4) v (.tuple [.str bG,pD a.1,pD b.1]) true) (λ_ w=>w=.d (.bool true)) σ T (F6 (.d v) (.d (.list (T.map kH))) .un .un .un .un) (by
   rintro a ha _ ⟨v2,v3,v4,v5,rfl⟩
   rcases NV hAL ha v4 v5 σ with ⟨v4',v5',no,e⟩ | ⟨q,e⟩
   . exact .inl ⟨_,⟨_,_,v4',v5',rfl⟩,(λ⟨b,hb,q⟩=>no b hb q),cA rfl (a7 (bf (aZ rfl rfl) e) rfl)⟩
   . exact .inr ⟨_,q,rfl,cA rfl (io (bf (aZ rfl rfl) e))⟩) ⟨.un,.un,.un,.un,rfl⟩ with ⟨_,_,no,_⟩ | ⟨b,w,_,_,rfl,e⟩
 . exact absurd ⟨b,hb,hne,hal⟩ (no a ha)
 . exact((a9 prog 53 (d+4) [.d v,.d (.list (T.map kH))] σ rfl 0 (bf (aZ rfl rfl) e) (same σ)))
noncomputable abbrev Pd(a b c d e f g h i j k l:V):Fm:=[a,b,c,d,e,f,g,h,i,j,k,l]
noncomputable def Mr(p q:List Nat):Bool:=!((AN (p.map nI) (q.map nI)).getD false)
theorem ND(p q:List Nat)(σ:ac):bq (.ge ()) (.d (pD p)) (.d (pD q)) σ=some (Mr p q):=by refine(wX p q).elim λb hb=>?_;show (AN (p.map nI) (q.map nI)).map (!·)=some (!((AN (p.map nI) (q.map nI)).getD false));rw[hb];rfl
theorem wW:∀ p:List Nat,AN (p.map nI) (p.map nI)=some false
 | []=>rfl
 | x::p=>by show (if (x:Int)=(x:Int) then AN (p.map nI) (p.map nI) else _)=_;rw[if_pos rfl,wW p]
theorem Dt{x:Int}(hx:1<=x)(c:Int)(σ:ac):∃ q:Int,0 < q/\c8 (.d (.list [.int 3,.int x])) (.d (.int (c % 2))) σ=some (.d (.int q)):=by
 obtain⟨n,hn,e⟩:=iF [3,x] (bk c (show (0:Int) < 2 by decide)).1 (bk c (show (0:Int) < 2 by decide)).2 σ;refine⟨n,?_,e⟩;rcases Qq.mp hn with rfl | hn
 . decide
 . rw[Qt.mp hn];exact hx
theorem zg(hw:ws.length=24)(nd:ws.Nodup)(h8:fs.length<=8):X2 λw L=>ws.filter (λw=>!decide (w∈hX fs))=w::L:=by
 cases h:ws.filter (λw=>!decide (w∈hX fs)) with
 | cons w L=>exact⟨w,L,rfl⟩
 | nil=>have:=nd.length_le_of_subset (λw hw=>Classical.byContradiction λq=>Rk.mp h w hw (by rw[decide_eq_false q];rfl));rw[hw] at this;unfold hX at this;rw[PN] at this;exact absurd (iv this h8) (by decide)
theorem zR(hj:fs[j]?=some f)(hp:Pth f.rs pre c)(hpl:(aX j pre z,r)∈nK 0 fs)(fok:∀ f∈fs,hL f.rs<=9/\nL f.rs<=600)(h8:fs.length<=8)(l:List Int)(d:Nat)(σ:ac):X2 λ(n:Int) (x:Str)=>af prog (d+13) 54 [.d (.list (l.map .int)),.d (.tuple (fs.map ay)),.d (pD (aX j pre z))] σ=.ok (.d (.tuple [.int n,.str x])) σ:=by
 have cm:=ey (G:=prog.G) (cf:=af prog (d+12)) (i:=8) (it:=.seq (.call 44 (.cons (.var 1) (.nil)))) (c:=.bop true (.cons (.cmp .eq (.slc false (.idx (.var 8) (.int 0)) .no (.yes (.neg (.int 1)))) (.slc false (.var 2) .no (.yes (.neg (.int 1))))) (.cons (.cmp (.ge ()) (.idx (.var 8) (.int 0)) (.var 2)) (.nil)))) (e:=.var 8) (ρ:=Pd (.d (.list (l.map .int))) (.d (.tuple (fs.map ay))) (.d (pD (aX j pre z))) .un .un .un .un .un .un .un .un .un) (σ:=σ) (aa:=σ) (base:=(nK 0 fs).map a4) a4 a4 (λp=>decide (p.1.dropLast=j::pre)&&Mr p.1 (aX j pre z)) (ps:=nK 0 fs) (aZ (aD rfl (rK fok h8 d σ)) rfl) (λp _=>pH (bJ (kQ rfl rfl rfl (Eg p.1 _)) (kQ rfl rfl rfl (dw ..)) (FQ ..)) λ_=>dO (bJ rfl rfl (ND ..))) (λp _ _=>rfl);have l1:1<=(((((nK 0 fs).filter λp=>decide (p.1.dropLast=j::pre)&&Mr p.1 (aX j pre z)).map a4).length:Nat):Int):=by
   have e:(aX j pre z).dropLast=j::pre:=SK (l₁:=j::pre);have m:(aX j pre z,r)∈(nK 0 fs).filter λp=>decide (p.1.dropLast=j::pre)&&Mr p.1 (aX j pre z):=Q1.mpr ⟨hpl,by unfold Mr;rw[wW,decide_eq_true e];rfl⟩
   rw[PN];exact Rc.mpr (TI m)
 generalize ((nK 0 fs).filter λp=>decide (p.1.dropLast=j::pre)&&Mr p.1 (aX j pre z)).map a4=L at cm l1;have c1:=fU (d+11) l σ 1 1 rfl;have c2:=fU (d+11) l σ 2 2 rfl;have c3:=fU (d+11) l σ 3 3 rfl;obtain⟨q,q0,iq⟩:=Dt l1 (bU l 1 / 5) σ;refine(iF [0,-1,40,-1 - bU l 1 / 24 % 100000000000000000000] (bk (bU l 1 / 24) p4).1 (bk (bU l 1 / 24) p4).2 σ).elim λn4 q9=>?_;have i4:=q9.2;obtain⟨ws,w24,wnd,ew⟩:=lG (bU l 3) 24 (by decide) 0 [];obtain⟨w,L',hw⟩:=zg (fs:=fs) w24 wnd h8;have ns:=λ(i:Nat) (ρ:Fm) (τ:ac) (hv:ag prog.G (af prog (d+12)) (.var 1) ρ τ=.ok (.d (.tuple (fs.map ay))) τ) (hi:∀ f:Fd,ag prog.G (af prog (d+12)) (.idx (.var i) (.int 0)) (ρ.set i (.d (ay f))) (τ++[Cell.busy])=.ok (.d (.str f.nm)) (τ++[Cell.busy]))=>nh (G:=prog.G) (cf:=af prog (d+12)) (i:=i) (it:=.seq (.var 1)) (e:=.idx (.var i) (.int 0)) (ρ:=ρ) (σ:=τ) (aa:=τ) (base:=fs.map ay) ay (λf=>.str f.nm) (ps:=fs) (aZ hv rfl) λf _=>hi f;replace ns:=qm▸ns;have cw:=λ(m:Int)=>ey (G:=prog.G) (cf:=af prog (d+12)) (i:=9) (it:=.seq (.var 5)) (c:=.cmp .notIn (.var 9) (.comp false (.var 10) (.seq (.var 1)) .no (.idx (.var 10) (.int 0)))) (e:=.var 9) (ρ:=Pd (.d (.list (l.map .int))) (.d (.tuple (fs.map ay))) (.d (pD (aX j pre z))) (.d (.int (L.length:Int))) (.d (.int m)) (.d (.list (ws.map .str))) .un .un .un .un .un .un) (σ:=σ) (aa:=σ) (base:=ws.map .str) PyData.str PyData.str (λw=>!decide (w∈hX fs)) (ps:=ws) (aZ rfl rfl) (λp _=>bJ rfl (ns 10 _ _ rfl (λ_=>rfl)) (by rw[pj,uU,mz];rfl)) (λ_ _ _=>rfl);replace cw:=hw▸cw;have n1:=λ(m:Int)=>ns 11 (Pd (.d (.list (l.map .int))) (.d (.tuple (fs.map ay))) (.d (pD (aX j pre z))) (.d (.int (L.length:Int))) (.d (.int m)) (.d (.list (ws.map .str))) (.d (.str w)) .un .un .un .un .un) σ rfl (λ_=>rfl);have ad:=jv (a:=(hX fs).map .str) (b:=([bX,jI,Kt,Ot,Kr]:List Str).map .str) (by rw[PN];unfold hX;rw[PN];exact iv (Qu h8 5) (by decide)) σ;rw[<- Qv] at ad;obtain⟨hl,x,_,ix⟩:=hZ (ws:=hX fs++[bX,jI,Kt,Ot,Kr]) (by rw[Qg];exact Q3 (by decide) (QK 5 _)) (bU l 2 / 6) σ;have bm:=λ(x:Int)=>fB (x:=x) σ false q0;have R:=a9 prog 54 (d+12) [.d (.list (l.map .int)),.d (.tuple (fs.map ay)),.d (pD (aX j pre z))] σ rfl;by_cases h3:bU l 1 / 3 % 8=1
 . by_cases h6:bU l 2 % 6=1
   . exact⟨_,_,((R 53543448 cm c1 c1 iq (bm _) c1 (dT h3) c1 c1 i4 c3 (ew _ _) (cw _) c2 (dT h6) (n1 _) ad c2 (fB _ _ hl) ix (same σ)))⟩
   . exact⟨_,_,((R 1114648 cm c1 c1 iq (bm _) c1 (dT h3) c1 c1 i4 c3 (ew _ _) (cw _) c2 (dF h6) (same σ)))⟩
 . by_cases h6:bU l 2 % 6=1
   . exact⟨_,_,((R 418328 cm c1 c1 iq (bm _) c1 (dF h3) c3 (ew _ _) (cw _) c2 (dT h6) (n1 _) ad c2 (fB _ _ hl) ix (same σ)))⟩
   . exact⟨_,_,((R 8728 cm c1 c1 iq (bm _) c1 (dF h3) c3 (ew _ _) (cw _) c2 (dF h6) (same σ)))⟩
noncomputable abbrev PK(a b c d e f g h i j k l m n o p:V):Fm:=[a,b,c,d,e,f,g,h,i,j,k,l,m,n,o,p]
theorem JM(p q:List Nat)(hq:q.length<=9000)(d:Nat):∃ b,AL (d+2) (pD p) (pD q) b:=by
 obtain⟨b,h,_⟩:=zX (d:=d+1) (xs:=p.map nI) (ys:=q.map nI) (by rw[PN];exact hq) λk x y h1 h2=>by
   rw[Q0] at h1 h2;cases e1:p[k]? with
   | none=>rw[e1] at h1;injection h1
   | some a=>
     cases e2:q[k]? with
     | none=>rw[e2] at h2;injection h2
     | some a'=>rw[e1] at h1;rw[e2] at h2;(injection h1 with e0_;subst e0_);(injection h2 with e0_;subst e0_);exact⟨_,Gs _ _ d⟩
 exact⟨b,h⟩
theorem Gu(a b a' b':List Nat)(h1:a'.length<=9000)(h2:b'.length<=9000)(d:Nat):∃ q,AL (d+3) (.tuple [.str bG,pD a,pD b]) (.tuple [.str bG,pD a',pD b']) q:=by
 obtain⟨q,h,_⟩:=zX (d:=d+2) (xs:=[.str bG,pD a,pD b]) (ys:=[.str bG,pD a',pD b']) (QM rfl) λk x y e1 e2=>by
   match k,e1,e2 with
   | 0,e1,e2=>(injection e1 with e0_;subst e0_);(injection e2 with e0_;subst e0_);exact⟨_,Gr _ (d+1)⟩
   | 1,e1,e2=>(injection e1 with e0_;subst e0_);(injection e2 with e0_;subst e0_);exact JM a a' h1 d
   | 2,e1,e2=>(injection e1 with e0_;subst e0_);(injection e2 with e0_;subst e0_);exact JM b b' h2 d
 exact⟨q,h⟩
theorem KQ(h9:hL b<=9)(j:Nat)(h:p∈eu [j] 0 b):p.1.length<=11:=by obtain⟨pre,z,c,e,h1,_⟩:=gh _ b b 0 rfl p h;rw[e,Qg,Qg,QW];exact Qu (Qu (iv (kh h1) h9) 1) 1
structure Gd(ws:List Str)(fs:List Fd):Prop where
 w7:ws.length<=7
 f0:0 < fs.length
 h8:fs.length<=8
 all:∀ f∈fs,okF ws (fs.map kz) f
theorem Gd.fok(h:Gd ws fs):∀ f∈fs,hL f.rs<=9/\nL f.rs<=600:=λf hf=>⟨(h.all f hf).h9,(h.all f hf).n4⟩
variable {gs:List Fd}
theorem Jh(h:∀ f∈gs,okF ws cs f)(h9:gs.length<=9):SA 44 (.tuple (gs.map ay)):=uv ay (iv h9 (by decide)) λf hf=>MP (h f hf).p4 (h f hf).rs (iv (h f hf).h9 (by decide)) (iv (h f hf).n4 (by decide)) (h f hf).t
theorem MQ(g:Gd ws fs)(h:Dr ws (fs.map kz) fs j f pre z c m)(ho:∀ y,o=some y->y∈ws)(hx:x∉hX fs):SA 45 (CD ws fs j f pre z c m o x)/\SA 46 (.tuple [.tuple (fs.map ay),.tuple [pD (aX j pre z),.int (m:Int),bp (lE o x (cV ws o (aF z m c))),.int (j:Int),ay (lZ ws o x (aF z m c))]]):=by have A:=rT g.all h ho hx;have pl:∀ k,(aX k pre z).length<=9000:=λk=>iv (show (pre++[z]).length+1<=11 by rw[Qg];exact Qu h.p9 2) (by decide);refine⟨DR (Jh A.all A.h8) ((Aq _ (pl _)).up (by decide)),DR ((Jh g.all (iv g.h8 (by decide))).up (by decide)) (gX (n:=44) (QM rfl) (kN ((Aq _ (pl _)).up (by decide)) (kN (pZ _ _) (kN ((MO _ (Bs (x:=x) (cs:=(ym ws fs j f pre z c m o x).map kz) h.w7 ho (xk (ws:=ws) h.hj o x pre z c m).2) (QM rfl)).up (QM rfl)) (kN (pZ _ _) (kN ?_ BT))))))⟩;exact(MP A.og.p4 A.og.rs (iv A.og.h9 (by decide)) (iv A.og.n4 (by decide)) A.og.t).up (by decide)
noncomputable def FT(l:List Int)(fs:List Fd)(v2:V)(pl:List Nat)(v4:V)(n:Int)(x:Str)(v7 v8 v9 v10 v11 v12 v13:V):Fm:=PK (.d (.list (l.map .int))) (.d (.tuple (fs.map ay))) v2 (.d (pD pl)) v4 (.d (.int n)) (.d (.str x)) v7 v8 v9 v10 v11 v12 v13 .un .un
theorem uj(l:List Int)(v2 v4:V)(n:Int)(k:Str)(et:af prog 99 58 [.d (.tuple (fs.map ay)),.d (pD (aX j pre z)),.d (.int n),.d (.str x)] []=.ok (.d (.tuple [.str k])) [])(er:af prog 99 52 [.d (.tuple (fs.map ay)),.d (pD (aX j pre z)),.d (.int n),.d (.str x)] []=.ok (.d (.str k)) [])(hk:k≠bX):execs prog.G (af prog 99) (k9 6 rQ) (FT l fs v2 (aX j pre z) v4 n x .un .un .un .un .un .un .un) []=.ok (.ret (.d (.bool true))) []:=by have ne:=(uI k bX []).trans (nT (decide_eq_false hk));exact((dn prog.G (af prog 99) (k9 6 rQ) (FT l fs v2 (aX j pre z) v4 n x .un .un .un .un .un .un .un) [] 1 et er ne (gX (n:=0) (l:=[.str k]) (QM rfl) (kN (cT _ _) BT) 97 [])))
theorem DC(g:Gd ws fs)(h:Dr ws (fs.map kz) fs j f pre z c m)(ho:∀ y,o=some y->y∈ws)(hw:∀ y,(∃ q,WS j f pre z c m q y)↔o=some y)(hx:x∉hX fs)(l:List Int)(v2 v4 v8 v9:V){Ns:List Str}(hN:Ns.head?=o):execs prog.G (af prog 99) (k9 12 rQ) (FT l fs v2 (aX j pre z) v4 (m:Int) x (.d (.list [CD ws fs j f pre z c m o x])) v8 v9 (.d (.list (Ns.map .str))) .un .un .un) []=.ok (.ret (.d (.bool true))) []:=by have A:=rT g.all h ho hx;have ed:=rD h x (Ns:=Ns) (λy q=>ho y (hN▸q)) 81 [];rw[hN] at ed;refine(MQ g h ho hx).elim λs1 s2=>?_;have gf:=d9 A.hj [];have gg:=d9 A.hn [];obtain⟨v12,lp⟩:=tV (B:=AR) (i:=11) (k:=12) (Fr:=λa b=>FT l fs v2 (aX j pre z) v4 (m:Int) x (.d (.list [CD ws fs j f pre z c m o x])) (.d (CD ws fs j f pre z c m o x)) v9 (.d (.list (Ns.map .str))) a b .un) (cf:=af prog 99) (σ:=[]) (λb r n v hk hb=>bc (a7 (cU (bI (bI rfl rfl (fk ((cF _ n).trans hk) [])) rfl (vA hb []))) rfl)) A.hp .un;have it:=aZ (kQ (G:=prog.G) (cf:=af prog 99) (m:=false) (a:=.idx (.var 8) (.int 1)) (lo:=.yes (.int 1)) (hi:=.yes (.neg (.int 1))) (ρ:=FT l fs v2 (aX j pre z) v4 (m:Int) x (.d (.list [CD ws fs j f pre z c m o x])) (.d (CD ws fs j f pre z c m o x)) v9 (.d (.list (Ns.map .str))) (.d (.tuple (am (d4 ws o x pre z c m f).rs))) .un .un) rfl rfl rfl (Jm (j+1) pre z [])) rfl;have gz:=fk ((cF _ z).trans A.hz) [];exact((dn prog.G (af prog 99) (k9 12 rQ) (FT l fs v2 (aX j pre z) v4 (m:Int) x (.d (.list [CD ws fs j f pre z c m o x])) v8 v9 (.d (.list (Ns.map .str))) .un .un .un) [] 113024 ed (s1 53 []) (bx ..) gf (bf it lp) (ba ..) gz (bx ..) (bx ..) gg (D9 g.all h ho hw hx 76 []) (s2 52 [])))
theorem qo(Ns:List Str)(l:List Int)(v2 v4 v7 v8 v9:V)(pl:List Nat)(n:Int):∃ M:List Str,(M=[]↔∀ a∈Ns,∀ b∈Ns,a=b)/\ag prog.G (af prog 99) (.comp false (.var 15) (.seq (.var 10)) (.yes (.cmp .ne (.var 15) (.idx (.var 10) (.int 0)))) (.var 15)) (FT l fs v2 pl v4 n x v7 v8 v9 (.d (.list (Ns.map .str))) .un .un .un) []=.ok (.d (.list (M.map .str))) []:=by
 cases Ns with
 | nil=>exact⟨[],⟨(λ_ a ha=>by cases ha),λ_=>rfl⟩,ey (α:=Str) PyData.str PyData.str (λ_=>true) (ps:=[]) (base:=[]) (aZ rfl rfl) (λp hp=>by cases hp) (λp hp=>by cases hp)⟩
 | cons y Ns=>
   refine⟨(y::Ns).filter λa=>!decide (a=y),⟨λq a ha b hb=>?_,λq=>?_⟩,ey PyData.str PyData.str (λa=>!decide (a=y)) (ps:=y::Ns) (base:=(y::Ns).map .str) (aZ rfl rfl) (λp hp=>bJ rfl rfl (uI p y _)) (λp hp _=>rfl)⟩
   . have e:∀ a∈y::Ns,a=y:=λa ha=>Classical.byContradiction λw=>Rk.mp q a ha (by rw[decide_eq_false w];rfl);rw[e a ha,e b hb]
   . rw[Rk];intro a ha w;rw[decide_eq_true (q a ha y (Qh ..))] at w;injection w
theorem tail(g:Gd ws fs)(hj:fs[j]?=some f)(hp:Pth f.rs pre c)(hz:(lst c)[z]?=some r)(l:List Int)(v2 v4:V)(n:Int)(x:Str):execs prog.G (af prog 99) (k9 6 rQ) (FT l fs v2 (aX j pre z) v4 n x .un .un .un .un .un .un .un) []=.ok (.ret (.d (.bool true))) []:=by
 have er:=vx (z:=z) hj hp g.fok g.h8 n x 86 [];unfold KJ at er;by_cases h1:n < 1\/(((lst c).length:Nat):Int) < (z:Int)+n
 . rw[if_pos h1] at er;exact uj l v2 v4 n bC (Dz (CB hj hp hz h1 x 94 [])) er (by decide)
 rw[if_neg h1] at er;obtain⟨m,rfl⟩:=RC (Rq (by decide) (R8.mp λq=>h1 (.inl q)));have h:Dr ws (fs.map kz) fs j f pre z c m:=⟨g.w7,g.h8,hj,g.all f (Qp hj),hp,Rc.mp (R8.mp λq=>h1 (.inl q)),Rc.mp (R8.mp λq=>h1 (.inr q))⟩
 cases hx1:sm x with
 | false=>rw[hx1,cond_false] at er;have e:=re h (.inl hx1) 94 [];rw[hx1,cond_false] at e;exact uj l v2 v4 m aK (Ki e) er (by decide)
 | true=>
   rw[hx1,cond_true] at er;by_cases hx2:x∈hX fs
   . rw[if_pos hx2] at er;have e:=re h (.inr hx2) 94 [];rw[hx1,cond_true] at e;exact uj l v2 v4 m ke (Kh e) er (by decide)
   replace er:=(if_neg hx2)▸er;have eds:=rG h 83 [];have mem:=λq y=>LY (j:=j) (z:=z) (m:=m) hp q y;have l11:∀ a∈(eu [j] 0 f.rs).flatMap (xN j f pre z m),a.1.length<=9000:=λa ha=>by
     obtain⟨p,h1,h2⟩:=TF.mp ha;have:a.1=p.1:=by
       unfold xN at h2;cases ht:vQ p.2 with
       | none=>replace h2:=ht▸h2;cases h2
       | some w=>
         rw[ht] at h2;have h2:a∈(if (me j pre z m p.1&&l9 w f.rs pre (z+(m - 1)) (decide (w∈cC f.t)))=true then [(p.1,w)] else []):=h2;split at h2
         . exact congrArg _ (Qt.mp h2)
         . cases h2
     rw[this];exact iv (KQ h.of.h9 j h1) (by decide)
   generalize (eu [j] 0 f.rs).flatMap (xN j f pre z m)=T at eds mem l11;have ns:=λ(v7:V)=>nh (G:=prog.G) (cf:=af prog 99) (i:=14) (it:=.seq (.var 9)) (e:=.idx (.var 14) (.int 1)) (ρ:=FT l fs v2 (aX j pre z) v4 (m:Int) x v7 (.d (.str bX)) (.d (.list (T.map kH))) .un .un .un .un) (σ:=[]) (aa:=[]) (base:=T.map kH) kH (λq=>.str q.2) (ps:=T) (aZ rfl rfl) λq _=>rfl;have em:T.map (λq=>PyData.str q.2)=(T.map (·.2)).map .str:=by rw[Rj];rfl
   replace ns:=em▸ns;have ne1:=(uI bX bX []).trans (nF (decide_eq_true rfl));rcases zQ h hx1 hx2 80 [] with ⟨a,p,b,q,hab,wa,wb,e⟩ | ⟨o,hw,ho,e⟩
   . obtain⟨M,hM,eM⟩:=qo (fs:=fs) (x:=x) (T.map (·.2)) l v2 v4 (.d (.tuple [.str bG,pD p,pD q])) (.d (.str bX)) (.d (.list (T.map kH))) (aX j pre z) (m:Int);have ta:=(mem p a).mpr wa;have tb:=(mem q b).mpr wb;have en:(M.map PyData.str).isEmpty=false:=by
       rw[Te];cases hh:M with
       | nil=>exact absurd (hM.mp hh a (QV.mpr ⟨_,ta,rfl⟩) b (QV.mpr ⟨_,tb,rfl⟩)) hab
       | cons _ _=>rfl
     exact a7 (cU (aD rfl (Kg e))) (a7 (cU (aD rfl er)) (iS (bJ rfl rfl ne1) (a7 (cU (aD rfl eds)) (a7 (cU (ns _)) (io (As (bJ eM rfl ((l4 ..).trans (nT en))) (io (DT (aD rfl (w8 (d:=94) (v:=.tuple [.str bG,pD p,pD q]) (T:=T) (λa ha b hb=>Gu p q a.1 b.1 (l11 a ha) (l11 b hb) 95) ⟨(p,a),(q,b),ta,tb,hab,DQ (n:=1) (cT _ _) (Aq p (l11 _ ta)) (Aq q (l11 _ tb)) 95⟩ []))))))))))
   . obtain⟨M,hM,eM⟩:=qo (fs:=fs) (x:=x) (T.map (·.2)) l v2 v4 (.d (.list [CD ws fs j f pre z c m o x])) (.d (.str bX)) (.d (.list (T.map kH))) (aX j pre z) (m:Int);have all:∀ y∈T.map (·.2),o=some y:=λy hy=>by obtain⟨⟨q,y'⟩,hq,rfl⟩:=QV.mp hy;exact(hw y').mp ⟨q,(mem q y').mp hq⟩
     have en:(M.map PyData.str).isEmpty=true:=by rw[Te,hM.mpr λa ha b hb=>Option.some.inj ((all a ha).symm.trans (all b hb))];rfl
     have hN:(T.map (·.2)).head?=o:=by
       cases o with
       | none=>
         cases hT:T.map (·.2) with
         | nil=>rfl
         | cons y _=>cases all y (hT▸Qh ..)
       | some y=>
         obtain⟨q,hq⟩:=(hw y).mpr rfl;have hy:y∈T.map (·.2):=QV.mpr ⟨(q,y),(mem q y).mpr hq,rfl⟩;cases hT:T.map (·.2) with
         | nil=>replace hy:=hT▸hy;cases hy
         | cons w _=>exact(all w (hT▸Qh ..)).symm
     exact a7 (cU (aD rfl (G7 e))) (a7 (cU (aD rfl er)) (iS (bJ rfl rfl ne1) (a7 (cU (aD rfl eds)) (a7 (cU (ns _)) (iS (bJ eM rfl ((l4 ..).trans (nF en))) (DC g h ho hw hx2 l v2 v4 _ _ hN))))))
variable {x:PyData}
theorem CC(h:GH fs x)(n t:PyData)(d:Nat)(σ:ac):af prog (d+4) 49 [.d (.tuple (fs.map ay)),.d x,.d n,.d t] σ=.ok (.exc 1 []) σ:=
 (a9 prog 49 (d+3) [.d (.tuple (fs.map ay)),.d x,.d n,.d t] σ rfl 0 (h d σ) (same σ))
theorem result(l:List Int):∃ σ',af prog 100 59 [.d (.list (l.map .int))] []=.ok (.d (.bool true)) σ':=by
 obtain⟨ws,fs,⟨w7,f0,h8,okp,_⟩,ep⟩:=vy l 4 82 [];have g:Gd ws fs:=⟨w7,f0,h8,λf hf=>(okp f hf).1⟩
 have c0:=iK 98 l 0 [];have c1:=iK 98 l 1 [];have c2:=iK 98 l 2 [];refine⟨[],co (fn:=f_law) (d:=99) rfl rfl (a7 (cU (aD rfl ep)) (a7 (cU (aD rfl (rK g.fok h8 87 []))) ?_))⟩;by_cases h2:bU l 2 / 24 % 6=1
 . obtain⟨x,ex,hx⟩:=CL f0 g.fok (bU l 0) 85 [];obtain⟨f,hf⟩:∃ f,fs[0]?=some f:=⟨_,Qk f0⟩
   have m3:=bk (bU l 1) (show (0:Int) < 3 by decide);obtain⟨w,_,iw⟩:=Ae (ws:=[Jj,Pn,f.nm]) m3.1 m3.2 [];have t:=Dz (CC hx (.int (1+bU l 1 / 3 % 3)) (.str w) 94 []);have a:=gX (n:=0) (l:=[.str bC]) (QM rfl) (kN (cT _ _) BT) 97 [];exact((dn prog.G (af prog 99) (k9 2 rQ) (PK (.d (.list (l.map .int))) (.d (.tuple (fs.map ay))) (.d (.list ((nK 0 fs).map a4))) .un .un .un .un .un .un .un .un .un .un .un .un .un) [] 152 c2 (dT h2) c0 ex (d9 hf []) c1 iw c1 t a))
 have en:=o7 ((nK 0 fs).map a4) [];refine iS (Dq (bJ (gD (gD (aD rfl c2) rfl rfl) rfl rfl) rfl rfl) (decide_eq_false h2)) ?_;cases hb:nK 0 fs with
 | nil=>exact io (As (bJ rfl rfl rfl) rfl)
 | cons p M'=>
   rw[<- hb];have hm:0 < (nK 0 fs).length:=by rw[hb];exact RY _
   have he:((nK 0 fs).map a4).isEmpty=false:=by rw[hb];rfl
   rw[he] at en;obtain⟨hl,p,hp,ip⟩:=AZ a4 hm (bU l 0);obtain⟨j,f,pre,z,c,hj,pl,pt,hz⟩:=Ed hp;obtain⟨q,r⟩:=p;subst pl;obtain⟨n,x,eq⟩:=zR hj pt hp g.fok h8 l 86 [];exact iS (bJ rfl rfl en) (a7 (cU (bI (bI rfl (gD (aD rfl c0) rfl (fB _ _ hl)) (ip [])) rfl rfl)) (a7 (Ks (aD rfl eq) rfl) (tail g hj pt hz l _ _ n x)))
end L10
end Mine.Internal
set_option tactic.hygienic true
open PySem PySem.W PyProof.Rows
namespace Mine.Internal.L10
set_option maxRecDepth 100000
theorem eK{α:Type}{f:α->Bool}{l:List α}(n:Nat)(h1:(l.take n).all f=true)(h2:(l.drop n).all f=true):l.all f=true:=by rw[<- List.take_append_drop n l,List.all_append,h1,h2];rfl
noncomputable def ck(fn:Fn):Bool:=jg (recsOf q10) prog.P gnames fn
theorem OU:((zh.take 8).all ck)=true:=by decide +kernel
theorem OS:(((zh.drop 8).take 8).all ck)=true:=by decide +kernel
theorem OR:((((zh.drop 8).drop 8).take 8).all ck)=true:=by decide +kernel
theorem OQ:(((((zh.drop 8).drop 8).drop 8).take 8).all ck)=true:=by decide +kernel
theorem OP:((((((zh.drop 8).drop 8).drop 8).drop 8).take 8).all ck)=true:=by decide +kernel
theorem OO:(((((((zh.drop 8).drop 8).drop 8).drop 8).drop 8).take 8).all ck)=true:=by decide +kernel
theorem ON:((((((((zh.drop 8).drop 8).drop 8).drop 8).drop 8).drop 8).take 8).all ck)=true:=by decide +kernel
theorem OM:((((((((zh.drop 8).drop 8).drop 8).drop 8).drop 8).drop 8).drop 8).all ck)=true:=by decide +kernel
theorem chk:(zh.all λfn=>jg (recsOf q10) prog.P gnames fn)=true:=eK (f:=ck) 8 OU (eK 8 OS (eK 8 OR (eK 8 OQ (eK 8 OP (eK 8 OO (eK 8 ON OM))))))
theorem kchk:(zh.all λfn=>!decide (fn.name=("_law_kind":Str))||jg (recsOf q10) (λ_=>none) gnames fn)=true:=by decide +kernel
theorem frees:tM (namesW q10 [])=true:=by decide +kernel
theorem vefree:(!(namesW q10 []).contains ("ValueError":Str)&&!PySem.bootMainNames.contains "ValueError")=true:=by decide +kernel
theorem globs_ok:∀ k x,prog.G k=some x->(gnames k,x)∈scalarsOf []++constsW q10/\xy x=true:=by
 intro k x h;have e:constsW q10=[(Str.ofString "LONGEST",.int 8),(Str.ofString "LETTERS",.str aj)]:=by kernel_rfl
 match k,h with
 | 1,h=>(injection h with e0_;subst e0_);exact⟨List.mem_append_right _ (by rw[e];exact List.mem_cons_of_mem _ (List.mem_cons_self ..)),by decide +kernel⟩
 | 2,h=>(injection h with e0_;subst e0_);exact⟨List.mem_append_right _ (by rw[e];exact List.mem_cons_self ..),by decide +kernel⟩
end Mine.Internal.L10
set_option maxRecDepth 100000 in
set_option maxHeartbeats 8000000 in
theorem PySem.Challenge.cw_uf010014_10_holds : PySem.Challenge.rw_uf010014_10.Holds := by
 refine holds_law Mine.Internal.said10 λsaid=>?_;refine holds_open (q:=Mine.Internal.q10) (loose:=[]) (Xt:=λs=>(xlAt Mine.Internal.q10 [] s&&recOk (RowW.records (OpenRow.toRowW (OpenLaw.row PySem.Challenge.rw_uf010014_10))) s)&&Mine.Internal.xChk s.heap) (XP:=λmg h=>XL Mine.Internal.q10 [] mg h/\Mine.Internal.XF mg h) (Yf:=Hook.obs Hook.none) (Ya:=Hook.val Hook.none) (YP:=Hook.says Hook.none) (N:=6000) Mine.Internal.left10 (Hook.of Hook.none) (Hook.keeps Hook.none)
   (λs e=>⟨xl_of s (Bool.and_eq_true_iff.mp (Bool.and_eq_true_iff.mp e).1).1,Mine.Internal.xf_of (Bool.and_eq_true_iff.mp e).2⟩) (λmg h h' x hk=>⟨XL.keeps mg h h' x.1 hk,x.2.keeps hk⟩) (by rfl) (by rfl) (by rfl) (λs e=>recFacts_of (Bool.and_eq_true_iff.mp (Bool.and_eq_true_iff.mp e).1).2) (by rfl) said (by decide +kernel) ⟨rfl,rfl,rfl,rfl,rfl,by decide +kernel⟩ ?hw ?hc
 case hw=>w_witness2
 case hc=>
   intro w c5 ai mg mb G Y fa o pm cd doc dV kV ho hd hcd hD hmg hg args vals as hpre hlay hrd hwl hlo;have V:=(Ground.X G).1.2;have XX:=(Ground.X G).2;have GL:=glob_more (Ground.glob G (by decide +kernel) (by decide +kernel)) V;refine Ground.open G ?_;intro T B D TE TW;have TA:=at_of_top T;have hmg':mg (Str.ofString "law")=some (Value.ref fa):=hmg;have hos:=hg;clear hmg;refine Mine.Internal.kk λK kx=>?_
   wrow_args hpre hlay hrd hwl hlo
   rename_i l _ _ _ _ _ _ _ _ _ _ _ _ hw _ _ _ hlen _;obtain⟨σ',hrun⟩:=Mine.Internal.L10.result l;refine kx ?_;refine Mine.Internal.run_law (p:=Mine.Internal.L10.prog) (gn:=Mine.Internal.gnames) (i:=59) (fn:=Mine.Internal.L10.f_law) (Mine.Internal.static_of (mn:=λ_=>none) GL TA Mine.Internal.L10.chk rfl Mine.Internal.L10.frees (Mine.Internal.globs_of GL Mine.Internal.L10.globs_ok) Mine.Internal.L10.kchk (Mine.Internal.xok_of GL Mine.Internal.L10.vefree XX)) rfl rfl hmg' hw (by unfold Mine.Internal.LIM;omega) (by omega) hrun λs' hk ho hgn=>?_;exact GoodW.toG ⟨.inl ⟨_,.bool true,[],rfl,λ_=>rfl,.bool true,postW_of (X:=true) (by with_unfolding_all rfl) (by with_unfolding_all rfl) rfl,λh=>⟨.nil,λa ha=>by cases ha⟩⟩,hk,ho,hgn.trans hos⟩
