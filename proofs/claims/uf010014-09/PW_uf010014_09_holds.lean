import PyProof.Rows.All
import PyProof.P3Statements
import Open.Line
import Open.FastRun
import Open.FastT9
import Wide.Line
import Wide.FinOn
import PyProof.Calls
import PyProof.Cells
import PyProof.DictUpdate
import PyProof.TupleOps
import PyProof.Ns1
import PyProof.Straight
import PyProof.RaisesMany
import PyProof.Rows.Globals
import PyProof.StationsW
import PyProof.Rows.RuleB_floordiv
import PyProof.Rows.RuleB_mod
import PyProof.Rows.RuleB_pow
import PyProof.Rows.StrRules
import PyProof.Rows.Chain
import PyProof.StrBlock2
import PyProof.PureInt
import KE.KEqDict
import PyProof.FactsAll.tuple_1
import KE.KDictList
import KE.KDictOf
import PyProof.Methods
import PyProof.DictTable
import PyProof.FactsAll.list_3
import PyProof.EqKinds
import PyProof.FactsAll.dict_3
import PyProof.FactsAll.dict_4
import PyProof.FactsAll.NoneType_1
import PyProof.SetNew
import PyProof.SetRoads
import PyProof.CollectIter
import PyProof.Draws
import PyProof.EnumMake
import PyProof.TupleIter
import PyProof.WalksMore
import PyProof.RangeFor
import PyProof.StrWalks
import PyProof.CompFree
import PyProof.MakeMany
import PyProof.Rows.Nodes
import PyProof.ExcClass2
import PyProof.ExcArgs
import PyProof.ExcBaseAll.ValueError
import PyProof.Rows.RuleN_isinstance
import PyProof.IsiH_list
import PyProof.ExcInit
import PyProof.InstStoreFacts
import PyProof.InstLoad
import PyProof.Rows.PlainObj
import PyProof.ObjNew
import PyProof.Rows.Catch
import PyProof.ZipIter
import PyProof.AttrMissHeap
import PyProof.FactsAll.zip
import PyProof.DictCompW
import PyProof.Rows.StrInSeq
import PyProof.Ops
import PyProof.RulesAs
import PyProof.ForAny
import PyProof.Rows.HelperG
import PyProof.ExcClsAt
import PySem.Challenge.RW_uf010014_09
set_option Elab.async false
set_option bootstrap.genMatcherCode false
set_option genSizeOf false
set_option genInjectivity false
set_option genCtorIdx false
local macro_rules
 | `(tactic| cases $h:ident) => `(tactic| first
   | (injection $h:ident; done)
   | (injection $h:ident with e f; cases e; cases f)
   | (injection $h:ident with e; cases e)
   | subst $h:ident)
set_option tactic.hygienic false
set_option autoImplicit false
namespace Mine.Internal
open Nat renaming le_trans→iv,add_le_add_right→NS,le_add_right→NZ,zero_le→N3,le_add_left→N5,succ_le_succ→N7,le_of_ble_eq_true→N8,add_le_add→Ob,lt_of_le_of_lt→Oc,add_le_add_left→Oe,le_refl→Of,add_comm→Oj,add_assoc→On,le_of_not_lt→OE,lt_of_lt_of_le→OF,le_of_eq→OH,ne_of_lt→OI,le_of_add_right_le→OJ,mul_le_mul_right→ON,mul_le_mul_left→OR,le_of_lt→OU,add_right_comm→OX,le_of_succ_le→O3,lt_irrefl→Pa,zero_add→Pe,min_eq_left→Pj,le_succ_of_le→Pu,le_antisymm→Pv,le_of_succ_le_succ→PF,le_succ→PI,min_le_right→PP,lt_succ_self→PR,le_max_right→PT,le_max_left→P2,lt_of_succ_lt_succ→P5,lt_succ_of_le→P9,ne_of_gt→Qa,succ_pos→Qb,succ_mul→Qd,pow_le_pow_right→Ql,add_sub_cancel'→Qr,lt_of_le_of_ne→Qs,lt_one_iff→Qu,not_lt→Qv,le_of_lt_succ→Qy,add_sub_cancel_left→QE,succ_ne_zero→QF,lt_trans→QM,lt_or_ge→QN,sub_self→QQ,sub_eq_zero_of_le→QS,mul_le_mul→QX,mul_one→Q0,sub_le→Q4,max_le→Q5
open PySem renaming wpAny_bind→MQ,wpAny_pure→NF,wpAny_mono→NM,wpAny_loadPart_at→NV,wpAny_newObj_type→Og,wpAny_standAt→Ow,wpAny_isSubtype_exc→OB,wpAny_holding→OG
open List renaming length_map→Ng,mem_cons_of_mem→NA,getElem?_eq_getElem→NC,length_append→ND,mem_cons_self→NE,mem_of_getElem?→NI,getElem?_eq_some_iff→NK,mem_singleton→NL,mem_cons→NN,map_append→NP,mem_append→NR,length_cons→NU,lookup_cons→NW,append_nil→NX,append_assoc→N2,getElem?_append_left→N4,getElem?_append_right→N6,mem_of_mem_take→Oi,mem_map→Ok,map_cons→Ol,getElem?_map→Om,map_map→Oq,length_filter_le→Ot,mem_filter→Ov,not_mem_nil→Oy,all_eq_true→Oz,contains_cons→OA,mem_append_left→OD,mem_append_right→OK,length_singleton→OM,getElem?_eq_none→OS,map_nil→OV,getElem?_take→OW,length_nil→OY,range_eq_range'→OZ,length_range→O2,mem_range→O4,nodup_cons→O5,eq_nil_of_length_eq_zero→O6,length_drop→O7,mem_flatMap→O8,mem_of_mem_drop→O9,nodup_append→Pf,flatMap_cons→Pg,filterMap_cons→Ph,map_congr_left→Pi,take_of_length_le→Pn,getElem_mem→Pq,map_singleton→Pr,drop_eq_getElem_cons→Ps,any_cons→Pw,mem_map_of_mem→Px,length_take→Pz,isEmpty_iff→PA,pairwise_cons→PH,sum_append→PJ,nodup_nil→PN,length_set→PY,mem_replicate→PZ,filter_cons_of_pos→P0,nil_append→P3,filterMap_eq_map'→P4,take_sublist→P6,ext_getElem?→P8,length_replicate→Qc,take_append_drop→Qe,any_eq_true→Qf,drop_length→Qg,isEmpty_map→Qh,getElem?_of_mem→Qi,map_drop→Qm,replicate_succ→Qo,length_range'→Qt,drop_sublist→Qw,range'_eq_map_range→Qz,idxOf_lt_length_iff→QA,pairwise_singleton→QB,filter_cons_of_neg→QC,map_take→QD,range'_succ→QG,filter_cons→QH,filter_eq_nil_iff→QI,foldl_cons→QK,of_mem_zip→QO,take_left'→QR,set_append_right→QT,getElem?_mapIdx→QV,contains_eq_mem→QW,sum_cons→Q2,any_map→Q9
open PySem.Heap renaming get?_push_of_some→NG,get?_push_size→NQ,lt_size→Os,get?_update_self→OL,get?_update_other→OP,size_push→PB,get?_none_of_le→Qj
open Bool renaming and_eq_true_iff→NH,and_eq_true→NO,false_ne_true→NY,or_eq_true_iff→Od,not_eq_true'→Oo,noConfusion→OQ,or_false→Pb,false_and→PC,not_true→PK,true_and→PM,or_true→PW,false_eq_true→PX,false_or→P1,or_eq_false_iff→Qk,and_false→QY
open Option renaming bind_eq_some_iff→NJ,map_eq_some_iff→N9,isNone_iff_eq_none→Ou,isSome_iff_exists→Ox,some_ne_none→Qn,noConfusion→Q1
open Array renaming length_toList→NT,getElem?_eq_some_iff→O0,getElem?_eq_none→PD,getElem?_eq_getElem→PO,toList_push→Qx,size_eq_one_iff→QL,mem_toList_iff→QU,toList_append→QZ
open Int renaming natCast_nonneg→Oa,toNat_natCast→Oh,le_trans→OC,ofNat_lt→OO,toNat_le→Pc,ofNat_le→Pd,toNat_of_nonneg→Pl,le_add_of_nonneg_right→Pp,add_nonneg→Pt,eq_ofNat_of_zero_le→Py,lt_of_lt_of_le→PG,ofNat_inj→PL,max_eq_right→PQ,le_of_lt→PU,toNat_lt→PV,min_eq_left→Qp,emod_nonneg→QJ,add_comm→QP,not_lt→Q3,sub_zero→Q6,zero_add→Q7,ne_of_gt→Q8
open PyProof.Rows renaming callWith_type→O1,slot_tuple_getitem→P7,slicePart_none→Qq
open PySem
noncomputable def KA:Nat->Addr
 | 0=>24
 | 1=>37
 | 2=>49
 | 3=>61
 | 4=>73
 | 5=>85
 | _=>104
noncomputable def RA:Addr:=50
noncomputable def jg:Str:=⟨#[102,117,110,99,116,105,111,110,115]⟩
noncomputable def Hn:Str:=⟨#[116,111,108,100]⟩
noncomputable def jf:Str:=⟨#[111,110,101]⟩
noncomputable def cS:Str:=⟨#[111,116,104,101,114]⟩
inductive V where
 | un
 | d (x:PyData)
 | loc (n:Nat)
 | locs (l:List Nat)
 | exc (k:Nat) (ds:List PyData)
 /-- a Runner: the box of its dict (shut),its attributes' boxes -/
 | inst (k:Nat) (l:List (Str×Nat))
noncomputable def V.ctorIdx (t:V):Nat:=by cases (t); exact 0; exact 1; exact 2; exact 3; exact 4; exact 5
inductive Cell where
 | lst (l:List PyData)
 | dct (l:List (Str×PyData))
 | gone
 | busy
noncomputable def Cell.ctorIdx (t:Cell):Nat:=by cases (t); exact 0; exact 1; exact 2; exact 3
abbrev ac:=List Cell
abbrev Fm:=List V
inductive Res (α:Type) where
 | ok (a:α) (σ:ac)
 | bad
noncomputable def Res.ctorIdx {α:Type} (t:Res α):Nat:=by cases (t); exact 0; exact 1
noncomputable def Res.bind {α β:Type}:Res α->(α->ac->Res β)->Res β
 | .ok a σ,f=>f a σ
 | .bad,_=>.bad
noncomputable def bg {α:Type} (o:Option α) (σ:ac):Res α:=match o with
 | some a=>.ok a σ
 | none=>.bad
inductive BOp where | add | sub | mul | fdiv | mod | pow (u:Unit)
noncomputable def BOp.ctorIdx (t:BOp):Nat:=by cases (t); exact 0; exact 1; exact 2; exact 3; exact 4; exact 5
inductive COp where | eq | ne | lt | le | gt | ge (u:Unit) | isN | isNotN | isIn | notIn
noncomputable def COp.ctorIdx (t:COp):Nat:=by cases (t); exact 0; exact 1; exact 2; exact 3; exact 4; exact 5; exact 6; exact 7; exact 8; exact 9
set_option genCtorIdx true in
inductive Ty where | list | int | bool | str | tuple
inductive Bi where | len | list | dict | int | max | tuple | sorted | sortedSet | any | all | isinst (t:Ty)
noncomputable def Bi.ctorIdx (t:Bi):Nat:=by cases (t); exact 0; exact 1; exact 2; exact 3; exact 4; exact 5; exact 6; exact 7; exact 8; exact 9; exact 10
inductive Me where | get | append | extend | update | pop | count | index | nop (u:Unit)
noncomputable def Me.ctorIdx (t:Me):Nat:=by cases (t); exact 0; exact 1; exact 2; exact 3; exact 4; exact 5; exact 6; exact 7
inductive Tgt where
 | var (i:Nat)
 | tup (l:List Nat)
noncomputable def Tgt.ctorIdx (t:Tgt):Nat:=by cases (t); exact 0; exact 1
mutual
inductive E where
 | none
 | bool (b:Bool)
 | int (i:Int)
 | str (s:Str)
 | var (i:Nat)
 | glob (g:Nat)
 | bin (op:BOp) (m:Bool) (a b:E)
 | neg (a:E)
 | not (a:E)
 | bop (isAnd:Bool) (es:EL)
 | cmp (op:COp) (a b:E)
 | cmp2 (bp fK:COp) (a b c:E)
 | ite (c a b:E)
 | tup (es:EL)
 | list (m:Bool) (es:EL)
 | dict0
 | idx (a i:E)
 | slc (m:Bool) (a:E) (lo hi:EO)
 | comp (m:Bool) (t:Tgt) (it:It) (c:EO) (e:E)
 | call (f:Nat) (es:EL)
 | bi (b:Bi) (m:Bool) (es:EL)
 | meth (b:Me) (o:E) (es:EL)
 | freeze (e:E)
 | isx (k:Nat) (e:E)
inductive EL where
 | nil
 | cons (e:E) (es:EL)
inductive EO where
 | no
 | yes (e:E)
inductive It where
 | seq (e:E)
 | range (e:E)
 | range2 (a b:E)
 | enum (e:E)
end
noncomputable def E.ctorIdx (t:E):Nat:=by cases (t); exact 0; exact 1; exact 2; exact 3; exact 4; exact 5; exact 6; exact 7; exact 8; exact 9; exact 10; exact 11; exact 12; exact 13; exact 14; exact 15; exact 16; exact 17; exact 18; exact 19; exact 20; exact 21; exact 22; exact 23
noncomputable def EL.ctorIdx (t:EL):Nat:=by cases (t); exact 0; exact 1
noncomputable def EO.ctorIdx (t:EO):Nat:=by cases (t); exact 0; exact 1
noncomputable def It.ctorIdx (t:It):Nat:=by cases (t); exact 0; exact 1; exact 2; exact 3
inductive RT where
 | drop
 | var (i:Nat)
 | ret
 | retL
noncomputable def RT.ctorIdx (t:RT):Nat:=by cases (t); exact 0; exact 1; exact 2; exact 3
inductive Hk where
 | kind (i f:Nat)
 | none
 | tup (i f:Nat) (a:Bool)
noncomputable def Hk.ctorIdx (t:Hk):Nat:=by cases (t); exact 0; exact 1; exact 2
structure Hd where
 k:Nat
 h:Hk
mutual
inductive S where
 | expr (e:E)
 | asg (t:Tgt) (e:E)
 | asgT (l:List Nat) (e:E)
 | put (o i e:E)
 | ite (c:E) (a b:SL)
 | forr (t:Tgt) (it:It) (b:SL)
 | ret (e:E)
 | pass
 | stop
 | calls (t:RT) (f:Nat) (es:EL)
 | raise (k:Nat) (es:EL)
 | tryS (b:SL) (hs:List Hd)
inductive SL where
 | nil
 | cons (s:S) (r:SL)
end
noncomputable def S.ctorIdx (t:S):Nat:=by cases (t); exact 0; exact 1; exact 2; exact 3; exact 4; exact 5; exact 6; exact 7; exact 8; exact 9; exact 10; exact 11
noncomputable def SL.ctorIdx (t:SL):Nat:=by cases (t); exact 0; exact 1
noncomputable def jN (n:Nat) (i:Int):Nat:=(max 0 (min (if i < 0 then i+n else i) n)).toNat
noncomputable def ar {α:Type} (l:List α) (lo hi:Option Int):List α:=
 (l.drop ((lo.map (jN l.length)).getD 0)).take ((hi.map (jN l.length)).getD l.length - (lo.map (jN l.length)).getD 0)
noncomputable def index (n:Nat) (i:Int):Option Nat:=if 0<=i then (if i < n then some i.toNat else none) else (if 0<=i+n then some (i+n).toNat else none)
noncomputable def aI (x:Str):List Nat:=x.cps.toList
noncomputable def av (l:List Nat):Str:=⟨l.toArray⟩
noncomputable def LIM:Nat:=1000000
noncomputable def oc {α γ:Type} (o:Option α) (f:α->γ) (z:γ):γ:=match o with
 | some a=>f a
 | none=>z
noncomputable def b2 {α β γ:Type} (o:Option α) (p:Option β) (f:α->β->γ) (z:γ):γ:=oc o (λa=>oc p (λb=>f a b) z) z
variable {α γ:Type}
theorem dS (o:Option α) (f:α->γ) (z:γ):(∃ a,o=some a/\oc o f z=f a)\/oc o f z=z:=by
 cases o with
 | none=>exact .inr rfl
 | some a=>exact .inl ⟨a,rfl,rfl⟩
theorem lY {β:Type} (o:Option α) (p:Option β) (f:α->β->γ) (z:γ):(∃ a b,o=some a/\p=some b/\b2 o p f z=f a b)\/b2 o p f z=z:=by
 cases o with
 | none=>exact .inr rfl
 | some a=>cases p with
   | none=>exact .inr rfl
   | some b=>exact .inl ⟨a,b,rfl,rfl,rfl⟩
noncomputable def bx:V->Option PyData
 | .d x=>some x
 | _=>none
noncomputable def AA:PyData->Option Int
 | .int i=>some i
 | _=>none
noncomputable def BI:PyData->Option Str
 | .str i=>some i
 | _=>none
noncomputable def Hf:PyData->Option Bool
 | .bool i=>some i
 | _=>none
noncomputable def Bz:PyData->Option (List PyData)
 | .tuple i=>some i
 | _=>none
noncomputable def cq (v:V):Option Int:=(bx v).bind AA
noncomputable def jk (v:V):Option Str:=(bx v).bind BI
noncomputable def zC (v:V):Option Bool:=(bx v).bind Hf
noncomputable def ia (v:V):Option (List PyData):=(bx v).bind Bz
variable {v:V}
theorem b8 {x:PyData} (h:bx v=some x):v=.d x:=by cases v <;> first | (cases h; rfl) | cases h
theorem tR {v:PyData} {x:Int} (h:AA v=some x):v=.int x:=by cases v <;> first | (cases h; rfl) | cases h
theorem oa {v:PyData} {x:Str} (h:BI v=some x):v=.str x:=by cases v <;> first | (cases h; rfl) | cases h
theorem DR {v:PyData} {x:Bool} (h:Hf v=some x):v=.bool x:=by cases v <;> first | (cases h; rfl) | cases h
variable {x:List PyData}
theorem sY {v:PyData} (h:Bz v=some x):v=.tuple x:=by cases v <;> first | (cases h; rfl) | cases h
theorem dv {x:Int} (h:cq v=some x):v=.d (.int x):=by obtain ⟨y,h1,h2⟩:=NJ.mp h;rw [b8 h1,tR h2]
theorem dP {x:Str} (h:jk v=some x):v=.d (.str x):=by obtain ⟨y,h1,h2⟩:=NJ.mp h;rw [b8 h1,oa h2]
theorem qC {x:Bool} (h:zC v=some x):v=.d (.bool x):=by obtain ⟨y,h1,h2⟩:=NJ.mp h;rw [b8 h1,DR h2]
theorem dM (h:ia v=some x):v=.d (.tuple x):=by obtain ⟨y,h1,h2⟩:=NJ.mp h;rw [b8 h1,sY h2]
noncomputable def one {α:Type}:List α->Option α
 | [a]=>some a
 | _=>none
noncomputable def two {α:Type}:List α->Option (α×α)
 | [a,b]=>some (a,b)
 | _=>none
variable {a:α}
theorem da {l:List α} (h:one l=some a):l=[a]:=by
 cases l with
 | nil=>cases h
 | cons x l=>cases l with
   | nil=>cases h; rfl
   | cons _ _=>cases h
theorem iD {l:List α} {b:α} (h:two l=some (a,b)):l=[a,b]:=by
 cases l with
 | nil=>cases h
 | cons x l=>cases l with
   | nil=>cases h
   | cons y l=>cases l with
     | nil=>cases h; rfl
     | cons _ _=>cases h
noncomputable def FB:Cell->Option (List PyData)
 | .lst l=>some l
 | _=>none
noncomputable def Mq:Cell->Option (List (Str×PyData))
 | .dct l=>some l
 | _=>none
noncomputable def KZ:V->Option (Nat×List (Str×Nat))
 | .inst k l=>some (k,l)
 | _=>none
noncomputable def fi (σ:ac) (n:Nat):Option (List PyData):=σ[n]?.bind FB
noncomputable def d6 (σ:ac) (n:Nat):Option (List (Str×PyData)):=σ[n]?.bind Mq
variable {n:Nat} {σ:ac}
theorem fg {l:List PyData} (h:fi σ n=some l):σ[n]?=some (.lst l):=by obtain ⟨c,h1,h2⟩:=NJ.mp h;rw [h1];cases c <;> first | (cases h2; rfl) | cases h2
variable {l:List (Str×PyData)}
theorem gq (h:d6 σ n=some l):σ[n]?=some (.dct l):=by obtain ⟨c,h1,h2⟩:=NJ.mp h;rw [h1];cases c <;> first | (cases h2; rfl) | cases h2
theorem iq {l:List PyData} (h:σ[n]?=some (.lst l)):fi σ n=some l:=by unfold fi; rw [h]; rfl
theorem jM (h:σ[n]?=some (.dct l)):d6 σ n=some l:=by unfold d6; rw [h]; rfl
noncomputable def nK:V->Option Nat
 | .loc n=>some n
 | _=>none
theorem gB (h:nK v=some n):v=.loc n:=by cases v <;> first | (cases h; rfl) | cases h
noncomputable def pq:V->Option Unit
 | .d .none=>some ()
 | _=>none
variable {u:Unit}
set_option tactic.hygienic true in
theorem pp (h:pq v=some u):v=.d .none:=by
 cases v
 case d x=>cases x <;> first | rfl | cases h
 all_goals cases h
noncomputable def IU:PyData->Option (List PyData)
 | .list i=>some i
 | _=>none
theorem FA {v:PyData} (h:IU v=some x):v=.list x:=by cases v <;> first | (cases h; rfl) | cases h
noncomputable def aD (σ:ac):V->Option (List PyData)
 | .d x=>IU x
 | .loc n=>fi σ n
 | _=>none
noncomputable def fG (σ:ac):V->Option (List (Str×PyData))
 | .loc n=>d6 σ n
 | _=>none
noncomputable def LH (σ:ac):V->Option PyData
 | .d x=>some x
 | .loc n=>(fi σ n).map PyData.list
 | _=>none
noncomputable def aU (m:Bool) (l:List PyData) (σ:ac):Res V:=
 if m then .ok (.loc σ.length) (σ++[.lst l]) else .ok (.d (.list l)) σ
noncomputable def LY:PyData->Option Bool
 | .none=>some false
 | .bool b=>some b
 | .int i=>some (i != 0)
 | .str x=>some (x.cps.size != 0)
 | .list l=>some (!l.isEmpty)
 | .tuple l=>some (!l.isEmpty)
 | _=>none
noncomputable def truthy (σ:ac):V->Option Bool
 | .d x=>LY x
 | .loc n=>oc (fi σ n) (λl=>some (!l.isEmpty)) (oc (d6 σ n) (λl=>some (!l.isEmpty)) none)
 | _=>none
noncomputable def r9 (a b:Int):Bool:=decide (a.natAbs < 9223372036854775808)||decide (b.natAbs < 9223372036854775808)
noncomputable def dD (op:BOp) (m:Bool) (a b:V) (σ:ac):Res V:=match op with
 | .add=>b2 (cq a) (cq b) (λx y=>.ok (.d (.int (x+y))) σ)
   (b2 (jk a) (jk b) (λx y=>if x.cps.size+y.cps.size<=LIM then .ok (.d (.str (av (aI x++aI y)))) σ else .bad)
   (b2 (ia a) (ia b) (λx y=>if x.length+y.length<=LIM then .ok (.d (.tuple (x++y))) σ else .bad)
   (b2 (aD σ a) (aD σ b) (λx y=>if x.length+y.length<=LIM then aU m (x++y) σ else .bad) .bad)))
 | .sub=>b2 (cq a) (cq b) (λx y=>.ok (.d (.int (x - y))) σ) .bad
 | .mul=>b2 (cq a) (cq b) (λx y=>if r9 x y then .ok (.d (.int (x * y))) σ else .bad)
   (b2 (jk a) (cq b) (λx n=>if 0<=n/\n<=1000/\x.cps.size<=1000 then .ok (.d (.str (av (List.replicate n.toNat (aI x)).flatten))) σ else .bad) .bad)
 | .fdiv=>b2 (cq a) (cq b) (λx y=>if 0 < y/\y < 9223372036854775808 then .ok (.d (.int (x / y))) σ else .bad) .bad
 | .mod=>b2 (cq a) (cq b) (λx y=>if 0 < y then .ok (.d (.int (x % y))) σ else .bad) .bad
 | .pow _=>b2 (cq a) (cq b) (λx y=>if x=10/\y=20 then .ok (.d (.int 100000000000000000000)) σ else .bad) .bad
noncomputable def Jr (a b:PyData):Option Bool:=if min a.depth b.depth<=64 then some (a.eqv b) else none
noncomputable def ue (a b:List (Str×PyData)):Bool:=a.all λkv=>match b.lookup kv.1 with
 | some y=>kv.2.eqv y
 | none=>false
noncomputable def Dl:PyData->Bool
 | .none | .bool _ | .int _ | .str _=>true
 | _=>false
noncomputable def JW (σ:ac) (a b:V):Option Bool:=b2 (LH σ a) (LH σ b) Jr
 (b2 (fG σ a) (fG σ b) (λx y=>if (x.all λkv=>Dl kv.2)&&(y.all λkv=>Dl kv.2) then some (x.length==y.length&&ue x y) else none) none)
noncomputable def Fz:List PyData->List PyData->Option Bool
 | [],[]=>some false
 | [],_::_=>some true
 | _::_,[]=>some false
 | x::xs,y::ys=>b2 (AA x) (AA y) (λx y=>if x=y then Fz xs ys else some (decide (x < y))) none
noncomputable def y0:PyData->Bool
 | .none=>true
 | _=>false
noncomputable def vy (x:PyData) (l:List PyData):Option Bool:=if min (PyData.depthAll l) x.depth<=64 then some (l.any λy=>y.eqv x) else none
noncomputable def br.inV (a b:V) (σ:ac):Option Bool:=oc (bx a) (λx=>
 b2 (BI x) (jk b) (λx y=>if x.cps.size=1 then some ((aI y).any λc=>aI x==[c]) else none)
 (oc (ia b) (λl=>vy x l)
 (oc (aD σ b) (λl=>vy x l)
 (b2 (BI x) (fG σ b) (λk kvs=>some (kvs.lookup k).isSome) none)))) none
noncomputable def br (op:COp) (a b:V) (σ:ac):Option Bool:=match op with
 | .eq=>JW σ a b
 | .ne=>(JW σ a b).map (!·)
 | .lt=>b2 (cq a) (cq b) (λx y=>some (decide (x < y))) none
 | .le=>b2 (cq a) (cq b) (λx y=>some (decide (x<=y))) none
 | .gt=>b2 (cq a) (cq b) (λx y=>some (decide (x > y))) (b2 (ia a) (ia b) (λx y=>Fz y x) none)
 | .ge _=>b2 (cq a) (cq b) (λx y=>some (decide (x≥y))) none
 | .isN=>oc (pq b) (λ_=>oc (bx a) (λx=>some (y0 x)) (oc (nK a) (λ_=>some false) none)) none
 | .isNotN=>oc (pq b) (λ_=>oc (bx a) (λx=>some (!y0 x)) (oc (nK a) (λ_=>some true) none)) none
 | .isIn=>br.inV a b σ
 | .notIn=>(br.inV a b σ).map (!·)
noncomputable def G1:V->Option (List Nat)
 | .locs l=>some l
 | _=>none
theorem CD {l:List Nat} (h:G1 v=some l):v=.locs l:=by cases v <;> first | (cases h; rfl) | cases h
noncomputable def df (a i:V) (σ:ac):Option V:=oc (cq i) (λi=>
 oc (ia a) (λl=>(index l.length i).bind λk=>(l[k]?).map V.d)
 (oc (jk a) (λx=>(index (aI x).length i).bind λk=>((aI x)[k]?).map λc=>V.d (.str (av [c])))
 (oc (G1 a) (λl=>if 0<=i then (l[i.toNat]?).map V.loc else none)
 (oc (aD σ a) (λl=>if 0<=i then (l[i.toNat]?).map V.d else none) none))))
 (b2 (jk i) (fG σ a) (λk kvs=>(kvs.lookup k).map V.d) none)
noncomputable def co:Option V->Option (Option Int)
 | none=>some none
 | some (.d (.int i))=>some (some i)
 | some _=>none
noncomputable def gU (m:Bool) (a:V) (lo hi:Option V) (σ:ac):Res V:=b2 (co lo) (co hi) (λl h=>oc (ia a) (λx=>.ok (.d (.tuple (ar x l h))) σ)
 (oc (jk a) (λx=>.ok (.d (.str (av (ar (aI x) l h)))) σ) (oc (aD σ a) (λx=>aU m (ar x l h) σ) .bad))) .bad
noncomputable def d9 (k:Str) (v:PyData) (kvs:List (Str×PyData)):List (Str×PyData):=
 if kvs.any (λx=>decide (x.1=k)) then kvs.map λx=>if x.1=k then (x.1,v) else x else kvs++[(k,v)]
noncomputable def dR (kvs more:List (Str×PyData)):List (Str×PyData):=more.foldl (λacc x=>d9 x.1 x.2 acc) kvs
noncomputable def lx (x y:Str):Bool:=decide (aI x < aI y)
noncomputable def iV (x:Str):List Str->List Str
 | []=>[x]
 | y::r=>if lx y x then y::iV x r else x::y::r
noncomputable def cV:List Str->List Str
 | []=>[]
 | x::r=>iV x (cV r)
noncomputable def cH:List Str->List Str
 | []=>[]
 | x::r=>if x∈r then cH r else x::cH r
noncomputable def fY:List PyData->Option (List Str)
 | []=>some []
 | .str x::r=>(fY r).map (x::·)
 | _=>none
noncomputable def d7:List PyData->Option (List Bool)
 | []=>some []
 | .bool x::r=>(d7 r).map (x::·)
 | _=>none
noncomputable def mf:Ty->Ty->Bool
 | .list,.list=>true
 | .int,.int=>true
 | .bool,.bool=>true
 | .str,.str=>true
 | .tuple,.tuple=>true
 | _,_=>false
noncomputable def Nh (t:Ty):PyData->Option Bool
 | .bool _=>if mf t .bool then some true else none
 | .int _=>if mf t .list then none else some (mf t .int)
 | .str _=>if mf t .str||mf t .tuple then some (mf t .str) else none
 | .list _=>if mf t .list then some true else none
 | .tuple _=>if mf t .tuple||mf t .str then some (mf t .tuple) else none
 | .none=>if mf t .tuple||mf t .str then some false else none
 | _=>none
noncomputable def MU (t:Ty) (σ:ac):V->Option Bool
 | .d x=>Nh t x
 | .loc n=>if mf t .list then (fi σ n).map λ_=>true else none
 | _=>none
noncomputable def zE (b:Bi) (m:Bool) (vs:List V) (σ:ac):Res V:=match b with
 | .len=>oc (one vs) (λa=>oc (ia a) (λl=>.ok (.d (.int l.length)) σ) (oc (jk a) (λx=>.ok (.d (.int (aI x).length)) σ) (oc (aD σ a) (λl=>.ok (.d (.int l.length)) σ) .bad))) .bad
 | .list=>oc (one vs) (λa=>oc (ia a) (λl=>aU m l σ) (oc (aD σ a) (λl=>aU m l σ) (oc (fG σ a) (λkvs=>aU m (kvs.map λx=>.str x.1) σ) .bad))) .bad
 | .dict=>.bad
 | .int=>oc (one vs) (λa=>oc (zC a) (λb=>.ok (.d (.int (if b then 1 else 0))) σ) .bad) .bad
 | .max=>.bad
 | .tuple=>oc (one vs) (λa=>oc (aD σ a) (λl=>.ok (.d (.tuple l)) σ) .bad) .bad
 | .sorted=>oc (one vs) (λa=>oc ((aD σ a).bind fY) (λl=>if l.length < 64 then aU m ((cV l).map .str) σ else .bad) .bad) .bad
 | .any=>oc (one vs) (λa=>oc ((aD σ a).bind d7) (λl=>.ok (.d (.bool (l.any id))) σ) .bad) .bad
 | .all=>.bad
 | .sortedSet=>oc (one vs) (λa=>oc ((aD σ a).bind fY) (λl=>if l.length < 2000/\(cH l).length < 64 then aU m ((cV (cH l)).map .str) σ else .bad) .bad) .bad
 | .isinst t=>oc (one vs) (λa=>oc (MU t σ a) (λb=>.ok (.d (.bool b)) σ) .bad) .bad
noncomputable def Em (b:Me) (o:V) (vs:List V) (σ:ac):Res V:=match b with
 | .append=>oc (one vs) (λa=>b2 (nK o) (bx a) (λn x=>oc (fi σ n) (λl=>if l.length < LIM then .ok (.d .none) (σ.set n (.lst (l++[x]))) else .bad) .bad) .bad) .bad
 | .extend=>oc (one vs) (λb=>oc (nK o) (λn=>b2 (fi σ n) (aD σ b) (λl y=>if l.length+y.length<=LIM then .ok (.d .none) (σ.set n (.lst (l++y))) else .bad) .bad) .bad) .bad
 | .pop=>oc (two vs) (λp=>b2 (nK o) (pq p.2) (λn _=>oc (d6 σ n) (λkvs=>oc (jk p.1) (λk=>.ok (.d ((kvs.lookup k).getD .none)) (σ.set n (.dct (kvs.filter λx=>!decide (x.1=k))))) (oc (pq p.1) (λ_=>.ok (.d .none) σ) .bad)) .bad) .bad) .bad
 | .count=>oc (one vs) (λa=>b2 (zC a) ((aD σ o).bind d7) (λx l=>.ok (.d (.int (l.count x:Nat))) σ) .bad) .bad
 | .index=>oc (one vs) (λa=>b2 (zC a) ((aD σ o).bind d7) (λx l=>if l.idxOf x < l.length then .ok (.d (.int (l.idxOf x:Nat))) σ else .bad) (b2 (jk a) ((aD σ o).bind fY) (λx l=>if l.idxOf x < l.length then .ok (.d (.int (l.idxOf x:Nat))) σ else .bad) .bad)) .bad
 | .update=>oc (one vs) (λb=>b2 (nK o) (nK b) (λn k=>if n≠k then b2 (d6 σ n) (d6 σ k) (λx y=>if x.length+y.length<=LIM then .ok (.d .none) (σ.set n (.dct (dR x y))) else .bad) .bad else .bad) .bad) .bad
 | _=>.bad
noncomputable def qZ (b:Me) (σ:ac) (o:V):Bool:=match b with
 | .get | .update | .pop=>(fG σ o).isSome
 | _=>(aD σ o).isSome
noncomputable def Jm (v:V) (σ:ac):Res V:=oc (nK v) (λn=>oc (fi σ n) (λl=>.ok (.d (.list l)) (σ.set n .gone)) .bad) .bad
noncomputable def zs (m:Bool) (vs:List V) (σ:ac):Res V:=
 match vs.mapM bx with
 | some l=>aU m l σ
 | none=>match vs.mapM (λv=>match v with | .loc n=>some n | _=>none) with
   | some ns=>if m then .bad else .ok (.locs ns) σ
   | none=>.bad
noncomputable def wc (vs:List V) (σ:ac):Res V:=match vs.mapM bx with
 | some l=>.ok (.d (.tuple l)) σ
 | none=>.bad
noncomputable def bv:List Nat->List PyData->Fm->Fm
 | i::l,x::ds,ρ=>bv l ds (ρ.set i (.d x))
 | _,_,ρ=>ρ
noncomputable def eu (t:Tgt) (x:PyData) (ρ:Fm):Option Fm:=match t with
 | .var i=>some (ρ.set i (.d x))
 | .tup is=>oc (Bz x) (λl=>if is.length=l.length then some (bv is l ρ) else none) none
noncomputable def DV (t:Tgt) (v:V) (ρ:Fm):Option Fm:=match t,v with
 | .var i,v=>some (ρ.set i v)
 | .tup is,.d x=>eu (.tup is) x ρ
 | _,_=>none
noncomputable def bD (a b:Int):List PyData:=(List.range (b - a).toNat).map λ(k:Nat)=>.int (a+(k:Int))
noncomputable def jj (l:List PyData):List PyData:=l.zipIdx.map λp=>.tuple [.int p.2,p.1]
noncomputable def rX (v:V) (σ:ac):Option (List PyData×Option Nat):=match v with
 | .d x=>oc (Bz x) (λl=>some (l,none)) (oc (IU x) (λl=>some (l,none)) (oc (BI x) (λx=>some ((aI x).map λc=>.str (av [c]),none)) none))
 | .loc n=>(fi σ n).map λl=>(l,some n)
 | _=>none
noncomputable def cG (lk:Option Nat) (σ:ac):ac:=match lk with
 | some n=>σ.set n .busy
 | none=>σ
noncomputable def bc (lk:Option Nat) (l:List PyData) (σ:ac):ac:=match lk with
 | some n=>σ.set n (.lst l)
 | none=>σ
noncomputable def gI (f:PyData->ac->Res (Option PyData)):List PyData->ac->Res (List PyData)
 | [],σ=>.ok [] σ
 | x::xs,σ=>(f x σ).bind λo aa=>(gI f xs aa).bind λr af=>.ok (o.toList++r) af
inductive Out where
 | next (ρ:Fm)
 | ret (v:V)
 | exc (k:Nat) (ds:List PyData)
noncomputable def Out.ctorIdx (t:Out):Nat:=by cases (t); exact 0; exact 1; exact 2
noncomputable def aZ (f:PyData->Fm->ac->Res Out):List PyData->Fm->ac->Res Out
 | [],ρ,σ=>.ok (.next ρ) σ
 | x::xs,ρ,σ=>(f x ρ σ).bind λo aa=>match o with
   | .next bA=>aZ f xs bA aa
   | .ret v=>.ok (.ret v) aa
   | .exc k ds=>.ok (.exc k ds) aa
noncomputable def lP (n:Nat) (v:V) (σ:ac):Res V:=match v with
 | .d x=>.ok (.d x) (σ.take n)
 | .loc k=>if k < n then .ok (.loc k) (σ.take n) else match σ[k]? with
   | some (.lst l)=>.ok (.loc n) (σ.take n++[.lst l])
   | some (.dct l)=>.ok (.loc n) (σ.take n++[.dct l])
   | _=>.bad
 | _=>.bad
noncomputable def nz (n:Nat) (o:Out) (σ:ac):Res V:=match o with
 | .ret v=>lP n v σ
 | .next _=>lP n (.d .none) σ
 | .exc k ds=>.ok (.exc k ds) (σ.take n)
noncomputable def nQ:V->Option (Nat×List PyData)
 | .exc k ds=>some (k,ds)
 | _=>none
noncomputable def iJ (v:V) (σ:ac):Res V:=match nQ v with
 | some _=>.bad
 | none=>.ok v σ
noncomputable def I4 (k:Nat) (v:V) (σ:ac):Res V:=oc (nQ v) (λx=>.ok (.d (.bool (k==x.1||k==0||k==7))) σ) .bad
noncomputable def MW (t:RT) (v:V) (ρ:Fm) (σ:ac):Res Out:=match t with
 | .drop=>.ok (.next ρ) σ
 | .var i=>.ok (.next (ρ.set i v)) σ
 | .ret=>.ok (.ret v) σ
 | .retL=>oc (bx v) (λx=>.ok (.ret (.d (.list [x]))) σ) .bad
noncomputable def je (t:RT) (v:V) (ρ:Fm) (σ:ac):Res Out:=match nQ v with
 | some x=>.ok (.exc x.1 x.2) σ
 | none=>MW t v ρ σ
noncomputable def LT (k:Nat) (vs:List V) (σ:ac):Res Out:=if 1<=k/\k<=5 then .ok (.exc k []) σ else
 if k=6 then oc (two vs) (λp=>b2 (bx p.1) (bx p.2) (λx y=>.ok (.exc 6 [x,y]) σ) .bad) .bad else .bad
noncomputable def oo (cf:Nat->List V->ac->Res V) (h:Hk) (k:Nat) (ds:List PyData) (σ:ac):Res Out:=match h with
   | .kind _ f=>(cf f [.exc k ds] σ).bind λv aa=>(iJ v aa).bind λv aa=>.ok (.ret v) aa
   | .none=>.ok (.ret (.d .none)) σ
   | .tup _ f a=>(cf f [.exc k ds] σ).bind λv aa=>oc (bx v) (λx=>if a=true->k=6 then .ok (.ret (.d (.tuple (x::if a then ds else [])))) aa else .bad) .bad
noncomputable def mz (cf:Nat->List V->ac->Res V):List Hd->Nat->List PyData->ac->Res Out
 | [],_,_,_=>.bad
 | h::hs,k,ds,σ=>if h.k=k\/h.k=0 then oo cf h.h k ds σ else mz cf hs k ds σ
structure Items where
 shown:List PyData
 base:List PyData
 lk:Option Nat
section
variable (G:Nat->Option PyData) (cf:Nat->List V->ac->Res V)
mutual
noncomputable def ag:E->Fm->ac->Res V
 | .none=>λ_ σ=>.ok (.d .none) σ
 | .bool b=>λ_ σ=>.ok (.d (.bool b)) σ
 | .int i=>λ_ σ=>.ok (.d (.int i)) σ
 | .str x=>λ_ σ=>.ok (.d (.str x)) σ
 | .var i=>λρ σ=>match ρ[i]? with
   | some .un=>.bad
   | some v=>.ok v σ
   | none=>.bad
 | .glob g=>λ_ σ=>bg ((G g).map V.d) σ
 | .bin op m a b=>λρ σ=>(ag a ρ σ).bind λx aa=>(ag b ρ aa).bind λy af=>dD op m x y af
 | .neg a=>λρ σ=>(ag a ρ σ).bind λx aa=>oc (cq x) (λi=>.ok (.d (.int (-i))) aa) .bad
 | .not a=>λρ σ=>(ag a ρ σ).bind λx aa=>bg ((truthy aa x).map λb=>V.d (.bool (!b))) aa
 | .bop k es=>λρ σ=>gG k es ρ σ
 | .cmp op a b=>λρ σ=>(ag a ρ σ).bind λx aa=>(ag b ρ aa).bind λy af=>bg ((br op x y af).map λb=>V.d (.bool b)) af
 | .cmp2 bp fK a b c=>λρ σ=>(ag a ρ σ).bind λx aa=>(ag b ρ aa).bind λy af=>(bg (br bp x y af) af).bind λt af=>if t then (ag c ρ af).bind λz au=>bg ((br fK y z au).map λb=>V.d (.bool b)) au else .ok (.d (.bool false)) af
 | .ite c a b=>λρ σ=>(ag c ρ σ).bind λx aa=>(bg (truthy aa x) aa).bind λt aa=>if t then ag a ρ aa else ag b ρ aa
 | .tup es=>λρ σ=>(aW es ρ σ).bind λvs aa=>wc vs aa
 | .list m es=>λρ σ=>(aW es ρ σ).bind λvs aa=>zs m vs aa
 | .dict0=>λ_ σ=>.ok (.loc σ.length) (σ++[.dct []])
 | .idx a i=>λρ σ=>(ag a ρ σ).bind λx aa=>(ag i ρ aa).bind λy af=>bg (df x y af) af
 | .slc m a lo hi=>λρ σ=>(ag a ρ σ).bind λx aa=>(dg lo ρ aa).bind λl af=>(dg hi ρ af).bind λh au=>gU m x l h au
 | .comp m t it c e=>λρ σ=>(bX it ρ σ).bind λI aa=>
     (gI (λx σ'=>match eu t x ρ with
       | none=>.bad
       | some ρ'=>(dg c ρ' σ').bind λcv af=>match cv with
         | none=>(ag e ρ' af).bind λy au=>bg ((bx y).map some) au
         | some cv=>(bg (truthy af cv) af).bind λb af=>if b then (ag e ρ' af).bind λy au=>bg ((bx y).map some) au else .ok none af) I.shown (cG I.lk aa++[.busy])).bind λr af=>
     aU m r ((bc I.lk I.base af).take aa.length)
 | .call f es=>λρ σ=>(aW es ρ σ).bind λvs aa=>(cf f vs aa).bind iJ
 | .bi b m es=>λρ σ=>(aW es ρ σ).bind λvs aa=>zE b m vs aa
 | .meth b o es=>λρ σ=>(ag o ρ σ).bind λx aa=>if qZ b aa x then (aW es ρ aa).bind λvs af=>Em b x vs af else .bad
 | .freeze e=>λρ σ=>(ag e ρ σ).bind λx aa=>Jm x aa
 | .isx k e=>λρ σ=>(ag e ρ σ).bind λx aa=>I4 k x aa
noncomputable def aW:EL->Fm->ac->Res (List V)
 | .nil=>λ_ σ=>.ok [] σ
 | .cons e es=>λρ σ=>(ag e ρ σ).bind λx aa=>(aW es ρ aa).bind λxs af=>.ok (x::xs) af
noncomputable def gG (k:Bool):EL->Fm->ac->Res V
 | .nil=>λ_ _=>.bad
 | .cons e es=>λρ σ=>match es with
   | .nil=>ag e ρ σ
   | es=>(ag e ρ σ).bind λx aa=>(bg (truthy aa x) aa).bind λt aa=>if t=k then gG k es ρ aa else .ok x aa
noncomputable def dg:EO->Fm->ac->Res (Option V)
 | .no=>λ_ σ=>.ok none σ
 | .yes e=>λρ σ=>(ag e ρ σ).bind λx aa=>.ok (some x) aa
noncomputable def bX:It->Fm->ac->Res Items
 | .seq e=>λρ σ=>(ag e ρ σ).bind λx aa=>bg ((rX x aa).map λp=>⟨p.1,p.1,p.2⟩) aa
 | .enum e=>λρ σ=>(ag e ρ σ).bind λx aa=>oc (ia x) (λl=>.ok ⟨jj l,[],none⟩ aa) .bad
 | .range e=>λρ σ=>(ag e ρ σ).bind λx aa=>oc (cq x) (λb=>if -100000<=b/\b<=100000 then .ok ⟨bD 0 b,[],none⟩ aa else .bad) .bad
 | .range2 a b=>λρ σ=>(ag a ρ σ).bind λx aa=>(ag b ρ aa).bind λy af=>b2 (cq x) (cq y) (λa b=>if (-100000<=a/\a<=100000)/\(-100000<=b/\b<=100000) then .ok ⟨bD a b,[],none⟩ af else .bad) .bad
end
mutual
noncomputable def exec:S->Fm->ac->Res Out
 | .expr e=>λρ σ=>(ag G cf e ρ σ).bind λ_ aa=>.ok (.next ρ) aa
 | .asg t e=>λρ σ=>(ag G cf e ρ σ).bind λx aa=>bg ((DV t x ρ).map Out.next) aa
 | .asgT l e=>λρ σ=>(ag G cf e ρ σ).bind λx aa=>oc (ia x) (λds=>if l.length=ds.length then .ok (.next (bv l ds ρ)) aa else .bad) .bad
 | .put o i e=>λρ σ=>(ag G cf e ρ σ).bind λx aa=>(ag G cf o ρ aa).bind λa af=>(ag G cf i ρ af).bind λk au=>oc (bx x) (λx=>b2 (nK a) (jk k) (λn k=>oc (d6 au n) (λl=>if l.length < LIM then .ok (.next ρ) (au.set n (.dct (d9 k x l))) else .bad) .bad) .bad) .bad
 | .ite c a b=>λρ σ=>(ag G cf c ρ σ).bind λx aa=>(bg (truthy aa x) aa).bind λt aa=>if t then execs a ρ aa else execs b ρ aa
 | .forr t it b=>λρ σ=>(bX G cf it ρ σ).bind λI aa=>
     (aZ (λx ρ' σ'=>match eu t x ρ' with
       | none=>.bad
       | some ρ''=>execs b ρ'' σ') I.shown ρ (cG I.lk aa)).bind λo af=>.ok o (bc I.lk I.base af)
 | .ret e=>λρ σ=>(ag G cf e ρ σ).bind λx aa=>.ok (.ret x) aa
 | .pass=>λρ σ=>.ok (.next ρ) σ
 | .stop=>λ_ _=>.bad
 | .calls t f es=>λρ σ=>(aW G cf es ρ σ).bind λvs aa=>(cf f vs aa).bind λv af=>je t v ρ af
 | .raise k es=>λρ σ=>(aW G cf es ρ σ).bind λvs aa=>LT k vs aa
 | .tryS b hs=>λρ σ=>(execs b ρ σ).bind λo aa=>match o with
   | .exc k ds=>mz cf hs k ds aa
   | o=>.ok o aa
noncomputable def execs:SL->Fm->ac->Res Out
 | .nil=>λρ σ=>.ok (.next ρ) σ
 | .cons s r=>λρ σ=>(exec s ρ σ).bind λo aa=>match o with
   | .next bA=>execs r bA aa
   | .ret v=>.ok (.ret v) aa
   | .exc k ds=>.ok (.exc k ds) aa
end
end
structure Fn where
 name:Str
 np:Nat
 slots:List (Str×Nat)
 ns:Nat
 body:SL
 /-- a method of the class Runner -/
 meth:Bool:=false
 /-- its __init__ (body: what stands between the two attributes) -/
 ctor:Bool:=false
structure Prog where
 G:Nat->Option PyData
 P:Nat->Option Fn
noncomputable def Ly (n:Nat) (o:Out) (σ:ac):Res V:=match o with
 | .next ρ=>oc (ρ[0]?.bind KZ) (λp=>if p.1=n/\p.2=[(jg,n+2)] then .ok (.inst n [(jg,n+2),(Hn,σ.length)]) (σ++[.lst []]) else .bad) .bad
 | _=>.bad
noncomputable def zv (p:Prog) (d:Nat) (fn:Fn) (args:List V) (σ:ac):Res V:=if args.length+1=fn.np/\2<=d/\(args.all λv=>(bx v).isSome)=true then
   (execs p.G (λ_ _ _=>.bad) fn.body ((.inst σ.length [(jg,σ.length+2)]::args)++List.replicate (fn.ns - fn.np) .un) (σ++[.gone,.gone,.dct []])).bind λo aa=>Ly σ.length o aa
 else .bad
noncomputable def ae (p:Prog):Nat->Nat->List V->ac->Res V
 | 0,_,_,_=>.bad
 | d+1,f,args,σ=>match p.P f with
   | none=>.bad
   | some fn=>if fn.ctor then zv p d fn args σ else if args.length=fn.np then
       (execs p.G (ae p d) fn.body (args++List.replicate (fn.ns - fn.np) .un) σ).bind λo aa=>nz σ.length o aa
     else .bad
inductive X2 {ta tb:Type} (P:ta->tb->Prop):Prop where
 | mk (a:ta) (b:tb) (h:P a b):X2 P
inductive X3 {ta tb tc:Type} (P:ta->tb->tc->Prop):Prop where
 | mk (a:ta) (b:tb) (c:tc) (h:P a b c):X3 P
inductive X4 {ta tb tc td:Type} (P:ta->tb->tc->td->Prop):Prop where
 | mk (a:ta) (b:tb) (c:tc) (d:td) (h:P a b c d):X4 P
inductive X5 {ta tb tc td te:Type} (P:ta->tb->tc->td->te->Prop):Prop where
 | mk (a:ta) (b:tb) (c:tc) (d:td) (e:te) (h:P a b c d e):X5 P
inductive X6 {ta tb tc td te tf:Type} (P:ta->tb->tc->td->te->tf->Prop):Prop where
 | mk (a:ta) (b:tb) (c:tc) (d:td) (e:te) (f:tf) (h:P a b c d e f):X6 P
inductive X7 {ta tb tc td te tf tg:Type} (P:ta->tb->tc->td->te->tf->tg->Prop):Prop where
 | mk (a:ta) (b:tb) (c:tc) (d:td) (e:te) (f:tf) (g:tg) (h:P a b c d e f g):X7 P
inductive X8 {ta tb tc td te tf tg th:Type} (P:ta->tb->tc->td->te->tf->tg->th->Prop):Prop where
 | mk (a:ta) (b:tb) (c:tc) (d:td) (e:te) (f:tf) (g:tg) (h:th) (h:P a b c d e f g h):X8 P
inductive X9 {ta tb tc td te tf tg th ti:Type} (P:ta->tb->tc->td->te->tf->tg->th->ti->Prop):Prop where
 | mk (a:ta) (b:tb) (c:tc) (d:td) (e:te) (f:tf) (g:tg) (h:th) (i:ti) (h:P a b c d e f g h i):X9 P
inductive A3 (pa pb pc:Prop):Prop where
 | mk (a:pa) (b:pb) (c:pc):A3 pa pb pc
inductive A4 (pa pb pc pd:Prop):Prop where
 | mk (a:pa) (b:pb) (c:pc) (d:pd):A4 pa pb pc pd
inductive A5 (pa pb pc pd pe:Prop):Prop where
 | mk (a:pa) (b:pb) (c:pc) (d:pd) (e:pe):A5 pa pb pc pd pe
inductive A6 (pa pb pc pd pe pf:Prop):Prop where
 | mk (a:pa) (b:pb) (c:pc) (d:pd) (e:pe) (f:pf):A6 pa pb pc pd pe pf
inductive A7 (pa pb pc pd pe pf pg:Prop):Prop where
 | mk (a:pa) (b:pb) (c:pc) (d:pd) (e:pe) (f:pf) (g:pg):A7 pa pb pc pd pe pf pg
inductive A8 (pa pb pc pd pe pf pg ph:Prop):Prop where
 | mk (a:pa) (b:pb) (c:pc) (d:pd) (e:pe) (f:pf) (g:pg) (h:ph):A8 pa pb pc pd pe pf pg ph
inductive A9 (pa pb pc pd pe pf pg ph pi:Prop):Prop where
 | mk (a:pa) (b:pb) (c:pc) (d:pd) (e:pe) (f:pf) (g:pg) (h:ph) (i:pi):A9 pa pb pc pd pe pf pg ph pi
theorem iY {β:Type} {v:β} {f:α->β} {P:β->Prop} (h:∃ p,v=f p) (k:∀ p,P (f p)):P v:=by obtain ⟨p,e⟩:=h; exact e ▸ k p
theorem Ep {β:Type} {v:β} {f:α->γ->β} {P:β->Prop} (h:X2 λp q=>v=f p q) (k:∀ p q,P (f p q)):P v:=by obtain ⟨p,q,e⟩:=h; exact e ▸ k p q
theorem xT {β:Type} {v:β} {f:α->β} {Q:α->Prop} {P:β->Prop} (h:∃ p,v=f p/\Q p) (k:∀ p,Q p->P (f p)):P v:=by obtain ⟨p,e,q⟩:=h; exact e ▸ k p q
theorem Lu {β:Type} {v:β} {f:α->β} {Q:α->Prop} {P:β->Prop} (h:∃ p,Q p/\v=f p) (k:∀ p,Q p->P (f p)):P v:=by obtain ⟨p,q,e⟩:=h; exact e ▸ k p q
theorem zo {β:Type} {v w:β} {P:β->Prop} (h:v=w) (k:P w):P v:=h ▸ k
variable {G:Prop}
theorem kk (h:∀ K:Prop,(G->K)->K):G:=h G id
open PySem.Calls
noncomputable def ob {α:Type} (o:Option α) (f:α->Bool):Bool:=match o with
 | some a=>f a
 | none=>false
noncomputable def cy {α:Type} (n m:Nat) (k:n=m->α):Option α:=if h:n=m then some (k h) else none
noncomputable def fk (ex:Expr):Option (Str):=cy ex.ctorIdx 23 λe=>Expr.Name.elim (motive_1:=λ_=>Str) ex e λa0 _=>a0
noncomputable def zk (ex:Expr):Option (Expr×Str×Pos):=cy ex.ctorIdx 20 λe=>Expr.Attribute.elim (motive_1:=λ_=>Expr×Str×Pos) ex e λa0 a1 a2=>(a0,a1,a2)
noncomputable def bP (x:Str):Bool:=!(x==("__debug__":Str))&&!(x==("__classdict__":Str))
noncomputable def kS:Nat->Str
 | 0=>"TurnError"
 | 1=>"NoPlace"
 | 2=>"NoName"
 | 3=>"Taken"
 | 4=>"NoCall"
 | 5=>"Unlike"
 | 6=>"Clash"
 | _=>"ValueError"
noncomputable abbrev eY:List Value:=[.type "ValueError",.type "Exception",.type "BaseException",.type "object"]
noncomputable def cL (k:Nat):List Value:=if k=0 then eY else .ref (KA 0)::eY
noncomputable def c7:List Str:=["__getattribute__","__getattr__","__class__","__setattr__",jf,cS]
noncomputable def wZ (ex:Stmt):Option (List Expr×Expr):=cy ex.ctorIdx 5 λe=>Stmt.Assign.elim (motive_2:=λ_=>List Expr×Expr) ex e λa0 a1 _=>(a0,a1)
noncomputable def jx (a:Arguments):Bool:=a.posonlyargs.isEmpty&&a.vararg.isNone&&a.kwonlyargs.isEmpty&&a.kw_defaults.isEmpty&&a.kwarg.isNone&&a.defaults.isEmpty
noncomputable def G0 (n x:Str) (v:Expr):Bool:=ob (zk v) λq=>ob (fk q.1) λn'=>decide (n'=n)&&decide (q.2.1=x)
noncomputable def Cw (p f n:Str) (st:Stmt):Bool:=ob (wZ st) λq=>ob (one q.1) λt=>G0 p f t&&ob (fk q.2) λm=>decide (m=n)
noncomputable def C2:FuncBody->Option (List Stmt)
 | .stmts b=>some b
 | _=>none
noncomputable def BC:List Str->Option (Str×Str×Str)
 | [a,b,c]=>some (a,b,c)
 | _=>none
noncomputable def M6 (fd:FuncData) (p0 p1 p2:Str) (b:List Stmt):Bool:=ob (two b) λq=>Cw p0 jf p1 q.1&&Cw p0 cS p2 q.2
noncomputable def Nt (fd:FuncData) (p0 p1 p2:Str):Bool:=([p0,p1,p2].all λp=>decide (fd.scope.names.lookup p=some .local)&&bP p)&&decide (p1≠p0/\p2≠p0/\p2≠p1)
noncomputable def Nr (h:Heap) (fd:FuncData):Bool:=decide (fd.globals=mainGlobals)&&(fd.closure.isEmpty&&(decide (fd.defaults=.none)&&(decide (fd.kwdefaults=.none)&&(fd.annotations.isNone&&(decide (fd.closureTuple=.none)&&(decide (fd.builtins=builtinsNs)&&(h.codeRecOk fd.code fd.qualname&&(decide (fd.scope.kind=.function)&&(!fd.scope.isCoroutine&&!fd.scope.isGenerator)))))))))
noncomputable def M5 (h:Heap) (fd:FuncData):Bool:=jx fd.params&&(Nr h fd&&(ob (C2 fd.body) λb=>ob (BC (fd.params.args.map (·.arg))) λp=>M6 fd p.1 p.2.1 p.2.2 b&&Nt fd p.1 p.2.1 p.2.2))
noncomputable def I8 (h:Heap) (ns:Addr):Bool:=match h.fnAt ns "__init__" with
 | some (_,o,fd)=>decide (o.cls=.type "function")&&M5 h fd
 | none=>false
noncomputable def GE (h:Heap) (k:Nat):Bool:=match h.clsAt mainGlobals (kS k) with
 | some (a,o,cd)=>decide (a=KA k)&&o.cls==.type "type"&&cd.mro==.ref (KA k)::cL k&&!cd.hasDel&&o.slots.size==6&&o.slots[4]?==some (some (.builtin "ValueError.__new__"))&&h.isNs cd.ns&&c7.all (λn=>(h.nsMap cd.ns n).isNone)&&(decide (k=6)||(h.nsMap cd.ns "__init__").isNone)&&(!decide (k=6)||(cd.hasDict&&I8 h cd.ns))
 | none=>false
noncomputable def xChk (h:Heap):Bool:=(List.range 7).all (GE h)
set_option maxRecDepth 100000
open PySem.W PyProof.Rows
noncomputable def Ik (p:Program) (w:World) (N:Nat) (cU:Shared):Option Shared:=
 cond (cU.heap.isNs mainGlobals&&cU.gens.size==0) ((Fast.tw14082659384304107361 Fast.tw14364793385576792824 p w cU.heap.objs.size (cU.heap.nsMap mainGlobals "__annotations__") N cU (topStub p)).bind λai=>cond (staticsOk (importedModules p.main.body) cU.heap ai.heap&&namesBound p ai.heap&&gensDone ai&&laidKept cU.heap ai.heap) (some ai) none) none
noncomputable def GQ (p:Program) (w:World) (N:Nat):Option Shared:=
 ((Fast.tw10274390034422433532 Fast.tw14364793385576792824 (opening p) w N (Fast.tw1435165496053646825 (opening p)).1 (Fast.tw1435165496053646825 (opening p)).2).bind (Fast.tw14289696077712309145 p)).bind (Ik p w N)
theorem E7 (p:Program) (w:World) (N:Nat):topFrom treeTable p w N=Ik p w N:=by
 funext s;unfold topFrom Ik;rw [Fast.te14082659384304107361,Fast.te14364793385576792824];cases (s.heap.isNs mainGlobals&&s.gens.size==0) with
 | false=>rfl
 | true=>refine congrArg (Option.bind _) (funext λai=>?_);cases (staticsOk (importedModules p.main.body) s.heap ai.heap&&namesBound p ai.heap&&gensDone ai&&laidKept s.heap ai.heap) <;> rfl
theorem B3 (p:Program) (w:World) (N:Nat):openEnds treeTable p w N=GQ p w N:=by unfold openEnds GQ fencedOpening;rw [E7,Fast.te14289696077712309145,Fast.te10274390034422433532,Fast.te1435165496053646825,Fast.te14364793385576792824]
noncomputable def q09:Program:=PySem.W.view PySem.Challenge.pw_uf010014_09 [1,2,3,4,5,6,7,9,10,12,13,14,15,16,17,18,19,21,22,23,24,25,27,28,29,30,31,32,33,34,35,36,38,39,40,41,42,43,44,45,46,47,48,49,50,51,52,53,54,55,56,57,58,59,60,61,62,63,64,65,66,67,68,69,70,71,72,73,74]
theorem said09:OpenLaw.wellSaid PySem.Challenge.rw_uf010014_09=true:=by kernel_rfl
theorem left09:LeftO PySem.Challenge.pw_uf010014_09 q09 [] (λs=>(xlAt q09 [] s&&recOk (RowW.records (OpenRow.toRowW (OpenLaw.row PySem.Challenge.rw_uf010014_09))) s)&&xChk s.heap) (Hook.obs Hook.none) (Hook.val Hook.none) 6000:=λw=>by
 rw [B3,Fast.te4187177175401517315]
 kernel_rfl
set_option linter.unusedVariables false
variable {I:Items} {x:PyData} {σ':ac} {o:Option α} {r:Res γ} {c:γ}
section
variable (G:Nat->Option PyData) (cf:Nat->List V->ac->Res V) (ρ:Fm) (σ:ac)
theorem l6 {α:Sort _} {a b:α} (h:a=b):a=b:=h
theorem rU {β:Type} (a:α) (σ:ac) (f:α->ac->Res β):(Res.ok a σ).bind f=f a σ:=l6 rfl
noncomputable def KW (o:Option V) (σ:ac):Res V:=match o with
 | some .un=>.bad
 | some v=>.ok v σ
 | none=>.bad
theorem FD {o:Option V} {σ:ac} {c:V} (h:KW o σ=.ok c σ'):o=some c/\c≠.un/\σ'=σ:=by
 cases o with
 | none=>cases h
 | some v=>cases v <;> first | (cases h; exact ⟨rfl,(λq=>nomatch q),rfl⟩) | cases h
theorem DA (i:Nat):ag G cf (.var i) ρ σ=KW ρ[i]? σ:=l6 rfl
theorem Gm (g:Nat):ag G cf (.glob g) ρ σ=bg ((G g).map V.d) σ:=l6 rfl
theorem Jv (op:BOp) (m:Bool) (a b:E):ag G cf (.bin op m a b) ρ σ=(ag G cf a ρ σ).bind λx aa=>(ag G cf b ρ aa).bind λy af=>dD op m x y af:=l6 rfl
noncomputable def Mf (x:V) (σ:ac):Res V:=oc (cq x) (λi=>.ok (.d (.int (-i))) σ) .bad
theorem Ju (a:E):ag G cf (.neg a) ρ σ=(ag G cf a ρ σ).bind λx aa=>Mf x aa:=l6 rfl
theorem DB (a:E):ag G cf (.not a) ρ σ=(ag G cf a ρ σ).bind λx aa=>bg ((truthy aa x).map λb=>V.d (.bool (!b))) aa:=l6 rfl
noncomputable def Fg (k:Bool) (t:Bool) (a b:Res V):Res V:=if t=k then a else b
theorem Gn (bp fK:COp) (a b c:E):ag G cf (.cmp2 bp fK a b c) ρ σ=(ag G cf a ρ σ).bind λx aa=>(ag G cf b ρ aa).bind λy af=>(bg (br bp x y af) af).bind λt af=>Fg true t ((ag G cf c ρ af).bind λz au=>bg ((br fK y z au).map λb=>V.d (.bool b)) au) (.ok (.d (.bool false)) af):=l6 rfl
noncomputable def MY (b:Bool) {α:Type} (r:Res α):Res α:=if b then r else .bad
theorem Dy:aW G cf .nil ρ σ=.ok [] σ:=l6 rfl
theorem Gk (e:E) (es:EL):aW G cf (.cons e es) ρ σ=(ag G cf e ρ σ).bind λx aa=>(aW G cf es ρ aa).bind λxs af=>.ok (x::xs) af:=l6 rfl
theorem Jt (e:E):bX G cf (.seq e) ρ σ=(ag G cf e ρ σ).bind λx aa=>bg ((rX x aa).map λp=>⟨p.1,p.1,p.2⟩) aa:=l6 rfl
theorem Gl (e:E):bX G cf (.enum e) ρ σ=(ag G cf e ρ σ).bind λx aa=>oc (ia x) (λl=>.ok ⟨jj l,[],none⟩ aa) .bad:=l6 rfl
noncomputable def w5 (x:V) (σ:ac):Res Items:=oc (cq x) (λb=>if -100000<=b/\b<=100000 then .ok ⟨bD 0 b,[],none⟩ σ else .bad) .bad
theorem Ad {x:V} {σ:ac} (h:w5 x σ=.ok I σ'):∃ b:Int,x=.d (.int b)/\(-100000<=b/\b<=100000)/\I=⟨bD 0 b,[],none⟩/\σ'=σ:=by
 unfold w5 at h;rcases dS (cq x) (λb=>if -100000<=b/\b<=100000 then Res.ok (⟨bD 0 b,[],none⟩:Items) σ else .bad) .bad with ⟨b,hb,e⟩ | e
 . rw [e] at h;by_cases hc:-100000<=b/\b<=100000
   . rw [if_pos hc] at h; cases h; exact ⟨b,dv hb,hc,rfl,rfl⟩
   . rw [if_neg hc] at h; cases h
 . rw [e] at h; cases h
noncomputable def tB (x y:V) (σ:ac):Res Items:=b2 (cq x) (cq y) (λa b=>if (-100000<=a/\a<=100000)/\(-100000<=b/\b<=100000) then .ok ⟨bD a b,[],none⟩ σ else .bad) .bad
theorem w8 {x y:V} {σ:ac} (h:tB x y σ=.ok I σ'):∃ a b:Int,x=.d (.int a)/\y=.d (.int b)/\((-100000<=a/\a<=100000)/\(-100000<=b/\b<=100000))/\I=⟨bD a b,[],none⟩/\σ'=σ:=by
 unfold tB at h;rcases lY (cq x) (cq y) (λa b=>if (-100000<=a/\a<=100000)/\(-100000<=b/\b<=100000) then Res.ok (⟨bD a b,[],none⟩:Items) σ else .bad) .bad with ⟨a,b,ha,hb,e⟩ | e
 . rw [e] at h;by_cases hc:(-100000<=a/\a<=100000)/\(-100000<=b/\b<=100000)
   . rw [if_pos hc] at h; cases h; exact ⟨a,b,dv ha,dv hb,hc,rfl,rfl⟩
   . rw [if_neg hc] at h; cases h
 . rw [e] at h; cases h
theorem AP (ua kG:E):bX G cf (.range2 ua kG) ρ σ=(ag G cf ua ρ σ).bind λx aa=>(ag G cf kG ρ aa).bind λy af=>tB x y af:=l6 rfl
theorem Dz (e:E):bX G cf (.range e) ρ σ=(ag G cf e ρ σ).bind λx aa=>w5 x aa:=l6 rfl
noncomputable def MZ (v:V) (r:Res Out):Res Out:=oc (pq v) (λ_=>r) .bad
theorem ik {f:α->Res γ} (h:oc o f .bad=.ok c σ'):∃ a,o=some a/\f a=.ok c σ':=by
 cases o with
 | none=>cases h
 | some a=>exact ⟨a,rfl,h⟩
theorem Hi {β:Type} {p:Option β} {f:α->β->Res γ} (h:b2 o p f .bad=.ok c σ'):∃ a b,o=some a/\p=some b/\f a b=.ok c σ':=by obtain ⟨a,ha,h⟩:=ik h;obtain ⟨b,hb,h⟩:=ik h;exact ⟨a,b,ha,hb,h⟩
theorem y8 {c:Prop} [Decidable c] {x:γ} (h:(if c then r else .bad)=.ok x σ'):c/\r=.ok x σ':=by
 by_cases hc:c
 . rw [if_pos hc] at h; exact ⟨hc,h⟩
 . rw [if_neg hc] at h; cases h
theorem Hz (e:E):exec G cf (.expr e) ρ σ=(ag G cf e ρ σ).bind λv aa=>.ok (.next ρ) aa:=l6 rfl
theorem HA (l:List Nat) (e:E):exec G cf (.asgT l e) ρ σ=(ag G cf e ρ σ).bind λx aa=>oc (ia x) (λds=>if l.length=ds.length then .ok (.next (bv l ds ρ)) aa else .bad) .bad:=l6 rfl
noncomputable def MX (t:Bool) (a b:Res Out):Res Out:=if t then a else b
theorem J2 (e:E):exec G cf (.ret e) ρ σ=(ag G cf e ρ σ).bind λx aa=>.ok (.ret x) aa:=l6 rfl
noncomputable def Ko (x a k:V) (ρ:Fm) (au:ac):Res Out:=oc (bx x) (λx=>b2 (nK a) (jk k) (λn k=>oc (d6 au n) (λl=>if l.length < LIM then .ok (.next ρ) (au.set n (.dct (d9 k x l))) else .bad) .bad) .bad) .bad
theorem E9 {k:Str} {l:List (Str×PyData)} (hc:σ[n]?=some (.dct l)) (hl:l.length < LIM):Ko (.d x) (.loc n) (.d (.str k)) ρ σ=.ok (.next ρ) (σ.set n (.dct (d9 k x l))):=by show oc (d6 σ n) (λl=>if l.length < LIM then Res.ok (Out.next ρ) (σ.set n (.dct (d9 k x l))) else .bad) .bad=_;rw [jM hc]; exact if_pos hl
theorem J3 (o i e:E):exec G cf (.put o i e) ρ σ=(ag G cf e ρ σ).bind λx aa=>(ag G cf o ρ aa).bind λa af=>(ag G cf i ρ af).bind λk au=>Ko x a k ρ au:=l6 rfl
noncomputable def Kh (G:Nat->Option PyData) (cf:Nat->List V->ac->Res V) (r:SL) (o:Out) (σ:ac):Res Out:=match o with
 | .next bA=>execs G cf r bA σ
 | .ret v=>.ok (.ret v) σ
 | .exc k ds=>.ok (.exc k ds) σ
theorem EB (s:S) (r:SL):execs G cf (.cons s r) ρ σ=(exec G cf s ρ σ).bind λo aa=>Kh G cf r o aa:=l6 rfl
noncomputable def KP (f:PyData->Fm->ac->Res Out) (xs:List PyData) (o:Out) (σ:ac):Res Out:=match o with
 | .next bA=>aZ f xs bA σ
 | .ret v=>.ok (.ret v) σ
 | .exc k ds=>.ok (.exc k ds) σ
theorem IV (f:PyData->Fm->ac->Res Out):aZ f [] ρ σ=.ok (.next ρ) σ:=l6 rfl
theorem FE (f:PyData->Fm->ac->Res Out) (x:PyData) (xs:List PyData):aZ f (x::xs) ρ σ=(f x ρ σ).bind λo aa=>KP f xs o aa:=l6 rfl
end
theorem Gq (f:PyData->ac->Res (Option PyData)) (x:PyData) (xs:List PyData) (σ:ac):gI f (x::xs) σ=(f x σ).bind λo aa=>(gI f xs aa).bind λr af=>.ok (o.toList++r) af:=l6 rfl
variable {y:Int}
section
variable (σ:ac) (m:Bool)
theorem Hh {x:Int} (h:r9 x y=true):dD .mul m (.d (.int x)) (.d (.int y)) σ=.ok (.d (.int (x * y))) σ:=if_pos h
theorem gO {x:Int} (h:0 < y):dD .mod m (.d (.int x)) (.d (.int y)) σ=.ok (.d (.int (x % y))) σ:=if_pos h
theorem lR {a b:PyData} (h:min a.depth b.depth<=64):Jr a b=some (a.eqv b):=if_pos h
theorem DP (x y:Str):br .eq (.d (.str x)) (.d (.str y)) σ=some (decide (x=y)):=by refine (lR (a:=.str x) (b:=.str y) (N8 rfl)).trans ?_;exact l6 rfl
theorem Lz (x y:Str):br .ne (.d (.str x)) (.d (.str y)) σ=some (!decide (x=y)):=by have h:JW σ (.d (.str x)) (.d (.str y))=some (decide (x=y)):=DP σ x y;have e:br .ne (.d (.str x)) (.d (.str y)) σ=(JW σ (.d (.str x)) (.d (.str y))).map (!·):=rfl;rw [e,h]; rfl
end
variable {i:Int} {l:List PyData} {k:Nat} {lo hi:Option V}
section
variable (σ:ac) (m:Bool)
theorem y9 (l:List PyData) (i:Int):df (.d (.tuple l)) (.d (.int i)) σ=(index l.length i).bind λk=>(l[k]?).map V.d:=l6 rfl
theorem b9 (l:List PyData) (k:Nat):df (.d (.tuple l)) (.d (.int (k:Int))) σ=(l[k]?).map V.d:=by
 rw [y9];unfold index;rw [if_pos (Oa k)];by_cases h:k < l.length
 . rw [if_pos (OO.mpr h)]; rfl
 . rw [if_neg (λq=>h (OO.mp q)),OS (OE h)]; rfl
theorem FN (x:Str) (i:Int):df (.d (.str x)) (.d (.int i)) σ=(index (aI x).length i).bind λk=>((aI x)[k]?).map λc=>V.d (.str (av [c])):=l6 rfl
theorem iA (h0:0<=i):df (.d (.list l)) (.d (.int i)) σ=(l[i.toNat]?).map V.d:=if_pos h0
variable {σ} {n:Nat}
theorem iQ (h:σ[n]?=some (.lst l)):aD σ (.loc n)=some l:=iq h
theorem fV {l:List (Str×PyData)} (h:σ[n]?=some (.dct l)):fG σ (.loc n)=some l:=jM h
theorem Ce (h:σ[n]?=some (.lst l)):rX (.loc n) σ=some (l,some n):=by show (fi σ n).map (λl=>(l,some n))=_;rw [iq h]; rfl
theorem Gj (x y:Str):(PyData.str x).eqv (.str y)=decide (x=y):=l6 rfl
theorem MA (a b:V):br .isIn a b σ=br.inV a b σ:=l6 rfl
theorem um (a b:V):br .notIn a b σ=(br.inV a b σ).map (!·):=l6 rfl
theorem pR (x:Str) (l:List PyData):vy (.str x) l=some (l.any λy=>y.eqv (.str x)):=if_pos (iv (PP _ _) (N3 _))
theorem I7 (x:Str) (h:σ[n]?=some (.lst l)):br.inV (.d (.str x)) (.loc n) σ=some (l.any λy=>y.eqv (.str x)):=by show oc (aD σ (.loc n)) (λl=>vy (.str x) l) _=_;rw [iQ h]; exact pR x l
theorem y6 (x:Str):br.inV (.d (.str x)) (.d (.list l)) σ=some (l.any λy=>y.eqv (.str x)):=pR x l
theorem I5 (x:Str):br.inV (.d (.str x)) (.d (.tuple l)) σ=some (l.any λy=>y.eqv (.str x)):=pR x l
theorem JH (h:σ[n]?=some (.lst l)) (hl:l.length < LIM) (x:PyData):Em .append (.loc n) [.d x] σ=.ok (.d .none) (σ.set n (.lst (l++[x]))):=by show oc (fi σ n) (λl=>if l.length < LIM then Res.ok (V.d .none) (σ.set n (.lst (l++[x]))) else .bad) .bad=_;rw [iq h]; exact if_pos hl
theorem AM {y:List PyData} {b:V} (h:σ[n]?=some (.lst l)) (hb:aD σ b=some y) (hl:l.length+y.length<=LIM):Em .extend (.loc n) [b] σ=.ok (.d .none) (σ.set n (.lst (l++y))):=by show b2 (fi σ n) (aD σ b) (λl y=>if l.length+y.length<=LIM then Res.ok (V.d .none) (σ.set n (.lst (l++y))) else .bad) .bad=_;rw [iq h,hb]; exact if_pos hl
theorem zQ {x y:List (Str×PyData)} (h:σ[n]?=some (.dct x)) (hk:σ[k]?=some (.dct y)) (hn:n≠k) (hl:x.length+y.length<=LIM):Em .update (.loc n) [.loc k] σ=.ok (.d .none) (σ.set n (.dct (dR x y))):=by show (if n≠k then b2 (d6 σ n) (d6 σ k) (λx y=>if x.length+y.length<=LIM then Res.ok (V.d .none) (σ.set n (.dct (dR x y))) else .bad) .bad else .bad)=_;rw [if_pos hn,jM h,jM hk]; exact if_pos hl
theorem vk (h:σ[n]?=some (.lst l)):qZ .append σ (.loc n)=true:=by show (aD σ (.loc n)).isSome=true;rw [iQ h]; rfl
theorem JD {a b:List PyData} (h:a.length+b.length<=LIM) (m:Bool) (σ:ac):dD .add m (.d (.list a)) (.d (.list b)) σ=aU m (a++b) σ:=if_pos h
theorem JC {a b:List PyData} (h:a.length+b.length<=LIM) (m:Bool) (σ:ac):dD .add m (.d (.tuple a)) (.d (.tuple b)) σ=.ok (.d (.tuple (a++b))) σ:=if_pos h
theorem LF {x y:Str} (h:x.cps.size+y.cps.size<=LIM) (m:Bool) (σ:ac):dD .add m (.d (.str x)) (.d (.str y)) σ=.ok (.d (.str (av (aI x++aI y)))) σ:=if_pos h
theorem JB {y:Str} {n:Int} (h:0<=n/\n<=1000/\y.cps.size<=1000) (m:Bool) (σ:ac):dD .mul m (.d (.str y)) (.d (.int n)) σ=.ok (.d (.str (av (List.replicate n.toNat (aI y)).flatten))) σ:=if_pos h
theorem yA (m:Bool) (x:Str) {l h:Option Int} (hl:co lo=some l) (hh:co hi=some h) (σ:ac):gU m (.d (.str x)) lo hi σ=.ok (.d (.str (av (ar (aI x) l h)))) σ:=by show b2 (co lo) (co hi) (λl h=>Res.ok (V.d (.str (av (ar (aI x) l h)))) σ) .bad=_;rw [hl,hh]; rfl
theorem Jl (h:σ[n]?=some (.lst l)):Jm (.loc n) σ=.ok (.d (.list l)) (σ.set n .gone):=by show oc (fi σ n) (λl=>Res.ok (V.d (.list l)) (σ.set n .gone)) .bad=_;rw [iq h]; rfl
end
variable {op:BOp} {m:Bool} {a c e e':E} {es:EL} {ρ ρ':Fm} {it:It} {h:List Hd} {xs ds base:List PyData} {vs:List V} {i:Nat} {cf:Nat->List V->ac->Res V} {G:Nat->Option PyData} {o:Out} {f:PyData->Fm->ac->Res Out} {s:S} {b r:SL} {af aa:ac} {t:Tgt} {ps:List α}
section
variable {au:ac}
theorem aF {β:Type} {r:Res α} {a:α} {k:α->ac->Res β} {q:Res β} (h:r=.ok a σ) (h2:k a σ=q):r.bind k=q:=by rw [h]; exact h2
theorem Al (h:nQ v=none):iJ v σ=.ok v σ:=by unfold iJ; rw [h]
theorem ay {f:Nat} (h0:aW G cf es ρ σ=.ok vs aa) (h:cf f vs aa=.ok v af) (hx:nQ v=none:=by rfl):ag G cf (.call f es) ρ σ=.ok v af:=aF h0 (aF h (Al hx))
theorem fX {b:E} {x y:V} {q:Res V} (h1:ag G cf a ρ σ=.ok x aa) (h2:ag G cf b ρ aa=.ok y af) (h3:dD op m x y af=q):ag G cf (.bin op m a b) ρ σ=q:=aF h1 (aF h2 h3)
theorem cx {op:COp} {b:E} {x y:V} {t:Bool} (h1:ag G cf a ρ σ=.ok x aa) (h2:ag G cf b ρ aa=.ok y af) (h3:br op x y af=some t):ag G cf (.cmp op a b) ρ σ=.ok (.d (.bool t)) af:=aF h1 (aF h2 (by rw [h3]; rfl))
theorem HE {t:Bool} (h1:ag G cf a ρ σ=.ok (.d (.bool t)) aa):ag G cf (.not a) ρ σ=.ok (.d (.bool (!t))) aa:=aF h1 rfl
theorem J7 {b:E} {q:Res V} (hc:ag G cf c ρ σ=.ok (.d (.bool true)) aa) (h:ag G cf a ρ aa=q):ag G cf (.ite c a b) ρ σ=q:=aF hc h
theorem J8 {b:E} {q:Res V} (hc:ag G cf c ρ σ=.ok (.d (.bool false)) aa) (h:ag G cf b ρ aa=q):ag G cf (.ite c a b) ρ σ=q:=aF hc h
theorem rG {q:Res V} (h0:aW G cf es ρ σ=.ok vs aa) (h:wc vs aa=q):ag G cf (.tup es) ρ σ=q:=aF h0 h
theorem bw {i:E} {x y:V} (h1:ag G cf a ρ σ=.ok x aa) (h2:ag G cf i ρ aa=.ok y af) (h3:df x y af=some v):ag G cf (.idx a i) ρ σ=.ok v af:=aF h1 (aF h2 (by rw [h3]; rfl))
theorem yr {lo hi:EO} {x:V} {l h:Option V} {q:Res V} (h1:ag G cf a ρ σ=.ok x aa) (h2:dg G cf lo ρ aa=.ok l af) (h3:dg G cf hi ρ af=.ok h au) (h4:gU m x l h au=q):ag G cf (.slc m a lo hi) ρ σ=q:=aF h1 (aF h2 (aF h3 h4))
theorem Ka {b:Bi} {q:Res V} (h0:aW G cf es ρ σ=.ok vs aa) (h:zE b m vs aa=q):ag G cf (.bi b m es) ρ σ=q:=aF h0 h
theorem J9 {x:V} {q:Res V} (h1:ag G cf e ρ σ=.ok x aa) (h:Jm x aa=q):ag G cf (.freeze e) ρ σ=q:=aF h1 h
theorem de {x:V} {xs:List V} (h1:ag G cf e ρ σ=.ok x aa) (h2:aW G cf es ρ aa=.ok xs af):aW G cf (.cons e es) ρ σ=.ok (x::xs) af:=aF h1 (aF h2 rfl)
theorem iz {x:V} (h1:ag G cf e ρ σ=.ok x aa):aW G cf (.cons e .nil) ρ σ=.ok [x] aa:=de h1 rfl
theorem GV {x:V} (h1:ag G cf e ρ σ=.ok x aa):dg G cf (.yes e) ρ σ=.ok (some x) aa:=aF h1 rfl
theorem sT {q:Res V} (h1:ag G cf e ρ σ=.ok (.d (.bool true)) aa) (h2:ag G cf (.bop true (.cons e' es)) ρ aa=q):ag G cf (.bop true (.cons e (.cons e' es))) ρ σ=q:=aF h1 h2
theorem oJ (h1:ag G cf e ρ σ=.ok (.d (.bool false)) aa):ag G cf (.bop true (.cons e (.cons e' es))) ρ σ=.ok (.d (.bool false)) aa:=aF h1 rfl
theorem Bv {q:Res V} (h1:ag G cf e ρ σ=.ok (.d (.bool false)) aa) (h2:ag G cf (.bop false (.cons e' es)) ρ aa=q):ag G cf (.bop false (.cons e (.cons e' es))) ρ σ=q:=aF h1 h2
theorem J6 (h1:ag G cf e ρ σ=.ok (.d (.bool true)) aa):ag G cf (.bop false (.cons e (.cons e' es))) ρ σ=.ok (.d (.bool true)) aa:=aF h1 rfl
theorem dy {k:Bool} {q:Res V} (h:ag G cf e ρ σ=q):ag G cf (.bop k (.cons e .nil)) ρ σ=q:=h
theorem Bw {a b:Bool} (h1:ag G cf e ρ σ=.ok (.d (.bool a)) σ) (h2:a=false->ag G cf (.bop false (.cons e' es)) ρ σ=.ok (.d (.bool b)) σ):ag G cf (.bop false (.cons e (.cons e' es))) ρ σ=.ok (.d (.bool (a||b))) σ:=by
 cases a with
 | true=>exact J6 h1
 | false=>exact Bv h1 (h2 rfl)
theorem rH {a b:Bool} (h1:ag G cf e ρ σ=.ok (.d (.bool a)) σ) (h2:a=true->ag G cf (.bop true (.cons e' es)) ρ σ=.ok (.d (.bool b)) σ):ag G cf (.bop true (.cons e (.cons e' es))) ρ σ=.ok (.d (.bool (a&&b))) σ:=by
 cases a with
 | true=>exact sT h1 (h2 rfl)
 | false=>exact oJ h1
theorem Bx {t t':Bool} (h:ag G cf e ρ σ=.ok (.d (.bool t)) aa) (q:t=t'):ag G cf e ρ σ=.ok (.d (.bool t')) aa:=q ▸ h
theorem cO (h:ag G cf e ρ σ=.ok v σ'):exec G cf (.asg (.var i) e) ρ σ=.ok (.next (ρ.set i v)) σ':=aF h rfl
theorem HV {l:List Nat} (h:ag G cf e ρ σ=.ok (.d (.tuple ds)) σ') (hl:l.length=ds.length):exec G cf (.asgT l e) ρ σ=.ok (.next (bv l ds ρ)) σ':=aF h (if_pos hl)
theorem oj {t:RT} {f:Nat} {q:Res Out} (h0:aW G cf es ρ σ=.ok vs aa) (h:cf f vs aa=.ok v af) (h2:je t v ρ af=q):exec G cf (.calls t f es) ρ σ=q:=aF h0 (aF h h2)
theorem HT (h1:execs G cf b ρ σ=.ok (.ret v) aa):exec G cf (.tryS b h) ρ σ=.ok (.ret v) aa:=aF h1 rfl
theorem wV {q:Res Out} (h1:execs G cf b ρ σ=.ok (.exc k ds) aa) (h2:mz cf h k ds aa=q):exec G cf (.tryS b h) ρ σ=q:=aF h1 h2
theorem GM (h:ag G cf e ρ σ=.ok v σ'):exec G cf (.ret e) ρ σ=.ok (.ret v) σ':=aF h rfl
theorem GN {o i:E} {k:Str} {l:List (Str×PyData)} (h1:ag G cf e ρ σ=.ok (.d x) aa) (h2:ag G cf o ρ aa=.ok (.loc n) af) (h3:ag G cf i ρ af=.ok (.d (.str k)) au) (hc:au[n]?=some (.dct l)) (hl:l.length < LIM):exec G cf (.put o i e) ρ σ=.ok (.next ρ) (au.set n (.dct (d9 k x l))):=aF h1 (aF h2 (aF h3 (E9 ρ au hc hl)))
theorem BR {a:SL} {q:Res Out} (h:ag G cf c ρ σ=.ok (.d (.bool true)) aa) (h2:execs G cf a ρ aa=q):exec G cf (.ite c a b) ρ σ=q:=aF h h2
theorem Kk {a:SL} {q:Res Out} (h:ag G cf c ρ σ=.ok (.d (.bool false)) aa) (h2:execs G cf b ρ aa=q):exec G cf (.ite c a b) ρ σ=q:=aF h h2
theorem aA {q:Res Out} (h:exec G cf s ρ σ=.ok (.next ρ') aa) (h2:execs G cf r ρ' aa=q):execs G cf (.cons s r) ρ σ=q:=aF h h2
theorem B2 (h:exec G cf s ρ σ=.ok (.exc k ds) aa):execs G cf (.cons s r) ρ σ=.ok (.exc k ds) aa:=aF h rfl
theorem jw (h:exec G cf s ρ σ=.ok (.ret v) aa):execs G cf (.cons s r) ρ σ=.ok (.ret v) aa:=aF h rfl
theorem ml {a:SL} {q:Res Out} (h:ag G cf c ρ σ=.ok (.d (.bool false)) aa) (h2:execs G cf r ρ aa=q):execs G cf (.cons (.ite c a .nil) r) ρ σ=q:=aA (Kk h rfl) h2
theorem a8 {x:V} (h:ag G cf e ρ σ=.ok x aa) (ho:rX x aa=some (xs,none)):bX G cf (.seq e) ρ σ=.ok ⟨xs,xs,none⟩ aa:=aF h (by rw [ho]; rfl)
theorem d0 {b:Int} (h:ag G cf e ρ σ=.ok (.d (.int b)) aa) (hb:-100000<=b/\b<=100000):bX G cf (.range e) ρ σ=.ok ⟨bD 0 b,[],none⟩ aa:=aF h (if_pos hb)
theorem pT {a b:Int} (h:ag G cf e ρ σ=.ok (.d (.int a)) aa) (h':ag G cf e' ρ aa=.ok (.d (.int b)) af) (hb:(-100000<=a/\a<=100000)/\(-100000<=b/\b<=100000)):bX G cf (.range2 e e') ρ σ=.ok ⟨bD a b,[],none⟩ af:=aF h (aF h' (if_pos hb))
theorem tS (h:ag G cf e ρ σ=.ok (.d (.tuple l)) aa):bX G cf (.enum e) ρ σ=.ok ⟨jj l,[],none⟩ aa:=aF h rfl
noncomputable def aB (G:Nat->Option PyData) (cf:Nat->List V->ac->Res V) (t:Tgt) (b:SL):PyData->Fm->ac->Res Out:=λx ρ' σ'=>match eu t x ρ' with
 | none=>.bad
 | some ρ''=>execs G cf b ρ'' σ'
theorem aK (hI:bX G cf it ρ σ=.ok ⟨xs,base,none⟩ aa) (hl:aZ (aB G cf t b) xs ρ aa=.ok o af):exec G cf (.forr t it b) ρ σ=.ok o af:=aF hI (aF (a:=o) (σ:=af) hl rfl)
theorem aJ {q:Res Out} (h:execs G cf b (ρ.set i (.d x)) σ=q):aB G cf (.var i) b x ρ σ=q:=h
theorem ek {l:List Nat} {q:Res Out} (hl:l.length=ds.length) (h:execs G cf b (bv l ds ρ) σ=q):aB G cf (.tup l) b (.tuple ds) ρ σ=q:=by have e:eu (.tup l) (.tuple ds) ρ=some (bv l ds ρ):=if_pos hl;unfold aB;rw [e]; exact h
theorem aQ {q:Res Out} (h:f x ρ σ=.ok (.next ρ') aa) (h2:aZ f xs ρ' aa=q):aZ f (x::xs) ρ σ=q:=aF h h2
theorem Cz (h:f x ρ σ=.ok (.exc k ds) aa):aZ f (x::xs) ρ σ=.ok (.exc k ds) aa:=aF h rfl
theorem mv (h:f x ρ σ=.ok (.ret v) aa):aZ f (x::xs) ρ σ=.ok (.ret v) aa:=aF h rfl
theorem CA (φ:α->PyData) (P:List α->Fm->ac->Prop) (h:∀ x xs ρ σ,P (x::xs) ρ σ->X2 λρ' σ'=>f (φ x) ρ σ=.ok (.next ρ') σ'/\P xs ρ' σ'):∀ xs ρ σ,P xs ρ σ->X2 λρ' σ'=>aZ f (xs.map φ) ρ σ=.ok (.next ρ') σ'/\P [] ρ' σ'
 | []=>@λρ σ hp=>⟨ρ,σ,rfl,hp⟩
 | x::xs=>@λρ σ hp=>by obtain ⟨bA,aa,e,hp⟩:=h x xs ρ σ hp;obtain ⟨oz,af,e2,hp⟩:=CA φ P h xs bA aa hp;exact ⟨oz,af,aQ e e2,hp⟩
noncomputable def iZ (G:Nat->Option PyData) (cf:Nat->List V->ac->Res V) (t:Tgt) (c:EO) (e:E) (ρ:Fm):PyData->ac->Res (Option PyData):=λx σ'=>match eu t x ρ with
 | none=>.bad
 | some ρ'=>(dg G cf c ρ' σ').bind λcv af=>match cv with
   | none=>(ag G cf e ρ' af).bind λy au=>bg ((bx y).map some) au
   | some cv=>(bg (truthy af cv) af).bind λb af=>if b then (ag G cf e ρ' af).bind λy au=>bg ((bx y).map some) au else .ok none af
theorem b7 (σ:ac) (c:Cell):(σ++[c]).take σ.length=σ:=by simp
theorem DC (m:Bool) (t:Tgt) (it:It) (c:EO) (e:E):ag G cf (.comp m t it c e) ρ σ=(bX G cf it ρ σ).bind λI aa=>(gI (iZ G cf t c e ρ) I.shown (cG I.lk aa++[Cell.busy])).bind λr af=>aU m r ((bc I.lk I.base af).take aa.length):=l6 rfl
theorem mc {c:EO} {r:List PyData} (hI:bX G cf it ρ σ=.ok ⟨xs,base,none⟩ aa) (hl:gI (iZ G cf t c e ρ) xs (aa++[Cell.busy])=.ok r (aa++[Cell.busy])):ag G cf (.comp m t it c e) ρ σ=aU m r aa:=by rw [DC,hI,rU];show (gI (iZ G cf t c e ρ) xs (aa++[Cell.busy])).bind _=_;rw [hl,rU];show aU m r ((aa++[Cell.busy]).take aa.length)=_;rw [b7]
theorem LA {y:PyData} (h:ag G cf e (ρ.set i (.d x)) σ=.ok (.d y) σ):iZ G cf (.var i) .no e ρ x σ=.ok (some y) σ:=by show (ag G cf e (ρ.set i (.d x)) σ).bind _=_;rw [h]; rfl
theorem Jy {b:Bool} {y:PyData} (hc:ag G cf c (ρ.set i (.d x)) σ=.ok (.d (.bool b)) σ) (h:b=true->ag G cf e (ρ.set i (.d x)) σ=.ok (.d y) σ):iZ G cf (.var i) (.yes c) e ρ x σ=.ok (if b then some y else none) σ:=by
 show (dg G cf (.yes c) (ρ.set i (.d x)) σ).bind _=_;rw [GV hc,rU];cases b with
 | true=>show (ag G cf e (ρ.set i (.d x)) σ).bind _=_;rw [h rfl]; rfl
 | false=>rfl
theorem ja {f:PyData->ac->Res (Option PyData)} (φ:α->PyData) (g:α->Option PyData):∀ l:List α,(∀ x∈l,f (φ x) σ=.ok (g x) σ)->gI f (l.map φ) σ=.ok (l.filterMap g) σ
 | []=>@λ_=>rfl
 | x::l=>@λh=>by rw [Ol,Gq,h x (NE ..),rU,ja φ g l λy hy=>h y (NA _ hy),rU,Ph];cases g x <;> rfl
theorem Do (b:α->Bool) (g:α->PyData) (l:List α):(l.filterMap λx=>if b x then some (g x) else none)=(l.filter b).map g:=by
 induction l with
 | nil=>rfl
 | cons x l ih=>cases h:b x <;> simp [h,ih]
theorem uH (φ g:α->PyData) (hI:bX G cf it ρ σ=.ok ⟨ps.map φ,base,none⟩ aa) (h:∀ p∈ps,ag G cf e (ρ.set i (.d (φ p))) (aa++[Cell.busy])=.ok (.d (g p)) (aa++[Cell.busy])):ag G cf (.comp false (.var i) it .no e) ρ σ=.ok (.d (.list (ps.map g))) aa:=by refine (mc hI (r:=ps.map g) ?_).trans rfl;rw [ja φ (λp=>some (g p)) ps λp hp=>LA (h p hp),P4]
theorem fy (φ g:α->PyData) (b:α->Bool) (hI:bX G cf it ρ σ=.ok ⟨ps.map φ,base,none⟩ aa) (hc:∀ p∈ps,ag G cf c (ρ.set i (.d (φ p))) (aa++[Cell.busy])=.ok (.d (.bool (b p))) (aa++[Cell.busy])) (h:∀ p∈ps,b p=true->ag G cf e (ρ.set i (.d (φ p))) (aa++[Cell.busy])=.ok (.d (g p)) (aa++[Cell.busy])):ag G cf (.comp false (.var i) it (.yes c) e) ρ σ=.ok (.d (.list ((ps.filter b).map g))) aa:=by refine (mc hI (r:=(ps.filter b).map g) ?_).trans rfl;rw [ja φ (λp=>if b p then some (g p) else none) ps λp hp=>Jy (hc p hp) (h p hp),Do]
end
theorem cn (n:Nat):bD 0 (n:Int)=(List.range n).map λ(k:Nat)=>PyData.int (k:Int):=by unfold bD; rw [Q6,Oh];refine Pi λk _=>?_;rw [Q7]
theorem uG {G:Nat->Option PyData} {cf:Nat->List V->ac->Res V} {eb:E} {b:Int} (g:Nat->PyData) (hb:ag G cf eb ρ σ=.ok (.d (.int b)) σ) (h1:0<=b/\b<=1000) (h:∀ k:Nat,k < b.toNat->ag G cf e (ρ.set i (.d (.int (k:Int)))) (σ++[Cell.busy])=.ok (.d (g k)) (σ++[Cell.busy])):ag G cf (.comp false (.var i) (.range eb) .no e) ρ σ=.ok (.d (.list ((List.range b.toNat).map g))) σ:=by
 obtain ⟨n,rfl⟩:∃ n:Nat,b=(n:Int):=⟨b.toNat,by lia⟩
 have hI:=d0 (G:=G) (cf:=cf) hb (by omega);rw [cn] at hI;exact uH (λ(k:Nat)=>PyData.int (k:Int)) g hI λk hk=>h k (O4.mp hk)
theorem JT {x:Int} (m:Bool) (σ:ac) (h:y.natAbs < 9223372036854775808):dD .mul m (.d (.int x)) (.d (.int y)) σ=.ok (.d (.int (x * y))) σ:=Hh _ _ (by simp [r9,h])
theorem Np {x:Int} (m:Bool) (σ:ac) (h:x.natAbs < 9223372036854775808):dD .mul m (.d (.int x)) (.d (.int y)) σ=.ok (.d (.int (x * y))) σ:=Hh _ _ (by simp [r9,h])
theorem bI (x:Int) {m:Int} (h:0 < m):0<=x % m/\x % m < m:=⟨QJ _ (Q8 h),Int.emod_lt_of_pos _ h⟩
theorem Mi {c m:Int} (b:Bool) (σ:ac) (h0:0 < m) (h:m<=9223372036854775808):dD .mul b (.d (.int (c % m))) (.d (.int y)) σ=.ok (.d (.int (c % m * y))) σ:=Np _ _ (by have:=bI c h0; omega)
variable {fn:Fn} {args:List V} {d:Nat} {p:Prog}
theorem wt {f:Nat} {q:Res V} (h:p.P f=some fn) (ha:args.length=fn.np) (hb:execs p.G (ae p d) fn.body (args++List.replicate (fn.ns - fn.np) .un) σ=.ok o σ') (hq:nz σ.length o σ'=q) (hc:fn.ctor=false:=by rfl):ae p (d+1) f args σ=q:=by
 show (match p.P f with
   | none=>Res.bad
   | some fn=>if fn.ctor then zv p d fn args σ else if args.length=fn.np then
       (execs p.G (ae p d) fn.body (args++List.replicate (fn.ns - fn.np) .un) σ).bind λo aa=>nz σ.length o aa
     else .bad)=q
 rw [h];simp only [ha,hc,if_true,PX,if_false];rw [hb]; exact hq
theorem lO (x:PyData) (h:σ'.take n=σ):lP n (.d x) σ'=.ok (.d x) σ:=congrArg (Res.ok (V.d x)) h
theorem DM {f:Nat} (h:p.P f=some fn) (ha:args.length=fn.np) (hb:execs p.G (ae p d) fn.body (args++List.replicate (fn.ns - fn.np) .un) σ=.ok (.ret (.d x)) σ') (ht:σ'.take σ.length=σ) (hcc:fn.ctor=false:=by rfl):ae p (d+1) f args σ=.ok (.d x) σ:=wt h ha hb (lO x ht) hcc
theorem cR {f:Nat} (h:p.P f=some fn) (ha:args.length=fn.np) (hb:execs p.G (ae p d) fn.body (args++List.replicate (fn.ns - fn.np) .un) σ=.ok (.ret (.d x)) σ) (hcc:fn.ctor=false:=by rfl):ae p (d+1) f args σ=.ok (.d x) σ:=DM h ha hb List.take_length hcc
theorem DN {f:Nat} {c:Cell} {g g':List Cell} (h:p.P f=some fn) (ha:args.length=fn.np) (hb:execs p.G (ae p d) fn.body (args++List.replicate (fn.ns - fn.np) .un) σ=.ok (.ret (.loc k)) (σ++(g++c::g'))) (hk:k=σ.length+g.length) (hc:(∃ l,c=.lst l)\/∃ l,c=.dct l) (hcc:fn.ctor=false:=by rfl):ae p (d+1) f args σ=.ok (.loc σ.length) (σ++[c]):=by
 refine wt h ha hb ?_ hcc;subst hk;have e:(σ++(g++c::g'))[σ.length+g.length]?=some c:=by simp
 have t:(σ++(g++c::g')).take σ.length=σ:=by simp
 show lP σ.length (.loc (σ.length+g.length)) (σ++(g++c::g'))=_;rcases hc with ⟨l,rfl⟩ | ⟨l,rfl⟩
 . exact (if_neg (Qv.mpr (NZ _ _))).trans (by rw [e,t])
 . exact (if_neg (Qv.mpr (NZ _ _))).trans (by rw [e,t])
noncomputable abbrev F5 (a b c d e:V):Fm:=[a,b,c,d,e]
noncomputable abbrev F6 (a b c d e f:V):Fm:=[a,b,c,d,e,f]
noncomputable abbrev F7 (a b c d e f g:V):Fm:=[a,b,c,d,e,f,g]
noncomputable abbrev F8 (a b c d e f g h:V):Fm:=[a,b,c,d,e,f,g,h]
noncomputable abbrev F9 (a b c d e f g h i:V):Fm:=[a,b,c,d,e,f,g,h,i]
noncomputable abbrev Es (a b c d e f g h i j:V):Fm:=[a,b,c,d,e,f,g,h,i,j]
noncomputable abbrev Nd (a b c d e f g h i j k l m:V):Fm:=[a,b,c,d,e,f,g,h,i,j,k,l,m]
noncomputable abbrev JP (a b c d e f g h i j k l m n:V):Fm:=[a,b,c,d,e,f,g,h,i,j,k,l,m,n]
noncomputable abbrev Nz (a b c d e f g h i j k l m n o p q r:V):Fm:=[a,b,c,d,e,f,g,h,i,j,k,l,m,n,o,p,q,r]
noncomputable def DX (t:Nat) (a b:Prop):Prop:=match t % 2 with
 | 0=>a
 | _=>b
noncomputable def Ml {α:Type} (r:Option α) (k:α->Prop):Prop:=match r with
 | some v=>k v
 | none=>True
noncomputable def AC {α:Type} (r:Res α) (k:α->ac->Prop):Prop:=match r with
 | .ok v σ=>k v σ
 | .bad=>True
noncomputable def Gv {α:Type} (t:Nat) (r:Res α) (k:α->ac->Nat->Prop):Prop:=DX t (AC r λv σ=>k v σ (t / 2)) (∀ {v σ},r=.ok v σ->k v σ (t / 2))
noncomputable def Bd {α:Type} (t:Nat) (r:Option α) (k:α->Nat->Prop):Prop:=DX t (Ml r λv=>k v (t / 2)) (∀ {v},r=some v->k v (t / 2))
variable {t:Nat}
theorem ur {a b:Prop} (ha:a) (hb:b):DX t a b:=by
 unfold DX;cases t % 2 with
 | zero=>exact ha
 | succ n=>exact hb
theorem C0 {r:Option α} {k:α->Prop} (h:∀ v,r=some v->k v):Ml r k:=by
 cases r with
 | some v=>exact h v rfl
 | none=>trivial
variable {r:Res α}
theorem fF {k:α->ac->Prop} (h:∀ v σ,r=.ok v σ->k v σ):AC r k:=by
 cases r with
 | ok v σ=>exact h v σ rfl
 | bad=>trivial
theorem uq {k:α->ac->Nat->Prop} (h:∀ v σ t,r=.ok v σ->k v σ t):Gv t r k:=ur (fF λv σ e=>h v σ _ e) λe=>h _ _ _ e
theorem lZ {r:Option α} {k:α->Nat->Prop} (h:∀ v t,r=some v->k v t):Bd t r k:=ur (C0 λv e=>h v _ e) λe=>h _ _ e
noncomputable def xo (b:Me) (x:V) (bq:ac) (vs:List V) (σ:ac):Res V:=if qZ b bq x then Em b x vs σ else .bad
variable {a:α}
theorem jX {β:Type} {k:α->ac->Res β} {q:Res β} (h:r=.ok a σ) (h2:k a σ=q):r.bind k=q:=by rw [h]; exact h2
theorem Kn {β:Type} {f:ac->Res β} {b:β} {k:α->β->ac->Res γ} {q:Res γ} (h:r=.ok a σ) (h2:f σ=.ok b af) (h3:k a b af=q):(r.bind λx aa=>(f aa).bind (k x))=q:=jX h (jX h2 h3)
variable {bq:ac} {x:V}
theorem IS {b:Me} (h1:aW G cf es ρ bq=.ok vs σ) (h2:xo b x bq vs σ=.ok v aa):(if qZ b bq x then (aW G cf es ρ bq).bind λvs af=>Em b x vs af else .bad)=.ok v aa:=by
 unfold xo at h2;cases h:qZ b bq x with
 | true=>rw [h,if_pos rfl] at h2; rw [if_pos rfl]; exact jX h1 h2
 | false=>rw [h,if_neg NY] at h2; cases h2
theorem FG {o:Option Fm} (h:bg o σ=.ok ρ aa):bg (o.map Out.next) σ=.ok (.next ρ) aa:=by
 cases o with
 | none=>cases h
 | some x=>cases h; rfl
section
variable (G:Nat->Option PyData) (cf:Nat->List V->ac->Res V)
mutual
noncomputable def pE:E->Fm->ac->Nat->(V->ac->Nat->Prop)->Prop
 | .none=>λ_ σ t k=>k (.d .none) σ t
 | .bool b=>λ_ σ t k=>k (.d (.bool b)) σ t
 | .int i=>λ_ σ t k=>k (.d (.int i)) σ t
 | .str x=>λ_ σ t k=>k (.d (.str x)) σ t
 | .bin op m a b=>λρ σ t k=>pE a ρ σ t λx σ t=>pE b ρ σ t λy σ t=>Gv t (dD op m x y σ) k
 | .var i=>λρ σ t k=>AC (ag G cf (.var i) ρ σ) λv σ=>k v σ t
 | .glob g=>λρ σ t k=>AC (ag G cf (.glob g) ρ σ) λv σ=>k v σ t
 | .dict0=>λ_ σ t k=>k (.loc σ.length) (σ++[.dct []]) t
 | .neg a=>λρ σ t k=>pE a ρ σ t λx σ t=>AC (oc (cq x) (λi=>.ok (.d (.int (-i))) σ) .bad) λv σ=>k v σ t
 | .isx n a=>λρ σ t k=>pE a ρ σ t λx σ t=>AC (I4 n x σ) λv σ=>k v σ t
 | .freeze a=>λρ σ t k=>pE a ρ σ t λx σ t=>∀ {v aa},Jm x σ=.ok v aa->k v aa t
 | .not a=>λρ σ t k=>pE a ρ σ t λx σ t=>Ml (truthy σ x) λb=>k (.d (.bool (!b))) σ t
 | .bop q es=>λρ σ t k=>DX t (pB q es ρ σ (t / 2) k) (∀ {v aa},ag G cf (.bop q es) ρ σ=.ok v aa->k v aa (t / 2))
 | .cmp op a b=>λρ σ t k=>pE a ρ σ t λx σ t=>pE b ρ σ t λy σ t=>Bd t (br op x y σ) λb t=>k (.d (.bool b)) σ t
 | .ite c a b=>λρ σ t k=>pE c ρ σ t λx σ t=>Bd t (truthy σ x) λq t=>match q with
   | true=>pE a ρ σ t k
   | false=>pE b ρ σ t k
 | .tup es=>λρ σ t k=>pL es ρ σ t λvs σ t=>AC (wc vs σ) λv σ=>k v σ t
 | .list m es=>λρ σ t k=>pL es ρ σ t λvs σ t=>AC (zs m vs σ) λv σ=>k v σ t
 | .idx a i=>λρ σ t k=>pE a ρ σ t λx σ t=>pE i ρ σ t λy σ t=>Bd t (df x y σ) λv t=>k v σ t
 | .slc m a lo hi=>λρ σ t k=>pE a ρ σ t λx σ t=>pO lo ρ σ t λl σ t=>pO hi ρ σ t λh σ t=>Gv t (gU m x l h σ) k
 | .call f es=>λρ σ t k=>pL es ρ σ t λvs σ t=>∀ {v aa},cf f vs σ=.ok v aa->AC (iJ v aa) λv σ=>k v σ t
 | .bi b m es=>λρ σ t k=>pL es ρ σ t λvs σ t=>Gv t (zE b m vs σ) k
 | .meth b o es=>λρ σ t k=>pE o ρ σ t λx bq t=>pL es ρ bq t λvs σ t=>∀ {v aa},xo b x bq vs σ=.ok v aa->k v aa t
 | e=>λρ σ t k=>∀ {v aa},ag G cf e ρ σ=.ok v aa->k v aa t
noncomputable def pB (q:Bool):EL->Fm->ac->Nat->(V->ac->Nat->Prop)->Prop
 | .nil=>λ_ _ _ _=>True
 | .cons e es=>λρ σ t k=>match es with
   | .nil=>pE e ρ σ t k
   | es=>pE e ρ σ t λx σ t=>Bd t (truthy σ x) λb t=>match b==q with
     | true=>pB q es ρ σ t k
     | false=>k x σ t
noncomputable def pL:EL->Fm->ac->Nat->(List V->ac->Nat->Prop)->Prop
 | .nil=>λ_ σ t k=>k [] σ t
 | .cons e es=>λρ σ t k=>pE e ρ σ t λx σ t=>pL es ρ σ t λxs σ t=>k (x::xs) σ t
noncomputable def pO:EO->Fm->ac->Nat->(Option V->ac->Nat->Prop)->Prop
 | .no=>λ_ σ t k=>k none σ t
 | .yes e=>λρ σ t k=>pE e ρ σ t λx σ t=>k (some x) σ t
end
mutual
noncomputable def pS:S->Fm->ac->Nat->(Out->ac->Nat->Prop)->Prop
 | .expr e=>λρ σ t k=>pE G cf e ρ σ t λ_ σ t=>k (.next ρ) σ t
 | .asg g e=>λρ σ t k=>pE G cf e ρ σ t λx σ t=>AC (bg (DV g x ρ) σ) λρ σ=>k (.next ρ) σ t
 | .asgT l e=>λρ σ t k=>pE G cf e ρ σ t λx σ t=>AC (oc (ia x) (λds=>if l.length=ds.length then .ok (.next (bv l ds ρ)) σ else .bad) .bad) λo σ=>k o σ t
 | .ite c a b=>λρ σ t k=>pE G cf c ρ σ t λx σ t=>Bd t (truthy σ x) λq t=>match q with
   | true=>Iy a ρ σ t k
   | false=>Iy b ρ σ t k
 | .ret e=>λρ σ t k=>pE G cf e ρ σ t λx σ t=>k (.ret x) σ t
 | .calls g f es=>λρ σ t k=>pL G cf es ρ σ t λvs σ t=>∀ {v aa},cf f vs σ=.ok v aa->AC (je g v ρ aa) λo σ=>k o σ t
 | .raise n es=>λρ σ t k=>pL G cf es ρ σ t λvs σ t=>AC (LT n vs σ) λo σ=>k o σ t
 | s=>λρ σ t k=>∀ {o aa},exec G cf s ρ σ=.ok o aa->k o aa t
noncomputable def Iy:SL->Fm->ac->Nat->(Out->ac->Nat->Prop)->Prop
 | .nil=>λρ σ t k=>k (.next ρ) σ t
 | .cons s r=>λρ σ t k=>pS s ρ σ t λo σ t=>match o with
   | .next ρ=>Iy r ρ σ t k
   | o=>k o σ t
end
mutual
theorem cF:∀ (e:E) {ρ:Fm} {σ:ac} {t:Nat} {k:V->ac->Nat->Prop},(∀ v σ' t,ag G cf e ρ σ=.ok v σ'->k v σ' t)->pE G cf e ρ σ t k
 | .none=>λh=>h _ _ _ rfl
 | .bool _=>λh=>h _ _ _ rfl
 | .int _=>λh=>h _ _ _ rfl
 | .str _=>λh=>h _ _ _ rfl
 | .bin op m a b=>λh=>cF a λx aa t e1=>cF b λy af t e2=>uq λv au t e3=>h _ _ _ (Kn e1 e2 e3)
 | .not a=>λh=>cF a λx aa t e1=>C0 λv e3=>h _ _ _ (jX e1 (by rw [e3]; rfl))
 | .cmp op a b=>λh=>cF a λx aa t e1=>cF b λy af t e2=>lZ λv t e3=>h _ _ _ (Kn e1 e2 (by rw [e3]; rfl))
 | .ite c a b=>λh=>cF c λx aa t e1=>lZ λv t e3=>match v,e3 with
   | true,e3=>cF a λy af t e4=>h _ _ _ (jX e1 (by rw [e3]; exact e4))
   | false,e3=>cF b λy af t e4=>h _ _ _ (jX e1 (by rw [e3]; exact e4))
 | .tup es=>λh=>mW es λx aa t e1=>fF λv au e3=>h _ _ _ (jX e1 e3)
 | .list m es=>λh=>mW es λx aa t e1=>fF λv au e3=>h _ _ _ (jX e1 e3)
 | .idx a i=>λh=>cF a λx aa t e1=>cF i λy af t e2=>lZ λv t e3=>h _ _ _ (Kn e1 e2 (by rw [e3]; rfl))
 | .slc m a lo hi=>λh=>cF a λx aa t e1=>GT lo λy af t e2=>GT hi λy af t e3=>uq λv au t e4=>h _ _ _ (jX e1 (Kn e2 e3 e4))
 | .call f es=>λh=>mW es λx aa t e1=>λe2=>fF λv au e3=>h _ _ _ (jX e1 (jX e2 e3))
 | .bi b m es=>λh=>mW es λx aa t e1=>uq λv au t e3=>h _ _ _ (jX e1 e3)
 | .meth b o es=>λh=>cF o λx aa t e1=>mW es λy af t e2=>λe3=>h _ _ _ (jX e1 (IS e2 e3))
 | .var _=>λh=>fF λv σ=>h v σ _
 | .glob _=>λh=>fF λv σ=>h v σ _
 | .dict0=>λh=>h _ _ _ rfl
 | .neg a=>λh=>cF a λx aa t e1=>fF λv au e3=>h _ _ _ (jX e1 e3)
 | .isx n a=>λh=>cF a λx aa t e1=>fF λv au e3=>h _ _ _ (jX e1 e3)
 | .freeze a=>λh=>cF a λx aa t e1=>λe3=>h _ _ _ (jX e1 e3)
 | .bop q es=>λh=>ur (Cb q es h) λe=>h _ _ _ e
 | .cmp2 ..=>λh=>λe=>h _ _ _ e
 | .comp ..=>λh=>λe=>h _ _ _ e
theorem Cb (q:Bool):∀ (es:EL) {ρ:Fm} {σ:ac} {t:Nat} {k:V->ac->Nat->Prop},(∀ v σ' t,gG G cf q es ρ σ=.ok v σ'->k v σ' t)->pB G cf q es ρ σ t k
 | .nil=>λ_=>trivial
 | .cons e .nil=>λh=>cF e h
 | .cons e (.cons e' es)=>λh=>cF e λx aa t e1=>lZ λb t e2=>match b,q,e2,h with
   | true,true,e2,h=>Cb true (.cons e' es) λv σ' t e3=>h _ _ _ (jX e1 (by rw [e2]; exact e3))
   | false,false,e2,h=>Cb false (.cons e' es) λv σ' t e3=>h _ _ _ (jX e1 (by rw [e2]; exact e3))
   | true,false,e2,h=>h _ _ _ (jX e1 (by rw [e2]; rfl))
   | false,true,e2,h=>h _ _ _ (jX e1 (by rw [e2]; rfl))
theorem mW:∀ (es:EL) {ρ:Fm} {σ:ac} {t:Nat} {k:List V->ac->Nat->Prop},(∀ v σ' t,aW G cf es ρ σ=.ok v σ'->k v σ' t)->pL G cf es ρ σ t k
 | .nil=>λh=>h _ _ _ rfl
 | .cons e es=>λh=>cF e λx aa t e1=>mW es λy af t e2=>h _ _ _ (Kn e1 e2 rfl)
theorem GT:∀ (es:EO) {ρ:Fm} {σ:ac} {t:Nat} {k:Option V->ac->Nat->Prop},(∀ v σ' t,dg G cf es ρ σ=.ok v σ'->k v σ' t)->pO G cf es ρ σ t k
 | .no=>λh=>h _ _ _ rfl
 | .yes e=>λh=>cF e λx aa t e1=>h _ _ _ (jX e1 rfl)
end
mutual
theorem GS:∀ (e:S) {ρ:Fm} {σ:ac} {t:Nat} {k:Out->ac->Nat->Prop},(∀ v σ' t,exec G cf e ρ σ=.ok v σ'->k v σ' t)->pS G cf e ρ σ t k
 | .expr e=>λh=>cF G cf e λx aa t e1=>h _ _ _ (jX e1 rfl)
 | .asg g e=>λh=>cF G cf e λx aa t e1=>fF λv au e3=>h _ _ _ (jX e1 (FG e3))
 | .asgT l e=>λh=>cF G cf e λx aa t e1=>fF λv au e3=>h _ _ _ (jX e1 e3)
 | .ite c a b=>λh=>cF G cf c λx aa t e1=>lZ λv t e3=>match v,e3 with
   | true,e3=>mq a λy af t e4=>h _ _ _ (jX e1 (by rw [e3]; exact e4))
   | false,e3=>mq b λy af t e4=>h _ _ _ (jX e1 (by rw [e3]; exact e4))
 | .ret e=>λh=>cF G cf e λx aa t e1=>h _ _ _ (jX e1 rfl)
 | .calls g f es=>λh=>mW G cf es λx aa t e1=>λe2=>fF λv au e3=>h _ _ _ (jX e1 (jX e2 e3))
 | .raise n es=>λh=>mW G cf es λx aa t e1=>fF λv au e3=>h _ _ _ (jX e1 e3)
 | .put ..=>λh=>λe=>h _ _ _ e
 | .forr ..=>λh=>λe=>h _ _ _ e
 | .pass=>λh=>λe=>h _ _ _ e
 | .stop=>λh=>λe=>h _ _ _ e
 | .tryS ..=>λh=>λe=>h _ _ _ e
theorem mq:∀ (e:SL) {ρ:Fm} {σ:ac} {t:Nat} {k:Out->ac->Nat->Prop},(∀ v σ' t,execs G cf e ρ σ=.ok v σ'->k v σ' t)->Iy G cf e ρ σ t k
 | .nil=>λh=>h _ _ _ rfl
 | .cons s r=>λh=>GS s λo aa t e1=>match o,e1 with
   | .next ρ,e1=>mq r λv σ' t e2=>h _ _ _ (jX e1 e2)
   | .ret v,e1=>h _ _ _ (jX e1 rfl)
   | .exc n ds,e1=>h _ _ _ (jX e1 rfl)
end
end
noncomputable def tl:SL->SL
 | .cons _ r=>r
 | .nil=>.nil
noncomputable def JU:SL->S
 | .cons s _=>s
 | .nil=>.pass
theorem E5 (G:Nat->Option PyData) (cf:Nat->List V->ac->Res V) (e:S) (ρ:Fm) (σ:ac) (t:Nat):pS G cf e ρ σ t λv σ' _=>exec G cf e ρ σ=.ok v σ':=GS G cf e λ_ _ _ h=>h
theorem dA (G:Nat->Option PyData) (cf:Nat->List V->ac->Res V) (e:SL) (ρ:Fm) (σ:ac) (t:Nat):Iy G cf e ρ σ t λv σ' _=>execs G cf e ρ σ=.ok v σ':=mq G cf e λ_ _ _ h=>h
noncomputable def chk (p:Prog) (f:Nat) (args:List V):Option (SL×Nat):=match p.P f with
 | some fn=>if fn.ctor then none else if args.length=fn.np then some (fn.body,fn.ns - fn.np) else none
 | none=>none
theorem wv {f:Nat} (h:chk p f args=some (b,n)) (e:execs p.G (ae p d) b (args++List.replicate n V.un) σ=.ok o σ'):ae p (d+1) f args σ=nz σ.length o σ':=by
 unfold chk at h;show (match p.P f with
   | none=>Res.bad
   | some fn=>if fn.ctor then zv p d fn args σ else if args.length=fn.np then
       (execs p.G (ae p d) fn.body (args++List.replicate (fn.ns - fn.np) V.un) σ).bind λo aa=>nz σ.length o aa
     else .bad)=_
 cases hp:p.P f with
 | none=>rw [hp] at h; cases h
 | some fn=>
   rw [hp] at h;by_cases hc:fn.ctor=true
   . cases (if_pos hc).symm.trans h
   . have h:=(if_neg hc).symm.trans h;by_cases ha:args.length=fn.np
     . cases (if_pos ha).symm.trans h;exact (if_neg hc).trans ((if_pos ha).trans (jX e rfl))
     . cases (if_neg ha).symm.trans h
theorem w0 (p:Prog) (f d:Nat) (args:List V) (σ:ac) (h:chk p f args=some (b,n)) (t:Nat):Iy p.G (ae p d) b (args++List.replicate n V.un) σ t λo σ' _=>ae p (d+1) f args σ=nz σ.length o σ':=mq p.G (ae p d) b λ_ _ _ e=>wv h e
noncomputable def Nu (o:Out) (k:V->Prop):Prop:=match o with
 | .ret (.d x)=>k (.d x)
 | .next _=>k (.d .none)
 | .exc n ds=>k (.exc n ds)
 | _=>True
theorem a5 (p:Prog) (f d:Nat) (args:List V) (σ:ac) (h:chk p f args=some (b,n)) (t:Nat):Iy p.G (ae p d) b (args++List.replicate n V.un) σ t λo σ' _=>Nu o λv=>σ'.take σ.length=σ->ae p (d+1) f args σ=.ok v σ:=mq p.G (ae p d) b λo σ' _ e=>by
 have q:=wv h e;cases o with
 | next ρ=>exact λe=>q.trans (congrArg (Res.ok (V.d .none)) e)
 | exc n ds=>exact λe=>q.trans (congrArg (Res.ok (V.exc n ds)) e)
 | ret v=>cases v with
   | d x=>exact λe=>q.trans (congrArg (Res.ok (V.d x)) e)
   | _=>trivial
noncomputable abbrev dj (vs:Array Value) (n:Nat):Obj:={ cls:=.type "list",dict:=none,data:=.seq vs n,slots:=#[] }
noncomputable abbrev nH (vs:Array Value) (n:Nat):Obj:={ cls:=.type "tuple",dict:=none,data:=.seq vs n,slots:=#[] }
noncomputable def cD (x:Str):Prop:=PyData.strOk x=true/\x.cps.size<=LIM
mutual
inductive Rel (T:Addr->Prop) (h:Heap):Value->PyData->Prop
 | none:Rel T h .none .none
 | bool (b:Bool):Rel T h (.bool b) (.bool b)
 | int (i:Int) (t:Tok):Rel T h (.int i t) (.int i)
 | str (x:Str) (t:Tok):cD x->Rel T h (.str x t) (.str x)
 | list {a:Addr} {vs:Array Value} {n:Nat} {xs:List PyData}:h.get? a=some (dj vs n)->¬ T a->xs.length<=LIM->RelAll T h vs.toList xs->Rel T h (.ref a) (.list xs)
 | tuple {a:Addr} {vs:Array Value} {n:Nat} {xs:List PyData}:h.get? a=some (nH vs n)->¬ T a->xs.length<=LIM->RelAll T h vs.toList xs->Rel T h (.ref a) (.tuple xs)
inductive RelAll (T:Addr->Prop) (h:Heap):List Value->List PyData->Prop
 | nil:RelAll T h [] []
 | cons {v:Value} {vs:List Value} {d:PyData} {ds:List PyData}:Rel T h v d->RelAll T h vs ds->RelAll T h (v::vs) (d::ds)
end
noncomputable def wf (o:Obj) (vs:Array Value) (n:Nat):Prop:=o.data=.seq vs n\/∃ C,o.cls=.ref C/\(o.data=.fields vs\/o.data=.plain)
noncomputable def bB (h:Heap) (a:Addr):Prop:=X3 λo vs n=>h.get? a=some o/\wf o vs n
variable {T T':Addr->Prop} {h h':Heap} {vs:List Value} {P:List Value->List PyData->Prop} {d:PyData} {v:Value}
theorem Rel.mono (H:∀ a o vs n,h.get? a=some o->wf o vs n->¬ T a->h'.get? a=some o/\¬ T' a) (r:Rel T h v d):Rel T' h' v d:=
 Rel.rec (motive_1:=λv d _=>Rel T' h' v d) (motive_2:=λvs ds _=>RelAll T' h' vs ds) .none .bool .int .str (λho ht hl _ ih=>.list (H _ _ _ _ ho (.inl rfl) ht).1 (H _ _ _ _ ho (.inl rfl) ht).2 hl ih)
   (λho ht hl _ ih=>.tuple (H _ _ _ _ ho (.inl rfl) ht).1 (H _ _ _ _ ho (.inl rfl) ht).2 hl ih) .nil (λ_ _ a b=>.cons a b) r
theorem RelAll.ind (h0:P [] []) (h1:∀ {v vs d ds},Rel T h v d->P vs ds->P (v::vs) (d::ds)) (r:RelAll T h vs ds):P vs ds:=
 RelAll.rec (motive_1:=λ_ _ _=>True) (motive_2:=λvs ds _=>P vs ds) trivial (λ_=>trivial) (λ_ _=>trivial) (λ_ _ _=>trivial) (λ_ _ _ _ _=>trivial) (λ_ _ _ _ _=>trivial) h0 (λr _ _ ih=>h1 r ih) r
theorem RelAll.mono (H:∀ a o vs n,h.get? a=some o->wf o vs n->¬ T a->h'.get? a=some o/\¬ T' a) (r:RelAll T h vs ds):RelAll T' h' vs ds:=
 r.ind .nil λr ih=>.cons (r.mono H) ih
theorem Rel.reads (r:Rel T h v d):∃ as,Reads h v d as:=
 Rel.rec (motive_1:=λv d _=>∃ as,Reads h v d as) (motive_2:=λvs ds _=>∃ as,ReadsAll h vs ds as) ⟨_,.none⟩ (λb=>⟨_,.bool b⟩) (λi t=>⟨_,.int i t⟩) (λx t _=>⟨_,.str x t⟩)
   (λho _ _ _ ih=>ih.elim λ_ q=>⟨_,.list ho rfl rfl q⟩) (λho _ _ _ ih=>ih.elim λ_ q=>⟨_,.tuple ho rfl rfl q⟩) ⟨_,.nil⟩ (λ_ _ a b=>a.elim λ_ p=>b.elim λ_ q=>⟨_,.cons p q⟩) r
theorem RelAll.reads (r:RelAll T h vs ds):∃ as,ReadsAll h vs ds as:=r.ind (P:=λvs ds=>∃ as,ReadsAll h vs ds as) ⟨_,.nil⟩ λr ih=>r.reads.elim λ_ p=>ih.elim λ_ q=>⟨_,.cons p q⟩
theorem Rel.lay (r:Rel T h v d):d.canLay0=true:=
 Rel.rec (motive_1:=λv d _=>d.canLay0=true) (motive_2:=λvs ds _=>PyData.canLayAll0 ds=true) rfl (λ_=>rfl) (λ_ _=>rfl) (λ_ _ e=>e.1) (λ_ _ _ _ ih=>ih) (λ_ _ _ _ ih=>ih) rfl (λ_ _ a b=>NH.mpr ⟨a,b⟩) r
theorem RelAll.lay (r:RelAll T h vs ds):PyData.canLayAll0 ds=true:=r.ind (P:=λ_ ds=>PyData.canLayAll0 ds=true) rfl λr ih=>NH.mpr ⟨r.lay,ih⟩
theorem RelAll.inv (r:RelAll T h vs (d::ds)):X2 λv vs'=>A3 (vs=v::vs') (Rel T h v d) (RelAll T h vs' ds):=by
 cases r with
 | cons r rs=>exact ⟨_,_,rfl,r,rs⟩
theorem RelAll.inv0 (r:RelAll T h vs []):vs=[]:=by cases r; rfl
theorem RelAll.length (r:RelAll T h vs ds):vs.length=ds.length:=by
 induction ds generalizing vs with
 | nil=>rw [r.inv0]; rfl
 | cons d ds ih=>obtain ⟨v,vs',rfl,_,rs⟩:=r.inv;rw [NU,NU,ih rs]
theorem RelAll.append {ws:List Value} {es:List PyData} (r:RelAll T h vs ds) (q:RelAll T h ws es):RelAll T h (vs++ws) (ds++es):=by
 induction ds generalizing vs with
 | nil=>rw [r.inv0]; exact q
 | cons d ds ih=>obtain ⟨v,vs',rfl,x,rs⟩:=r.inv;exact .cons x (ih rs)
theorem RelAll.get {vs:List Value} {ds:List PyData} (r:RelAll T h vs ds) {k:Nat} {d:PyData} (e:ds[k]?=some d):∃ v,vs[k]?=some v/\Rel T h v d:=by
 induction ds generalizing vs k with
 | nil=>cases e
 | cons d' ds ih=>
   obtain ⟨v,vs',rfl,x,rs⟩:=r.inv;cases k with
   | zero=>cases e; exact ⟨_,rfl,x⟩
   | succ k=>exact ih rs e
theorem RelAll.getV (r:RelAll T h vs ds) (e:vs[k]?=some v):∃ d,ds[k]?=some d/\Rel T h v d:=by
 have hk:k < ds.length:=by rw [<- r.length]; exact (NK.mp e).1
 obtain ⟨w,hw,q⟩:=r.get (NC hk);rw [e] at hw;cases hw;exact ⟨_,NC hk,q⟩
theorem RelAll.drop (k:Nat) (r:RelAll T h vs ds):RelAll T h (vs.drop k) (ds.drop k):=by
 induction k generalizing vs ds with
 | zero=>exact r
 | succ k ih=>cases ds with
   | nil=>rw [r.inv0]; exact .nil
   | cons d ds=>obtain ⟨v,vs',rfl,_,rs⟩:=r.inv;exact ih rs
theorem RelAll.take (k:Nat) (r:RelAll T h vs ds):RelAll T h (vs.take k) (ds.take k):=by
 induction k generalizing vs ds with
 | zero=>exact .nil
 | succ k ih=>cases ds with
   | nil=>rw [r.inv0]; exact .nil
   | cons d ds=>obtain ⟨v,vs',rfl,x,rs⟩:=r.inv;exact .cons x (ih rs)
theorem RelAll.one (r:Rel T h v d):RelAll T h [v] [d]:=.cons r .nil
noncomputable def Cell.live:Cell->Bool
 | .lst _ | .dct _=>true
 | _=>false
noncomputable def Cell.isGone:Cell->Bool
 | .gone=>true
 | _=>false
variable {c:Cell}
theorem Cell.live_not_gone (h:c.live=true):c.isGone=false:=by cases c <;> first | rfl | cases h
noncomputable def TT (β:List Addr) (σ:ac) (a:Addr):Prop:=X2 λ(k:Nat) (c:Cell)=>A3 (β[k]?=some a) (σ[k]?=some c) (c.isGone=false)
noncomputable def WW (β:List Addr) (σ:ac) (a:Addr):Prop:=X2 λ(k:Nat) (c:Cell)=>A3 (β[k]?=some a) (σ[k]?=some c) (c.live=true)
variable {a:Addr} {β:List Addr}
theorem WW.tt:WW β σ a->TT β σ a:=λ⟨k,c,h1,h2,h3⟩=>⟨k,c,h1,h2,Cell.live_not_gone h3⟩
theorem TT.mem:TT β σ a->a∈β:=λ⟨_,_,h1,_,_⟩=>NI h1
structure Cx where
 prog:Program
 w:World
 h₀:Heap
 mg:Str->Option Value
 mb:Str->Option Value
 fr:List Addr
 /-- code that may run while an exception is handled -/
 q:Bool
 /-- the methods of the class Runner -/
 mn:Str->Option Value
noncomputable def jh (Z:Cx) (T:Addr->Prop) (h hd:Heap) (a:Addr) (l:List (Str×PyData)):Prop:=
 ∃ kvs:List (Str×Value),A5 (h.DictOf (strKind Z.prog Z.w) a kvs) (kvs.map (·.1)=l.map (·.1)) (RelAll T hd (kvs.map (·.2)) (l.map (·.2))) ((∀ k∈l.map (·.1),cD k)) (l.length<=LIM)
noncomputable def eX (Z:Cx) (T:Addr->Prop) (h hd:Heap) (a:Addr):Cell->Prop
 | .lst l=>X2 λvs n=>A3 (h.get? a=some (dj vs n)) (RelAll T hd vs.toList l) (l.length<=LIM)
 | .dct l=>jh Z T h hd a l
 | _=>∃ o,h.get? a=some o
structure Inv (Z:Cx) (β:List Addr) (σ:ac) (h:Heap):Prop where
 len:β.length=σ.length
 nodup:β.Nodup
 base:∀ a o,Z.h₀.get? a=some o->h.get? a=some o
 fresh:∀ a∈β,Z.h₀.get? a=none
 cell:∀ (k:Nat) (a:Addr) (c:Cell),β[k]?=some a->σ[k]?=some c->eX Z (TT β σ) h h a c
noncomputable def fD (o:Obj):Prop:=X2 λes n=>o.data=.dict es n
structure Step (O:Addr->Prop) (β:List Addr) (σ:ac) (s:Shared) (β':List Addr) (σ':ac) (s':Shared):Prop where
 ext:∃ e,β'=β++e/\∀ a∈e,s.heap.get? a=none
 mono:∀ (k:Nat) (c':Cell),k < β.length->σ'[k]?=some c'->∃ c,A4 (σ[k]?=some c) ((c'.live=true->c.live=true)) ((c.isGone=true->c'.isGone=true)) (c=.busy->c'=.busy)
 keepW:∀ a o,s.heap.get? a=some o->¬ WW β σ a->¬ O a->s'.heap.get? a=some o\/(fD o/\a∉β/\∃ sl,s'.heap.get? a=some { o with slots:=sl })
 alive:∀ a,s'.heap.get? a=none->s.heap.get? a=none
 gens:s'.gens=s.gens
 os:s'.os=s.os
abbrev bV:Addr->Prop:=λ_=>False
variable {x:Addr} {O' O:Addr->Prop} {Z:Cx} {hd:Heap} {ah aL:List Addr} {o:Obj} {s ai aj:Shared}
theorem eX.ex (r:eX Z T h hd a c):∃ o,h.get? a=some o:=by
 cases c with
 | lst _=>obtain ⟨_,_,e,_⟩:=r; exact ⟨_,e⟩
 | dct _=>obtain ⟨_,⟨o,_,_,e,_⟩,_⟩:=r; exact ⟨o,e⟩
 | gone=>exact r
 | busy=>exact r
theorem Inv.at (I:Inv Z β σ h) (hk:β[k]?=some a):∃ c,σ[k]?=some c/\eX Z (TT β σ) h h a c:=by
 have hlt:k < σ.length:=by rw [<- I.len]; exact (NK.mp hk).1
 exact ⟨σ[k],NC hlt,I.cell k a _ hk (NC hlt)⟩
theorem Inv.ex (I:Inv Z β σ h) (ha:a∈β):∃ o,h.get? a=some o:=by obtain ⟨k,hk⟩:=Qi ha;obtain ⟨c,_,r⟩:=I.at hk;exact r.ex
theorem Step.keep (a:Step O β σ s ah aa ai) (x:Addr) (o:Obj) (hx:s.heap.get? x=some o) (hw:¬ WW β σ x) (hO:¬ O x) (hn:¬ fD o):ai.heap.get? x=some o:=(a.keepW x o hx hw hO).resolve_right λq=>hn q.1
theorem Hc (h:∀ a o,s.heap.get? a=some o->¬ WW β σ a->¬ O a->ai.heap.get? a=some o):∀ a o,s.heap.get? a=some o->¬ WW β σ a->¬ O a->ai.heap.get? a=some o\/(fD o/\a∉β/\∃ sl,ai.heap.get? a=some { o with slots:=sl }):=λa o e w n=>.inl (h a o e w n)
theorem r0 {vs:Array Value} (h:wf o vs n):¬ fD o:=λ⟨es,m,q⟩=>by rcases h with h | ⟨_,_,h | h⟩ <;> rw [h] at q <;> cases q
noncomputable def ey (Z:Cx) (β:List Addr) (h:Heap):Prop:=∀ f∈Z.fr,(∃ o,h.get? f=some o/\fD o)/\f∉β/\Z.h₀.get? f=none
theorem ey.step (F:ey Z β s.heap) (S:Step O β σ s ah aa ai) (hO:∀ f∈Z.fr,¬ O f):ey Z ah ai.heap:=λf hf=>by
 obtain ⟨⟨o,e,q⟩,nb,n0⟩:=F f hf;refine ⟨?_,λm=>?_,n0⟩
 . rcases S.keepW f o e (λz=>nb z.tt.mem) (hO f hf) with h | ⟨_,_,sl,h⟩
   . exact ⟨o,h,q⟩
   . exact ⟨_,h,q⟩
 . obtain ⟨l,rfl,g⟩:=S.ext;rcases NR.mp m with m | m
   . exact nb m
   . rw [g f m] at e; cases e
theorem ey.not (F:ey Z β h) (e:h.get? a=none):a∉Z.fr:=λm=>by obtain ⟨⟨o,q,_⟩,_⟩:=F a m;rw [e] at q; cases q
theorem ey.grow (F:ey Z β h) (hk:∀ f o,f∈Z.fr->h.get? f=some o->fD o->∃ o',h'.get? f=some o'/\fD o'):ey Z β h':=λf hf=>by obtain ⟨⟨o,e,q⟩,r⟩:=F f hf;exact ⟨hk f o hf e q,r⟩
theorem Step.refl:Step O β σ s β σ s:=
 ⟨⟨[],by simp,by simp⟩,λk c' _ e=>⟨c',e,id,id,id⟩,Hc λ_ _ e _ _=>e,λ_ e=>e,rfl,rfl⟩
theorem Step.trans (a:Step O β σ s ah aa ai) (b:Step O ah aa ai aL af aj):Step O β σ s aL af aj:=by
 obtain ⟨e1,rfl,f1⟩:=a.ext;obtain ⟨e2,rfl,f2⟩:=b.ext;refine ⟨⟨e1++e2,by simp,λx hx=>?_⟩,λk c' hk hc=>?_,λx o hx hw hO=>?_,λx hx=>a.alive x (b.alive x hx),b.gens.trans a.gens,b.os.trans a.os⟩
 . rcases NR.mp hx with h1 | h1
   . exact f1 x h1
   . exact a.alive x (f2 x h1)
 . obtain ⟨c1,g1,g2,g3,g4⟩:=b.mono k c' (by rw [ND]; exact OF hk (NZ ..)) hc;obtain ⟨c,k1,k2,k3,k4⟩:=a.mono k c1 hk g1;exact ⟨c,k1,λz=>k2 (g2 z),λz=>g3 (k3 z),λz=>g4 (k4 z)⟩
 . have nw:¬ WW (β++e1) aa x:=?_
   . rcases a.keepW x o hx hw hO with q | ⟨f,nb,sl,q⟩
     . exact (b.keepW x o q nw hO).imp id λ⟨f,n,r⟩=>⟨f,λm=>n (OD _ m),r⟩
     . rcases b.keepW x _ q nw hO with q' | ⟨_,_,sl',q'⟩
       . exact .inr ⟨f,nb,sl,q'⟩
       . exact .inr ⟨f,nb,sl',q'⟩
   rintro ⟨k,c,h1,h2,h3⟩
   by_cases hk:k < β.length
   . obtain ⟨c0,k1,k2,_⟩:=a.mono k c hk h2;exact hw ⟨k,c0,by rwa [N4 hk] at h1,k1,k2 h3⟩
   . rw [N6 (OE hk)] at h1;have:=f1 x (NI h1);rw [hx] at this; cases this
theorem Step.weaken (a:Step O β σ s ah aa ai) (hO:∀ x,O x->O' x):Step O' β σ s ah aa ai:=
 ⟨a.ext,a.mono,λx o hx hw hn=>a.keepW x o hx hw λz=>hn (hO x z),a.alive,a.gens,a.os⟩
theorem Step.ofNo (a:Step bV β σ s ah aa ai):Step O β σ s ah aa ai:=a.weaken λ_ z=>z.elim
theorem Step.drop (a:Step O β σ s ah aa ai) (hO:∀ x,O x->s.heap.get? x=none):Step bV β σ s ah aa ai:=
 ⟨a.ext,a.mono,λx o hx hw _=>a.keepW x o hx hw (λz=>by rw [hO x z] at hx; cases hx),a.alive,a.gens,a.os⟩
theorem Step.notTT (a:Step O β σ s ah aa ai) (hx:s.heap.get? x=some o) (ht:¬ TT β σ x):¬ TT ah aa x:=by
 rintro ⟨k,c,h1,h2,h3⟩
 obtain ⟨e,rfl,f⟩:=a.ext;by_cases hk:k < β.length
 . obtain ⟨c0,k1,k2,k3,_⟩:=a.mono k c hk h2;refine ht ⟨k,c0,by rwa [N4 hk] at h1,k1,?_⟩;cases hg:c0.isGone with
   | false=>rfl
   | true=>rw [k3 hg] at h3; cases h3
 . rw [N6 (OE hk)] at h1;have:=f x (NI h1);rw [hx] at this; cases this
theorem Step.relH (a:Step O β σ s ah aa ai) (hO:∀ x,O x->¬ bB s.heap x) :
   ∀ x o vs n,s.heap.get? x=some o->wf o vs n->¬ TT β σ x->ai.heap.get? x=some o/\¬ TT ah aa x:=
 λx o vs n hx hd ht=>⟨a.keep x o hx (λz=>ht z.tt) (λz=>hO x z ⟨o,vs,n,hx,hd⟩) (r0 hd),a.notTT hx ht⟩
theorem Step.rel (a:Step O β σ s ah aa ai) (hO:∀ x,O x->¬ bB s.heap x) (r:Rel (TT β σ) s.heap v d):Rel (TT ah aa) ai.heap v d:=r.mono (a.relH hO)
theorem Step.relAll (a:Step O β σ s ah aa ai) (hO:∀ x,O x->¬ bB s.heap x) (r:RelAll (TT β σ) s.heap vs ds):RelAll (TT ah aa) ai.heap vs ds:=r.mono (a.relH hO)
theorem Step.get (a:Step O β σ s ah aa ai) (hk:β[k]?=some x):ah[k]?=some x:=by obtain ⟨e,rfl,_⟩:=a.ext;rw [N4 (NK.mp hk).1]; exact hk
inductive InstRel (β:List Addr) (σ:ac) (h:Heap) (v:Value) (k:Nat) (l:List (Str×Nat)):Prop where
 | mk (x:Addr) (o:Obj) (D:Addr) (h1:v=.ref x) (h2:h.get? x=some o) (h3:o.cls=.ref RA/\(∀ c,o.data≠.cls c)/\o.dict=some D) (h4:β[k+1]?=some x/\¬ TT β σ x) (h5:β[k]?=some D/\¬ TT β σ D/\D≠x)
   (m:Str->Option Value) (h6:h.Ns1 D m) (h7:∀ y,m y≠none->y=jg\/y=Hn) (h8:∀ y,(l.lookup y=none->m y=none)/\∀ j,l.lookup y=some j->∃ b,β[j]?=some b/\m y=some (.ref b)):InstRel β σ h v k l
variable {β':List Addr}
theorem InstRel.mono {l:List (Str×Nat)} (r:InstRel β σ h v k l)
   (hb:∀ (j:Nat) (b:Addr),β[j]?=some b->β'[j]?=some b) (hg:∀ D o,D∈β->h.get? D=some o->¬ TT β σ D->h'.get? D=some o/\¬ TT β' σ' D):InstRel β' σ' h' v k l:=by
 obtain ⟨x,o,D,h1,h2,h3,⟨h4,h4'⟩,⟨h5,h6,h7⟩,m,h8,h8',h9⟩:=r;have q:=hg x o (NI h4) h2 h4';have hm:=NI h5;refine ⟨x,o,D,h1,q.1,h3,⟨hb _ x h4,q.2⟩,⟨hb k D h5,?_,h7⟩,m,h8.at λo' z=>(hg D o' hm z h6).1,h8',λy=>⟨(h9 y).1,λj z=>let ⟨b,z1,z2⟩:=(h9 y).2 j z; ⟨b,hb j b z1,z2⟩⟩⟩;obtain ⟨o',_,_,z,_⟩:=h8;exact (hg D o' hm z h6).2
noncomputable def aw (β:List Addr) (σ:ac) (h:Heap) (v:Value):V->Prop
 | .un=>False
 | .d x=>Rel (TT β σ) h v x
 | .loc n=>∃ a,β[n]?=some a/\v=.ref a
 | .locs ns=>X3 λa vs n=>A5 (v=.ref a) (h.get? a=some (dj vs n)) (¬ TT β σ a) ((vs.toList.length=ns.length/\ns.length<=LIM)) (∀ (k:Nat) (m:Nat),ns[k]?=some m->∃ b,β[m]?=some b/\vs[k]?=some (.ref b))
 | .exc k ds=>X3 λe o vs=>A4 (v=.ref e) (h.get? e=some o) ((o.cls=.ref (KA k)/\o.data=.fields vs/\(1<=k/\k<=6))) (¬ TT β σ e)
 | .inst k l=>InstRel β σ h v k l
inductive VRels (β:List Addr) (σ:ac) (h:Heap):List Value->List V->Prop
 | nil:VRels β σ h [] []
 | cons {v:Value} {vs:List Value} {x:V} {xs:List V}:aw β σ h v x->VRels β σ h vs xs->VRels β σ h (v::vs) (x::xs)
variable {g7 c':Cell} {hd':Heap}
theorem Step.vrel0 (a:Step bV β σ s ah aa ai) {x:V} (r:aw β σ s.heap v x):aw ah aa ai.heap v x:=by
 cases x with
 | un=>exact r
 | d _=>exact a.rel (λ_ z=>z.elim) r
 | loc _=>obtain ⟨x,h1,h2⟩:=r; exact ⟨x,a.get h1,h2⟩
 | locs ns=>obtain ⟨x,vs,n,h1,h2,h3,h4,h5⟩:=r;exact ⟨x,vs,n,h1,(a.relH (λ_ z=>z.elim) _ _ _ _ h2 (.inl rfl) h3).1,(a.relH (λ_ z=>z.elim) _ _ _ _ h2 (.inl rfl) h3).2,h4,λk m e=>(h5 k m e).elim λb g=>⟨b,a.get g.1,g.2⟩⟩
 | exc _ _=>obtain ⟨e,o,vs,h1,h2,h3,h4⟩:=r; exact ⟨e,o,vs,h1,(a.relH (λ_ z=>z.elim) e o vs 0 h2 (.inr ⟨_,h3.1,.inl h3.2.1⟩) h4).1,h3,(a.relH (λ_ z=>z.elim) e o vs 0 h2 (.inr ⟨_,h3.1,.inl h3.2.1⟩) h4).2⟩
 | inst k l=>exact InstRel.mono r (λ_ _ e=>a.get e) λD o hm e t=>⟨(a.keepW D o e (λz=>t z.tt) id).resolve_right λq=>q.2.1 hm,a.notTT e t⟩
theorem Step.rel0 (a:Step bV β σ s ah aa ai) (r:Rel (TT β σ) s.heap v d):Rel (TT ah aa) ai.heap v d:=a.rel (λ_ z=>z.elim) r
theorem Step.relAll0 (a:Step bV β σ s ah aa ai) {v:List Value} {d:List PyData} (r:RelAll (TT β σ) s.heap v d):RelAll (TT ah aa) ai.heap v d:=a.relAll (λ_ z=>z.elim) r
theorem Step.grow (hk:∀ a o,s.heap.get? a=some o->ai.heap.get? a=some o) (hg:ai.gens=s.gens) (ho:ai.os=s.os):Step O β σ s β σ ai:=
 ⟨⟨[],by simp,by simp⟩,λk c' _ e=>⟨c',e,id,id,id⟩,Hc λa o e _ _=>hk a o e,λa e=>(by
   cases q:s.heap.get? a with
   | none=>rfl
   | some o=>rw [hk a o q] at e; cases e),hg,ho⟩
theorem jh.mono {l:List (Str×PyData)} (r:jh Z T h hd a l) (ha:∀ o,h.get? a=some o->h'.get? a=some o)
   (H:∀ a o vs n,hd.get? a=some o->wf o vs n->¬ T a->hd'.get? a=some o/\¬ T' a):jh Z T' h' hd' a l:=by
 obtain ⟨kvs,⟨o,es,ep,e1,e2⟩,q,r,st,su⟩:=r;exact ⟨kvs,⟨o,es,ep,ha _ e1,e2⟩,q,r.mono H,st,su⟩
theorem eX.mono (r:eX Z T h hd a c) (ha:∀ o,h.get? a=some o->h'.get? a=some o)
   (H:∀ a o vs n,hd.get? a=some o->wf o vs n->¬ T a->hd'.get? a=some o/\¬ T' a):eX Z T' h' hd' a c:=by
 cases c with
 | lst l=>obtain ⟨vs,n,e,r,z⟩:=r; exact ⟨vs,n,ha _ e,r.mono H,z⟩
 | dct l=>exact jh.mono r ha H
 | gone=>obtain ⟨o,e⟩:=r; exact ⟨o,ha _ e⟩
 | busy=>obtain ⟨o,e⟩:=r; exact ⟨o,ha _ e⟩
theorem Inv.grow (I:Inv Z β σ h) (hk:∀ a o,h.get? a=some o->h'.get? a=some o):Inv Z β σ h':=
 ⟨I.len,I.nodup,λa o e=>hk a o (I.base a o e),I.fresh,λk a c h1 h2=>(I.cell k a c h1 h2).mono (λo e=>hk a o e) λa o _ _ e _ t=>⟨hk a o e,t⟩⟩
theorem zH (hl:β.length=σ.length):TT (β++[a]) (σ++[c]) x↔TT β σ x\/(x=a/\c.isGone=false):=by
 constructor
 . rintro ⟨k,c',h1,h2,h3⟩
   by_cases hk:k < β.length
   . rw [N4 hk] at h1;rw [N4 (hl ▸ hk)] at h2;exact .inl ⟨k,c',h1,h2,h3⟩
   . rw [N6 (OE hk)] at h1;rw [N6 (hl ▸ OE hk)] at h2;have e:k - β.length=0:=Qu.mp (NK.mp h1).1;rw [e] at h1;rw [<- hl,e] at h2;simp at h1 h2;subst h1 h2;exact .inr ⟨rfl,h3⟩
 . rintro (⟨k,c',h1,h2,h3⟩ | ⟨rfl,h3⟩)
   . exact ⟨k,c',by rw [N4 (NK.mp h1).1]; exact h1,by rw [N4 (NK.mp h2).1]; exact h2,h3⟩
   . exact ⟨β.length,c,by simp,by rw [hl]; simp,h3⟩
theorem tG (I:Inv Z β σ s.heap) (hk:∀ a o,s.heap.get? a=some o->ai.heap.get? a=some o) (hf:s.heap.get? a=none) (hg:ai.gens=s.gens) (ho:ai.os=s.os)
   (hc:eX Z (TT β σ) ai.heap s.heap a c):Step O β σ s (β++[a]) (σ++[c]) ai/\Inv Z (β++[a]) (σ++[c]) ai.heap:=by
 have hna:a∉β:=λm=>by obtain ⟨o,e⟩:=I.ex m; rw [hf] at e; cases e
 have H0:∀ x o vs n,s.heap.get? x=some o->wf o vs n->¬ TT β σ x->ai.heap.get? x=some o/\¬ TT (β++[a]) (σ++[c]) x:=λx o vs n e d t=>⟨hk x o e,λz=>((zH I.len).mp z).elim t λq=>by rw [q.1,hf] at e; cases e⟩
 refine ⟨⟨⟨[a],rfl,by simpa using hf⟩,λk c' hk' e=>?_,Hc λx o e _ _=>hk x o e,λx e=>?_,hg,ho⟩,⟨by simp [I.len],?_,λx o e=>hk x o (I.base x o e),?_,?_⟩⟩
 . rw [N4 (by rw [<- I.len]; exact hk')] at e;exact ⟨c',e,id,id,id⟩
 . cases q:s.heap.get? x with
   | none=>rfl
   | some o=>rw [hk x o q] at e; cases e
 . rw [Pf];exact ⟨I.nodup,by simp,λx hx y hy=>by simp at hy; subst hy; rintro rfl; exact hna hx⟩
 . intro x hx;rcases NR.mp hx with h1 | h1
   . exact I.fresh x h1
   . simp at h1; subst h1;cases q:Z.h₀.get? x with
     | none=>rfl
     | some o=>rw [I.base x o q] at hf; cases hf
 . intro k x c' h1 h2;by_cases hk':k < β.length
   . rw [N4 hk'] at h1;rw [N4 (by rw [<- I.len]; exact hk')] at h2;exact (I.cell k x c' h1 h2).mono (λo e=>hk x o e) H0
   . rw [N6 (OE hk')] at h1;rw [N6 (by rw [<- I.len]; exact OE hk')] at h2;have e:k - β.length=0:=Qu.mp (NK.mp h1).1;rw [e] at h1;rw [<- I.len,e] at h2;simp at h1 h2;subst h1 h2;exact hc.mono (λo e=>e) H0
theorem dB (hne:n≠k):(σ.set n c)[k]?=σ[k]?:=by simp [hne]
theorem cQ (hn:σ[n]?=some g7):(σ.set n c)[n]?=some c:=by have:=(NK.mp hn).1;simp [this]
theorem dH {P:Prop} (hn:σ[n]?=some g7) (e:(σ.set n c)[k]?=some c') (h1:k=n->c'=c->P) (h2:n≠k->σ[k]?=some c'->P):P:=by
 by_cases hne:n=k
 . rw [<- hne,cQ hn] at e; exact h1 hne.symm (Option.some.inj e).symm
 . rw [dB hne] at e; exact h2 hne e
theorem l5 (hn:σ[n]?=some g7) (hg:g7.isGone=false) (z:TT β (σ.set n c) x):TT β σ x:=by obtain ⟨k,c',h1,h2,h3⟩:=z;exact dH hn h2 (λe _=>⟨k,g7,h1,e ▸ hn,hg⟩) λ_ h2=>⟨k,c',h1,h2,h3⟩
theorem Inv.addr_ne (I:Inv Z β σ h) (hb:β[n]?=some a) (h1:β[k]?=some x) (hne:n≠k):x≠a:=λq=>hne ((List.getElem?_inj (NK.mp hb).1 I.nodup).mp (hb.trans (q ▸ h1).symm))
theorem Inv.setc (I:Inv Z β σ h) (hb:β[n]?=some a) (hn:σ[n]?=some g7) (base:∀ x o,Z.h₀.get? x=some o->h'.get? x=some o) (keep:∀ x o,x≠a->h.get? x=some o->h'.get? x=some o)
   (H0:∀ x o vs n',h.get? x=some o->wf o vs n'->¬ TT β σ x->h'.get? x=some o/\¬ TT β (σ.set n c) x) (hc:eX Z (TT β (σ.set n c)) h' h' a c):Inv Z β (σ.set n c) h':=
 ⟨I.len.trans (PY ..).symm,I.nodup,base,I.fresh,λk x c' h1 h2=>dH hn h2 (λe e'=>by rw [e',Option.some.inj (h1.symm.trans (e ▸ hb))]; exact hc) λhne h2=>(I.cell k x c' h1 h2).mono (λo e=>keep x o (I.addr_ne hb h1 hne) e) H0⟩
theorem mi (I:Inv Z β σ s.heap) (hb:β[n]?=some a) (hn:σ[n]?=some g7) (hl:g7.live=true) (hlc:c.live=true) (hk:∀ x o,x≠a->s.heap.get? x=some o->ai.heap.get? x=some o)
   (hg:ai.gens=s.gens) (ho:ai.os=s.os) (hc:eX Z (TT β σ) ai.heap s.heap a c):Step O β σ s β (σ.set n c) ai/\Inv Z β (σ.set n c) ai.heap:=by
 have gn:=Cell.live_not_gone hl;have H0:∀ x o vs n',s.heap.get? x=some o->wf o vs n'->¬ TT β σ x->ai.heap.get? x=some o/\¬ TT β (σ.set n c) x:=λx o vs n' e d t=>⟨hk x o (λq=>t (q ▸ ⟨n,g7,hb,hn,gn⟩)) e,λz=>t (l5 hn gn z)⟩
 refine ⟨⟨⟨[],(NX _).symm,λ_ z=>absurd z Oy⟩,λk c' hk' e=>dH hn e (λe _=>⟨g7,e ▸ hn,λ_=>hl,λz=>absurd (gn.symm.trans z) NY,λz=>absurd hl (z ▸ NY)⟩) λ_ e=>⟨c',e,id,id,id⟩,Hc λx o e hw _=>hk x o (λq=>hw (q ▸ ⟨n,g7,hb,hn,hl⟩)) e,λx e=>?_,hg,ho⟩,
   I.setc hb hn (λx o e=>hk x o (λq=>?_) (I.base x o e)) hk H0 (hc.mono (λo e=>e) H0)⟩
 . cases q:s.heap.get? x with
   | none=>rfl
   | some o=>
     by_cases hx:x=a
     . obtain ⟨o',e'⟩:=hc.ex; rw [hx,e'] at e; cases e
     . rw [hk x o hx q] at e; cases e
 . exact Qn o (e.symm.trans (q ▸ I.fresh a (NI hb)))
theorem tr (I:Inv Z β σ s.heap) (hb:β[n]?=some a) (hn:σ[n]?=some g7) (hl:g7.live=true) (hc:c.live=false):Step O β σ s β (σ.set n c) s/\Inv Z β (σ.set n c) s.heap:=by
 have hg:=Cell.live_not_gone hl;refine ⟨⟨⟨[],(NX _).symm,λ_ z=>absurd z Oy⟩,λk c' hk' e=>dH hn e (λe e'=>⟨g7,e ▸ hn,λz=>absurd (hc.symm.trans (e' ▸ z)) NY,λz=>absurd (hg.symm.trans z) NY,λz=>absurd hl (z ▸ NY)⟩) λ_ e=>⟨c',e,id,id,id⟩,Hc λx o e hw _=>e,λx e=>e,rfl,rfl⟩,
   I.setc hb hn I.base (λ_ _ _ e=>e) (λx o vs n' e d t=>⟨e,λz=>t (l5 hn hg z)⟩) ?_⟩
 have z:=(I.cell n a g7 hb hn).ex;cases c with
 | lst l=>cases hc
 | dct l=>cases hc
 | gone=>exact z
 | busy=>exact z
theorem xF (I:Inv Z β σ s.heap) (hb:β[n]?=some a) (hn:σ[n]?=some (.lst l)):Rel (TT β (σ.set n .gone)) s.heap (.ref a) (.list l):=by
 obtain ⟨vs,m,e,r,hz⟩:=I.cell n a _ hb hn;refine .list e ?_ hz (r.mono λx o vs n' e d t=>⟨e,λz=>t (l5 hn rfl z)⟩)
 rintro ⟨k,c',h1,h2,h3⟩
 exact dH hn h2 (λ_ e=>OQ (h3.symm.trans (congrArg Cell.isGone e))) λhne _=>I.addr_ne hb h1 hne rfl
theorem zR (I:Inv Z β σ s.heap) (hb:β[n]?=some a) (hn:σ[n]?=some (.lst l)) (S:Step O β (σ.set n .busy) s ah aa ai) (hO:∀ x,O x->¬ bB s.heap x) (al:Inv Z ah aa ai.heap) :
   Step O β σ s ah (aa.set n (.lst l)) ai/\Inv Z ah (aa.set n (.lst l)) ai.heap:=by
 obtain ⟨vs,m,e,r,hz⟩:=I.cell n a _ hb hn;have G5:=S.get hb;have ua:=S.keep a _ e (λ⟨k,c',h1,h2,h3⟩=>dH hn h2 (λ_ e=>OQ (h3.symm.trans (congrArg Cell.live e))) λhne _=>I.addr_ne hb h1 hne rfl) (λz=>hO a z ⟨_,vs,m,e,.inl rfl⟩) (r0 (.inl rfl));have lI:aa[n]?=some .busy:=by obtain ⟨Mr,lI,_⟩:=al.at G5;obtain ⟨c',k1,k2,k3,k4⟩:=S.mono n Mr (NK.mp hb).1 lI;rw [cQ hn] at k1;rw [lI,k4 (Option.some.inj k1).symm]
 have H0:∀ x o vs' n',ai.heap.get? x=some o->wf o vs' n'->¬ TT ah aa x->ai.heap.get? x=some o/\¬ TT ah (aa.set n (.lst l)) x:=λx o _ _ ex _ t=>⟨ex,λz=>t (l5 lI rfl z)⟩;refine ⟨⟨S.ext,λk c' hk e=>dH lI e (λe e'=>⟨_,e ▸ hn,(λ_=>rfl),(λz=>by cases z),λz=>by cases z⟩) λhne e=>?_,λx o ex hw hO'=>S.keepW x o ex (λ⟨k,c',h1,h2,h3⟩=>dH hn h2 (λ_ e=>OQ (h3.symm.trans (congrArg Cell.live e))) λ_ h2=>hw ⟨k,c',h1,h2,h3⟩) hO',S.alive,S.gens,S.os⟩,
   al.setc G5 lI al.base (λ_ _ _ e=>e) H0 ⟨vs,m,ua,r.mono λx o vs' n' ex d t=>?_,hz⟩⟩
 . obtain ⟨c,g1,g2,g3,g4⟩:=S.mono k c' hk e;rw [dB hne] at g1;exact ⟨c,g1,g2,g3,g4⟩
 . have q:=S.relH hO x o vs' n' ex d λz=>t (l5 hn rfl z);exact H0 x o vs' n' q.1 d q.2
set_option tactic.hygienic true in
theorem l4:TT (β.take n) (σ.take n) x->TT β σ x:=by
 rintro ⟨k,c,h1,h2,h3⟩
 rw [OW] at h1 h2;split at h1
 . rename_i hk; rw [if_pos hk] at h2; exact ⟨k,c,h1,h2,h3⟩
 . cases h1
set_option tactic.hygienic true in
theorem Inv.take (I:Inv Z β σ h) (n:Nat):Inv Z (β.take n) (σ.take n) h:=by
 refine ⟨by simp [I.len],I.nodup.sublist (P6 ..),I.base,λa ha=>I.fresh a (Oi ha),λk a c h1 h2=>?_⟩;rw [OW] at h1 h2;split at h1
 . rename_i hk; rw [if_pos hk] at h2;exact (I.cell k a c h1 h2).mono (λo e=>e) λx o _ _ e _ t=>⟨e,λz=>t (l4 z)⟩
 . cases h1
theorem Step.take (a:Step O β σ s ah aa ai) (hl:β.length=σ.length) (M7:ah.length=aa.length):Step O β σ s (ah.take σ.length) (aa.take σ.length) ai:=by obtain ⟨e,rfl,f⟩:=a.ext;refine ⟨⟨[],by simp [<- hl],by simp⟩,λk c' hk hc=>a.mono k c' hk ?_,a.keepW,a.alive,a.gens,a.os⟩;rw [OW,if_pos (hl ▸ hk)] at hc;exact hc
theorem EN (r:Rel (TT β σ) h v d):Rel (TT (β.take n) (σ.take n)) h v d:=r.mono λx o _ _ e _ t=>⟨e,λz=>t (l4 z)⟩
theorem D6 (hb:β[k]?=some a) (hc:σ[k]?=some c) (hl:β.length=σ.length):TT (β.take n++[a]) (σ.take n++[c]) x->TT β σ x:=λz=>by
 rcases (zH (by simp [hl])).mp z with z | ⟨rfl,z'⟩
 . exact l4 z
 . exact ⟨k,c,hb,hc,z'⟩
theorem Gg (S:Step O β σ s ah aa ai) (hl:β.length=σ.length) (al:Inv Z ah aa ai.heap) (hk:σ.length<=k) (hb:ah[k]?=some a) (hc:aa[k]?=some c) :
   Step O β σ s (ah.take σ.length++[a]) (aa.take σ.length++[c]) ai/\Inv Z (ah.take σ.length++[a]) (aa.take σ.length++[c]) ai.heap:=by
 have T:=S.take hl al.len;have J:=al.take σ.length;obtain ⟨e,rfl,f⟩:=S.ext;have ha:a∈e:=by rw [N6 (hl ▸ hk)] at hb;exact NI hb
 have hlen:(List.take σ.length aa).length=σ.length:=by rw [Pz]; exact Pj (OU (Oc hk (NK.mp hc).1))
 have hβ:List.take σ.length (β++e)=β:=by simp [<- hl]
 have H0:∀ x o vs n,ai.heap.get? x=some o->wf o vs n->¬ TT (β++e) aa x->ai.heap.get? x=some o/\¬ TT ((β++e).take σ.length++[a]) (aa.take σ.length++[c]) x:=
   λx o _ _ ex _ t=>⟨ex,λz=>t (D6 hb hc al.len z)⟩
 refine ⟨⟨⟨[a],by rw [hβ],by simpa using f a ha⟩,λj c' hj hc'=>?_,S.keepW,S.alive,S.gens,S.os⟩,⟨by simp [hβ,hlen,hl],?_,al.base,λx hx=>?_,λj x c' h1 h2=>?_⟩⟩
 . rw [N4 (by rw [hlen,<- hl]; exact hj)] at hc';exact T.mono j c' hj hc'
 . rw [hβ,Pf];have nd:=Pf.mp al.nodup;exact ⟨nd.1,by simp,λx hx y hy=>by simp at hy; subst hy; exact nd.2.2 x hx y ha⟩
 . rcases NR.mp hx with h1 | h1
   . exact J.fresh x h1
   . simp at h1; subst h1; exact al.fresh x (OK _ ha)
 . by_cases hj:j < β.length
   . rw [hβ,N4 hj] at h1;rw [N4 (by rw [hlen,<- hl]; exact hj),OW,if_pos (hl ▸ hj)] at h2;exact (al.cell j x c' (by rw [N4 hj]; exact h1) h2).mono (λo e=>e) H0
   . rw [hβ,N6 (OE hj)] at h1;rw [N6 (by rw [hlen,<- hl]; exact OE hj)] at h2;have ej:j - β.length=0:=Qu.mp (NK.mp h1).1;rw [ej] at h1;rw [hlen,<- hl,ej] at h2;simp at h1 h2;subst h1 h2;exact (al.cell k a c hb hc).mono (λo e=>e) H0
noncomputable def jR (Z:Cx) (d:Nat) (A:Around):Prop:=(Z.q=false->A.handled=none)/\A.depth+d+2 < recursionLimit/\A.units+8 * d+200 < cLine/\∃ l:List Env,A3 (A.frames=some l) (l.map (·.frame)=Z.fr.map some) (∀ env∈l,env.scope.kind=.function)
variable {A:Around} {d:Nat}
theorem jR.room (h:jR Z d A):A.units+200 < cLine:=Oc (NS (NZ _ _) _) h.2.2.1
theorem jR.deeper (env:Env) {f:Addr} (hf:env.frame=some f) (hk:env.scope.kind=.function) (h:jR Z (d+1) A):jR { Z with fr:=f::Z.fr } d (A.deeper env):=by
 obtain ⟨h1,h2,h3,l,h4,h5,h6⟩:=h;refine ⟨h1,OX A.depth 1 d ▸ h2,Oc (NS (by show A.units+3+8 * d<=_; rw [On,Oj 3]; exact Oe (Oe (by decide) _) _) _) h3,env::l,Around.frames_deeper h4,?_,λe he=>?_⟩
 . rw [Ol,Ol,hf,h5]
 . rcases NN.mp he with rfl | he
   . exact hk
   . exact h6 e he
inductive Po (Z:Cx) (O:Addr->Prop) (β:List Addr) (σ:ac) (s:Shared) (σ':ac) (s':Shared) (R:List Addr->Prop):Prop where
 | mk (β':List Addr) (S:Step O β σ s β' σ' s') (I:Inv Z β' σ' s'.heap) (r:R β'):Po Z O β σ s σ' s' R
noncomputable def Ev {α γ:Type} (Z:Cx) (O:Addr->Prop) (A:Around) (t:Sem α) (r:Res γ) (R:α->γ->List Addr->ac->Heap->Prop) (β:List Addr) (σ:ac) (s:Shared):Prop:=
 ∀ c σ',r=.ok c σ'->wpAny (model Z.prog Z.w) A t (λa s'=>Po Z O β σ s σ' s' λβ'=>R a c β' σ' s'.heap) (λ_ _=>False) s
variable {pos:Pos} {r:Res γ} {t:Sem α} {R:α->γ->List Addr->ac->Heap->Prop} {c:γ}
section
variable {α' γ':Type} {R':α'->γ'->List Addr->ac->Heap->Prop}
theorem Ev.bind {m:Sem α} {f:α->Sem α'} {k:γ->ac->Res γ'} (h:Ev Z O A m r R β σ s)
   (hf:∀ a c β' σ' s',Step O β σ s β' σ' s'->Inv Z β' σ' s'.heap->R a c β' σ' s'.heap->r=.ok c σ'->Ev Z O A (f a) (k c σ') R' β' σ' s'):Ev Z O A (m >>= f) (r.bind k) R' β σ s:=by
 intro c' σ' e;cases r with
 | bad=>cases e
 | ok c aa=>refine MQ (NM (h c aa rfl) (λa ai aX=>?_) λ_ _ x=>x);obtain ⟨ah,az,al,uW⟩:=aX;refine NM (hf a c ah aa ai az al uW rfl c' σ' e) (λa' aj fE=>?_) λ_ _ x=>x;obtain ⟨aL,bY,bQ,tz⟩:=fE;exact ⟨aL,az.trans bY,bQ,tz⟩
theorem Ev.bad:Ev Z O A t (.bad:Res γ) R β σ s:=λ_ _ e=>by cases e
theorem Ev.pure {a:α} (I:Inv Z β σ s.heap) (h:R a c β σ s.heap):Ev Z O A (pure a) (.ok c σ) R β σ s:=λ_ _ e=>by cases e; exact NF ⟨β,Step.refl,I,h⟩
theorem Ev.holding (h:Ev Z O A t r R β σ s):Ev Z O A (holding vs t) r R β σ s:=λc σ' e=>OG (h c σ' e)
theorem Ev.standAt (h:Ev Z O A t r R β σ s):Ev Z O A (standAt pos >>= λ_=>t) r R β σ s:=λc σ' e=>MQ (Ow (h c σ' e))
theorem Ev.done (h:wpAny (model Z.prog Z.w) A t (λa s'=>Po Z O β σ s aa s' λβ'=>R a c β' aa s'.heap) (λ_ _=>False) s):Ev Z O A t (.ok c aa) R β σ s:=λ_ _ e=>by cases e; exact h
theorem Ev.grown (I:Inv Z β σ s.heap) (h:wpAny (model Z.prog Z.w) A t (λa s'=>(∀ b o,s.heap.get? b=some o->s'.heap.get? b=some o)/\s'.gens=s.gens/\s'.os=s.os/\R a c β σ s'.heap) (λ_ _=>False) s) :
   Ev Z O A t (.ok c σ) R β σ s:=Ev.done (NM h (λa s' ⟨hk,hg,ho,r⟩=>⟨β,Step.grow hk hg ho,I.grow hk,r⟩) λ_ _ x=>x)
end
abbrev VR:Value->V->List Addr->ac->Heap->Prop:=λv x β σ h=>aw β σ h v x
abbrev MH:List Value->List V->List Addr->ac->Heap->Prop:=λv x β σ h=>VRels β σ h v x
structure World0 (Z:Cx):Prop where
 g:Z.h₀.Ns mainGlobals Z.mg
 b:Z.h₀.Ns builtinsNs Z.mb
 nolimit:Z.h₀.NoLimit
theorem World0.keeps (W:World0 Z) (I:Inv Z β σ h):h.Ns mainGlobals Z.mg/\h.Ns builtinsNs Z.mb/\h.NoLimit:=
 ⟨W.g.keeps I.base,W.b.keeps I.base,W.nolimit.keeps I.base⟩
noncomputable def own (env:Env) (a:Addr):Prop:=a=env.locals\/∃ x,env.cells.lookup x=some a
inductive FNs (env:Env) (sc:List (Str×Nat)) (ρ:Fm) (β:List Addr) (σ:ac) (h:Heap):Prop
 | mk (m:Str->Option Value) (N:h.Ns env.locals m) (q:∀ x i,sc.lookup x=some i->env.kindOf x=some .local->∀ v:V,ρ[i]?=some v->v≠.un->∃ w,m x=some w/\aw β σ h w v):FNs env sc ρ β σ h
inductive FC1 (env:Env) (sc:List (Str×Nat)) (ρ:Fm) (β:List Addr) (σ:ac) (h:Heap) (x:Str) (c:Addr):Prop
 | mk (ov:Option Value) (C:h.IsCell c ov) (q:∀ i,sc.lookup x=some i->(env.kindOf x=some .cell\/env.kindOf x=some .free)->∀ v:V,ρ[i]?=some v->v≠.un->∃ w,ov=some w/\aw β σ h w v):FC1 env sc ρ β σ h x c
noncomputable def LN (env:Env) (sc:List (Str×Nat)) (ρ:Fm) (β:List Addr) (σ:ac) (h:Heap):Prop:=∀ x c,env.cells.lookup x=some c->FC1 env sc ρ β σ h x c
structure FrameOk (Z:Cx) (env:Env) (ks:List (Str×NameKind)) (sc:List (Str×Nat)) (ρ:Fm) (β:List Addr) (σ:ac) (h:Heap):Prop where
 kind:env.scope.kind=.function
 globals:env.globals=mainGlobals
 builtins:env.builtins=builtinsNs
 kinds:∀ x k,ks.lookup x=some k->env.kindOf x=some k\/(k=.free/\env.kindOf x=some .cell)
 bound:∀ x i,sc.lookup x=some i->(env.kindOf x=some .local\/((env.kindOf x=some .cell\/env.kindOf x=some .free)/\∃ c,env.cells.lookup x=some c))/\(x==("__classdict__":Str))=false
 inj:∀ x y i,sc.lookup x=some i->sc.lookup y=some i->x=y
 ns:FNs env sc ρ β σ h
 cell:LN env sc ρ β σ h
 apart:∀ a,own env a->a∉β/\Z.h₀.get? a=none
 cinj:∀ x y c,env.cells.lookup x=some c->env.cells.lookup y=some c->x=y
 cloc:∀ x,env.cells.lookup x≠some env.locals
 frs:ey Z β h
variable {W:Addr->Prop} {env:Env} {ks:List (Str×NameKind)} {sc:List (Str×Nat)} {j tk:Nat} {x y:Str} {Q:Unit->Shared->Prop} {v:V}
theorem FrameOk.ownSome (F:FrameOk Z env ks sc ρ β σ h) (ha:own env a):∃ o,h.get? a=some o/\¬ X2 λvs n=>wf o vs n:=by
 rcases ha with rfl | ⟨x,e⟩
 . refine kk λK k=>?_;obtain ⟨m,⟨o,es,ep,ho,hd,_⟩,_⟩:=F.ns;refine k ?_;exact ⟨o,ho,λ⟨vs,n,q⟩=>by rcases q with q | ⟨_,_,q | q⟩ <;> rw [hd] at q <;> cases q⟩
 . obtain ⟨ov,⟨o,ho,hd⟩,_⟩:=F.cell x a e;exact ⟨o,ho,λ⟨vs,n,q⟩=>by rcases q with q | ⟨_,_,q | q⟩ <;> rw [hd] at q <;> cases q⟩
theorem FrameOk.notSeq (F:FrameOk Z env ks sc ρ β σ h):∀ a,own env a->¬ bB h a:=λa ha ⟨o,vs,n,e,d⟩=>by obtain ⟨o',e',q⟩:=F.ownSome ha;rw [e] at e'; cases e'; exact q ⟨vs,n,d⟩
theorem FrameOk.step (F:FrameOk Z env ks sc ρ β σ s.heap) (S:Step bV β σ s ah aa ai):FrameOk Z env ks sc ρ ah aa ai.heap:=by
 have keep:∀ a,own env a->∀ o,s.heap.get? a=some o->∃ sl,ai.heap.get? a=some { o with slots:=sl }:=λa ha o e=>(S.keepW a o e (λz=>(F.apart a ha).1 z.tt.mem) id).elim (λq=>⟨o.slots,q⟩) λq=>q.2.2
 refine ⟨F.kind,F.globals,F.builtins,F.kinds,F.bound,F.inj,?_,?_,?_,F.cinj,F.cloc,F.frs.step S λ_ _ z=>z⟩
 . refine kk λK k=>?_;obtain ⟨m,⟨o,es,ep,ho,r⟩,q⟩:=F.ns;obtain ⟨sl,ho⟩:=keep _ (.inl rfl) o ho;refine k ?_;exact ⟨m,⟨_,es,ep,ho,r⟩,λx i h1 h2 v h3 h4=>let ⟨w,g1,g2⟩:=q x i h1 h2 v h3 h4; ⟨w,g1,S.vrel0 g2⟩⟩
 . intro x c e;refine kk λK k=>?_;obtain ⟨ov,⟨o,ho,hd⟩,q⟩:=F.cell x c e;obtain ⟨sl,ho⟩:=keep c (.inr ⟨x,e⟩) o ho;refine k ?_;exact ⟨ov,⟨_,ho,hd⟩,λi h1 h2 v h3 h4=>let ⟨w,g1,g2⟩:=q i h1 h2 v h3 h4; ⟨w,g1,S.vrel0 g2⟩⟩
 . intro a ha;refine ⟨λm=>?_,(F.apart a ha).2⟩;obtain ⟨e,rfl,f⟩:=S.ext;rcases NR.mp m with m | m
   . exact (F.apart a ha).1 m
   . obtain ⟨o,e',_⟩:=F.ownSome ha;rw [f a m] at e'; cases e'
theorem FrameOk.load (F:FrameOk Z env ks sc ρ β σ s.heap) {E:Value->Shared->Prop} {Q:Value->Shared->Prop} (hx:sc.lookup x=some i) (hv:ρ[i]?=some v) (hu:v≠.un)
   (h:∀ w,aw β σ s.heap w v->Q w s):wpAny (model Z.prog Z.w) A (loadName env x) Q E s:=by
 rcases F.bound x i hx with ⟨hk | ⟨hk,c,hc⟩,hn⟩
 . refine kk λK k=>?_;obtain ⟨m,N,q⟩:=F.ns;obtain ⟨w,e,r⟩:=q x i hx hk v hv hu;refine k ?_;exact wpAny_loadName_local F.kind hk N e (h w r)
 . obtain ⟨ov,C,q⟩:=F.cell x c hc;obtain ⟨w,rfl,r⟩:=q i hx hk v hv hu;rcases hk with hk | hk
   . exact wpAny_loadName_cell F.kind hk hc C (h w r)
   . exact wpAny_loadName_free F.kind hk hc C (h w r) hn
theorem hZ (hs:∀ b o,¬ W b->h.get? b=some o->h'.get? b=some o) (hn:∀ a,W a->¬ bB h a) (hβ:∀ a,W a->a∉β) {w:Value}:∀ {v:V},aw β σ h w v->aw β σ h' w v:=by
 have H:∀ x o vs n,h.get? x=some o->wf o vs n->¬ TT β σ x->h'.get? x=some o/\¬ TT β σ x:=λx o vs n e d t=>⟨hs x o (λq=>hn x q ⟨o,vs,n,e,d⟩) e,t⟩;intro v r;cases v with
 | un=>exact r
 | d x=>exact Rel.mono H r
 | loc n=>exact r
 | locs ns=>obtain ⟨x,vs,n,h1,h2,h3,h4,h5⟩:=r; exact ⟨x,vs,n,h1,(H _ _ _ _ h2 (.inl rfl) h3).1,h3,h4,h5⟩
 | exc k ds=>obtain ⟨e,o,vs,h1,h2,h3,h4⟩:=r; exact ⟨e,o,vs,h1,(H e o vs 0 h2 (.inr ⟨_,h3.1,.inl h3.2.1⟩) h4).1,h3,h4⟩
 | inst k l=>exact InstRel.mono r (λ_ _ e=>e) λD o hm e t=>⟨hs D o (λq=>hβ D q hm) e,t⟩
theorem fR (hs:∀ b o,b≠a->h.get? b=some o->h'.get? b=some o) (hn:¬ bB h a) (hβ:a∉β) {w:Value} (r:aw β σ h w v):aw β σ h' w v:=hZ (W:=(·=a)) hs (λ_ q=>q ▸ hn) (λ_ q=>q ▸ hβ) r
theorem gl (hne:i≠j):(ρ.set i v)[j]?=ρ[j]?:=by simp [hne]
theorem BK {u:V} (h:(ρ.set i v)[i]?=some u):v=u:=by have l:=(NK.mp h).1;rw [PY] at l;rw [List.getElem?_set_self l] at h;exact Option.some.inj h
theorem FrameOk.stored (F:FrameOk Z env ks sc ρ β σ s.heap) (I:Inv Z β σ s.heap) {w:Value} {Q:Shared->Prop}
   (h:∀ s',FrameOk Z env ks sc (ρ.set i v) β σ s'.heap->Step (own env) β σ s β σ s'->Inv Z β σ s'.heap->(∀ u y,aw β σ s.heap u y->aw β σ s'.heap u y)->(env.kindOf x=some .local->(∀ b o,b≠env.locals->s.heap.get? b=some o->s'.heap.get? b=some o)/\∃ m,s'.heap.Ns env.locals m/\m x=some w)->Q s')
   (ha:own env a) (hloc:env.kindOf x=some .local->a=env.locals/\∃ m,h'.Ns env.locals m/\m x=some w) (hs:Heap.SameBut a s.heap h') (hal:h'.get? a≠none) (f1:FNs env sc (ρ.set i v) β σ h') (f2:LN env sc (ρ.set i v) β σ h'):Q { s with heap:=h',toks:=tk }:=by
 have hk:∀ b o,b≠a->s.heap.get? b=some o->h'.get? b=some o:=λb o hb e=>(hs.2 b hb).trans e;refine h _ ⟨F.kind,F.globals,F.builtins,F.kinds,F.bound,F.inj,f1,f2,F.apart,F.cinj,F.cloc,F.frs.grow λf o hf e q=>?_⟩ ⟨⟨[],(NX _).symm,λ_ z=>absurd z Oy⟩,λk c' _ e=>⟨c',e,id,id,id⟩,Hc λb o e _ hb=>hk b o (λq=>hb (q ▸ ha)) e,λb e=>?_,rfl,rfl⟩ ?_ (λu y r=>fR hk (F.notSeq a ha) (F.apart a ha).1 r) λhl=>⟨λb o hb e=>hk b o (λq=>hb (q.trans (hloc hl).1)) e,(hloc hl).2⟩
 . by_cases hb:f=a
   . rw [hb] at e ⊢;clear hb h hloc hs hal hk;rcases ha with z | ⟨y,hy⟩
     . obtain ⟨m,⟨o',es,ep,ho',hd',_⟩,_⟩:=f1;exact ⟨o',z ▸ ho',es,ep,hd'⟩
     . obtain ⟨ov,⟨o',ho',hd'⟩,_⟩:=F.cell y a hy;rw [e] at ho';obtain ⟨es,n,q⟩:=q;rw [Option.some.inj ho',hd'] at q; cases q
   . exact ⟨o,hk f o hb e,q⟩
 . by_cases hb:b=a
   . exact absurd (hb ▸ e) hal
   . exact (hs.2 b hb).symm.trans e
 . refine ⟨I.len,I.nodup,λb o e=>hk b o (λq=>?_) (I.base b o e),I.fresh,λk b c h1 h2=>(I.cell k b c h1 h2).mono (λo e=>hk b o (λq=>(F.apart a ha).1 (q ▸ NI h1)) e) λb o vs n e d t=>⟨hk b o (λq=>?_) e,t⟩⟩
   . have z:=(F.apart a ha).2; rw [<- q,e] at z; cases z
   . exact F.notSeq a ha (q ▸ ⟨o,vs,n,e,d⟩)
theorem LN.other (F:FrameOk Z env ks sc ρ β σ s.heap) {c:Addr} (hs':Heap.SameBut c s.heap h') (hown:own env c) {c':Addr} (e:env.cells.lookup y=some c') (hne:c'≠c) (hij:∀ j,sc.lookup y=some j->(env.kindOf y=some .cell\/env.kindOf y=some .free)->i≠j) :
   FC1 env sc (ρ.set i v) β σ h' y c':=by
 obtain ⟨ov,C,q'⟩:=F.cell y c' e;refine ⟨ov,C.sameBut hs' hne,λj h1 h2 u h3 h4=>?_⟩;rw [gl (hij j h1 h2)] at h3;obtain ⟨w',g1,g2⟩:=q' j h1 h2 u h3 h4;exact ⟨w',g1,fR (λb o hb e=>(hs'.2 b hb).trans e) (F.notSeq c hown) (F.apart c hown).1 g2⟩
theorem FrameOk.store (F:FrameOk Z env ks sc ρ β σ s.heap) (I:Inv Z β σ s.heap) {E:Value->Shared->Prop} {w:Value} (hx:sc.lookup x=some i) (r:aw β σ s.heap w v)
   (h:∀ s',FrameOk Z env ks sc (ρ.set i v) β σ s'.heap->Step (own env) β σ s β σ s'->Inv Z β σ s'.heap->(∀ u y,aw β σ s.heap u y->aw β σ s'.heap u y)->(env.kindOf x=some .local->(∀ b o,b≠env.locals->s.heap.get? b=some o->s'.heap.get? b=some o)/\∃ m,s'.heap.Ns env.locals m/\m x=some w)->Q () s'):wpAny (model Z.prog Z.w) A (storeName env x w) Q E s:=by
 rcases F.bound x i hx with ⟨hk | ⟨hk,c,hc⟩,hn⟩
 . obtain ⟨m,N,q⟩:=F.ns;refine wpAny_storeName_local hk N (λh' hn' hs'=>?_) (by rw [F.kind]; rfl);refine F.stored I h (.inl rfl) (λ_=>⟨rfl,_,hn',if_pos rfl⟩) hs' ?_ ⟨_,hn',λy j h1 h2 u h3 h4=>?_⟩ λy c' e=>?_
   . obtain ⟨o,_,_,ho,_⟩:=hn'; rw [ho]; exact Qn _
   . clear h hn N;have keep:∀ u y,aw β σ s.heap u y->aw β σ h' u y:=λu y=>fR (λb o hb e=>(hs'.2 b hb).trans e) (F.notSeq env.locals (.inl rfl)) (F.apart env.locals (.inl rfl)).1;by_cases hyx:y=x
     . rw [hyx,hx] at h1;rw [<- Option.some.inj h1] at h3;exact ⟨w,if_pos hyx,keep _ _ (BK h3 ▸ r)⟩
     . rw [gl λ(e:i=j)=>hyx (F.inj y x i (e ▸ h1) hx)] at h3;obtain ⟨w',g1,g2⟩:=q y j h1 h2 u h3 h4;exact ⟨w',(if_neg hyx).trans g1,keep _ _ g2⟩
   . refine LN.other F hs' (.inl rfl) e (λz=>F.cloc y (z ▸ e)) λj h1 h2 z=>?_;rw [F.inj y x i (z ▸ h1) hx,hk] at h2;rcases h2 with h2 | h2 <;> cases h2
 . obtain ⟨ov,C,q⟩:=F.cell x c hc;have st:wpAny (model Z.prog Z.w) A (cellOf env x >>= λc=>cellSet c (some w)) Q E s:=by
     refine MQ (wpAny_cellOf hc (wpAny_cellSet C λh' hc' hs'=>?_));have hown:own env c:=.inr ⟨x,hc⟩;have keep:∀ u y,aw β σ s.heap u y->aw β σ h' u y:=λu y=>fR (λb o hb e=>(hs'.2 b hb).trans e) (F.notSeq c hown) (F.apart c hown).1;refine F.stored I h hown (λq=>by rcases hk with hk | hk <;> rw [hk] at q <;> cases q) hs' ?_ ?_ λy c' e=>?_
     . obtain ⟨o,ho,_⟩:=hc'; rw [ho]; exact Qn _
     . clear h hn q C;obtain ⟨m,N,q'⟩:=F.ns;refine ⟨m,N.sameBut hs' (λz=>F.cloc x (z ▸ hc)),λy j h1 h2 u h3 h4=>?_⟩;rw [gl λ(z:i=j)=>by rw [F.inj y x i (z ▸ h1) hx] at h2;rcases hk with hk | hk <;> rw [hk] at h2 <;> cases h2] at h3
       obtain ⟨w',g1,g2⟩:=q' y j h1 h2 u h3 h4;exact ⟨w',g1,keep _ _ g2⟩
     . by_cases hyx:y=x
       . rw [hyx,hc] at e;rw [<- Option.some.inj e];refine ⟨some w,hc',λj h1 h2 u h3 h4=>⟨w,rfl,?_⟩⟩;rw [hyx,hx] at h1;rw [<- Option.some.inj h1] at h3;exact keep _ _ (BK h3 ▸ r)
       . exact LN.other F hs' hown e (λz=>hyx (F.cinj y x c (z ▸ e) hc)) λj h1 h2 z=>hyx (F.inj y x i (z ▸ h1) hx)
   have e:storeName env x w=(cellOf env x >>= λc=>cellSet c (some w)):=by unfold storeName;rcases hk with hk | hk <;> first | (rw [hk]; rfl) | (rw [hk,F.kind]; rfl) | (rw [F.kind,hk]; rfl)
   rw [e]; exact st
noncomputable abbrev jA:Heap:={}
theorem xi (a:Addr):jA.get? a=none:=Qj (N3 _)
noncomputable def gR (L:Option Addr) (h:Heap) (e:Addr) (vs:Array Value):Prop:=
 vs[1]?=some .none\/X3 λT oT ts=>A5 (vs[1]?=some (.ref T)) (T≠e) (h.get? T=some oT) (oT.data=.fields ts) ((ts[3]?=some .none\/∃ l,L=some l/\ts[3]?=some (rawInt l)))
variable {e:Addr} {vs:Array Value} {L:Option Addr}
theorem gR.any (q:gR none h e vs):gR L h e vs:=by
 rcases q with q | ⟨T,oT,ts,h1,h2,h3,h4,h5⟩
 . exact .inl q
 . exact .inr ⟨T,oT,ts,h1,h2,h3,h4,.inl (h5.elim id λ⟨_,z,_⟩=>by cases z)⟩
structure Noted (fv:Value) (fs:List Addr) (e:Addr) (oe:Obj) (vs:Array Value) (h h':Heap):Prop where
 keep:∀ b o,h.get? b=some o->b≠e->vs[1]?≠some (.ref b)->b∉fs->h'.get? b=some o
 frs:∀ b o,h.get? b=some o->fD o->∃ sl,h'.get? b=some { o with slots:=sl }
 live:∀ b o,h.get? b=some o->∃ o',h'.get? b=some o'
 exc:X3 λT vs' oe'=>A8 ((h.get? T=none\/vs[1]?=some (.ref T))) (h'.get? e=some oe') (oe'.cls=oe.cls) (oe'.dict=oe.dict) (oe'.data=.fields vs') (vs'[1]?=some (.ref T)) (T≠e) (X2 λoT ts=>A3 (h'.get? T=some oT) (oT.data=.fields ts) (ts[3]?=some fv))
variable {hadNext:Bool} {h0:Heap} {fs:List Addr} {outer:List Env} {M:Model} {oe:Obj} {fo:Option Addr} {v head:Value}
section
variable {E:Value->Shared->Prop}
theorem py (o:Obj) (f:Array Value->Array Value):(o.mapFields f).dict=o.dict:=by obtain ⟨c,d,dt,sl⟩:=o;cases dt <;> rfl
theorem sC {L:Addr} 
   (hfr:A.frames=some (env::outer)) (hl:s.heap.FunFrames jA (env::outer)) (hf:env.frame=some L)
   (he:s.heap.get? e=some oe) (hd:oe.data=.fields vs) (hsz:1 < vs.size)
   (hk:∀ b o,h0.get? b=some o->b≠e->vs[1]?≠some (.ref b)->s.heap.get? b=some o) (hfr0:∀ b o,h0.get? b=some o->fD o->s.heap.get? b=some o) (hlive:∀ b o,h0.get? b=some o->∃ o',s.heap.get? b=some o')
   (h:∀ h',Noted (rawInt L) ((env::outer).filterMap (·.frame)) e oe vs h0 h'->Q () { s with heap:=h' }) :
   wpAny M A (do let a <- frameOf env; let pl <- entryPlaceOf L hadNext; let b <- EntryCells.newEntry head a .none (rawInt L) .none pl; setField (.ref e) 1 b) Q E s:=by
 have hene:e∉(env::outer).filterMap (·.frame):=λhm=>by obtain ⟨_,o,ho,hnf⟩:=hl.mem hm;rw [he] at ho; cases ho; exact hnf vs hd
 refine MQ (wpAny_frameOf_fun hfr hl hf λaX vB=>?_);refine MQ (wpAny_entryPlaceOf λpl hpl=>?_);unfold EntryCells.newEntry newFields;refine MQ (Og ?_ (hpl.sizeOk5 _ _ _ _ _));have sh:aX.get? e=some oe:=(vB.2.1 e hene).trans he;generalize hN:({ cls:=.type "traceback",dict:=none,data:=.fields ([head,.ref L,.none,rawInt L,.none]++(if pl.isEmpty then List.replicate 6 Value.none else pl)).toArray }:Obj)=oN;have hNd:oN.data=.fields ([head,.ref L,.none,rawInt L,.none]++(if pl.isEmpty then List.replicate 6 Value.none else pl)).toArray:=by rw [<- hN]
 have nk:=NG (h:=aX) oN sh;refine wpAny_setField nk hd hsz (h _ ?_);have hTe:aX.objs.size≠e:=Qa (Os sh);have si:=Obj.data_mapFields hd (·.setIfInBounds 1 (Value.ref aX.objs.size));have nj:=OL (Obj.mapFields (·.setIfInBounds 1 (Value.ref aX.objs.size))) nk (Obj.isFreed_of_fields si);have K4:(aX.push oN).get? aX.objs.size=some oN:=NQ aX (Obj.isFreed_of_fields hNd);have ze:=(OP (aX.push oN) (Obj.mapFields (·.setIfInBounds 1 (Value.ref aX.objs.size))) (Ne.symm hTe)).trans K4;generalize hH:(aX.push oN).update e (Obj.mapFields (·.setIfInBounds 1 (Value.ref aX.objs.size)))=H at nj ze;have keep:∀ b o,b≠e->aX.get? b=some o->H.get? b=some o:=λb o hbe hb=>by rw [<- hH,OP _ _ (Ne.symm hbe)];exact NG _ hb
 refine ⟨λb o hb hbe hnT hbf=>keep b o hbe ((vB.2.1 b hbf).trans (hk b o hb hbe hnT)),λb o hb hfr=>?_,λb o hb=>?_,?_⟩
 . have hb':=hfr0 b o hb hfr;obtain ⟨sl,q⟩:=vB.2.2 b o hb';refine ⟨sl,keep b _ (λz=>?_) q⟩;rw [z,he] at hb';obtain ⟨es,n,y⟩:=hfr;rw [<- Option.some.inj hb',hd] at y; cases y
 . obtain ⟨o',q⟩:=hlive b o hb;obtain ⟨sl,q⟩:=vB.2.2 b o' q;by_cases z:b=e
   . rw [z]; exact ⟨_,nj⟩
   . exact ⟨_,keep b _ z q⟩
 . refine ⟨aX.objs.size,_,_,.inl ?_,nj,Obj.cls_mapFields _ _,py _ _,si,by simp [hsz],hTe,_,_,ze,hNd,by simp⟩;cases q:h0.get? aX.objs.size with
   | none=>rfl
   | some o=>obtain ⟨o',q⟩:=hlive _ o q;have:=Os q;rw [vB.1] at this;exact absurd this (Pa _)
theorem rZ {L:Addr} 
   (hfr:A.frames=some (env::outer)) (hl:s.heap.FunFrames jA (env::outer)) (hf:env.frame=some L)
   (he:s.heap.get? e=some oe) (hd:oe.data=.fields vs) (h1:gR env.frame s.heap e vs)
   (h:∀ h',Noted (rawInt L) ((env::outer).filterMap (·.frame)) e oe vs s.heap h'->Q () { s with heap:=h' }) :
   wpAny M A (noteFrame (.ref e) env) Q E s:=by
 rcases h1 with h1 | ⟨T,oT,ts,h1,hTe,hT,hdT,h3 | ⟨l,hl',h3⟩⟩
 . unfold noteFrame;simp only [hf];refine MQ (wpAny_field he hd h1 ?_);rw [if_neg (by decide)];exact sC hfr hl hf he hd (O0.mp h1).1 (λb o q _ _=>q) (λb o q _=>q) (λb o q=>⟨o,q⟩) h
 . unfold noteFrame;simp only [hf];refine MQ (wpAny_field he hd h1 ?_);rw [if_pos (show (Value.ref T != Value.none)=true from by simp)];refine MQ (wpAny_field hT hdT h3 ?_);rw [if_neg (show ¬ ((Value.none==rawInt L)=true) from by simp [rawInt])];refine MQ (wpAny_setField hT hdT (O0.mp h3).1 ?_);have other:∀ b,b≠T->(s.heap.update T (Obj.mapFields (·.setIfInBounds 3 Value.none))).get? b=s.heap.get? b:=λb hb=>OP _ _ (Ne.symm hb);have notT:∀ b o,s.heap.get? b=some o->(∀ vs,o.data≠.fields vs)->b≠T:=λb o hb hnf q=>by rw [q,hT] at hb; cases hb; exact hnf ts hdT
   refine sC (h0:=s.heap) hfr (hl.of_keeps λb o hb hnf=>⟨o,(other b (notT b o hb hnf)).trans hb,rfl⟩) hf ((other e (Ne.symm hTe)).trans he) hd (O0.mp h1).1 (λb o q _ hn=>(other b λz=>hn (z ▸ h1)).trans q) (λb o q hq=>(other b (notT b o q λvs z=>?_)).trans q) (λb o q=>?_) h
   . obtain ⟨es,n,y⟩:=hq;rw [y] at z; cases z
   . by_cases z:b=T
     . rw [z];exact ⟨_,OL _ hT (Obj.isFreed_of_fields (Obj.data_mapFields hdT _))⟩
     . exact ⟨o,(other b z).trans q⟩
 . have el:L=l:=by rw [hf] at hl'; exact Option.some.inj hl'
   subst el;exact wpAny_noteFrame_inFlight hf he hd h1 hT hdT h3 (h _ ⟨λb o q _ _ _=>q,λb o q _=>⟨o.slots,q⟩,λb o q=>⟨o,q⟩,T,vs,oe,.inr h1,he,rfl,rfl,hd,h1,hTe,oT,ts,hT,hdT,h3⟩)
theorem ld {T:Addr} {oT:Obj} {ts:Array Value} {x:Value} 
   (he:s.heap.get? e=some oe) (hd:oe.data=.fields vs) (h1:vs[1]?=some (.ref T)) (hTe:T≠e) (hT:s.heap.get? T=some oT) (hdT:oT.data=.fields ts) (h3:ts[3]?=some x)
   (h:∀ h',Noted (fo.elim .none λf=>rawInt f) [] e oe vs s.heap h'->Q () { s with heap:=h' }):wpAny M A (setFlight (.ref e) fo) Q E s:=by
 have hsz:=(O0.mp h3).1;unfold setFlight;refine MQ (wpAny_field he hd h1 ?_);rw [if_pos (show (Value.ref T != Value.none)=true from by simp)];refine wpAny_setField hT hdT hsz (h _ ?_);have other:∀ b,b≠T->(s.heap.update T (Obj.mapFields (·.setIfInBounds 3 (fo.elim Value.none λf=>rawInt f)))).get? b=s.heap.get? b:=λb hb=>OP _ _ (Ne.symm hb);have hd':=Obj.data_mapFields hdT (·.setIfInBounds 3 (fo.elim Value.none λf=>rawInt f));have self:=OL (Obj.mapFields (·.setIfInBounds 3 (fo.elim Value.none λf=>rawInt f))) hT (Obj.isFreed_of_fields hd');refine ⟨λb o q _ hn _=>(other b λz=>hn (z ▸ h1)).trans q,λb o q hq=>⟨o.slots,(other b λz=>?_).trans q⟩,λb o q=>?_,T,vs,oe,.inr h1,(other e (Ne.symm hTe)).trans he,rfl,rfl,hd,h1,hTe,_,_,self,hd',by simp [hsz]⟩
 . subst z; rw [hT] at q; cases q;obtain ⟨es,n,y⟩:=hq;rw [hdT] at y; cases y
 . by_cases z:b=T
   . subst z; exact ⟨_,self⟩
   . exact ⟨o,(other b z).trans q⟩
theorem Noted.then {Q:Prop} {v':Value} (N:Noted v fs e oe vs h h') (k:∀ T oe' oT vs' ts,h'.get? e=some oe'->oe'.data=.fields vs'->vs'[1]?=some (.ref T)->T≠e->h'.get? T=some oT->oT.data=.fields ts->ts[3]?=some v->(∀ h'',Noted v' [] e oe' vs' h' h''->Noted v' fs e oe vs h h'')->Q):Q:=by
 obtain ⟨T,vs',oe',n1,n2,n3,n4,n5,n6,n7,oT,ts,n8,n9,n10⟩:=N.exc;refine k T oe' oT vs' ts n2 n5 n6 n7 n8 n9 n10 λh'' M=>⟨λb o q hbe hbT hbf=>M.keep b o (N.keep b o q hbe hbT hbf) hbe (λz=>?_) (by simp),λb o q hq=>?_,λb o q=>?_,?_⟩
 . rw [n6] at z; cases z;rcases n1 with n1 | n1
   . rw [n1] at q; cases q
   . exact hbT n1
 . obtain ⟨sl,q'⟩:=N.frs b o q hq;obtain ⟨sl',q'⟩:=M.frs b _ q' hq;exact ⟨sl',q'⟩
 . obtain ⟨o',q'⟩:=N.live b o q;exact M.live b o' q'
 . obtain ⟨T',vs'',oe'',m1,m2,m3,m4,m5,m6,m7,m8⟩:=M.exc;refine ⟨T',vs'',oe'',?_,m2,m3.trans n3,m4.trans n4,m5,m6,m7,m8⟩;rcases m1 with m1 | m1
   . refine .inl ?_;cases z:h.get? T' with
     | none=>rfl
     | some o=>obtain ⟨o',z⟩:=N.live T' o z; rw [m1] at z; cases z
   . rw [n6] at m1; cases m1; exact n1
theorem vc {L:Addr} 
   (hfr:A.frames=some (env::outer)) (hl:s.heap.FunFrames jA (env::outer)) (hf:env.frame=some L)
   (he:s.heap.get? e=some oe) (hd:oe.data=.fields vs) (h1:gR env.frame s.heap e vs)
   (h:∀ h',Noted (fo.elim .none λf=>rawInt f) ((env::outer).filterMap (·.frame)) e oe vs s.heap h'->Q () { s with heap:=h' }) :
   wpAny M A (noteFrame (.ref e) env) (λ_ s'=>wpAny M A (setFlight (.ref e) fo) Q E s') E s:=
 rZ hfr hl hf he hd h1 λh' N=>N.then λT oe' oT vs' ts n2 n5 n6 n7 n8 n9 n10 k=>ld (s:={ s with heap:=h' }) n2 n5 n6 n7 n8 n9 n10 λh'' M=>h h'' (k h'' M)
theorem vv {L:Addr} 
   (hfr:A.frames=some (env::outer)) (hl:s.heap.FunFrames jA (env::outer)) (hf:env.frame=some L)
   (he:s.heap.get? e=some oe) (hd:oe.data=.fields vs) (h1:gR env.frame s.heap e vs)
   (h:∀ h',Noted .none ((env::outer).filterMap (·.frame)) e oe vs s.heap h'->Q () { s with heap:=h' }) :
   wpAny M A (leaving env (.ref e)) Q E s:=by
 unfold leaving;exact MQ (vc (fo:=none) hfr hl hf he hd h1 h)
theorem CB {L:Addr} 
   (hfr:A.frames=some (env::outer)) (hl:s.heap.FunFrames jA (env::outer)) (hf:env.frame=some L)
   (he:s.heap.get? e=some oe) (hd:oe.data=.fields vs) (h1:gR env.frame s.heap e vs)
   (h:∀ h',Noted (rawInt L) ((env::outer).filterMap (·.frame)) e oe vs s.heap h'->E (.ref e) { s with heap:=h' }) :
   wpAny M A (noteFrame (.ref e) env) (λ_ s'=>cameBackBy M A env E (.ref e) s') (λx s'=>cameBackBy M A env E x s') s:=
 rZ hfr hl hf he hd h1 λh' N=>N.then λT oe' oT vs' ts n2 n5 n6 n7 n8 n9 n10 k=>by unfold cameBackBy;refine MQ (wpAny_field (s:={ s with heap:=h' }) n2 n5 n6 ?_);rw [if_neg (show ¬ ((Value.ref T==Value.none)=true) from by simp),hf];exact ld (s:={ s with heap:=h' }) (fo:=some L) n2 n5 n6 n7 n8 n9 n10 λh'' M=>h h'' (k h'' M)
end
noncomputable def Fl (L:Option Addr) (h0 h:Heap) (e:Addr) (k:Nat) (ds:List PyData):Prop:=
 h0.get? e=none/\(1<=k/\k<=6)/\X2 λoe vs=>A5 (h.get? e=some oe) (oe.cls=.ref (KA k)) (oe.data=.fields vs) (gR L h e vs) (∀ T,vs[1]?=some (.ref T)->h0.get? T=none)
theorem Fl.back {h1:Heap} (hal:∀ a,h1.get? a=none->h0.get? a=none) (F:Fl L h1 h e k ds):Fl L h0 h e k ds:=by obtain ⟨f1,f2,oe,vs,f3,f4,f5,f6,f7⟩:=F;exact ⟨hal _ f1,f2,oe,vs,f3,f4,f5,f6,λT q=>hal _ (f7 T q)⟩
inductive XD (h0:Heap) (β:List Addr) (σ:ac) (h:Heap) (e:Addr) (ds:List PyData):Prop where
 | mk (oe:Obj) (D:Addr) (m:Str->Option Value) (v1 v2:Value) (x1 x2:PyData) (h1:ds=[x1,x2]) (h2:h.get? e=some oe) (h3:oe.dict=some D) (h4:h0.get? D=none/\D∉β) (h5:h.Ns1 D m) (h6:m jf=some v1/\m cS=some v2) (h7:Rel (TT β σ) h v1 x1) (h8:Rel (TT β σ) h v2 x2):XD h0 β σ h e ds
variable {h0':Heap}
theorem XD.move (X:XD h0 β σ h e ds) (h00:∀ a,h0.get? a=none->h0'.get? a=none) (he:∀ oe,h.get? e=some oe->∃ oe',h'.get? e=some oe'/\oe'.dict=oe.dict)
   (hD:∀ D o,h.get? D=some o->fD o->D∉β->h0.get? D=none->D∉β'/\∃ sl,h'.get? D=some { o with slots:=sl }) (hr:∀ v x,Rel (TT β σ) h v x->Rel (TT β' σ') h' v x):XD h0' β' σ' h' e ds:=by
 cases X with
 | mk oe D m v1 v2 x1 x2 h1 h2 h3 h4 h5 h6 h7 h8=>refine kk λK k=>?_;obtain ⟨oe',q1,q2⟩:=he oe h2;obtain ⟨o,es,ep,ho,hd,r⟩:=h5;obtain ⟨nb,sl,q3⟩:=hD D o ho ⟨es,ep,hd⟩ h4.2 h4.1;refine k ?_;exact ⟨oe',D,m,v1,v2,x1,x2,h1,q1,q2.trans h3,⟨h00 D h4.1,nb⟩,⟨_,es,ep,q3,hd,r⟩,h6,hr _ _ h7,hr _ _ h8⟩
theorem XD.same (X:XD h0 β σ h e ds) (h00:∀ a,h0.get? a=none->h0'.get? a=none) (hb:∀ a,a∈β'->a∈β) (ht:∀ a,TT β' σ' a->TT β σ a):XD h0' β' σ' h e ds:=
 X.move h00 (λoe q=>⟨oe,q,rfl⟩) (λD o q _ nb _=>⟨λz=>nb (hb D z),o.slots,q⟩) λv x r=>r.mono λa o _ _ q _ t=>⟨q,λz=>t (ht a z)⟩
inductive FlyQ (L:Option Addr) (Z:Cx) (O:Addr->Prop) (β:List Addr) (σ:ac) (s:Shared) (σ':ac) (k:Nat) (ds:List PyData) (X:List Addr->ac->Heap->Prop) (v:Value) (s':Shared):Prop where
 | mk (β':List Addr) (e:Addr) (h1:v=.ref e) (h2:Step O β σ s β' σ' s') (h3:Inv Z β' σ' s'.heap) (h4:e∉β') (h5:Fl L s.heap s'.heap e k ds) (h6:X β' σ' s'.heap) (h7:k=6->XD s.heap β' σ' s'.heap e ds):FlyQ L Z O β σ s σ' k ds X v s'
noncomputable def Et (Z:Cx) (A:Around) (t:Sem Value) (r:Res V) (β:List Addr) (σ:ac) (s:Shared):Prop:=
 ∀ c σ',r=.ok c σ'->wpAny (model Z.prog Z.w) A t (λa s'=>nQ c=none/\Po Z bV β σ s σ' s' λβ'=>aw β' σ' s'.heap a c)
   (λv s'=>X2 λk ds=>c=.exc k ds/\FlyQ none Z bV β σ s σ' k ds (λ_ _ _=>True) v s') s
noncomputable def ux (L:Option Addr) (Z:Cx) (O:Addr->Prop) (A:Around) (t:Sem Flow) (r:Res Out) (R:Flow->Out->List Addr->ac->Heap->Prop) (X:List Addr->ac->Heap->Prop) (β:List Addr) (σ:ac) (s:Shared):Prop:=
 ∀ c σ',r=.ok c σ'->wpAny (model Z.prog Z.w) A t (λa s'=>Po Z O β σ s σ' s' λβ'=>R a c β' σ' s'.heap)
   (λv s'=>X2 λk ds=>c=.exc k ds/\FlyQ L Z O β σ s σ' k ds X v s') s
variable {R:Flow->Out->List Addr->ac->Heap->Prop} {X:List Addr->ac->Heap->Prop} {d:PyData} {t:Sem Value} {s':Shared} {fv:Value} {R':α->γ->List Addr->ac->Heap->Prop}
theorem FlyQ.back (S:Step O β σ s ah aa ai) (F:FlyQ L Z O ah aa ai σ' k ds X v s'):FlyQ L Z O β σ s σ' k ds X v s':=by obtain ⟨β',e,rfl,S',I',n,f,x,y⟩:=F;exact ⟨β',e,rfl,S.trans S',I',n,f.back S.alive,x,λq=>(y q).same S.alive (λ_ z=>z) λ_ z=>z⟩
theorem Et.ev {r:Res V} (h:Et Z A t r β σ s):Ev Z bV A t (r.bind iJ) VR β σ s:=λc σ' e=>by
 cases r with
 | bad=>cases e
 | ok v aa=>
 have h2:iJ v aa=.ok c σ':=e;unfold iJ at h2;cases hx:nQ v with
 | some x=>rw [hx] at h2; cases h2
 | none=>
 rw [hx] at h2;cases h2;refine NM (h _ _ rfl) (λa s' q=>q.2) λv s' ⟨k,ds,q,_⟩=>?_;subst q; cases hx
theorem Et.bad:Et Z A t .bad β σ s:=λ_ _ e=>by cases e
theorem ux.of {t:Sem Flow} {r:Res Out} (h:Ev Z O A t r R β σ s):ux L Z O A t r R X β σ s:=λc σ' e=>NM (h c σ' e) (λ_ _ q=>q) λ_ _ q=>q.elim
theorem ux.standAt {t:Sem Flow} {r:Res Out} (h:ux L Z O A t r R X β σ s):ux L Z O A (standAt pos >>= λ_=>t) r R X β σ s:=λc σ' e=>MQ (Ow (h c σ' e))
theorem ux.bindO {m:Sem α} {f:α->Sem Flow} {k:γ->ac->Res Out} (h:Ev Z bV A m r R' β σ s)
   (hf:∀ a c β' σ' s',Step bV β σ s β' σ' s'->Inv Z β' σ' s'.heap->R' a c β' σ' s'.heap->r=.ok c σ'->ux L Z O A (f a) (k c σ') R X β' σ' s'):ux L Z O A (m >>= f) (r.bind k) R X β σ s:=by
 intro c' σ' e;cases r with
 | bad=>cases e
 | ok c aa=>refine MQ (NM (h c aa rfl) (λa ai aX=>?_) λ_ _ x=>x.elim);obtain ⟨ah,az,al,uW⟩:=aX;refine NM (hf a c ah aa ai az al uW rfl c' σ' e) (λa' aj fE=>?_) λv aj ⟨k,ds,q,F⟩=>⟨k,ds,q,F.back az.ofNo⟩;obtain ⟨aL,bY,bQ,tz⟩:=fE;exact ⟨aL,az.ofNo.trans bY,bQ,tz⟩
theorem Rel.keepS (H:∀ a o vs n,h.get? a=some o->o.data=.seq vs n->¬ T a->h'.get? a=some o) (r:Rel T h v d):Rel T h' v d:=by
 have main:∀ (g:Heap),(∀ a o vs n,h.get? a=some o->o.data=.seq vs n->¬ T a->g.get? a=some o)->Rel T g v d:=by
   intro g hg;exact Rel.rec (motive_1:=λv d _=>Rel T g v d) (motive_2:=λvs ds _=>RelAll T g vs ds) .none .bool .int (λx t e=>.str x t e)
     (λho ht hl _ ih=>.list (hg _ _ _ _ ho rfl ht) ht hl ih) (λho ht hl _ ih=>.tuple (hg _ _ _ _ ho rfl ht) ht hl ih) .nil (λ_ _ a b=>.cons a b) r
 exact main h' H
theorem RelAll.keepS (H:∀ a o vs n,h.get? a=some o->o.data=.seq vs n->¬ T a->h'.get? a=some o):∀ {vs:List Value} {ds:List PyData},RelAll T h vs ds->RelAll T h' vs ds
 | _,[]=>@λr=>by rw [r.inv0]; exact .nil
 | _,d::ds=>@λr=>by obtain ⟨v,vs',rfl,x,rs⟩:=r.inv;exact .cons (x.keepS H) (RelAll.keepS H rs)
theorem Noted.off (N:Noted fv fs e oe vs h h') (he:h.get? e=some oe) (hd:oe.data=.fields vs) (hL:gR L h e vs) (hfs:∀ f∈fs,∃ o,h.get? f=some o/\fD o) {b:Addr} (hb:h.get? b=some o) (hn:∀ ws,o.data≠.fields ws) (hf:¬ fD o):h'.get? b=some o:=by
 refine N.keep b o hb (λq=>?_) (λq=>?_) λq=>?_
 . subst q; rw [he] at hb; cases hb; exact hn _ hd
 . rcases hL with z | ⟨T,oT,ts,z,_,hT,hdT,_⟩
   . rw [z] at q; cases q
   . rw [z] at q; cases q;rw [hT] at hb; cases hb; exact hn _ hdT
 . obtain ⟨o',q',z⟩:=hfs b q;rw [hb] at q'; cases q'; exact hf z
theorem Inv.noted {h0:Heap} (I:Inv Z β σ h) (N:Noted fv fs e oe vs h h') (he:h.get? e=some oe) (hd:oe.data=.fields vs) (hL:gR L h e vs) (hfs:∀ f∈fs,(∃ o,h.get? f=some o/\fD o)/\f∉β/\Z.h₀.get? f=none)
   (h0e:Z.h₀.get? e=none) (h0T:∀ T,vs[1]?=some (.ref T)->Z.h₀.get? T=none):Inv Z β σ h':=by
 have off:=λ{b:Addr} {o:Obj}=>N.off he hd hL (λf hf=>(hfs f hf).1) (b:=b) (o:=o);have seq:∀ a o ws n,h.get? a=some o->o.data=.seq ws n->¬ TT β σ a->h'.get? a=some o:=λa o ws n q hq _=>off q (λx z=>by rw [hq] at z; cases z) λ⟨_,_,z⟩=>by rw [hq] at z; cases z
 refine ⟨I.len,I.nodup,λa o q=>?_,I.fresh,λk a c h1 h2=>?_⟩
 . refine N.keep a o (I.base a o q) (λz=>?_) (λz=>?_) λz=>?_
   . subst z; rw [h0e] at q; cases q
   . rw [h0T a z] at q; cases q
   . rw [(hfs a z).2.2] at q; cases q
 . have r:=I.cell k a c h1 h2;have hab:a∈β:=NI h1;cases c with
   | lst l=>obtain ⟨ws,n,q,r,z⟩:=r;exact ⟨ws,n,off q (λx z=>by cases z) (λ⟨_,_,z⟩=>by cases z),r.keepS seq,z⟩
   | dct l=>
     refine kk λK k=>?_;obtain ⟨kvs,⟨o,es,ep,e1,e2⟩,q,r,st,su⟩:=r;refine k ?_;refine ⟨kvs,⟨o,es,ep,?_,e2⟩,q,r.keepS seq,st,su⟩;refine N.keep a o e1 (λz=>?_) (λz=>?_) λz=>(hfs a z).2.1 hab
     . subst z; rw [he] at e1; cases e1;have:=e2.2.1; rw [hd] at this; cases this
     . rcases hL with y | ⟨T,oT,ts,y,_,hT,hdT,_⟩
       . rw [y] at z; cases z
       . rw [y] at z; cases z;rw [hT] at e1; cases e1;have:=e2.2.1; rw [hdT] at this; cases this
   | gone=>obtain ⟨o,q⟩:=r; exact N.live a o q
   | busy=>obtain ⟨o,q⟩:=r; exact N.live a o q
theorem Step.noted (S:Step O β σ s ah aa ai) (N:Noted fv fs e oe vs ai.heap h') (h0e:s.heap.get? e=none) (h0T:∀ T,vs[1]?=some (.ref T)->s.heap.get? T=none) (hfs:∀ f∈fs,(∃ o,ai.heap.get? f=some o/\fD o)/\f∉β):Step O β σ s ah aa { ai with heap:=h' }:=by
 have step:∀ a o bp,s.heap.get? a=some o->ai.heap.get? a=some bp->h'.get? a=some bp\/(fD bp/\a∉β/\∃ sl,h'.get? a=some { bp with slots:=sl }):=by
   intro a o bp q Ae;by_cases hf:a∈fs
   . refine kk λK k=>?_;obtain ⟨⟨o',e',f'⟩,nb⟩:=hfs a hf;refine k ?_;rw [Ae] at e'; cases e';exact .inr ⟨f',nb,N.frs a bp Ae f'⟩
   . exact .inl (N.keep a bp Ae (λz=>by subst z; rw [h0e] at q; cases q) (λz=>by rw [h0T a z] at q; cases q) hf)
 refine ⟨S.ext,S.mono,λa o q w n=>?_,λa q=>?_,S.gens,S.os⟩
 . rcases S.keepW a o q w n with z | ⟨f,nb,sl,z⟩
   . exact step a o o q z
   . rcases step a o _ q z with y | ⟨_,_,sl',y⟩
     . exact .inr ⟨f,nb,sl,y⟩
     . exact .inr ⟨f,nb,sl',y⟩
 . cases z:s.heap.get? a with
   | none=>rfl
   | some o=>
     have:∃ bp,ai.heap.get? a=some bp:=by
       cases y:ai.heap.get? a with
       | none=>rw [S.alive a y] at z; cases z
       | some bp=>exact ⟨bp,rfl⟩
     obtain ⟨bp,y⟩:=this;obtain ⟨o',y⟩:=N.live a bp y;have q:h'.get? a=none:=q;rw [q] at y; cases y
theorem Fl.noted (N:Noted fv fs e oe vs h h') (hfv:fv=.none\/∃ l,L=some l/\fv=rawInt l) (hal:∀ a,h.get? a=none->h0.get? a=none) (h0e:h0.get? e=none) (h0T:∀ T,vs[1]?=some (.ref T)->h0.get? T=none) (hk:1<=k/\k<=6) (hc:oe.cls=.ref (KA k)):Fl L h0 h' e k ds:=by
 obtain ⟨T,vs',oe',n1,n2,n3,n4,n5,n6,n7,oT,ts,n8,n9,n10⟩:=N.exc;refine ⟨h0e,hk,oe',vs',n2,n3.trans hc,n5,.inr ⟨T,oT,ts,n6,n7,n8,n9,?_⟩,λT' q=>by rw [n6] at q; cases q; exact n1.elim (hal _) (h0T _)⟩;rcases hfv with rfl | ⟨l,q,rfl⟩
 . exact .inl n10
 . exact .inr ⟨l,q,n10⟩
theorem XD.noted (X:XD h0 β σ h e ds) (N:Noted fv fs e oe vs h h') (he:h.get? e=some oe) (hd:oe.data=.fields vs) (hL:gR L h e vs) (hfs:∀ f∈fs,(∃ o,h.get? f=some o/\fD o)/\h0.get? f≠none):XD h0 β σ h' e ds:=by
 refine X.move (λ_ z=>z) (λo z=>?_) (λD o z hf nb hn=>⟨nb,N.frs D o z hf⟩) λv x r=>r.keepS λa o ws n q hq _=>N.off he hd hL (λf hf=>(hfs f hf).1) q (λy z=>by rw [hq] at z; cases z) λ⟨_,_,z⟩=>by rw [hq] at z; cases z
 rw [he] at z; cases z;obtain ⟨T,vs',oe',_,n2,_,n4,_⟩:=N.exc;exact ⟨oe',n2,n4⟩
theorem FrameOk.bare (F:FrameOk Z env ks sc ρ β σ h):FrameOk Z env ks sc [] β σ h:=
 ⟨F.kind,F.globals,F.builtins,F.kinds,F.bound,F.inj,let ⟨m,n,_⟩:=F.ns; ⟨m,n,λ_ _ _ _ v q=>by simp at q⟩,λx c e=>let ⟨ov,n,_⟩:=F.cell x c e; ⟨ov,n,λ_ _ _ v q=>by simp at q⟩,F.apart,F.cinj,F.cloc,F.frs⟩
theorem FrameOk.empty (F:FrameOk Z env ks sc [] β σ h):FrameOk Z env ks sc (List.replicate n .un) β σ h:=
 ⟨F.kind,F.globals,F.builtins,F.kinds,F.bound,F.inj,let ⟨m,n,_⟩:=F.ns; ⟨m,n,λ_ _ _ _ v q hu=>absurd (PZ.mp (NI q)).2 hu⟩,λx c e=>let ⟨ov,n,_⟩:=F.cell x c e; ⟨ov,n,λ_ _ _ v q hu=>absurd (PZ.mp (NI q)).2 hu⟩,F.apart,F.cinj,F.cloc,F.frs⟩
theorem ey.noted (F:ey Z β h) (N:Noted fv fs e oe vs h h'):ey Z β h':=F.grow λf o _ q hq=>let ⟨sl,z⟩:=N.frs f o q hq; ⟨_,z,hq⟩
theorem FrameOk.noted (F:FrameOk Z env ks sc [] β σ h) (N:Noted fv fs e oe vs h h') (he:h.get? e=some oe) (hd:oe.data=.fields vs) (hL:gR L h e vs)
   (hfs:∀ f∈fs,∃ o,h.get? f=some o/\fD o):FrameOk Z env ks sc [] β σ h':=by
 refine ⟨F.kind,F.globals,F.builtins,F.kinds,F.bound,F.inj,?_,λx c q=>?_,F.apart,F.cinj,F.cloc,F.frs.noted N⟩
 . refine kk λK k=>?_;obtain ⟨m,⟨o,es,ep,ho,hd',r⟩,_⟩:=F.ns;obtain ⟨sl,z⟩:=N.frs _ o ho ⟨es,ep,hd'⟩;refine k ?_;exact ⟨m,⟨_,es,ep,z,hd',r⟩,λ_ _ _ _ v q=>by simp at q⟩
 . obtain ⟨ov,⟨o,ho,hc⟩,_⟩:=F.cell x c q;exact ⟨ov,⟨o,N.off he hd hL hfs ho (λws z=>by rw [hc] at z; cases z) (λ⟨_,_,z⟩=>by rw [hc] at z; cases z),hc⟩,λ_ _ _ v q=>by simp at q⟩
theorem sr:∀ {l:List Env},(∀ x∈l,x.scope.kind≠.module/\X2 λf o=>A3 (x.frame=some f) (h.get? f=some o) (fD o))->h.FunFrames jA l
 | []=>@λ_=>trivial
 | x::l=>@λH=>by obtain ⟨h1,f,o,h2,h3,es,n,h4⟩:=H x (NE ..);exact ⟨h1,⟨f,o,h2,xi f,h3,λvs q=>by rw [h4] at q; cases q⟩,sr λy hy=>H y (NA _ hy)⟩
theorem AG {l:List Env} {fr:List Addr} (h:l.map (·.frame)=fr.map some):l.filterMap (·.frame)=fr/\∀ x∈l,∃ f,x.frame=some f/\f∈fr:=by
 induction l generalizing fr with
 | nil=>cases fr with
   | nil=>exact ⟨rfl,λ_ h=>by cases h⟩
   | cons _ _=>cases h
 | cons x l ih=>cases fr with
   | nil=>cases h
   | cons f fr=>
     simp only [Ol,List.cons.injEq] at h;obtain ⟨h1,h2⟩:=ih h.2;refine ⟨by rw [Ph,h.1,h1],λy hy=>?_⟩;rcases NN.mp hy with rfl | hy
     . exact ⟨f,h.1,NE ..⟩
     . obtain ⟨f',q,m⟩:=h2 y hy;exact ⟨f',q,NA _ m⟩
theorem bu:LIM<=sizeLine:=by unfold LIM sizeLine; decide
variable {ws:Array Value} {b i:Int} {ε ι:Type} {y:V} {u:Value} {P:Value->Prop} {Q:Value->Shared->Prop} {w:World} {o:Option α} {p:Option γ} {z:Res ε} {R:ι->ε->List Addr->ac->Heap->Prop}
theorem Inv.notTT (I:Inv Z β σ h) (ha:h.get? a=none):¬ TT β σ a:=λz=>by obtain ⟨o,e⟩:=I.ex z.mem; rw [ha] at e; cases e
inductive ListAt (T:Addr->Prop) (h:Heap) (v:Value) (l:List PyData):Prop where
 | mk (a:Addr) (vs:Array Value) (n:Nat) (h1:v=.ref a) (h2:h.get? a=some (dj vs n)) (h3:RelAll T h vs.toList l) (h4:l.length<=LIM):ListAt T h v l
inductive TupAt (T:Addr->Prop) (h:Heap) (v:Value) (l:List PyData):Prop where
 | mk (a:Addr) (vs:Array Value) (n:Nat) (h1:v=.ref a) (h2:h.get? a=some (nH vs n)) (h3:¬ T a) (h4:l.length<=LIM) (h5:RelAll T h vs.toList l):TupAt T h v l
inductive DctIn (Z:Cx) (β:List Addr) (σ:ac) (h:Heap) (x:V) (v:Value) (l:List (Str×PyData)):Prop where
 | mk (n:Nat) (a:Addr) (h1:x=.loc n) (h2:β[n]?=some a) (h3:σ[n]?=some (.dct l)) (h4:v=.ref a) (h5:jh Z (TT β σ) h h a l):DctIn Z β σ h x v l
theorem ListAt.el (r:ListAt T h v l) (k:∀ a vs n,h.get? a=some (dj vs n)->RelAll T h vs.toList l->l.length<=LIM->P (.ref a)):P v:=by obtain ⟨a,vs,n,e,h2,h3,h4⟩:=r; exact e ▸ k a vs n h2 h3 h4
theorem TupAt.el (r:TupAt T h v l) (k:∀ a vs n,h.get? a=some (nH vs n)->¬ T a->l.length<=LIM->RelAll T h vs.toList l->P (.ref a)):P v:=by obtain ⟨a,vs,n,e,h2,h3,h4,h5⟩:=r; exact e ▸ k a vs n h2 h3 h4 h5
theorem DctIn.el {x:V} {l:List (Str×PyData)} {P:V->Value->Prop} (r:DctIn Z β σ h x v l) (k:∀ n a,β[n]?=some a->σ[n]?=some (.dct l)->jh Z (TT β σ) h h a l->P (.loc n) (.ref a)):P x v:=by obtain ⟨n,a,e,h2,h3,e',h5⟩:=r; exact e ▸ e' ▸ k n a h2 h3 h5
inductive NewSeq (O:Array Value->Nat->Obj) (T:Addr->Prop) (s:Shared) (l:List PyData) (v:Value) (s':Shared):Prop where
 | mk (a:Addr) (vs:Array Value) (n:Nat) (h1:v=.ref a) (h2:s.heap.get? a=none) (h3:s'.heap.get? a=some (O vs n)) (h4:∀ b o,s.heap.get? b=some o->s'.heap.get? b=some o) (h5:s'.gens=s.gens) (h6:s'.os=s.os) (h7:RelAll T s.heap vs.toList l):NewSeq O T s l v s'
theorem a6 {x:V} (I:Inv Z β σ h) (hl:aD σ x=some l) (r:aw β σ h v x):ListAt (TT β σ) h v l:=by
 cases x with
 | un=>cases hl
 | locs l=>cases hl
 | exc _ _=>cases hl
 | inst _ _=>cases hl
 | d y=>
   cases r with
   | list e t z q=>cases hl; exact ⟨_,_,_,rfl,e,q,z⟩
   | _=>cases hl
 | loc n=>obtain ⟨a,hb,rfl⟩:=r;obtain ⟨vs,m,e,q,z⟩:=I.cell n a _ hb (fg hl);exact ⟨a,vs,m,rfl,e,q,z⟩
theorem fW {x:V} {l:List (Str×PyData)} (I:Inv Z β σ h) (hl:fG σ x=some l) (r:aw β σ h v x):DctIn Z β σ h x v l:=by
 cases x with
 | loc n=>obtain ⟨a,hb,rfl⟩:=r;exact ⟨n,a,rfl,hb,gq hl,rfl,I.cell n a _ hb (gq hl)⟩
 | _=>cases hl
theorem dJ (I:Inv Z β σ s.heap) (hl:l.length<=LIM)
   (hw:wpAny (model Z.prog Z.w) A t (NewSeq dj (TT β σ) s l) (λ_ _=>False) s) :
   Ev Z O A t (aU m l σ) VR β σ s:=by
 unfold aU;cases m with
 | true=>refine Ev.done (NM hw (λv s' q=>?_) λ_ _ x=>x);obtain ⟨a,vs,n,rfl,hf,e,hk,hg,ho,r⟩:=q;have N:=tG (O:=O) (c:=.lst l) I hk hf hg ho ⟨vs,n,e,r,hl⟩;exact ⟨_,N.1,N.2,a,by rw [<- I.len]; simp,rfl⟩
 | false=>refine Ev.grown I (NM hw (λv s' q=>?_) λ_ _ x=>x);obtain ⟨a,vs,n,rfl,hf,e,hk,hg,ho,r⟩:=q;exact ⟨hk,hg,ho,.list e (I.notTT hf) hl (r.mono λx o _ _ e _ t=>⟨hk x o e,t⟩)⟩
theorem qm (I:Inv Z β σ s.heap) (hl:l.length<=LIM)
   (hw:wpAny (model Z.prog Z.w) A t (NewSeq nH (TT β σ) s l) (λ_ _=>False) s) :
   Ev Z O A t (.ok (.d (.tuple l)) σ) VR β σ s:=by
 refine Ev.grown I (NM hw (λv s' q=>?_) λ_ _ x=>x);obtain ⟨a,vs,n,rfl,hf,e,hk,hg,ho,r⟩:=q;exact ⟨hk,hg,ho,.tuple e (I.notTT hf) hl (r.mono λx o _ _ e _ t=>⟨hk x o e,t⟩)⟩
theorem aV (h:Heap):h.get? h.objs.size=none:=by
 cases q:h.get? h.objs.size with
 | none=>rfl
 | some o=>exact absurd (Os q) (Pa _)
theorem bK {x:PyData} (I:Inv Z β σ s.heap) (hw:wpAny (model Z.prog Z.w) A t (λv s'=>(X2 λtk dr=>s'={ s with toks:=tk,drawn:=dr })/\Rel (TT β σ) s.heap v x) (λ_ _=>False) s) :
   Ev Z O A t (.ok (.d x) σ) VR β σ s:=Ev.grown I (NM hw (λv s' q=>by obtain ⟨⟨tk,dr,rfl⟩,r⟩:=q; exact ⟨λ_ _ e=>e,rfl,rfl,r⟩) λ_ _ x=>x)
theorem Cr {a:Int} (h:r9 a b=true):IntMulOk a b:=by
 unfold r9 at h;rcases Od.mp h with h | h <;> have h:=of_decide_eq_true h
 . exact .of_left (intBits_le_64 (by omega) (by omega))
 . exact .of_right (intBits_le_64 (by omega) (by omega))
theorem Dp {a:Int} (hb:0 < b):a.fdiv b=a / b:=Int.fdiv_eq_ediv_of_nonneg _ (PU hb)
theorem Dj {a:Int} (hb:0 < b):a.fmod b=a % b:=Int.fmod_eq_emod_of_nonneg _ (PU hb)
theorem Cp {a:Int} (h0:0 < b) (h1:b < 9223372036854775808):Builtin.divisionGoesByPylong a b=false:=by refine PyProof.noPylong_of_log2 ?_;have:b.natAbs.log2 < 63:=(Nat.log2_lt (by omega)).mpr (by omega);lia
theorem kP:∀ (n:Nat) (a:Array Nat) (acc:Array Nat),((List.replicate n a).foldl (·++·) acc).toList=acc.toList++(List.replicate n a.toList).flatten
 | 0=>@λa acc=>by simp
 | n+1=>@λa acc=>by rw [Qo,QK,kP n a,Qo];simp
set_option tactic.hygienic true in
theorem EI (x:Str) (n:Int) (h0:0<=n):Txt.mul x n=av (List.replicate n.toNat (aI x)).flatten:=by
 obtain ⟨a⟩:=x;unfold Txt.mul av aI;split
 . have:n.toNat=0:=by lia
   rw [this]; simp [Str.empty]
 . split
   . rename_i h1 h2;rcases Od.mp h2 with h2 | h2
     . have:n=1:=by simpa using h2
       subst this; simp
     . have h3:a=#[]:=Array.eq_empty_of_size_eq_zero (by simpa [Str.length] using h2);subst h3; simp
   . have:=kP n.toNat a #[];simp only [Str.mk.injEq];apply Array.ext';rw [this]; simp
theorem yy:PyData.strOk x=true↔∀ c∈aI x,c < 0x110000:=by unfold PyData.strOk aI;rw [<- Array.all_toList,Oz];simp
theorem BG (l:List Nat):aI (av l)=l:=by simp [aI,av]
theorem fZ {l:List Nat} (h:∀ c∈l,c < 0x110000) (hl:l.length<=LIM):cD (av l):=⟨yy.mpr (by rw [BG]; exact h),by simpa [av] using hl⟩
theorem cD.cps (h:cD x):∀ c∈aI x,c < 0x110000:=yy.mp h.1
theorem cD.len (h:cD x):(aI x).length<=LIM:=by simpa [aI] using h.2
theorem wP (x y:Str):x++y=av (aI x++aI y):=by obtain ⟨a⟩:=x; obtain ⟨b⟩:=y;show Str.append _ _=_;simp [Str.append,av,aI]
noncomputable def Kt:BOp->Operator
 | .add=>.Add
 | .sub=>.Sub
 | .mul=>.Mult
 | .fdiv=>.FloorDiv
 | .mod=>.Mod
 | .pow _=>.Pow
theorem rC {t b:Addr} {n2:Nat} {E:Value->Shared->Prop} {prog:Program} (ht:IsT s.heap t vs n) (hb:IsT s.heap b ws n2) (hsz:vs.size+ws.size<=sizeLine)
   (h1:vs.isEmpty=true->Q (.ref b) s) (h2:ws.isEmpty=true->Q (.ref t) s) (h3:Q (.ref s.heap.objs.size) { s with heap:=s.heap.push { cls:=.type "tuple",data:=.seq (vs++ws) } }) :
   wpAny (model prog w) A (binaryOp .Add (.ref t) (.ref b)) Q E s:=by
 by_cases e1:vs.isEmpty=true
 . exact concat_meets ⟨_,ht,rfl⟩ ⟨_,hb,rfl⟩ noFill_tuple_add seq_tuple_add F.slot_tuple_add F.entry_tuple_add (F.args_tuple_add_2 _ _) (AutoSeq1.tuple___add___tuple_tuple_0 t vs n b ws n2 e1) ⟨ht,hb,h1 e1⟩
 . by_cases e2:ws.isEmpty=true
   . exact concat_meets ⟨_,ht,rfl⟩ ⟨_,hb,rfl⟩ noFill_tuple_add seq_tuple_add F.slot_tuple_add F.entry_tuple_add (F.args_tuple_add_2 _ _) (AutoSeq1.tuple___add___tuple_tuple_1 t vs n b ws n2 e1 e2) ⟨ht,hb,h2 e2⟩
   . exact P.add_tuple ht hb e1 e2 h3 hsz
theorem sS (r:aw β σ h v (.d (.int i))):∃ t,v=.int i t:=by cases r; exact ⟨_,rfl⟩
theorem Bt {b:Bool} (r:aw β σ h v (.d (.bool b))):v=.bool b:=by cases r; rfl
theorem ma (r:aw β σ h v (.d (.str x))):∃ t,v=.str x t/\cD x:=by
 cases r with
 | str _ t g=>exact ⟨_,rfl,g⟩
theorem oH (r:aw β σ h v (.d (.tuple l))):TupAt (TT β σ) h v l:=by
 cases r with
 | tuple e t z r=>exact ⟨_,_,_,rfl,e,t,z,r⟩
theorem cb {t:Sem ι} {f:α->γ->Res ε} (h1:∀ a b,o=some a->p=some b->Ev Z O A t (f a b) R β σ s) (h2:Ev Z O A t z R β σ s):Ev Z O A t (b2 o p f z) R β σ s:=by
 rcases lY o p f z with ⟨a,b,ha,hb,e⟩ | e
 . rw [e]; exact h1 a b ha hb
 . rw [e]; exact h2
theorem aN {t:Sem ι} {f:α->Res ε} (h1:∀ a,o=some a->Ev Z O A t (f a) R β σ s) (h2:Ev Z O A t z R β σ s):Ev Z O A t (oc o f z) R β σ s:=by
 rcases dS o f z with ⟨a,ha,e⟩ | e
 . rw [e]; exact h1 a ha
 . rw [e]; exact h2
theorem bE {t:Sem ι} {c:Prop} [Decidable c] {f:Res ε} (h:c->Ev Z O A t f R β σ s):Ev Z O A t (if c then f else .bad) R β σ s:=by
 by_cases hc:c
 . rw [if_pos hc]; exact h hc
 . rw [if_neg hc]; exact Ev.bad
theorem eC {op:Operator} {x:V} {f:Int->Int->Res V} {z:Res V} (rx:aw β σ s.heap v x) (ry:aw β σ s.heap u y)
   (h1:∀ a b t t',Ev Z O A (binaryOp op (.int a t) (.int b t')) (f a b) VR β σ s) (h2:Ev Z O A (binaryOp op v u) z VR β σ s):Ev Z O A (binaryOp op v u) (b2 (cq x) (cq y) f z) VR β σ s:=
 cb (λa b ha hb=>by have ha:=dv ha; have hb:=dv hb;subst ha; subst hb;apply iY (sS rx); intro t;apply iY (sS ry); intro t';exact h1 a b t t') h2
set_option tactic.hygienic true in
theorem yh {x:V} (I:Inv Z β σ s.heap) (rx:aw β σ s.heap v x) (ry:aw β σ s.heap u y):Ev Z O A (binaryOp (Kt op) v u) (dD op m x y σ) VR β σ s:=by
 cases op with
 | add=>
   refine eC rx ry (λa b t t'=>bK I (P.add_int ⟨⟨_,_,rfl⟩,.int _ _⟩)) ?_;refine cb (λx' y' hx hy=>bE λhm=>?_) (cb (λx' y' hx hy=>bE λhm=>?_) (cb (λl1 l2 h1 h2=>bE λhm=>?_) Ev.bad))
   . have hx:=dP hx; have hy:=dP hy;subst hx; subst hy;apply xT (ma rx); intro t g;apply xT (ma ry); intro t' g';refine bK I (PyProof.Rows.add_str (λt' tk=>⟨⟨_,_,rfl⟩,?_⟩) (iv hm bu));rw [wP];exact .str _ _ (fZ (λc hc=>(NR.mp hc).elim (g.cps c) (g'.cps c)) (by simpa [aI] using hm))
   . have hx:=dM hx; have hy:=dM hy;subst hx; subst hy;apply (oH rx).el; intro a1 vs1 n1 e1 t1 z1 q1;apply (oH ry).el; intro a2 vs2 n2 e2 t2 z2 q2;have l1:=q1.length;have l2:=q2.length;simp only [NT] at l1 l2;refine Ev.grown I (rC e1 e2 (by rw [l1,l2]; exact iv hm bu) (λe=>⟨λ_ _ e=>e,rfl,rfl,?_⟩) (λe=>⟨λ_ _ e=>e,rfl,rfl,?_⟩) ⟨λb o e=>NG _ e,rfl,rfl,?_⟩)
     . have:x'=[]:=O6 (by rw [<- l1]; simpa using e);subst this;exact .tuple e2 t2 z2 q2
     . have:y'=[]:=O6 (by rw [<- l2]; simpa using e);subst this;rw [NX];exact .tuple e1 t1 z1 q1
     . refine .tuple (NQ _ rfl) (I.notTT (aV _)) (by simpa using hm) ?_;have:=q1.append q2;rw [QZ];exact this.mono λx o _ _ e _ t=>⟨NG _ e,t⟩
   . apply (a6 I h1 rx).el; intro a vs n e1 q1 _;apply (a6 I h2 ry).el; intro b ws n2 e2 q2 _;have z1:=q1.length;have z2:=q2.length;simp only [NT] at z1 z2;refine dJ I (by rw [ND]; exact hm) (P.add_list e1 e2 ?_ (by rw [z1,z2]; exact iv hm bu));exact ⟨_,_,_,rfl,aV _,NQ _ rfl,λb o e=>NG _ e,rfl,rfl,by rw [QZ]; exact q1.append q2⟩
 | sub=>exact eC rx ry (λa b t t'=>bK I (P.sub_int ⟨⟨_,_,rfl⟩,.int _ _⟩)) Ev.bad
 | mul=>
   refine eC rx ry (λa b t t'=>bE λhm=>bK I (P.mul_int ⟨⟨_,_,rfl⟩,.int _ _⟩ (Cr hm))) (cb (λx' n hx hy=>bE λhm=>?_) Ev.bad);have hx:=dP hx; have hy:=dv hy;subst hx; subst hy;apply xT (ma rx); intro t g;apply iY (sS ry); intro t';have hlen:(List.replicate n.toNat (aI x')).flatten.length<=LIM:=by
     have h1:(aI x').length<=1000:=by simpa [aI] using hm.2.2
     have h2:n.toNat<=1000:=Pc.mpr hm.2.1;simp only [List.length_flatten,List.map_replicate,List.sum_replicate_nat,LIM]
     calc n.toNat * (aI x').length<=1000 * 1000:=QX h2 h1
       _=1000000:=rfl
   refine bK I (SB.mul ⟨?_,λ_ _=>?_,λ_ _=>?_⟩ λt' k=>⟨⟨_,_,rfl⟩,?_⟩)
   . have:n<=1000:=hm.2.1;have:0<=n:=hm.1;simp; omega
   . have h1:x'.length<=1000:=hm.2.2;have h2:n<=1000:=hm.2.1;have h3:0<=n:=hm.1;have h4:(9223372036854775:Int)<=(2 ^ 63 - 1) / n:=by
       rcases Int.lt_or_eq_of_le h3 with h3 | h3
       . exact (Int.le_ediv_iff_mul_le h3).mpr (by lia)
       . subst h3; rename_i q _; omega
     lia
   . have h1:x'.length * n.toNat<=1000 * 1000:=QX hm.2.2 (Pc.mpr hm.2.1);unfold Builtin.Str.tooLong;simp [sizeLine]; lia
   . rw [EI x' n hm.1];exact .str _ _ (fZ (λc hc=>by obtain ⟨l,hl,hc⟩:=List.mem_flatten.mp hc;rw [(PZ.mp hl).2] at hc;exact g.cps c hc) hlen)
 | fdiv=>refine eC rx ry (λa b t t'=>bE λhm=>?_) Ev.bad;rw [<- Dp hm.1];exact bK I (PyProof.Rows.floordiv_int (Q8 hm.1) ⟨⟨_,_,rfl⟩,.int _ _⟩ (.inl (Cp hm.1 hm.2)))
 | mod=>refine eC rx ry (λa b t t'=>bE λhm=>?_) Ev.bad;rw [<- Dj hm];exact bK I (PyProof.Rows.mod_int' (Q8 hm) ⟨⟨_,_,rfl⟩,.int _ _⟩)
 | pow _=>refine eC rx ry (λa b t t'=>bE λhm=>?_) Ev.bad;obtain ⟨rfl,rfl⟩:=hm;exact bK I (PyProof.Rows.pow_int (by decide) (by decide +kernel) ⟨⟨_,_,rfl⟩,.int _ _⟩)
variable {xs ys:Array Value} {b c:Bool} {op:COp} {f:Int->Int->Option Bool} {kvs kb:List (Str×Value)} {k:List PyData} {R:PySem.Fin->Shared->Prop} {x:V} {key:Value} {z:Option ι}
noncomputable def uA (Z:Cx):Prop:=∃ o,Z.h₀.get? sysModules=some o
theorem uA.ne (Y:uA Z) (I:Inv Z β σ h) (ha:a∈β):(a==sysModules)=false:=by
 obtain ⟨o,e⟩:=Y;have:=I.fresh a ha;cases q:a==sysModules with
 | false=>rfl
 | true=>rw [beq_iff_eq.mp q,e] at this; cases this
theorem Gh (I:Inv Z β σ s.heap) (hw:wpAny (model Z.prog Z.w) A t (λv s'=>(X2 λtk dr=>s'={ s with toks:=tk,drawn:=dr })/\v=.bool b) (λ_ _=>False) s) :
   Ev Z O A t (.ok (.d (.bool b)) σ) VR β σ s:=bK I (NM hw (λv s' q=>⟨q.1,by rw [q.2]; exact .bool b⟩) λ_ _ x=>x)
theorem wa (q:RelAll T h vs.toList l):vs.isEmpty=l.isEmpty:=by
 have:=q.length;cases l with
 | nil=>simp at this; simp [this]
 | cons x r=>
   simp at this;have:vs.size≠0:=by rw [this]; exact QF _
   simp [Array.isEmpty,this]
theorem jW (hn:n<=LIM):(n:Int) < 2 ^ 63:=Int.lt_of_le_of_lt (Pd.mpr hn) (by decide)
theorem iE (Y:uA Z) (I:Inv Z β σ s.heap) (r:aw β σ s.heap v x) (ht:truthy σ x=some b) {Q:Bool->Shared->Prop} {E:Value->Shared->Prop}
   (h:∀ tk,Q b { s with toks:=tk }):wpAny (model Z.prog Z.w) A (PySem.truthy v) Q E s:=by
 have lst:∀ {a:Addr} {vs:Array Value} {n:Nat} {l:List PyData},s.heap.get? a=some (dj vs n)->RelAll (TT β σ) s.heap vs.toList l->l.length<=LIM->some (!l.isEmpty)=some b->wpAny (model Z.prog Z.w) A (PySem.truthy (.ref a)) Q E s:=by intro a vs n l e q z hb;have hz:=q.length;simp at hz;refine wpAny_truthy_list ⟨_,e,rfl,_,rfl⟩ (by rw [hz]; exact jW z) ?_;rw [wa q,Option.some.inj hb];exact h _
 cases x with
 | un=>cases ht
 | locs l=>cases ht
 | exc _ _=>cases ht
 | inst _ _=>cases ht
 | d y=>
   cases r with
   | none=>cases ht; exact λ_ _ _=>h s.toks
   | bool b=>cases ht; exact wpAny_truthy_bool (h s.toks)
   | int i t=>cases ht; exact P.truthy_int (h s.toks)
   | str x t g=>
     refine P.truthy_str ?_ ?_
     . have:=g.2; simp only [Str.length,LIM] at *; omega
     . have:=h (s.toks+1+1);cases ht;rw [show ((x.length:Int) != 0)=(x.cps.size != 0) by simp only [Str.length]; cases x.cps.size <;> simp [bne] <;> omega];exact this
   | list e t z q=>exact lst e q z ht
   | tuple e t z q=>have hz:=q.length;simp only [NT] at hz;refine PyProof.Rows.truthy_tuple ⟨_,e,rfl,_,rfl⟩ (by rw [hz]; exact jW z) ?_;rw [wa q,Option.some.inj ht];exact h _
 | loc n=>
   obtain ⟨a,hb,rfl⟩:=r;rcases dS (fi σ n) (λl=>some (!l.isEmpty)) (oc (d6 σ n) (λl=>some (!l.isEmpty)) none) with ⟨l,hc,e⟩ | e
   . obtain ⟨vs,m,e',q,z⟩:=I.cell n a _ hb (fg hc);exact lst e' q z (e.symm.trans ht)
   . have ht:oc (d6 σ n) (λl=>some (!l.isEmpty)) none=some b:=e.symm.trans ht;rcases dS (d6 σ n) (λl=>some (!l.isEmpty)) none with ⟨l,hc,e⟩ | e
     . obtain ⟨kvs,D,hk,q,_,z⟩:=I.cell n a _ hb (gq hc);have hz:kvs.length=l.length:=by have:=congrArg List.length hk; simpa using this
       refine wpAny_truthy_dict (Y.ne I (NI hb)) D (by rw [hz]; exact jW z) ?_;rw [show kvs.isEmpty=l.isEmpty by cases kvs <;> cases l <;> simp_all,Option.some.inj (e.symm.trans ht)];exact h _
     . rw [e] at ht; cases ht
theorem sM (I:Inv Z β σ h) (r:aw β σ h v x) (hd:LH σ x=some d):(∃ as,Reads h v d as)/\d.canLay0=true:=by
 cases x with
 | un=>cases hd
 | locs l=>cases hd
 | exc _ _=>cases hd
 | inst _ _=>cases hd
 | d y=>cases hd; exact ⟨Rel.reads r,Rel.lay r⟩
 | loc n=>refine kk λK k=>?_;obtain ⟨a,hb,rfl⟩:=r;obtain ⟨l,hc,rfl⟩:=N9.mp hd;obtain ⟨vs,m,e,q,z⟩:=I.cell n a _ hb (fg hc);obtain ⟨as,qq⟩:=q.reads;refine k ?_;exact ⟨⟨_,.list e rfl rfl qq⟩,by simpa [PyData.canLay0] using q.lay⟩
noncomputable def bU:COp->CmpOp
 | .eq=>.Eq
 | .ne=>.NotEq
 | .lt=>.Lt
 | .le=>.LtE
 | .gt=>.Gt
 | .ge _=>.GtE
 | .isN=>.Is
 | .isNotN=>.IsNot
 | .isIn=>.In
 | .notIn=>.NotIn
noncomputable def Bg (s:Shared) (Q:Value->Shared->Prop) (v:Value):Prop:=∀ tk,Q v { s with toks:=tk }
theorem dX {l:List (Str×PyData)} (e:kvs.map (·.1)=l.map (·.1)) (r:RelAll T h (kvs.map (·.2)) (l.map (·.2))) (k:Str):(valueAt kvs k=none/\l.lookup k=none)\/X2 λv d=>A3 (valueAt kvs k=some v) (l.lookup k=some d) (Rel T h v d):=by
 induction kvs generalizing l with
 | nil=>
   cases l with
   | nil=>exact .inl ⟨rfl,rfl⟩
   | cons _ _=>cases e
 | cons a kvs ih=>
   cases l with
   | nil=>cases e
   | cons b l=>
     injection e with e1 e2;have e1:a.1=b.1:=e1;cases r with
     | cons r rs=>
       by_cases hk:a.1=k
       . exact .inr ⟨a.2,b.2,by unfold valueAt; rw [List.find?_cons_of_pos (p:=λkv:Str×Value=>decide (kv.1=k)) (decide_eq_true hk)]; rfl,by rw [NW,beq_iff_eq.mpr (hk.symm.trans e1)],r⟩
       . have h1:valueAt (a::kvs) k=valueAt kvs k:=by unfold valueAt; rw [List.find?_cons_of_neg (p:=λkv:Str×Value=>decide (kv.1=k)) (by rw [decide_eq_false hk]; exact nofun)]
         have h2:List.lookup k (b::l)=l.lookup k:=by rw [NW,beq_eq_false_iff_ne.mpr λq=>hk (e1.trans q.symm)]
         rw [h1,h2]; exact ih e2 rs
theorem vx {m:List (Str×PyData)} (hu:A.units+200 < cLine) (hkb:kb.map (·.1)=m.map (·.1)) (qb:RelAll T s.heap (kb.map (·.2)) (m.map (·.2))) :
   ∀ (ka:List (Str×Value)) (l:List (Str×PyData)),ka.map (·.1)=l.map (·.1)->RelAll T s.heap (ka.map (·.2)) (l.map (·.2))->(l.all λkv=>Dl kv.2)=true->PySem.W.KeqHits A.in1 s kb ka (ue l m)
 | [],[],_,_,_=>.nil
 | [],_::_,e,_,_=>by simp at e
 | _::_,[],e,_,_=>by simp at e
 | (k,v)::ka,(k',d)::l,e,.cons r rs,hf=>by
   simp only [Ol,List.cons.injEq] at e;obtain ⟨rfl,e⟩:=e;simp only [List.all_cons,NO] at hf;have ih:=vx hu hkb qb ka l e rs hf.2;have hd:ue ((k,d)::l) m=((match m.lookup k with | some y=>d.eqv y | none=>false)&&ue l m):=rfl;rw [hd];rcases dX hkb qb k with ⟨h1,h2⟩ | ⟨w,y,h1,h2,r'⟩
   . rw [h2]; exact .miss h1
   . rw [h2];obtain ⟨as,ra⟩:=Rel.reads r;obtain ⟨bs,rb⟩:=r'.reads;have hd1:d.depth<=1:=by have:=hf.1;cases d <;> first | exact N3 _ | exact Of _ | exact OQ (show false=true from this)
     exact .hit h1 (SeqAt.eqAt_reads d y _ _ _ _ _ _ ra rb (Rel.lay r) r'.lay (by show A.units+1+_ < _; omega)) ih
theorem fP {f:α->γ->Option ι} {c:ι} (h:b2 o p f z=some c):(X2 λa b=>A3 (o=some a) (p=some b) (f a b=some c))\/z=some c:=by
 rcases lY o p f z with ⟨a,b,ha,hb,e⟩ | e
 . exact .inl ⟨a,b,ha,hb,e.symm.trans h⟩
 . exact .inr (e.symm.trans h)
set_option tactic.hygienic true in
theorem sA (Y:uA Z) (I:Inv Z β σ s.heap) (hu:A.units+200 < cLine) (rx:aw β σ s.heap v x) (ry:aw β σ s.heap u y) (hb:JW σ x y=some b) {E:Value->Shared->Prop} :
   (Bg s Q (.bool b)->wpAny (model Z.prog Z.w) A (compareOp .Eq v u) Q E s)/\(Bg s Q (.bool (!b))->wpAny (model Z.prog Z.w) A (compareOp .NotEq v u) Q E s):=by
 rcases fP (show b2 (LH σ x) (LH σ y) Jr _=some b from hb) with ⟨d,e,hd,he,hb⟩ | hb
 . refine kk λK k=>?_;obtain ⟨⟨as,ra⟩,la⟩:=sM I rx hd;obtain ⟨⟨bs,rb⟩,lb⟩:=sM I ry he;refine k ?_;unfold Jr at hb;split at hb
   . rename_i hm;cases hb;exact ⟨λq=>SeqAt.compareEq_reads ra rb la lb (by omega) (q s.toks),λq=>SeqAt.compareNe_reads ra rb la lb (by omega) (q s.toks)⟩
   . cases hb
 . rcases fP hb with ⟨l,m,hl,hm,hb⟩ | hb
   . split at hb
     . rename_i hf;cases hb;obtain ⟨hfl,hfm⟩:=NH.mp hf;apply (fW I hl rx).el; intro n a hb hc R0; obtain ⟨ka,Da,hka,qa,hga,za⟩:=R0;apply (fW I hm ry).el; intro n' a' hb' hc' R0; obtain ⟨kb,Db,hkb,qb,hgb,zb⟩:=R0;have la:ka.length=l.length:=by have:=congrArg List.length hka; simpa using this
       have lb:kb.length=m.length:=by have:=congrArg List.length hkb; simpa using this
       have hh:=vx hu hkb qb ka l hka qa hfl;rw [<- la,<- lb];exact ⟨λq=>PySem.W.keq_eq (Y.ne I (NI hb)) (Y.ne I (NI hb')) Da Db (by omega) (λ_=>hh) (q s.toks),
         λq=>PySem.W.keq_ne (Y.ne I (NI hb)) (Y.ne I (NI hb')) Da Db (by omega) (λ_=>hh) (q s.toks)⟩
     . cases hb
   . cases hb
theorem Co {prog:Program} {K:Type} [DecidableEq K] {knd:KeyKind prog w K} {E:Value->Shared->Prop} {d:Addr} {k:K} {f:K->Option Value} (hkey:knd.is k key=true) (hd:(d==sysModules)=false) (hm:s.heap.MapOf knd d f)
   (h:Q (.bool (!(f k).isSome)) { s with toks:=s.toks+1 }):wpAny (model prog w) A (compareOp .NotIn key (.ref d)) Q E s:=by
 show wpAny _ _ (do return .bool (!(<- contains (.ref d) key))) Q E s;refine MQ ?_;unfold contains
 try with_reducible refine OG ?_
 refine MQ (wpAny_specialOf hm.typeIs slot_dict_contains.lookup ?_);show wpAny _ _ (if (some (Value.builtin "dict.__contains__")==some Value.none)=true then _ else _) _ E s;rw [if_neg (by rw [beq_builtin_none]; exact NY)];refine MQ (wpAny_callSpecialUnlessNone?_slot (name:=Str.ofString "__contains__") hm.typeIs slot_dict_contains
   (wpAny_call_entry slot_dict_contains hm.typeIs entry_dict_contains ?_ (args_dict_contains _ _)))
 show wpAny _ _ (dictGet d key >>= _) _ _ s;refine MQ (wpAny_dictGet_of hkey hm ?_);cases hf:f k with
 | some v=>rw [hf] at h;show wpAny _ _ (ret (.bool true)) _ _ _;exact NF ⟨_,rfl,wpAny_truthy_bool (NF h)⟩
 | none=>rw [hf] at h;show wpAny _ _ (Builtin.Dict.pendingKey? d key >>= _) _ _ _;exact MQ (wpAny_pendingKey_other hd (NF ⟨_,rfl,wpAny_truthy_bool (NF h)⟩))
theorem I6 (x y:Str) (hx:x.cps.size=1):(!(Builtin.Str.occurrences y x 0 y.length 1).isEmpty)=(aI y).any λc=>aI x==[c]:=by
 obtain ⟨a⟩:=x;obtain ⟨c,rfl⟩:∃ c,a=#[c]:=by
   match a,hx with
   | ⟨[c]⟩,_=>exact ⟨c,rfl⟩
 rw [StrLaws.found_one];unfold aI;show decide (c∈y.cps.toList)=y.cps.toList.any λd=>[c]==[d]
 rw [Bool.eq_iff_iff,decide_eq_true_iff,Qf];constructor
 . exact λm=>⟨c,m,by rw [beq_iff_eq]⟩
 . rintro ⟨d,m,e⟩
   rw [beq_iff_eq] at e;cases (e); exact m
theorem cX {f:α->Option γ} {z:Option γ} {c:γ} (h:oc o f z=some c):(∃ a,o=some a/\f a=some c)\/z=some c:=by
 rcases dS o f z with ⟨a,ha,e⟩ | e
 . exact .inl ⟨a,ha,e.symm.trans h⟩
 . exact .inr (e.symm.trans h)
theorem tE {f:α->Option γ} {c:γ} (h:oc o f none=some c):∃ a,o=some a/\f a=some c:=by
 rcases cX h with h | h
 . exact h
 . cases h
theorem y7 {x:PyData} (h:vy x l=some b):min (PyData.depthAll l) x.depth<=64/\(l.any λy=>y.eqv x)=b:=by
 unfold vy at h;by_cases hc:min (PyData.depthAll l) x.depth<=64
 . rw [if_pos hc] at h; exact ⟨hc,Option.some.inj h⟩
 . rw [if_neg hc] at h; cases h
theorem sg (Y:uA Z) (I:Inv Z β σ s.heap) (hu:A.units+200 < cLine) (rx:aw β σ s.heap v x) (ry:aw β σ s.heap u y) (hb:br.inV x y σ=some b) {E:Value->Shared->Prop} :
   (Bg s Q (.bool b)->wpAny (model Z.prog Z.w) A (compareOp .In v u) Q E s)/\(Bg s Q (.bool (!b))->wpAny (model Z.prog Z.w) A (compareOp .NotIn v u) Q E s):=by
 obtain ⟨dx,hx,hb⟩:=tE hb;rw [b8 hx] at rx;rcases fP hb with ⟨xs,ys,h1,h2,hb⟩ | hb
 . rw [oa h1] at rx;rw [dP h2] at ry;apply xT (ma rx); intro t g;apply xT (ma ry); intro t' g';by_cases hs:xs.cps.size=1
   . rw [if_pos hs] at hb;cases hb;rw [<- I6 xs ys hs];exact ⟨λq=>P.in_str (q s.toks),λq=>P.notIn_str (q s.toks)⟩
   . rw [if_neg hs] at hb; cases hb
 . obtain ⟨as,ra⟩:=Rel.reads rx;have la:=Rel.lay rx;rcases cX hb with ⟨l,hl,hb⟩ | hb
   . refine kk λK k=>?_;rw [dM hl] at ry;obtain ⟨hm,rfl⟩:=y7 hb;obtain ⟨bs,rb⟩:=Rel.reads ry;have lb:=Rel.lay ry;rw [PyData.canLay0] at lb;refine k ?_;exact ⟨λq=>SeqAt.in_tuple_reads rb ra lb la (by omega) (q s.toks),λq=>SeqAt.notIn_tuple_reads rb ra lb la (by omega) (q s.toks)⟩
   . rcases cX hb with ⟨l,hl,hb⟩ | hb
     . apply (a6 I hl ry).el; intro a vs n e q z;obtain ⟨bs,rb⟩:=q.reads;have rb':Reads s.heap (.ref a) (.list l) _:=.list e rfl rfl rb;obtain ⟨hm,rfl⟩:=y7 hb;exact ⟨λq'=>SeqAt.in_list_reads rb' ra q.lay la (by omega) (q' s.toks),λq'=>SeqAt.notIn_list_reads rb' ra q.lay la (by omega) (q' s.toks)⟩
     . rcases fP hb with ⟨k,kvs',hk0,hdd,hb⟩ | hb
       . cases hb;rw [oa hk0] at rx;apply (fW I hdd ry).el; intro n a hbb hc R0; obtain ⟨kvs,D,hk,q,_,z⟩:=R0;apply xT (ma rx); intro t g;have e:(valueAt kvs k).isSome=(List.lookup k kvs').isSome:=by rcases dX hk q k with ⟨h1,h2⟩ | ⟨v,d,h1,h2,_⟩ <;> rw [h1,h2] <;> rfl
         have ne:=Y.ne I (NI hbb);exact ⟨λq'=>wpAny_in_of (strKind_is Z.prog Z.w k t) ne D.mapOf (by rw [e]; exact q' _),λq'=>Co (strKind_is Z.prog Z.w k t) ne D.mapOf (by rw [e]; exact q' _)⟩
       . cases hb
theorem tQ (rx:aw β σ h v x) (ry:aw β σ h u y) (hb:b2 (cq x) (cq y) f none=some b):X4 λi j t t'=>A3 (v=.int i t) (u=.int j t') (f i j=some b):=by
 rcases fP hb with ⟨i,j,hi,hj,e⟩ | e
 . rw [dv hi] at rx;rw [dv hj] at ry;apply iY (sS rx); intro t;apply iY (sS ry); intro t';exact ⟨i,j,t,t',rfl,rfl,e⟩
 . cases e
theorem yS {f:PyData->Option Bool} {c:Option Bool} (rx:aw β σ h v x) (ry:aw β σ h u y) (hb:oc (pq y) (λ_=>oc (bx x) f (oc (nK x) (λ_=>c) none)) none=some b) :
   u=.none/\((∃ d,x=.d d/\f d=some b)\/(∃ a,v=.ref a/\c=some b)):=by
 rcases cX hb with ⟨_,hy,hb⟩ | hb
 . rw [pp hy] at ry;refine ⟨by cases ry; rfl,?_⟩;rcases cX hb with ⟨d,hd,hb⟩ | hb
   . exact .inl ⟨d,b8 hd,hb⟩
   . rcases cX hb with ⟨n,hn,hb⟩ | hb
     . rw [gB hn] at rx;obtain ⟨a,_,rfl⟩:=rx;exact .inr ⟨a,rfl,hb⟩
     . cases hb
 . cases hb
inductive GtI (T:Addr->Prop) (h:Heap) (c:Bool) (m n:Nat) (r:List (Value×Value)):Prop where
 | mk (l k:List PyData) (xs ys:List Value) (i:Nat) (e:r=xs.zip ys) (qa:RelAll T h xs l) (qb:RelAll T h ys k) (hl:Fz k l=some c) (z1:m=xs.length+i) (z2:n=ys.length+i):GtI T h c m n r
inductive GtJ (T:Addr->Prop) (h:Heap) (c:Bool) (m n:Nat) (p:Value×Value) (r:List (Value×Value)):Prop where
 | eq (i:Int) (t t':Tok) (e:p=(.int i t,.int i t')) (g:GtI T h c m n r):GtJ T h c m n p r
 | ne (i j:Int) (t t':Tok) (e:p=(.int i t,.int j t')) (hne:i≠j) (hc:decide (i > j)=c):GtJ T h c m n p r
theorem yI {x:Int} (r:Rel T h v (.int x)):∃ t,v=.int x t:=by cases r; exact ⟨_,rfl⟩
theorem FU {m:Nat} {p:Value×Value} {r:List (Value×Value)} (g:GtI T h c m n (p::r)):GtJ T h c m n p r:=by
 obtain ⟨l,k,xs,ys,i,e,qa,qb,hl,z1,z2⟩:=g;cases qa with
 | nil=>cases e
 | cons r1 q1=>
   cases qb with
   | nil=>cases e
   | cons r2 q2=>
     injection e with h1 h2;rcases fP (show b2 (AA _) (AA _) (λx y=>if x=y then Fz _ _ else some (decide (x < y))) none=some c from hl) with ⟨y,x,hy,hx,hl⟩ | hl
     . rw [tR hx] at r1;rw [tR hy] at r2;obtain ⟨t,e1⟩:=yI r1;obtain ⟨t',e2⟩:=yI r2;rw [e1,e2] at h1;by_cases e:y=x
       . rw [if_pos e] at hl;rw [e] at h1;exact .eq x t t' h1 ⟨_,_,_,_,i+1,h2,q1,q2,hl,z1.trans (OX _ 1 i),z2.trans (OX _ 1 i)⟩
       . rw [if_neg e] at hl;exact .ne x y t t' h1 (Ne.symm e) (Option.some.inj hl)
     . cases hl
theorem Jb {m:Nat} (g:GtI T h c m n []):decide (m > n)=c:=by
 obtain ⟨l,k,xs,ys,i,e,qa,qb,hl,rfl,rfl⟩:=g;cases qa with
 | nil=>
   cases qb with
   | nil=>exact (decide_eq_false (Pa _)).trans (Option.some.inj hl)
   | cons _ _=>exact (decide_eq_false (Qv.mpr (NS (N3 _) i))).trans (Option.some.inj hl)
 | cons _ _=>
   cases qb with
   | nil=>exact (decide_eq_true (Nat.add_lt_add_right (Qb _) i)).trans (Option.some.inj hl)
   | cons _ _=>cases e
theorem qV {prog:Program} {E:Value->Shared->Prop} {T:Addr->Prop} {b:Addr} {m:Nat} (ea:s.heap.get? a=some (nH xs n)) (eb:s.heap.get? b=some (nH ys m))
   (qa:RelAll T s.heap xs.toList l) (qb:RelAll T s.heap ys.toList k) (hc:Fz k l=some c) (q:R (.done (.ret (.bool c))) s) :
   wpAny (model prog w) A (Builtin.«tuple.__gt__» ⟨[.ref a,.ref b],[]⟩) R E s:=by
 show wpAny _ _ (isInstance (.ref b) (.type "tuple") >>= _) _ _ s;refine MQ (wpAny_isInstance (T:="tuple") ⟨_,eb,rfl⟩ isSubtype_tuple_tuple (MQ (wpAny_tupleItemsOf ea rfl (MQ (wpAny_tupleItemsOf eb rfl (MQ ?_))))));refine wpAny_forIn_list _ (λrest r s'=>r=(none,())/\s'=s/\GtI T s.heap c xs.size ys.size rest) _ (λp rest r s' g=>?_) (λr s' g=>?_) _ _ ⟨rfl,rfl,_,_,_,_,0,rfl,qa,qb,hc,rfl,rfl⟩
 . cases FU g.2.2 with
   | eq i t t' e g'=>rw [e,g.2.1];refine MQ (wpAny_eqBool_int ?_);rw [beq_self_eq_true i];exact NF ⟨rfl,rfl,g'⟩
   | ne i j t t' e hne hc=>rw [e,g.2.1];refine MQ (wpAny_eqBool_int ?_);rw [beq_eq_false_iff_ne.mpr hne];exact MQ (wpAny_rule (MQ (P.gt_int (MQ (NF (NF (NF (hc ▸ q))))))))
 . rw [g.1,g.2.1];have e:decide (xs.size > ys.size)=c:=Jb g.2.2;exact NF (show R (.done (.ret (.bool (decide (xs.size > ys.size))))) s from e ▸ q)
theorem CY {prog:Program} {E:Value->Shared->Prop} {T:Addr->Prop} {b:Addr} {m:Nat} (ea:s.heap.get? a=some (nH xs n)) (eb:s.heap.get? b=some (nH ys m))
   (qa:RelAll T s.heap xs.toList l) (qb:RelAll T s.heap ys.toList k) (hc:Fz k l=some c) (hu:A.units < cLine) (q:Q (.bool c) s) :
   wpAny (model prog w) A (compareOp .Gt (.ref a) (.ref b)) Q E s:=by
 show wpAny _ _ (richCompare .Gt (.ref a) (.ref b)) _ _ _;refine wpAny_richCompare_same_room (T:="tuple") ⟨_,ea,rfl⟩ ⟨_,eb,rfl⟩ F.slot_tuple_gt ?_ hu;refine wpAny_call_entry F.slot_tuple_gt (T:="tuple") ⟨_,ea,rfl⟩ F.entry_tuple_gt ?_ (F.args_tuple_gt_2 _ _);exact qV ea eb qa qb hc ⟨_,rfl,nofun,q⟩
theorem xZ (Y:uA Z) (I:Inv Z β σ s.heap) (hu:A.units+200 < cLine) (rx:aw β σ s.heap v x) (ry:aw β σ s.heap u y) (hb:br op x y σ=some b) {E:Value->Shared->Prop}
   (q:Bg s Q (.bool b)):wpAny (model Z.prog Z.w) A (compareOp (bU op) v u) Q E s:=by
 cases op with
 | eq=>exact (sA Y I hu rx ry hb).1 q
 | ne=>obtain ⟨c,hc,rfl⟩:=N9.mp (show (JW σ x y).map (!·)=some b from hb);exact (sA Y I hu rx ry hc).2 q
 | lt=>obtain ⟨i,j,t,t',rfl,rfl,e⟩:=tQ rx ry hb;cases e; exact P.lt_int (q s.toks)
 | le=>obtain ⟨i,j,t,t',rfl,rfl,e⟩:=tQ rx ry hb;cases e; exact P.le_int (q s.toks)
 | gt=>
   rcases fP hb with ⟨i,j,hi,hj,e⟩ | e
   . rw [dv hi] at rx;rw [dv hj] at ry;apply iY (sS rx); intro t;apply iY (sS ry); intro t';cases e; exact P.gt_int (q s.toks)
   rcases fP e with ⟨i,j,hi,hj,e⟩ | e
   . rw [dM hi] at rx;rw [dM hj] at ry;apply (oH rx).el; intro a vs n h1 _ _ r1;apply (oH ry).el; intro a' us m h2 _ _ r2;exact CY h1 h2 r1 r2 e (Oc (NZ _ 200) hu) (q s.toks)
   . cases e
 | ge _=>obtain ⟨i,j,t,t',rfl,rfl,e⟩:=tQ rx ry hb;cases e; exact P.ge_int (q s.toks)
 | isN=>
   obtain ⟨rfl,⟨d,rfl,e⟩ | ⟨a,rfl,e⟩⟩:=yS rx ry hb
   . have q:=q s.toks;cases e;cases rx <;> exact wpAny_is_plain rfl q
   . cases e; exact wpAny_is_plain rfl (q s.toks)
 | isNotN=>
   obtain ⟨rfl,⟨d,rfl,e⟩ | ⟨a,rfl,e⟩⟩:=yS rx ry hb
   . have q:=q s.toks;cases e;cases rx <;> exact wpAny_isNot_plain rfl q
   . cases e; exact wpAny_isNot_plain rfl (q s.toks)
 | isIn=>exact (sg Y I hu rx ry hb).1 q
 | notIn=>obtain ⟨c,hc,rfl⟩:=N9.mp (show (br.inV x y σ).map (!·)=some b from hb);exact (sg Y I hu rx ry hc).2 q
variable {items:Array Value} {value:Expr} {p:Option Int} {vl vu:Value}
theorem mM {j:Int} (hj:(if i < 0 then i+n else i)=j) (h0:0<=j) (h1:j < n):seqIndex? i n=some j.toNat:=by show (if (decide (0<=(if i < 0 then i+(n:Int) else i))&&decide ((if i < 0 then i+(n:Int) else i) < n))=true then some (if i < 0 then i+(n:Int) else i).toNat else none)=_;rw [hj,if_pos (by rw [decide_eq_true h0,decide_eq_true h1]; rfl)]
theorem pQ {k:Nat} (h:index n i=some k):seqIndex? i n=some k/\-(n:Int)<=i/\i < n/\k < n:=by
 by_cases h0:0<=i
 . have h:=(if_pos h0).symm.trans h;by_cases h1:i < n
   . have e:=Option.some.inj ((if_pos h1).symm.trans h);subst e;exact ⟨mM (if_neg (Q3.mpr h0)) h0 h1,OC (Int.neg_nonpos_of_nonneg (Oa n)) h0,h1,(PV h0).mpr h1⟩
   . exact Q1 rfl (heq_of_eq ((if_neg h1).symm.trans h))
 . have h:=(if_neg h0).symm.trans h;have h0:=Int.not_le.mp h0;by_cases h1:0<=i+n
   . have e:=Option.some.inj ((if_pos h1).symm.trans h);subst e;have h2:i+n < n:=PG (Int.add_lt_add_right h0 n) (Int.le_of_eq (Q7 _));exact ⟨mM (if_pos h0) h1 h2,by omega,PG h0 (Oa n),(PV h1).mpr h2⟩
   . exact Q1 rfl (heq_of_eq ((if_neg h1).symm.trans h))
noncomputable def ItemsOf (Z:Cx) (A:Around) (E:Value->Shared->Prop) (v u:Value) (Q:Value->Shared->Prop) (s:Shared):Prop:=
 X2 λT id=>A3 (s.TypeIs v T) (typeLookup (.type T) "__getitem__"=pure (some (.builtin id))) (wpAny (model Z.prog Z.w) A (getItem v u) Q E s)
theorem lJ {t:Tok} {y:Value} {E:Value->Shared->Prop} (e:s.heap.get? a=some (dj vs n)) (h0:0<=i) (hz:vs.size<=LIM) (hy:vs[i.toNat]?=some y) (h:Q y s) :
   ItemsOf Z A E (.ref a) (.int i t) Q s:=
 ⟨"list",_,⟨_,e,rfl⟩,slot_list_getitem.lookup,wpAny_getItem_list ⟨_,e,rfl,_,rfl⟩ h0 (by have:=(O0.mp hy).1;unfold LIM at hz; omega) hy h⟩
theorem xD {z:V} (Y:uA Z) (I:Inv Z β σ s.heap) (rx:aw β σ s.heap v x) (ry:aw β σ s.heap u y) (hb:df x y σ=some z) {E:Value->Shared->Prop}
   (q:∀ w tk,aw β σ s.heap w z->Q w { s with toks:=tk }):ItemsOf Z A E v u Q s:=by
 rcases cX hb with ⟨i,hi,hb⟩ | hb
 . rw [dv hi] at ry;apply iY (sS ry); intro ti;rcases cX hb with ⟨l,hl,hb⟩ | hb
   . rw [dM hl] at rx;apply (oH rx).el; intro a vs n e t zz r;obtain ⟨k,hk,hb⟩:=NJ.mp hb;obtain ⟨d,hd,rfl⟩:=N9.mp hb;obtain ⟨h1,h2,h3,h4⟩:=pQ hk;obtain ⟨w,hw,rw'⟩:=r.get hd;have hl:=r.length;simp only [NT] at hl;exact ⟨"tuple",_,⟨_,e,rfl⟩,F.slot_tuple_getitem.lookup,P.getItem_tuple e (by unfold LIM at zz; omega) (by unfold LIM at zz; omega) (by rw [hl]; exact h1) (by simpa using hw) (q w s.toks rw')⟩
   . rcases cX hb with ⟨x',hx,hb⟩ | hb
     . rw [dP hx] at rx;obtain ⟨t,rfl,g⟩:=ma rx;obtain ⟨k,hk,hb⟩:=NJ.mp hb;obtain ⟨c,hd,rfl⟩:=N9.mp hb;obtain ⟨h1,h2,h3,h4⟩:=pQ hk;have hl:=g.len;have hlen:x'.length=(aI x').length:=by simp [Str.length,aI]
       have hc:x'.cps[k]?=some c:=by simpa [aI] using hd
       refine ⟨"str",_,typeIs_str s x' t,F.slot_str_getitem.lookup,P.getItem_str ?_ (c:=c) ?_ (q _ _ (.str _ _ ?_))⟩
       . unfold LIM at hl; simp; lia
       . rw [hlen,h1,Option.bind_some]; exact hc
       . exact fZ (λd hd'=>by simp at hd'; subst hd'; exact g.cps d (NI hd)) (by simp [LIM])
     . rcases cX hb with ⟨l,hl,hb⟩ | hb
       . rw [CD hl] at rx;obtain ⟨a,vs,n,rfl,e,t,hl,hm⟩:=rx;by_cases h0:0<=i
         . rw [if_pos h0] at hb;obtain ⟨k,hd,rfl⟩:=N9.mp hb;obtain ⟨b,h1,h2⟩:=hm _ _ hd;exact lJ e h0 (by have:=hl.1; simp only [NT] at this; rw [this]; exact hl.2) h2 (q _ s.toks ⟨b,h1,rfl⟩)
         . rw [if_neg h0] at hb; cases hb
       . rcases cX hb with ⟨l,hl,hb⟩ | hb
         . obtain ⟨a,vs,n,rfl,e,r,zz⟩:=a6 I hl rx;by_cases h0:0<=i
           . rw [if_pos h0] at hb;obtain ⟨d,hd,rfl⟩:=N9.mp hb;obtain ⟨w,hw,rw'⟩:=r.get hd;have hz:=r.length;simp only [NT] at hz;exact lJ e h0 (by rw [hz]; exact zz) (by simpa using hw) (q w s.toks rw')
           . rw [if_neg h0] at hb; cases hb
         . cases hb
 . rcases fP hb with ⟨k,l,hk0,hl,hbF⟩ | hb
   . clear hb;apply (fW I hl rx).el; intro n a hb' hc R0; obtain ⟨kvs,D,hk,r,_,zz⟩:=R0;rw [dP hk0] at ry;apply xT (ma ry); intro t g;obtain ⟨d',hd',rfl⟩:=N9.mp hbF;rcases dX hk r k with ⟨h1,h2⟩ | ⟨w,d,h1,h2,rw'⟩
     . rw [h2] at hd'; cases hd'
     . rw [h2] at hd'; cases hd';exact ⟨"dict",_,D.typeIs,slot_dict_getitem.lookup,wpAny_getItem_of (strKind_is Z.prog Z.w k t) D.mapOf h1 (q w _ rw')⟩
   . cases hb
set_option tactic.hygienic true in
theorem dO {slice:Expr} {E:Value->Shared->Prop} (h:ItemsOf Z A E v u Q s) :
   wpAny (model Z.prog Z.w) A (do standAt pos; let r <- subscripted slice (<- getitemInPython v) v u; letTemporaryGo value v r; pure r) Q E s:=by
 obtain ⟨T,id,hT,hl,hw⟩:=h;refine MQ (Ow ?_);have hs:∃ ops,subscripted slice false v u=operate ops (getItem v u):=by
   cases slice
   case Slice _ _ st _=>cases st <;> exact ⟨_,rfl⟩
   all_goals exact ⟨_,rfl⟩
 obtain ⟨ops,hs⟩:=hs;refine MQ ?_;rw [getitemInPython_of_ne hT.not_modules];refine MQ (wpAny_specialOf hT hl ?_);have fin:wpAny (model Z.prog Z.w) A (subscripted slice false v u) (λr aR=>wpAny (model Z.prog Z.w) A (letTemporaryGo value v r >>= λ_=>pure r) Q E aR) E s:=by rw [hs];exact wpAny_operating (NM hw (λr aR my=>MQ (wpAny_letTemporaryGo (NF my))) λ_ _ x=>x)
 first
   | exact NF (MQ fin)
   | exact MQ (NF (MQ fin))
   | exact MQ fin
theorem gJ (n:Nat) (i:Int):jN n i=clipAt n i:=rfl
theorem mh (vs:Array Value) (lo hi:Option Int):(slicePick vs lo hi none).toList=ar vs.toList lo hi:=by rw [slicePick_plain];unfold ar;cases lo <;> cases hi <;> simp [gJ]
theorem eI (l:List α) (lo hi:Option Int):(ar l lo hi).length<=l.length:=
 ((P6 _ _).trans (Qw _ _)).length_le
theorem RelAll.slice {vs:List Value} (r:RelAll T h vs ds) (lo hi:Option Int):RelAll T h (ar vs lo hi) (ar ds lo hi):=by unfold ar;rw [r.length];exact (r.drop _).take _
theorem uQ (x:Str) (lo hi:Option Int):(Builtin.Str.strSliceIndices lo hi 1 x.length).filterMap (x.cps[·]?)=ar (aI x) lo hi:=by
 have e:Builtin.Str.strSliceIndices lo hi 1 x.length=sliceRange (((lo.elim 0 (clipAt x.length):Nat):Int)) (((hi.elim x.length (clipAt x.length):Nat):Int)) 1:=by unfold Builtin.Str.strSliceIndices;cases lo <;> cases hi <;> simp [clipAt_cast]
 rw [e,sliceRange_one,pick_run];unfold ar aI;cases lo <;> cases hi <;> simp [gJ,Str.length]
theorem wj (n:Nat) (i:Int):(if i < 0 then max (i+n) 0 else min i n)=(clipAt n i:Int):=by
 rw [clipAt_cast n i];by_cases h:i < 0
 . rw [if_pos h,if_pos h,Qp (OC (Int.add_le_add_right (PU h) n) (Int.le_of_eq (Q7 _))),Int.max_comm]
 . rw [if_neg h,if_neg h,PQ (Int.le_min.mpr ⟨Q3.mp h,Oa n⟩)]
theorem sX (lo hi:Option Int) (n:Nat):Builtin.Slice.sliceAdjust lo hi 1 (n:Int)=(((lo.elim 0 (clipAt n):Nat):Int),((hi.elim n (clipAt n):Nat):Int)):=by
 refine Prod.ext ?_ ?_
 . cases lo with
   | none=>rfl
   | some i=>exact wj n i
 . cases hi with
   | none=>rfl
   | some i=>exact wj n i
theorem sV (a b:Nat):Builtin.Slice.slicePlaces (a:Int) (b:Int) 1=b - a:=by
 unfold Builtin.Slice.slicePlaces;have h1:(1:Int) > 0:=by decide
 simp only [h1,if_true,Int.ediv_one];split <;> lia
theorem lz {prog:Program} {E:Value->Shared->Prop} {Q:Option Int->Shared->Prop} (hp:IsPart v p) (h:Q p s):wpAny (model prog w) A (Builtin.Slice.slicePartIndex v) Q E s:=by
 cases hp with
 | none=>exact Qq h
 | int i t=>exact PyProof.Rows.slicePart_int h
theorem By (items:Array Value) (lo hi:Option Int):((List.range (hi.elim items.size (clipAt items.size) - lo.elim 0 (clipAt items.size))).filterMap λ(k:Nat)=>items[(((lo.elim 0 (clipAt items.size):Nat):Int)+(k:Int) * 1).toNat]?).toArray=(ar items.toList lo hi).toArray:=by
 have e:(λ(k:Nat)=>items[(((lo.elim 0 (clipAt items.size):Nat):Int)+(k:Int) * 1).toNat]?)=λk=>items[lo.elim 0 (clipAt items.size)+k]?:=by funext k;congr 1;rw [Int.mul_one]; rfl
 rw [e];have:=pick_run items (lo.elim 0 (clipAt items.size)) (hi.elim items.size (clipAt items.size) - lo.elim 0 (clipAt items.size));rw [List.filterMap_map] at this;have e2:((λx=>items[x]?) ∘ λx=>lo.elim 0 (clipAt items.size)+x)=λk=>items[lo.elim 0 (clipAt items.size)+k]?:=rfl;rw [e2] at this;rw [this];unfold ar;cases lo <;> cases hi <;> simp [gJ]
theorem zS (items:Array Value) (lo hi:Option Int) (hw:(((lo.elim 0 (clipAt items.size):Nat):Int)==0&&(1:Int)==1&&(hi.elim items.size (clipAt items.size) - lo.elim 0 (clipAt items.size))==items.size)=true):ar items.toList lo hi=items.toList:=by
 simp only [NO,beq_iff_eq] at hw;obtain ⟨⟨h3,_⟩,h4⟩:=hw;have e0:lo.elim 0 (clipAt items.size)=0:=Int.ofNat.inj h3;have:∀ a b,a=0->b - a=items.size->(items.toList.drop a).take (b - a)=items.toList:=by intro a b ha hb;rw [hb]; subst ha; simp [Pn]
 unfold ar;have q:=this (lo.elim 0 (clipAt items.size)) (hi.elim items.size (clipAt items.size)) e0 h4;cases lo <;> cases hi <;> simpa [gJ] using q
set_option tactic.hygienic true in
theorem kF {prog:Program} {E:Value->Shared->Prop} {t sl:Addr} {lo hi:Option Int} (ht:s.heap.get? t=some (nH items n))
   (hs:s.heap.IsSliceOf sl vl vu .none) (pl:IsPart vl lo) (pu:IsPart vu hi) (hsz:items.size<=sizeLine)
   (h1:ar items.toList lo hi=items.toList->Q (.ref t) s) (h2:Q (.ref s.heap.objs.size) { s with heap:=s.heap.push { cls:=.type "tuple",data:=.seq (ar items.toList lo hi).toArray } }) :
   wpAny (model prog w) A (getItem (.ref t) (.ref sl)) Q E s:=by
 have ht':PyProof.Rows.IsTup s.heap t items:=⟨_,ht,rfl,_,rfl⟩
 obtain ⟨os,hos,hcs,hds⟩:=id hs;have hTs:s.TypeIs (.ref sl) "slice":=⟨os,hos,hcs⟩
 have hlen:=eI items.toList lo hi;have hdrop:sizeOk (.seq (ar items.toList lo hi).toArray):=by show (ar items.toList lo hi).toArray.size<=sizeLine;rw [List.size_toArray];simp at hlen;exact iv hlen hsz
 unfold getItem
 try with_reducible refine OG ?_
 first | refine MQ (NF ?_) | skip
 refine MQ (wpAny_sequenceKey ht'.typeIs (by decide) ?_);refine MQ (wpAny_callSpecial?_slot (name:=Str.ofString "__getitem__") ht'.typeIs P7
   (wpAny_call_entry P7 ht'.typeIs PyProof.Rows.entry_tuple_getitem ?_ (PyProof.Rows.args_tuple_getitem _ _)))
 show wpAny _ _ (Builtin.Tuple.tupleItemsOf (.ref t) >>= _) _ _ s;refine MQ (PyProof.Rows.tupleItemsOf_ ht' ?_);refine MQ (wpAny_typeOf hTs ?_);rw [if_pos (by decide)];have app:∀ Q':Int×Int×Nat->Shared->Prop,Q' (((lo.elim 0 (clipAt items.size):Nat):Int),1,hi.elim items.size (clipAt items.size) - lo.elim 0 (clipAt items.size)) s->
     wpAny (model prog w) A.in1 (Builtin.Slice.sliceApplied (.ref sl) (pure (items.size:Int))) Q' E s:=by
   intro Q' hq;unfold Builtin.Slice.sliceApplied Builtin.Slice.sliceFields;refine MQ (MQ (wpAny_field hos hds (x:=vl) rfl (MQ (wpAny_field hos hds (x:=vu) rfl (MQ (wpAny_field hos hds (x:=.none) rfl (NF ?_)))))));refine MQ (Qq ?_);show wpAny _ _ (if ((1:Int)==0)=true then _ else _) _ _ s;rw [if_neg (by decide)];refine MQ (lz pl (MQ (lz pu (MQ (NF ?_)))));show wpAny _ _ (match Builtin.Slice.sliceAdjust lo hi 1 (items.size:Int) with | (lo,hi)=>pure (lo,(1:Int),Builtin.Slice.slicePlaces lo hi 1)) _ _ s;rw [sX];show wpAny _ _ (pure (((lo.elim 0 (clipAt items.size):Nat):Int),(1:Int),Builtin.Slice.slicePlaces ((lo.elim 0 (clipAt items.size):Nat):Int) ((hi.elim items.size (clipAt items.size):Nat):Int) 1)) _ _ s;rw [sV];exact NF hq
 refine MQ (app _ ?_);show wpAny _ _ (if ((((lo.elim 0 (clipAt items.size):Nat):Int)==0&&(1:Int)==1&&(hi.elim items.size (clipAt items.size) - lo.elim 0 (clipAt items.size))==items.size)=true) then _ else _) _ _ s;split
 . rename_i hw;have h1':=h1 (zS items lo hi hw);have ex:∀ Q':Bool->Shared->Prop,Q' true s->wpAny (model prog w) A.in1 (Builtin.Tuple.tupleIsExact (.ref t)) Q' E s:=by intro Q' hq;unfold Builtin.Tuple.tupleIsExact;exact MQ (wpAny_typeOf ht'.typeIs (NF hq))
   first
     | exact MQ (ex _ (MQ (wpAny_rule (NF ⟨_,rfl,NF h1'⟩))))
     | exact MQ (ex _ (MQ (wpAny_rule (MQ (NF (NF ⟨_,rfl,NF h1'⟩))))))
 . rw [By]
   first
     | exact MQ (m:=Builtin.Tuple.tupleExact _) (Og (NF ⟨_,rfl,NF h2⟩) hdrop)
     | exact MQ (m:=Builtin.Tuple.tupleExact _) (Og (MQ (NF (NF ⟨_,rfl,NF h2⟩))) hdrop)
     | exact MQ (MQ (m:=Builtin.Tuple.tupleExact _) (Og (NF (NF ⟨_,rfl,NF h2⟩)) hdrop))
     | exact MQ (MQ (m:=Builtin.Tuple.tupleExact _) (Og (NF ⟨_,rfl,NF h2⟩) hdrop))
variable {bs:List Bool} {ss:List Str} {xs:List V} {vs rest:List Value} {g:V->Res V} {f:Value}
section
variable {h:Heap}
noncomputable def JY (v:Value) (x:Option V) (β:List Addr) (σ:ac) (h:Heap):Prop:=match x with
 | none=>v=.none
 | some x=>aw β σ h v x
theorem j1 {x:Option V} (r:JY v x β σ h) (hp:co x=some p):IsPart v p:=by
 cases x with
 | none=>cases hp; cases r; exact .none
 | some x=>cases x with
   | d y=>cases y with
     | int i=>cases hp; cases r; exact .int _ _
     | _=>cases hp
   | _=>cases hp
theorem fm (ha:h.objs.size<=a):h.get? a=none:=by
 cases q:h.get? a with
 | none=>rfl
 | some o=>exact absurd (Os q) (Qv.mpr ha)
theorem tq {l:List α} {lo hi:Option Int} (hl:(ar l lo hi).length=l.length):ar l lo hi=l:=
 ((P6 _ _).trans (Qw _ _)).eq_of_length hl
theorem Gp (n:Nat) (i:Int):clipAt n i<=n:=Pc.mpr (Int.max_le.mpr ⟨Oa n,Int.min_le_right _ _⟩)
theorem zX {x:Str} {l h:Option Int} {l' h':Option (Int×Tok)} (e1:l'.map (·.1)=l) (e2:h'.map (·.1)=h) (hlen:(slicePicked x l' h' none).length=x.length):av (ar (aI x) l h)=x:=by
 have e:slicePicked x l' h' none=sliceRange (((l.elim 0 (clipAt x.length):Nat):Int)) (((h.elim x.length (clipAt x.length):Nat):Int)) 1:=by unfold slicePicked;rw [e1,e2];unfold Builtin.Str.strSliceIndices;cases (l) <;> cases (h) <;> simp [clipAt_cast]
 rw [e,sliceRange_one,Ng,O2] at hlen;have c2:h.elim x.length (clipAt x.length)<=x.length:=by
   cases h with
   | none=>exact Of _
   | some i=>exact Gp _ i
 have es:ar (aI x) l h=((aI x).drop (l.elim 0 (clipAt x.length))).take (h.elim x.length (clipAt x.length) - l.elim 0 (clipAt x.length)):=by cases (l) <;> cases (h) <;> rfl
 rw [es,hlen,(Qw _ (aI x)).eq_of_length_le (by rw [O7]; exact iv (OH hlen.symm) (Nat.sub_le_sub_right c2 _)),Pn (show (aI x).length<=x.length from Of _)];rfl
noncomputable abbrev ER (v vl vu:Value) (value slice:Expr) (pos:Pos):Sem Value:=newFields "slice" [vl,vu,.none] >>= λi=>(do standAt pos; let r <- subscripted slice (<- getitemInPython v) v i; letTemporaryGo value v r; pure r)
theorem L6 {slice:Expr} {l h:Option Int} (I:Inv Z β σ s.heap) {x:List PyData} (rx:aw β σ s.heap v (.d (.tuple x))) (pl:IsPart vl l) (pu:IsPart vu h):Ev Z O A (ER v vl vu value slice pos) (.ok (.d (.tuple (ar x l h))) σ) VR β σ s:=by
 have hk:∀ b o,s.heap.get? b=some o->(s.heap.push { cls:=.type "slice",data:=.fields #[vl,vu,.none] }).get? b=some o:=λb o e=>NG _ e;have sl:(s.heap.push { cls:=.type "slice",data:=.fields #[vl,vu,.none] }).IsSliceOf s.heap.objs.size vl vu .none:=Heap.IsSliceOf.new ..;cases rx with
 | tuple e t z r=>
   have hz:=r.length;simp at hz;refine Ev.grown I (MQ (Og (dO ⟨"tuple",_,⟨_,hk _ _ e,rfl⟩,F.slot_tuple_getitem.lookup,kF (hk _ _ e) sl pl pu (by rw [hz]; exact iv z bu) (λq=>?_) ?_⟩)))
   . refine ⟨hk,rfl,rfl,?_⟩;have hx:ar x l h=x:=tq (by rw [<- (r.slice l h).length,q,r.length]);rw [hx];exact .tuple (hk _ _ e) t z (r.mono λx o _ _ e _ t=>⟨hk x o e,t⟩)
   . refine ⟨λb o e=>NG _ (hk b o e),rfl,rfl,?_⟩;refine .tuple (n:=0) (NQ _ rfl) (I.notTT ?_) (iv (eI x l h) z) ?_
     . exact fm (by rw [PB]; exact PI _)
     . exact (r.slice l h).mono λx o _ _ e _ t=>⟨NG _ (hk x o e),t⟩
set_option tactic.hygienic true in
theorem L5 {slice:Expr} {l h:Option Int} (I:Inv Z β σ s.heap) {x:Str} (rx:aw β σ s.heap v (.d (.str x))) (pl:IsPart vl l) (pu:IsPart vu h):Ev Z O A (ER v vl vu value slice pos) (.ok (.d (.str (av (ar (aI x) l h)))) σ) VR β σ s:=by
 have hk:∀ b o,s.heap.get? b=some o->(s.heap.push { cls:=.type "slice",data:=.fields #[vl,vu,.none] }).get? b=some o:=λb o e=>NG _ e;cases rx with
 | str _ tk g=>
   have good:cD (av (ar (aI x) l h)):=fZ (λc hc=>g.cps c (by unfold ar at hc;exact O9 (Oi hc))) (iv (eI _ _ _) g.len)
   have parts:X2 λl' h'=>A4 (vl=partValue l') (vu=partValue h') (l'.map (·.1)=l) (h'.map (·.1)=h):=by
     refine ⟨match vl with | .int i t=>some (i,t) | _=>none,match vu with | .int i t=>some (i,t) | _=>none,?_,?_,?_,?_⟩
     . cases pl <;> rfl
     . cases pu <;> rfl
     . cases pl <;> rfl
     . cases pu <;> rfl
   obtain ⟨l',h',rfl,rfl,e1,e2⟩:=parts;refine Ev.grown I (MQ (Og (dO ⟨"str",_,typeIs_str _ x tk,F.slot_str_getitem.lookup,wpAny_getItem_str_slice (l:=l') (u:=h') (st:=none) ⟨_,NQ _ rfl,rfl,rfl⟩ rfl ?_⟩)));have Fg:(slicePicked x l' h' none).filterMap (x.cps[·]?)=ar (aI x) l h:=by unfold slicePicked;rw [e1,e2];exact uQ x l h
   unfold sliceMade;split
   . rename_i hw;refine ⟨hk,rfl,rfl,?_⟩;have hx:av (ar (aI x) l h)=x:=zX e1 e2 (by have:=(NH.mp hw).2;simpa using this)
     rw [hx];exact .str _ _ g
   . refine ⟨?_,hk,rfl,rfl,?_⟩
     . rw [Fg];have:=good.2;exact iv this bu
     . rw [Fg];exact .str _ _ good
theorem L4 {slice:Expr} {l h:Option Int} (I:Inv Z β σ s.heap) {xs:List PyData} (rx:aw β σ s.heap v x) (hxs:aD σ x=some xs) (pl:IsPart vl l) (pu:IsPart vu h):Ev Z O A (ER v vl vu value slice pos) (aU m (ar xs l h) σ) VR β σ s:=by
 have hk:∀ b o,s.heap.get? b=some o->(s.heap.push { cls:=.type "slice",data:=.fields #[vl,vu,.none] }).get? b=some o:=λb o e=>NG _ e;have sl:(s.heap.push { cls:=.type "slice",data:=.fields #[vl,vu,.none] }).IsSliceOf s.heap.objs.size vl vu .none:=Heap.IsSliceOf.new ..;obtain ⟨a,vs,n,rfl,e,r,z⟩:=a6 I hxs rx;have hz:=r.length;simp at hz;refine dJ I (iv (eI _ _ _) z) (MQ (Og (dO ⟨"list",_,⟨_,hk _ _ e,rfl⟩,slot_list_getitem.lookup,
   wpAny_getItem_list_slice ⟨_,hk _ _ e,rfl,_,rfl⟩ sl pl pu .none (by simp) ?_ (by rw [hz]; exact iv z bu)⟩)))
 refine ⟨_,_,0,rfl,fm (by rw [PB]; exact PI _),NQ _ rfl,λb o e=>NG _ (hk b o e),rfl,rfl,?_⟩;rw [mh];exact r.slice l h
theorem EQ (h1:∀ l h y,co lo=some l->co hi=some h->x=.d (.tuple y)->Ev Z O A t (.ok (.d (.tuple (ar y l h))) σ) VR β σ s) (h2:∀ l h y,co lo=some l->co hi=some h->x=.d (.str y)->Ev Z O A t (.ok (.d (.str (av (ar (aI y) l h)))) σ) VR β σ s)
   (h3:∀ l h xs,co lo=some l->co hi=some h->aD σ x=some xs->Ev Z O A t (aU m (ar xs l h) σ) VR β σ s):Ev Z O A t (gU m x lo hi σ) VR β σ s:=by
 unfold gU;rcases lY (co lo) (co hi) (λl h=>oc (ia x) (λx=>Res.ok (V.d (.tuple (ar x l h))) σ) (oc (jk x) (λx=>.ok (.d (.str (av (ar (aI x) l h)))) σ) (oc (aD σ x) (λx=>aU m (ar x l h) σ) .bad))) .bad with ⟨l,h,hl,hh,e⟩ | e
 . rw [e];clear e;rcases dS (ia x) (λx=>Res.ok (V.d (.tuple (ar x l h))) σ) (oc (jk x) (λx=>.ok (.d (.str (av (ar (aI x) l h)))) σ) (oc (aD σ x) (λx=>aU m (ar x l h) σ) .bad)) with ⟨y,hy,e⟩ | e
   . rw [e]; exact h1 l h y hl hh (dM hy)
   rw [e];clear e;rcases dS (jk x) (λx=>Res.ok (V.d (.str (av (ar (aI x) l h)))) σ) (oc (aD σ x) (λx=>aU m (ar x l h) σ) .bad) with ⟨y,hy,e⟩ | e
   . rw [e]; exact h2 l h y hl hh (dP hy)
   rw [e];clear e;rcases dS (aD σ x) (λx=>aU m (ar x l h) σ) .bad with ⟨y,hy,e⟩ | e
   . rw [e]; exact h3 l h y hl hh hy
   . rw [e]; exact Ev.bad
 . rw [e]; exact Ev.bad
theorem wS {slice:Expr} (I:Inv Z β σ s.heap) (rx:aw β σ s.heap v x) (rl:JY vl lo β σ s.heap) (ru:JY vu hi β σ s.heap) :
   Ev Z O A (ER v vl vu value slice pos) (gU m x lo hi σ) VR β σ s:=
 EQ (λl h y hl hh e=>L6 I (e ▸ rx) (j1 rl hl) (j1 ru hh)) (λl h y hl hh e=>L5 I (e ▸ rx) (j1 rl hl) (j1 ru hh)) λl h xs hl hh hxs=>L4 I rx hxs (j1 rl hl) (j1 ru hh)
noncomputable def sU:Ty->String
 | .list=>"list"
 | .int=>"int"
 | .bool=>"bool"
 | .str=>"str"
 | .tuple=>"tuple"
theorem tP {t:Ty} (I:Inv Z β σ s.heap) (r:aw β σ s.heap v x) (hb:MU t σ x=some b) {E:Value->Shared->Prop} (q:Bg s Q (.bool b)) :
   wpAny (model Z.prog Z.w) A (call (.builtin "isinstance") [v,.type (sU t)]) Q E s:=by
 cases x with
 | un=>cases hb
 | locs l=>cases hb
 | exc _ _=>cases hb
 | inst _ _=>cases hb
 | loc n=>
   obtain ⟨a,hb',rfl⟩:=r;cases t with
   | list=>obtain ⟨l,hc,hb⟩:=N9.mp hb;obtain ⟨vs,m,e,r,z⟩:=I.cell n a _ hb' (fg hc);cases hb;exact IsiPair.list_list e rfl (q s.toks)
   | _=>cases hb
 | d y=>
   cases r with
   | int i tk=>
     cases t with
     | int=>cases hb; exact IsiPair.int_int (q s.toks)
     | bool=>cases hb; exact IsiPair.int_bool (q _)
     | str=>cases hb; exact IsiPair.int_str (q _)
     | tuple=>cases hb; exact IsiPair.int_tuple (q _)
     | list=>cases hb
   | str x tk g=>
     cases t with
     | str=>cases hb; exact IsiPair.str_str (q s.toks)
     | tuple=>cases hb; exact IsiPair.str_tuple (q _)
     | _=>cases hb
   | none=>
     cases t with
     | str=>cases hb; exact IsiPair.NoneType_str (q _)
     | tuple=>cases hb; exact IsiPair.NoneType_tuple (q _)
     | _=>cases hb
   | tuple e ht z r=>
     cases t with
     | tuple=>cases hb; exact IsiPair.tuple_tuple e rfl (q s.toks)
     | str=>cases hb; exact IsiPair.tuple_str e rfl (q _)
     | _=>cases hb
   | bool i=>
     cases t with
     | bool=>cases hb; exact IsiPair.bool_bool (q s.toks)
     | _=>cases hb
   | list e ht z r=>
     cases t with
     | list=>cases hb; exact IsiPair.list_list e rfl (q s.toks)
     | _=>cases hb
theorem kU (r:RelAll T h vs l) (e:fY l=some ss):PyProof.Rows.StrsAre vs ss/\l=ss.map .str:=by
 induction l generalizing vs ss with
 | nil=>rw [r.inv0]; cases e; exact ⟨.nil,rfl⟩
 | cons d l ih=>
   obtain ⟨v,vs,rfl,z,rs⟩:=r.inv; clear r;cases z with
   | str x t g=>obtain ⟨ss,e',rfl⟩:=N9.mp (show (fY l).map (x::·)=some ss from e);exact ⟨.cons x t (ih rs e').1,congrArg (List.cons (PyData.str x)) (ih rs e').2⟩
   | _=>cases e
theorem jQ (r:RelAll T h vs l) (e:d7 l=some bs):vs=bs.map .bool/\l=bs.map .bool:=by
 induction l generalizing vs bs with
 | nil=>rw [r.inv0]; cases e; exact ⟨rfl,rfl⟩
 | cons d l ih=>
   obtain ⟨v,vs,rfl,z,rs⟩:=r.inv; clear r;cases z with
   | bool x=>obtain ⟨ss,e',rfl⟩:=N9.mp (show (d7 l).map (x::·)=some bs from e);exact ⟨congrArg (List.cons (Value.bool x)) (ih rs e').1,congrArg (List.cons (PyData.bool x)) (ih rs e').2⟩
   | _=>cases e
theorem BF (x y:Str):PySem.Spec.ltCps x.cps.toList y.cps.toList=lx x y:=by rw [PyProof.Rows.ltCps_eq]; rfl
theorem BH {x y:Str} (h:aI x=aI y):x=y:=by obtain ⟨a⟩:=x; obtain ⟨b⟩:=y;simp [aI] at h; simp [h]
theorem nh (x y:Str) (r:List Str):iV x (y::r)=if lx y x then y::iV x r else x::y::r:=rfl
theorem jI (x:Str):∀ l:List Str,(iV x l).Perm (x::l)
 | []=>.refl _
 | y::r=>by
   rw [nh];split
   . exact ((jI x r).cons y).trans (.swap ..)
   . exact .refl _
theorem ci:∀ l:List Str,(cV l).Perm l
 | []=>.refl _
 | x::r=>(jI x _).trans ((ci r).cons x)
noncomputable def xy (x y:Str):Prop:=lx y x=false
theorem se {x y z:Str} (h1:xy x y) (h2:xy y z):xy x z:=by unfold xy lx at *;simp only [decide_eq_false_iff_not,List.not_lt] at *;exact List.le_trans h1 h2
set_option tactic.hygienic true in
theorem kO (x:Str):∀ l:List Str,l.Pairwise xy->(iV x l).Pairwise xy
 | []=>@λ_=>QB _ _
 | y::r=>@λhp=>by
   obtain ⟨h1,h2⟩:=PH.mp hp;rw [nh];split
   . rename_i hlt;refine PH.mpr ⟨λz hz=>?_,kO x r h2⟩;rcases NN.mp ((jI x r).mem_iff.mp hz) with rfl | hz
     . unfold xy lx at *;simp only [decide_eq_true_iff,decide_eq_false_iff_not] at *;exact List.lt_asymm hlt
     . exact h1 z hz
   . rename_i hlt;have hxy:xy x y:=by unfold xy; simpa using hlt
     refine PH.mpr ⟨λz hz=>?_,hp⟩;rcases NN.mp hz with rfl | hz
     . exact hxy
     . exact se hxy (h1 z hz)
theorem jr:∀ l:List Str,(cV l).Pairwise xy
 | []=>.nil
 | x::r=>kO x _ (jr r)
theorem ig:∀ (p:Str) (l:List Str),PyProof.Rows.risingS p l=true->(p::l).Pairwise xy
 | p,[]=>@λ_=>by simp
 | p,x::r=>@λhh=>by
   simp only [PyProof.Rows.risingS,NO,Oo] at hh;have ih:=ig x r hh.2;have hpx:xy p x:=by unfold xy; rw [<- BF]; exact hh.1
   refine PH.mpr ⟨λz hz=>?_,ih⟩;rcases NN.mp hz with rfl | hz
   . exact hpx
   . exact se hpx ((PH.mp ih).1 z hz)
theorem gS {l l':List Str} (hp:l'.Perm l) (hs:PyProof.Rows.sortedS l'=true):l'=cV l:=by
 have h1:l'.Pairwise xy:=by
   cases l' with
   | nil=>exact .nil
   | cons x r=>exact ig x r hs
 refine List.Perm.eq_of_pairwise (λa b _ _ h1 h2=>?_) h1 (jr l) (hp.trans (ci l).symm);unfold xy lx at *;simp only [decide_eq_false_iff_not,List.not_lt] at *;exact BH (List.le_antisymm h1 h2)
theorem o3 (r:PyProof.Rows.StrsAre vs ss) (hg:∀ x∈ss,cD x):RelAll T h vs (ss.map .str):=by
 induction r with
 | nil=>exact .nil
 | cons x t r ih=>exact .cons (.str x t (hg x (NE ..))) (ih λy hy=>hg y (NA _ hy))
theorem sk (r:RelAll T h vs (ss.map .str)):∀ x∈ss,cD x:=by
 induction ss generalizing vs with
 | nil=>exact λx hx=>absurd hx Oy
 | cons y ss ih=>
   obtain ⟨v,vs,rfl,z,rs⟩:=r.inv; clear r;cases z with
   | str _ _ g=>exact λx hx=>(NN.mp hx).elim (λe=>e ▸ g) (ih rs x)
theorem sN:∀ bs:List Bool,(List.range bs.length).any (λi=>(bs[i]?).getD false)=bs.any id
 | []=>rfl
 | b::bs=>by rw [NU,List.range_succ_eq_map,Pw,Q9,Pw,<- sN bs];rfl
noncomputable def sI:Bi->Value
 | .len=>.builtin "len"
 | .list=>.type "list"
 | .dict=>.type "dict"
 | .int=>.type "int"
 | .max=>.builtin "max"
 | .tuple=>.type "tuple"
 | .sorted=>.builtin "sorted"
 | .sortedSet=>.none
 | .any=>.builtin "any"
 | .all=>.builtin "all"
 | .isinst _=>.builtin "isinstance"
noncomputable def uo:Bi->List Value
 | .isinst t=>[.type (sU t)]
 | _=>[]
theorem oM:∀ {vs:List Value} {ss:List Str},vs.length=ss.length->(∀ (j:Nat) (v:Value),vs[j]?=some v->X2 λk t=>ss[j]?=some k/\v=.str k t)->PyProof.Rows.StrsAre vs ss
 | [],[]=>@λ_ _=>.nil
 | [],_::_=>@λhl _=>by simp at hl
 | _::_,[]=>@λhl _=>by simp at hl
 | v::vs,k::ss=>@λhl hv=>by obtain ⟨k',t,h1,rfl⟩:=hv 0 v rfl;simp at h1; subst h1;exact .cons k t (oM (by simpa using hl) λj v hj=>hv (j+1) v hj)
theorem EP {vs:Array Value} (hl:vs.size=kvs.length) (hv:∀ (j:Nat) (v:Value),vs[j]?=some v->X2 λk t=>(kvs.map (·.1))[j]?=some k/\v=.str k t):PyProof.Rows.StrsAre vs.toList (kvs.map (·.1)):=
 oM (by simpa using hl) λj v hj=>hv j v (by simpa using hj)
theorem qz {kvs:List (Str×Value)} {E:Value->Shared->Prop} (hh:A.handled=none) (ne:(a==sysModules)=false) (D:s.heap.DictOf (strKind Z.prog Z.w) a kvs) (hz:kvs.length<=sizeLine)
   (q:∀ h' tk (vs:Array Value) n,(∀ b o,s.heap.get? b=some o->h'.get? b=some o)->h'.get? s.heap.objs.size=some (dj vs n)->PyProof.Rows.StrsAre vs.toList (kvs.map (·.1))->Q (.ref s.heap.objs.size) { s with heap:=h',toks:=tk }) :
   wpAny (model Z.prog Z.w) A (call (.type "list") [.ref a]) Q E s:=by
 obtain ⟨ep,D'⟩:=D.dictAt;refine PySem.W.kdl_call (PySem.W.kdl_dict (knd:=strKind Z.prog Z.w) (kvs:=kvs) (ep:=ep) ne) hh D' hz λh' tk acc c hk e hi=>q h' tk acc c hk e ?_;refine EP hi.1 λj v hj=>?_;obtain ⟨k,x,h1,h2⟩:=hi.2 j v hj;obtain ⟨t,rfl⟩:=Value.isStrOf_shape h2;exact ⟨k,t,by rw [Om,h1]; rfl,rfl⟩
theorem j2 (rx:VRels β σ h vs xs) (e:one xs=some x):∃ v,vs=[v]/\aw β σ h v x:=by
 have e:=da e;subst e;cases rx with
 | cons r rs=>cases rs; exact ⟨_,rfl,r⟩
theorem EJ (rx:VRels β σ h vs xs) (e:two xs=some (x,y)):X2 λv u=>A3 (vs=[v,u]) (aw β σ h v x) (aw β σ h u y):=by
 have e:=iD e;subst e;cases rx with
 | cons r rs=>cases rs with
   | cons r' rs=>cases rs; exact ⟨_,_,rfl,r,r'⟩
theorem HG {P:List Value->Prop} (rx:VRels β σ h vs xs) (e:two xs=some (x,y)) (k:∀ v u,aw β σ h v x->aw β σ h u y->P [v,u]):P vs:=by obtain ⟨v,u,e,r,r'⟩:=EJ rx e; exact e ▸ k v u r r'
theorem eA (rx:VRels β σ s.heap vs xs) (h1:∀ v x,aw β σ s.heap v x->Ev Z O A (call f (v::rest)) (g x) VR β σ s):Ev Z O A (call f (vs++rest)) (oc (one xs) g .bad) VR β σ s:=
 aN (λa e=>by apply xT (j2 rx e); intro v r;exact h1 v a r) Ev.bad
theorem Aw (I:Inv Z β σ s.heap) (r:aw β σ s.heap v x):Ev Z O A (call (.builtin "len") [v]) (oc (ia x) (λl=>.ok (.d (.int l.length)) σ) (oc (jk x) (λx=>.ok (.d (.int (aI x).length)) σ) (oc (aD σ x) (λl=>.ok (.d (.int l.length)) σ) .bad))) VR β σ s:=by
 refine aN (λl e=>?_) (aN (λx' e=>?_) (aN (λl hl=>?_) Ev.bad))
 . have e:=dM e; subst e;apply (oH r).el; intro a vs n e t z rr;have hz:=rr.length;simp only [NT] at hz;rw [<- hz];exact bK I (P.len_tuple e (by have:=jW z; rw [hz]; lia) ⟨⟨_,_,rfl⟩,.int _ _⟩)
 . have e:=dP e; subst e;obtain ⟨t,rfl,g⟩:=ma r;have hlen:(aI x').length=x'.length:=by simp [aI,Str.length]
   rw [hlen];exact bK I (P.len_str (by have:=jW g.len; rw [hlen] at this; lia) ⟨⟨_,_,rfl⟩,.int _ _⟩)
 . obtain ⟨a,ws,n,rfl,e,q,z⟩:=a6 I hl r;have hz:=q.length;simp only [NT] at hz;rw [<- hz];exact bK I (call_len_list ⟨_,e,rfl,_,rfl⟩ (by rw [hz]; exact jW z) ⟨⟨_,_,rfl⟩,.int _ _⟩)
theorem xx (Y:uA Z) (I:Inv Z β σ s.heap) (hh:A.handled=none) (r:aw β σ s.heap v x):Ev Z O A (call (.type "list") [v]) (oc (ia x) (λl=>aU m l σ) (oc (aD σ x) (λl=>aU m l σ) (oc (fG σ x) (λkvs=>aU m (kvs.map λx=>.str x.1) σ) .bad))) VR β σ s:=by
 refine aN (λl e=>?_) (aN (λl hl=>?_) (aN (λkvs' hd=>?_) Ev.bad))
 . have e:=dM e; subst e;apply (oH r).el; intro a vs n e t z rr;have hz:=rr.length;simp only [NT] at hz;exact dJ I z (call_list_seq _ (.inr rfl) e rfl rfl (λh' c hk e'=>⟨_,_,_,rfl,aV _,e',hk,rfl,rfl,rr⟩) (by rw [hz]; exact iv z bu))
 . obtain ⟨a,ws,n,rfl,e,q,z⟩:=a6 I hl r;have hz:=q.length;simp only [NT] at hz;exact dJ I z (call_list_seq _ (.inl rfl) e rfl rfl (λh' c hk e'=>⟨_,_,_,rfl,aV _,e',hk,rfl,rfl,q⟩) (by rw [hz]; exact iv z bu))
 . obtain ⟨n,a,rfl,hb,hc,rfl,kvs,D,hk,q,hg,z⟩:=fW I hd r;have hz:kvs.length=kvs'.length:=by have:=congrArg List.length hk; simpa using this
   refine dJ I (by rw [Ng]; exact z) (qz hh (Y.ne I (NI hb)) D (by rw [hz]; exact iv z bu) λh' tk vs n hk' e S=>⟨_,_,_,rfl,aV _,e,hk',rfl,rfl,?_⟩);rw [hk] at S;have:=o3 (T:=TT β σ) (h:=s.heap) S hg;rw [Oq] at this;exact this
theorem uK (I:Inv Z β σ s.heap) (r:aw β σ s.heap v x):Ev Z O A (call (.type "tuple") [v]) (oc (aD σ x) (λl=>.ok (.d (.tuple l)) σ) .bad) VR β σ s:=by
 refine aN (λl hl=>?_) Ev.bad;obtain ⟨a,ws,n,rfl,e,q,z⟩:=a6 I hl r;have hz:=q.length;simp only [NT] at hz;refine qm I z (call_tuple_list ⟨_,e,rfl,_,rfl⟩ (λh' hk=>⟨_,_,_,rfl,?_,NQ _ rfl,λb o e=>NG _ (hk b o e),rfl,rfl,q⟩) (by rw [hz]; exact iv z bu));cases w:s.heap.get? h'.objs.size with
 | none=>rfl
 | some o=>exact absurd (Os (hk _ _ w)) (Pa _)
theorem tm (I:Inv Z β σ s.heap) (r:aw β σ s.heap v x):Ev Z O A (call (.builtin "sorted") [v]) (oc ((aD σ x).bind fY) (λl=>if l.length < 64 then aU m ((cV l).map .str) σ else .bad) .bad) VR β σ s:=by
 refine aN (λss hl=>bE λh64=>?_) Ev.bad;obtain ⟨l,hl,hs⟩:=NJ.mp hl;apply (a6 I hl r).el; intro a ws n e q z;obtain ⟨S,rfl⟩:=kU q hs;have hlen:ws.toList.length=ss.length:=by have:=q.length; rw [Ng] at this; exact this
 refine dJ I (by have:=(ci ss).length_eq; simp [this,LIM]; lia) (PyProof.Rows.sorted_strs (vs:=ws.toList) ⟨_,e,rfl,_,rfl⟩ S (by omega) λout ss' S' hp hs'=>?_);have:=gS hp hs';subst this;obtain ⟨e',he'⟩:=PyProof.Rows.sortedAll_at s.heap ws.toList out;exact ⟨_,out,e',rfl,fm (by lia),he',λb o e=>PyProof.Rows.sortedAll_old e,rfl,rfl,o3 S' λx hx=>sk q x ((ci ss).mem_iff.mp hx)⟩
theorem Be (I:Inv Z β σ s.heap) (hh:A.handled=none) (r:aw β σ s.heap v x):Ev Z O A (call (.builtin "any") [v]) (oc ((aD σ x).bind d7) (λl=>.ok (.d (.bool (l.any id))) σ) .bad) VR β σ s:=by
 refine aN (λbs hl=>?_) Ev.bad;obtain ⟨l,hl,hs⟩:=NJ.mp hl;obtain ⟨a,ws,n,rfl,e,q,z⟩:=a6 I hl r;obtain ⟨hw,rfl⟩:=jQ q hs;have hlt:a < s.heap.objs.size:=Os e;have hws:ws=(bs.map Value.bool).toArray:=by rw [<- hw]
 refine Ev.grown I (call_any_walk (wpAny_pyIter_list ⟨_,e,rfl,_,rfl⟩ ?_));refine ⟨_,_,_,_,_,_,λi=>(bs[i]?).getD false,rfl,Walks.list (A:=A.in1) hh s.heap.objs.size a (OI hlt) ws,⟨⟨_,NQ _ rfl,rfl,rfl⟩,⟨_,NG _ e,rfl,_,rfl⟩⟩,?_,λh' tk hk=>⟨?_,rfl,rfl,?_⟩⟩
 . intro i v s' Q' E' hv hq;rw [hws] at hv;simp only [List.getElem?_toArray,Om,N9] at hv;obtain ⟨b,hb,rfl⟩:=hv;have hq':Q' ((bs[i]?).getD false) s':=hq;rw [hb] at hq';exact wpAny_truthy_bool hq'
 . intro b o eb;exact hk b o (by simp; exact OI (Os eb)) (NG _ eb)
 . have:(List.range ws.size).any (λi=>(bs[i]?).getD false)=bs.any id:=by rw [hws]; simp only [List.size_toArray,Ng];exact sN bs
   rw [this];exact .bool _
theorem Bc {b:Bi} (Y:uA Z) (I:Inv Z β σ s.heap) (hh:A.handled=none) (hu:A.units+200 < cLine) (rx:VRels β σ s.heap vs xs) (hb:b≠.sortedSet) :
   Ev Z O A (call (sI b) (vs++uo b)) (zE b m xs σ) VR β σ s:=by
 cases b with
 | len=>exact eA rx λv x r=>Aw I r
 | list=>exact eA rx λv x r=>xx Y I hh r
 | dict=>exact Ev.bad
 | int=>refine eA rx λv x r=>aN (λb e=>?_) Ev.bad;have e:=qC e; subst e;apply zo (Bt r);exact bK I (call_int_bool ⟨⟨_,_,rfl⟩,.int _ _⟩)
 | max=>exact Ev.bad
 | tuple=>exact eA rx λv x r=>uK I r
 | sorted=>exact eA rx λv x r=>tm I r
 | any=>exact eA rx λv x r=>Be I hh r
 | isinst t=>exact eA rx λv x r=>aN (λb hb=>Gh I (tP I r hb λtk=>⟨⟨_,_,rfl⟩,rfl⟩)) Ev.bad
 | sortedSet=>exact absurd rfl hb
 | all=>exact Ev.bad
end
noncomputable def KT:Me->String
 | .get=>"dict.get"
 | .append=>"list.append"
 | .extend=>"list.extend"
 | .update=>"dict.update"
 | .pop=>"dict.pop"
 | .count=>"list.count"
 | .index=>"list.index"
 | .nop _=>""
noncomputable def tI:Me->Str
 | .get=>"get"
 | .append=>"append"
 | .extend=>"extend"
 | .update=>"update"
 | .pop=>"pop"
 | .count=>"count"
 | .index=>"index"
 | .nop _=>""
noncomputable def Me.done:Me->Bool
 | .get | .append | .extend | .update=>true
 | .count | .index=>true
 | .pop=>true
 | _=>false
variable {h:Heap} {l:List (Str×PyData)} {es:List DictEntry} {x k:Str} {Q:Unit->Shared->Prop} {e:Value->Bool}
theorem AB {prog:Program} {E:Value->Shared->Prop} {Q:Int->Shared->Prop} (h:Q 0xFCA86420 { s with toks:=s.toks+1 }) :
   wpAny (model prog w) A (pyHash .none) Q E s:=by
 unfold pyHash;refine MQ ?_;refine NF ?_;refine MQ (wpAny_specialOf (T:="NoneType") rfl F.slot_NoneType_hash.lookup ?_);refine MQ (wpAny_specialOf (T:="NoneType") rfl F.slot_NoneType_hash.lookup ?_);refine MQ (wpAny_callSpecialIfBoundUnlessNone?_slot (T:="NoneType") rfl F.slot_NoneType_hash
   (wpAny_call_entry F.slot_NoneType_hash (T:="NoneType") rfl F.entry_NoneType_hash
     (show wpAny _ _ (do ret (<- mkInt 0xFCA86420)) _ _ s from wpAny_ret_mkInt ?_) (F.args_NoneType_hash_1 _)))
 exact NF h
noncomputable def GZ (k:Option Str) (v:Value):Bool:=k.elim (v==.none) λk=>Value.isStrOf k v
theorem cP (h:GZ none v=true):v=.none:=eq_of_beq h
noncomputable def tH (prog:Program) (w:World):KeyKind prog w (Option Str) where
 is:=GZ
 hash:=λk=>k.elim 0xFCA86420 (hashStr w)
 inj:=λv a b ha hb=>by
   cases a with
   | none=>
     cases cP ha
     cases b with
     | none=>rfl
     | some b=>cases hb
   | some a=>
     cases b with
     | none=>cases cP hb; cases ha
     | some b=>rw [Value.isStrOf_inj v a b ha hb]
 byValue:=λk v h=>by
   cases k with
   | none=>cases cP h; rfl
   | some k=>exact (strKind prog w).byValue k v h
 pyHash:=λ{A E s k v Q} hv h=>by
   cases k with
   | none=>cases cP hv; exact AB h
   | some k=>exact (strKind prog w).pyHash (k:=k) hv h
 eqBool:=λ{A E s a b u v Q} hu hv h=>by
   cases a with
   | none=>
     cases cP hu
     cases b with
     | none=>cases cP hv; exact SeqAt.EqAt.same .none prog w E Q h
     | some b=>obtain ⟨t,rfl⟩:=Value.isStrOf_shape hv; exact SeqAt.EqAt.none_str b t prog w E Q h
   | some a=>
     cases b with
     | none=>cases cP hv; obtain ⟨t,rfl⟩:=Value.isStrOf_shape hu; exact SeqAt.EqAt.str_none a t prog w E Q h
     | some b=>exact (strKind prog w).eqBool (a:=a) (b:=b) hu hv (by simpa using h)
 «strs»:=λk x t v h=>by
   cases k with
   | none=>cases cP h
   | some k=>exact (strKind prog w).«strs» k x t v h
theorem As {prog:Program} (p:Pairs (strKind prog w) es kvs):Pairs (tH prog w) es (kvs.map λx=>(some x.1,x.2)):=by
 induction p with
 | nil=>exact .nil
 | cons a b _ ih=>exact .cons a b ih
theorem Cs {prog:Program} (D:h.DictOf (strKind prog w) a kvs):h.DictOf (tH prog w) a (kvs.map λx=>(some x.1,x.2)):=by
 obtain ⟨o,es,ep,e,hx,hd,hk,hp,hn⟩:=D;refine ⟨o,es,ep,e,hx,hd,λx hx=>?_,As hp,?_⟩
 . obtain ⟨k,h1,h2⟩:=hk x hx;exact ⟨some k,h1,h2⟩
 . rw [Oq,show ((λx:Option Str×Value=>x.1) ∘ λx:Str×Value=>(some x.1,x.2))=some ∘ (λx:Str×Value=>x.1) from rfl,<- Oq];exact List.Pairwise.map some (λa b c e=>c (Option.some.inj e)) hn
theorem IR (kvs:List (Str×Value)):valueAt (kvs.map λx=>(some x.1,x.2)) none=none:=by
 unfold valueAt;rw [List.find?_eq_none.mpr λx hx=>?_]
 . rfl
 . obtain ⟨y,_,rfl⟩:=Ok.mp hx;exact nofun
theorem lX (a b:Bool):(Value.bool a==Value.bool b)=(a==b):=by cases a <;> cases b <;> decide
theorem wx {l:List Bool} (hw:ws.toList=l.map Value.bool) {y:Value} (hy:y∈ws):∃ b,y=.bool b:=by have:=QU.mpr hy;rw [hw,Ok] at this;obtain ⟨b,_,rfl⟩:=this;exact ⟨b,rfl⟩
theorem wg {x:Bool} (l:List Bool):(l.map Value.bool).countP (λv=>v==.bool x)=l.count x:=by rw [List.countP_map,List.count_eq_countP];refine List.countP_congr λb _=>?_;show (Value.bool b==Value.bool x)=true↔_;rw [lX]
theorem xq {b:Me} {o:V} {pl:Sem Bool} {Q:Value×List Value->Shared->Prop} {E:Value->Shared->Prop} (hd:b.done=true) (I:Inv Z β σ s.heap) (ro:aw β σ s.heap v o) (hm:qZ b σ o=true)
   (q:Q (.builtin (KT b),[v]) s):wpAny (model Z.prog Z.w) A (getMethod v (tI b) pl) Q E s:=by
 have dc:(fG σ o).isSome=true->X2 λa ob=>A4 (v=.ref a) (s.heap.get? a=some ob) (ob.cls=.type "dict") (ob.dict=none):=λhm=>by obtain ⟨l,hl⟩:=Ox.mp hm;apply (fW I hl ro).el; intro n a hb hc R0; obtain ⟨kvs,⟨ob,es,ep,e,hx,_⟩,_⟩:=R0;exact ⟨a,ob,rfl,e,hx.1,hx.2.1⟩
 have lc:(aD σ o).isSome=true->X2 λa ob=>A4 (v=.ref a) (s.heap.get? a=some ob) (ob.cls=.type "list") (ob.dict=none):=λhm=>by obtain ⟨l,hl⟩:=Ox.mp hm;apply (a6 I hl ro).el; intro a ws n e _ _;exact ⟨a,_,rfl,e,rfl,rfl⟩
 cases b <;> try cases hd
 . obtain ⟨a,ob,rfl,e,h1,h2⟩:=dc hm;exact getMethod_builtin ⟨ob,e,h1⟩ F.plainAttrs_dict F.slot_dict_get F.type_dict_get (λa' h=>by cases h; exact ⟨ob,e,h2⟩) q
 . obtain ⟨a,ob,rfl,e,h1,h2⟩:=lc hm;exact getMethod_builtin ⟨ob,e,h1⟩ F.plainAttrs_list F.slot_list_append F.type_list_append (λa' h=>by cases h; exact ⟨ob,e,h2⟩) q
 . obtain ⟨a,ob,rfl,e,h1,h2⟩:=lc hm;exact getMethod_builtin ⟨ob,e,h1⟩ F.plainAttrs_list F.slot_list_extend F.type_list_extend (λa' h=>by cases h; exact ⟨ob,e,h2⟩) q
 . obtain ⟨a,ob,rfl,e,h1,h2⟩:=dc hm;exact getMethod_builtin ⟨ob,e,h1⟩ F.plainAttrs_dict F.slot_dict_update F.type_dict_update (λa' h=>by cases h; exact ⟨ob,e,h2⟩) q
 . obtain ⟨a,ob,rfl,e,h1,h2⟩:=dc hm;exact getMethod_builtin ⟨ob,e,h1⟩ F.plainAttrs_dict F.slot_dict_pop F.type_dict_pop (λa' h=>by cases h; exact ⟨ob,e,h2⟩) q
 . obtain ⟨a,ob,rfl,e,h1,h2⟩:=lc hm;exact getMethod_builtin ⟨ob,e,h1⟩ F.plainAttrs_list F.slot_list_count F.type_list_count (λa' h=>by cases h; exact ⟨ob,e,h2⟩) q
 . obtain ⟨a,ob,rfl,e,h1,h2⟩:=lc hm;exact getMethod_builtin ⟨ob,e,h1⟩ F.plainAttrs_list F.slot_list_index F.type_list_index (λa' h=>by cases h; exact ⟨ob,e,h2⟩) q
theorem xr (rv:Rel T h v d) (hk:kvs.map (·.1)=l.map (·.1)) (r:RelAll T h (kvs.map (·.2)) (l.map (·.2))) :
   (kvs.map λx=>if x.1=k then (x.1,v) else x).map (·.1)=(l.map λx=>if x.1=k then (x.1,d) else x).map (·.1)/\RelAll T h ((kvs.map λx=>if x.1=k then (x.1,v) else x).map (·.2)) ((l.map λx=>if x.1=k then (x.1,d) else x).map (·.2)):=by
 induction kvs generalizing l with
 | nil=>
   cases l with
   | nil=>exact ⟨rfl,.nil⟩
   | cons _ _=>cases hk
 | cons a kvs ih_=>
   cases l with
   | nil=>cases hk
   | cons b l=>
     injection hk with e1 e2;have e1:a.1=b.1:=e1;cases r with
     | cons r rs=>
       have ih:=ih_ e2 rs;rw [Ol,Ol,Ol,Ol,Ol,Ol,e1];by_cases q:b.1=k
       . rw [if_pos q,if_pos q];exact ⟨congrArg (List.cons b.1) ih.1,.cons rv ih.2⟩
       . rw [if_neg q,if_neg q,e1];exact ⟨congrArg (List.cons b.1) ih.1,.cons r ih.2⟩
theorem oP (hk:kvs.map (·.1)=l.map (·.1)) (r:RelAll T h (kvs.map (·.2)) (l.map (·.2))) (rv:Rel T h v d) :
   (stored kvs k v).map (·.1)=(d9 k d l).map (·.1)/\RelAll T h ((stored kvs k v).map (·.2)) ((d9 k d l).map (·.2)):=by
 have ha:kvs.any (λkv=>decide (kv.1=k))=l.any (λx=>decide (x.1=k)):=by
   have:∀ {α:Type} (l:List (Str×α)),l.any (λkv=>decide (kv.1=k))=(l.map (·.1)).any (λx=>decide (x=k)):=λl=>by rw [Q9]; rfl
   rw [this,this,hk]
 unfold stored d9;rw [ha];split
 . exact xr rv hk r
 . refine ⟨by simp [hk],?_⟩;simp only [NP,Ol,OV];exact r.append (.one rv)
theorem pr:∀ {more:List (Str×Value)} {m:List (Str×PyData)} {kvs:List (Str×Value)} {l:List (Str×PyData)},more.map (·.1)=m.map (·.1)->RelAll T h (more.map (·.2)) (m.map (·.2))->kvs.map (·.1)=l.map (·.1)->RelAll T h (kvs.map (·.2)) (l.map (·.2))->
   (merged kvs more).map (·.1)=(dR l m).map (·.1)/\RelAll T h ((merged kvs more).map (·.2)) ((dR l m).map (·.2))
 | [],[],_,_,_,_=>@λhk r=>⟨hk,r⟩
 | [],_::_,_,_,hk,_=>@λ_ _=>by simp at hk
 | _::_,[],_,_,hk,_=>@λ_ _=>by simp at hk
 | a::more,b::m,kvs,l,hm,.cons r' rs=>@λhk r=>by simp only [Ol,List.cons.injEq] at hm;have h1:=oP (k:=a.1) hk r r';have:=pr hm.2 rs h1.1 h1.2;unfold merged dR at *;simp only [QK];rw [<- hm.1];exact this
theorem rW (hx:x∈(d9 k d l).map (·.1)):x=k\/x∈l.map (·.1):=by
 unfold d9 at hx;split at hx
 . have:((l.map λx=>if x.1=k then (x.1,d) else x).map (·.1))=l.map (·.1):=by rw [Oq]; refine Pi λy _=>?_;simp only [Function.comp]; split <;> rfl
   rw [this] at hx; exact .inr hx
 . simp only [NP,NR,Ol,OV,NL] at hx;exact hx.symm
theorem mT (k:Str) (d:PyData) (l:List (Str×PyData)):(d9 k d l).length<=l.length+1:=by unfold d9; split <;> simp
theorem mR:∀ {m l:List (Str×PyData)} {x:Str},x∈(dR l m).map (·.1)->x∈m.map (·.1)\/x∈l.map (·.1)
 | [],l,x,hx=>.inr hx
 | b::m,l,x,hx=>by
   rcases mR (m:=m) (l:=d9 b.1 b.2 l) hx with h1 | h1
   . exact .inl (NA _ h1)
   . rcases rW h1 with rfl | h2
     . exact .inl (NE ..)
     . exact .inr h2
theorem kK:∀ (m l:List (Str×PyData)),(dR l m).length<=l.length+m.length
 | []=>@λl=>Of _
 | b::m=>@λl=>by have h1:=kK m (d9 b.1 b.2 l);have h2:=mT b.1 b.2 l;have:dR l (b::m)=dR (d9 b.1 b.2 l) m:=rfl;rw [this]; simp only [NU]; omega
theorem k9 (k:Str) (t:Tok):(strKind Z.prog Z.w).is k (.str k t)=true:=by show Value.isStrOf k (.str k t)=true;simp [Value.isStrOf]
theorem jo {vs:Array Value} {f:Array Value->Array Value} (e:h.get? a=some (dj vs n)) :
   (∃ m,(h.update a (Obj.mapSeq f)).get? a=some (dj (f vs) m))/\∀ x o,x≠a->h.get? x=some o->(h.update a (Obj.mapSeq f)).get? x=some o:=
 ⟨⟨_,IsL.update e f⟩,λx o hx e'=>(OP h _ (Ne.symm hx)).trans e'⟩
theorem xk (Y:uA Z) (I:Inv Z β σ h) (hb:β[n]?=some a):(a==sysModules)=false:=Y.ne I (NI hb)
theorem Bs (r:aw β σ h v (.loc n)):∃ a,β[n]?=some a/\v=.ref a:=r
theorem uF (hk:kvs.map (·.1)=l.map (·.1)) (r:RelAll T h (kvs.map (·.2)) (l.map (·.2))) :
   (without kvs k).map (·.1)=(l.filter λx=>!decide (x.1=k)).map (·.1)/\RelAll T h ((without kvs k).map (·.2)) ((l.filter λx=>!decide (x.1=k)).map (·.2)):=by
 induction kvs generalizing l with
 | nil=>
   cases l with
   | nil=>exact ⟨rfl,.nil⟩
   | cons _ _=>cases hk
 | cons a kvs ih_=>
   cases l with
   | nil=>cases hk
   | cons b l=>
     injection hk with h1 h2;have h1:a.1=b.1:=h1;cases r with
     | cons r rs=>
       have ih:=ih_ h2 rs;by_cases e:b.1=k
       . have e1:without (a::kvs) k=without kvs k:=QC (by rw [h1,decide_eq_false (not_not_intro e)]; exact nofun);have e2:((b::l).filter λx=>!decide (x.1=k))=l.filter λx=>!decide (x.1=k):=QC (by rw [decide_eq_true e]; exact nofun);rw [e1,e2]; exact ih
       . have e1:without (a::kvs) k=a::without kvs k:=P0 (by rw [h1]; exact decide_eq_true e);have e2:((b::l).filter λx=>!decide (x.1=k))=b::l.filter λx=>!decide (x.1=k):=P0 (by rw [decide_eq_false e]; rfl);rw [e1,e2];exact ⟨congr (congrArg List.cons h1) ih.1,.cons r ih.2⟩
theorem u0:∀ {l:List (Str×PyData)},l.lookup k=none->(l.filter λx=>!decide (x.1=k))=l
 | []=>@λ_=>rfl
 | (a,b)::l=>@λe=>by
   by_cases q:a=k
   . subst q;rw [List.lookup_cons_self] at e; cases e
   . have e1:List.lookup k ((a,b)::l)=l.lookup k:=by rw [NW,beq_eq_false_iff_ne.mpr (Ne.symm q)]
     rw [P0 (by rw [decide_eq_false q]; rfl),u0 (e1.symm.trans e)]
theorem Ak {k:Str} (Y:uA Z) (I:Inv Z β σ s.heap) (hb:β[n]?=some a) (hc:σ[n]?=some (.dct l)) (rk:aw β σ s.heap u (.d (.str k))) :
   Ev Z O A (call (.builtin "dict.pop") [.ref a,u,.none]) (.ok (.d ((l.lookup k).getD .none)) (σ.set n (.dct (l.filter λx=>!decide (x.1=k))))) VR β σ s:=by
 apply xT (ma rk); intro t g;obtain ⟨kvs,D,hk,q,hg,z⟩:=I.cell n a _ hb hc;have hz:kvs.length=l.length:=by have:=congrArg List.length hk; rwa [Ng,Ng] at this
 rcases dX hk q k with ⟨h1,h2⟩ | ⟨w,d,h1,h2,rw'⟩
 . rw [h2,u0 h2];refine Ev.done (call_meetsIn F.slot_dict_pop D.typeIs F.entry_dict_pop (F.args_dict_pop_3 _ _ _) (meets_dict_pop_default (strKind Z.prog Z.w) a (k:=k) (k9 k t) (xk Y I hb) rfl _) ⟨kvs,D,h1,?_⟩);have N:=mi (O:=O) (ai:={ s with toks:=s.toks+1 }) (c:=.dct l) I hb hc rfl rfl (λ_ _ _ e=>e) rfl rfl ⟨kvs,D,hk,q,hg,z⟩;exact ⟨β,N.1,N.2,.none⟩
 . rw [h2];refine Ev.done (call_meetsIn F.slot_dict_pop D.typeIs F.entry_dict_pop (F.args_dict_pop_3 _ _ _) (meets_dict_pop_there (strKind Z.prog Z.w) a (k:=k) (k9 k t) [.none] (.inr ⟨_,rfl⟩) rfl) ⟨kvs,w,D,by rw [hz]; exact iv z bu,h1,λh' D' hs=>?_⟩);have M:=uF (k:=k) hk q;have N:=mi (O:=bV) (ai:={ s with heap:=h',toks:=s.toks+1 }) (c:=.dct (l.filter λx=>!decide (x.1=k))) I hb hc rfl rfl (λb o hb e=>(hs.2 b hb).trans e) rfl rfl
     ⟨_,D',M.1,M.2,λx hx=>hg x ((List.filter_sublist.map _).subset hx),iv (Ot _ _) z⟩
   exact ⟨β,N.1.ofNo,N.2,N.1.rel0 rw'⟩
theorem xb (Y:uA Z) (I:Inv Z β σ s.heap) (hb:β[n]?=some a) (hc:σ[n]?=some (.dct l)) :
   Ev Z O A (call (.builtin "dict.pop") [.ref a,.none,.none]) (.ok (.d .none) σ) VR β σ s:=by
 obtain ⟨kvs,D,_⟩:=I.cell n a _ hb hc;exact bK I (call_meetsIn F.slot_dict_pop D.typeIs F.entry_dict_pop (F.args_dict_pop_3 _ _ _) (meets_dict_pop_default (tH Z.prog Z.w) a (k:=none) rfl (xk Y I hb) rfl _) ⟨_,Cs D,IR _,⟨_,_,rfl⟩,.none⟩)
theorem sf [BEq α] {l:List α} {x:α} (I:Inv Z β σ s.heap) (g:s.heap.get? a=some (dj ws n)) (hm:ws.toList.map e=l.map (·==x)) (hlt:l.idxOf x < l.length) (z:l.length<=LIM)
   (hq:∀ y,y∈ws->SeqAt.EqAt A.in1 s y u (e y)):Ev Z O A (call (.builtin "list.index") [.ref a,u]) (.ok (.d (.int (l.idxOf x:Nat))) σ) VR β σ s:=by
 have hz:ws.size=l.length:=by have:=congrArg List.length hm; rwa [Ng,Ng,NT] at this
 have at':∀ (m:Nat) (hm:m < ws.size) (hl:m < l.length),e ws[m]=(l[m]==x):=λm h1 h2=>by have:=congrArg (·[m]?) hm;simpa [h1,h2] using this
 have hi:l.idxOf x < ws.size:=hz ▸ hlt;refine bK I (call_meets F.slot_list_index ⟨_,g,rfl⟩ F.entry_list_index (F.args_list_index_2 _ _) (SeqAt.list_indexAt a ws n none #[] u e (l.idxOf x) hi ?_ ?_ ?_) ⟨g,hq,⟨_,_,rfl⟩,.int _ _⟩)
 . exact OO.mpr (OF hlt z) |> λh=>PG h (by decide)
 . rw [at' _ hi hlt];exact List.findIdx_getElem (p:=(·==x)) (w:=hlt)
 . intro m h1 h2;rw [at' m h1 (hz ▸ h1)];exact List.not_of_lt_findIdx (xs:=l) (p:=(·==x)) h2
theorem xC {o:V} {x:Bool} {l:List Bool} (I:Inv Z β σ s.heap) (ro:aw β σ s.heap v o) (r:aw β σ s.heap u (.d (.bool x))) (hl:(aD σ o).bind d7=some l) (hlt:l.idxOf x < l.length) :
   Ev Z O A (call (.builtin "list.index") [v,u]) (.ok (.d (.int (l.idxOf x:Nat))) σ) VR β σ s:=by
 apply zo (Bt r);obtain ⟨l0,hl0,hb⟩:=NJ.mp hl;apply (a6 I hl0 ro).el; intro a ws n e q z;obtain ⟨hw,rfl⟩:=jQ q hb;rw [Ng] at z;refine sf (e:=λv=>v==.bool x) I e ?_ hlt z λy hy=>?_
 . rw [hw,Oq];exact Pi λb _=>lX b x
 . obtain ⟨b,rfl⟩:=wx hw hy;rw [show (Value.bool b==Value.bool x)=(b==x) from lX b x];exact SeqAt.EqAt.bool_bool b x
theorem BE {l:List Str} (h:PyProof.Rows.StrsAre vs l):vs.map (Value.isStrOf x)=l.map (·==x)/\∀ y∈vs,X2 λb t=>y=.str b t:=by
 induction h with
 | nil=>exact ⟨rfl,λ_ z=>absurd z Oy⟩
 | cons y t _ ih=>exact ⟨congrArg (List.cons (y==x)) ih.1,λz hz=>(NN.mp hz).elim (λe=>⟨y,t,e⟩) (ih.2 z)⟩
theorem Au {b:Me} {o:V} (Y:uA Z) (I:Inv Z β σ s.heap) (ro:aw β σ s.heap v o) (rx:VRels β σ s.heap vs xs) :
   Ev Z O A (call (.builtin (KT b)) (v::vs)) (Em b o xs σ) VR β σ s:=by
 cases b with
 | get=>exact Ev.bad
 | append=>refine aN (λp e=>cb (λn x hn hd=>aN (λl hc=>bE λhl=>?_) Ev.bad) Ev.bad) Ev.bad;obtain ⟨u,rfl,r⟩:=j2 rx e;rw [b8 hd] at r;rw [gB hn] at ro;have hc:=fg hc;apply Lu (Bs ro); intro a hb;obtain ⟨ws,m,e,q,z⟩:=I.cell n a _ hb hc;have hz:=q.length;simp only [NT] at hz;refine Ev.done (call_meets F.slot_list_append ⟨_,e,rfl⟩ F.entry_list_append (F.args_list_append_2 _ _) (list_append a ws m _ (by rw [hz]; exact iv z bu)) ⟨e,?_⟩);obtain ⟨⟨m',e'⟩,hk⟩:=jo (f:=λx_1=>x_1.push _) e;have N:=mi (O:=O) (ai:={ s with heap:=s.heap.update a (Obj.mapSeq λx_1=>x_1.push _),toks:=s.toks }) (c:=.lst (l++[x])) I hb hc rfl rfl hk rfl rfl ⟨_,_,e',by simpa using q.append (.one r),by rw [ND]; exact hl⟩;exact ⟨β,N.1,N.2,.none⟩
 | extend=>
   refine aN (λp e=>aN (λn hn=>cb (λl ys hc hy=>bE λhl=>?_) Ev.bad) Ev.bad) Ev.bad;obtain ⟨u,rfl,r⟩:=j2 rx e;rw [gB hn] at ro;have hc:=fg hc;apply Lu (Bs ro); intro a hb;obtain ⟨ws,m,e,q,z⟩:=I.cell n a _ hb hc;have hz:=q.length;simp only [NT] at hz;apply (a6 I hy r).el; intro a' us m' e' q' z';have hz':=q'.length;simp only [NT] at hz';have hsz:ws.size+us.size<=sizeLine:=by rw [hz,hz']; exact iv hl bu
   refine Ev.done (call_meets F.slot_list_extend ⟨_,e,rfl⟩ F.entry_list_extend (F.args_list_extend_2 _ _) (AutoSeq1.list_extend_list_list_0 a ws m a' us m' ?_ (iv (NZ _ _) hsz) (Pu hsz)) ⟨e,e',?_⟩)
   . have:Builtin.List.listTooLong (ws.size+us.size)=false:=by unfold Builtin.List.listTooLong;simp;unfold LIM at hl; omega
     rw [this]; simp
   obtain ⟨⟨m',e'⟩,hk⟩:=jo (f:=λx=>x++us) e;have N:=mi (O:=O) (ai:={ s with heap:=s.heap.update a (Obj.mapSeq λx=>x++us),toks:=s.toks }) (c:=.lst (l++ys)) I hb hc rfl rfl hk rfl rfl ⟨_,_,e',by simpa using q.append q',by rw [ND]; exact hl⟩;exact ⟨β,N.1,N.2,.none⟩
 | update=>
   refine aN (λp e=>cb (λn k hn hk=>bE λhne=>cb (λx y hx hy=>bE λhl=>?_) Ev.bad) Ev.bad) Ev.bad;apply xT (j2 rx e); intro u r;rw [gB hn] at ro;rw [gB hk] at r;have hx:=gq hx;have hy:=gq hy;apply Lu (Bs ro); intro a hb;obtain ⟨kvs,D,hk,q,hg,z⟩:=I.cell n a _ hb hx;apply Lu (Bs r); intro a' hb';obtain ⟨kvs',D',hk',q',hg',z'⟩:=I.cell k a' _ hb' hy;have hz:kvs.length=x.length:=by have:=congrArg List.length hk; simpa using this
   have hz':kvs'.length=y.length:=by have:=congrArg List.length hk'; simpa using this
   have haa:a≠a':=I.addr_ne hb' hb (Ne.symm hne);refine Ev.done (call_meetsIn F.slot_dict_update D.typeIs F.entry_dict_update (F.args_dict_update_2 _ _) (meets_dict_update (strKind Z.prog Z.w) a a' haa (xk Y I hb')) ⟨kvs,kvs',D,D',by rw [hz,hz']; exact iv hl bu,λh' Ec _ hs'=>?_⟩);have M:=pr hk' q' hk q;have N:=mi (O:=O) (ai:={ s with heap:=h' }) (c:=.dct (dR x y)) I hb hx rfl rfl (λb o hb e=>(hs'.2 b hb).trans e) rfl rfl ⟨_,Ec,M.1,M.2,λx hx=>(mR hx).elim (hg' x) (hg x),iv (kK _ _) hl⟩;exact ⟨β,N.1,N.2,.none⟩
 | pop=>
   refine aN (λp e=>cb (λn _ hn hz=>aN (λl hc=>?_) Ev.bad) Ev.bad) Ev.bad;apply HG rx e; intro u w r r';rw [pp hz] at r';rw [gB hn] at ro;have hc:=gq hc;apply Lu (Bs ro); intro a hb;cases (r');refine aN (λk hk=>?_) (aN (λ_ hk=>?_) Ev.bad)
   . rw [dP hk] at r;exact Ak Y I hb hc r
   . rw [pp hk] at r;cases (r);exact xb Y I hb hc
 | count=>
   refine aN (λp e=>cb (λx l hx hl=>?_) Ev.bad) Ev.bad;apply xT (j2 rx e); intro u r;rw [qC hx] at r;apply zo (Bt r);obtain ⟨l0,hl0,hb⟩:=NJ.mp hl;apply (a6 I hl0 ro).el; intro a ws n e q z;obtain ⟨hw,rfl⟩:=jQ q hb;refine bK I (call_meets F.slot_list_count ⟨_,e,rfl⟩ F.entry_list_count (F.args_list_count_2 _ _) (SeqAt.list_countAt a ws n none #[] (.bool x) (λv=>v==.bool x)) ⟨e,λy hy=>?_,⟨_,_,rfl⟩,?_⟩)
   . obtain ⟨b,rfl⟩:=wx hw hy;have:=SeqAt.EqAt.bool_bool (A:=A.in1) (s:=s) b x;rw [show (Value.bool b==Value.bool x)=(b==x) from lX b x];exact this
   . rw [hw,wg];exact .int _ _
 | index=>
   refine aN (λp e=>?_) Ev.bad;apply xT (j2 rx e); intro u r;refine cb (λx l hx hl=>bE λhlt=>?_) (cb (λx l hx hl=>bE λhlt=>?_) Ev.bad)
   . rw [qC hx] at r;exact xC I ro r hl hlt
   . rw [dP hx] at r;apply xT (ma r); intro t g;obtain ⟨l0,hl0,hb⟩:=NJ.mp hl;apply (a6 I hl0 ro).el; intro a ws n e q z;obtain ⟨S,rfl⟩:=kU q hb;obtain ⟨hm,hs⟩:=BE (x:=x) S;rw [Ng] at z;refine sf I e hm hlt z λy hy=>?_;obtain ⟨b,t',rfl⟩:=hs y (QU.mpr hy);exact SeqAt.EqAt.str_str b t' x t
 | nop _=>exact Ev.bad
theorem wd (I:Inv Z β σ s.heap):Ev Z O A (eval (.Dict [] [] pos) env) (.ok (.loc σ.length) (σ++[.dct []])) VR β σ s:=by
 refine Ev.done (wpAny_Dict_empty ?_);have N:=tG (O:=O) (ai:={ s with heap:=s.heap.push { cls:=.type "dict",data:=.dict #[] } }) (a:=s.heap.objs.size) (c:=.dct []) I (λb o e=>NG _ e) (aV _) rfl rfl
   ⟨[],Heap.DictOf.new _,rfl,.nil,by simp,by simp⟩
 exact ⟨_,N.1,N.2,_,by rw [<- I.len]; simp,rfl⟩
theorem Af {k:Str} {t:Tok} {x:PyData} {E:Value->Shared->Prop} (I:Inv Z β σ s.heap) (hb:β[n]?=some a) (hc:σ[n]?=some (.dct l)) (g:cD k) (r:Rel (TT β σ) s.heap v x) (hl:l.length < LIM)
   (q:∀ s',Step O β σ s β (σ.set n (.dct (d9 k x l))) s'->Inv Z β (σ.set n (.dct (d9 k x l))) s'.heap->Q () s'):wpAny (model Z.prog Z.w) A (setItem (.ref a) (.str k t) v) Q E s:=by
 obtain ⟨kvs,D,hk,q',hg,z⟩:=I.cell n a _ hb hc;have hz:kvs.length=l.length:=by have:=congrArg List.length hk; simpa using this
 refine wpAny_setItem_pairs (knd:=strKind Z.prog Z.w) (k:=k) (k9 k t) D (λh' D' hs'=>?_) (by rw [hz]; exact iv z bu);have M:=oP (k:=k) hk q' r;have N:=mi (O:=O) (ai:={ s with heap:=h',toks:=s.toks+1 }) (c:=.dct (d9 k x l)) I hb hc rfl rfl (λb o hb e=>(hs'.2 b hb).trans e) rfl rfl ⟨_,D',M.1,M.2,λy hy=>(rW hy).elim (λe=>e ▸ g) (hg y),iv (mT _ _ _) hl⟩;exact q _ N.1 N.2
noncomputable def A1 (w:World):Bool:=w.params.followText "set-order"
inductive StrEnts (w:World):List (Int×Value)->List Str->Prop
 | nil:StrEnts w [] []
 | cons (x:Str) (t:Tok) {es:List (Int×Value)} {L:List Str}:StrEnts w es L->StrEnts w ((hashStr w x,.str x t)::es) (x::L)
variable {es:List (Int×Value)} {L:List Str}
theorem StrEnts.length (r:StrEnts w es L):es.length=L.length:=by
 induction r with
 | nil=>rfl
 | cons _ _ _ ih=>exact congrArg (·+1) ih
theorem StrEnts.perm {es':List (Int×Value)} (p:es'.Perm es):∀ {L:List Str},StrEnts w es L->∃ L',StrEnts w es' L'/\L'.Perm L:=by
 induction p with
 | nil=>intro L h; exact ⟨L,h,.refl _⟩
 | cons e _ ih=>
   intro L h;cases h with
   | cons x t r=>obtain ⟨L',h1,h2⟩:=ih r; exact ⟨x::L',.cons x t h1,h2.cons x⟩
 | swap a b l=>
   intro L h;cases h with
   | cons x t r=>cases r with
     | cons y u r=>exact ⟨y::x::_,.cons y u (.cons x t r),.swap ..⟩
 | trans _ _ ih1 ih2=>intro L h;obtain ⟨L1,a1,a2⟩:=ih2 h;obtain ⟨L2,b1,b2⟩:=ih1 a1;exact ⟨L2,b1,b2.trans a2⟩
theorem StrEnts.snoc (x:Str) (t:Tok) (h:StrEnts w es L):StrEnts w (es++[(hashStr w x,.str x t)]) (L++[x]):=by
 induction h with
 | nil=>exact .cons x t .nil
 | cons y u _ ih=>exact .cons y u ih
theorem StrEnts.elems {prog:Program} (h:StrEnts w es L):ElemsOf (strKind prog w) es:=by
 induction h with
 | nil=>exact λe he=>absurd he Oy
 | cons x t _ ih=>exact λe he=>(NN.mp he).elim (λz=>z ▸ ⟨⟨x,by show Value.isStrOf x (.str x t)=true; simp [Value.isStrOf],rfl⟩,rfl⟩) (ih e)
theorem StrEnts.find {x:Str}:∀ {es:List (Int×Value)} {L:List Str},StrEnts w es L->((es.findIdx? λe=>Value.isStrOf x e.2)=none↔x∉L)
 | _,_,.nil=>by simp
 | _,_,.cons y t r=>by
   rw [List.findIdx?_cons];by_cases h:y=x
   . have e:Value.isStrOf x (Value.str y t)=true:=by simp [Value.isStrOf,h]
     rw [if_pos e]; simp [h]
   . have e:Value.isStrOf x (Value.str y t)=false:=by simp [Value.isStrOf,h]
     have ih:=r.find (x:=x);rw [if_neg (by rw [e]; exact NY),Option.map_eq_none_iff,ih,NN,not_or];exact ⟨λq=>⟨λq=>h q.symm,q⟩,λq=>q.2⟩
noncomputable def cr (w:World) (h:Heap) (a:Addr) (L:List Str):Prop:=X4 λo es ep t=>A8 (h.get? a=some o) (o.ExactSet) (o.data=.set es ep t) (StrEnts w es.toList L) (L.length < scanBound) (t.fits es.size=true) (t.led=!A1 w) ((L≠[]->t.plain=false))
theorem tM (t:SetTable) (es:Array (Int×Value)) (h:Int) (x:Value):(layNew t es h x).2.1.led=t.led/\((layNew t es h x).2.1.plain=true->t.plain=true):=by
 have os:∀ (u:SetTable) (n:Nat),u.led=t.led->u.plain=t.plain->(u.orStandIn n).led=t.led/\((u.orStandIn n).plain=true->t.plain=true):=λu n h1 h2=>by
   unfold SetTable.orStandIn;split
   . exact ⟨h1,λh=>h2 ▸ h⟩
   . exact ⟨h1,λh=>by cases h⟩
 unfold layNew;cases t.freeSlot h with
 | some p=>exact os _ _ rfl rfl
 | none=>exact ⟨rfl,λh=>by cases h⟩
theorem o2 (t:SetTable) (es:Array (Int×Value)) (n:Nat):(relayAll t es n).2.1.led=t.led/\((relayAll t es n).2.1.plain=true->t.plain=true):=by
 have st:(t.standIn es.size).led=t.led/\((t.standIn es.size).plain=true->t.plain=true):=⟨rfl,λh=>by cases h⟩
 unfold relayAll;cases he:t.relaid (es.map (·.1)) n with
 | none=>exact st
 | some q=>
   obtain ⟨t',order⟩:=q;have hm:t'.led=t.led/\(t'.plain=true->t.plain=true):=by obtain ⟨ow,_,e⟩:=NJ.mp he;cases e;exact ⟨rfl,id⟩
   show (if _ then _ else _:Array (Int×Value)×SetTable×Bool).2.1.led=_/\((if _ then _ else _:Array (Int×Value)×SetTable×Bool).2.1.plain=true->_)
   split
   . exact hm
   . exact st
variable {L':List Str} {ep:Nat} {o:Obj} {t:SetTable}
theorem oO {es es':Array (Int×Value)} {t':SetTable} (ho:h.get? a=some o) (hex:o.ExactSet) (hd:o.data=.set es ep t) (he:StrEnts w es'.toList L') (hb:L'.length < scanBound) (hf:t'.fits es'.size=true) (hl:t'.led=!A1 w) (hp:L'≠[]->t'.plain=false) :
   (h.update a (Obj.putSet es' t')).get? a=some { o with data:=.set es' (ep+1) t' }/\cr w (h.update a (Obj.putSet es' t')) a L':=by
 have hg:(h.update a (Obj.putSet es' t')).get? a=some { o with data:=.set es' (ep+1) t' }:=by have:=OL (Obj.putSet es' t') ho (by rw [putSet_of es' t' hd]; rfl);rw [putSet_of es' t' hd] at this; exact this
 exact ⟨hg,_,es',ep+1,t',hg,hex,rfl,he,hb,hf,hl,hp⟩
variable {I sa:Addr} {g:Bool->Sem Unit} {R:Result->Shared->Prop} {tk:Tok}
section
variable {prog:Program} {E:Value->Shared->Prop}
theorem wD (hg:∀ (b:Bool) (ai:Shared) (Q':Unit->Shared->Prop),Q' () ai->wpAny (model prog w) A (g b) Q' E ai)
   {a:Addr} {o:Obj} {es es1:Array (Int×Value)} {ep:Nat} {t t2:SetTable} {L1:List Str} (ho:s.heap.get? a=some o) (hex:o.ExactSet) (hd:o.data=.set es ep t)
   (he:StrEnts w es1.toList L1) (hb:L1.length < scanBound) (hf:t2.fits es1.size=true) (hl:t2.led=!A1 w) (hp:t2.plain=false) {wasDummy:Bool} {R:Option Bool->Shared->Prop}
   (h:∀ h' L',Heap.SameBut a s.heap h'->cr w h' a L'->L'.Perm L1->R (some true) { s with heap:=h' }) :
   wpAny (model prog w) A (do
       storeSet a es1 t2
       if (!wasDummy&&t2.tooFull)=true then do
           g (relayAll t2 es1 (SetTable.grown es1.size)).2.2
           storeSet a (relayAll t2 es1 (SetTable.grown es1.size)).1 (relayAll t2 es1 (SetTable.grown es1.size)).2.1
           pure (some true)
         else pure (some true)) R E s:=by
 have hsz:es1.size=L1.length:=by rw [<- NT]; exact he.length
 refine MQ (wpAny_storeSet_of ho hd ?_ (fits_of_scanBound (by rw [hsz]; exact hb)));obtain ⟨ho1,hS1⟩:=oO ho hex hd he hb hf hl λ_=>hp;have hsb1:=Heap.SameBut.update s.heap a (Obj.putSet es1 t2);split
 . have hpm:=relayAll_perm t2 es1 (SetTable.grown es1.size);have hfr:=relayAll_fits t2 es1 (SetTable.grown es1.size);have hmk:=o2 t2 es1 (SetTable.grown es1.size);generalize relayAll t2 es1 (SetTable.grown es1.size)=Rl at hpm hfr hmk ⊢;obtain ⟨es2,t3,gave2⟩:=Rl;dsimp only at hpm hfr hmk ⊢;obtain ⟨L2,he2,p2⟩:=he.perm hpm;have hb2:L2.length < scanBound:=by rw [p2.length_eq]; exact hb
   have hsz2:es2.size=L2.length:=by rw [<- NT]; exact he2.length
   have hp3:t3.plain=false:=by
     cases h3:t3.plain with
     | false=>rfl
     | true=>have:=hmk.2 h3; rw [hp] at this; cases this
   refine MQ (hg _ _ _ ?_);refine MQ (wpAny_storeSet_of ho1 rfl ?_ (fits_of_scanBound (by rw [hsz2]; exact hb2)));obtain ⟨_,hS2⟩:=oO ho1 hex rfl he2 hb2 hfr (hmk.1.trans hl) λ_=>hp3;exact NF (h _ L2 (hsb1.trans (Heap.SameBut.update _ a _)) hS2 p2)
 . exact NF (h _ L1 hsb1 hS1 (.refl _))
set_option tactic.hygienic true in
theorem add_str {x:Str} {Q:Bool->Shared->Prop} (hS:cr w s.heap a L) (hroom:L.length+1 < scanBound)
   (h:∀ (b:Bool) (h':Heap) (L':List Str),Heap.SameBut a s.heap h'->cr w h' a L'->(x∈L->L'=L)->(x∉L->L'.Perm (L++[x]))->Q b { s with heap:=h' }) :
   wpAny (model prog w) A (setAddHashed a (.str x tk) (hashStr w x)) Q E s:=by
 obtain ⟨o,es,ep,t,ho,hex,hd,hel,hb,hf,hled,hpl⟩:=id hS;have hsz:es.size=L.length:=by rw [<- NT]; exact hel.length
 have hE:ElemsOf (strKind prog w) es.toList:=hel.elems;have hkey:(strKind prog w).is x (.str x tk)=true:=by show Value.isStrOf x (.str x tk)=true; simp [Value.isStrOf]
 unfold setAddHashed setAddHashedIn;refine OG (MQ (wpAny_setState_of ho hd hf ?_));dsimp only;rw [byScan_of (knd:=strKind prog w) rfl (by rw [hsz]; exact hb) hE,if_pos rfl];unfold setAddByScan;refine MQ ?_;refine MQ (wpAny_rule ?_);refine MQ (wpAny_setScan_of (knd:=strKind prog w) hkey ho hd hf hE ?_);have hfind:=hel.find (x:=x);cases hr:List.findIdx? (λe=>(strKind prog w).is x e.2) es.toList with
 | some j=>
   dsimp only;have hx:x∈L:=Classical.byContradiction λq=>by have:=hfind.mpr q;rw [show List.findIdx? (λe=>Value.isStrOf x e.2) es.toList=some j from hr] at this;cases this
   refine NF (NF ?_);have e:s={ s with heap:=s.heap }:=by cases s; rfl
   rw [e];exact h false s.heap L (Heap.SameBut.refl a s.heap) hS (λ_=>rfl) λq=>absurd hx q
 | none=>
   dsimp only;have hx:x∉L:=hfind.mp hr;have hgw:∀ (b:Bool) {ai:Shared} {Q':Unit->Shared->Prop},Q' () ai->wpAny (model prog w) A (match b with | true=>rule "set.scan.the-table-gave-way" | false=>pure ()) Q' E ai:=
     λb ai Q' hq=>by cases b <;> first | exact NF hq | exact wpAny_rule hq
   have hperm:=layNew_perm t es (hashStr w x) (.str x tk);have hfits:=layNew_fits t es (hashStr w x) (.str x tk);have hmk:=tM t es (hashStr w x) (.str x tk);generalize layNew t es (hashStr w x) (.str x tk)=T at hperm hfits hmk ⊢;obtain ⟨es1,t1,wasDummy,gave⟩:=T;dsimp only at hperm hfits hmk ⊢;refine kk λK k=>?_;rw [Qx] at hperm;obtain ⟨L1,hL1,pL1⟩:=(hel.snoc x tk).perm hperm;refine k ?_;have hlen1:L1.length < scanBound:=by rw [pL1.length_eq,ND]; exact hroom
   have hl1:t1.led=!A1 w:=hmk.1.trans hled;have hend:∀ h' L',Heap.SameBut a s.heap h'->cr w h' a L'->L'.Perm L1->Q true { s with heap:=h' }:=λh' L' hsb hS' hp=>h true h' L' hsb hS' (λq=>absurd q hx) λ_=>hp.trans pL1;refine MQ (hgw _ ?_);split
   . refine MQ ?_;rw [hashByValue_scannable 8 (x:=.str x tk) rfl];refine NF ?_;refine wD ?_ ho hex hd hL1 hlen1 ?_ ?_ ?_ ?_
     . intro b ai Q' hq; cases b <;> first | exact NF hq | exact wpAny_rule hq
     . exact SetTable.fits_plain_off hfits
     . exact hl1
     . rfl
     . intro h' L' hsb hS' hp; exact NF (hend h' L' hsb hS' hp)
   . rename_i hpl1;refine MQ (NF ?_);refine wD ?_ ho hex hd hL1 hlen1 hfits hl1 (by simpa using hpl1) ?_
     . intro b ai Q' hq; cases b <;> first | exact NF hq | exact wpAny_rule hq
     . intro h' L' hsb hS' hp; exact NF (hend h' L' hsb hS' hp)
theorem sB:entryFor table "set.update.loop"=some Builtin.«set.update.loop»:=entryFor_of_tree (by kernel_rfl)
theorem mo:plainId "set.update.loop"=true:=by decide +kernel
theorem HL (h:PyProof.Rows.StrsAre vs ss):∀ {i:Nat} {v:Value},vs[i]?=some v->X2 λx t=>v=.str x t/\ss[i]?=some x:=by
 induction h with
 | nil=>intro i v e; simp at e
 | cons y t r ih=>
   intro i v e;cases i with
   | zero=>cases e; exact ⟨y,t,rfl,rfl⟩
   | succ i=>exact ih (i:=i) (v:=v) (by simpa using e)
theorem cr.keep (hS:cr w h a L) (k:∀ o,h.get? a=some o->h'.get? a=some o):cr w h' a L:=by obtain ⟨o,es,ep,t,ho,r1,r2,r3,r4,r5,r6,r7⟩:=hS;exact ⟨o,es,ep,t,k o ho,r1,r2,r3,r4,r5,r6,r7⟩
theorem uI {l:Addr} (hh:A.handled=none) (hV:PyProof.Rows.StrsAre vs ss) (hlen:vs.length=ss.length) (h1:sa≠I) (h2:sa≠l) (h3:l≠I) :
   ∀ (k i:Nat) (s:Shared) (L:List Str),ss.length - i=k->i<=ss.length->s.heap.IsListIter I l i->s.heap.IsList l vs.toArray->cr w s.heap sa L->L.Nodup->L.length+k < scanBound->
     (∀ h' tk L',(∀ b o,b≠I->b≠sa->s.heap.get? b=some o->h'.get? b=some o)->cr w h' sa L'->L'.Nodup->(∀ y,y∈L'↔y∈L\/y∈ss.drop i)->R (.ok (.ret .none)) { s with heap:=h',toks:=tk })->
     codeAny (model prog w) A (.builtin "set.update.loop" ⟨[.ref sa,.ref I],[]⟩) R s:=by
 have W:=Walks.list (prog:=prog) (w:=w) (A:=A.in1) hh I l h3 vs.toArray;have hsz:vs.toArray.size=ss.length:=by simp [hlen]
 intro k
 induction k with
 | zero=>intro i s L hk hi hit hl hS hnd hb hR;have:i=ss.length:=Pv hi (Nat.le_of_sub_eq_zero hk);subst this;refine codeAny_builtin sB ?_;rw [Around.under_plainId mo _];show wpAny _ A.in1 (pyNext (.ref I) >>= _) _ _ s;refine MQ (W.done s _ _ (by rw [hsz]; exact ⟨hit,hl⟩) λh' tk hk'=>?_);refine NF ?_;refine hR h' tk L (λb o hb _ e=>hk' b o (λq=>hb (NL.mp q)) e) (hS.keep λo e=>hk' sa o (λq=>h1 (NL.mp q)) e) hnd λy=>?_;rw [Qg]; simp
 | succ k ih=>
   intro i s L hk hi hit hl hS hnd hb hR;have hlt:i < ss.length:=Nat.sub_pos_iff_lt.mp (hk ▸ Qb k);refine codeAny_builtin sB ?_;rw [Around.under_plainId mo _];show wpAny _ A.in1 (pyNext (.ref I) >>= _) _ _ s;refine MQ (W.item i s _ _ (by rw [hsz]; exact hlt) ⟨hit,hl⟩ λv h' tk hP hst hk'=>?_);obtain ⟨x,t,rfl,hx⟩:=HL hV (i:=i) (v:=v) (by simpa using hP);have hS':cr w h' sa L:=hS.keep λo e=>hk' sa o (λq=>h1 (NL.mp q)) e;refine MQ (OG ?_);unfold setAdd;refine OG (MQ ((strKind prog w).pyHash (k:=x) (by show Value.isStrOf x (.str x t)=true; simp [Value.isStrOf]) ?_));refine add_str (s:={ s with heap:=h',toks:=tk+1 }) hS' (by omega) λb h'' L' hsb hS'' hin hout=>?_;have kk:∀ c o,c≠sa->h'.get? c=some o->h''.get? c=some o:=λc o hc e=>hsb.extBut c o hc e;have hd:ss.drop i=x::ss.drop (i+1):=by rw [Ps hlt];rw [NC hlt] at hx;injection hx with hx;rw [hx]
   have hL':L'.Nodup/\L'.length<=L.length+1/\∀ y,y∈L'↔y∈L\/y=x:=by
     by_cases hxL:x∈L
     . rw [hin hxL];exact ⟨hnd,PI _,λy=>⟨.inl,λq=>q.elim id λq=>q ▸ hxL⟩⟩
     . have p:=hout hxL;refine ⟨p.nodup_iff.mpr (Pf.mpr ⟨hnd,by simp,λa ha b hb q=>hxL ?_⟩),by rw [p.length_eq]; simp,λy=>by rw [p.mem_iff,NR,NL]⟩;rw [<- NL.mp hb,<- q]; exact ha
   refine NF ⟨plainId_quiet mo _,ih (i+1) _ L' ((Nat.sub_add_eq ..).trans (by rw [hk]; rfl)) hlt (hst.1.at λo e=>kk I o (Ne.symm h1) e) (hst.2.at λo e=>kk l o (Ne.symm h2) e) hS'' hL'.1 (by have:=hL'.2.1; omega) λh3' tk' L3 k3 hS3 hnd3 hm3=>?_⟩;refine hR h3' tk' L3 (λc o hc hc' e=>k3 c o hc hc' (kk c o hc' (hk' c o (λq=>hc (NL.mp q)) e))) hS3 hnd3 λy=>?_;rw [hm3,hL'.2.2,hd,NN,or_assoc]
end
theorem oL (v:Value):checkTypeCall "set" ⟨[v],[]⟩=pure ():=by kernel_rfl
theorem qY (v:Value):checkBuiltinCall "set.__new__" ⟨[.type "set",v],[]⟩=pure ():=by kernel_rfl
variable {JK:Value->Shared->Prop}
section
variable {prog:Program} {E:Value->Shared->Prop}
noncomputable abbrev cY (w:World):Obj:={ cls:=.type "set",dict:=none,data:=.set #[] 0 (.fresh 0 0 (!A1 w)) }
theorem rj (v:Value) (h:JK (.ref s.heap.objs.size) { s with heap:=s.heap.push (cY w) }) :
   codeAny (model prog w) A (.call (.builtin "set.__new__") ⟨[.type "set",v],[]⟩) (wants JK E) s:=by
 refine codeAny_of_tree ?_;show wpAny _ A.in1 (do checkBuiltinCall "set.__new__" ⟨[.type "set",v],[]⟩; again (.builtin "set.__new__" ⟨[.type "set",v],[]⟩)) _ _ s;refine MQ (wpAny_of_eq (qY v) (NF ⟨plainId_quiet F.plain_set_new _,codeAny_builtin F.entry_set_new ?_⟩));rw [Around.under_plainId F.plain_set_new _];unfold Builtin.«set.__new__» Builtin.Frozenset.newClass;have hsub:=sub_set_self;obtain ⟨hp,g,d,tk,os⟩:=s;dsimp only
 wp_walk
 refine wpAny_askSetting (NF ?_);dsimp only;unfold newObj;refine MQ (wpAny_alloc (NF ?_));exact NF h
theorem nU {self:Value} (hT:s.TypeIs self "set") (hQ:Q () s) :
   wpAny M A (checkBuiltinCall "set.__init__" ⟨[self,v],[]⟩) Q E s:=by
 unfold checkBuiltinCall;rw [kind_set_init,split_set_init,sig_set_init];refine MQ (wpAny_isInstance hT sub_set_self ?_);rw [PK,if_neg NY];unfold Bind.checkArgs;dsimp only;refine MQ (m:=Bind.printed "set" true _ _) (PyProof.Rows.printed_name (by decide) ?_);refine MQ (m:=Bind.printed "*" false _ _) (PyProof.Rows.printed_star (self:=self) rfl hT λshort=>?_);have hrn:(Manifest.Receiver.self==Manifest.Receiver.none)=false:=by decide
 have hn:(if (Manifest.Receiver.self==Manifest.Receiver.none)=true then [self,v].length else [self,v].length - 1)=1:=by simp [hrn]
 rw [hn];rw [OV];have hc:Bind.check ⟨.positional,"set","*",.self,[⟨"iterable",.posOnly,false⟩]⟩ "set" short 1 []=pure ():=by simp [Bind.check,Bind.checkCount,Bind.isPositional];exact λq=>absurd q (by decide)
 rw [hc];exact NF hQ
theorem mX:isSubtype (.type "list") (.type "set")=pure false:=by rw [isSubtype_type]; kernel_rfl
theorem jz:isSubtype (.type "list") (.type "frozenset")=pure false:=by rw [isSubtype_type]; kernel_rfl
theorem qW {l:Addr} {id:String} (hh:A.handled=none) (hl:s.heap.IsList l vs.toArray) (hV:PyProof.Rows.StrsAre vs ss) (hlen:vs.length=ss.length) (hne:sa≠l) (hS:cr w s.heap sa L) (hnd:L.Nodup) (hb:L.length+ss.length < scanBound)
   (h:∀ h' tk L',(∀ b o,b≠sa->s.heap.get? b=some o->h'.get? b=some o)->cr w h' sa L'->L'.Nodup->(∀ y,y∈L'↔y∈L\/y∈ss)->Q () { s with heap:=h',toks:=tk }) :
   wpAny (model prog w) A (Builtin.Frozenset.updateFrom id sa (.ref l)) Q E s:=by
 have hT:s.TypeIs (.ref l) "list":=by obtain ⟨o,ho,hc,_⟩:=hl;exact ⟨o,ho,hc⟩
 have hsa:sa < s.heap.objs.size:=by obtain ⟨o,_,_,_,ho,_⟩:=hS; exact Os ho
 have hla:l < s.heap.objs.size:=by obtain ⟨o,ho,_⟩:=hl; exact Os ho
 unfold Builtin.Frozenset.updateFrom Builtin.Frozenset.isAnySet;refine MQ ?_;show wpAny _ _ (isInstance (.ref l) (.type "set") >>= _) _ _ _;refine MQ (wpAny_isInstance (b:=false) hT mX ?_);show wpAny _ _ (isInstance (.ref l) (.type "frozenset")) _ _ _;refine wpAny_isInstance (b:=false) hT jz ?_;show wpAny _ _ (typeOf (.ref l) >>= _) _ _ _;refine MQ (wpAny_typeOf hT ?_);rw [if_neg (by decide)];refine MQ (wpAny_pyIter_list hl ?_);refine MQ (wpAny_runValue ?_);refine uI hh hV hlen (OI hsa) hne (OI hla) ss.length 0 _ L (by omega) (N3 _) ⟨_,NQ _ rfl,rfl,rfl⟩ (hl.at λo e=>NG _ e) (hS.keep λo e=>NG _ e) hnd hb λh' tk L' hk hS' hnd' hm=>?_;refine NF (h h' tk L' (λb o hb e=>hk b o (λq=>?_) hb (NG _ e)) hS' hnd' λy=>by rw [hm]; simp);exact absurd (Os e) (by rw [q]; exact Pa _)
set_option maxHeartbeats 1000000 in
theorem x9 {l:Addr} {Q:Value->Shared->Prop} (hh:A.handled=none) (hl:s.heap.IsList l vs.toArray) (hV:PyProof.Rows.StrsAre vs ss) (hlen:vs.length=ss.length) (hb:ss.length < 4000)
   (h:∀ h' tk L',(∀ b o,s.heap.get? b=some o->h'.get? b=some o)->cr w h' s.heap.objs.size L'->L'.Nodup->(∀ y,y∈L'↔y∈ss)->Q (.ref s.heap.objs.size) { s with heap:=h',toks:=tk }) :
   wpAny (model prog w) A (call (.type "set") [.ref l]) Q E s:=by
 obtain ⟨c,tl,hmro⟩:=F.called_set.mro;have hmade:=F.called_set.made;have hsub:=F.called_set.sub;refine wpAny_call (codeAny_of_tree ?_);show wpAny _ _ (callAny (.type "set") _) _ _ _;refine NF ⟨Code.quiet_builtin _ (by decide +kernel),codeAny_builtin F.entry_type_call ?_⟩;rw [Around.under_plain (weight_type_call_type "set" [.ref l] []) rfl];have h1:=F.called_set.notType;have h2:=F.called_set.canCreate;have hct:=oL (.ref l)
 repeat (any_goals (first | assumption | wp_step))
 refine codeAny_mono (rj (E:=E) (.ref l) (JK:=λobj ai=>obj=.ref s.heap.objs.size/\ai={ s with heap:=s.heap.push (cY w) }) ⟨rfl,rfl⟩) λr ai hr=>?_;cases r with
 | error e=>exact hr
 | ok fl=>
   cases fl with
   | ret obj=>
     obtain ⟨rfl,rfl⟩:=hr;have hS:(s.heap.push (cY w)).get? s.heap.objs.size=some (cY w):=NQ _ rfl;have hT:Shared.TypeIs { s with heap:=s.heap.push (cY w) } (.ref s.heap.objs.size) "set":=⟨_,hS,rfl⟩
     have hli:=F.called_set.init.lookup;have hbi:=F.called_set.init.bind (.ref s.heap.objs.size)
     repeat (any_goals (first | assumption | wp_step))
     refine codeAny_mono (codeAny_call_builtin (R:=wants (λr aj=>r=.none/\Q (.ref s.heap.objs.size) aj) E) F.called_set.init.plain F.entry_set_init (nU hT ?_)) λtz aj CR=>?_
     . unfold Builtin.«set.__init__» noKeywords;have hl':(s.heap.push (cY w)).IsList l vs.toArray:=hl.at λo e=>NG _ e;have hTl:Shared.TypeIs { s with heap:=s.heap.push (cY w) } (.ref l) "list":=by obtain ⟨o,ho,hc,_⟩:=hl';exact ⟨o,ho,hc⟩
       have n1:=mX;have n2:=jz;have hSS:cr w (s.heap.push (cY w)) s.heap.objs.size []:=⟨_,#[],0,_,hS,⟨rfl,rfl,rfl⟩,rfl,.nil,by decide,by rfl,rfl,λq=>absurd rfl q⟩
       have hU:=λ(Q:Unit->Shared->Prop) (E:Value->Shared->Prop)=>qW (prog:=prog) (w:=w) (A:=A.in1.in1) (E:=E) (s:={ s with heap:=s.heap.push (cY w) }) (sa:=s.heap.objs.size) (id:="set.__init__") (Q:=Q) hh hl' hV hlen (Qa (by obtain ⟨o,ho,_⟩:=hl; exact Os ho)) hSS PN (by simp [scanBound]; omega);generalize Builtin.Frozenset.updateFrom=U at hU ⊢
       wp_walk
       refine hU _ _ λh' tk L' hk hS' hnd' hm=>?_;refine NF ⟨rfl,h h' tk L' (λb o e=>hk b o (λq=>absurd (Os e) (by rw [q]; exact Pa _)) (NG _ e)) hS' hnd' λy=>?_⟩;rw [hm]; simp
     . cases tz with
       | error e=>exact CR
       | ok Lo=>
         cases Lo with
         | ret r=>
           obtain ⟨rfl,hq⟩:=CR
           repeat (any_goals (first | assumption | wp_step))
         | _=>exact CR.elim
   | _=>exact hr.elim
end
theorem bf:Slot "set_iterator" "__next__" "set_iterator.__next__":=
 .of (owner:="set_iterator") (n:="__next__") (by rw [typeLookup_type,builtinLookup_eq_fast]; kernel_rfl) (by decide +kernel) (by decide +kernel) (by decide +kernel)
   (by first | exact .inl (by decide +kernel) | exact .inr (by decide +kernel)) (by rw [isSubtype_type]; kernel_rfl)
theorem ly:Slot "set_iterator" "__iter__" "set_iterator.__iter__":=
 .of (owner:="set_iterator") (n:="__iter__") (by rw [typeLookup_type,builtinLookup_eq_fast]; kernel_rfl) (by decide +kernel) (by decide +kernel) (by decide +kernel)
   (by first | exact .inl (by decide +kernel) | exact .inr (by decide +kernel)) (by rw [isSubtype_type]; kernel_rfl)
theorem eU:entryFor table "set_iterator.__next__"=some Builtin.«set_iterator.__next__»:=entryFor_of_fast (by kernel_rfl)
theorem fQ (a:Value):argsOk "set_iterator.__next__" ⟨[a],[]⟩:=by unfold argsOk; kernel_rfl
theorem ub:entryFor table "set.__iter__"=some Builtin.«frozenset.__iter__»:=
 entryFor_alias (id':="frozenset.__iter__") (by kernel_rfl) rfl (by decide +kernel) (by kernel_rfl)
noncomputable abbrev jH (a:Addr) (n ep:Nat) (f:Value) (i:Nat):Obj:={ cls:=.type "set_iterator",dict:=none,data:=.fields #[f,rawInt i,.ref a,rawInt n,rawInt ep],slots:=#[] }
variable {es:Array (Int×Value)} {i sl:Nat} {Q:Option Value->Shared->Prop}
section
variable {prog:Program} {E:Value->Shared->Prop}
theorem GX {nx:Nat} {x:Value} (hI:s.heap.get? I=some (jH a n ep (rawInt sl) i)) (ho:s.heap.get? a=some o) (hd:o.data=.set es ep t) (hf:t.fits es.size=true) (hn:es.size=n)
   (hN:∀ {A':Around} {E':Value->Shared->Prop} {Q':Option (Value×Nat)->Shared->Prop},Q' (some (x,nx)) s->wpAny (model prog w) A' (setNext a sl i ep) Q' E' s)
   (hQ:∀ h',h'.get? I=some (jH a n ep (rawInt nx) (i+1))->Heap.SameBut I s.heap h'->Q (some x) { s with heap:=h' }):wpAny (model prog w) A (pyNext (.ref I)) Q E s:=by
 have hT:s.TypeIs (.ref I) "set_iterator":=⟨_,hI,rfl⟩
 unfold pyNext;refine MQ (wpAny_attempt (wpAny_callSpecial?_slot (name:=Str.ofString "__next__") hT bf (wpAny_call_entry bf hT eU ?_ (fQ _))));show wpAny _ _ (fieldsOf (.ref I) >>= _) _ _ s;refine MQ (wpAny_fieldsOf hI rfl ?_);show wpAny _ _ (setEntries a >>= _) _ _ s;refine MQ (wpAny_setEntries_of ho hd hf ?_);rw [if_neg (by rw [hn]; simp)];show wpAny _ _ (setNext a (Int.toNat (sl:Int)) (Int.toNat (i:Int)) (Int.toNat (ep:Int)) >>= _) _ _ s;rw [Oh,Oh,Oh];refine MQ (hN ?_);refine MQ (wpAny_setField_rec hI (by simp) λh1 e1 k1=>?_);refine MQ (wpAny_setField_rec e1 (by simp) λh2 e2 k2=>?_);exact NF ⟨x,rfl,NF (hQ h2 e2 (k1.trans k2))⟩
theorem Lw {a:Addr} {i:Nat} (hh:A.handled=none) (hI:s.heap.get? I=some (jH a n ep (rawInt sl) i)) (ho:s.heap.get? a=some o) (hd:o.data=.set es ep t) (hf:t.fits es.size=true) (hn:es.size=n)
   (hN:∀ {A':Around} {E':Value->Shared->Prop} {Q':Option (Value×Nat)->Shared->Prop},Q' none s->wpAny (model prog w) A' (setNext a sl i ep) Q' E' s)
   (hQ:∀ h',Heap.ExtBut I s.heap h'->Q none { s with heap:=h' }):wpAny (model prog w) A (pyNext (.ref I)) Q E s:=by
 have hT:s.TypeIs (.ref I) "set_iterator":=⟨_,hI,rfl⟩
 unfold pyNext;refine MQ (wpAny_attempt (wpAny_callSpecial?_slot (name:=Str.ofString "__next__") hT bf (wpAny_call_entry bf hT eU ?_ (fQ _))));show wpAny _ _ (fieldsOf (.ref I) >>= _) _ _ s;refine MQ (wpAny_fieldsOf hI rfl ?_);show wpAny _ _ (setEntries a >>= _) _ _ s;refine MQ (wpAny_setEntries_of ho hd hf ?_);rw [if_neg (by rw [hn]; simp)];show wpAny _ _ (setNext a (Int.toNat (sl:Int)) (Int.toNat (i:Int)) (Int.toNat (ep:Int)) >>= _) _ _ s;rw [Oh,Oh,Oh];refine MQ (hN ?_);refine MQ (wpAny_setField (i:=2) (x:=Value.none) hI rfl (by simp) ?_);show wpAny _ _ (newExc (.type "StopIteration") [] >>= _) _ _ _;refine MQ ?_;unfold newExc newTuple;refine MQ (Og ?_ (by size_fits));refine MQ (m:=firstArgMember _ _) (wpAny_of_eq (a:=Value.none) (by first | rfl | (simp only [firstArgMember]; rfl)) ?_);refine Og ?_ (by size_fits);unfold raiseNew;refine MQ (wpAny_handled ?_);rw [show A.in1.handled=none from hh];refine MQ (NF (wpAny_throw ?_));refine MQ (wpAny_isInstance (T:="StopIteration") (b:=true) ⟨_,NQ _ rfl,rfl⟩ isSubtype_stop ?_);exact NF (hQ _ (((Heap.SameBut.update ..).extBut.push _).push _))
theorem rQ (hb:A1 w=true) (ho:s.heap.get? a=some o) (hd:o.data=.set es ep t) (hf:t.fits es.size=true) {Q:Option (Value×Nat)->Shared->Prop}
   (h:Q (((pickOrder (w.params.setOrder a ep) es)[i]?).map λe=>(e.2,sl)) s):wpAny (model prog w) A (setNext a sl i ep) Q E s:=by
 unfold setNext;refine MQ (wpAny_setState_of ho hd hf ?_);dsimp only;unfold setsByText;refine MQ (MQ (wpAny_askSetting (NF ?_)));dsimp only;have hb':(model prog w).w.params.followText "set-order"=true:=hb;rw [if_pos hb',if_neg (by simp)];refine MQ ?_;unfold setWalk setsByText;refine MQ (wpAny_setState_of ho hd hf ?_);dsimp only;refine MQ (MQ (wpAny_askSetting (NF ?_)));dsimp only;rw [if_pos hb'];refine MQ (wpAny_askSetting (NF (NF h)))
set_option tactic.hygienic true in
theorem rR (hb:A1 w=false) (hled:t.led=true) (h1:es.size<=1) (ho:s.heap.get? a=some o) (hd:o.data=.set es ep t) (hf:t.fits es.size=true) {Q:Option (Value×Nat)->Shared->Prop}
   (h:Q (match es[SetTable.below t.place sl]?,t.place[SetTable.below t.place sl]? with | some (_,x),some j=>some (x,j+1) | _,_=>none) s):wpAny (model prog w) A (setNext a sl i ep) Q E s:=by
 unfold setNext;refine MQ (wpAny_setState_of ho hd hf ?_);dsimp only;unfold setsByText;refine MQ (MQ (wpAny_askSetting (NF ?_)));dsimp only;have hb':¬ (model prog w).w.params.followText "set-order"=true:=by show ¬ A1 w=true; rw [hb]; exact NY
 rw [if_neg hb'];split
 . rename_i hdr;have hdr:(!t.plain&&decide (es.size > 1))=true:=hdr;simp only [NO,decide_eq_true_eq] at hdr;omega
 . refine MQ ?_;show wpAny _ _ (if (!t.led&&!es.isEmpty)=true then unsupported "set:maker-not-led" else pure ()) _ _ _;rw [if_neg (by rw [hled]; simp)];exact NF (NF h)
end
theorem lg:∀ (l:List α) (i:Nat) (x:α),l[i]?=some x->l.Perm (x::l.eraseIdx i)
 | [],i=>@λx h=>by simp at h
 | y::l,0=>@λx h=>by cases h; exact .refl _
 | y::l,i+1=>@λx h=>by
   have h':l[i]?=some x:=by simpa using h
   exact ((lg l i x h').cons y).trans (.swap ..)
theorem yO (next:Nat->Nat):∀ (fuel k:Nat) (left:List α) (out:Array α),left.length<=fuel->(pickOrder.go next fuel k left out).toList.Perm (out.toList++left)
 | 0=>@λk left out h=>by have:left=[]:=O6 (Nat.le_zero.mp h);subst this;rw [NX]; exact .refl _
 | fuel+1=>@λk left out h=>by
   show (match left[next k % left.length]? with | some x=>pickOrder.go next fuel (k+1) (left.eraseIdx (next k % left.length)) (out.push x) | none=>out).toList.Perm _;cases hx:left[next k % left.length]? with
   | some x=>
     have hp:=lg left _ x hx;have hl:(left.eraseIdx (next k % left.length)).length<=fuel:=by have:=hp.length_eq; rw [NU] at this; omega
     refine (yO next fuel (k+1) _ _ hl).trans ?_;rw [Qx,N2];exact hp.symm.append_left _
   | none=>
     have:left=[]:=by
       cases left with
       | nil=>rfl
       | cons y l=>
         have:next k % (y::l).length < (y::l).length:=Nat.mod_lt _ (by simp)
         rw [NC this] at hx; cases hx
     rw [this,NX]
theorem j0 (next:Nat->Nat) (xs:Array α):(pickOrder next xs).toList.Perm xs.toList:=by
 unfold pickOrder;have:=yO next xs.size 0 xs.toList #[] (by simp)
 simpa using this
variable {tp:Addr} {ps:Array Value} {nt:Nat} {ot:Obj} {src:Source}
section
variable {prog:Program} {E:Value->Shared->Prop}
theorem x6 {Q:Nat->Shared->Prop} (hn:n≠0) (h:∀ k d,k < n->Q k { s with drawn:=d }):wpAny (model prog w) A (choose src n) Q E s:=λΓ p hΓ=>by unfold choose;rw [Sem.wp_choose];exact ⟨hn,h _ _ (Nat.mod_lt _ (Nat.pos_of_ne_zero hn))⟩
theorem wb:∀ (n:Nat) (xs:List α) (s:Shared) {Q:List α->Shared->Prop},xs.length<=n->(∀ ys d,ys.Perm xs->Q ys { s with drawn:=d })->wpAny (model prog w) A (drawOrder n xs) Q E s
 | 0,xs=>@λs Q h hQ=>by have:xs=[]:=O6 (Nat.le_zero.mp h);subst this;show wpAny _ _ (pure []) _ _ _;exact NF (hQ [] s.drawn (.refl _))
 | n+1,[]=>@λs Q h hQ=>by show wpAny _ _ (pure []) _ _ _;exact NF (hQ [] s.drawn (.refl _))
 | n+1,x::xs=>@λs Q h hQ=>by
   show wpAny _ _ (do let i <- choose .order (x::xs).length; match (x::xs)[i]? with | some y=>return y::(<- drawOrder n ((x::xs).eraseIdx i)) | none=>unsupported "internal:drawOrder") _ _ _;refine MQ (x6 (by simp) λk d hk=>?_);rw [NC hk];dsimp only;have hp:=lg (x::xs) k _ (NC hk);have hl:((x::xs).eraseIdx k).length<=n:=by have:=hp.length_eq; rw [NU] at this h; rw [NU] at this; omega
   refine MQ (wb n _ _ hl λys d' hys=>?_);exact NF (hQ _ d' ((hys.cons _).trans hp.symm))
theorem KQ {pl:Nat} {h0:Int} {x:Value} (hI:s.heap.get? I=some (jH a n ep (.ref tp) i)) (ho:s.heap.get? a=some o) (hd:o.data=.set es ep t) (hf:t.fits es.size=true) (hn:es.size=n)
   (htp:s.heap.get? tp=some ot) (hdt:ot.data=.seq ps nt) (hp:ps[i]?=some (rawInt pl)) (hx:es[pl]?=some (h0,x))
   (hQ:∀ h',h'.get? I=some (jH a n ep (.ref tp) (i+1))->Heap.SameBut I s.heap h'->Q (some x) { s with heap:=h' }):wpAny (model prog w) A (pyNext (.ref I)) Q E s:=by
 have hT:s.TypeIs (.ref I) "set_iterator":=⟨_,hI,rfl⟩
 unfold pyNext;refine MQ (wpAny_attempt (wpAny_callSpecial?_slot (name:=Str.ofString "__next__") hT bf (wpAny_call_entry bf hT eU ?_ (fQ _))));show wpAny _ _ (fieldsOf (.ref I) >>= _) _ _ s;refine MQ (wpAny_fieldsOf hI rfl ?_);show wpAny _ _ (setEntries a >>= _) _ _ s;refine MQ (wpAny_setEntries_of ho hd hf ?_);rw [if_neg (by rw [hn]; simp)];show wpAny _ _ (seqItems? (.ref tp) >>= _) _ _ s;refine MQ (wpAny_seqItems htp hdt ?_);show wpAny _ _ (match ps[Int.toNat (i:Int)]? with | some (.int place _)=>_ | some _=>_ | none=>_) _ _ s;rw [Oh,hp];show wpAny _ _ (setNextDrawn a (Int.toNat (pl:Int)) (Int.toNat (ep:Int)) >>= _) _ _ s;rw [Oh,Oh];refine MQ ?_;unfold setNextDrawn;refine MQ (wpAny_setState_of ho hd hf ?_);dsimp only;rw [if_neg (by simp),hx];refine NF ?_;refine MQ (wpAny_setField_rec hI (by simp) λh1 e1 k1=>?_);exact NF ⟨x,rfl,NF (hQ h1 e1 k1)⟩
theorem Mn {a:Addr} {i:Nat} (hh:A.handled=none) (hI:s.heap.get? I=some (jH a n ep (.ref tp) i)) (ho:s.heap.get? a=some o) (hd:o.data=.set es ep t) (hf:t.fits es.size=true) (hn:es.size=n)
   (htp:s.heap.get? tp=some ot) (hdt:ot.data=.seq ps nt) (hp:ps[i]?=none)
   (hQ:∀ h',Heap.ExtBut I s.heap h'->Q none { s with heap:=h' }):wpAny (model prog w) A (pyNext (.ref I)) Q E s:=by
 have hT:s.TypeIs (.ref I) "set_iterator":=⟨_,hI,rfl⟩
 unfold pyNext;refine MQ (wpAny_attempt (wpAny_callSpecial?_slot (name:=Str.ofString "__next__") hT bf (wpAny_call_entry bf hT eU ?_ (fQ _))));show wpAny _ _ (fieldsOf (.ref I) >>= _) _ _ s;refine MQ (wpAny_fieldsOf hI rfl ?_);show wpAny _ _ (setEntries a >>= _) _ _ s;refine MQ (wpAny_setEntries_of ho hd hf ?_);rw [if_neg (by rw [hn]; simp)];show wpAny _ _ (seqItems? (.ref tp) >>= _) _ _ s;refine MQ (wpAny_seqItems htp hdt ?_);show wpAny _ _ (match ps[Int.toNat (i:Int)]? with | some (.int place _)=>_ | some _=>_ | none=>_) _ _ s;rw [Oh,hp];refine MQ (wpAny_setField_rec (x:=rawInt 0) hI (by simp) λh1 e1 k1=>?_);refine MQ (wpAny_setField (i:=2) (x:=Value.none) e1 rfl (by simp) ?_);show wpAny _ _ (newExc (.type "StopIteration") [] >>= _) _ _ _;refine MQ ?_;unfold newExc newTuple;refine MQ (Og ?_ (by size_fits));refine MQ (m:=firstArgMember _ _) (wpAny_of_eq (a:=Value.none) (by first | rfl | (simp only [firstArgMember]; rfl)) ?_);refine Og ?_ (by size_fits);unfold raiseNew;refine MQ (wpAny_handled ?_);rw [show A.in1.handled=none from hh];refine MQ (NF (wpAny_throw ?_));refine MQ (wpAny_isInstance (T:="StopIteration") (b:=true) ⟨_,NQ _ rfl,rfl⟩ isSubtype_stop ?_);refine NF (hQ _ ?_);exact (((k1.trans (Heap.SameBut.update ..)).extBut.push _).push _)
end
theorem rh:entryFor table "set_iterator.__iter__"=some Builtin.«dict_keyiterator.__iter__»:=
 entryFor_alias (id':="dict_keyiterator.__iter__") (by kernel_rfl) rfl (by decide +kernel) (by kernel_rfl)
theorem ut (a:Value):argsOk "set_iterator.__iter__" ⟨[a],[]⟩:=by unfold argsOk; kernel_rfl
theorem StrEnts.strs:∀ {es:List (Int×Value)} {L:List Str},StrEnts w es L->PyProof.Rows.StrsAre (es.map (·.2)) L
 | _,_,.nil=>.nil
 | _,_,.cons x t r=>.cons x t r.strs
variable {Q:Value->Shared->Prop}
section
variable {prog:Program} {E:Value->Shared->Prop}
theorem mw (hI:s.heap.get? I=some (jH a n ep f i)) (h:Q (.ref I) s):wpAny (model prog w) A (pyIter (.ref I)) Q E s:=by
 have hT:s.TypeIs (.ref I) "set_iterator":=⟨_,hI,rfl⟩
 refine wpAny_pyIter_slot hT ly (wpAny_call_entry ly hT rh ?_ (ut _));show wpAny _ _ (ret (.ref I)) _ _ s;exact NF ⟨_,rfl,"set_iterator",_,hT,bf.lookup,h⟩
theorem HB (hb:A1 w=true) (hne:a≠I) (hd:o.data=.set es ep t) (hf:t.fits es.size=true) (hh:A.handled=none) :
   Walks prog w A I [I,a] [I] es.size (λi v=>((pickOrder (w.params.setOrder a ep) es).toList.map (·.2))[i]?=some v) (λi h=>h.get? I=some (jH a es.size ep (rawInt (0:Nat)) i)/\h.get? a=some o) where
 sub:=λb hb=>by simp at hb; simp [hb]
 frame:=λ_ _ _ st hk=>⟨hk I (by simp) _ st.1,hk a (by simp) _ st.2⟩
 item:=λi s Q E hi st hQ=>by
   have hsz:(pickOrder (w.params.setOrder a ep) es).size=es.size:=by rw [<- NT,(j0 _ es).length_eq,NT]
   have hlt:i < (pickOrder (w.params.setOrder a ep) es).size:=by rw [hsz]; exact hi
   refine GX (x:=(pickOrder (w.params.setOrder a ep) es)[i].2) (nx:=0) st.1 st.2 hd hf rfl (λq=>rQ hb st.2 hd hf (by rw [PO hlt]; exact q)) λh' e' k'=>?_;exact hQ _ h' s.toks (by simp [hlt]) ⟨e',k'.extBut a _ hne st.2⟩ λb o hb e=>k'.extBut b o (λq=>hb (by simp [q])) e
 done:=λs Q E st hQ=>by
   have hsz:(pickOrder (w.params.setOrder a ep) es).size=es.size:=by rw [<- NT,(j0 _ es).length_eq,NT]
   refine Lw hh st.1 st.2 hd hf rfl (λq=>rQ hb st.2 hd hf (by rw [PD (OH hsz)]; exact q)) λh' e'=>?_;exact hQ h' s.toks λb o hb e=>e' b o (λq=>hb (by simp [q])) e
 self:=λ_ _ _ _ st hQ=>mw st.1 hQ
noncomputable def vZ (es:Array (Int×Value)) (k:Nat):Int×Value:=(es[k]?).getD (0,.none)
theorem vY (es:Array (Int×Value)):(List.range es.size).map (vZ es)=es.toList:=by
 refine P8 λi=>?_;rw [Om];by_cases h:i < es.size
 . rw [NC (by simpa using h)]; simp [vZ,h]
 . rw [OS (by simpa using h),OS (by simpa using h)]; rfl
theorem HD {ys:List Nat} (hys:ys.Perm (List.range es.size)) (hne:a≠I) (hnt:tp≠I) (hd:o.data=.set es ep t) (hf:t.fits es.size=true) (hdt:ot.data=.seq (ys.map λ(k:Nat)=>rawInt (k:Int)).toArray) (hh:A.handled=none) :
   Walks prog w A I [I,a,tp] [I] es.size (λi v=>((ys.map (vZ es)).map (·.2))[i]?=some v) (λi h=>h.get? I=some (jH a es.size ep (.ref tp) i)/\h.get? a=some o/\h.get? tp=some ot) where
 sub:=λb hb=>by simp at hb; simp [hb]
 frame:=λ_ _ _ st hk=>⟨hk I (by simp) _ st.1,hk a (by simp) _ st.2.1,hk tp (by simp) _ st.2.2⟩
 item:=λi s Q E hi st hQ=>by
   have hl:ys.length=es.size:=by rw [hys.length_eq,O2]
   have hlt:i < ys.length:=by rw [hl]; exact hi
   have hm:ys[i] < es.size:=O4.mp (hys.mem_iff.mp (Pq hlt));refine KQ (pl:=ys[i]) (h0:=(es[ys[i]]).1) (x:=(es[ys[i]]).2) st.1 st.2.1 hd hf rfl st.2.2 hdt (by simp [hlt]) (by simp [hm]) λh' e' k'=>?_;exact hQ _ h' s.toks (by simp [hlt,vZ,hm]) ⟨e',k'.extBut a _ hne st.2.1,k'.extBut tp _ hnt st.2.2⟩ λb o hb e=>k'.extBut b o (λq=>hb (by simp [q])) e
 done:=λs Q E st hQ=>by
   have hl:ys.length=es.size:=by rw [hys.length_eq,O2]
   refine Mn hh st.1 st.2.1 hd hf rfl st.2.2 hdt (by simp [hl]) λh' e'=>?_;exact hQ h' s.toks λb o hb e=>e' b o (λq=>hb (by simp [q])) e
 self:=λ_ _ _ _ st hQ=>mw st.1 hQ
theorem sJ (j sl:Nat):SetTable.below #[j] sl=if j < sl then 1 else 0:=by show SetTable.below.go #[j] sl 1 0 1=_;exact (show SetTable.below.go #[j] sl 1 0 1=(if (0:Nat) < 1 then (if j < sl then 1 else 0) else 0) from rfl).trans (if_pos (by decide))
theorem HC (hb:A1 w=false) (hled:t.led=true) (h1:es.size<=1) (hne:a≠I) (hd:o.data=.set es ep t) (hf:t.fits es.size=true) (hh:A.handled=none) :
   Walks prog w A I [I,a] [I] es.size (λi v=>(es.toList.map (·.2))[i]?=some v) (λi h=>h.get? I=some (jH a es.size ep (rawInt ((if i=0 then 0 else (t.place[0]?).getD 0+1:Nat):Int)) i)/\h.get? a=some o) where
 sub:=λb hb=>by simp at hb; simp [hb]
 frame:=λ_ _ _ st hk=>⟨hk I (by simp) _ st.1,hk a (by simp) _ st.2⟩
 item:=λi s Q E hi st hQ=>by
   have hi0:i=0:=Qu.mp (OF hi h1);subst hi0;have hs1:es.size=1:=Pv h1 hi;have hps:t.place.size=1:=by simp only [SetTable.fits,NO,beq_iff_eq] at hf;exact hf.1.trans hs1
   obtain ⟨j,hj⟩:∃ j,t.place=#[j]:=QL.mp hps;refine GX (sl:=0) (x:=es[0].2) (nx:=j+1) st.1 st.2 hd hf rfl (λq=>rR hb hled h1 st.2 hd hf (by rw [hj,sJ,if_neg (Nat.not_lt_zero _)]; simpa [hs1] using q)) λh' e' k'=>?_;exact hQ _ h' s.toks (by simp [hs1]) ⟨by simpa [hj] using e',k'.extBut a _ hne st.2⟩ λb o hb e=>k'.extBut b o (λq=>hb (by simp [q])) e
 done:=λs Q E st hQ=>by
   refine Lw (sl:=if es.size=0 then 0 else (t.place[0]?).getD 0+1) hh st.1 st.2 hd hf rfl (λq=>rR hb hled h1 st.2 hd hf ?_) λh' e'=>?_
   . have hps:t.place.size=es.size:=by simp only [SetTable.fits,NO,beq_iff_eq] at hf;exact hf.1
     have hn:es[SetTable.below t.place (if es.size=0 then 0 else (t.place[0]?).getD 0+1)]?=none:=by
       by_cases h0:es.size=0
       . exact PD (by rw [h0]; exact N3 _)
       . obtain ⟨j,hj⟩:∃ j,t.place=#[j]:=QL.mp (hps.trans (Pv h1 (Nat.pos_of_ne_zero h0)));rw [if_neg h0,hj];show es[SetTable.below #[j] (j+1)]?=none;rw [sJ,if_pos (PR _)];exact PD h1
     rw [hn]; exact q
   . exact hQ h' s.toks λb o hb e=>e' b o (λq=>hb (by simp [q])) e
 self:=λ_ _ _ _ st hQ=>mw st.1 hQ
end
variable {fp:List Addr} {its:List Value}
section
variable {prog:Program} {E:Value->Shared->Prop}
noncomputable def LM (prog:Program) (w:World) (I:Addr) (its:List Value) (h:Heap) (P:Addr->Prop):Prop:=X2 λ(fp:List Addr) (St:Nat->Heap->Prop)=>A4 ((∀ A':Around,A'.handled=none->Walks prog w A' I fp [I] its.length (λi v=>its[i]?=some v) St)) (St 0 h) ((∀ b∈fp,P b)) (I∈fp)
theorem tV {St:Nat->Heap->Prop} (hl:its.length=n) (W:∀ A':Around,A'.handled=none->Walks prog w A' I fp [I] n (λi v=>its[i]?=some v) St) {P:Addr->Prop} (h0:St 0 h) (h1:∀ b∈fp,P b) (h2:I∈fp):LM prog w I its h P:=⟨fp,St,λA' hA'=>hl ▸ W A' hA',h0,h1,h2⟩
set_option tactic.hygienic true in
theorem CJ {a:Addr} (hS:cr w s.heap a L)
   (h:∀ (I:Addr) (h':Heap) (d:Drawn) (its:List Value) (L':List Str),PyProof.Rows.StrsAre its L'->L'.Perm L->LM prog w I its h' (λb=>b=a\/s.heap.objs.size<=b)->(∀ b o,s.heap.get? b=some o->h'.get? b=some o)->s.heap.objs.size<=I->Q (.ref I) { s with heap:=h',drawn:=d }) :
   wpAny (model prog w) A (pyIter (.ref a)) Q E s:=by
 obtain ⟨o,es,ep,t,ho,hex,hd,hel,hb,hf,hled,hpl⟩:=id hS;have hsz:es.size=L.length:=by rw [<- NT]; exact hel.length
 have hT:s.TypeIs (.ref a) "set":=⟨o,ho,hex.1⟩
 have hla:a < s.heap.objs.size:=Os ho;refine wpAny_pyIter_slot hT F.slot_set_iter (wpAny_call_entry F.slot_set_iter hT ub ?_ (F.args_set_iter_1 _));unfold Builtin.«frozenset.__iter__» Builtin.Frozenset.slot0 slotArgs;simp only [List.isEmpty_nil,PK,PX,↓reduceIte,bind_assoc,OY,bne_self_eq_false];unfold Builtin.Frozenset.addrOf Builtin.Frozenset.sizeOf;refine MQ (NF ?_)
 try dsimp only
 refine MQ (NF ?_);refine MQ (MQ (wpAny_setEntries_of ho hd hf (NF ?_)));unfold setDrawn setsByText;refine MQ (MQ (wpAny_setState_of ho hd hf ?_));dsimp only;refine MQ (MQ (wpAny_askSetting (NF ?_)));dsimp only;refine NF ?_;have fin:∀ {I:Addr} {s':Shared} {n':Nat} {f:Value} {i:Nat},s'.heap.get? I=some (jH a n' ep f i)->s'.TypeIs (.ref I) "set_iterator":=λe=>⟨_,e,rfl⟩;have lt2:∀ (h0:Heap) (ob:Obj),h0.objs.size < (h0.push ob).objs.size:=λh0 ob=>by rw [PB]; exact PR _
 split
 . rename_i hdr;have hdr:(!A1 w&&(!t.plain&&decide (es.size > 1)))=true:=hdr;refine MQ (wb es.size (List.range es.size) s (by simp) λys d hys=>?_);have hyl:ys.length=es.size:=by rw [hys.length_eq,O2]
   unfold newTuple;refine MQ (Og ?_ (by show (ys.map λ(i:Nat)=>rawInt (i:Int)).length<=sizeLine;rw [Ng,hyl]; exact fits_of_scanBound (by rw [hsz]; exact hb)))
   refine MQ (wpAny_setEpoch_of (NG _ ho) hd hf ?_);unfold newFields;refine MQ (Og ?_);refine NF ⟨_,rfl,"set_iterator",_,⟨_,NQ _ rfl,rfl⟩,bf.lookup,?_⟩;have hp:(ys.map (vZ es)).Perm es.toList:=by rw [<- vY]; exact hys.map _
   obtain ⟨L',hL',pL'⟩:=hel.perm hp;have W:=λ(A':Around) (hA':A'.handled=none)=>HD (prog:=prog) (w:=w) (A:=A') (I:=(s.heap.push { cls:=.type "tuple",data:=.seq (ys.map λ(i:Nat)=>rawInt (i:Int)).toArray }).objs.size) (a:=a) (tp:=s.heap.objs.size) (o:=o) (ot:={ cls:=.type "tuple",data:=.seq (ys.map λ(i:Nat)=>rawInt (i:Int)).toArray }) hys (OI (QM hla (lt2 _ _))) (OI (lt2 _ _)) hd hf rfl hA';refine h _ _ d _ L' hL'.strs pL' (tV (by rw [Ng,Ng,hyl]) W ?_ ?_ ?_) (λb o e=>NG _ (NG _ e)) (OU (lt2 _ _))
   . exact ⟨NQ _ rfl,NG _ (NG _ ho),NG _ (NQ _ rfl)⟩
   . intro b hb;simp only [NN,Oy,or_false] at hb;rcases hb with rfl | rfl | rfl
     . exact .inr (OU (lt2 _ _))
     . exact .inl rfl
     . exact .inr (Of _)
   . exact NE ..
 . rename_i hdr;have hdr:¬ (!A1 w&&(!t.plain&&decide (es.size > 1)))=true:=hdr;refine MQ (NF ?_);refine MQ (wpAny_setEpoch_of ho hd hf ?_);unfold newFields;refine MQ (Og ?_);refine NF ⟨_,rfl,"set_iterator",_,⟨_,NQ _ rfl,rfl⟩,bf.lookup,?_⟩;cases hbt:A1 w with
   | true=>
     obtain ⟨L',hL',pL'⟩:=hel.perm (j0 (w.params.setOrder a ep) es);have W:=λ(A':Around) (hA':A'.handled=none)=>HB (prog:=prog) (w:=w) (A:=A') (I:=s.heap.objs.size) (a:=a) (o:=o) hbt (OI hla) hd hf hA';refine h _ _ s.drawn _ L' hL'.strs pL' (tV (by rw [Ng,(j0 _ es).length_eq,NT]) W ?_ ?_ ?_) (λb o e=>NG _ e) (Of _)
     . exact ⟨NQ _ rfl,NG _ ho⟩
     . intro b hb;simp only [NN,Oy,or_false] at hb;rcases hb with rfl | rfl
       . exact .inr (Of _)
       . exact .inl rfl
     . exact NE ..
   | false=>
     have h1:es.size<=1:=by
       rcases QN 1 es.size with q | q
       . have hp:t.plain=false:=hpl (λe=>by rw [hsz,e] at q; simp at q);rw [hbt,hp,decide_eq_true q] at hdr; exact absurd rfl hdr
       . exact q
     have W:=λ(A':Around) (hA':A'.handled=none)=>HC (prog:=prog) (w:=w) (A:=A') (I:=s.heap.objs.size) (a:=a) (o:=o) hbt (by rw [hled,hbt]; rfl) h1 (OI hla) hd hf hA';refine h _ _ s.drawn _ L hel.strs (.refl _) (tV (by rw [Ng,NT]) W ?_ ?_ ?_) (λb o e=>NG _ e) (Of _)
     . exact ⟨NQ _ rfl,NG _ ho⟩
     . clear W;clear h;intro b hb;simp only [NN,Oy,or_false] at hb;rcases hb with rfl | rfl
       . exact .inr (Of _)
       . exact .inl rfl
     . exact NE ..
theorem oS:typeLookup (.type "set") (Str.ofString "__len__")=pure (some (.builtin "set.__len__")):=F.slot_set_len.lookup
theorem wi {Q:List Value->Shared->Prop} (hh:A.handled=none) (hS:cr w s.heap a L)
   (h:∀ (h':Heap) (d:Drawn) (tk:Nat) (its:List Value) (L':List Str),PyProof.Rows.StrsAre its L'->L'.Perm L->(∀ b o,s.heap.get? b=some o->h'.get? b=some o)->s.heap.objs.size<=h'.objs.size->Q its { s with heap:=h',drawn:=d,toks:=tk }) :
   wpAny (model prog w) A (collect (.ref a)) Q E s:=by
 obtain ⟨o,es,ep,t,ho,hex,hd,hel,hb,hf,hled,hpl⟩:=id hS;have hla:a < s.heap.objs.size:=Os ho;have hSI:s.heap.objs.size≠a:=Qa hla;unfold collect;refine MQ (wpAny_runValue (codeAny_builtin F.entry_proto_collect ?_));rw [Around.under_plainId F.plain_proto_collect _];show wpAny _ A.in1 (newList [] >>= λl=>again (.builtin "list.__iadd__" ⟨[l,.ref a],[]⟩)) _ _ s;refine MQ (Og ?_);refine NF ⟨plainId_quiet F.plain_list_iadd _,codeAny_builtin F.entry_list_iadd ?_⟩;rw [Around.under_plainId F.plain_list_iadd _];have K6:(s.heap.push { cls:=.type "list",data:=.seq ([]:List Value).toArray }).get? s.heap.objs.size=some { cls:=.type "list",data:=.seq ([]:List Value).toArray }:=NQ _ rfl;have hSS:cr w (s.heap.push { cls:=.type "list",data:=.seq ([]:List Value).toArray }) a L:=hS.keep λo e=>NG _ e;have hT:Shared.TypeIs { s with heap:=s.heap.push { cls:=.type "list",data:=.seq ([]:List Value).toArray } } (.ref a) "set":=⟨o,NG _ ho,hex.1⟩
 show wpAny _ A.in1 (Builtin.List.listExtendWith (.ref s.heap.objs.size) (.ref a) (.ref s.heap.objs.size)) _ _ _;unfold Builtin.List.listExtendWith;refine MQ (wpAny_typeOf hT ?_);have h1:Builtin.List.listSameRef (.ref s.heap.objs.size) (.ref a)=false:=by simp [Builtin.List.listSameRef,hSI]
 have h2:(Value.type "set"==Value.type "list")=false:=by decide
 have h3:(Value.type "set"==Value.type "tuple")=false:=by decide
 rw [h1,h2,h3,Pb,Pb,if_neg NY];refine MQ (CJ (prog:=prog) hSS λI h' d its L' hits pL hgo hk hI=>?_);have hT':Shared.TypeIs { s with heap:=h',drawn:=d } (.ref a) "set":=⟨o,hk a o (NG _ ho),hex.1⟩
 refine MQ (OG ?_);unfold Builtin.List.listLengthHint;refine MQ (wpAny_specialOf hT' oS ?_)
 (generalize hid:("set.__len__":String)=id0; (fail_if_success (clear hid id0)); wp_delta; rw [show splitId id0=some ("set","__len__") from by subst hid; decide +kernel]; subst hid)
 refine MQ (wpAny_isInstance (b:=true) hT' sub_set_self ?_);show wpAny _ A.in1 (typeOf (.ref a) >>= _) _ _ _;refine MQ (wpAny_typeOf hT' ?_);refine NF ?_;show wpAny _ A.in1 (rule "list.extend.makes-room" >>= λ_=>Builtin.List.listTouch (.ref s.heap.objs.size) >>= λ_=>again (.builtin "list.extend.loop" ⟨[.ref s.heap.objs.size,.ref I,.ref s.heap.objs.size],[]⟩)) _ _ _
 refine MQ (wpAny_rule ?_);obtain ⟨fp,St,W,hst,hfp,hIf⟩:=hgo;have hS1:=hk _ _ K6;refine MQ ?_;show wpAny _ A.in1 (updateSeq s.heap.objs.size (·.push .none) >>= λ_=>updateSeq s.heap.objs.size (·.pop)) _ _ _;refine MQ (wpAny_updateSeq hS1 rfl ?_);have G6:=OL (Obj.mapSeq (·.push Value.none)) hS1 rfl;refine wpAny_updateSeq G6 rfl ?_;have K5:=OL (Obj.mapSeq (·.pop)) G6 rfl;have hSf:s.heap.objs.size∉fp:=λq=>by
   rcases hfp _ q with e | e
   . exact hSI e
   . rw [PB] at e; exact Pa _ e
 have oth:∀ b o,b≠s.heap.objs.size->h'.get? b=some o->((h'.update s.heap.objs.size (Obj.mapSeq (·.push Value.none))).update s.heap.objs.size (Obj.mapSeq (·.pop))).get? b=some o:=
   λb o hb e=>(OP _ _ (Ne.symm hb)).trans ((OP _ _ (Ne.symm hb)).trans e)
 have WS:=(W A.in1 hh).toS;have hlen:its.length=L.length:=by
   have:∀ {vs:List Value} {ss:List Str},PyProof.Rows.StrsAre vs ss->vs.length=ss.length:=λq=>by
     induction q with
     | nil=>rfl
     | cons _ _ _ ih=>exact congrArg (·+1) ih
   rw [this hits,pL.length_eq]
 refine NF ⟨plainId_quiet F.plain_extend_loop _,codeAny_extend_loopS WS (by rw [hlen]; exact fits_of_scanBound hb) _ hSf _ its.length 0 _ _ _ rfl (N3 _)
   (WS.frame 0 { s with heap:=h',drawn:=d } _ s.toks hst (Of _) λb hb o e=>oth b o (λq=>hSf (q ▸ hb)) e) K5 (ItemsOf.nil _) λs' acc' c' hm hS' hacc=>?_⟩
 show wpAny _ A (load s.heap.objs.size >>= _) _ _ s';refine MQ (wpAny_load hS' ?_);have hacc':acc'.toList=its:=by
   refine P8 λi=>?_;by_cases hi:i < its.length
   . have:i < acc'.size:=by rw [hacc.1]; exact hi
     have:=hacc.2 i acc'[i] (by simp [this]);rw [this]; simp
   . rw [OS (by rw [NT,hacc.1]; omega),OS (by omega)]
 have es:s'={ s with heap:=s'.heap,drawn:=d,toks:=s'.toks }:=by have g1:=hm.gens;have g2:=hm.drawn;have g3:=hm.os;obtain ⟨h5,g5,d5,t5,o5⟩:=s';simp only at g1 g2 g3;subst g1; subst g2; subst g3; rfl
 rw [es];refine NF ?_;rw [hacc'];refine h s'.heap d s'.toks its L' hits pL (λb o e=>?_) ?_
 . have hbl:b < s.heap.objs.size:=Os e;have hbs:b≠s.heap.objs.size:=OI hbl;refine hm.heap b o (λq=>?_) (oth b o hbs (hk b o (NG _ e)));rcases NN.mp q with q | q
   . exact hbs q
   . have hbI:b=I:=NL.mp q;have h9:s.heap.objs.size+1<=I:=by have:=hI;rw [PB] at this;exact this
     exact absurd (hbI ▸ hbl) (Qv.mpr (O3 h9))
 . exact OU (Os hS')
theorem wQ (hh:A.handled=none) (hS:cr w s.heap a L) (h64:L.length < 64)
   (h:∀ (h':Heap) (d:Drawn) (tk:Nat) (r:Addr) (out:Array Value) (e:Nat) (ss':List Str),s.heap.objs.size<=r->h'.get? r=some (dj out e)->PyProof.Rows.StrsAre out.toList ss'->ss'.Perm L->PyProof.Rows.sortedS ss'=true->(∀ b o,s.heap.get? b=some o->h'.get? b=some o)->Q (.ref r) { s with heap:=h',drawn:=d,toks:=tk }) :
   wpAny (model prog w) A (call (.builtin "sorted") [.ref a]) Q E s:=by
 refine Calls.call_function_entry PyProof.Rows.kind_sorted PyProof.Rows.plain_sorted PyProof.Rows.entry_sorted (PyProof.Rows.args_sorted1 _) ?_;unfold Builtin.«sorted»;refine MQ (m:=checkCount "sorted" 1 1 _) (NF ?_);refine MQ (wi (prog:=prog) (A:=A.in1) hh hS λh' d tk its L' hits pL hk hsz=>?_);have hlen:its.length < 64:=by
   have:∀ {vs:List Value} {ss:List Str},PyProof.Rows.StrsAre vs ss->vs.length=ss.length:=λq=>by
     induction q with
     | nil=>rfl
     | cons _ _ _ ih=>exact congrArg (·+1) ih
   rw [this hits,pL.length_eq]; exact h64
 refine MQ (wpAny_newList ?_);have hoL:(h'.push (PyProof.Rows.seqObj "list" its.toArray 0)).get? h'.objs.size=some (PyProof.Rows.seqObj "list" its.toArray 0):=NQ _ rfl;refine MQ (OG (wpAny_call_entry PyProof.Rows.slot_list_sort ⟨_,hoL,rfl⟩ PyProof.Rows.entry_list_sort (PyProof.Rows.list_sort_treeK PyProof.Rows.strKind_oneLt hoL hits.keysOf (λNg Nf rest e=>PyProof.Rows.keyKind_strs (by rw [<- e]; exact hits)) hlen λst' a1 a2=>⟨_,rfl,?_⟩) (PyProof.Rows.args_list_sort _)));refine kk λK k=>?_;obtain ⟨ss',q1,q2,q3⟩:=PyProof.Rows.sorted_out_str hits a1 a2;obtain ⟨e',he'⟩:=PyProof.Rows.sortedHeap_at (out:=(PyProof.Rows.arrOf st').map (·.2)) hoL;refine k ?_;refine NF ⟨_,rfl,h _ d tk _ _ e' ss' hsz he' q1 (q2.trans pL) q3 λb o e=>?_⟩;have e2:=hk b o e;have hlt:b < h'.objs.size:=Os e2;rw [PyProof.Rows.sortedHeap_old (OI hlt) (by rw [PB]; exact Nat.lt_succ_of_lt hlt)];exact NG _ e2
end
variable {l:List PyData}
theorem Fw {c:V} (I:Inv Z β σ s.heap) (hl:l.length<=LIM) (hc:aU m l σ=.ok c σ')
   (q:X3 λa vs n=>A7 (v=.ref a) (s.heap.get? a=none) (s'.heap.get? a=some (dj vs n)) ((∀ b o,s.heap.get? b=some o->s'.heap.get? b=some o)) (s'.gens=s.gens) (s'.os=s.os) (RelAll (TT β σ) s.heap vs.toList l)) :
   Po Z O β σ s σ' s' λβ'=>VR v c β' σ' s'.heap:=by
 obtain ⟨a,vs,n,rfl,hf,e,hk,hg,ho,r⟩:=q;unfold aU at hc;cases m with
 | true=>cases hc;have N:=tG (O:=O) (c:=.lst l) I hk hf hg ho ⟨vs,n,e,r,hl⟩;exact ⟨_,N.1,N.2,a,by rw [<- I.len]; simp,rfl⟩
 | false=>cases hc;exact ⟨β,Step.grow hk hg ho,I.grow hk,.list e (I.notTT hf) hl (r.mono λx o _ _ e _ t=>⟨hk x o e,t⟩)⟩
theorem qo (y:Str) (l:List Str):cH (y::l)=if y∈l then cH l else y::cH l:=rfl
theorem bj:∀ {l:List Str},x∈cH l↔x∈l
 | []=>Iff.rfl
 | y::l=>by
   rw [qo];by_cases h:y∈l
   . rw [if_pos h,bj,NN];exact ⟨.inr,λq=>q.elim (λe=>e ▸ h) id⟩
   . rw [if_neg h,NN,NN,bj]
theorem ch:∀ l:List Str,(cH l).Nodup
 | []=>PN
 | y::l=>by
   rw [qo];by_cases h:y∈l
   . rw [if_pos h]; exact ch l
   . rw [if_neg h];exact O5.mpr ⟨λq=>h (bj.mp q),ch l⟩
theorem nJ {vs:List Value} {c:V} (I:Inv Z β σ s.heap) (hh:A.handled=none) (rx:VRels β σ s.heap vs xs) (hc:zE .sortedSet m xs σ=.ok c σ') :
   wpAny (model Z.prog Z.w) A (call (.type "set") vs) (λt ai=>wpAny (model Z.prog Z.w) A (call (.builtin "sorted") [t]) (λv s''=>Po Z O β σ s σ' s'' λβ''=>VR v c β'' σ' s''.heap) (λ_ _=>False) ai) (λ_ _=>False) s:=by
 obtain ⟨x,hx,hc⟩:=ik hc;replace hx:=da hx; subst hx;obtain ⟨ss,hl,hc⟩:=ik hc;replace hc:=y8 hc; obtain ⟨hlim,hc⟩:=hc;cases rx with
 | cons r rs=>
   refine kk λK k=>?_;cases rs;obtain ⟨l,hl,hs⟩:=NJ.mp hl;refine k ?_;apply (a6 I hl r).el; intro a ws n e q z;obtain ⟨S,rfl⟩:=kU q hs;have hlen:ws.toList.length=ss.length:=by have:=q.length; rw [Ng] at this; exact this
   refine x9 (vs:=ws.toList) hh ⟨_,e,rfl,_,rfl⟩ S hlen (by have:=hlim.1; omega) λh' tk L' hk hS hnd hm=>?_;have pL:L'.Perm (cH ss):=(List.perm_ext_iff_of_nodup hnd (ch ss)).mpr λy=>by rw [hm,bj]
   refine wQ hh hS (by rw [pL.length_eq]; exact hlim.2) λh'' d tk' r' out e' ss' hr he hss hp hso hk'=>?_;have:=gS hp hso;subst this;have hse:cV L'=cV (cH ss):=gS ((ci L').trans pL) hso;refine Fw I (by have:=(ci (cH ss)).length_eq; simp [this,LIM]; omega) hc ⟨r',out,e',rfl,fm ?_,he,λb o q=>hk' b o (hk b o q),rfl,rfl,?_⟩
   . obtain ⟨o,_,_,_,ho,_⟩:=hS;have h1:s.heap.objs.size < h'.objs.size:=Os ho;have hr:h'.objs.size<=r':=hr;exact iv (OU h1) hr
   . rw [<- hse];exact o3 hss λx hx=>sk q x (bj.mp (pL.mem_iff.mp ((ci L').mem_iff.mp hx)))
variable {it:Addr}
section
variable {prog:Program} {E:Value->Shared->Prop}
theorem Fq {t:Addr} {x:Value} (hit:s.heap.IsTupleIter it t i) (ht:s.heap.IsTuple t items) (hx:items[i]?=some x)
   (hQ:∀ h',h'.IsTupleIter it t (i+1)->Heap.SameBut it s.heap h'->Q x { s with heap:=h' }):wpAny (model prog w) A (Builtin.SmallTypes.nextOf (.ref it)) Q E s:=by
 obtain ⟨o,ho,hc,hd⟩:=id hit;obtain ⟨ol,hol,_,nl,hdl⟩:=ht;unfold Builtin.SmallTypes.nextOf;refine MQ (wpAny_callSpecial?_slot (name:=Str.ofString "__next__") hit.typeIs F.slot_tuple_iterator_next (wpAny_call_entry F.slot_tuple_iterator_next hit.typeIs F.entry_tuple_iterator_next ?_ (F.args_tuple_iterator_next_1 _)));show wpAny _ _ (field (.ref it) 0 >>= _) _ _ s;refine MQ (wpAny_field ho hd (x:=.ref t) rfl ?_);show wpAny _ _ (if (Value.ref t==Value.none)=true then _ else _) _ _ s;rw [if_neg (show ¬ ((Value.ref t==Value.none)=true) from NY)];show wpAny _ _ (field (.ref it) 1 >>= _) _ _ s;refine MQ (wpAny_field ho hd (x:=.int i 0) rfl ?_);show wpAny _ _ (seqItems? (.ref t) >>= _) _ _ s;refine MQ (wpAny_seqItems hol hdl ?_);simp only [Oh,hx];refine MQ (wpAny_setField ho hd (by simp) (NF ⟨x,rfl,NF (hQ _ ?_ (Heap.SameBut.update ..))⟩));exact ⟨_,OL _ ho (Obj.isFreed_of_fields (Obj.data_mapFields hd _)),(Obj.cls_mapFields ..).trans hc,by rw [Obj.data_mapFields hd]; simp [rawInt]⟩
theorem xj {t:Addr} (hh:A.handled=none) (hit:s.heap.IsTupleIter it t i) (ht:s.heap.IsTuple t items) (hx:items[i]?=none)
   (hE:∀ h' e,Heap.ExtBut it s.heap h'->(∃ o,h'.get? e=some o/\o.cls=.type "StopIteration")->E (.ref e) { s with heap:=h' }):wpAny (model prog w) A (Builtin.SmallTypes.nextOf (.ref it)) Q E s:=by
 obtain ⟨o,ho,hc,hd⟩:=id hit;obtain ⟨ol,hol,_,nl,hdl⟩:=ht;unfold Builtin.SmallTypes.nextOf;refine MQ (wpAny_callSpecial?_slot (name:=Str.ofString "__next__") hit.typeIs F.slot_tuple_iterator_next (wpAny_call_entry F.slot_tuple_iterator_next hit.typeIs F.entry_tuple_iterator_next ?_ (F.args_tuple_iterator_next_1 _)));show wpAny _ _ (field (.ref it) 0 >>= _) _ _ s;refine MQ (wpAny_field ho hd (x:=.ref t) rfl ?_);show wpAny _ _ (if (Value.ref t==Value.none)=true then _ else _) _ _ s;rw [if_neg (show ¬ ((Value.ref t==Value.none)=true) from NY)];show wpAny _ _ (field (.ref it) 1 >>= _) _ _ s;refine MQ (wpAny_field ho hd (x:=.int i 0) rfl ?_);show wpAny _ _ (seqItems? (.ref t) >>= _) _ _ s;refine MQ (wpAny_seqItems hol hdl ?_);simp only [Oh,hx];refine MQ (wpAny_rule (MQ (wpAny_setField ho hd (by simp) ?_)));show wpAny _ _ (newExc (.type "StopIteration") [] >>= _) _ _ _;refine MQ ?_;unfold newExc newTuple;refine MQ (Og ?_ (by size_fits));refine MQ (m:=firstArgMember _ _) (wpAny_of_eq (a:=Value.none) (by first | rfl | (simp only [firstArgMember]; rfl)) ?_);refine Og ?_ (by size_fits);unfold raiseNew;refine MQ (wpAny_handled ?_)
 first | rw [show A.in1.handled=none from hh] | rw [hh]
 refine MQ (NF (wpAny_throw ?_));exact hE _ _ (((Heap.SameBut.update ..).extBut.push _).push _) ⟨_,NQ _ rfl,rfl⟩
theorem DF (hh:A.handled=none) (it l:Addr) (hne:l≠it) (items:Array Value) :
   Draws prog w A it [it,l] items.size (λi x=>items[i]?=some x) (λi h=>h.IsTupleIter it l i/\h.IsTuple l items) where
 live:=λi h ⟨⟨o,e,_⟩,_⟩=>⟨o,e⟩
 frame:=λi h h' ⟨⟨o,e,r⟩,⟨o',e',r'⟩⟩ hk=>⟨⟨o,hk it (by simp) o e,r⟩,⟨o',hk l (by simp) o' e',r'⟩⟩
 item:=λi s Q E hi ⟨a,b⟩ hQ=>Fq a b (PO hi) λh' a' k=>hQ _ h' s.toks (PO hi) ⟨a',b.extBut k.extBut hne⟩ k
 done:=λs Q E ⟨a,b⟩ hE=>xj hh a b (PD (Of _)) hE
theorem zO {cls:Value} {Q:Bool->Shared->Prop} {E:Value->Shared->Prop} (h:∀ b,Q b s):wpAny M A (Builtin.SmallTypes.calledThroughType cls) Q E s:=
 MQ (wpAny_stack_any λ_=>NF (h _))
set_option maxRecDepth 100000 in
theorem vj (l:Addr) (items:Array Value) (n:Nat) :
   Meets (Builtin.«enumerate.__new__» ⟨[.type "enumerate",.ref l],[]⟩) (λ_ R s=>s.heap.get? l=some { cls:=.type "tuple",dict:=none,data:=.seq items n,slots:=#[] }/\
     R (.ok (.ret (.ref (s.heap.push { cls:=.type "tuple_iterator",data:=.fields #[.ref l,.int 0 0] }).objs.size)))
       { s with heap:=(s.heap.push { cls:=.type "tuple_iterator",data:=.fields #[.ref l,.int 0 0] }).push { cls:=.type "enumerate",data:=.fields #[.none,.bool false,.ref s.heap.objs.size,rawInt 0,.none,.none] } }):=
 .of_wp λprog w A R s h=>by
   obtain ⟨hp,g,d,tk,os⟩:=s; obtain ⟨hl,h⟩:=h;have hsub:=sub_enumerate;have hL:Heap.IsTuple (Shared.heap ⟨hp,g,d,tk,os⟩) l items:=⟨_,hl,rfl,n,rfl⟩
   wp_walk using AutoSeq1.wpAny_loadPart' hl,zO
   intro b;cases (b)
   . wp_walk using AutoSeq1.wpAny_loadPart' hl,wpAny_pyIter_tuple hL
     exact ⟨_,rfl,h⟩
   . wp_walk using AutoSeq1.wpAny_loadPart' hl,wpAny_pyIter_tuple hL
     exact ⟨_,rfl,h⟩
theorem ye {l:Addr} (hL:s.heap.get? l=some { cls:=.type "tuple",dict:=none,data:=.seq items n,slots:=#[] })
   (h:∀ h',IsEnum h' (s.heap.objs.size+1) s.heap.objs.size 0 .none->h'.get? s.heap.objs.size=some { cls:=.type "tuple_iterator",dict:=none,data:=.fields #[.ref l,.int 0 0],slots:=#[] }->
     (∀ b o,s.heap.get? b=some o->h'.get? b=some o)->Q (.ref (s.heap.objs.size+1)) { s with heap:=h' }) :
   wpAny (model prog w) A (call (.type "enumerate") [.ref l]) Q E s:=by
 refine callType_new F.called_enumerate (by decide) (F.typeCall_enumerate_1 _) (F.newCall_enumerate_1 _) (λobj=>F.args_object_init_2 obj _) F.entry_enumerate_new (vj l items n) ⟨hL,?_⟩;have hz:(s.heap.push { cls:=.type "tuple_iterator",data:=.fields #[.ref l,.int 0 0] }).objs.size=s.heap.objs.size+1:=PB ..;show _/\_;rw [hz];have he:IsEnum ((s.heap.push { cls:=.type "tuple_iterator",data:=.fields #[.ref l,.int 0 0] }).push
     { cls:=.type "enumerate",data:=.fields #[.none,.bool false,.ref s.heap.objs.size,rawInt 0,.none,.none] }) (s.heap.objs.size+1) s.heap.objs.size 0 .none:=by
   have:=NQ (s.heap.push { cls:=.type "tuple_iterator",data:=.fields #[.ref l,.int 0 0] })
     (o:={ cls:=.type "enumerate",data:=.fields #[.none,.bool false,.ref s.heap.objs.size,rawInt 0,.none,.none] }) rfl
   rw [hz] at this; exact this
 exact ⟨⟨_,he,rfl⟩,h _ he (NG _ (NQ _ rfl)) λb o x=>NG _ (NG _ x)⟩
end
variable {Ia:Addr} {vs xs:Array Value} {h'':Heap} {wr:List Addr} {shown:List PyData} {k:Nat} {P:Nat->Value->Prop} {lk:Option Nat} {p:Pos} {T:String} {E':Value->Shared->Prop}
theorem Inv.notMem (I:Inv Z β σ h) (e:h.get? a=none):a∉β:=λm=>by obtain ⟨o,q⟩:=I.ex m; rw [e] at q; cases q
theorem Step.tail (S:Step O β σ s ah aa ai) (hf:∀ a,W a->s.heap.get? a=none) (hk:∀ b o,¬ W b->ai.heap.get? b=some o->aj.heap.get? b=some o) (hg:aj.gens=ai.gens) (ho:aj.os=ai.os):Step O β σ s ah aa aj:=
 ⟨S.ext,S.mono,λx o hx hw hO=>have nW:¬ W x:=λq=>(by rw [hf x q] at hx; cases hx); (S.keepW x o hx hw hO).imp (hk x o nW) (λ⟨f,n,sl,q⟩=>⟨f,n,sl,hk x _ nW q⟩),(λx hx=>by
   by_cases q:W x
   . exact hf x q
   . cases e:ai.heap.get? x with
     | none=>exact S.alive x e
     | some o=>rw [hk x o q e] at hx; cases hx),hg.trans S.gens,ho.trans S.os⟩
theorem Inv.touch (I:Inv Z β σ h) (ha:∀ a,W a->a∉β) (h0:∀ a,W a->Z.h₀.get? a=none) (hn:∀ a,W a->¬ bB h a) (hk:∀ b o,¬ W b->h.get? b=some o->h'.get? b=some o):Inv Z β σ h':=
 ⟨I.len,I.nodup,λb o e=>hk b o (λq=>by rw [h0 b q] at e; cases e) (I.base b o e),I.fresh,λk b c h1 h2=>(I.cell k b c h1 h2).mono (λo e=>hk b o (λq=>ha b q (NI h1)) e) λx o vs n e d t=>⟨hk x o (λq=>hn x q ⟨o,vs,n,e,d⟩) e,t⟩⟩
theorem FrameOk.touch (F:FrameOk Z env ks sc ρ β σ h) (hβ:∀ a,W a->a∉β) (hz:∀ a,W a->a∉Z.fr) (ha:∀ a,W a->¬ own env a) (hn:∀ a,W a->¬ bB h a) (hk:∀ b o,¬ W b->h.get? b=some o->h'.get? b=some o):FrameOk Z env ks sc ρ β σ h':=by
 have keep:∀ b,own env b->∀ o,h.get? b=some o->h'.get? b=some o:=λb hb o e=>hk b o (λq=>ha b q hb) e;refine ⟨F.kind,F.globals,F.builtins,F.kinds,F.bound,F.inj,?_,?_,F.apart,F.cinj,F.cloc,F.frs.grow λf o hf e q=>⟨o,hk f o (λw=>hz f w hf) e,q⟩⟩
 . refine kk λK k=>?_;obtain ⟨m,⟨o,es,ep,ho,r⟩,q⟩:=F.ns;refine k ?_;exact ⟨m,⟨o,es,ep,keep _ (.inl rfl) o ho,r⟩,λx i h1 h2 v h3 h4=>let ⟨w,g1,g2⟩:=q x i h1 h2 v h3 h4; ⟨w,g1,hZ hk hn hβ g2⟩⟩
 . intro x c e;refine kk λK k=>?_;obtain ⟨ov,⟨o,ho,hd⟩,q⟩:=F.cell x c e;refine k ?_;exact ⟨ov,⟨o,keep c (.inr ⟨x,e⟩) o ho,hd⟩,λi h1 h2 v h3 h4=>let ⟨w,g1,g2⟩:=q i h1 h2 v h3 h4; ⟨w,g1,hZ hk hn hβ g2⟩⟩
noncomputable def bL (β:List Addr) (σ:ac) (h:Heap) (β':List Addr) (σ':ac) (h':Heap):Prop:=
 ∀ x o vs n,h.get? x=some o->wf o vs n->¬ TT β σ x->h'.get? x=some o/\¬ TT β' σ' x
theorem bL.refl:bL β σ h β σ h:=λ_ _ _ _ e _ t=>⟨e,t⟩
theorem bL.trans (a:bL β σ h ah aa h') (b:bL ah aa h' aL af h''):bL β σ h aL af h'':=λx o vs n e d t=>let ⟨e1,t1⟩:=a x o vs n e d t; b x o vs n e1 d t1
theorem bL.vrel (a:bL β σ h β aa h') (hg:∀ D o,D∈β->h.get? D=some o->¬ TT β σ D->h'.get? D=some o/\¬ TT β aa D) {w:Value} {v:V} (r:aw β σ h w v):aw β aa h' w v:=by
 cases v with
 | un=>exact r
 | d x=>exact Rel.mono a r
 | loc n=>exact r
 | locs ns=>obtain ⟨x,vs,n,h1,h2,h3,h4,h5⟩:=r; exact ⟨x,vs,n,h1,(a _ _ _ _ h2 (.inl rfl) h3).1,(a _ _ _ _ h2 (.inl rfl) h3).2,h4,h5⟩
 | exc _ _=>obtain ⟨e,o,vs,h1,h2,h3,h4⟩:=r; exact ⟨e,o,vs,h1,(a e o vs 0 h2 (.inr ⟨_,h3.1,.inl h3.2.1⟩) h4).1,h3,(a e o vs 0 h2 (.inr ⟨_,h3.1,.inl h3.2.1⟩) h4).2⟩
 | inst k l=>exact InstRel.mono r (λ_ _ e=>e) hg
theorem FrameOk.seq (F:FrameOk Z env ks sc ρ β σ h) (a:bL β σ h β aa h') (hg:∀ D o,D∈β->h.get? D=some o->¬ TT β σ D->h'.get? D=some o/\¬ TT β aa D) (hz:∀ b∈Z.fr,∀ o,h.get? b=some o->h'.get? b=some o) (hk:∀ b,own env b->∀ o,h.get? b=some o->h'.get? b=some o):FrameOk Z env ks sc ρ β aa h':=by
 refine ⟨F.kind,F.globals,F.builtins,F.kinds,F.bound,F.inj,?_,?_,F.apart,F.cinj,F.cloc,F.frs.grow λf o hf e q=>⟨o,hz f hf o e,q⟩⟩
 . refine kk λK k=>?_;obtain ⟨m,⟨o,es,ep,ho,r⟩,q⟩:=F.ns;refine k ?_;exact ⟨m,⟨o,es,ep,hk _ (.inl rfl) o ho,r⟩,λx i h1 h2 v h3 h4=>let ⟨w,g1,g2⟩:=q x i h1 h2 v h3 h4; ⟨w,g1,a.vrel hg g2⟩⟩
 . intro x c e;refine kk λK k=>?_;obtain ⟨ov,⟨o,ho,hd⟩,q⟩:=F.cell x c e;refine k ?_;exact ⟨ov,⟨o,hk c (.inr ⟨x,e⟩) o ho,hd⟩,λi h1 h2 v h3 h4=>let ⟨w,g1,g2⟩:=q i h1 h2 v h3 h4; ⟨w,g1,a.vrel hg g2⟩⟩
theorem Inv.touchBusy (I:Inv Z β σ h) (hb:β[n]?=some a) (hn:σ[n]?=some .busy) (hk:∀ b o,b≠a->h.get? b=some o->h'.get? b=some o) (ho:∃ o,h'.get? a=some o) :
   Inv Z β σ h'/\bL β σ h β σ h':=by
 have hT:TT β σ a:=⟨n,.busy,hb,hn,rfl⟩
 have H:bL β σ h β σ h':=λx o vs m e d t=>⟨hk x o (λq=>t (q ▸ hT)) e,t⟩;refine ⟨⟨I.len,I.nodup,λb o e=>hk b o (λq=>?_) (I.base b o e),I.fresh,λk b c h1 h2=>?_⟩,H⟩
 . have:=I.fresh a (NI hb); rw [q] at e; rw [this] at e; cases e
 . by_cases hkn:n=k
   . subst hkn;rw [hb] at h1; cases h1;rw [hn] at h2; cases h2;exact ho
   . exact (I.cell k b c h1 h2).mono (λo e=>hk b o (λq=>by subst q; exact I.addr_ne hb h1 hkn rfl) e) H
theorem qL {c:Cell} (hn:σ[n]?=some g7) (hg:g7.isGone=c.isGone) {x:Addr}:TT β (σ.set n c) x↔TT β σ x:=by
 constructor
 . rintro ⟨k,c',h1,h2,h3⟩
   by_cases hk:n=k
   . subst hk; rw [cQ hn] at h2; cases h2;exact ⟨n,g7,h1,hn,hg.trans h3⟩
   . rw [dB hk] at h2; exact ⟨k,c',h1,h2,h3⟩
 . rintro ⟨k,c',h1,h2,h3⟩
   by_cases hk:n=k
   . subst hk; rw [hn] at h2; cases h2;exact ⟨n,c,h1,cQ hn,hg ▸ h3⟩
   . exact ⟨k,c',h1,by rw [dB hk]; exact h2,h3⟩
theorem Inv.openBusy {m:Nat} (I:Inv Z β σ h) (hb:β[n]?=some a) (hn:σ[n]?=some .busy) (e:h.get? a=some (dj vs m)) (r:RelAll (TT β σ) h vs.toList l) (hl:l.length<=LIM) :
   Inv Z β (σ.set n (.lst l)) h:=by
 have tt:∀ x,TT β (σ.set n (.lst l)) x↔TT β σ x:=λx=>qL (g7:=.busy) (c:=.lst l) hn rfl;have H:∀ x o vs n',h.get? x=some o->wf o vs n'->¬ TT β σ x->h.get? x=some o/\¬ TT β (σ.set n (.lst l)) x:=λx o vs n' e d t=>⟨e,λz=>t ((tt x).mp z)⟩;refine ⟨by simp [I.len],I.nodup,I.base,I.fresh,λk b c h1 h2=>?_⟩;by_cases hkn:n=k
 . subst hkn;rw [hb] at h1; cases h1;rw [cQ hn] at h2; cases h2;exact ⟨vs,m,e,r.mono H,hl⟩
 . rw [dB hkn] at h2;exact (I.cell k b c h1 h2).mono (λo e=>e) H
noncomputable def nY (β:List Addr) (σ:ac) (h:Heap) (b:Addr):Prop:=(∃ n:Nat,β[n]?=some b/\σ[n]?=some .busy)\/(bB h b/\¬ TT β σ b)
theorem nY.keep {b:Addr} (S:Step O β σ s ah aa ai) (I:Inv Z β σ s.heap) (al:Inv Z ah aa ai.heap) (hO:∀ x,O x->x∉β/\¬ bB s.heap x) (st:nY β σ s.heap b) :
   (∀ o,s.heap.get? b=some o->ai.heap.get? b=some o)/\nY ah aa ai.heap b:=by
 rcases st with ⟨n,hb,hn⟩ | ⟨⟨o,vs,n,e,d⟩,t⟩
 . have hm:=NI hb;have hw:¬ WW β σ b:=by
     rintro ⟨k,c,h1,h2,h3⟩
     by_cases hkn:n=k
     . subst hkn; rw [hn] at h2; cases h2; cases h3
     . exact I.addr_ne hb h1 hkn rfl
   refine ⟨λo e=>(S.keepW b o e hw λz=>(hO b z).1 hm).resolve_right λq=>q.2.1 hm,.inl ⟨n,S.get hb,?_⟩⟩;have hlt:n < β.length:=(NK.mp hb).1;have CW:n < aa.length:=by rw [<- al.len]; exact (NK.mp (S.get hb)).1
   obtain ⟨c,h1,_,_,h4⟩:=S.mono n aa[n] hlt (NC CW);rw [hn] at h1; cases h1;rw [NC CW,h4 rfl]
 . have k:=S.relH (λx z=>(hO x z).2) b o vs n e d t;exact ⟨λo' e'=>by rw [e] at e'; cases e'; exact k.1,.inr ⟨⟨o,vs,n,k.1,d⟩,k.2⟩⟩
theorem nY.ex {b:Addr} (I:Inv Z β σ h) (st:nY β σ h b):∃ o,h.get? b=some o:=by
 rcases st with ⟨n,hb,hn⟩ | ⟨⟨o,vs,n,e,d⟩,t⟩
 . exact I.ex (NI hb)
 . exact ⟨o,e⟩
noncomputable def ij (n:String):Bool:=["enumerate","zip","dict_itemiterator","dict_reverseitemiterator","odict_iterator","itertools.zip_longest","itertools.pairwise"].contains n
structure Itr where
 Ia:Addr
 fp:List Addr
 wr:List Addr
 shown:List PyData
 P:Nat->Value->Heap->Heap->Prop
 St:Nat->Heap->Prop
 Mid:Nat->Value->Heap->Prop
 en:Bool
noncomputable def Kp (T:Itr) (h h':Heap):Prop:=∀ b o,b∉T.wr->h.get? b=some o->h'.get? b=some o
structure Opened (Z:Cx) (A:Around) (T:Itr) (β:List Addr) (σ:ac) (h:Heap):Prop where
 sub:∀ b∈T.wr,b∈T.fp
 frame:∀ i h h',T.St i h->(∀ b∈T.fp,∀ o,h.get? b=some o->h'.get? b=some o)->T.St i h'
 item:∀ i (s:Shared) (Q:Option Value->Shared->Prop) (E:Value->Shared->Prop),i < T.shown.length->T.St i s.heap->
   (∀ v h' tk,T.P i v s.heap h'->T.Mid i v h'->Kp T s.heap h'->Q (some v) { s with heap:=h',toks:=tk })->wpAny (model Z.prog Z.w) A (pyNext (.ref T.Ia)) Q E s
 go:∀ (elts:List Expr) (k:Nat) (pos:Pos) i v (s:Shared) (Q:Unit->Shared->Prop) (E:Value->Shared->Prop),T.Mid i v s.heap->
   (∀ h',T.St (i+1) h'->Kp T s.heap h'->Q () { s with heap:=h' })->wpAny (model Z.prog Z.w) A (letOwnedTupleGo (.Tuple elts k pos) (.ref T.Ia) v) Q E s
 skip:T.en=false->∀ i v h,T.Mid i v h->T.St (i+1) h
 done:∀ (s:Shared) (Q:Option Value->Shared->Prop) (E:Value->Shared->Prop),T.St T.shown.length s.heap->
   (∀ h' tk,Kp T s.heap h'->Q none { s with heap:=h',toks:=tk })->wpAny (model Z.prog Z.w) A (pyNext (.ref T.Ia)) Q E s
 self:∀ i (s:Shared) (Q:Value->Shared->Prop) (E:Value->Shared->Prop),T.St i s.heap->Q (.ref T.Ia) s->wpAny (model Z.prog Z.w) A (pyIter (.ref T.Ia)) Q E s
 start:T.St 0 h
 stay:∀ b∈T.fp,b∈T.wr\/nY β σ h b
 items:∀ i v hb h',i < T.shown.length->T.P i v hb h'->∀ β' σ',Inv Z β' σ' hb->bL β σ h β' σ' h'->∃ d,T.shown[i]?=some d/\Rel (TT β' σ') h' v d
 noseq:∀ i h',T.St i h'->∀ b∈T.wr,(∃ o,h'.get? b=some o/\¬ fD o)/\¬ bB h' b
 noseqM:∀ i v h',T.Mid i v h'->∀ b∈T.wr,(∃ o,h'.get? b=some o/\¬ fD o)/\¬ bB h' b
theorem dW (d:o.data=.fields xs):¬ fD o:=λ⟨es,n,q⟩=>by rw [d] at q; cases q
theorem iM {n:String} (e:h.get? a=some o) (c:o.cls=.type n) (d:o.data=.fields xs):¬ bB h a:=λ⟨o',vs,n,e',d'⟩=>by
 rw [e] at e'; cases e';rcases d' with d' | ⟨_,c',_⟩
 . rw [d] at d'; cases d'
 . rw [c] at c'; cases c'
theorem Gz (n:Nat) (h:n<=LIM):n<=sizeLine:=iv h bu
set_option tactic.hygienic true in
theorem CZ {Q:Unit->Shared->Prop} {E:Value->Shared->Prop} {xs:List Expr} {n:String} (e:s.heap.get? Ia=some o) (hc:o.cls=.type n) (hd:o.data=.fields vs) (hn:ij n=false) (hQ:Q () s) :
   wpAny (model Z.prog Z.w) A (letOwnedTupleGo (.Tuple xs k p) (.ref Ia) v) Q E s:=by
 cases v
 case ref T=>unfold letOwnedTupleGo;refine MQ (wpAny_load e ?_);rw [hc,hd];show wpAny _ A (if (ij n&&vs[0]?==some (rawInt T))=true then _ else _) Q E s;rw [hn,PC,if_neg (by simp)];exact NF hQ
 all_goals exact NF hQ
noncomputable def yZ (Ia:Addr) (fp:List Addr) (shown:List PyData) (P:Nat->Value->Prop) (St:Nat->Heap->Prop):Itr:=⟨Ia,fp,[Ia],shown,λi v _ _=>P i v,St,λi _ h=>St (i+1) h,false⟩
theorem Opened.plain {St:Nat->Heap->Prop} (walks:Walks Z.prog Z.w A Ia fp [Ia] shown.length P St) (start:St 0 h) (stay:∀ b∈fp,b=Ia\/nY β σ h b)
   (items:∀ i v,i < shown.length->P i v->∀ β' σ' h',bL β σ h β' σ' h'->∃ d,shown[i]?=some d/\Rel (TT β' σ') h' v d)
   (plain:∀ i h',St i h'->X3 λo n vs=>A4 (h'.get? Ia=some o) (o.cls=.type n) (o.data=.fields vs) (ij n=false)):Opened Z A (yZ Ia fp shown P St) β σ h:=by
 have ns:∀ i h',St i h'->∀ b∈[Ia],(∃ o,h'.get? b=some o/\¬ fD o)/\¬ bB h' b:=λi h' st b hb=>by obtain ⟨o,n,vs,e,c,d,_⟩:=plain i h' st;cases NL.mp hb;exact ⟨⟨o,e,dW d⟩,iM e c d⟩
 exact ⟨walks.sub,walks.frame,λi s Q E hi st q=>walks.item i s Q E hi st λv h' tk hp st' k=>q v h' tk hp st' k,λxs k p i v s Q E st q=>by
   obtain ⟨o,n,vs,e,c,d,w⟩:=plain _ _ st;exact CZ e c d w (q s.heap st λ_ _ _ e=>e),λ_ i v h st=>st,λs Q E st q=>walks.done s Q E st λh' tk k=>q h' tk k,walks.self,start,λb hb=>(stay b hb).imp (λq=>NL.mpr q) id,
   λi v hb h' hi hp β' σ' _ k=>items i v hi hp β' σ' h' k,ns,λi v h' st=>ns _ _ st⟩
inductive ItPost (Z:Cx) (A:Around) (en:Bool) (I:Items) (β:List Addr) (σ:ac) (s:Shared) (aa:ac) (it:Value) (aj:Shared):Prop where
 | mk (ah:List Addr) (T:Itr) (h1:it=.ref T.Ia) (h2:T.shown=I.shown) (h3:T.en=en) (h4:Step bV β σ s ah aa aj) (h5:Inv Z ah aa aj.heap) (h6:∀ a∈T.wr,s.heap.get? a=none/\a∉ah) (h7:Opened Z A T ah (cG I.lk aa) aj.heap)
   (h8:∀ n,I.lk=some n->aa[n]?=some (.lst I.base)) (h9:I.shown.length<=LIM):ItPost Z A en I β σ s aa it aj
theorem o7 (hh:A.handled=none) (hi:h.get? Ia=some { cls:=.type "list_iterator",dict:=none,data:=.fields #[.ref a,.int 0 0],slots:=#[] }) (e:h.get? a=some (dj vs n)) (r:RelAll (TT β σ) h vs.toList l) (hs:nY β σ h a) :
   X3 λfp P St=>Opened Z A (yZ Ia fp l P St) β σ h:=by
 have hne:a≠Ia:=λq=>by rw [q,hi] at e; injection e with e; exact absurd (congrArg Obj.cls e) (by simp)
 have hz:=r.length;simp at hz;have W:=Walks.list (prog:=Z.prog) (w:=Z.w) hh Ia a hne vs;rw [hz] at W;refine ⟨_,_,_,.plain W ⟨⟨_,hi,rfl,rfl⟩,⟨_,e,rfl,_,rfl⟩⟩ ?_ ?_ ?_⟩
 . intro b hb;simp at hb;rcases hb with rfl | rfl
   . exact .inl rfl
   . exact .inr hs
 . intro i v _ hv β' σ' h' k;obtain ⟨d,h1,h2⟩:=r.getV (k:=i) (v:=v) (by simpa using hv);exact ⟨d,h1,Rel.mono k h2⟩
 . rintro i h' ⟨⟨o,e,c,d⟩,_⟩
   exact ⟨o,_,_,e,c,d,by decide⟩
theorem xe (hh:A.handled=none) (hi:h.get? Ia=some { cls:=.type "tuple_iterator",dict:=none,data:=.fields #[.ref a,.int 0 0],slots:=#[] }) (e:h.get? a=some (nH vs n)) (r:RelAll (TT β σ) h vs.toList l) (hs:nY β σ h a) :
   X3 λfp P St=>Opened Z A (yZ Ia fp l P St) β σ h:=by
 have hne:a≠Ia:=λq=>by rw [q,hi] at e; injection e with e; exact absurd (congrArg Obj.cls e) (by simp)
 have hz:=r.length;simp at hz;have W:=Walks.tuple (prog:=Z.prog) (w:=Z.w) hh Ia a hne vs;rw [hz] at W;refine ⟨_,_,_,.plain W ⟨⟨_,hi,rfl,rfl⟩,⟨_,e,rfl,_,rfl⟩⟩ ?_ ?_ ?_⟩
 . intro b hb;simp at hb;rcases hb with rfl | rfl
   . exact .inl rfl
   . exact .inr hs
 . intro i v _ hv β' σ' h' k;obtain ⟨d,h1,h2⟩:=r.getV (k:=i) (v:=v) (by simpa using hv);exact ⟨d,h1,Rel.mono k h2⟩
 . rintro i h' ⟨⟨o,e,c,d⟩,_⟩
   exact ⟨o,_,_,e,c,d,by decide⟩
theorem Cd (W:Walks Z.prog Z.w A Ia [Ia] [Ia] x.cps.size (SignAt x) (λi h=>h.IsStrIter Ia T x tk i)) (ht:ij T=false) (g:cD x) (hi:h.IsStrIter Ia T x tk 0) :
   Opened Z A (yZ Ia [Ia] ((aI x).map λc=>.str (av [c])) (SignAt x) (λi h=>h.IsStrIter Ia T x tk i)) β σ h:=by
 have hz:((aI x).map λc=>PyData.str (av [c])).length=x.cps.size:=by rw [Ng]; exact NT
 rw [<- hz] at W;refine .plain W hi (λb hb=>.inl (NL.mp hb)) (λi v _ hv β' σ' h' k=>?_) λi h' ⟨o,e,c,d⟩=>⟨o,_,_,e,c,d,ht⟩;obtain ⟨c,u,hc,rfl⟩:=hv;have hc':(aI x)[i]?=some c:=by unfold aI; rw [Array.getElem?_toList]; exact hc
 refine ⟨.str (av [c]),by rw [Om,hc']; rfl,.str _ _ (fZ (λy hy=>g.cps y ?_) (by rw [OM]; decide))⟩;rw [NL.mp hy];exact NI hc'
theorem aS (o:Obj):∀ b x,h.get? b=some x->(h.push o).get? b=some x:=λb x e=>NG _ e
theorem jK (I:Inv Z β σ h):∀ a∈[h.objs.size],h.get? a=none/\a∉β:=λa ha=>by rw [NL.mp ha]; exact ⟨aV _,I.notMem (aV _)⟩
theorem xf {E:Value->Shared->Prop} (hh:A.handled=none) (I:Inv Z β σ s.heap) (r:aw β σ s.heap v (.d (.tuple l))):wpAny (model Z.prog Z.w) A (pyIter v) (λit aj=>ItPost Z A false ⟨l,l,none⟩ β σ s σ it aj) E s:=by apply (oH r).el; intro a vs m e t z q;refine wpAny_pyIter_tuple ⟨_,e,rfl,_,rfl⟩ ?_;have hk:=aS (h:=s.heap) { cls:=.type "tuple_iterator",data:=.fields #[.ref a,.int 0 0] };obtain ⟨fp,P,St,Op⟩:=xe (Z:=Z) (A:=A) (β:=β) (σ:=σ) hh (NQ s.heap rfl) (hk _ _ e) (q.mono λx o _ _ e _ t=>⟨hk _ _ e,t⟩) (.inr ⟨⟨_,_,_,hk _ _ e,.inl rfl⟩,t⟩);exact ⟨β,_,rfl,rfl,rfl,Step.grow hk rfl rfl,I.grow hk,jK I,Op,(λn q=>by cases q),z⟩
theorem xh {E:Value->Shared->Prop} (hh:A.handled=none) (I:Inv Z β σ s.heap) (r:aw β σ s.heap v (.d (.list l))):wpAny (model Z.prog Z.w) A (pyIter v) (λit aj=>ItPost Z A false ⟨l,l,none⟩ β σ s σ it aj) E s:=by
 cases r with
 | @list a vs m xs e t z q=>refine wpAny_pyIter_list ⟨_,e,rfl,_,rfl⟩ ?_;have hk:=aS (h:=s.heap) { cls:=.type "list_iterator",data:=.fields #[.ref a,.int 0 0] };obtain ⟨fp,P,St,Op⟩:=o7 (Z:=Z) (A:=A) (β:=β) (σ:=σ) hh (NQ s.heap rfl) (hk _ _ e) (q.mono λx o _ _ e _ t=>⟨hk _ _ e,t⟩) (.inr ⟨⟨_,_,_,hk _ _ e,.inl rfl⟩,t⟩);exact ⟨β,_,rfl,rfl,rfl,Step.grow hk rfl rfl,I.grow hk,jK I,Op,(λn q=>by cases q),z⟩
theorem xg {E:Value->Shared->Prop} (hh:A.handled=none) (I:Inv Z β σ s.heap) (r:aw β σ s.heap v (.d (.str x))):wpAny (model Z.prog Z.w) A (pyIter v) (λit aj=>ItPost Z A false ⟨(aI x).map λc=>.str (av [c]),(aI x).map λc=>.str (av [c]),none⟩ β σ s σ it aj) E s:=by
 apply xT (ma r); intro tk g;have fin:∀ T:String,Walks Z.prog Z.w A s.heap.objs.size [s.heap.objs.size] [s.heap.objs.size] x.cps.size (SignAt x) (λi h=>h.IsStrIter s.heap.objs.size T x tk i)->ij T=false->ItPost Z A false ⟨(aI x).map λc=>.str (av [c]),(aI x).map λc=>.str (av [c]),none⟩ β σ s σ (.ref s.heap.objs.size) { s with heap:=s.heap.push { cls:=.type T,data:=.fields #[.str x tk,.int 0 0] } }:=λT W ht=>⟨β,_,rfl,rfl,rfl,Step.grow (aS _) rfl rfl,I.grow (aS _),jK I,Cd W ht g ⟨_,NQ _ rfl,rfl,rfl⟩,(λn q=>by cases q),by rw [Ng]; exact g.len⟩
 cases ha:x.cps.all (· < 128)
 . exact wpAny_pyIter_wide ha (fin _ (Walks.strWide hh _ x tk) (by decide))
 . exact wpAny_pyIter_ascii ha (fin _ (Walks.strAscii hh _ x tk) (by decide))
theorem Cf {E:Value->Shared->Prop} (hh:A.handled=none) (I:Inv Z β σ s.heap) (r:aw β σ s.heap v (.loc n)) (hc:σ[n]?=some (.lst l)):wpAny (model Z.prog Z.w) A (pyIter v) (λit aj=>ItPost Z A false ⟨l,l,some n⟩ β σ s σ it aj) E s:=by obtain ⟨a,hb,ev⟩:=r;rw [ev];obtain ⟨vs,m,e,q,z⟩:=I.cell n a _ hb hc;refine wpAny_pyIter_list ⟨_,e,rfl,_,rfl⟩ ?_;have hk:=aS (h:=s.heap) { cls:=.type "list_iterator",data:=.fields #[.ref a,.int 0 0] };have tt:∀ x,TT β (σ.set n .busy) x↔TT β σ x:=λx=>qL (g7:=.lst l) (c:=.busy) hc rfl;obtain ⟨fp,P,St,Op⟩:=o7 (Z:=Z) (A:=A) (β:=β) (σ:=σ.set n .busy) hh (NQ s.heap rfl) (hk _ _ e) (q.mono λx o _ _ e _ t=>⟨hk _ _ e,λz=>t ((tt x).mp z)⟩) (.inl ⟨n,hb,cQ hc⟩);exact ⟨β,_,rfl,rfl,rfl,Step.grow hk rfl rfl,I.grow hk,jK I,Op,(λk q=>Option.some.inj q ▸ hc),z⟩
theorem u9 {Q:List PyData->Option Nat->Prop} {x:V} (ho:rX x σ=some (l,lk)) (h1:∀ l,x=.d (.tuple l)->Q l none) (h2:∀ l,x=.d (.list l)->Q l none) (h3:∀ y,x=.d (.str y)->Q ((aI y).map λc=>.str (av [c])) none) (h4:∀ n l,x=.loc n->σ[n]?=some (.lst l)->Q l (some n)):Q l lk:=by
 cases x with
 | d y=>
   rcases cX ho with ⟨l',hl,ho⟩ | ho
   . cases ho; exact h1 _ (congrArg V.d (sY hl))
   rcases cX ho with ⟨l',hl,ho⟩ | ho
   . cases ho; exact h2 _ (congrArg V.d (FA hl))
   . obtain ⟨y,hl,ho⟩:=tE ho;cases ho; exact h3 _ (congrArg V.d (oa hl))
 | loc n=>obtain ⟨l',hc,ho⟩:=N9.mp ho;cases (ho);exact h4 n _ rfl (fg hc)
 | _=>cases ho
theorem u8 {x:V} {E:Value->Shared->Prop} (hh:A.handled=none) (I:Inv Z β σ s.heap) (r:aw β σ s.heap v x) (ho:rX x σ=some (l,lk)) :
   wpAny (model Z.prog Z.w) A (pyIter v) (λit aj=>ItPost Z A false ⟨l,l,lk⟩ β σ s σ it aj) E s:=
 u9 (Q:=λl lk=>wpAny (model Z.prog Z.w) A (pyIter v) (λit aj=>ItPost Z A false ⟨l,l,lk⟩ β σ s σ it aj) E s) ho (λl e=>xf hh I (e ▸ r)) (λl e=>xh hh I (e ▸ r)) (λy e=>xg hh I (e ▸ r)) λn l e hc=>Cf hh I (e ▸ r) hc
theorem iI (a b:Int):(bD a b).length=(b - a).toNat:=by simp [bD]
theorem mQ {a b:Int} {r:Addr} {t u v:Tok} {E:Value->Shared->Prop} (hh:A.handled=none) (ha:-100000<=a/\a<=100000) (hb:-100000<=b/\b<=100000) (I:Inv Z β σ s.heap) (hr:IsRange s.heap r a b 1 t u v) :
   wpAny (model Z.prog Z.w) A (pyIter (.ref r)) (λit aj=>ItPost Z A false ⟨bD a b,[],none⟩ β σ s σ it aj) E s:=by
 refine wpAny_pyIter_range hr (small_one (by omega) (by omega) (by omega) (by omega)) ?_;have hsz:Builtin.Range.rangeSize a b 1=(((b - a).toNat:Nat):Int):=by rw [rangeSize_one]; split <;> omega
 have hk:=aS (h:=s.heap) { cls:=.type "range_iterator",data:=.fields #[rawInt a,rawInt (Builtin.Range.rangeSize a b 1),rawInt 1] };have W:=Walks.range (prog:=Z.prog) (w:=Z.w) hh s.heap.objs.size a 1 (b - a).toNat;rw [<- iI] at W;refine ⟨β,_,rfl,rfl,rfl,Step.grow hk rfl rfl,I.grow hk,jK I,.plain W ?_ ?_ ?_ ?_,(λn q=>by cases q),?_⟩
 . show IsRangeIter _ _ (a+((0:Nat):Int) * 1) ((((bD a b).length:Nat):Int) - ((0:Nat):Int)) 1;have e1:a+((0:Nat):Int) * 1=a:=Int.add_zero a;have e2:(((bD a b).length:Nat):Int) - ((0:Nat):Int)=Builtin.Range.rangeSize a b 1:=(Q6 _).trans (by rw [iI,hsz]);rw [e1,e2];exact NQ _ rfl
 . intro c hc; simp at hc; exact .inl hc
 . rintro i x hi ⟨t,rfl⟩ β' σ' h' _
   rw [iI] at hi;refine ⟨.int (a+i),?_,?_⟩
   . simp [bD,hi]
   . rw [Int.mul_one]; exact .int _ _
 . intro i h' st;exact ⟨_,_,_,st,rfl,rfl,by decide⟩
 . rw [iI]; exact Pc.mpr (OC (Int.sub_le_sub hb.2 ha.1) (by decide))
theorem Dv (l:List PyData) (i:Nat):(jj l)[i]?=(l[i]?).map λd=>PyData.tuple [.int i,d]:=by unfold jj;rw [Om,List.getElem?_zipIdx];cases l[i]? <;> simp
theorem mB (l:List PyData):(jj l).length=l.length:=by simp [jj]
noncomputable def KY (e it a:Addr) (vs:Array Value) (l:List PyData):Itr:=⟨e,[e,it,a],[e,it],jj l,λi v hb h'=>X3 λT t x=>A4 (v=.ref T) (hb.get? T=none) (h'.get? T=some (nH #[.int i t,x] 0)) (vs[i]?=some x),
 λi h=>(∃ old,IsEnum h e it i old)/\h.IsTupleIter it a i/\h.IsTuple a vs,λi v h=>X2 λT x=>A3 (v=.ref T) (IsEnumOut h e it ((i:Int)+1) x T) (h.IsTupleIter it a (i+1)/\h.IsTuple a vs),true⟩
theorem Ao {e:Addr} (hh:A.handled=none) (he:IsEnum h e it 0 .none) (hi:h.get? it=some { cls:=.type "tuple_iterator",dict:=none,data:=.fields #[.ref a,.int 0 0],slots:=#[] }) (ha:h.get? a=some (nH vs n)) (r:RelAll (TT β σ) h vs.toList l) (hs:nY β σ h a) :
   Opened Z A (KY e it a vs l) β σ h:=by
 have hai:a≠it:=λq=>by rw [q,hi] at ha; injection ha with ha; exact absurd (congrArg Obj.cls ha) (by simp)
 have hae:a≠e:=λq=>by rw [q] at ha; have he:=he.symm.trans ha; injection he with he; exact absurd (congrArg Obj.cls he) (by simp)
 have hei:e≠it:=λq=>by rw [q] at he; have he:=he.symm.trans hi; injection he with he; exact absurd (congrArg Obj.cls he) (by simp)
 have hz:=r.length;simp at hz;have D:=DF (prog:=Z.prog) (w:=Z.w) (A:=A.in1) hh it a hai vs;have mem:∀ {b:Addr},b∉[e,it]->b≠e/\b≠it:=λhb=>⟨λq=>hb (by simp [q]),λq=>hb (by simp [q])⟩;have ns:∀ {h':Heap} {i:Nat} {oe:Obj} {es:Array Value} {n:String},h'.get? e=some oe->oe.cls=.type n->oe.data=.fields es->h'.IsTupleIter it a i->∀ b∈[e,it],(∃ o,h'.get? b=some o/\¬ fD o)/\¬ bB h' b:=λhe hc hd ⟨o,hi,c,d⟩ b hb=>by
   rcases NN.mp hb with rfl | hb
   . exact ⟨⟨_,he,dW hd⟩,iM he hc hd⟩
   . cases NL.mp hb; exact ⟨⟨_,hi,dW d⟩,iM hi c d⟩
 refine ⟨λb hb=>?_,λi h h' ⟨⟨old,he⟩,hi⟩ hk=>?_,λi s Q E hlt ⟨⟨old,he⟩,hi⟩ q=>?_,λxs k p i v s Q E m q=>?_,(λh=>by cases h),λs Q E ⟨⟨old,he⟩,hi⟩ q=>?_,λi s Q E ⟨⟨old,he⟩,hi⟩ q=>wpAny_pyIter_enum he q,⟨⟨_,he⟩,⟨_,hi,rfl,rfl⟩,⟨_,ha,rfl,_,rfl⟩⟩,λb hb=>?_,λi v hb h' hlt p β' σ' I k=>?_,λi h' ⟨⟨old,he⟩,hi,_⟩=>ns he rfl rfl hi,λi v h' ⟨T,x,_,he,hi,_⟩=>ns he rfl rfl hi⟩
 . rcases NN.mp hb with rfl | hb
   . exact NE ..
   . cases NL.mp hb; exact NA _ (NE ..)
 . exact ⟨⟨old,hk e (NE ..) _ he⟩,D.frame _ _ _ hi λb hb=>hk b (NA _ hb)⟩
 . have hlt:i < vs.size:=by have:i < (jj l).length:=hlt; rw [mB] at this; omega
   refine wpAny_pyNext_enum_itemD D he hi hlt hei (λm=>?_) λx h' tk hx ho hs' hT _ hk=>q _ h' _ ⟨_,_,x,rfl,aV _,hT,hx⟩ ⟨_,_,rfl,ho,hs'⟩ λb o hb e=>hk b o (mem hb).1 (mem hb).2 e;rcases NN.mp m with h | h
   . exact hei h
   . exact hae (NL.mp h).symm
 . obtain ⟨T,x,rfl,ho,hs'⟩:=m;refine wpAny_letOwnedTupleGo_enum ho λh' he' hk=>q h' ⟨⟨x,he'⟩,D.frame _ _ _ hs' λb hb o y=>(hk.2 b λz=>?_).trans y⟩ λb o hb y=>(hk.2 b (mem hb).1).trans y;subst z;rcases NN.mp hb with h | h
   . exact hei h
   . exact hae (NL.mp h).symm
 . have hi:(λi h=>Heap.IsTupleIter h it a i/\Heap.IsTuple h a vs) vs.size s.heap:=by rw [hz,<- mB l]; exact hi
   exact wpAny_pyNext_enum_endD D he hi λh' hx=>q h' s.toks λb o hb y=>hx b o (mem hb).2 y
 . rcases NN.mp hb with rfl | hb
   . exact .inl (NE ..)
   . rcases NN.mp hb with rfl | hb
     . exact .inl (NA _ (NE ..))
     . cases NL.mp hb; exact .inr hs
 . obtain ⟨T,t,x,rfl,hT,hT',hx⟩:=p;obtain ⟨d,h1,h2⟩:=r.getV (k:=i) (v:=x) (by simpa using hx);refine ⟨.tuple [.int i,d],?_,.tuple hT' (λz=>I.notMem hT z.mem) (by simp [LIM]) (.cons (.int _ _) (.one (Rel.mono k h2)))⟩;show (jj l)[i]?=_;rw [Dv,h1]; rfl
theorem xV {E:Value->Shared->Prop} (hh:A.handled=none) (I:Inv Z β σ s.heap) (r:aw β σ s.heap v (.d (.tuple l))) :
   wpAny (model Z.prog Z.w) A (call (.type "enumerate") [v]) (λx ai=>wpAny (model Z.prog Z.w) A (pyIter x) (λit aj=>ItPost Z A true ⟨jj l,[],none⟩ β σ s σ it aj) E ai) E' s:=by
 apply (oH r).el; intro a vs m e t z q;refine ye e λh' he hi hk=>wpAny_pyIter_enum he ?_;have Op:=Ao (Z:=Z) (A:=A) (β:=β) (σ:=σ) hh he hi (hk _ _ e) (q.mono λx o _ _ e _ t=>⟨hk _ _ e,t⟩) (.inr ⟨⟨_,_,_,hk _ _ e,.inl rfl⟩,t⟩);have f0:∀ k,s.heap.get? (s.heap.objs.size+k)=none:=λk=>fm (NZ _ _);refine ⟨β,_,rfl,rfl,rfl,Step.grow hk rfl rfl,I.grow hk,(λb hb=>?_),Op,(λn q=>by cases q),by rw [mB]; exact z⟩;rcases NN.mp hb with rfl | hb
 . exact ⟨f0 1,I.notMem (f0 1)⟩
 . cases NL.mp hb; exact ⟨f0 0,I.notMem (f0 0)⟩
theorem ki (S0:Step O β σ s ah aa ai) (al:Inv Z ah aa ai.heap) (hlk:∀ n,lk=some n->aa[n]?=some (.lst base)) (S:Step (λx=>O x\/x∈wr) ah (cG lk aa) ai aL af aj) (bQ:Inv Z aL af aj.heap)
   (hO:∀ x,O x->¬ bB ai.heap x) (hi:∀ a∈wr,¬ bB ai.heap a) (hf:∀ a∈wr,s.heap.get? a=none):A3 (Step O β σ s aL (bc lk base af) aj) (Inv Z aL (bc lk base af) aj.heap) (∀ x,TT aL (bc lk base af) x↔TT aL af x):=by
 have drop:∀ {σ':ac},Step (λx=>O x\/x∈wr) β σ s aL σ' aj->Step O β σ s aL σ' aj:=λT=>⟨T.ext,T.mono,λx o hx hw hn=>T.keepW x o hx hw (λz=>z.elim hn λq=>by rw [hf x q] at hx; cases hx),T.alive,T.gens,T.os⟩
 have hO':∀ x,(O x\/x∈wr)->¬ bB ai.heap x:=λx z=>z.elim (hO x) (hi x);cases lk with
 | none=>exact ⟨drop ((S0.weaken λ_=>.inl).trans S),bQ,λ_=>.rfl⟩
 | some n=>
   have hn:=hlk n rfl;have hlt:n < ah.length:=by rw [al.len]; exact (NK.mp hn).1
   have hb:=NC hlt;have U:=zR al hb hn S hO' bQ;have st:af[n]?=some .busy:=by
     have CV:n < af.length:=by rw [<- bQ.len]; exact (NK.mp (S.get hb)).1
     obtain ⟨c,h1,_,_,h4⟩:=S.mono n af[n] hlt (NC CV);have:(cG (some n) aa)[n]?=some .busy:=cQ hn;rw [this] at h1; cases h1;rw [NC CV,h4 rfl]
   exact ⟨drop ((S0.weaken λ_=>.inl).trans U.1),U.2,λx=>qL (g7:=.busy) (c:=.lst base) st rfl⟩
theorem yX (al:Inv Z ah aa ai.heap) (hlk:∀ n,lk=some n->aa[n]?=some (.lst base)):Inv Z ah (cG lk aa) ai.heap/\Step bV ah aa ai ah (cG lk aa) ai:=by
 cases lk with
 | none=>exact ⟨al,Step.refl⟩
 | some n=>
   have hn:=hlk n rfl;have hlt:n < ah.length:=by rw [al.len]; exact (NK.mp hn).1
   have:=tr (O:=bV) (c:=.busy) al (NC hlt) hn rfl rfl;exact ⟨this.2,this.1⟩
variable {o:Option α}
theorem GW {x:α} {P:Prop} (h:o=some x) (hn:o=none):P:=by rw [hn] at h; cases h
theorem ao {f:α->Bool} (h:ob o f=true):∃ a,o=some a/\f a=true:=by
 cases o with
 | none=>cases h
 | some a=>exact ⟨a,rfl,h⟩
theorem vd {a:Bool} (h:(!a)=true):a=false:=by cases a with | false=>rfl | true=>cases h
theorem JJ {a:Bool} (z:(a&&b&&c)=true):A3 (a=true) (b=true) (c=true):=by have q:=NH.mp z; obtain ⟨ha,hb⟩:=NH.mp q.1; exact ⟨ha,hb,q.2⟩
variable {d:Bool}
theorem Gw {a:Bool} (z:(a&&b&&c&&d)=true):A4 (a=true) (b=true) (c=true) (d=true):=by have q:=NH.mp z; obtain ⟨ha,hb,hc⟩:=JJ q.1; exact ⟨ha,hb,hc,q.2⟩
theorem LI {a e:Bool} (z:(a&&b&&c&&d&&e)=true):A5 (a=true) (b=true) (c=true) (d=true) (e=true):=by have q:=NH.mp z; obtain ⟨ha,hb,hc,hd⟩:=Gw q.1; exact ⟨ha,hb,hc,hd,q.2⟩
theorem JI {a e f:Bool} (z:(a&&b&&c&&d&&e&&f)=true):A6 (a=true) (b=true) (c=true) (d=true) (e=true) (f=true):=by have q:=NH.mp z; obtain ⟨ha,hb,hc,hd,he⟩:=LI q.1; exact ⟨ha,hb,hc,hd,he,q.2⟩
theorem MF {a e f g:Bool} (z:(a&&b&&c&&d&&e&&f&&g)=true):A7 (a=true) (b=true) (c=true) (d=true) (e=true) (f=true) (g=true):=by have q:=NH.mp z; obtain ⟨ha,hb,hc,hd,he,hf⟩:=JI q.1; exact ⟨ha,hb,hc,hd,he,hf,q.2⟩
theorem ME {a e f g x:Bool} (z:(a&&b&&c&&d&&e&&f&&g&&x)=true):A8 (a=true) (b=true) (c=true) (d=true) (e=true) (f=true) (g=true) (x=true):=by have q:=NH.mp z; obtain ⟨ha,hb,hc,hd,he,hf,hg⟩:=MF q.1; exact ⟨ha,hb,hc,hd,he,hf,hg,q.2⟩
theorem aT {m:Nat} {k:n=m->α} {a:α} (h:cy n m k=some a):∃ e,k e=a:=by
 unfold cy at h;by_cases e:n=m
 . rw [dif_pos e] at h; exact ⟨e,Option.some.inj h⟩
 . rw [dif_neg e] at h; cases h
noncomputable def gC (ex:Expr):Option (Const):=cy ex.ctorIdx 19 λe=>Expr.Constant.elim (motive_1:=λ_=>Const) ex e λa0 _ _=>a0
theorem zj {ex:Expr} {t:Const} (h:gC ex=some t):X2 λa b=>ex=.Constant t a b:=by obtain ⟨e,q⟩:=aT h;exact Expr.Constant.elim (motive_1:=λex=>∀ e:ex.ctorIdx=19,(Expr.Constant.elim (motive_1:=λ_=>Const) ex e λa0 _ _=>a0)=t->X2 λa b=>ex=.Constant t a b) ex e (λ_ a b _ q=>q ▸ ⟨a,b,rfl⟩) e q
theorem bH {ex:Expr} {t:Str} (h:fk ex=some t):∃ p,ex=.Name t p:=by obtain ⟨e,q⟩:=aT h;exact Expr.Name.elim (motive_1:=λex=>∀ e:ex.ctorIdx=23,(Expr.Name.elim (motive_1:=λ_=>Str) ex e λa0 _=>a0)=t->∃ p,ex=.Name t p) ex e (λ_ p _ q=>q ▸ ⟨p,rfl⟩) e q
noncomputable def Jk (ex:Expr):Option (Expr×Operator×Expr):=cy ex.ctorIdx 2 λe=>Expr.BinOp.elim (motive_1:=λ_=>Expr×Operator×Expr) ex e λa0 a1 a2 _=>(a0,a1,a2)
theorem Jj {ex:Expr} {t:Expr×Operator×Expr} (h:Jk ex=some t):∃ p,ex=.BinOp t.1 t.2.1 t.2.2 p:=by obtain ⟨e,q⟩:=aT h;exact Expr.BinOp.elim (motive_1:=λex=>∀ e:ex.ctorIdx=2,(Expr.BinOp.elim (motive_1:=λ_=>Expr×Operator×Expr) ex e λa0 a1 a2 _=>(a0,a1,a2))=t->∃ p,ex=.BinOp t.1 t.2.1 t.2.2 p) ex e (λ_ _ _ p _ q=>q ▸ ⟨p,rfl⟩) e q
theorem Gb {ex:Expr} {l r:Expr} {o:Operator} (h:Jk ex=some (l,o,r)):∃ p,ex=.BinOp l o r p:=Jj h
noncomputable def Lg (ex:Expr):Option (UnaryOp×Expr):=cy ex.ctorIdx 3 λe=>Expr.UnaryOp.elim (motive_1:=λ_=>UnaryOp×Expr) ex e λa0 a1 _=>(a0,a1)
theorem Lf {ex:Expr} {t:UnaryOp×Expr} (h:Lg ex=some t):∃ p,ex=.UnaryOp t.1 t.2 p:=by obtain ⟨e,q⟩:=aT h;exact Expr.UnaryOp.elim (motive_1:=λex=>∀ e:ex.ctorIdx=3,(Expr.UnaryOp.elim (motive_1:=λ_=>UnaryOp×Expr) ex e λa0 a1 _=>(a0,a1))=t->∃ p,ex=.UnaryOp t.1 t.2 p) ex e (λ_ _ p _ q=>q ▸ ⟨p,rfl⟩) e q
theorem Jc {ex:Expr} {o:UnaryOp} {x:Expr} (h:Lg ex=some (o,x)):∃ p,ex=.UnaryOp o x p:=Lf h
noncomputable def Ji (ex:Expr):Option (BoolOp×List Expr):=cy ex.ctorIdx 0 λe=>Expr.BoolOp.elim (motive_1:=λ_=>BoolOp×List Expr) ex e λa0 a1 _=>(a0,a1)
theorem Jh {ex:Expr} {t:BoolOp×List Expr} (h:Ji ex=some t):∃ p,ex=.BoolOp t.1 t.2 p:=by obtain ⟨e,q⟩:=aT h;exact Expr.BoolOp.elim (motive_1:=λex=>∀ e:ex.ctorIdx=0,(Expr.BoolOp.elim (motive_1:=λ_=>BoolOp×List Expr) ex e λa0 a1 _=>(a0,a1))=t->∃ p,ex=.BoolOp t.1 t.2 p) ex e (λ_ _ p _ q=>q ▸ ⟨p,rfl⟩) e q
variable {xs:List Expr}
theorem Ga {ex:Expr} {o:BoolOp} (h:Ji ex=some (o,xs)):∃ p,ex=.BoolOp o xs p:=Jh h
noncomputable def F4 (ex:Expr):Option (Expr×List CmpOp×List Expr):=cy ex.ctorIdx 15 λe=>Expr.Compare.elim (motive_1:=λ_=>Expr×List CmpOp×List Expr) ex e λa0 a1 a2 _=>(a0,a1,a2)
theorem Jg {ex:Expr} {t:Expr×List CmpOp×List Expr} (h:F4 ex=some t):∃ p,ex=.Compare t.1 t.2.1 t.2.2 p:=by obtain ⟨e,q⟩:=aT h;exact Expr.Compare.elim (motive_1:=λex=>∀ e:ex.ctorIdx=15,(Expr.Compare.elim (motive_1:=λ_=>Expr×List CmpOp×List Expr) ex e λa0 a1 a2 _=>(a0,a1,a2))=t->∃ p,ex=.Compare t.1 t.2.1 t.2.2 p) ex e (λ_ _ _ p _ q=>q ▸ ⟨p,rfl⟩) e q
theorem zh {ex:Expr} {l:Expr} {o:List CmpOp} {r:List Expr} (h:F4 ex=some (l,o,r)):∃ p,ex=.Compare l o r p:=Jg h
noncomputable def Mm (ex:Expr):Option (Expr×Expr×Expr):=cy ex.ctorIdx 5 λe=>Expr.IfExp.elim (motive_1:=λ_=>Expr×Expr×Expr) ex e λa0 a1 a2 _=>(a0,a1,a2)
theorem Ll {ex:Expr} {t:Expr×Expr×Expr} (h:Mm ex=some t):∃ p,ex=.IfExp t.1 t.2.1 t.2.2 p:=by obtain ⟨e,q⟩:=aT h;exact Expr.IfExp.elim (motive_1:=λex=>∀ e:ex.ctorIdx=5,(Expr.IfExp.elim (motive_1:=λ_=>Expr×Expr×Expr) ex e λa0 a1 a2 _=>(a0,a1,a2))=t->∃ p,ex=.IfExp t.1 t.2.1 t.2.2 p) ex e (λ_ _ _ p _ q=>q ▸ ⟨p,rfl⟩) e q
theorem Je {ex:Expr} {l o r:Expr} (h:Mm ex=some (l,o,r)):∃ p,ex=.IfExp l o r p:=Ll h
noncomputable def AD (ex:Expr):Option (List Expr):=cy ex.ctorIdx 25 λe=>Expr.Tuple.elim (motive_1:=λ_=>List Expr) ex e λa0 _ _=>a0
theorem kc {ex:Expr} {t:List Expr} (h:AD ex=some t):X2 λk p=>ex=.Tuple t k p:=by obtain ⟨e,q⟩:=aT h;exact Expr.Tuple.elim (motive_1:=λex=>∀ e:ex.ctorIdx=25,(Expr.Tuple.elim (motive_1:=λ_=>List Expr) ex e λa0 _ _=>a0)=t->X2 λk p=>ex=.Tuple t k p) ex e (λ_ a b _ q=>q ▸ ⟨a,b,rfl⟩) e q
noncomputable def C5 (ex:Expr):Option (List Expr):=cy ex.ctorIdx 24 λe=>Expr.List.elim (motive_1:=λ_=>List Expr) ex e λa0 _=>a0
theorem vI {ex:Expr} {t:List Expr} (h:C5 ex=some t):∃ p,ex=.List t p:=by obtain ⟨e,q⟩:=aT h;exact Expr.List.elim (motive_1:=λex=>∀ e:ex.ctorIdx=24,(Expr.List.elim (motive_1:=λ_=>List Expr) ex e λa0 _=>a0)=t->∃ p,ex=.List t p) ex e (λ_ p _ q=>q ▸ ⟨p,rfl⟩) e q
noncomputable def C7 (ex:Expr):Option (List (Option Expr)×List Expr):=cy ex.ctorIdx 6 λe=>Expr.Dict.elim (motive_1:=λ_=>List (Option Expr)×List Expr) ex e λa0 a1 _=>(a0,a1)
theorem F2 {ex:Expr} {t:List (Option Expr)×List Expr} (h:C7 ex=some t):∃ p,ex=.Dict t.1 t.2 p:=by obtain ⟨e,q⟩:=aT h;exact Expr.Dict.elim (motive_1:=λex=>∀ e:ex.ctorIdx=6,(Expr.Dict.elim (motive_1:=λ_=>List (Option Expr)×List Expr) ex e λa0 a1 _=>(a0,a1))=t->∃ p,ex=.Dict t.1 t.2 p) ex e (λ_ _ p _ q=>q ▸ ⟨p,rfl⟩) e q
variable {k:List (Option Expr)}
theorem C6 {ex:Expr} {v:List Expr} (h:C7 ex=some (k,v)):∃ p,ex=.Dict k v p:=F2 h
noncomputable def AE (ex:Expr):Option (Expr×Expr):=cy ex.ctorIdx 21 λe=>Expr.Subscript.elim (motive_1:=λ_=>Expr×Expr) ex e λa0 a1 _=>(a0,a1)
theorem C1 {ex:Expr} {t:Expr×Expr} (h:AE ex=some t):∃ p,ex=.Subscript t.1 t.2 p:=by obtain ⟨e,q⟩:=aT h;exact Expr.Subscript.elim (motive_1:=λex=>∀ e:ex.ctorIdx=21,(Expr.Subscript.elim (motive_1:=λ_=>Expr×Expr) ex e λa0 a1 _=>(a0,a1))=t->∃ p,ex=.Subscript t.1 t.2 p) ex e (λ_ _ p _ q=>q ▸ ⟨p,rfl⟩) e q
theorem tX {ex:Expr} {v x:Expr} (h:AE ex=some (v,x)):∃ p,ex=.Subscript v x p:=C1 h
noncomputable def FX (ex:Expr):Option (Option Expr×Option Expr×Option Expr):=cy ex.ctorIdx 26 λe=>Expr.Slice.elim (motive_1:=λ_=>Option Expr×Option Expr×Option Expr) ex e λa0 a1 a2 _=>(a0,a1,a2)
theorem Jd {ex:Expr} {t:Option Expr×Option Expr×Option Expr} (h:FX ex=some t):∃ p,ex=.Slice t.1 t.2.1 t.2.2 p:=by obtain ⟨e,q⟩:=aT h;exact Expr.Slice.elim (motive_1:=λex=>∀ e:ex.ctorIdx=26,(Expr.Slice.elim (motive_1:=λ_=>Option Expr×Option Expr×Option Expr) ex e λa0 a1 a2 _=>(a0,a1,a2))=t->∃ p,ex=.Slice t.1 t.2.1 t.2.2 p) ex e (λ_ _ _ p _ q=>q ▸ ⟨p,rfl⟩) e q
theorem FW {ex:Expr} {l u t:Option Expr} (h:FX ex=some (l,u,t)):∃ p,ex=.Slice l u t p:=Jd h
noncomputable def C9 (ex:Expr):Option (Expr×List Comprehension×Scope):=cy ex.ctorIdx 8 λe=>Expr.ListComp.elim (motive_1:=λ_=>Expr×List Comprehension×Scope) ex e λa0 a1 a2 _=>(a0,a1,a2)
theorem F3 {ex:Expr} {t:Expr×List Comprehension×Scope} (h:C9 ex=some t):∃ p,ex=.ListComp t.1 t.2.1 t.2.2 p:=by obtain ⟨e,q⟩:=aT h;exact Expr.ListComp.elim (motive_1:=λex=>∀ e:ex.ctorIdx=8,(Expr.ListComp.elim (motive_1:=λ_=>Expr×List Comprehension×Scope) ex e λa0 a1 a2 _=>(a0,a1,a2))=t->∃ p,ex=.ListComp t.1 t.2.1 t.2.2 p) ex e (λ_ _ _ p _ q=>q ▸ ⟨p,rfl⟩) e q
variable {g:List Comprehension}
theorem C8 {ex:Expr} {e:Expr} {s:Scope} (h:C9 ex=some (e,g,s)):∃ p,ex=.ListComp e g s p:=F3 h
noncomputable def sm (ex:Expr):Option (Expr×List Expr×List Keyword×Pos):=cy ex.ctorIdx 16 λe=>Expr.Call.elim (motive_1:=λ_=>Expr×List Expr×List Keyword×Pos) ex e λa0 a1 a2 a3=>(a0,a1,a2,a3)
theorem zi {ex:Expr} {t:Expr×List Expr×List Keyword×Pos} (h:sm ex=some t):ex=.Call t.1 t.2.1 t.2.2.1 t.2.2.2:=by obtain ⟨e,q⟩:=aT h;exact Expr.Call.elim (motive_1:=λex=>∀ e:ex.ctorIdx=16,(Expr.Call.elim (motive_1:=λ_=>Expr×List Expr×List Keyword×Pos) ex e λa0 a1 a2 a3=>(a0,a1,a2,a3))=t->ex=.Call t.1 t.2.1 t.2.2.1 t.2.2.2) ex e (λ_ _ _ _ _ q=>q ▸ rfl) e q
variable {a:List Expr}
theorem vJ {ex:Expr} {f:Expr} {k:List Keyword} (h:sm ex=some (f,a,k,p)):ex=.Call f a k p:=zi h
theorem Gc {ex:Expr} {t:Expr×Str×Pos} (h:zk ex=some t):ex=.Attribute t.1 t.2.1 t.2.2:=by obtain ⟨e,q⟩:=aT h;exact Expr.Attribute.elim (motive_1:=λex=>∀ e:ex.ctorIdx=20,(Expr.Attribute.elim (motive_1:=λ_=>Expr×Str×Pos) ex e λa0 a1 a2=>(a0,a1,a2))=t->ex=.Attribute t.1 t.2.1 t.2.2) ex e (λ_ _ _ _ q=>q ▸ rfl) e q
theorem vK {ex:Expr} {o:Expr} {n:Str} (h:zk ex=some (o,n,p)):ex=.Attribute o n p:=Gc h
noncomputable def LB:Const->Option Unit
 | .none=>some ()
 | _=>none
noncomputable def LC:Const->Option Bool
 | .bool b=>some b
 | _=>none
noncomputable def MC:Const->Option Int
 | .int b=>some b
 | _=>none
noncomputable def MB:Const->Option Str
 | .str b=>some b
 | _=>none
noncomputable def G9 (ex:Expr):Option Unit:=(gC ex).bind LB
noncomputable def Hb (ex:Expr):Option Bool:=(gC ex).bind LC
noncomputable def Lk (ex:Expr):Option Int:=(gC ex).bind MC
noncomputable def Lh (ex:Expr):Option Str:=(gC ex).bind MB
variable {u:Unit}
theorem C3 {ex:Expr} (h:G9 ex=some u):X2 λa b=>ex=.Constant .none a b:=by obtain ⟨c,h1,h2⟩:=NJ.mp h;obtain ⟨a,b,rfl⟩:=zj h1;cases c <;> first | exact ⟨_,_,rfl⟩ | exact GW h2 rfl
theorem Dc {ex:Expr} {x:Bool} (h:Hb ex=some x):X2 λa b=>ex=.Constant (.bool x) a b:=by obtain ⟨c,h1,h2⟩:=NJ.mp h;obtain ⟨a,b,rfl⟩:=zj h1;cases c <;> first | exact GW h2 rfl | (cases h2; exact ⟨_,_,rfl⟩)
theorem F1 {ex:Expr} {x:Int} (h:Lk ex=some x):X2 λa b=>ex=.Constant (.int x) a b:=by obtain ⟨c,h1,h2⟩:=NJ.mp h;obtain ⟨a,b,rfl⟩:=zj h1;cases c <;> first | exact GW h2 rfl | (cases h2; exact ⟨_,_,rfl⟩)
theorem FV {ex:Expr} (h:Lh ex=some x):X2 λa b=>ex=.Constant (.str x) a b:=by obtain ⟨c,h1,h2⟩:=NJ.mp h;obtain ⟨a,b,rfl⟩:=zj h1;cases c <;> first | exact GW h2 rfl | (cases h2; exact ⟨_,_,rfl⟩)
noncomputable def Lj (ex:Expr):Option Expr:=(Lg ex).bind λq=>if q.1=.USub then some q.2 else none
noncomputable def Li (ex:Expr):Option Expr:=(Lg ex).bind λq=>if q.1=.Not then some q.2 else none
theorem GI {ex x:Expr} {o:UnaryOp} (h:((Lg ex).bind λq=>if q.1=o then some q.2 else none)=some x):∃ p,ex=.UnaryOp o x p:=by
 obtain ⟨⟨o',y⟩,h1,h2⟩:=NJ.mp h;apply iY (Jc h1); intro p;by_cases ho:o'=o
 . rw [if_pos ho] at h2; cases h2; subst ho; exact ⟨p,rfl⟩
 . rw [if_neg ho] at h2; cases h2
theorem FZ {ex x:Expr} (h:Lj ex=some x):∃ p,ex=.UnaryOp .USub x p:=GI h
theorem FY {ex x:Expr} (h:Li ex=some x):∃ p,ex=.UnaryOp .Not x p:=GI h
noncomputable def HF {α:Type}:List α->Option (α×List α)
 | a::b=>some (a,b)
 | _=>none
variable {l:List α}
theorem me {a:α} {r:List α} (h:HF l=some (a,r)):l=a::r:=by
 cases l with
 | nil=>cases h
 | cons x l=>cases h; rfl
theorem fC (h:l.isEmpty=true):l=[]:=by
 cases l with
 | nil=>rfl
 | cons x l=>cases h
noncomputable def Mo {α:Type}:List α->Option Unit
 | []=>some ()
 | _=>none
theorem Dx (h:Mo l=some u):l=[]:=by
 cases l with
 | nil=>rfl
 | cons _ _=>exact GW h rfl
noncomputable def pY (ex:Expr):Option (Str×List Expr):=(sm ex).bind λq=>(fk q.1).bind λx=>(Mo q.2.2.1).bind λ_=>some (x,q.2.1)
theorem eT {ex:Expr} {a:List Expr} (h:pY ex=some (x,a)):X2 λp pos=>ex=.Call (.Name x p) a [] pos:=by refine kk λK k=>?_;obtain ⟨q,h1,h⟩:=NJ.mp h;obtain ⟨x',h2,h⟩:=NJ.mp h;obtain ⟨_,h3,h⟩:=NJ.mp h;obtain ⟨p,h2⟩:=bH h2;refine k ?_;have h4:=Prod.mk.inj (Option.some.inj h);refine ⟨p,q.2.2.2,?_⟩;rw [vJ (f:=q.1) (a:=q.2.1) (k:=q.2.2.1) (p:=q.2.2.2) h1,h2,Dx h3,h4.1,h4.2]
noncomputable def Ha (ex:Expr):Option (Expr×Str×Pos×List Expr×Pos):=(sm ex).bind λq=>(zk q.1).bind λo=>(Mo q.2.2.1).bind λ_=>some (o.1,o.2.1,o.2.2,q.2.1,q.2.2.2)
variable {nm:Str}
theorem C4 {ex ov:Expr} {ap:Pos} {a:List Expr} (h:Ha ex=some (ov,nm,ap,a,pos)):ex=.Call (.Attribute ov nm ap) a [] pos:=by obtain ⟨q,h1,h⟩:=NJ.mp h;obtain ⟨o,h2,h⟩:=NJ.mp h;obtain ⟨_,h3,h⟩:=NJ.mp h;have h4:=Option.some.inj h;have h2:=vK (o:=o.1) (n:=o.2.1) (p:=o.2.2) h2;rw [vJ (f:=q.1) (a:=q.2.1) (k:=q.2.2.1) (p:=q.2.2.2) h1,h2,Dx h3];exact congrArg (λt:Expr×Str×Pos×List Expr×Pos=>Expr.Call (.Attribute t.1 t.2.1 t.2.2.1) t.2.2.2.1 [] t.2.2.2.2) h4
noncomputable def M9:Bi->Option Ty
 | .isinst t=>some t
 | _=>none
theorem JF {b:Bi} {t:Ty} (h:M9 b=some t):b=.isinst t:=by cases b <;> first | (cases h; rfl) | cases h
noncomputable def pN (ks:List (Str×NameKind)) (x:Str):Bool:=decide (ks.lookup x=some .globalImplicit)&&bP x
noncomputable def zf (x:Str):Bool:=PyData.strOk x&&decide (x.cps.size<=LIM)
noncomputable def eJ (ex:Expr):Bool:=Expr.casesOn (motive_1:=λ_=>Bool) ex (λ_ _ _=>true) (λ_ _ _=>true) (λ_ _ _ _=>true) (λ_ _ _=>true) (λ_ _ _ _=>true) (λ_ _ _ _=>true) (λ_ _ _=>true) (λ_ _ _=>true) (λ_ _ _ _=>true) (λ_ _ _ _=>true) (λ_ _ _ _ _=>true) (λ_ _ _ _=>true) (λ_ _=>true) (λ_ _=>true) (λ_ _=>true) (λ_ _ _ _=>true) (λ_ _ _ _=>true) (λ_ _ _ _=>true) (λ_ _=>true) (λ_ _ _=>true) (λ_ _ _=>true) (λ_ _ _=>true) (λ_ _=>false) (λ_ _=>true) (λ_ _=>true) (λ_ _ _=>true) (λ_ _ _ _=>true)
noncomputable def vf (ex:Expr):Bool:=(FX ex).isNone
noncomputable def pj (ex:Expr):Bool:=Expr.casesOn (motive_1:=λ_=>Bool) ex (λ_ _ _=>true) (λ_ _ _=>true) (λ_ _ _ _=>true) (λ_ _ _=>true) (λ_ _ _ _=>true) (λ_ _ _ _=>true) (λ_ _ _=>true) (λ_ _ _=>false) (λ_ _ _ _=>true) (λ_ _ _ _=>true) (λ_ _ _ _ _=>true) (λ_ _ _ _=>true) (λ_ _=>true) (λ_ _=>true) (λ_ _=>true) (λ_ _ _ _=>true) (λ_ _ _ _=>true) (λ_ _ _ _=>true) (λ_ _=>true) (λ_ _ _=>true) (λ_ _ _=>true) (λ_ _ _=>true) (λ_ _=>true) (λ_ _=>true) (λ_ _=>true) (λ_ _ _=>true) (λ_ _ _ _=>true)
noncomputable def yR (ex:Expr):Bool:=(sm ex).isNone
noncomputable def rI (t:Ty):Str:=Str.ofString (sU t)
noncomputable def qG:Bi->Str
 | .len=>"len"
 | .list=>"list"
 | .dict=>"dict"
 | .int=>"int"
 | .max=>"max"
 | .tuple=>"tuple"
 | .sorted=>"sorted"
 | .sortedSet=>"sorted"
 | .any=>"any"
 | .all=>"all"
 | .isinst _=>"isinstance"
noncomputable def Na:Bi->Bool
 | .sortedSet=>true
 | _=>false
theorem JG {b:Bi} (h:Na b=true):b=.sortedSet:=by cases b <;> first | rfl | cases h
noncomputable def Bi.plain:Bi->Bool
 | .isinst _ | .sortedSet=>false
 | _=>true
noncomputable def KU (sc:List (Str×Nat)):Tgt->Expr->Bool
 | .var i,ex=>ob (fk ex) λx=>decide (sc.lookup x=some i)&&bP x
 | .tup _,_=>false
variable {t:Tgt}
theorem Fy {ex:Expr} (h:KU sc t ex=true):X3 λi x p=>A4 (t=.var i) (ex=.Name x p) (sc.lookup x=some i) (bP x=true):=by
 cases t with
 | tup l=>cases h
 | var i=>replace h:=ao h; obtain ⟨x,h0,h⟩:=h;apply iY (bH h0); intro p;have h:(decide (sc.lookup x=some i)&&bP x)=true:=h;simp only [NO,decide_eq_true_eq] at h;exact ⟨i,x,p,rfl,rfl,h.1,h.2⟩
noncomputable def dN (ex:Expr):List Str:=oc (fk ex) (λx=>[x]) (oc (AD ex) (λxs=>xs.filterMap fk) [])
noncomputable def cM:Tgt->List Nat
 | .var i=>[i]
 | .tup is=>is
noncomputable def di (sc:List (Str×Nat)) (names:List (Str×NameKind)) (t:Tgt) (target:Expr):List (Str×Nat):=
 (dN target).zip (cM t)++(names.filter λx=>decide (x.2=.free)).filterMap λx=>(sc.lookup x.1).map λi=>(x.1,i)
noncomputable def DH (ks:List (Str×NameKind)) (sc:List (Str×Nat)) (scope:Scope) (t:Tgt) (target:Expr):Bool:=
 decide (scope.kind=.function)&&(scope.names.all λx=>match x.2 with
   | .local=>decide (scope.names.lookup x.1=some .local)
   | .free=>decide (scope.names.lookup x.1=some .free)&&decide (ks.lookup x.1=some .cell\/ks.lookup x.1=some .free)&&(sc.lookup x.1).isSome&&bP x.1
   | .globalImplicit=>true
   | _=>false)&&
 ((dN target).all λx=>decide (scope.names.lookup x=some .local)&&bP x)&&decide ((di sc scope.names t target).map (·.2)).Nodup&&decide ((dN target).length=(cM t).length)
noncomputable def jB (sc:List (Str×Nat)):List Nat->List Expr->Bool
 | [],xs=>xs.isEmpty
 | i::l,xs=>ob (HF xs) λq=>ob (fk q.1) λx=>decide (sc.lookup x=some i)&&jB sc l q.2
noncomputable def xz:Tgt->Bool
 | .tup _=>true
 | _=>false
noncomputable def mZ (sc:List (Str×Nat)):Tgt->Expr->Bool
 | .var i,ex=>ob (fk ex) λx=>decide (sc.lookup x=some i)
 | .tup l,ex=>ob (AD ex) λxs=>jB sc l xs
noncomputable def xA:It->Bool
 | .enum _=>true
 | _=>false
inductive InitX (h:Heap) (mN:Str->Option Value):Prop where
 | mk (f:Addr) (o:Obj) (fd:FuncData) (p0 p1 p2:Str) (n1 n2 n3 n4 n5 n6 n7 n8:Pos) (h1:mN "__init__"=some (.ref f)) (h2:h.get? f=some o) (h3:o.cls=.type "function") (h4:o.data=.func fd)
   (h5:fd.body=.stmts [.Assign [.Attribute (.Name p0 n1) jf n2] (.Name p1 n3) n4,.Assign [.Attribute (.Name p0 n5) cS n6] (.Name p2 n7) n8]) (h6:fd.closure=[]) (h7:h.CodeRec fd.code fd.qualname) (h8:fd.scope.kind=.function/\fd.scope.isCoroutine=false/\fd.scope.isGenerator=false)
   (h9:∀ a b c:Value,bindArgs fd ⟨[a,b,c],[]⟩=pure [(p0,a),(p1,b),(p2,c)]) (h10:∀ p∈[p0,p1,p2],fd.scope.names.lookup p=some .local/\bP p=true) (h11:p1≠p0/\p2≠p0/\p2≠p1):InitX h mN
variable {mN:Str->Option Value}
theorem InitX.keeps (X:InitX h mN) (hk:∀ b o,h.get? b=some o->h'.get? b=some o):InitX h' mN:=by
 cases X with
 | mk f o fd p0 p1 p2 n1 n2 n3 n4 n5 n6 n7 n8 h1 h2 h3 h4 h5 h6 h7 h8 h9 h10 h11=>exact ⟨f,o,fd,p0,p1,p2,n1,n2,n3,n4,n5,n6,n7,n8,h1,hk _ _ h2,h3,h4,h5,h6,h7.keeps hk,h8,h9,h10,h11⟩
section
variable (P:Nat->Option Fn) (gn:Nat->Str)
mutual
noncomputable def mE (ks:List (Str×NameKind)) (sc:List (Str×Nat)):E->Expr->Bool
 | .none=>λex=>ob (G9 ex) λ_=>true
 | .bool b=>λex=>ob (Hb ex) λc=>b==c
 | .int i=>λex=>ob (Lk ex) λj=>decide (i=j)
 | .str x=>λex=>ob (Lh ex) λy=>decide (x=y)&&zf x
 | .var i=>λex=>ob (fk ex) λx=>decide (sc.lookup x=some i)&&bP x
 | .glob g=>λex=>ob (fk ex) λx=>decide (x=gn g)&&pN ks x
 | .bin op _ a b=>λex=>ob (Jk ex) λq=>decide (Kt op=q.2.1)&&mE ks sc a q.1&&mE ks sc b q.2.2
 | .neg a=>λex=>ob (Lj ex) λx=>mE ks sc a x
 | .not a=>λex=>ob (Li ex) λx=>mE ks sc a x
 | .bop k es=>λex=>ob (Ji ex) λq=>decide (q.1=if k then .And else .Or)&&pA ks sc es q.2
 | .cmp op a b=>λex=>ob (F4 ex) λq=>ob (one q.2.1) λo=>ob (one q.2.2) λr=>decide (bU op=o)&&!behindInMarks o r&&mE ks sc a q.1&&mE ks sc b r
 | .cmp2 bp fK a b c=>λex=>ob (F4 ex) λq=>ob (two q.2.1) λo=>ob (two q.2.2) λr=>decide (bU bp=o.1)&&decide (bU fK=o.2)&&!behindInMarks o.2 r.2&&mE ks sc a q.1&&mE ks sc b r.1&&mE ks sc c r.2
 | .ite c a b=>λex=>ob (Mm ex) λq=>mE ks sc c q.1&&mE ks sc a q.2.1&&mE ks sc b q.2.2
 | .tup es=>λex=>ob (AD ex) λxs=>pA ks sc es xs&&decide (xs.length<=1000)
 | .list _ es=>λex=>ob (C5 ex) λxs=>pA ks sc es xs&&decide (xs.length<=1000)
 | .dict0=>λex=>ob (C7 ex) λq=>q.1.isEmpty&&q.2.isEmpty
 | .idx a i=>λex=>ob (AE ex) λq=>vf q.2&&mE ks sc a q.1&&mE ks sc i q.2
 | .slc _ a lo hi=>λex=>ob (AE ex) λq=>ob (FX q.2) λp=>p.2.2.isNone&&mE ks sc a q.1&&yW ks sc lo p.1&&yW ks sc hi p.2.1
 | .comp _ t it c e=>λex=>ob (C9 ex) λq=>ob (one q.2.1) λg=>decide (g.is_async=0)&&(xz t||!xA it)&&KV ks sc it g.iter&&pj g.iter&&DH ks sc q.2.2 t g.target&&mZ (di sc q.2.2.names t g.target) t g.target&&
       decide (g.ifs.length<=1)&&yW q.2.2.names (di sc q.2.2.names t g.target) c g.ifs.head?&&mE q.2.2.names (di sc q.2.2.names t g.target) e q.1&&(P 0).isSome
 | .call f es=>λex=>ob (pY ex) λq=>decide ((P f).map (λfn=>(fn.name,fn.meth||fn.ctor))=some (q.1,false))&&pN ks q.1&&pA ks sc es q.2
 | .bi b _ es=>λex=>ob (pY ex) λq=>decide (q.1=qG b)&&pN ks q.1&&(P 0).isSome&&(match M9 b with
     | some t=>ob (two q.2) λr=>ob (fk r.2) λz=>decide (z=rI t)&&pN ks z&&pA ks sc es [r.1]
     | none=>if Na b then ob (one q.2) λr=>ob (pY r) λz=>decide (z.1=("set":Str))&&pN ks z.1&&eJ r&&pA ks sc es z.2 else b.plain&&pA ks sc es q.2)
 | .meth b o es=>λex=>ob (Ha ex) λq=>decide (q.2.1=tI b)&&b.done&&yR q.1&&decide (q.2.2.2.1.length < 30)&&decide (q.2.2.1.endLine=q.2.2.2.2.line)&&mE ks sc o q.1&&pA ks sc es q.2.2.2.1
 | .freeze e=>λex=>mE ks sc e ex
 | .isx k e=>λex=>ob (pY ex) λq=>ob (two q.2) λr=>ob (fk r.2) λz=>decide (q.1=("isinstance":Str))&&pN ks q.1&&decide (z=kS k)&&pN ks z&&decide (k<=7)&&eJ r.1&&mE ks sc e r.1
noncomputable def pA (ks:List (Str×NameKind)) (sc:List (Str×Nat)):EL->List Expr->Bool
 | .nil=>λxs=>xs.isEmpty
 | .cons e es=>λxs=>ob (HF xs) λq=>eJ q.1&&mE ks sc e q.1&&pA ks sc es q.2
noncomputable def yW (ks:List (Str×NameKind)) (sc:List (Str×Nat)):EO->Option Expr->Bool
 | .no=>λx=>x.isNone
 | .yes e=>λx=>ob x λx=>mE ks sc e x
noncomputable def KV (ks:List (Str×NameKind)) (sc:List (Str×Nat)):It->Expr->Bool
 | .seq e=>λex=>mE ks sc e ex
 | .range e=>λex=>ob (pY ex) λq=>ob (one q.2) λa=>decide (q.1=("range":Str))&&pN ks q.1&&eJ a&&mE ks sc e a
 | .range2 ua kG=>λex=>ob (pY ex) λq=>ob (two q.2) λa=>decide (q.1=("range":Str))&&pN ks q.1&&eJ a.1&&mE ks sc ua a.1&&eJ a.2&&mE ks sc kG a.2
 | .enum e=>λex=>ob (pY ex) λq=>ob (one q.2) λa=>decide (q.1=("enumerate":Str))&&pN ks q.1&&eJ a&&mE ks sc e a
end
end
variable {P:Nat->Option Fn} {gn:Nat->Str}
theorem j5 (h:pA P gn ks sc .nil xs=true):xs=[]:=fC h
variable {e:E} {es:EL}
theorem ff (h:pA P gn ks sc (.cons e es) xs=true):X2 λy ys=>A4 (xs=y::ys) (eJ y=true) (mE P gn ks sc e y=true) (pA P gn ks sc es ys=true):=by refine kk λK k=>?_;replace h:=ao h; obtain ⟨⟨y,ys⟩,h1,h⟩:=h;have h:(eJ y&&mE P gn ks sc e y&&pA P gn ks sc es ys)=true:=h;simp only [NO] at h;refine k ?_;exact ⟨y,ys,me h1,h.1.1,h.1.2,h.2⟩
structure BiOk (Z:Cx):Prop where
 free:∀ b:Bi,Z.mg (qG b)=none/\(b.plain=true\/(∃ t,b=.isinst t)->Z.mb (qG b)=some (sI b))
 ty:∀ t:Ty,Z.mg (rI t)=none/\Z.mb (rI t)=some (.type (sU t))
 range:Z.mg "range"=none/\Z.mb "range"=some (.type "range")
 enum:Z.mg "enumerate"=none/\Z.mb "enumerate"=some (.type "enumerate")
 set:Z.mg "set"=none/\Z.mb "set"=some (.type "set")
inductive XAt (h:Heap) (k:Nat):Prop where
 | mk (nm q:Str) (N:Addr) (bs:List Value) (hdct:Bool) (sn:List Str) (sub:List Value) (ab:Bool) (col:Option Bool) (dd:Option Addr) (k0 k1 k2 k3 k5:Option Value) (mN:Str->Option Value) (h1:h.get? (KA k)=some (excClassObj nm q (KA k) N bs (cL k) hdct sn sub ab col dd k0 k1 k2 k3 k5 "ValueError.__new__"))
   (h2:h.Ns N mN) (h3:∀ n∈c7,mN n=none) (h4:k<=5->mN "__init__"=none) (h5:k=6->hdct=true/\InitX h mN):XAt h k
structure XOk (Z:Cx):Prop where
 own:∀ k,k<=6->Z.mg (kS k)=some (.ref (KA k))/\XAt Z.h₀ k
 inj:∀ i j,i<=6->j<=6->KA i=KA j->i=j
 ve:Z.mg "ValueError"=none/\Z.mb "ValueError"=some (.type "ValueError")
structure Wd (Z:Cx) (P:Nat->Option Fn) (gn:Nat->Str) (G:Nat->Option PyData) (cf:Nat->List V->ac->Res V) (d:Nat):Prop where
 w:World0 Z
 y:uA Z
 b:BiOk Z
 g:∀ k x,G k=some x->∃ v,Z.mg (gn k)=some v/\∀ T h,Rel T h v x
 c:∀ f fn,P f=some fn->(fn.meth||fn.ctor)=false->X3 λa o fd=>A4 (Z.mg fn.name=some (.ref a)) (Z.h₀.get? a=some o) (o.data=.func fd) (∀ A β σ s vs xs,jR Z d A->ey Z β s.heap->Inv Z β σ s.heap->VRels β σ s.heap vs xs->Et Z A (call (.ref a) vs) (cf f xs σ) β σ s)
 q:(P 0).isSome=true->Z.q=false
 x:XOk Z
 /-- what may be called while an exception is handled -/
 k:∀ f fn,P f=some fn->fn.name=("_law_kind":Str)->X3 λa o fd=>A4 (Z.mg fn.name=some (.ref a)) (Z.h₀.get? a=some o) (o.data=.func fd) (∀ A β σ s vs xs,jR { Z with q:=true } d A->ey Z β s.heap->Inv Z β σ s.heap->VRels β σ s.heap vs xs->Et Z A (call (.ref a) vs) (cf f xs σ) β σ s)
abbrev TR:Bool->Bool->List Addr->ac->Heap->Prop:=λa b _ _ _=>a=b
noncomputable def lq (r:Res V):Res Bool:=r.bind λv σ=>bg (truthy σ v) σ
variable {a:E} {vs:List Value} {d:Nat} {r:Res V} {t:Sem Value} {u:Value} {R:Value->V->List Addr->ac->Heap->Prop} {c:γ}
section
noncomputable def gy (Z:Cx) (A:Around) (env:Env) (ex:Expr) (r:Res V) (β:List Addr) (σ:ac) (s:Shared):Prop:=
 Ev Z bV A (eval ex env) r VR β σ s/\Ev Z bV A (isTrue ex env (eval ex env)) (lq r) TR β σ s
noncomputable def PE (Z:Cx) (P:Nat->Option Fn) (gn:Nat->Str) (G:Nat->Option PyData) (cf:Nat->List V->ac->Res V) (d:Nat) (e:E):Prop:=
 ∀ ks sc ex env ρ A β σ s,mE P gn ks sc e ex=true->jR Z d A->FrameOk Z env ks sc ρ β σ s.heap->Inv Z β σ s.heap->gy Z A env ex (ag G cf e ρ σ) β σ s
noncomputable def D7 (Z:Cx) (P:Nat->Option Fn) (gn:Nat->Str) (G:Nat->Option PyData) (cf:Nat->List V->ac->Res V) (d:Nat) (es:EL):Prop:=
 (∀ ks sc xs env ρ A β σ s,pA P gn ks sc es xs=true->jR Z d A->FrameOk Z env ks sc ρ β σ s.heap->Inv Z β σ s.heap->Ev Z bV A (spliced (starEach xs env)) (aW G cf es ρ σ) MH β σ s)/\
 (∀ k pos ks sc xs env ρ A β σ s,pA P gn ks sc es xs=true->jR Z d A->FrameOk Z env ks sc ρ β σ s.heap->Inv Z β σ s.heap->
   Ev Z bV A (boolOp pos (if k then .And else .Or) (evalEach xs env)) (gG G cf k es ρ σ) VR β σ s/\Ev Z bV A (allTrue (if k then .And else .Or) xs env) (lq (gG G cf k es ρ σ)) TR β σ s)
noncomputable def Gy (Z:Cx) (P:Nat->Option Fn) (gn:Nat->Str) (G:Nat->Option PyData) (cf:Nat->List V->ac->Res V) (d:Nat) (e:EO):Prop:=
 (∀ ks sc ex env ρ A β σ s,yW P gn ks sc e ex=true->jR Z d A->FrameOk Z env ks sc ρ β σ s.heap->Inv Z β σ s.heap->Ev Z bV A (valueOrNone (evalOpt ex env)) (dg G cf e ρ σ) JY β σ s)/\
 (∀ ks sc ex env ρ A β σ s,yW P gn ks sc e (some ex)=true->jR Z d A->FrameOk Z env ks sc ρ β σ s.heap->Inv Z β σ s.heap->∃ e',e=.yes e'/\gy Z A env ex (ag G cf e' ρ σ) β σ s)
noncomputable def JL (Z:Cx) (P:Nat->Option Fn) (gn:Nat->Str) (G:Nat->Option PyData) (cf:Nat->List V->ac->Res V) (d:Nat) (it:It):Prop:=
 ∀ ks sc ex env ρ A β σ s I aa,KV P gn ks sc it ex=true->jR Z d A->A.handled=none->FrameOk Z env ks sc ρ β σ s.heap->Inv Z β σ s.heap->bX G cf it ρ σ=.ok I aa->
   wpAny (model Z.prog Z.w) A (eval ex env) (λx ai=>wpAny (model Z.prog Z.w) A (pyIter x) (λitv aj=>ItPost Z A (xA it) I β σ s aa itv aj) (λ_ _=>False) ai) (λ_ _=>False) s
variable {ex:Expr}
theorem Step.toks {tk:Nat} (S:Step O β σ s β' σ' s'):Step O β σ s β' σ' { s' with toks:=tk }:=⟨S.ext,S.mono,S.keepW,S.alive,S.gens,S.os⟩
theorem wN (h:lq r=.ok b σ'):∃ v,r=.ok v σ'/\truthy σ' v=some b:=by
 cases r with
 | bad=>cases h
 | ok v aa=>
   have h:bg (truthy aa v) aa=.ok b σ':=h;cases ht:truthy aa v with
   | none=>rw [ht] at h; cases h
   | some b'=>rw [ht] at h; cases h; exact ⟨v,rfl,ht⟩
theorem ic (a:Res γ) (f:γ->ac->Res V):lq (a.bind f)=a.bind λx σ=>lq (f x σ):=by cases a <;> rfl
theorem uL (o:Option Bool) (σ:ac):lq (bg (o.map λb=>V.d (.bool b)) σ)=(bg o σ).bind λb σ=>.ok b σ:=by cases o <;> rfl
theorem EK (t:Bool) (a b:Res V):lq (if t then a else b)=if t then lq a else lq b:=by cases t <;> rfl
theorem sy (op:COp) (a b:E) (ρ:Fm) (σ:ac):ag G cf (.cmp op a b) ρ σ=(ag G cf a ρ σ).bind λx aa=>(ag G cf b ρ aa).bind λy af=>bg ((br op x y af).map λb=>V.d (.bool b)) af:=rfl
theorem qk (bp fK:COp) (a b c:E) (ρ:Fm) (σ:ac):ag G cf (.cmp2 bp fK a b c) ρ σ=(ag G cf a ρ σ).bind λx aa=>(ag G cf b ρ aa).bind λy af=>(bg (br bp x y af) af).bind λt af=>if t then (ag G cf c ρ af).bind λz au=>bg ((br fK y z au).map λb=>V.d (.bool b)) au else .ok (.d (.bool false)) af:=rfl
theorem BA (Y:uA Z) (h:Ev Z O A t r VR β σ s):∀ b σ',lq r=.ok b σ'->wpAny (model Z.prog Z.w) A t (λv ai=>wpAny (model Z.prog Z.w) A (PySem.truthy v) (λa s'=>Po Z O β σ s σ' s' λβ'=>a=b) (λ_ _=>False) ai) (λ_ _=>False) s:=by intro b σ' e;obtain ⟨v,rfl,hb⟩:=wN e;refine NM (h v σ' rfl) (λw ai ⟨ah,S,I,q⟩=>?_) λ_ _ x=>x;exact iE Y I q hb λtk=>⟨ah,S.toks,I,rfl⟩
theorem gy.plain (Y:uA Z) (hp:isTrue ex env (eval ex env)=(do let v <- eval ex env; standAt ex.pos; holding [v] (PySem.truthy v))) (h:Ev Z bV A (eval ex env) r VR β σ s):gy Z A env ex r β σ s:=by refine ⟨h,λb σ' e=>?_⟩;rw [hp];exact MQ (NM (BA Y h b σ' e) (λv ai aX=>MQ (Ow (OG aX))) λ_ _ x=>x)
theorem iu {f:α->γ} (h:bg (o.map f) σ=.ok c σ'):∃ a,A3 (o=some a) (c=f a) (σ'=σ):=by
 cases o with
 | none=>cases h
 | some a=>cases h; exact ⟨a,rfl,rfl,rfl⟩
theorem tL {f:α->γ} {P:γ->ac->Prop} (h:bg (o.map f) σ=.ok c σ') (k:∀ a,o=some a->P (f a) σ):P c σ':=by obtain ⟨a,e,e1,e2⟩:=iu h; exact e1 ▸ e2 ▸ k a e
theorem yY {c:α} (h:bg o σ=.ok c σ'):o=some c/\σ'=σ:=by
 cases o with
 | none=>cases h
 | some a=>cases h; exact ⟨rfl,rfl⟩
theorem IA (D:Wd Z P gn G cf d):PE Z P gn G cf d .none:=λks sc ex env ρ A β σ s hm hA F I=>by
 replace hm:=ao hm; obtain ⟨_,h0,hm⟩:=hm;apply Ep (C3 h0); intro _ _
 . exact gy.plain D.y rfl (Ev.grown I (wpAny_Constant_none ⟨λ_ _ e=>e,rfl,rfl,.none⟩))
theorem IN (D:Wd Z P gn G cf d) (b:Bool):PE Z P gn G cf d (.bool b):=λks sc ex env ρ A β σ s hm hA F I=>by
 replace hm:=ao hm; obtain ⟨c,h0,hm⟩:=hm;apply Ep (Dc h0); intro _ _
 . have:=eq_of_beq hm; subst this;exact gy.plain D.y rfl (Ev.grown I (wpAny_Constant_bool ⟨λ_ _ e=>e,rfl,rfl,.bool _⟩))
theorem KH (D:Wd Z P gn G cf d) (i:Int):PE Z P gn G cf d (.int i):=λks sc ex env ρ A β σ s hm hA F I=>by
 replace hm:=ao hm; obtain ⟨c,h0,hm⟩:=hm;obtain ⟨_,_,rfl⟩:=F1 h0
 . have:=of_decide_eq_true hm; subst this;exact gy.plain D.y rfl (Ev.grown I (wpAny_Constant_int ⟨λ_ _ e=>e,rfl,rfl,.int _ _⟩))
theorem vF (h:zf x=true):cD x:=by simp only [zf,NO,decide_eq_true_eq] at h; exact h
theorem Kx (D:Wd Z P gn G cf d) (x:Str):PE Z P gn G cf d (.str x):=λks sc ex env ρ A β σ s hm hA F I=>by
 replace hm:=ao hm; obtain ⟨c,h0,hm⟩:=hm;obtain ⟨_,_,rfl⟩:=FV h0
 . simp only [NO,decide_eq_true_eq] at hm;obtain ⟨rfl,hg⟩:=hm;exact gy.plain D.y rfl (Ev.grown I (wpAny_Constant_str ⟨λ_ _ e=>e,rfl,rfl,.str _ _ (vF hg)⟩))
theorem cA (h:bP x=true):(x==("__debug__":Str))=false/\(x==("__classdict__":Str))=false:=by simpa only [bP,NO,Oo] using h
theorem Kv (D:Wd Z P gn G cf d) (i:Nat):PE Z P gn G cf d (.var i):=λks sc ex env ρ A β σ s hm hA F I=>by
 replace hm:=ao hm; obtain ⟨x,h0,hm⟩:=hm;apply iY (bH h0); intro pos
 . skip
   simp only [NO,decide_eq_true_eq] at hm;refine gy.plain D.y rfl λc σ' e=>?_;rw [DA] at e;obtain ⟨hv,hu,rfl⟩:=FD e;exact wpAny_Name (F.load hm.1 hv (λq=>hu q) λw hw=>⟨β,Step.refl,I,hw⟩) (cA hm.2).1
theorem CM (F:FrameOk Z env ks sc ρ β σ h) (hg:pN ks x=true):env.kindOf x=some .globalImplicit/\(x==("__debug__":Str))=false:=by
 simp only [pN,NO,decide_eq_true_eq] at hg;refine ⟨?_,(cA hg.2).1⟩;rcases F.kinds x _ hg.1 with h | ⟨h,_⟩
 . exact h
 . cases h
theorem gD {E:Value->Shared->Prop} (D:Wd Z P gn G cf d) (F:FrameOk Z env ks sc ρ β σ s.heap) (I:Inv Z β σ s.heap) (hg:pN ks x=true) (hv:Z.mg x=some v) (q:Q v s) :
   wpAny (model Z.prog Z.w) A (eval (.Name x pos) env) Q E s:=by
 obtain ⟨h1,h2⟩:=CM F hg;obtain ⟨k1,k2,k3⟩:=D.w.keeps I;exact Name_function_global F.kind h1 (loadGlobal_global (by rw [F.globals]; exact k1) hv q) h2
theorem eK {E:Value->Shared->Prop} (D:Wd Z P gn G cf d) (F:FrameOk Z env ks sc ρ β σ s.heap) (I:Inv Z β σ s.heap) (hg:pN ks x=true) (hn:Z.mg x=none) (hv:Z.mb x=some v) (q:Q v s) :
   wpAny (model Z.prog Z.w) A (eval (.Name x pos) env) Q E s:=by
 obtain ⟨h1,h2⟩:=CM F hg;obtain ⟨k1,k2,k3⟩:=D.w.keeps I;exact Name_function_global F.kind h1 (loadGlobal_builtin (by rw [F.globals]; exact k1) hn (by rw [F.builtins]; exact k2) hv q) h2
theorem IF (D:Wd Z P gn G cf d) (g:Nat):PE Z P gn G cf d (.glob g):=λks sc ex env ρ A β σ s hm hA F I=>by
 replace hm:=ao hm; obtain ⟨x,h0,hm⟩:=hm;apply iY (bH h0); intro pos
 . skip
   simp only [NO,decide_eq_true_eq] at hm;obtain ⟨rfl,hg⟩:=hm;refine gy.plain D.y rfl λc σ' e=>?_;rw [Gm] at e;apply tL e; intro x hx;obtain ⟨w,h1,h2⟩:=D.g g x hx;exact gD D F I hg h1 ⟨β,Step.refl,I,h2 _ _⟩
theorem Ev.operate (h:Ev Z O A t r R β σ s):Ev Z O A (operate vs t) r R β σ s:=λc σ' e=>wpAny_operating (h c σ' e)
theorem KM (D:Wd Z P gn G cf d) {op:BOp} {b:E} (ha:PE Z P gn G cf d a) (hb:PE Z P gn G cf d b):PE Z P gn G cf d (.bin op m a b):=λks sc ex env ρ A β σ s hm hA F I=>by
 replace hm:=ao hm; obtain ⟨⟨l,o,r⟩,h0,hm⟩:=hm;apply iY (Gb h0); intro pos
 . skip
   simp only [NO,decide_eq_true_eq] at hm;obtain ⟨⟨rfl,h1⟩,h2⟩:=hm;refine gy.plain D.y rfl ?_;rw [arm_eval_BinOp];rw [Jv];refine Ev.bind (ha ks sc l env ρ A β σ s h1 hA F I).1 λv x ah aa ai az al rx _=>?_;refine Ev.bind (Ev.holding (hb ks sc r env ρ A ah aa ai h2 hA (F.step az) al).1) λu y aL af aj bY bQ ry _=>?_;exact Ev.standAt (Ev.operate (yh bQ (bY.vrel0 rx) ry))
theorem KD (D:Wd Z P gn G cf d) (ha:PE Z P gn G cf d a):PE Z P gn G cf d (.neg a):=λks sc ex env ρ A β σ s hm hA F I=>by
 replace hm:=ao hm; obtain ⟨x,h0,hm⟩:=hm;apply iY (FZ h0); intro pos
 . skip
   refine gy.plain D.y rfl ?_;rw [arm_eval_UnaryOp];rw [Ju];refine Ev.bind (ha ks sc x env ρ A β σ s hm hA F I).1 λv x ah aa ai az al rx _=>?_;refine Ev.standAt (Ev.holding ?_);refine aN (λi hi=>?_) Ev.bad;rw [dv hi] at rx;apply iY (sS rx); intro t;exact bK al (PyProof.Rows.neg_int ⟨⟨_,_,rfl⟩,.int _ _⟩)
theorem KB (D:Wd Z P gn G cf d) (ha:PE Z P gn G cf d a):PE Z P gn G cf d (.not a):=λks sc ex env ρ A β σ s hm hA F I=>by
 replace hm:=ao hm; obtain ⟨x,h0,hm⟩:=hm;apply iY (FY h0); intro pos
 . skip
   have hx:=ha ks sc x env ρ A β σ s hm hA F I;constructor
   . rw [arm_eval_UnaryOp];rw [DB];refine Ev.bind hx.1 λv x ah aa ai az al rx _=>?_;refine Ev.standAt (Ev.holding λc σ' e=>?_);apply tL e; intro b hb;exact not_value (iE D.y al rx hb λtk=>⟨ah,Step.refl.toks,al,.bool _⟩)
   . intro c σ' e;refine wpAny_isTrue_Not ?_;rw [DB] at e;obtain ⟨v,e,hc⟩:=wN e;cases h:ag G cf a ρ σ with
     | bad=>rw [h] at e; cases e
     | ok w aa=>rw [h] at e;obtain ⟨b,hb,rfl,rfl⟩:=iu e;cases hc;refine NM (hx.2 b σ' (by rw [h]; exact congrArg (λo=>bg o σ') hb)) (λa s' ⟨β',S,I',q⟩=>⟨β',S,I',by rw [q]⟩) λ_ _ x=>x
theorem KF (D:Wd Z P gn G cf d) {c b:E} (hc:PE Z P gn G cf d c) (ha:PE Z P gn G cf d a) (hb:PE Z P gn G cf d b):PE Z P gn G cf d (.ite c a b):=λks sc ex env ρ A β σ s hm hA F I=>by
 replace hm:=ao hm; obtain ⟨⟨t,x,y⟩,h0,hm⟩:=hm;apply iY (Je h0); intro pos
 . skip
   simp only [NO] at hm;obtain ⟨⟨h1,h2⟩,h3⟩:=hm;have ht:=(hc ks sc t env ρ A β σ s h1 hA F I).2;have ev:ag G cf (.ite c a b) ρ σ=(lq (ag G cf c ρ σ)).bind λt aa=>if t then ag G cf a ρ aa else ag G cf b ρ aa:=by have ev0:ag G cf (.ite c a b) ρ σ=(ag G cf c ρ σ).bind (λx aa=>(bg (truthy aa x) aa).bind λt aa=>if t then ag G cf a ρ aa else ag G cf b ρ aa):=rfl;rw [ev0];unfold lq;cases ag G cf c ρ σ <;> rfl
   constructor
   . rw [ev,arm_eval_IfExp];refine Ev.bind ht λv w ah aa ai az al rx _=>?_;cases rx;cases v with
     | true=>exact (ha ks sc x env ρ A ah aa ai h2 hA (F.step az) al).1
     | false=>exact (hb ks sc y env ρ A ah aa ai h3 hA (F.step az) al).1
   . have ev':lq (ag G cf (.ite c a b) ρ σ)=(lq (ag G cf c ρ σ)).bind λt aa=>if t then lq (ag G cf a ρ aa) else lq (ag G cf b ρ aa):=by
       rw [ev];cases lq (ag G cf c ρ σ) with
       | bad=>rfl
       | ok t aa=>cases t <;> rfl
     rw [ev',arm_isTrue_IfExp];refine Ev.bind ht λv w ah aa ai az al rx _=>?_;cases rx;cases v with
     | true=>exact (ha ks sc x env ρ A ah aa ai h2 hA (F.step az) al).2
     | false=>exact (hb ks sc y env ρ A ah aa ai h3 hA (F.step az) al).2
theorem qr (D:Wd Z P gn G cf d) {x:V} (hA:jR Z d A) (I:Inv Z β σ s.heap) (rx:aw β σ s.heap v x) (ry:aw β σ s.heap u y) :
   Ev Z O A (compareOp (bU op) v u) (bg (br op x y σ) σ) (λw b _ _ _=>w=.bool b) β σ s:=λc σ' e=>by
 obtain ⟨hb,rfl⟩:=yY e;exact xZ D.y I hA.room rx ry hb λtk=>⟨β,Step.refl.toks,I,rfl⟩
theorem jp (I:Inv Z β σ s.heap):Ev Z O A (holding vs (PySem.truthy (.bool b))) (.ok b σ) TR β σ s:=Ev.holding (Ev.done (wpAny_truthy_bool ⟨β,Step.refl,I,rfl⟩))
theorem KJ (D:Wd Z P gn G cf d) {b:E} (ha:PE Z P gn G cf d a) (hb:PE Z P gn G cf d b):PE Z P gn G cf d (.cmp op a b):=λks sc ex env ρ A β σ s hm hA F I=>by
 replace hm:=ao hm; obtain ⟨⟨l,os,rs⟩,h0,hm⟩:=hm;apply iY (zh h0); intro pos;replace hm:=ao hm; obtain ⟨o,k1,hm⟩:=hm;replace hm:=ao hm; obtain ⟨r,k2,hm⟩:=hm;replace k1:=da k1; replace k2:=da k2; subst k1; subst k2
 . skip
   simp only [NO,decide_eq_true_eq,Oo] at hm;obtain ⟨⟨⟨rfl,hk⟩,h1⟩,h2⟩:=hm;have pre:∀ {α γ:Type} {k:Value->Value->Sem α} {q:V->V->ac->Res γ} {R:α->γ->List Addr->ac->Heap->Prop},(∀ v u x y β σ s,Inv Z β σ s.heap->aw β σ s.heap v x->aw β σ s.heap u y->Ev Z bV A (k v u) (q x y σ) R β σ s)->
       Ev Z bV A (eval l env >>= λv=>holding [v] (eval r env) >>= λu=>standAt pos >>= λ_=>k v u) ((ag G cf a ρ σ).bind λx aa=>(ag G cf b ρ aa).bind λy af=>q x y af) R β σ s:=λhk=>by
     refine Ev.bind (ha ks sc l env ρ A β σ s h1 hA F I).1 λv x ah aa ai az al rx _=>?_;refine Ev.bind (Ev.holding (hb ks sc r env ρ A ah aa ai h2 hA (F.step az) al).1) λu y aL af aj bY bQ ry _=>?_;exact Ev.standAt (hk v u x y aL af aj bQ (bY.vrel0 rx) ry)
   constructor
   . have e1:eval (.Compare l [bU op] [r] pos) env=(eval l env >>= λv=>holding [v] (eval r env) >>= λu=>standAt pos >>= λ_=>operate [v,u] (compareOp (bU op) v u)):=by rw [eval_Compare1,markedBehindIn_of_false hk]
     rw [e1];rw [sy];refine pre λv u x y β σ s I rx ry=>Ev.operate λc σ' e=>?_;obtain ⟨b,hb,rfl,rfl⟩:=iu e;exact NM (qr D hA I rx ry b σ' (by rw [hb]; rfl)) (λw s' ⟨β',S,I',q⟩=>⟨β',S,I',by rw [q]; exact .bool _⟩) λ_ _ x=>x
   . have e1:isTrue (.Compare l [bU op] [r] pos) env (eval (.Compare l [bU op] [r] pos) env)=(eval l env >>= λv=>holding [v] (eval r env) >>= λu=>standAt pos >>= λ_=>operate [v,u] (compareOp (bU op) v u) >>= λc=>holding [c] (PySem.truthy c)):=by rw [arm_isTrue_Compare];show (do testChain pos (<- eval l env) [bU op] [markedBehindIn (bU op) r (eval r env)])=_;rw [markedBehindIn_of_false hk];rfl
     have e2:lq (ag G cf (.cmp op a b) ρ σ)=(ag G cf a ρ σ).bind λx aa=>(ag G cf b ρ aa).bind λy af=>(bg (br op x y af) af).bind λb af=>.ok b af:=by rw [sy,ic]; refine congrArg _ (funext λx=>funext λaa=>?_); rw [ic]; refine congrArg _ (funext λy=>funext λaf=>?_); exact uL _ _
     rw [e1,e2];refine pre λv u x y β σ s I rx ry=>?_;refine Ev.bind (R:=λw b _ _ _=>w=.bool b) (λc σ' e=>wpAny_operating (qr D hA I rx ry c σ' e)) λw b ah aa ai az al q _=>?_;subst q;exact jp al
theorem IK (D:Wd Z P gn G cf d) {bp fK:COp} {b c:E} (ha:PE Z P gn G cf d a) (hb:PE Z P gn G cf d b) (hc:PE Z P gn G cf d c):PE Z P gn G cf d (.cmp2 bp fK a b c):=λks sc ex env ρ A β σ s hm hA F I=>by
 replace hm:=ao hm; obtain ⟨⟨l,os,rs⟩,h0,hm⟩:=hm;apply iY (zh h0); intro pos;replace hm:=ao hm; obtain ⟨⟨Nk,Nj⟩,k1,hm⟩:=hm;replace hm:=ao hm; obtain ⟨⟨m,r⟩,k2,hm⟩:=hm;replace k1:=iD k1; replace k2:=iD k2; subst k1; subst k2
 . skip
   simp only [NO,decide_eq_true_eq,Oo] at hm;obtain ⟨⟨⟨⟨⟨rfl,rfl⟩,hk⟩,h1⟩,h2⟩,h3⟩:=hm;have pre:∀ {α γ:Type} {k:Value->Value->Sem α} {stop:Value->Sem α} {q:V->V->ac->Res γ} {z:ac->Res γ} {R:α->γ->List Addr->ac->Heap->Prop},(∀ v u x y β σ s,Inv Z β σ s.heap->aw β σ s.heap v x->aw β σ s.heap u y->Ev Z bV A (k v u) (q x y σ) R β σ s)->
       (∀ β σ s,Inv Z β σ s.heap->Ev Z bV A (stop (.bool false)) (z σ) R β σ s)->
       Ev Z bV A (eval l env >>= λv=>holding [v] (eval m env) >>= λu=>standAt pos >>= λ_=>holding [v,u] (compareOp (bU bp) v u) >>= λc=>release [v,u] [c] >>= λ_=>holding [c,u] (PySem.truthy c) >>= λt=>if t=true then (holding [u] (eval r env) >>= λw=>standAt pos >>= λ_=>k u w) else stop c)
         ((ag G cf a ρ σ).bind λx aa=>(ag G cf b ρ aa).bind λy af=>(bg (br bp x y af) af).bind λt af=>if t then (ag G cf c ρ af).bind λw au=>q y w au else z af) R β σ s:=λhk hs=>by
     refine Ev.bind (ha ks sc l env ρ A β σ s h1 hA F I).1 λv x ah aa ai az al rx _=>?_;refine Ev.bind (Ev.holding (hb ks sc m env ρ A ah aa ai h2 hA (F.step az) al).1) λu y aL af aj bY bQ ry _=>?_;refine Ev.standAt (Ev.bind (Ev.holding (qr D hA bQ (bY.vrel0 rx) ry)) λw t uB au aR qN wF q _=>?_);subst q;refine λc' σ' e=>MQ (wpAny_release (MQ (OG (wpAny_truthy_bool ?_))));cases t with
     | false=>exact hs uB au aR wF c' σ' (by rw [if_neg (by simp)] at e; exact e)
     | true=>rw [if_pos rfl] at e;rw [if_pos rfl];refine (Ev.bind (Ev.holding (hc ks sc r env ρ A uB au aR h3 hA ((F.step az).step (bY.trans qN)) wF).1) λw z ls JZ fJ Bh D8 rz _=>?_) c' σ' e;exact Ev.standAt (hk u w y z ls JZ fJ D8 ((qN.trans Bh).vrel0 ry) rz)
   constructor
   . have e1:eval (.Compare l [bU bp,bU fK] [m,r] pos) env=(eval l env >>= λv=>holding [v] (eval m env) >>= λu=>standAt pos >>= λ_=>holding [v,u] (compareOp (bU bp) v u) >>= λc=>release [v,u] [c] >>= λ_=>holding [c,u] (PySem.truthy c) >>= λt=>if t=true then (holding [u] (eval r env) >>= λw=>standAt pos >>= λ_=>operate [u,w] (compareOp (bU fK) u w)) else pure c):=by rw [arm_eval_Compare];show (do compareChain pos (<- eval l env) [bU bp,bU fK] [eval m env,markedBehindIn (bU fK) r (eval r env)])=_;rw [markedBehindIn_of_false hk];rfl
     rw [e1];rw [qk];refine pre (λv u x y β σ s I rx ry=>Ev.operate λc σ' e=>?_) λβ σ s I=>Ev.pure I (.bool _);obtain ⟨b,hb,rfl,rfl⟩:=iu e;exact NM (qr D hA I rx ry b σ' (by rw [hb]; rfl)) (λw s' ⟨β',S,I',q⟩=>⟨β',S,I',by rw [q]; exact .bool _⟩) λ_ _ x=>x
   . have e1:isTrue (.Compare l [bU bp,bU fK] [m,r] pos) env (eval (.Compare l [bU bp,bU fK] [m,r] pos) env)=(eval l env >>= λv=>holding [v] (eval m env) >>= λu=>standAt pos >>= λ_=>holding [v,u] (compareOp (bU bp) v u) >>= λc=>release [v,u] [c] >>= λ_=>holding [c,u] (PySem.truthy c) >>= λt=>if t=true then (holding [u] (eval r env) >>= λw=>standAt pos >>= λ_=>operate [u,w] (compareOp (bU fK) u w) >>= λc=>holding [c] (PySem.truthy c)) else pure false):=by rw [arm_isTrue_Compare];show (do testChain pos (<- eval l env) [bU bp,bU fK] [eval m env,markedBehindIn (bU fK) r (eval r env)])=_;rw [markedBehindIn_of_false hk];rfl
     have e2:lq (ag G cf (.cmp2 bp fK a b c) ρ σ)=(ag G cf a ρ σ).bind λx aa=>(ag G cf b ρ aa).bind λy af=>(bg (br bp x y af) af).bind λt af=>if t then (ag G cf c ρ af).bind λw au=>(bg (br fK y w au) au).bind λb au=>.ok b au else .ok false af:=by
       rw [qk,ic]; refine congrArg _ (funext λx=>funext λaa=>?_); rw [ic]; refine congrArg _ (funext λy=>funext λaf=>?_); rw [ic]; refine congrArg _ (funext λt=>funext λau=>?_);rw [EK];cases t with
       | false=>rfl
       | true=>rw [if_pos rfl,if_pos rfl,ic]; refine congrArg _ (funext λw=>funext λMQ=>?_); exact uL _ _
     rw [e1,e2];refine pre (λv u x y β σ s I rx ry=>?_) λβ σ s I=>Ev.pure I rfl;refine Ev.bind (R:=λw b _ _ _=>w=.bool b) (λc σ' e=>wpAny_operating (qr D hA I rx ry c σ' e)) λw b ah aa ai az al q _=>?_;subst q;exact jp al
end
variable {ns:List Nat} {l:List PyData} {vs:List V} {ws:List Value} {r1:Res Bool} {k:ac->Res (List V)} {r2:ac->Res Bool}
section
variable {ex:Expr}
theorem Res.bind_ok {r:Res α} {f:α->ac->Res γ} (h:r.bind f=.ok c σ'):X2 λa aa=>r=.ok a aa/\f a aa=.ok c σ':=by
 cases r with
 | bad=>cases h
 | ok a aa=>exact ⟨a,aa,rfl,h⟩
theorem a7 {x:Expr} (xs:List Expr) (h:eJ x=true):starEach (x::xs) env=(false,eval x env)::starEach xs env:=by cases x <;> first | rfl | cases h
theorem Ev.consVR {x:Sem Value} {rest:List (Bool×Sem Value)} (h:Ev Z bV A x r VR β σ s)
   (hk:∀ v c β' σ' s',Step bV β σ s β' σ' s'->Inv Z β' σ' s'.heap->aw β' σ' s'.heap v c->Ev Z bV A (spliced rest) (k σ') MH β' σ' s') :
   Ev Z bV A (spliced ((false,x)::rest)) (r.bind λv aa=>(k aa).bind λvs af=>.ok (v::vs) af) MH β σ s:=λc σ' e=>by
 cases r with
 | bad=>cases e
 | ok v aa=>
   refine spliced_cons (NM (h v aa rfl) (λa ai ⟨ah,az,al,Ae⟩=>?_) λ_ _ x=>x);have e:((k aa).bind λvs af=>Res.ok (v::vs) af)=.ok c σ':=e;cases hr:k aa with
   | bad=>rw [hr] at e; cases (e)
   | ok vs af=>rw [hr] at e;cases (e);refine NM (hk a v ah aa ai az al Ae vs σ' hr) (λas aj ⟨aL,bY,bQ,xa⟩=>?_) λ_ _ x=>x;exact ⟨aL,az.trans bY,bQ,.cons (bY.vrel0 Ae) xa⟩
theorem c5 {pos:Pos}:∀ {es:EL} {xs:List Expr},pA P gn ks sc es xs=true->backTo pos (starEach xs env)=starEach xs env/\(starEach xs env).any (·.1)=false
 | .nil,xs,h=>by replace h:=j5 h; subst h;exact ⟨rfl,rfl⟩
 | .cons e es,xs,h=>by
   replace h:=ff h; obtain ⟨x,xs,rfl,h1,h2,h3⟩:=h;have ih:=c5 (pos:=pos) h3;rw [a7 _ h1];refine ⟨?_,?_⟩
   . show (false,eval x env)::backTo pos (starEach xs env)=_;rw [ih.1]
   . simp only [Pw,P1]; exact ih.2
theorem kh:∀ {es:EL} {xs:List Expr} {ρ:Fm} {σ σ':ac} {vs:List V},pA P gn ks sc es xs=true->aW G cf es ρ σ=.ok vs σ'->vs.length=xs.length
 | .nil,xs,ρ,σ,σ',vs,h,e=>by replace h:=j5 h; subst h;rw [Dy] at e; cases e; rfl
 | .cons e es,xs,ρ,σ,σ',vs,h,ev=>by replace h:=ff h; obtain ⟨x,xs,rfl,_,_,h⟩:=h;rw [Gk] at ev;obtain ⟨v,aa,h1,ev⟩:=Res.bind_ok ev;obtain ⟨ws,af,h2,ev⟩:=Res.bind_ok ev;cases ev;rw [NU,NU,kh h h2]
theorem KC (D:Wd Z P gn G cf d):D7 Z P gn G cf d .nil:=by
 constructor
 . intro ks sc xs env ρ A β σ s hm hA F I;replace h:=j5 hm; subst h;exact Ev.pure I .nil
 . intro k pos ks sc xs env ρ A β σ s hm hA F I;exact ⟨Ev.bad,Ev.bad⟩
theorem AO (k:Bool) (e:E) (ρ:Fm) (σ:ac):gG G cf k (.cons e .nil) ρ σ=ag G cf e ρ σ:=rfl
theorem ql (k:Bool) (e e':E) (es:EL) (ρ:Fm) (σ:ac):gG G cf k (.cons e (.cons e' es)) ρ σ=(ag G cf e ρ σ).bind λx aa=>(bg (truthy aa x) aa).bind λt aa=>if t=k then gG G cf k (.cons e' es) ρ aa else .ok x aa:=rfl
theorem BB (k:Bool) (e e':E) (es:EL) (ρ:Fm) (σ:ac):lq (gG G cf k (.cons e (.cons e' es)) ρ σ)=(lq (ag G cf e ρ σ)).bind λt aa=>if t=k then lq (gG G cf k (.cons e' es) ρ aa) else .ok t aa:=by
 rw [ql];cases ag G cf e ρ σ with
 | bad=>rfl
 | ok x aa=>
   show lq ((bg (truthy aa x) aa).bind λt aa=>if t=k then gG G cf k (.cons e' es) ρ aa else .ok x aa)=(bg (truthy aa x) aa).bind λt aa=>if t=k then lq (gG G cf k (.cons e' es) ρ aa) else .ok t aa
   cases h:truthy aa x with
   | none=>rfl
   | some t=>
     show lq (if t=k then gG G cf k (.cons e' es) ρ aa else .ok x aa)=if t=k then lq (gG G cf k (.cons e' es) ρ aa) else .ok t aa
     by_cases hk:t=k
     . rw [if_pos hk,if_pos hk]
     . rw [if_neg hk,if_neg hk];exact congrArg (λo=>bg o aa) h
theorem Ba {t1 t2:Sem Value} {r1:Res V} {r2:ac->Res V} (Y:uA Z) (k:Bool) (h1:Ev Z bV A t1 r1 VR β σ s) (h2:∀ ah aa ai,Step bV β σ s ah aa ai->Inv Z ah aa ai.heap->Ev Z bV A t2 (r2 aa) VR ah aa ai) :
   Ev Z bV A (do
     let v <- t1
     standAt pos
     let t <- holding [v] (PySem.truthy v)
     match (if k then BoolOp.And else BoolOp.Or),t with
     | .And,false | .Or,true=>pure v
     | _,_=>t2) (r1.bind λx aa=>(bg (truthy aa x) aa).bind λt aa=>if t=k then r2 aa else .ok x aa) VR β σ s:=by
 refine Ev.bind h1 λv c ah aa ai az al rv _=>?_;refine Ev.standAt λc' σ' e=>?_;cases ht:truthy aa c with
 | none=>rw [ht] at e; cases e
 | some t=>
   rw [ht] at e;replace e:(if t=k then r2 aa else .ok c aa)=.ok c' σ':=e;refine MQ (OG (iE Y al rv ht λtk=>?_));clear ht;by_cases hk:t=k
   . rw [if_pos hk] at e;have T:=NM (h2 ah aa { ai with toks:=tk } (az.toks (tk:=tk)) al c' σ' e) (λa s' ⟨β',S,I',q⟩=>(⟨β',⟨S.ext,S.mono,S.keepW,S.alive,S.gens,S.os⟩,I',q⟩:Po Z bV ah aa ai σ' s' λβ'=>VR a c' β' σ' s'.heap)) λ_ _ x=>x;clear e h2 h1;rw [hk];cases (k) <;> exact T
   . rw [if_neg hk] at e;cases e;have T:Po Z bV ah aa ai aa { ai with toks:=tk } λβ'=>VR v c β' aa ai.heap:=⟨ah,Step.refl.toks,al,rv⟩
     clear h2 h1;cases (t) <;> cases (k) <;> first | exact absurd rfl hk | exact NF T
theorem A2 {t1 t2:Sem Bool} (k:Bool) (h1:Ev Z bV A t1 r1 (λa b _ _ _=>a=b) β σ s) (h2:∀ ah aa ai,Step bV β σ s ah aa ai->Inv Z ah aa ai.heap->Ev Z bV A t2 (r2 aa) (λa b _ _ _=>a=b) ah aa ai) :
   Ev Z bV A (do
     match (if k then BoolOp.And else BoolOp.Or),<- t1 with
     | .And,false=>pure false
     | .Or,true=>pure true
     | _,_=>t2) (r1.bind λt aa=>if t=k then r2 aa else .ok t aa) (λa b _ _ _=>a=b) β σ s:=by
 refine Ev.bind h1 λa t ah aa ai az al q _=>?_;cases q;have T:=h2 ah aa ai az al;clear h2 h1;by_cases hk:a=k
 . rw [if_pos hk,hk];cases (k) <;> exact T
 . rw [if_neg hk];cases (a) <;> cases (k) <;> first | exact absurd rfl hk | exact Ev.pure al rfl
theorem II (D:Wd Z P gn G cf d) (he:PE Z P gn G cf d e) (hes:D7 Z P gn G cf d es):D7 Z P gn G cf d (.cons e es):=by
 constructor
 . intro ks sc xs env ρ A β σ s hm hA F I;replace hm:=ff hm; obtain ⟨x,xs,rfl,h1,h2,h3⟩:=hm;rw [a7 _ h1];exact Ev.consVR (k:=λaa=>aW G cf es ρ aa) (he ks sc x env ρ A β σ s h2 hA F I).1 λv c β' σ' s' S I' q=>hes.1 ks sc xs env ρ A β' σ' s' h3 hA (F.step S) I'
 . intro k pos ks sc xs env ρ A β σ s hm hA F I;replace hm:=ff hm; obtain ⟨x,xs,rfl,hm1,hm2,hm3⟩:=hm
   . have hx:=he ks sc x env ρ A β σ s hm2 hA F I;cases es with
     | nil=>
       have hxs:=j5 hm3;subst hxs
       . rw [AO];refine ⟨hx.1,λb σ' e=>?_⟩;rw [arm_allTrue_cons];refine MQ (NM (hx.2 b σ' e) (λa ai ⟨ah,S,al,q⟩=>?_) λ_ _ x=>x);subst q;cases k <;> cases a <;> exact NF ⟨ah,S,al,rfl⟩
     | cons e' es'=>
       obtain ⟨x',xs',rfl,_⟩:=ff hm3
       . have tail:=λah aa ai (S:Step bV β σ s ah aa ai) I=>hes.2 k pos ks sc (x'::xs') env ρ A ah aa ai hm3 hA (F.step S) I;constructor
         . rw [ql];exact Ba D.y k hx.1 λah aa ai S I=>(tail ah aa ai S I).1
         . rw [BB,arm_allTrue_cons];exact A2 k hx.2 λah aa ai S I=>(tail ah aa ai S I).2
theorem KL (D:Wd Z P gn G cf d) {k:Bool} (hes:D7 Z P gn G cf d es):PE Z P gn G cf d (.bop k es):=λks sc ex env ρ A β σ s hm hA F I=>by replace hm:=ao hm; obtain ⟨⟨op,xs⟩,h0,hm⟩:=hm;apply iY (Ga h0); intro pos;simp only [NO,decide_eq_true_eq] at hm;obtain ⟨rfl,hm⟩:=hm;have h:=hes.2 k pos ks sc xs env ρ A β σ s hm hA F I;exact ⟨h.1,h.2⟩
theorem pw (e:vs.mapM bx=some l) (r:VRels β σ h ws vs):RelAll (TT β σ) h ws l:=by
 induction vs generalizing l ws with
 | nil=>cases (e); cases r; exact .nil
 | cons v vs ih_=>
   rw [List.mapM_cons] at e;obtain ⟨a,h1,e⟩:=NJ.mp e;obtain ⟨as,h2,e⟩:=NJ.mp e;cases e;cases r with
   | cons r rs=>
     cases v with
     | d x=>cases h1; exact .cons r (ih_ h2 rs)
     | un=>cases h1
     | loc n=>cases h1
     | locs n=>cases h1
     | exc _ _=>cases h1
     | inst _ _=>cases h1
noncomputable def M4:V->Option Nat
 | .loc n=>some n
 | _=>none
theorem Av (e:vs.mapM (λv=>match v with | .loc n=>some n | _=>none)=some ns) (r:VRels β σ h ws vs):ws.length=ns.length/\∀ (k m:Nat),ns[k]?=some m->∃ b,β[m]?=some b/\ws[k]?=some (.ref b):=by
 induction vs generalizing ns ws with
 | nil=>cases (e); cases r; exact ⟨rfl,λk m e=>nomatch e⟩
 | cons v vs ih_=>
   rw [List.mapM_cons] at e;obtain ⟨a,h1,e⟩:=NJ.mp e;obtain ⟨as,h2,e⟩:=NJ.mp e;cases e;cases r with
   | cons r rs=>
     have ih:=ih_ h2 rs;cases v with
     | loc n=>
       cases h1;obtain ⟨b,hb,rfl⟩:=r;refine ⟨congrArg (·+1) ih.1,λk m e=>?_⟩;cases k with
       | zero=>cases e; exact ⟨b,hb,rfl⟩
       | succ k=>exact ih.2 k m e
     | d x=>cases h1
     | un=>cases h1
     | locs n=>cases h1
     | exc _ _=>cases h1
     | inst _ _=>cases h1
theorem fH (r:VRels β σ h ws vs):ws.length=vs.length:=by
 induction r with
 | nil=>rfl
 | cons _ _ ih=>exact congrArg (·+1) ih
set_option tactic.hygienic true in
theorem Kw (D:Wd Z P gn G cf d) (hes:D7 Z P gn G cf d es):PE Z P gn G cf d (.tup es):=λks sc ex env ρ A β σ s hm hA F I=>by
 replace hm:=ao hm; obtain ⟨xs,h0,hm⟩:=hm;obtain ⟨k,pos,rfl⟩:=kc h0
 . skip
   simp only [NO,decide_eq_true_eq] at hm;refine gy.plain D.y rfl ?_;rw [arm_eval_Tuple,(c5 (pos:=pos) hm.1).1];refine Ev.standAt ?_;have ev:ag G cf (.tup es) ρ σ=(aW G cf es ρ σ).bind λvs aa=>wc vs aa:=rfl;rw [ev];refine Ev.bind (hes.1 ks sc xs env ρ A β σ s hm.1 hA F I) λws vs ah aa ai az al rv he=>?_;have hl:=kh hm.1 he;have hw:=fH rv;have hz:ws.length<=1000:=by first | (rw [hw,hl]; exact hm.2) | (rw [<- hw,<- hl]; exact hm.2) | omega
   unfold wc;split
   . rename_i l hl';have q:=pw hl' rv;have:=q.length;refine qm al (by rw [<- q.length]; exact iv hz (by decide)) (wpAny_newTuple ?_ (iv hz (by decide)));exact ⟨_,_,0,rfl,aV _,NQ _ rfl,aS _,rfl,rfl,by simpa using q⟩
   . exact Ev.bad
set_option tactic.hygienic true in
theorem IC (D:Wd Z P gn G cf d) (hes:D7 Z P gn G cf d es):PE Z P gn G cf d (.list m es):=λks sc ex env ρ A β σ s hm hA F I=>by
 replace hm:=ao hm; obtain ⟨xs,h0,hm⟩:=hm;obtain ⟨pos,rfl⟩:=vI h0
 . skip
   simp only [NO,decide_eq_true_eq] at hm;refine gy.plain D.y rfl ?_;rw [arm_eval_List,(c5 (pos:=pos) hm.1).1];refine Ev.standAt ?_;have ev:ag G cf (.list m es) ρ σ=(aW G cf es ρ σ).bind λvs aa=>zs m vs aa:=rfl;rw [ev];refine Ev.bind (hes.1 ks sc xs env ρ A β σ s hm.1 hA F I) λws vs ah aa ai az al rv he=>?_;have hl:=kh hm.1 he;have hw:=fH rv;have hz:ws.length<=1000:=by first | (rw [hw,hl]; exact hm.2) | (rw [<- hw,<- hl]; exact hm.2) | omega
   unfold zs;split
   . rename_i l hl';have q:=pw hl' rv;have:=q.length;refine dJ al (by rw [<- q.length]; exact iv hz (by decide)) (wpAny_newList ?_ (iv hz (by decide)));exact ⟨_,_,0,rfl,aV _,NQ _ rfl,aS _,rfl,rfl,by simpa using q⟩
   . split
     . rename_i ns hns;split
       . exact Ev.bad
       . obtain ⟨h1,h2⟩:=Av hns rv;refine Ev.grown al (wpAny_newList ⟨aS _,rfl,rfl,?_⟩ (iv hz (by decide)));refine ⟨_,_,0,rfl,NQ _ rfl,al.notTT (aV _),⟨by simpa using h1,by unfold LIM; omega⟩,λk m e=>?_⟩;obtain ⟨b,hb,hw⟩:=h2 k m e;exact ⟨b,hb,by simpa using hw⟩
     . exact Ev.bad
theorem Fk (D:Wd Z P gn G cf d):PE Z P gn G cf d .dict0:=λks sc ex env ρ A β σ s hm hA F I=>by replace hm:=ao hm; obtain ⟨⟨a,b⟩,h0,hm⟩:=hm;apply iY (C6 h0); intro pos;simp only [NO] at hm;have h1:=fC hm.1; have h2:=fC hm.2;subst h1; subst h2;exact gy.plain D.y rfl (wd I)
end
variable {b:Bi} {o:Expr} {ts:List (Bool×Sem Value)} {args:List Expr}
section
variable {ex:Expr}
theorem Eb:∀ {x:Option V},Step bV β σ s β' σ' s'->JY v x β σ s.heap->JY v x β' σ' s'.heap
 | none=>@λ_ q=>q
 | some x=>@λS q=>S.vrel0 q
theorem KI (D:Wd Z P gn G cf d) {i:E} (ha:PE Z P gn G cf d a) (hi:PE Z P gn G cf d i):PE Z P gn G cf d (.idx a i):=λks sc ex env ρ A β σ s hm hA F I=>by
 replace hm:=ao hm; obtain ⟨⟨v,x⟩,h0,hm⟩:=hm;apply iY (tX h0); intro pos
 . skip
   simp only [NO] at hm;refine gy.plain D.y rfl ?_;rw [arm_eval_Subscript];have ev:ag G cf (.idx a i) ρ σ=(ag G cf a ρ σ).bind λx aa=>(ag G cf i ρ aa).bind λy af=>bg (df x y af) af:=rfl;rw [ev];refine Ev.bind (ha ks sc v env ρ A β σ s hm.1.2 hA F I).1 λw c ah aa ai az al kJ _=>?_;refine Ev.bind (Ev.holding (hi ks sc x env ρ A ah aa ai hm.2 hA (F.step az) al).1) λu y aL af aj bY bQ ru _=>?_;intro c' σ' e;obtain ⟨hz,rfl⟩:=yY e;exact dO (xD D.y bQ (bY.vrel0 kJ) ru hz λtk w' hw=>⟨aL,Step.refl.toks,bQ,hw⟩)
theorem Ky (D:Wd Z P gn G cf d) {lo hi:EO} (ha:PE Z P gn G cf d a) (hl:Gy Z P gn G cf d lo) (hh:Gy Z P gn G cf d hi):PE Z P gn G cf d (.slc m a lo hi):=λks sc ex env ρ A β σ s hm hA F I=>by
 replace hm:=ao hm; obtain ⟨⟨v,x⟩,h0,hm⟩:=hm;apply iY (tX h0); intro pos;replace hm:=ao hm; obtain ⟨⟨l,h,st⟩,h1,hm⟩:=hm;obtain ⟨p,hx⟩:=FW h1;have hx:x=.Slice l h st p:=hx;subst hx
 . simp only [NO] at hm;obtain ⟨⟨⟨hs,m1⟩,m2⟩,m3⟩:=hm;have hs:=Ou.mp hs;have hs:st=none:=hs;subst hs;have hm:=And.intro (And.intro m1 m2) m3;refine gy.plain D.y rfl ?_;rw [arm_eval_Subscript,arm_eval_Slice];have ev:ag G cf (.slc m a lo hi) ρ σ=(ag G cf a ρ σ).bind λx aa=>(dg G cf lo ρ aa).bind λl af=>(dg G cf hi ρ af).bind λh au=>gU m x l h au:=rfl;rw [ev];refine Ev.bind (ha ks sc v env ρ A β σ s hm.1.1 hA F I).1 λw c ah aa ai az al kJ _=>?_;have one:∀ {α:Type} {f:Value->Sem α} {r:Res V} {R:α->V->List Addr->ac->Heap->Prop},Ev Z bV A (do
       let l <- valueOrNone (evalOpt l env)
       let u <- holding [l] (valueOrNone (evalOpt h env))
       let i <- newFields "slice" [l,u,.none]
       f i) r R ah aa ai->Ev Z bV A ((holding [w] (do
       let l <- valueOrNone (evalOpt l env)
       let u <- holding [l] (valueOrNone (evalOpt h env))
       let s <- holding [l,u] (valueOrNone (evalOpt none env))
       newFields "slice" [l,u,s])) >>= f) r R ah aa ai:=λhx c σ' e=>by
     intro Γ p hΓ;have:=hx c σ' e Γ p hΓ;simp only [Sem.wp_bind',Sem.wp_holding] at this ⊢;exact this
   refine one ?_;refine Ev.bind (hl.1 ks sc l env ρ A ah aa ai hm.1.2 hA (F.step az) al) λvl xl aL af aj bY bQ rl _=>?_;refine Ev.bind (Ev.holding (hh.1 ks sc h env ρ A aL af aj hm.2 hA ((F.step az).step bY) bQ)) λvu xu uB au aR qN wF ru _=>?_;exact wS wF (qN.vrel0 (bY.vrel0 kJ)) (Eb qN rl) ru
theorem Mc (D:Wd Z P gn G cf d):Gy Z P gn G cf d .no:=by
 constructor
 . intro ks sc ex env ρ A β σ s hm hA F I;have hm:=Ou.mp hm;subst hm;exact Ev.pure I rfl
 . intro ks sc ex env ρ A β σ s hm hA F I;exact OQ (show false=true from hm)
theorem Ku (D:Wd Z P gn G cf d) (he:PE Z P gn G cf d e):Gy Z P gn G cf d (.yes e):=by
 constructor
 . intro ks sc ex env ρ A β σ s hm hA F I;replace hm:=ao hm; obtain ⟨x,h0,hm⟩:=hm;subst h0
   . intro c σ' e';have ev:dg G cf (.yes e) ρ σ=(ag G cf e ρ σ).bind λx aa=>.ok (some x) aa:=rfl;rw [ev] at e';cases h:ag G cf e ρ σ with
     | bad=>rw [h] at e'; cases e'
     | ok v aa=>rw [h] at e'; cases (e');exact (he ks sc x env ρ A β σ s hm hA F I).1 v σ' h
 . intro ks sc ex env ρ A β σ s hm hA F I;exact ⟨e,rfl,he ks sc ex env ρ A β σ s hm hA F I⟩
theorem Cm (D:Wd Z P gn G cf d) (he:PE Z P gn G cf d e):PE Z P gn G cf d (.freeze e):=λks sc ex env ρ A β σ s hm hA F I=>by
 have hx:=he ks sc ex env ρ A β σ s hm hA F I;have ev:ag G cf (.freeze e) ρ σ=(ag G cf e ρ σ).bind λx aa=>Jm x aa:=rfl;have fr:∀ {x:V} {v:V} {aa σ':ac},Jm x aa=.ok v σ'->X2 λn l=>A4 (x=.loc n) (aa[n]?=some (.lst l)) (v=.d (.list l)) (σ'=aa.set n .gone):=by intro x v aa σ' h;obtain ⟨n,hn,h⟩:=ik h;obtain ⟨l,hl,h⟩:=ik h;cases h;exact ⟨n,l,gB hn,fg hl,rfl,rfl⟩
 constructor
 . intro c σ' e';rw [ev] at e';cases h:ag G cf e ρ σ with
   | bad=>rw [h] at e'; cases e'
   | ok v aa=>rw [h] at e';obtain ⟨n,l,rfl,hl,rfl,rfl⟩:=fr e';refine NM (hx.1 _ _ h) (λa s' ⟨β',S,I',q⟩=>?_) λ_ _ x=>x;obtain ⟨ad,hb,rfl⟩:=q;have N:=tr (O:=bV) (c:=.gone) I' hb hl rfl rfl;exact ⟨β',S.trans N.1,N.2,xF I' hb hl⟩
 . intro c σ' e';rw [ev] at e';obtain ⟨w,e',hc⟩:=wN e';cases h:ag G cf e ρ σ with
   | bad=>rw [h] at e'; cases e'
   | ok v aa=>
     rw [h] at e';obtain ⟨n,l,rfl,hl,rfl,rfl⟩:=fr e';have ht:truthy aa (.loc n)=some c:=by show oc (fi aa n) (λl=>some (!l.isEmpty)) _=some c;rw [iq hl]; exact hc
     refine NM (hx.2 c aa (by rw [h]; simp [lq,Res.bind,bg,ht])) (λa s' ⟨β',S,I',q⟩=>?_) λ_ _ x=>x;have hlt:n < β'.length:=by rw [I'.len]; exact (NK.mp hl).1
     have N:=tr (O:=bV) (c:=.gone) I' (NC hlt) hl rfl rfl;exact ⟨β',S.trans N.1,N.2,q⟩
theorem uR {x:Sem Value} {Q:List Value->Shared->Prop} {E:Value->Shared->Prop} (h:wpAny M A (spliced [(false,x)]) Q E s):wpAny M A x (λv s'=>Q [v] s') E s:=λΓ p hΓ=>by have:=h Γ p hΓ;simpa only [spliced,Sem.wp_bind',Sem.wp_holding,Sem.wp_pure',PX,if_false,NX] using this
theorem eE {Q:Args->Shared->Prop} {E:Value->Shared->Prop} (hes:D7 Z P gn G cf d es) (hm:pA P gn ks sc es args=true) (hA:jR Z d A) (F:FrameOk Z env ks sc ρ β σ s.heap) (I:Inv Z β σ s.heap)
   {vs:List V} {aa:ac} (he:aW G cf es ρ σ=.ok vs aa) (q:∀ ws β' s',Step bV β σ s β' aa s'->Inv Z β' aa s'.heap->VRels β' aa s'.heap ws vs->Q ⟨ws,[]⟩ s') :
   wpAny (model Z.prog Z.w) A (evalArgs f true (starEach args env) []) Q E s:=by
 have h:=hes.1 ks sc args env ρ A β σ s hm hA F I vs aa he;have h':=NM h (λws s' ⟨β',S,I',r⟩=>q ws β' s' S I' r) (E':=E) λ_ _ x=>x.elim;cases args with
 | nil=>
   cases es with
   | nil=>rw [Dy] at he; cases (he);exact PyProof.Rows.evalArgs_nil3 (q [] β s Step.refl I .nil)
   | cons e es=>replace hm:=ff hm; obtain ⟨_,_,hx,_⟩:=hm; cases hx
 | cons x xs=>
   cases es with
   | nil=>cases (j5 hm)
   | cons e es=>refine kk λK k=>?_;replace hm:=ff hm; obtain ⟨_,_,hx,hs,_⟩:=hm;cases hx;refine k ?_;rw [a7 _ hs] at h' ⊢;exact evalArgs_plain h'
theorem IM (D:Wd Z P gn G cf d) {f:Nat} (hes:D7 Z P gn G cf d es):PE Z P gn G cf d (.call f es):=λks sc ex env ρ A β σ s hm hA F I=>by
 replace hm:=ao hm; obtain ⟨⟨x,args⟩,h0,hm⟩:=hm;obtain ⟨p,pos,rfl⟩:=eT h0
 . refine kk λK k=>?_;simp only [NO,decide_eq_true_eq] at hm;obtain ⟨⟨h1,h2⟩,h3⟩:=hm;obtain ⟨fn,hf,hq⟩:=N9.mp h1;have hq1:=(Prod.mk.inj hq).1;subst hq1;obtain ⟨a,o,fd,hg,ho,hd,hcall⟩:=D.c f fn hf (Prod.mk.inj hq).2;refine k ?_;refine gy.plain D.y rfl λc σ' e=>?_;obtain ⟨vs,aa,he,hc⟩:=Res.bind_ok (r:=aW G cf es ρ σ) (f:=λvs aa=>(cf f vs aa).bind iJ) e;refine PyProof.Rows.Call_Name (c5 (pos:=pos) h3).1 (gD D F I h2 hg ?_);refine callWith_function (o:=o) (fd:=fd) (eE hes h3 hA F I he λws β' s' S I' r=>⟨⟨I'.base a o ho,hd⟩,?_⟩);refine NM ((hcall A β' aa s' ws vs hA (F.step S).frs I' r).ev c σ' hc) (λv s'' ⟨β'',S',I'',q⟩=>⟨β'',S.trans S',I'',q⟩) λ_ _ x=>x
theorem yi (h:b.plain=true):uo b=[]:=by cases b <;> first | rfl | exact OQ (show false=true from h)
theorem wu (h:b.plain=true) {prog:Program} {E:Value->Shared->Prop} (hpl:(ts.any (·.1))=false)
   (post:∀ {f:Value},wpAny (model prog w) A (evalArgs f true ts []) (λa ai=>wpAny (model prog w) A (call (sI b) ([]++a.pos) a.kw) Q E ai) E s):wpAny (model prog w) A (callWith pos (sI b) [] ts []) Q E s:=by
 cases b <;> first
   | exact callWith_builtin hpl post
   | exact O1 hpl post
   | exact OQ (show false=true from h)
set_option tactic.hygienic true in
theorem Md (D:Wd Z P gn G cf d) {m:Bool} (hes:D7 Z P gn G cf d es):PE Z P gn G cf d (.bi b m es):=λks sc ex env ρ A β σ s hm hA F I=>by
 replace hm:=ao hm; obtain ⟨⟨x,args⟩,h0,hm⟩:=hm;apply Ep (eT h0); intro p pos
 . simp only [NO,decide_eq_true_eq] at hm;obtain ⟨⟨⟨rfl,h2⟩,hP⟩,h3⟩:=hm;have hh:=hA.1 (D.q hP);refine gy.plain D.y rfl λc σ' e=>?_;obtain ⟨vs,aa,he,hc⟩:=Res.bind_ok (r:=aW G cf es ρ σ) (f:=λvs aa=>zE b m vs aa) e;obtain ⟨hfree,hval⟩:=D.b.free b;have fin:b≠.sortedSet->∀ {ws:List Value} {β':List Addr} {s':Shared},Step bV β σ s β' aa s'->Inv Z β' aa s'.heap->VRels β' aa s'.heap ws vs->
       wpAny (model Z.prog Z.w) A (call (sI b) (ws++uo b)) (λv s''=>Po Z bV β σ s σ' s'' λβ''=>VR v c β'' σ' s''.heap) (λ_ _=>False) s':=λhnb _ _ _ S I' r=>
     NM (Bc (O:=bV) (m:=m) D.y I' hh hA.room r hnb c σ' hc) (λv s'' ⟨β'',S',I'',q⟩=>⟨β'',S.trans S',I'',q⟩) λ_ _ x=>x
   split at h3
   . rename_i t ht;refine kk λK k=>?_;replace ht:=JF ht; subst ht;replace h3:=ao h3; obtain ⟨⟨y,zn⟩,h5,h3⟩:=h3;replace h3:=ao h3; obtain ⟨z,h6,h3⟩:=h3;refine k ?_;apply zo (iD h5);obtain ⟨pz,h6⟩:=bH h6;have h6:zn=.Name z pz:=h6;subst h6;simp only [NO,decide_eq_true_eq] at h3;obtain ⟨⟨rfl,hz⟩,h3⟩:=h3;have hst:=c5 (env:=env) (pos:=pos) h3;cases es with
     | nil=>cases (j5 h3)
     | cons e' es'=>
       refine kk λK k=>?_;obtain ⟨_,_,hx,hs,_⟩:=ff h3;cases hx;refine k ?_;have trees:backTo pos (starEach [y,.Name (rI t) pz] env)=[(false,eval y env),(false,eval (.Name (rI t) pz) env)]:=by rw [a7 _ hs]; rfl
       refine PyProof.Rows.Call_Name trees (eK D F I h2 hfree (hval (.inr ⟨t,rfl⟩)) ?_);refine callWith_builtin rfl (evalArgs_plain (spliced_cons ?_));have h:=hes.1 ks sc [y] env ρ A β σ s h3 hA F I vs aa he;rw [a7 _ hs] at h;refine NM (uR h) (λv ai ⟨ah,az,al,r⟩=>?_) λ_ _ x=>x;refine spliced_cons (eK D (F.step az) al hz (D.b.ty t).1 (D.b.ty t).2 (spliced_nil ?_));exact fin (λq=>by cases q) az al r
   . split at h3
     . rename_i hss;replace hss:=JG hss; subst hss;replace h3:=ao h3; obtain ⟨r,h5,h3⟩:=h3;apply zo (da h5);replace h3:=ao h3; obtain ⟨⟨z,zargs⟩,h6,h3⟩:=h3;obtain ⟨pz,posz,rfl⟩:=eT h6;simp only [NO,decide_eq_true_eq] at h3;obtain ⟨⟨⟨rfl,hz⟩,hst⟩,h3⟩:=h3;have trees:backTo pos (starEach [.Call (.Name ("set":Str) pz) zargs [] posz] env)=[(false,eval (.Call (.Name ("set":Str) pz) zargs [] posz) env)]:=by rw [a7 _ hst]; rfl
       have hsv:Z.mb (qG .sortedSet)=some (.builtin "sorted"):=(D.b.free .sorted).2 (.inl rfl);refine PyProof.Rows.Call_Name trees (eK D F I h2 hfree hsv ?_);refine callWith_builtin rfl (evalArgs_plain (spliced_cons ?_));refine PyProof.Rows.Call_Name (c5 (pos:=posz) h3).1 (eK D F I hz D.b.set.1 D.b.set.2 ?_);refine O1 (c5 (env:=env) (pos:=posz) h3).2 (eE hes h3 hA F I he λws β' s' S I' r=>?_);refine NM (nJ (O:=bV) I' hh r hc) (λt ai ht=>spliced_nil (NM ht (λv s'' ⟨β'',S',I'',q⟩=>⟨β'',S.trans S',I'',q⟩) λ_ _ x=>x)) λ_ _ x=>x
     . simp only [NO] at h3;refine PyProof.Rows.Call_Name (c5 (pos:=pos) h3.2).1 (eK D F I h2 hfree (hval (.inl h3.1)) ?_);have hnb:b≠.sortedSet:=λq=>by rw [q] at h3; cases h3.1
       have hr:uo b=[]:=yi h3.1;have post:∀ {f:Value},wpAny (model Z.prog Z.w) A (evalArgs f true (starEach args env) []) (λa ai=>wpAny (model Z.prog Z.w) A (call (sI b) ([]++a.pos) a.kw) (λv s''=>Po Z bV β σ s σ' s'' λβ''=>VR v c β'' σ' s''.heap) (λ_ _=>False) ai) (λ_ _=>False) s:=λ{f}=>eE hes h3.2 hA F I he λws β' s' S I' r=>by have:=fin hnb S I' r;rw [hr,NX] at this;exact this
       have hpl:=(c5 (env:=env) (pos:=pos) h3.2).2;exact wu h3.1 hpl post
theorem qJ (h:yR o=true) (nm:Str) (w:Sem Value):attributeBase o nm env w=w:=by cases o <;> first | rfl | cases h
set_option tactic.hygienic true in
theorem IB (D:Wd Z P gn G cf d) {b:Me} {o:E} (ho:PE Z P gn G cf d o) (hes:D7 Z P gn G cf d es):PE Z P gn G cf d (.meth b o es):=λks sc ex env ρ A β σ s hm hA F I=>by
 replace hm:=ao hm; obtain ⟨⟨ov,nm,apos,args,pos⟩,h0,hm⟩:=hm;replace h0:=C4 h0; subst h0
 . refine kk λK k=>?_;simp only [NO,decide_eq_true_eq] at hm;obtain ⟨⟨⟨⟨⟨⟨rfl,hdn⟩,hnc⟩,hlen⟩,hpos⟩,h1⟩,h2⟩:=hm;refine k ?_;refine gy.plain D.y rfl λc σ' e=>?_;obtain ⟨x,aa,he,e⟩:=Res.bind_ok (r:=ag G cf o ρ σ) (f:=λx aa=>if qZ b aa x then (aW G cf es ρ aa).bind λvs af=>Em b x vs af else .bad) e;split at e
   . rename_i hok;obtain ⟨vs,af,he2,hc⟩:=Res.bind_ok e;have hst:=c5 (env:=env) (pos:=pos) h2;have hform:methodCallForm (args.length+0) (starEach args env) []=true:=by
       unfold methodCallForm;have h3:(starEach args env).all (λx=>!x.1)=true:=by have:=hst.2;simp only [List.any_eq_false] at this;simp only [Oz,Oo];intro x hx;simpa using this x hx
       rw [h3];simp;omega
     rw [arm_eval_Call,qJ hnc,hst.1];refine MQ (NM ((ho ks sc ov env ρ A β σ s h1 hA F I).1 x aa he) (λv ai ⟨ah,az,al,rv⟩=>?_) λ_ _ x=>x);refine MQ (Ow ?_);show wpAny _ _ (methodCall ov (tI b) apos pos env v (args.length+0) (starEach args env) []) _ _ _;unfold methodCall;rw [hform];refine MQ (OG ?_);show wpAny _ _ (getMethod v (tI b) _) _ _ _;refine xq hdn al rv hok ?_;refine MQ ?_;have hp:methodCallPos true ov env apos pos=pure pos:=by unfold methodCallPos;simp [hpos]
     rw [hp];refine NF (callWith_builtin hst.2 (eE hes h2 hA (F.step az) al he2 λws aL aj bY bQ r=>?_));refine NM (Au (O:=bV) D.y bQ (bY.vrel0 rv) r c σ' hc) (λv s'' ⟨β'',S',I'',q⟩=>⟨β'',(az.trans bY).trans S',I'',q⟩) λ_ _ x=>x
   . cases e
end
variable {k:Nat}
theorem XAt.elim {Q:Prop} (X:XAt h k) (f:∀ nm q N bs hdct sn sub ab col dd k0 k1 k2 k3 k5 mN,h.get? (KA k)=some (excClassObj nm q (KA k) N bs (cL k) hdct sn sub ab col dd k0 k1 k2 k3 k5 "ValueError.__new__")->h.Ns N mN->(∀ n∈c7,mN n=none)->(k<=5->mN "__init__"=none)->Q):Q:=by
 cases X with
 | mk nm q N bs hdct sn sub ab col dd k0 k1 k2 k3 k5 mN h1 h2 h3 h4 h5=>exact f nm q N bs hdct sn sub ab col dd k0 k1 k2 k3 k5 mN h1 h2 h3 h4
theorem XAt.keeps (X:XAt h k) (hk:∀ b o,h.get? b=some o->h'.get? b=some o):XAt h' k:=by
 cases X with
 | mk nm q N bs hdct sn sub ab col dd k0 k1 k2 k3 k5 mN h1 h2 h3 h4 h5=>exact ⟨nm,q,N,bs,hdct,sn,sub,ab,col,dd,k0,k1,k2,k3,k5,mN,hk _ _ h1,h2.keeps hk,h3,h4,λz=>⟨(h5 z).1,(h5 z).2.keeps hk⟩⟩
theorem vq:typeLookup (.type "ValueError") "__class__"=pure (some (.builtin "object.__class__")):=by rw [typeLookup_type,builtinLookup_eq_fast]; kernel_rfl
theorem vp:typeLookup (.type "ValueError") "__getattribute__"=pure (some (.builtin "BaseException.__getattribute__")):=by rw [typeLookup_type,builtinLookup_eq_fast]; kernel_rfl
theorem nc:typeLookup (.type "ValueError") "__getattr__"=pure none:=by rw [typeLookup_type,builtinLookup_eq_fast]; kernel_rfl
theorem hY (h:1<=k):cL k=.ref (KA 0)::eY:=if_neg (Qa h)
theorem jT (h:eY.contains (.type T)=true):(Value.ref (KA k)::cL k).contains (.type T)=true:=by
 have:(cL k).contains (.type T)=true:=by
   unfold cL;split
   . exact h
   . rw [OA,h,PW]
 rw [OA,this,PW]
variable {g:Array GenState} {d:Drawn} {t:Nat} {y:Option Value} {os:OsState} {base:Value}
section
variable {E:Value->Shared->Prop}
theorem pF {n:Str} {Q:Option Value->Shared->Prop} (Xk:XAt h k) (X0:XAt h 0) (hk:1<=k) (hn:n∈c7) (hB:typeLookup (.type "ValueError") n=pure y) (hq:Q y ⟨h,g,d,t,os⟩) :
   wpAny M A (typeLookup (.ref (KA k)) n) Q E ⟨h,g,d,t,os⟩:=by
 have hrest:lookupAlong eY n=pure y:=by rw [typeLookup_eq,F.excBase_ValueError.mroIs] at hB; exact hB
 refine Xk.elim λnm q N bs hdct sn sub ab col dd k0 k1 k2 k3 k5 mN h1 h2 h3 _=>?_;refine X0.elim λnm' q' N' bs' hdct' sn' sub' ab' col' dd' k0' k1' k2' k3' k5' mN' h1' h2' h3' _=>?_;rw [typeLookup_eq];refine MQ (wpAny_mroOf_exc h1 ?_);rw [lookupAlong_cons];refine MQ (wpAny_classOwn_exc h1 h2 ?_);rw [h3 n hn];show wpAny M A (lookupAlong (cL k) n) Q E _;rw [hY hk,lookupAlong_cons];refine MQ (wpAny_classOwn_exc h1' h2' ?_);rw [h3' n hn];show wpAny M A (lookupAlong eY n) Q E _;rw [hrest];exact NF hq
theorem rM {Q:Bool->Shared->Prop} (Xk:XAt h k) (hq:Q ((Value.ref (KA k)::cL k).contains base) ⟨h,g,d,t,os⟩):wpAny M A (isSubtype (.ref (KA k)) base) Q E ⟨h,g,d,t,os⟩:=by refine Xk.elim λnm q N bs hdct sn sub ab col dd k0 k1 k2 k3 k5 mN h1 h2 h3 _=>?_;exact OB h1 hq
end
variable {a:Addr} {b:Bool} {Q:Fin->Shared->Prop} {dep:Int} {o:Obj} {R:Result->Shared->Prop} {nameV:Value}
section
variable {prog:Program} {E:Value->Shared->Prop}
theorem wk (Xk:XAt h k) (hx:h.get? a=some o) (hc:o.cls=.ref (KA k)) (hq:R (.ok (.ret (.ref (KA k)))) ⟨h,g,d,t,os⟩) :
   codeAny (model prog w) A (.call (.builtin "getset_descriptor.__get__") ⟨[.builtin "object.__class__",.ref a,.ref (KA k)],[]⟩) R ⟨h,g,d,t,os⟩:=by
 have hT5:(⟨h,g,d,t,os⟩:Shared).TypeIs (.builtin "object.__class__") "getset_descriptor":=F.typeOf_object_class;have hcB:(Value.ref (KA k)::cL k).contains (.type (".".intercalate ("object.__class__".cutAt '.').dropLast))=true:=by rw [F.owner_object_class]; exact jT rfl
 refine codeAny_call_builtin F.slot_gs_get.plain F.entry_gs_get (F.slot_gs_get.check _ _ _ _ _ _ _ _ hT5 (F.args_gs_get _ _ _) ?_)
 repeat (any_goals (first | assumption | (with_reducible refine NV hx ?_; rw [hc]) | (with_reducible refine rM Xk ?_; rw [hcB]) | wp_step))
 refine ⟨Code.quiet_builtin _ (by decide +kernel),codeAny_builtin F.entry_object_class ?_⟩
 repeat (any_goals (first | assumption | (with_reducible refine NV hx ?_; rw [hc]) | wp_step))
theorem x7 {Q:Unit->Shared->Prop} (Xk:XAt h k) (hx:h.get? a=some o) (hc:o.cls=.ref (KA k)) (hq:Q () ⟨h,g,d,t,os⟩):wpAny M A (checkBuiltinCall "BaseException.__getattribute__" ⟨[.ref a,nameV],[]⟩) Q E ⟨h,g,d,t,os⟩:=by
 have hk:builtinKind "BaseException.__getattribute__"=some .slot:=by decide +kernel
 have hsplit:splitId "BaseException.__getattribute__"=some ("BaseException","__getattribute__"):=by decide +kernel
 have hcB:(Value.ref (KA k)::cL k).contains (.type "BaseException")=true:=jT rfl;have ha:=F.args_bexc_ga (.ref a) nameV;unfold checkBuiltinCall;rw [hk,hsplit];refine MQ ?_
 . unfold isInstance
   repeat (first | (with_reducible refine NV hx ?_; rw [hc]) | (with_reducible refine rM Xk ?_; rw [hcB]) | wp_step)
   exact hq
theorem rn (Xk:XAt h k) (X0:XAt h 0) (hk:1<=k) (hx:h.get? a=some o) (hc:o.cls=.ref (KA k)) (hq:Q (.done (.ret (.ref (KA k)))) ⟨h,g,d,t,os⟩) :
   wpAny (model prog w) A (Builtin.«object.__getattribute__» ⟨[.ref a,.str "__class__" tk],[]⟩) Q E ⟨h,g,d,t,os⟩:=by
 have hT5:(⟨h,g,d,t,os⟩:Shared).TypeIs (.builtin "object.__class__") "getset_descriptor":=F.typeOf_object_class;have f5:=F.typeOf_object_class;have f6:=F.slot_gs_get.lookup;have f7:=F.slot_gs_set.lookup;have hmA:("__class__":Str)∈c7:=.tail _ (.tail _ (.head _))
 repeat (any_goals (first | assumption | (with_reducible refine NV hx ?_; rw [hc]) | with_reducible refine pF Xk X0 hk hmA vq ?_ | wp_step))
 refine wk Xk hx hc ?_
 repeat (any_goals (first | assumption | wp_step))
theorem x4 {Q:Value->Shared->Prop} (Xk:XAt h k) (X0:XAt h 0) (hk:1<=k) (hx:h.get? a=some o) (hc:o.cls=.ref (KA k)) (hq:Q (.ref (KA k)) ⟨h,g,d,t,os⟩) :
   wpAny (model prog w) A (getAttrBy (.ref a) (.str "__class__" tk) false) Q E ⟨h,g,d,t,os⟩:=by
 have f3:=F.excAttr_ValueError.ga.bind (.ref a);have hx2:(Value.builtin "BaseException.__getattribute__"==Value.builtin "object.__getattribute__")=false:=by decide +kernel
 have hx1:(onTheHeap (Value.ref (KA k))&&Value.builtin "BaseException.__getattribute__"==Value.builtin "object.__getattribute__")=false:=by rw [hx2]; rfl
 have hm1:("__getattribute__":Str)∈c7:=.head _;have hm2:("__getattr__":Str)∈c7:=.tail _ (.head _)
 repeat (any_goals (first | assumption | (with_reducible refine NV hx ?_; rw [hc]) | with_reducible refine pF Xk X0 hk hm1 vp ?_ | with_reducible refine pF Xk X0 hk hm2 nc ?_ | wp_step))
 refine codeAny_call_builtin F.excAttr_ValueError.ga.plain F.entry_bexc_ga (x7 Xk hx hc (rn Xk X0 hk hx hc ?_))
 repeat (any_goals (first | assumption | wp_step))
theorem ug {Q:Option Value->Shared->Prop} (Xk:XAt h k) (X0:XAt h 0) (hk:1<=k) (hx:h.get? a=some o) (hc:o.cls=.ref (KA k)) (hq:Q (some (.ref (KA k))) ⟨h,g,d,t+1,os⟩) :
   wpAny (model prog w) A (getAttr? (.ref a) "__class__") Q E ⟨h,g,d,t,os⟩:=by
 unfold getAttr? getAttrBy?
 repeat (any_goals (first | assumption | with_reducible apply x4 Xk X0 hk hx hc | wp_step))
theorem CK (Xk:XAt h k) (Xj:XAt h j) (hx:h.get? a=some o) (hc:o.cls=.ref (KA k)) (hb:(Value.ref (KA k)::cL k).contains (.ref (KA j))=true)
   (hq:Q (.done (.ret (.bool true))) ⟨h,g,d,t,os⟩):wpAny (model prog w) A (Builtin.«isinstance.nested» ⟨[.ref a,.ref (KA j),.int dep tk],[]⟩) Q E ⟨h,g,d,t,os⟩:=by
 refine Xk.elim λnm q N bs hdct sn sub ab col dd k0 k1 k2 k3 k5 mN h1 _ _ _=>?_;refine Xj.elim λnm' q' N' bs' hdct' sn' sub' ab' col' dd' k0' k1' k2' k3' k5' mN' h1' _ _ _=>?_;have hT:(⟨h,g,d,t,os⟩:Shared).TypeIs (.ref (KA j)) "type":=⟨_,h1',rfl⟩
 by_cases hne:(Value.ref (KA k)==Value.ref (KA j))=true
 . repeat (any_goals (first | assumption | (with_reducible refine NV hx ?_; rw [hc]) | with_reducible refine NV h1' ?_ | (with_reducible refine OB h1 ?_; rw [hb]) | wp_step))
 . have hne:=Bool.eq_false_iff.mpr hne
   repeat (any_goals (first | assumption | (with_reducible refine NV hx ?_; rw [hc]) | with_reducible refine NV h1' ?_ | (with_reducible refine OB h1 ?_; rw [hb]) | wp_step))
theorem Az (Xk:XAt h k) (X0:XAt h 0) (Xj:XAt h j) (hk:1<=k) (hx:h.get? a=some o) (hc:o.cls=.ref (KA k)) (hb:(Value.ref (KA k)::cL k).contains (.ref (KA j))=false)
   (hq:Q (.done (.ret (.bool false))) ⟨h,g,d,t+1,os⟩):wpAny (model prog w) A (Builtin.«isinstance.nested» ⟨[.ref a,.ref (KA j),.int dep tk],[]⟩) Q E ⟨h,g,d,t,os⟩:=by
 refine Xk.elim λnm q N bs hdct sn sub ab col dd k0 k1 k2 k3 k5 mN h1 _ _ _=>?_;refine Xj.elim λnm' q' N' bs' hdct' sn' sub' ab' col' dd' k0' k1' k2' k3' k5' mN' h1' _ _ _=>?_;have hT:(⟨h,g,d,t,os⟩:Shared).TypeIs (.ref (KA j)) "type":=⟨_,h1',rfl⟩
 have hT':(⟨h,g,d,t+1,os⟩:Shared).TypeIs (.ref (KA k)) "type":=⟨_,h1,rfl⟩
 have hne:(Value.ref (KA k)==Value.ref (KA j))=false:=by rw [OA,Qk] at hb;have:=hb.1;rw [BEq.comm]; exact this
 repeat (any_goals (first | assumption | (with_reducible refine NV hx ?_; rw [hc]) | with_reducible refine NV h1' ?_ | with_reducible refine NV h1 ?_ | (with_reducible refine OB h1 ?_; rw [hb]) | with_reducible apply ug Xk X0 hk hx hc | wp_step))
theorem I3 (Xk:XAt h k) (hx:h.get? a=some o) (hc:o.cls=.ref (KA k))
   (hq:Q (.done (.ret (.bool true))) ⟨h,g,d,t,os⟩):wpAny (model prog w) A (Builtin.«isinstance.nested» ⟨[.ref a,.type "ValueError",.int dep tk],[]⟩) Q E ⟨h,g,d,t,os⟩:=by
 refine Xk.elim λnm q N bs hdct sn sub ab col dd k0 k1 k2 k3 k5 mN h1 _ _ _=>?_;have hb:(Value.ref (KA k)::cL k).contains (.type "ValueError")=true:=jT rfl;have hne:(Value.ref (KA k)==Value.type "ValueError")=false:=rfl;have hty:typeOf (.type "ValueError")=pure (.type "type"):=by kernel_rfl
 repeat (any_goals (first | assumption | (with_reducible refine NV hx ?_; rw [hc]) | (with_reducible refine OB h1 ?_; rw [hb]) | wp_step))
theorem xS {Q:Bool->Shared->Prop} (Xk:XAt h k) (Xj:XAt h j) (hx:h.get? a=some o) (hc:o.cls=.ref (KA k)) (hb:(Value.ref (KA k)::cL k).contains (.ref (KA j))=b)
   (hq:Q b ⟨h,g,d,t,os⟩):wpAny M A (excMatches (.ref a) (.ref (KA j))) Q E ⟨h,g,d,t,os⟩:=by
 refine Xk.elim λnm q N bs hdct sn sub ab col dd k0 k1 k2 k3 k5 mN h1 _ _ _=>?_;refine Xj.elim λnm' q' N' bs' hdct' sn' sub' ab' col' dd' k0' k1' k2' k3' k5' mN' h1' _ _ _=>?_;have hcB:(Value.ref (KA j)::cL j).contains (.type "BaseException")=true:=jT rfl;have f:=tc_notTuple;cases (b)
 all_goals
   unfold excMatches
   repeat (first | (with_reducible refine NV hx ?_; rw [hc]) | with_reducible refine NV h1' ?_ | (with_reducible refine OB h1' ?_; first | rw [hcB] | rw [hb]) | (with_reducible refine OB h1 ?_; rw [hb]) | wp_step)
   exact hq
end
theorem GD (X:XOk Z) (hk:1<=k) (hk':k<=6) (hj:j<=6):(Value.ref (KA k)::cL k).contains (.ref (KA j))=(j==k||j==0):=by
 rw [hY hk,OA,OA];have e:∀ i,i<=6->(Value.ref (KA j)==Value.ref (KA i))=(j==i):=λi hi=>by
   by_cases q:j=i
   . subst q; rw [beq_self_eq_true,beq_self_eq_true]
   . have:KA j≠KA i:=λz=>q (X.inj j i hj hi z);rw [beq_eq_false_iff_ne.mpr q,beq_eq_false_iff_ne.mpr λz=>this (Value.ref.inj z)]
 rw [e k hk',e 0 (N3 _)];cases (j==k) <;> cases (j==0) <;> rfl
section
variable {d:Nat}
theorem XOk.at (X:XOk Z) (I:Inv Z β σ s.heap) (hk:k<=6):XAt s.heap k:=by exact XAt.keeps (X.own k hk).2 I.base
theorem Ay (X:XOk Z) (I:Inv Z β σ s.heap) (hj:j<=7) (r:aw β σ s.heap v (.exc k ds)) :
   Ev Z O A (call (.builtin "isinstance") [v,if j=7 then .type "ValueError" else .ref (KA j)]) (.ok (.d (.bool (j==k||j==0||j==7))) σ) VR β σ s:=by
 obtain ⟨e,o,vs,rfl,he,⟨hc,hd,hk⟩,_⟩:=r;obtain ⟨hp,g,dr,tk,os⟩:=s;have Xk:XAt hp k:=X.at (s:=⟨hp,g,dr,tk,os⟩) I hk.2;have X0:XAt hp 0:=X.at (s:=⟨hp,g,dr,tk,os⟩) I (N3 _);refine bK I (PyProof.Rows.call_isinstance_of ?_);by_cases h7:j=7
 . subst h7;rw [if_pos rfl];refine I3 Xk he hc ⟨⟨_,_,rfl⟩,?_⟩;have:(7==k||7==0||7==7)=true:=by simp
   rw [this]; exact .bool _
 . rw [if_neg h7];have Xj:XAt hp j:=X.at (s:=⟨hp,g,dr,tk,os⟩) I (Qy (Qs hj h7));have ct:=GD X hk.1 hk.2 (Qy (Qs hj h7));have e7:(j==7)=false:=by simpa using h7
   rw [e7,Pb];cases hb:(j==k||j==0) with
   | true=>rw [hb] at ct;exact CK Xk Xj he hc ct ⟨⟨_,_,rfl⟩,.bool _⟩
   | false=>rw [hb] at ct;exact Az Xk X0 Xj hk.1 he hc ct ⟨⟨_,_,rfl⟩,.bool _⟩
theorem KG (D:Wd Z P gn G cf d) (he:PE Z P gn G cf d e):PE Z P gn G cf d (.isx k e):=λks sc ex env ρ A β σ s hm hA F I=>by
 replace hm:=ao hm; obtain ⟨⟨x,args⟩,h0,hm⟩:=hm;apply Ep (eT h0); intro p pos;replace hm:=ao hm; obtain ⟨⟨a,c⟩,h00,hm⟩:=hm;replace h00:=iD h00;have h00:args=[a,c]:=h00;subst h00;replace hm:=ao hm; obtain ⟨z,h00,hm⟩:=hm;obtain ⟨zp,h00⟩:=bH h00;have h00:c=.Name z zp:=h00;subst h00;simp only [NO,decide_eq_true_eq] at hm;obtain ⟨⟨⟨⟨⟨⟨rfl,hg⟩,rfl⟩,hz⟩,hk⟩,hs⟩,hm⟩:=hm;refine gy.plain D.y rfl λv σ' ev=>?_;have ev:((ag G cf e ρ σ).bind λx aa=>I4 k x aa)=.ok v σ':=ev;obtain ⟨y,aa,e1,ev⟩:=Res.bind_ok ev;obtain ⟨⟨k',ds⟩,hy,ev⟩:=ik ev;have hy:y=.exc k' ds:=by cases y <;> first | (cases hy; rfl) | cases hy
 subst hy;have trees:backTo pos (starEach [a,.Name (kS k) zp] env)=[(false,eval a env),(false,eval (.Name (kS k) zp) env)]:=by rw [a7 _ hs]; rfl
 have bi:=D.b.free (.isinst .list);refine PyProof.Rows.Call_Name trees (eK D F I hg bi.1 (bi.2 (.inr ⟨_,rfl⟩)) ?_);refine callWith_builtin rfl (evalArgs_plain (spliced_cons (NM ((he ks sc a env ρ A β σ s hm hA F I).1 _ _ e1) (λu ai ⟨ah,az,al,ru⟩=>?_) λ_ _ x=>x)));have fin:=Ay (A:=A) (O:=bV) D.x al hk ru v σ' ev;refine spliced_cons ?_;by_cases h7:k=7
 . subst h7;rw [if_pos rfl] at fin;refine eK D (F.step az) al hz D.x.ve.1 D.x.ve.2 (spliced_nil ?_);exact NM fin (λw aj ⟨aL,bY,bQ,q⟩=>⟨aL,az.trans bY,bQ,q⟩) λ_ _ x=>x
 . rw [if_neg h7] at fin;refine gD D (F.step az) al hz (D.x.own k (Qy (Qs hk h7))).1 (spliced_nil ?_);exact NM fin (λw aj ⟨aL,bY,bQ,q⟩=>⟨aL,az.trans bY,bQ,q⟩) λ_ _ x=>x
end
variable {fI C N:Addr} {hdct ab:Bool} {sn:List Str} {bs sub:List Value} {oI:Obj} {dd:Option Addr} {col:Option Bool} {newId:String}
section
variable {prog:Program} {E:Value->Shared->Prop}
variable {q:Str} {bm bmB:List Value} {k0 k1 k2 k3 k5:Option Value} {B initId:String}
theorem nG (F:ExcBaseFacts B newId initId bmB) (T:OwnTail h bmB bm) 
   (hC:h.get? C=some (excClassObj nm q C N bs bm hdct sn sub ab col dd k0 k1 k2 k3 k5 newId)) (hn:h.Ns N mN) (hi:mN "__init__"=some (.ref fI)) (hfI:h.get? fI=some oI) (hfc:oI.cls=.type "function") (hrest:rest.length<=sizeLine)
   (hq:∀ h' e,Heap.MadeExcOf h h' e (.ref C) rest->wpAny (model prog w) A (call (.ref fI) (.ref e::rest)) (λr s'=>r=.none/\Q (.done (.ret (.ref e))) s') E ⟨h',g,d,t,os⟩) :
   wpAny (model prog w) A (Builtin.«type.__call__» ⟨.ref C::rest,[]⟩) Q E ⟨h,g,d,t,os⟩:=by
 repeat (first | with_reducible refine NV hC ?_ | with_reducible refine wpAny_madeBy_exc hC ?_ | wp_step)
 refine codeAny_call_builtin_code (Code.quiet_builtin _ F.quiet) (wpAny_check_new_subT F T hC (codeAny_exc_new_subT F T hC ?_ hrest));show wpAny _ _ _ _ _ _;generalize hh:((h.push { cls:=.type "tuple",data:=.seq rest.toArray }).push { cls:=.ref C,data:=.fields #[.ref h.objs.size,.none,.none,.none,.bool false,.none] })=aX;have kp:∀ b o,h.get? b=some o->aX.get? b=some o:=λb o e=>by rw [<- hh]; exact NG _ (NG _ e)
 have hget:aX.get? (h.objs.size+1)=some { cls:=.ref C,data:=.fields #[.ref h.objs.size,.none,.none,.none,.bool false,.none] }:=by rw [<- hh]; heap_get
 have hcC:(Value.ref C::bm).contains (.ref C)=true:=by simp
 unfold isInstance
 repeat (first | with_reducible refine NV hget ?_ | (with_reducible refine OB (kp _ _ hC) ?_; rw [hcC]) | wp_step)
 show wpAny _ _ (typeLookup (.ref C) _) _ _ _;refine wpAny_typeLookup_tail (kp _ _ hC) (hn.keeps kp) (T.keeps kp) F.mroIs F.init.lookup ?_;rw [hi];refine OG (MQ ?_);unfold bindSpecial;refine MQ (wpAny_typeOf (T:="function") ⟨_,kp _ _ hfI,hfc⟩ ?_);rw [if_pos (by decide)];have made:Heap.MadeExcOf h aX (h.objs.size+1) (.ref C) rest:=⟨kp,Qj (PI _),h.objs.size,hget,Qj (Of _),by rw [<- hh]; exact NG _ (Heap.get?_push_at rfl rfl)⟩
 refine NF (MQ (NM (hq _ _ made) (λr s' hr=>?_) λ_ _ x=>x));obtain ⟨rfl,hQ⟩:=hr
 wp_walk
 exact hQ
theorem yb (F:ExcBaseFacts B newId initId bmB) (T:OwnTail h bmB bm) {Q:Value->Shared->Prop}
   (hC:h.get? C=some (excClassObj nm q C N bs bm hdct sn sub ab col dd k0 k1 k2 k3 k5 newId)) (hn:h.Ns N mN) (hi:mN "__init__"=some (.ref fI)) (hfI:h.get? fI=some oI) (hfc:oI.cls=.type "function") (hrest:rest.length<=sizeLine)
   (hq:∀ h' e,Heap.MadeExcOf h h' e (.ref C) rest->wpAny (model prog w) (A.under (.builtin "type.__call__" ⟨.ref C::rest,[]⟩)) (call (.ref fI) (.ref e::rest)) (λr s'=>r=.none/\Q (.ref e) s') E ⟨h',g,d,t,os⟩) :
   wpAny (model prog w) A (call (.ref C) rest) Q E ⟨h,g,d,t,os⟩:=by
 have f1:=tc_lookup;have f2:=tc_bind (.ref C);have hT:(⟨h,g,d,t,os⟩:Shared).TypeIs (.ref C) "type":=⟨_,hC,rfl⟩
 refine wpAny_call (codeAny_of_tree ?_);show wpAny _ _ (callAny (.ref C) _) _ _ _
 repeat (any_goals (first | assumption | with_reducible refine NV hC ?_ | wp_step))
 exact ⟨rfl,codeAny_call_builtin_at (Code.quiet_builtin _ (by decide +kernel)) entry_typeCall (wpAny_check_type_call_sub hC (nG F T hC hn hi hfI hfc hrest hq))⟩
theorem w9 {x:Sem Value} {Q:Flow->Shared->Prop} (hbase:bm.contains (.type "BaseException")=true) (hh:A.handled=none)
   (h:wpAny M A x (λv ai=>X4 λe t D sl=>A4 (v=.ref e) (ai.heap.get? C=some (excClassObj nm q C N bs bm hdct sn sub ab col dd k0 k1 k2 k3 k5 newId)) (ai.heap.get? e=some { cls:=.ref C,dict:=D,data:=.fields #[.ref t,.none,.none,.none,.bool false,.none],slots:=sl }) (E (.ref e) ai)) E s) :
   wpAny M A (raiseStmt env (some x) none) Q E s:=by
 have hcB:(Value.ref C::bm).contains (.type "BaseException")=true:=by rw [OA,hbase,PW]
 unfold raiseStmt;refine MQ (NM h (λv ai aX=>?_) λ_ _ x=>x);obtain ⟨e,t,D,sl,rfl,hC,he,hE⟩:=aX;obtain ⟨hp,g,d,tk,os⟩:=ai
 repeat (first | with_reducible refine NV he ?_ | with_reducible refine NV hC ?_ | (with_reducible refine OB hC ?_; rw [hcB]) | wp_step)
 exact wpAny_raiseNew_none hh hE
end
open Builtin Builtin.ObjectAttr
variable {D:Addr} {vs:Array Value} {hdct':Bool} {ns:List Str} {name:Str} {mN' mA:Str->Option Value}
section
variable {prog:Program} {E:Value->Shared->Prop}
variable {q nm' q':Str} {C' N' x:Addr} {bs':List Value} {sn':List Str} {sub':List Value} {ab':Bool} {col':Option Bool} {dd':Option Addr} {k0 k1 k2 k3 k5 k0' k1' k2' k3' k5':Option Value} {newId':String}
inductive Two (h:Heap) (C:Addr) (mN mN':Str->Option Value):Prop where
 | mk (nm q nm' q':Str) (N C' N':Addr) (bs bs':List Value) (hdct':Bool) (sn sn':List Str) (sub sub':List Value) (ab ab':Bool) (col col':Option Bool) (dd dd':Option Addr) (k0 k1 k2 k3 k5 k0' k1' k2' k3' k5':Option Value) (newId newId':String)
   (h1:h.get? C=some (excClassObj nm q C N bs (.ref C'::eY) true sn sub ab col dd k0 k1 k2 k3 k5 newId)) (h2:h.Ns N mN) (h3:h.get? C'=some (excClassObj nm' q' C' N' bs' eY hdct' sn' sub' ab' col' dd' k0' k1' k2' k3' k5' newId')) (h4:h.Ns N' mN'):Two h C mN mN'
theorem eB {n:Str} {Q:Option Value->Shared->Prop} (T:Two h C mN mN') (hn:mN n=none) (hn':mN' n=none) (hB:typeLookup (.type "ValueError") n=pure y) (hq:Q y ⟨h,g,d,t,os⟩) :
   wpAny M A (typeLookup (.ref C) n) Q E ⟨h,g,d,t,os⟩:=by
 have hrest:lookupAlong eY n=pure y:=by rw [typeLookup_eq,F.excBase_ValueError.mroIs] at hB; exact hB
 cases T with
 | mk _ _ _ _ _ _ _ _ _ _ _ _ _ _ _ _ _ _ _ _ _ _ _ _ _ _ _ _ _ _ _ _ h1 h2 h3 h4=>
 rw [typeLookup_eq];refine MQ (wpAny_mroOf_exc h1 ?_);rw [lookupAlong_cons];refine MQ (wpAny_classOwn_exc h1 h2 ?_);rw [hn];show wpAny M A (lookupAlong (.ref _::eY) n) Q E _;rw [lookupAlong_cons];refine MQ (wpAny_classOwn_exc h3 h4 ?_);rw [hn'];show wpAny M A (lookupAlong eY n) Q E _;rw [hrest];exact NF hq
inductive ClsAt (h:Heap) (C:Addr):Prop
 | mk (nm q:Str) (N C':Addr) (bs:List Value) (sn:List Str) (sub:List Value) (ab:Bool) (col:Option Bool) (dd:Option Addr) (k0 k1 k2 k3 k5:Option Value) (newId:String) (hC:h.get? C=some (excClassObj nm q C N bs (.ref C'::eY) true sn sub ab col dd k0 k1 k2 k3 k5 newId)):ClsAt h C
theorem Two.cls (T:Two h C mN mN'):ClsAt h C:=by
 cases T with
 | mk _ _ _ _ _ _ _ _ _ _ _ _ _ _ _ _ _ _ _ _ _ _ _ _ _ _ _ _ _ _ _ _ h1 h2 h3 h4=>exact ⟨_,_,_,_,_,_,_,_,_,_,_,_,_,_,_,_,h1⟩
theorem rq {Q:Unit->Shared->Prop} (T:Two h C mN mN') (hx:h.get? x=some o) (hc:o.cls=.ref C) (hq:Q () ⟨h,g,d,t,os⟩) :
   wpAny M A (checkBuiltinCall "object.__setattr__" ⟨[.ref x,nameV,v],[]⟩) Q E ⟨h,g,d,t,os⟩:=by
 obtain ⟨nm,q,N,C',bs,sn,sub,ab,col,dd,k0,k1,k2,k3,k5,newId,hC⟩:=T.cls;have hcB:(Value.ref C::.ref C'::eY).contains (.type "object")=true:=by rw [OA,OA,show eY.contains (.type "object")=true from rfl,PW,PW]
 have ha:=F.store_ValueError.args (.ref x) nameV v;unfold checkBuiltinCall;rw [F.store_ValueError.kind,F.store_ValueError.split];refine MQ ?_
 . unfold isInstance
   repeat (first | (with_reducible refine NV hx ?_; rw [hc]) | (with_reducible refine OB hC ?_; rw [hcB]) | wp_step)
   exact hq
theorem z0 (T:Two h C mN mN') (hna:mN name=none) (hna':mN' name=none) (hB:typeLookup (.type "ValueError") name=pure none) (hx:h.get? x=some o) (hc:o.cls=.ref C) (hdn:o.dict=none) (hdat:o.data=.fields vs)
   (hq:∀ h' tk',h'.get? x=some { o with dict:=some h.objs.size }->h'.Ns1 h.objs.size (λy=>if y=name then some v else none)->(∀ b o,b≠x->h.get? b=some o->h'.get? b=some o)->Q (.done (.ret .none)) ⟨h',g,d,tk',os⟩) :
   wpAny (model prog w) A (Builtin.«object.__setattr__» ⟨[.ref x,.str name tk,v],[]⟩) Q E ⟨h,g,d,t,os⟩:=by
 obtain ⟨nm,q,N,C',bs,sn,sub,ab,col,dd,k0,k1,k2,k3,k5,newId,hC⟩:=T.cls;have hpass:=F.store_ValueError.passes (.ref x);unfold Builtin.«object.__setattr__»
 repeat (first | rw [refuse_eq] | (rw [refuseLoop_ref,refuseLoop_ref,hpass]) | (with_reducible refine NV hx ?_; rw [hc]) | with_reducible refine wpAny_mroOf_exc hC ?_ | with_reducible refine eB T hna hna' hB ?_ | wp_step)
 rw [hdn];show wpAny _ _ (if (!true||!typeHasDict (Value.ref C))=true then pure none else _) _ _ _;rw [if_neg (by simp [typeHasDict]),hdat];have G2:(h.push { cls:=.type "dict",data:=.dict #[] }).get? x=some o:=NG _ hx;have hxs:x≠h.objs.size:=OI (Os hx);refine MQ (wpAny_alloc' ?_);refine MQ (wpAny_update' G2 (NF ?_));show wpAny _ _ (storeInDict h.objs.size (.str name tk) name v) _ _ _;generalize hh:((h.push { cls:=.type "dict",data:=.dict #[] }).update x λo=>{ cls:=o.cls,dict:=some h.objs.size,data:=o.data,slots:=o.slots })=fE;have hgd:fE.get? h.objs.size=some { cls:=.type "dict",data:=.dict #[] }:=by rw [<- hh]; exact (Heap.get?_update_ne _ _ _ _ hxs.symm).trans (Heap.get?_push_at rfl rfl)
 have K2:fE.get? x=some { o with dict:=some h.objs.size }:=by rw [<- hh]; refine OL _ G2 ?_;obtain ⟨oc,od,odt,osl⟩:=o;have hdat:odt=.fields vs:=hdat;subst hdat; rfl
 have kp:∀ b o,b≠x->h.get? b=some o->fE.get? b=some o:=λb o hb e=>by rw [<- hh]; exact (Heap.get?_update_ne _ _ _ _ hb).trans (NG _ e)
 unfold storeInDict newKeyGuard;refine MQ (NF (MQ (wpAny_nsSet1 (Heap.Ns1.of_empty ⟨_,#[],_,hgd,rfl,λe he=>absurd he (by simp),λ_=>rfl⟩) λh' hn' hs=>?_)));obtain ⟨oD,esD,epD,hoD,hdD,hcD⟩:=hn'.count (Within.cons name v Within.nil);refine MQ (wpAny_lookBehind hoD (by rw [hdD]; exact pastItsLine_dict (iv hcD (by rw [NU,OY,sizeLine_eq]; decide))) ?_)
 wp_walk
 exact hq h' _ ((hs.2 x hxs).trans K2) hn' λb o hb e=>(hs.2 b (OI (Os e))).trans (kp b o hb e)
theorem BJ (T:Two h C mN mN') (hna:mN name=none) (hna':mN' name=none) (hB:typeLookup (.type "ValueError") name=pure none) (hx:h.get? x=some o) (hc:o.cls=.ref C) (hdx:o.dict=some D)
   (hns:h.Ns1 D mA) (hw:Within mA ns) (hsz:ns.length+1<=1000)
   (hq:∀ h' tk',h'.Ns1 D (λy=>if y=name then some v else mA y)->(∀ b o,b≠D->h.get? b=some o->h'.get? b=some o)->Q (.done (.ret .none)) ⟨h',g,d,tk',os⟩) :
   wpAny (model prog w) A (Builtin.«object.__setattr__» ⟨[.ref x,.str name tk,v],[]⟩) Q E ⟨h,g,d,t,os⟩:=by
 obtain ⟨nm,q,N,C',bs,sn,sub,ab,col,dd,k0,k1,k2,k3,k5,newId,hC⟩:=T.cls;have hpass:=F.store_ValueError.passes (.ref x);unfold Builtin.«object.__setattr__»
 repeat (first | rw [refuse_eq] | (rw [refuseLoop_ref,refuseLoop_ref,hpass]) | (with_reducible refine NV hx ?_; rw [hc]) | with_reducible refine wpAny_mroOf_exc hC ?_ | with_reducible refine eB T hna hna' hB ?_ | wp_step)
 rw [hdx];refine NF ?_;show wpAny _ _ (storeInDict D (.str name tk) name v) _ _ _;unfold storeInDict newKeyGuard;refine MQ (NF (MQ (wpAny_nsSet1 hns λh' hn' hs=>?_)));obtain ⟨oD,esD,epD,hoD,hdD,hcD⟩:=hn'.count (Within.cons name v hw);refine MQ (wpAny_lookBehind hoD (by rw [hdD]; exact pastItsLine_dict (iv hcD (by rw [NU,sizeLine_eq]; omega))) ?_)
 wp_walk
 exact hq h' _ hn' λb o hb e=>(hs.2 b hb).trans e
theorem mK {Q:Unit->Shared->Prop} (T:Two h C mN mN') (hs:mN "__setattr__"=none) (hs':mN' "__setattr__"=none) (hx:h.get? x=some o) (hc:o.cls=.ref C)
   (hent:∀ (A':Around) (E':Value->Shared->Prop) (Q':Fin->Shared->Prop) (tk:Tok) (t':Nat),(∀ h' tk',Q () ⟨h',g,d,tk',os⟩->Q' (.done (.ret .none)) ⟨h',g,d,tk',os⟩)->wpAny (model prog w) A' (Builtin.«object.__setattr__» ⟨[.ref x,.str name tk,v],[]⟩) Q' E' ⟨h,g,d,t',os⟩) :
   wpAny (model prog w) A (setAttr (.ref x) name v) Q E ⟨h,g,d,t,os⟩:=by
 have f3:=F.store_ValueError.slot.bind (.ref x);unfold setAttr callSpecial? specialOf
 repeat (any_goals (first | assumption | (with_reducible refine NV hx ?_; rw [hc]) | with_reducible refine eB T hs hs' F.store_ValueError.slot.lookup ?_ | wp_step))
 refine codeAny_call_builtin F.store_ValueError.slot.plain F.store_ValueError.entry (rq T hx hc (hent _ _ _ _ _ λh' tk' hQ=>?_))
 repeat (any_goals (first | assumption | wp_step))
end
variable {expr:Bool} {Q:Value->Shared->Prop}
section
variable {prog:Program} {E:Value->Shared->Prop}
variable {x:Addr}
theorem pJ {Q:Fin->Shared->Prop} (T:Two h C mN mN') (hna:mN name=none) (hna':mN' name=none) (hB:typeLookup (.type "ValueError") name=pure none) (hx:h.get? x=some o) (hc:o.cls=.ref C) (hdat:o.data=.fields vs) (hdx:o.dict=some D) (hns:h.Ns1 D mA) (hv:mA name=some v)
   (hq:Q (.done (.ret v)) ⟨h,g,d,t,os⟩):wpAny (model prog w) A (Builtin.«object.__getattribute__» ⟨[.ref x,.str name tk],[]⟩) Q E ⟨h,g,d,t,os⟩:=by
 repeat (any_goals (first | assumption | (with_reducible refine NV hx ?_; rw [hc]) | with_reducible refine eB T hna hna' hB ?_ | wp_step))
 rw [hdat];show wpAny _ _ (instanceDict x false) _ _ _;unfold instanceDict;obtain ⟨nm,q,N,C',bs,sn,sub,ab,col,dd,k0,k1,k2,k3,k5,newId,hC⟩:=T.cls
 repeat (first | (with_reducible refine NV hx ?_; rw [hc]) | with_reducible refine NV hC ?_ | wp_step)
 rw [hdx]
 repeat (first | (with_reducible refine wpAny_nsGet hns.ns ?_; rw [hv]) | wp_step)
 exact hq
theorem rt {Q:Unit->Shared->Prop} (T:Two h C mN mN') (hx:h.get? x=some o) (hc:o.cls=.ref C) (hq:Q () ⟨h,g,d,t,os⟩):wpAny M A (checkBuiltinCall "BaseException.__getattribute__" ⟨[.ref x,nameV],[]⟩) Q E ⟨h,g,d,t,os⟩:=by
 obtain ⟨nm,q,N,C',bs,sn,sub,ab,col,dd,k0,k1,k2,k3,k5,newId,hC⟩:=T.cls;have hk:builtinKind "BaseException.__getattribute__"=some .slot:=by decide +kernel
 have hsplit:splitId "BaseException.__getattribute__"=some ("BaseException","__getattribute__"):=by decide +kernel
 have hcB:(Value.ref C::.ref C'::eY).contains (.type "BaseException")=true:=by rw [OA,OA,show eY.contains (.type "BaseException")=true from rfl,PW,PW]
 have ha:=F.args_bexc_ga (.ref x) nameV;unfold checkBuiltinCall;rw [hk,hsplit];refine MQ ?_
 . unfold isInstance
   repeat (first | (with_reducible refine NV hx ?_; rw [hc]) | (with_reducible refine OB hC ?_; rw [hcB]) | wp_step)
   exact hq
theorem vG (T:Two h C mN mN') (hg:mN "__getattribute__"=none) (hg':mN' "__getattribute__"=none) (hga:mN "__getattr__"=none) (hga':mN' "__getattr__"=none) (hna:mN name=none) (hna':mN' name=none) (hB:typeLookup (.type "ValueError") name=pure none) (hx:h.get? x=some o) (hc:o.cls=.ref C) (hdat:o.data=.fields vs) (hdx:o.dict=some D) (hns:h.Ns1 D mA) (hv:mA name=some v) (hh:handedOut v=pure v)
   (hq:∀ t',Q v ⟨h,g,d,t',os⟩):wpAny (model prog w) A (getAttr (.ref x) name expr) Q E ⟨h,g,d,t,os⟩:=by
 have f3:=F.excAttr_ValueError.ga.bind (.ref x);have hx2:(Value.builtin "BaseException.__getattribute__"==Value.builtin "object.__getattribute__")=false:=by decide +kernel
 have hx1:(onTheHeap (Value.ref C)&&Value.builtin "BaseException.__getattribute__"==Value.builtin "object.__getattribute__")=false:=by rw [hx2]; rfl
 unfold getAttr getAttrBy
 repeat (any_goals (first | assumption | (with_reducible refine NV hx ?_; rw [hc]) | with_reducible refine eB T hg hg' vp ?_ | with_reducible refine eB T hga hga' nc ?_ | wp_step))
 rw [if_neg (by cases expr <;> exact NY)];unfold boundAndCalled
 repeat (any_goals (first | assumption | (with_reducible refine NV hx ?_; rw [hc]) | wp_step))
 refine codeAny_call_builtin F.excAttr_ValueError.ga.plain F.entry_bexc_ga (rt T hx hc (pJ T hna hna' hB hx hc hdat hdx hns hv ?_))
 repeat (any_goals (first | assumption | wp_step))
 exact hq _
end
theorem sd:typeLookup (.type "ValueError") jf=pure none:=by rw [typeLookup_type,builtinLookup_eq_fast]; kernel_rfl
theorem na:typeLookup (.type "ValueError") cS=pure none:=by rw [typeLookup_type,builtinLookup_eq_fast]; kernel_rfl
inductive Cl6 (h:Heap):Prop where
 | mk (mN mN':Str->Option Value) (T:Two h (KA 6) mN mN') (q:∀ n∈c7,mN n=none/\mN' n=none) (I:InitX h mN) (O:OwnTail h eY (cL 6)) (nm q':Str) (N:Addr) (bs:List Value) (sn:List Str) (sub:List Value) (ab:Bool) (col:Option Bool) (dd:Option Addr) (k0 k1 k2 k3 k5:Option Value) (hC:h.get? (KA 6)=some (excClassObj nm q' (KA 6) N bs (cL 6) true sn sub ab col dd k0 k1 k2 k3 k5 "ValueError.__new__")) (hN:h.Ns N mN):Cl6 h
theorem DJ (X6:XAt h 6) (X0:XAt h 0):Cl6 h:=by obtain ⟨nm,q,N,bs,hdct,sn,sub,ab,col,dd,k0,k1,k2,k3,k5,mN,h1,h2,h3,_,h5⟩:=X6;obtain ⟨nm',q',N',bs',hdct',sn',sub',ab',col',dd',k0',k1',k2',k3',k5',mN',h1',h2',h3',h4',_⟩:=X0;obtain ⟨rfl,i⟩:=h5 rfl;exact ⟨mN,mN',⟨nm,q,nm',q',N,KA 0,N',bs,bs',hdct',sn,sn',sub,sub',ab,ab',col,col',dd,dd',k0,k1,k2,k3,k5,k0',k1',k2',k3',k5',_,_,h1,h2,h1',h2'⟩,λn hn=>⟨h3 n hn,h3' n hn⟩,i,.own h1' h2' (h4' (N3 _)) .base,nm,q,N,bs,sn,sub,ab,col,dd,k0,k1,k2,k3,k5,h1,h2⟩
theorem Two.keeps (T:Two h C mN mN') (kp:∀ b o,h.get? b=some o->h'.get? b=some o):Two h' C mN mN':=by
 cases T with
 | mk nm q nm' q' N C' N' bs bs' hdct' sn sn' sub sub' ab ab' col col' dd dd' k0 k1 k2 k3 k5 k0' k1' k2' k3' k5' newId newId' h1 h2 h3 h4=>exact ⟨nm,q,nm',q',N,C',N',bs,bs',hdct',sn,sn',sub,sub',ab,ab',col,col',dd,dd',k0,k1,k2,k3,k5,k0',k1',k2',k3',k5',newId,newId',kp _ _ h1,h2.keeps kp,kp _ _ h3,h4.keeps kp⟩
inductive Made6 (h h':Heap) (e:Addr) (v1 v2:Value):Prop where
 | mk (t D:Addr) (sl:Array (Option Value)) (m:Str->Option Value) (kp:∀ b o,h.get? b=some o->h'.get? b=some o) (h1:h.get? e=none) (h2:h'.get? e=some { cls:=.ref (KA 6),dict:=some D,data:=.fields #[.ref t,.none,.none,.none,.bool false,.none],slots:=sl }) (h3:h.get? D=none) (h4:h'.Ns1 D m) (h5:m jf=some v1/\m cS=some v2):Made6 h h' e v1 v2
variable {p0 p1 p2:Str}
section
variable {prog:Program} {E:Value->Shared->Prop}
theorem wy {K:Str->Option NameKind} (h0:K p0=some .local) (h1:K p1=some .local) (h2:K p2=some .local) (a b c:Value):bindL K [(p0,a),(p1,b),(p2,c)] (λ_=>none)=λy=>if y=p2 then some c else if y=p1 then some b else if y=p0 then some a else none:=by unfold bindL bindL bindL bindL;rw [if_pos h0,if_pos h1,if_pos h2]
theorem x5 {v1 v2:Value} (X:Cl6 h) (hlim:h.NoLimit) (hroom:A.depth+1 < recursionLimit) (q:∀ h' tk e,Made6 h h' e v1 v2->Q (.ref e) ⟨h',g,d,tk,os⟩) :
   wpAny (model prog w) A (call (.ref (KA 6)) [v1,v2]) Q E ⟨h,g,d,t,os⟩:=by
 obtain ⟨mN,mN',T,qn,⟨f,o,fd,p0,p1,p2,n1,n2,n3,n4,n5,n6,n7,n8,i1,i2,i3,i4,i5,i6,i7,i8,i9,i10,i11⟩,OT,nm,q',N,bs,sn,sub,ab,col,dd,k0,k1,k2,k3,k5,hC,hN⟩:=X;have hl:=λp hp=>(i10 p hp).1;have l0:=hl p0 (NE ..);have l1:=hl p1 (NA _ (NE ..));have l2:=hl p2 (NA _ (NA _ (NE ..)));have g0:=(cA (i10 p0 (NE ..)).2).1;have g1:=(cA (i10 p1 (NA _ (NE ..))).2).1;have g2:=(cA (i10 p2 (NA _ (NA _ (NE ..)))).2).1;refine yb PySem.F.excBase_ValueError OT hC hN i1 i2 i3 (by simp [sizeLine]) λaX e M=>?_;obtain ⟨tu,he,htu,_⟩:=M.there;refine wpAny_call (codeAny_call_cells hroom (M.keeps _ _ i2) i4 (hlim.keeps M.keeps) (i7.keeps M.keeps) i5 (i9 (.ref e) v1 v2) i6 (λy hy=>.inl ?_) (λai x=>?_) i8.2.1 i8.2.2 i8.1)
 . rcases NN.mp hy with rfl | hy
   . exact l0
   . rcases NN.mp hy with rfl | hy
     . exact l1
     . rw [NL.mp hy]; exact l2
 . have hns:=x.toInCall.ns;rw [wy (K:=(callEnvC fd aX.objs.size f).kindOf) l0 l1 l2] at hns;have hfr:aX.get? (callEnvC fd aX.objs.size f).locals=none:=fm x.toInCall.fresh;obtain ⟨fE,Kf,rfl,FI⟩:=x.done;generalize hL:(callEnvC fd aX.objs.size f).locals=L at hns hfr;have hk0:(callEnvC fd aX.objs.size f).kindOf p0=some .local:=l0;have hk1:(callEnvC fd aX.objs.size f).kindOf p1=some .local:=l1;have hk2:(callEnvC fd aX.objs.size f).kindOf p2=some .local:=l2;have hke:(callEnvC fd aX.objs.size f).scope.kind=.function:=i8.1;generalize callEnvC fd aX.objs.size f=env at *;have nk:=FI _ _ he;have eL:e≠L:=λz=>by rw [<- z,he] at hfr; cases hfr
   have vw:∀ b o,h.get? b=some o->fE.get? b=some o:=λb o z=>FI b o (M.keeps b o z);have mem:∀ n,n∈c7->mN n=none/\mN' n=none:=qn;have s1:=qn "__setattr__" (by simp [c7]);have s2:=qn jf (by simp [c7]);have s3:=qn cS (by simp [c7]);have ldN:∀ {A':Around} {E':Value->Shared->Prop} {Q':Value->Shared->Prop} {p:Str} {np:Pos} {v:Value} {s':Shared} {m':Str->Option Value},env.kindOf p=some .local->(p==("__debug__":Str))=false->s'.heap.Ns L m'->m' p=some v->Q' v s'->wpAny (model prog w) A' (eval (.Name p np) env) Q' E' s':=λhk hg hn hm hq=>wpAny_Name (wpAny_loadName_local hke hk (hL ▸ hn) hm hq) hg;rw [arm_execs_cons];refine MQ (plainObj_wpAny_Assign_Attribute (ldN (s':=⟨fE,g,d,Kf,os⟩) hk1 g1 hns (v:=v1) ?_ (ldN hk0 g0 hns (v:=.ref e) ?_ ?_)))
   . show (if p1=p2 then some v2 else if p1=p1 then some v1 else _)=some v1;rw [if_neg (Ne.symm i11.2.2),if_pos rfl]
   . show (if p0=p2 then some v2 else if p0=p1 then some v1 else if p0=p0 then some (Value.ref e) else none)=_;rw [if_neg (Ne.symm i11.2.1),if_neg (Ne.symm i11.1),if_pos rfl]
   refine mK (T.keeps vw) s1.1 s1.2 nk rfl λA' E' Q' tk t' k=>z0 (T.keeps vw) s2.1 s2.2 sd nk rfl rfl rfl λmy GK Jp nD kD=>k my GK ?_;have sj:fE.get? fE.objs.size=none:=aV _;generalize fE.objs.size=D at *;have CU:my.Ns L _:=hns.at λo z=>kD L o (Ne.symm eL) z;have CI:∀ b o,h.get? b=some o->my.get? b=some o:=λb o z=>kD b o (λy=>by rw [y,M.new] at z; cases z) (vw b o z);show wpAny _ _ (PySem.execs [_] env) _ _ _;rw [arm_execs_cons];refine MQ (plainObj_wpAny_Assign_Attribute (ldN (s':=⟨my,g,d,GK,os⟩) hk2 g2 CU (v:=v2) ?_ (ldN hk0 g0 CU (v:=.ref e) ?_ ?_)))
   . show (if p2=p2 then some v2 else _)=some v2;rw [if_pos rfl]
   . show (if p0=p2 then some v2 else if p0=p1 then some v1 else if p0=p0 then some (Value.ref e) else none)=_;rw [if_neg (Ne.symm i11.2.1),if_neg (Ne.symm i11.1),if_pos rfl]
   have hDe:D≠e:=λz=>by rw [z,nk] at sj; cases sj
   refine mK (T.keeps CI) s1.1 s1.2 Jp rfl λA' E' Q' tk t' k=>BJ (ns:=[jf]) (T.keeps CI) s3.1 s3.2 na Jp rfl rfl nD (Within.cons jf v1 Within.nil) (by simp) λFS GJ KR KX=>k FS GJ ?_;refine wpAny_execs_nil ⟨rfl,q FS GJ e ⟨tu,D,_,_,λb o z=>KX b o (λy=>?_) (CI b o z),M.new,KX _ _ (Ne.symm hDe) Jp,?_,KR,?_,?_⟩⟩
   . rw [y] at z; rw [vw _ _ z] at sj; cases sj
   . cases z:h.get? D with
     | none=>rfl
     | some o=>rw [vw _ _ z] at sj; cases sj
   . show (if jf=cS then some v2 else if jf=jf then some v1 else none)=_;rw [if_neg (by decide),if_pos rfl]
   . show (if cS=cS then some v2 else _)=_;rw [if_pos rfl]
end
variable {d:Nat}
variable {en:Bool} {I:Items} {names:List (Str×NameKind)} {scope:Scope} {it:Value}
section
variable {ex:Expr}
theorem ItPost.back (S:Step bV β σ s ah aa ai) (h:ItPost Z A en I ah aa ai af it aj):ItPost Z A en I β σ s af it aj:=by obtain ⟨aL,T,e,e1,e2,S',I',hf,r1,r2,r3⟩:=h;exact ⟨aL,T,e,e1,e2,S.trans S',I',λa ha=>⟨S.alive a (hf a ha).1,(hf a ha).2⟩,r1,r2,r3⟩
theorem Kz (D:Wd Z P gn G cf d) (he:PE Z P gn G cf d e):JL Z P gn G cf d (.seq e):=λks sc ex env ρ A β σ s I aa hm hA hh F Iv e'=>by refine kk λK k=>?_;rw [Jt] at e';obtain ⟨x,af,h1,h2⟩:=Res.bind_ok e';obtain ⟨⟨l,lk⟩,ho,rfl,rfl⟩:=iu h2;refine k ?_;refine NM ((he ks sc ex env ρ A β σ s hm hA F Iv).1 x aa h1) (λv ai ⟨ah,az,al,rv⟩=>?_) λ_ _ x=>x;exact NM (u8 hh al rv ho) (λit aj h=>h.back az) λ_ _ x=>x
theorem Fi (D:Wd Z P gn G cf d) (he:PE Z P gn G cf d e):JL Z P gn G cf d (.range e):=λks sc ex env ρ A β σ s I aa hm hA hh F Iv e'=>by
 replace hm:=ao hm; obtain ⟨⟨x,args⟩,h0,hm⟩:=hm;obtain ⟨p,pos,rfl⟩:=eT h0;replace hm:=ao hm; obtain ⟨a,h00,hm⟩:=hm;replace h00:=da h00; subst h00
 . simp only [NO,decide_eq_true_eq] at hm;obtain ⟨⟨⟨rfl,hg⟩,hs⟩,hm⟩:=hm;rw [Dz] at e';obtain ⟨x,af,h1,h2⟩:=Res.bind_ok e';obtain ⟨b,hx,hb,rfl,rfl⟩:=Ad h2;subst hx
   . skip
     . skip
       have trees:backTo pos (starEach [a] env)=[(false,eval a env)]:=by rw [a7 _ hs]; rfl
       refine PyProof.Rows.Call_Name trees (eK D F Iv hg D.b.range.1 D.b.range.2 ?_);refine O1 rfl (evalArgs_plain (spliced_cons (NM ((he ks sc a env ρ A β σ s hm hA F Iv).1 _ _ h1) (λv ai ⟨ah,az,al,rv⟩=>spliced_nil ?_) λ_ _ x=>x)));cases rv with
       | int _ t=>refine call_range_1 ?_;have bQ:=al.grow (aS (h:=ai.heap) { cls:=.type "range",data:=.fields #[.int 0 ai.toks,.int b t,.int 1 (ai.toks+1)] });have bY:Step bV ah aa ai ah aa { ai with heap:=ai.heap.push { cls:=.type "range",data:=.fields #[.int 0 ai.toks,.int b t,.int 1 (ai.toks+1)] },toks:=ai.toks+1+1 }:=Step.grow (aS _) rfl rfl;exact NM (mQ (a:=0) hh (by lia) hb bQ (IsRange.new ..)) (λit aj h=>h.back (az.trans bY)) λ_ _ x=>x
theorem Ch (D:Wd Z P gn G cf d) {ua kG:E} (aX:PE Z P gn G cf d ua) (fE:PE Z P gn G cf d kG):JL Z P gn G cf d (.range2 ua kG):=λks sc ex env ρ A β σ s I aa hm hA hh F Iv e'=>by
 replace hm:=ao hm; obtain ⟨⟨x,args⟩,h0,hm⟩:=hm;apply Ep (eT h0); intro p pos;replace hm:=ao hm; obtain ⟨⟨a,b⟩,h00,hm⟩:=hm;replace h00:=iD h00; subst h00
 . simp only [NO,decide_eq_true_eq] at hm;obtain ⟨⟨⟨⟨⟨rfl,hg⟩,hs⟩,hm⟩,hs'⟩,hm'⟩:=hm;rw [AP] at e';obtain ⟨x,af,q1,q2⟩:=Res.bind_ok e';obtain ⟨y,au,q2,q3⟩:=Res.bind_ok q2;obtain ⟨m,n,hx,hy,hb,rfl,rfl⟩:=w8 q3;subst hx; subst hy
   . skip
     . skip
       have trees:backTo pos (starEach [a,b] env)=[(false,eval a env),(false,eval b env)]:=by rw [a7 _ hs,a7 _ hs']; rfl
       refine PyProof.Rows.Call_Name trees (eK D F Iv hg D.b.range.1 D.b.range.2 ?_);refine O1 rfl (evalArgs_plain (spliced_cons (NM ((aX ks sc a env ρ A β σ s hm hA F Iv).1 _ _ q1) (λv ai ⟨ah,az,al,rv⟩=>spliced_cons (NM ((fE ks sc b env ρ A ah af ai hm' hA (F.step az) al).1 _ _ q2) (λu aj ⟨aL,bY,bQ,ru⟩=>spliced_nil ?_) λ_ _ x=>x)) λ_ _ x=>x)));cases rv with
       | int _ t=>
         cases ru with
         | int _ u=>refine call_range_2 ?_;have wF:=bQ.grow (aS (h:=aj.heap) { cls:=.type "range",data:=.fields #[.int m t,.int n u,.int 1 aj.toks] });have qN:Step bV aL aa aj aL aa { aj with heap:=aj.heap.push { cls:=.type "range",data:=.fields #[.int m t,.int n u,.int 1 aj.toks] },toks:=aj.toks+1 }:=Step.grow (aS _) rfl rfl;exact NM (mQ hh hb.1 hb.2 wF (IsRange.new ..)) (λit aR h=>h.back ((az.trans bY).trans qN)) λ_ _ x=>x
theorem IG (D:Wd Z P gn G cf d) (he:PE Z P gn G cf d e):JL Z P gn G cf d (.enum e):=λks sc ex env ρ A β σ s I aa hm hA hh F Iv e'=>by
 replace hm:=ao hm; obtain ⟨⟨x,args⟩,h0,hm⟩:=hm;obtain ⟨p,pos,rfl⟩:=eT h0;replace hm:=ao hm; obtain ⟨a,h00,hm⟩:=hm;replace h00:=da h00; subst h00;simp only [NO,decide_eq_true_eq] at hm;obtain ⟨⟨⟨rfl,hg⟩,hs⟩,hm⟩:=hm;rw [Gl] at e';obtain ⟨x,af,h1,h2⟩:=Res.bind_ok e';rcases dS (ia x) (λl=>(.ok ⟨jj l,[],none⟩ af:Res Items)) .bad with ⟨l,hl,q⟩ | q
 . rw [q] at h2; cases h2;have trees:backTo pos (starEach [a] env)=[(false,eval a env)]:=by rw [a7 _ hs]; rfl
   refine PyProof.Rows.Call_Name trees (eK D F Iv hg D.b.enum.1 D.b.enum.2 ?_);refine O1 rfl (evalArgs_plain (spliced_cons (NM ((he ks sc a env ρ A β σ s hm hA F Iv).1 _ _ h1) (λv ai ⟨ah,az,al,rv⟩=>spliced_nil ?_) λ_ _ x=>x)));have hx:=dM hl; subst hx;exact NM (xV hh al rv) (λx aj h=>NM h (λit aR h=>h.back az) λ_ _ x=>x) λ_ _ x=>x
 . rw [q] at h2; cases h2
set_option tactic.hygienic true in
theorem x3:∀ {acc:List (Str×Addr)},(∀ x∈names,x.2=.free->∃ c,env.cells.lookup x.1=some c)->(∀ x c,acc.lookup x=some c->env.cells.lookup x=some c)->
   ∃ cl,A4 ((forIn names acc λ(x:Str×NameKind) (cs:List (Str×Addr))=>(if (x.2==.free)=true then do let c <- cellOf env x.1; pure (ForInStep.yield ((x.1,c)::cs)) else pure (ForInStep.yield cs):Sem (ForInStep (List (Str×Addr)))))=(pure cl:Sem (List (Str×Addr)))) ((∀ x c,cl.lookup x=some c->env.cells.lookup x=some c)) ((∀ x,(x,NameKind.free)∈names\/(acc.lookup x).isSome=true->(cl.lookup x).isSome=true)) ((∀ x,(cl.lookup x).isSome=true->(x,NameKind.free)∈names\/(acc.lookup x).isSome=true)):=by
 induction names with
 | nil=>intro acc _ ha; exact ⟨acc,rfl,ha,λx h=>h.elim (λq=>by cases q) id,λx h=>.inr h⟩
 | cons n ns ih=>
   intro acc hn ha;obtain ⟨n,k⟩:=n;by_cases hk:k=.free
   . subst hk;obtain ⟨c,hc⟩:=hn (n,.free) (NE ..) rfl;have hc:env.cells.lookup n=some c:=hc;obtain ⟨cl,h1,h2,h3,h4⟩:=ih (acc:=(n,c)::acc) (λx hx=>hn x (NA _ hx)) (λx c' h=>by
       rw [NW] at h;split at h
       . rename_i hxn;have:=eq_of_beq hxn; subst this; cases h; exact hc
       . exact ha x c' h)
     refine ⟨cl,?_,h2,λx h=>h3 x ?_,λx h=>?_⟩
     . rw [List.forIn_cons];have:cellOf env n=pure c:=by unfold cellOf; rw [hc]
       simp only [this];exact h1
     . rcases h with h | h
       . rcases NN.mp h with h | h
         . cases h; right; simp [NW]
         . exact .inl h
       . right; rw [NW]; split
         . rfl
         . exact h
     . rcases h4 x h with h | h
       . exact .inl (NA _ h)
       . rw [NW] at h;split at h
         . rename_i hxn; have:=eq_of_beq hxn; subst this; exact .inl (NE ..)
         . exact .inr h
   . obtain ⟨cl,h1,h2,h3,h4⟩:=ih (acc:=acc) (λx hx=>hn x (NA _ hx)) ha;refine ⟨cl,?_,h2,λx h=>h3 x ?_,λx h=>?_⟩
     . rw [List.forIn_cons];have:(k==NameKind.free)=false:=by simpa using hk
       simp only [this,PX,if_false];exact h1
     . rcases h with h | h
       . rcases NN.mp h with h | h
         . cases h; exact absurd rfl hk
         . exact .inl h
       . exact .inr h
     . exact (h4 x h).imp (NA _) id
theorem rm (hn:∀ x∈scope.names,x.2=.free->∃ c,env.cells.lookup x.1=some c) :
   ∃ cl,A4 (closureFor scope env=pure cl) ((∀ x c,cl.lookup x=some c->env.cells.lookup x=some c)) ((∀ x,(x,NameKind.free)∈scope.names->(cl.lookup x).isSome=true)) ((∀ x,(cl.lookup x).isSome=true->(x,NameKind.free)∈scope.names)):=by
 obtain ⟨cl,h1,h2,h3,h4⟩:=x3 (acc:=[]) hn (λx c h=>by cases h);refine ⟨cl,?_,h2,λx h=>h3 x (.inl h),λx h=>(h4 x h).elim id λq=>by cases q⟩;have e:closureFor scope env=((forIn scope.names ([]:List (Str×Addr)) λ(x:Str×NameKind) (cs:List (Str×Addr))=>(if (x.2==.free)=true then do let c <- cellOf env x.1; pure (ForInStep.yield ((x.1,c)::cs)) else pure (ForInStep.yield cs):Sem (ForInStep (List (Str×Addr))))) >>= λcs=>pure cs):=rfl;rw [e,h1];rfl
end
variable {tx:Expr} {l is:List Nat} {dd:PyData} {t:Tgt} {Q:Unit->Shared->Prop}
theorem m0 (h:jB sc (i::l) xs=true):X3 λx p ys=>A3 (xs=.Name x p::ys) (sc.lookup x=some i) (jB sc l ys=true):=by replace h:=ao h; obtain ⟨⟨y,ys⟩,h0,h⟩:=h;replace h:=ao h; obtain ⟨x,h1,h⟩:=h;obtain ⟨p,h1⟩:=bH h1;simp only [NO,decide_eq_true_eq] at h;exact ⟨x,p,ys,by rw [me h0]; exact congrArg (·::ys) h1,h.1,h.2⟩
theorem lh:∀ {l:List Nat} {xs:List Expr},jB sc l xs=true->(assignEach xs env).length=l.length/\(assignEach xs env).findIdx? (·.1)=none
 | [],xs,h=>by have h:=fC h; subst h; exact ⟨rfl,rfl⟩
 | i::l,xs,h=>by replace h:=m0 h; obtain ⟨x,p,ys,rfl,_,h⟩:=h;have ih:=lh h;have e:assignEach (.Name x p::ys) env=(false,assign (.Name x p) env)::assignEach ys env:=rfl;rw [e];exact ⟨by rw [NU,NU,ih.1],by rw [List.findIdx?_cons,ih.2]; rfl⟩
noncomputable def zI (env:Env) (xs:List Expr) (h h':Heap):Prop:=(∀ x∈xs.filterMap fk,env.kindOf x=some .local)->∀ b o,b≠env.locals->h.get? b=some o->h'.get? b=some o
theorem mJ {E:Value->Shared->Prop}:∀ {xs:List Expr} {vs:List Value} {ds:List PyData} {ρ:Fm} {s:Shared},jB sc l xs=true->l.length=ds.length->RelAll (TT β σ) s.heap vs ds->FrameOk Z env ks sc ρ β σ s.heap->Inv Z β σ s.heap->
   (∀ s',FrameOk Z env ks sc (bv l ds ρ) β σ s'.heap->Step (own env) β σ s β σ s'->Inv Z β σ s'.heap->zI env xs s.heap s'.heap->Q () s')->wpAny (model Z.prog Z.w) A (assignInOrder ((assignEach xs env).map (·.2)) vs) Q E s:=by
 induction l with
 | nil=>
   intro xs vs ds ρ s h hl r F I q;cases ds with
   | nil=>have h:=fC h; subst h;exact NF (q s F Step.refl I λ_ _ _ _ e=>e)
   | cons _ _=>cases hl
 | cons i l ih_=>
   intro xs vs ds ρ s h hl r F I q;cases ds with
   | nil=>cases hl
   | cons d ds=>
     replace h:=m0 h; obtain ⟨x,p,ys,rfl,hx,h⟩:=h;obtain ⟨v,vs',rfl,z,rs⟩:=r.inv; clear r;show wpAny _ _ (holding vs' (assign (.Name x p) env v) >>= λ_=>assignInOrder ((assignEach ys env).map (·.2)) vs') _ _ _;refine MQ (OG (wpAny_assign_Name (F.store I hx (v:=.d d) z λs' F' S' I' keep kl=>?_)));refine ih_ h (Nat.succ.inj hl) ?_ F' I' λs'' F'' S'' I'' k''=>q s'' F'' (S'.trans S'') I'' λhloc b o hb e=>k'' (λy hy=>hloc y ?_) b o hb ((kl (hloc x ?_)).1 b o hb e)
     . exact S'.relAll F.notSeq rs
     . exact NA _ hy
     . exact NE ..
theorem qK {E:Value->Shared->Prop} {w:Value} (hh:A.handled=none) (h1:jB sc l xs=true) (F:FrameOk Z env ks sc ρ β σ s.heap) (I:Inv Z β σ s.heap) (r:aw β σ s.heap w (.d dd)) (hb:eu (.tup l) dd ρ=some ρ')
   (q:∀ s',FrameOk Z env ks sc ρ' β σ s'.heap->Step (own env) β σ s β σ s'->Inv Z β σ s'.heap->zI env xs s.heap s'.heap->Q () s'):wpAny (model Z.prog Z.w) A (assign (.Tuple xs k p) env w) Q E s:=by
 obtain ⟨ds,hd,hb⟩:=tE hb;rw [sY hd] at r;by_cases hl:l.length=ds.length
 . rw [if_pos hl] at hb; cases hb;apply (oH r).el; intro a vs n ha _ _ rr;have hn:=lh (env:=env) h1;have hz:=rr.length;simp only [NT] at hz;refine wpAny_assign_Tuple hh ⟨_,ha,rfl,_,rfl⟩ (by rw [hn.1,hz,hl]) hn.2 λh' he=>?_;have hk:∀ b o,s.heap.get? b=some o->h'.get? b=some o:=λb o e=>he b o (OI (Os e)) e;have S2:Step bV β σ s β σ { s with heap:=h' }:=Step.grow hk rfl rfl;exact mJ h1 hl (rr.mono λx o _ _ e _ t=>⟨hk _ _ e,t⟩) (F.step S2) (I.grow hk) λs' F' S' I' k'=>q s' F' (S2.ofNo.trans S') I' λhloc b o hb e=>k' hloc b o hb (hk b o e)
 . rw [if_neg hl] at hb; cases hb
theorem DU {E:Value->Shared->Prop} {w:Value} (hh:A.handled=none) (h1:mZ sc t tx=true) (hloc:∀ x∈dN tx,env.kindOf x=some .local) (F:FrameOk Z env ks sc ρ β σ s.heap) (I:Inv Z β σ s.heap) (r:aw β σ s.heap w (.d dd)) (hb:eu t dd ρ=some ρ')
   (q:∀ s',FrameOk Z env ks sc ρ' β σ s'.heap->Step (own env) β σ s β σ s'->Inv Z β σ s'.heap->(∀ b o,b≠env.locals->s.heap.get? b=some o->s'.heap.get? b=some o)->Q () s'):wpAny (model Z.prog Z.w) A (assign tx env w) Q E s:=by
 cases t with
 | var i=>replace h1:=ao h1; obtain ⟨x,h0,hx⟩:=h1;obtain ⟨p,rfl⟩:=bH h0;cases hb;exact wpAny_assign_Name (F.store I (of_decide_eq_true hx) (v:=.d dd) r λs' F' S' I' _ kl=>q s' F' S' I' (kl (hloc x (NL.mpr rfl))).1)
 | tup l=>replace h1:=ao h1; obtain ⟨xs,h0,h1⟩:=h1;obtain ⟨k',p,rfl⟩:=kc h0;exact qK hh h1 F I r hb λs' F' S' I' k'=>q s' F' S' I' (k' hloc)
noncomputable def Bl (is:List Nat) (ρ:Fm):Fm:=ρ.mapIdx λj v=>if j∈is then .un else v
theorem oq {v:V} (h:(Bl is ρ)[j]?=some v) (hu:v≠.un):j∉is/\ρ[j]?=some v:=by
 unfold Bl at h;rw [QV] at h;obtain ⟨w,h1,h2⟩:=N9.mp h;by_cases hj:j∈is
 . rw [if_pos hj] at h2; exact absurd h2.symm hu
 . rw [if_neg hj] at h2; exact ⟨hj,by rw [h1,h2]⟩
theorem zw (h:j∉is):(Bl is ρ)[j]?=ρ[j]?:=by
 unfold Bl;rw [QV];cases ρ[j]? with
 | none=>rfl
 | some v=>exact congrArg some (if_neg h)
theorem oV:∀ {l:List Nat} {ds:List PyData} {ρ:Fm} {j:Nat},j∉l->(bv l ds ρ)[j]?=ρ[j]?
 | [],_,_,_,_=>rfl
 | _::_,[],_,_,_=>rfl
 | i::l,d::ds,ρ,j,h=>by show (bv l ds (ρ.set i (.d d)))[j]?=_;rw [oV λq=>h (NA _ q),gl λq=>h (NN.mpr (.inl q.symm))]
theorem iG:∀ {l:List Nat} {ds:List PyData} {ρ ρ':Fm},l.length=ds.length->ρ.length=ρ'.length->(∀ j,j∉l->ρ[j]?=ρ'[j]?)->bv l ds ρ=bv l ds ρ'
 | [],ds,ρ,ρ',_,_,h=>by have e:ρ=ρ':=P8 λj=>h j (λq=>by cases q);rw [e]
 | _::_,[],_,_,hl,_,_=>by cases hl
 | i::l,d::ds,ρ,ρ',hl,hn,h=>by
   show bv l ds (ρ.set i (.d d))=bv l ds (ρ'.set i (.d d));refine iG (Nat.succ.inj hl) (by rw [PY,PY,hn]) λj hj=>?_;by_cases q:i=j
   . subst q;rw [List.getElem?_set,List.getElem?_set,hn]; simp
   . rw [gl q,gl q];exact h j λz=>(NN.mp z).elim (λz=>q z.symm) hj
theorem zy (is:List Nat) (ρ:Fm):(Bl is ρ).length=ρ.length:=List.length_mapIdx
theorem Bb {ρ ρ':Fm} (h:eu t dd ρ=some ρ'):eu t dd (Bl (cM t) ρ)=some ρ'/\∀ j,j∉cM t->ρ'[j]?=ρ[j]?:=by
 cases t with
 | var i=>cases h;refine ⟨congrArg some ?_,λj hj=>gl λq=>hj (NL.mpr q.symm)⟩;have:=iG (l:=[i]) (ds:=[dd]) (ρ:=Bl [i] ρ) (ρ':=ρ) rfl (zy ..) λj hj=>zw hj;exact this
 | tup l=>
   obtain ⟨ds,hd,h⟩:=tE h;by_cases hl:l.length=ds.length
   . rw [if_pos hl] at h; cases h;refine ⟨?_,λj hj=>oV hj⟩;show oc (Bz dd) _ _=_;rw [hd];show (if l.length=ds.length then some (bv l ds (Bl l ρ)) else none)=_;rw [if_pos hl,iG hl (zy ..) λj hj=>zw hj]
   . rw [if_neg hl] at h; cases h
theorem FrameOk.less (F:FrameOk Z env ks sc ρ β σ h) (hl:∀ (j:Nat) (v:V),ρ'[j]?=some v->v≠.un->ρ[j]?=some v):FrameOk Z env ks sc ρ' β σ h:=by
 refine ⟨F.kind,F.globals,F.builtins,F.kinds,F.bound,F.inj,?_,?_,F.apart,F.cinj,F.cloc,F.frs⟩
 . obtain ⟨m,N,q⟩:=F.ns;exact ⟨m,N,λx j h1 h2 v h3 h4=>q x j h1 h2 v (hl j v h3 h4) h4⟩
 . intro x c e;obtain ⟨ov,C,q⟩:=F.cell x c e;exact ⟨ov,C,λj h1 h2 v h3 h4=>q j h1 h2 v (hl j v h3 h4) h4⟩
theorem KS {t:Sem α} {Q:α->Shared->Prop} {E:Value->Shared->Prop} (h:wpAny (model Z.prog Z.w) A t Q (λ_ _=>False) s):wpAny (model Z.prog Z.w) A t Q E s:=NM h (λ_ _ x=>x) λ_ _ x=>x.elim
structure Lp (Z:Cx) (A:Around) (O:Addr->Prop) (T:Itr) (cu:List Addr) (bq:ac) (cU:Shared) (X:Heap->Prop) (β:List Addr) (σ:ac) (s:Shared):Prop where
 op:Opened Z A T cu bq cU.heap
 st0:Step (λx=>O x\/x∈T.wr) cu bq cU β σ s
 inv:Inv Z β σ s.heap
 st:X s.heap
 nm:∀ a∈T.wr,a∉β
 n0:∀ a∈T.wr,Z.h₀.get? a=none
 live:∀ a∈T.wr,(∃ o,s.heap.get? a=some o/\¬ fD o)/\¬ bB s.heap a
 stay:∀ b∈T.fp,b∈T.wr\/nY β σ s.heap b
 seq:bL cu bq cU.heap β σ s.heap
variable {Y X:Heap->Prop} {T:Itr} {cl:List (Str×Addr)} {sc':List (Str×Nat)} {cu:List Addr} {elts:List Expr} {tk:Nat} {cU:Shared}
theorem Lp.start (op:Opened Z A T cu bq cU.heap) (I:Inv Z cu bq cU.heap) (hn:∀ a∈T.wr,a∉cu) (h0:∀ a∈T.wr,Z.h₀.get? a=none):Lp Z A O T cu bq cU (T.St 0) cu bq cU:=
 ⟨op,Step.refl,I,op.start,hn,h0,op.noseq _ _ op.start,op.stay,bL.refl⟩
theorem Lp.exAll (L:Lp Z A O T cu bq cU X β σ s):∀ b∈T.fp,∃ o,s.heap.get? b=some o:=λb hb=>by
 rcases L.stay b hb with h | h
 . obtain ⟨o,e,_⟩:=(L.live b h).1;exact ⟨o,e⟩
 . exact h.ex L.inv
theorem Lp.step (L:Lp Z A O T cu bq cU (T.St k) β σ s) (S:Step O β σ s β' σ' s') (I':Inv Z β' σ' s'.heap) (hO:∀ x,O x->x∉β/\¬ bB s.heap x) (hI:∀ a∈T.wr,¬ O a):Lp Z A O T cu bq cU (T.St k) β' σ' s':=by
 have keepI:∀ a∈T.wr,∀ o,s.heap.get? a=some o->s'.heap.get? a=some o:=λa ha o e=>S.keep a o e (λz=>L.nm a ha z.tt.mem) (hI a ha) (by obtain ⟨o',e',q⟩:=(L.live a ha).1;rw [e] at e'; cases e'; exact q)
 have keep:∀ b∈T.fp,∀ o,s.heap.get? b=some o->s'.heap.get? b=some o:=λb hb o e=>by
   rcases L.stay b hb with h | h
   . exact keepI b h o e
   . exact (h.keep S L.inv I' hO).1 o e
 have st':=L.op.frame k _ _ L.st keep;refine ⟨L.op,L.st0.trans (S.weaken λ_=>.inl),I',st',λa ha m=>?_,L.n0,L.op.noseq _ _ st',λb hb=>?_,L.seq.trans (S.relH λx z=>(hO x z).2)⟩
 . obtain ⟨e,rfl,f⟩:=S.ext;rcases NR.mp m with m | m
   . exact L.nm a ha m
   . obtain ⟨o,e',_⟩:=(L.live a ha).1;rw [f _ m] at e'; cases e'
 . exact (L.stay b hb).imp id λh=>(h.keep S L.inv I' hO).2
theorem Lp.off (L:Lp Z A O T cu bq cU (T.St k) β σ s) (hf:cU.heap.get? a=none) (ha:a∉T.fp) (I':Inv Z β σ s'.heap) (hn:∀ o vs n,s.heap.get? a=some o->wf o vs n->TT β σ a) (hk:∀ b o,b≠a->s.heap.get? b=some o->s'.heap.get? b=some o) (hg:s'.gens=s.gens) (ho:s'.os=s.os) :
   Lp Z A O T cu bq cU (T.St k) β σ s':=by
 have st':=L.op.frame k _ s'.heap L.st λb hb o e=>hk b o (λq=>ha (q ▸ hb)) e;refine ⟨L.op,L.st0.tail (W:=(·=a)) (λ_ q=>q ▸ hf) hk hg ho,I',st',L.nm,L.n0,L.op.noseq _ _ st',λb hb=>?_,L.seq.trans λx o vs n e d t=>⟨hk x o (λq=>t (q ▸ hn o vs n (q ▸ e) d)) e,t⟩⟩;refine (L.stay b hb).imp id λh=>h.imp id ?_
 rintro ⟨⟨o,vs,n,e,d⟩,t⟩
 exact ⟨⟨o,vs,n,hk b o (λq=>ha (q ▸ hb)) e,d⟩,t⟩
theorem Lp.move (L:Lp Z A O T cu bq cU X β σ s) (hk:Kp T s.heap h') (st':Y h') (hl:∀ a∈T.wr,(∃ o,h'.get? a=some o/\¬ fD o)/\¬ bB h' a):Lp Z A O T cu bq cU Y β σ { s with heap:=h',toks:=tk }:=by
 have sq:bL β σ s.heap β σ h':=λx o vs n e d t=>⟨hk x o (λq=>(L.live x q).2 ⟨o,vs,n,e,d⟩) e,t⟩;refine ⟨L.op,?_,L.inv.touch (W:=(·∈T.wr)) L.nm L.n0 (λa q=>(L.live a q).2) hk,st',L.nm,L.n0,hl,λb hb=>?_,L.seq.trans sq⟩
 . refine L.st0.trans ⟨⟨[],by simp,by simp⟩,λk c' _ e=>⟨c',e,id,id,id⟩,Hc λx o e _ hx=>hk x o (λq=>hx (.inr q)) e,λx e=>?_,rfl,rfl⟩;by_cases q:x∈T.wr
   . obtain ⟨o,ho,_⟩:=(hl x q).1;have e:h'.get? x=none:=e; rw [ho] at e; cases e
   . cases q':s.heap.get? x with
     | none=>rfl
     | some o=>have e:h'.get? x=none:=e; rw [hk x o q q'] at e; cases e
 . by_cases q:b∈T.wr
   . exact .inl q
   . refine (L.stay b hb).imp id λh=>h.imp id ?_
     rintro ⟨⟨o,vs,n,e,d⟩,t⟩
     exact ⟨⟨o,vs,n,hk b o q e,d⟩,t⟩
theorem Lp.next (L:Lp Z A O T cu bq cU (T.St k) β σ s) {E:Value->Shared->Prop} {Q:Option Value->Shared->Prop} (hk:k < T.shown.length)
   (h:∀ v d s',Lp Z A O T cu bq cU (T.Mid k v) β σ s'->T.shown[k]?=some d->Rel (TT β σ) s'.heap v d->Kp T s.heap s'.heap->Q (some v) s'):wpAny (model Z.prog Z.w) A (pyNext (.ref T.Ia)) Q E s:=by
 refine L.op.item k s Q E hk L.st λv h' tk hp md keep=>?_;have L':=L.move (tk:=tk) keep md (L.op.noseqM _ _ _ md);obtain ⟨d,h1,h2⟩:=L.op.items k v _ h' hk hp β σ L.inv L'.seq;exact h v d _ L' h1 h2 keep
theorem Lp.skip (L:Lp Z A O T cu bq cU (T.Mid k v) β σ s) (he:T.en=false):Lp Z A O T cu bq cU (T.St (k+1)) β σ s:=
 ⟨L.op,L.st0,L.inv,L.op.skip he _ _ _ L.st,L.nm,L.n0,L.live,L.stay,L.seq⟩
theorem Lp.go (L:Lp Z A O T cu bq cU (T.Mid k v) β σ s) {E:Value->Shared->Prop} 
   (h:∀ s',Lp Z A O T cu bq cU (T.St (k+1)) β σ s'->Kp T s.heap s'.heap->Q () s'):wpAny (model Z.prog Z.w) A (letOwnedTupleGo (.Tuple elts n pos) (.ref T.Ia) v) Q E s:=
 L.op.go elts n pos k v s Q E L.st λh' st' keep=>h _ (L.move (tk:=s.toks) keep st' (L.op.noseq _ _ st')) keep
theorem Lp.goT (L:Lp Z A O T cu bq cU (T.Mid k v) β σ s) {E:Value->Shared->Prop} (pt:mZ sc t tx=true) (he:xz t=true\/T.en=false)
   (h:∀ s',Lp Z A O T cu bq cU (T.St (k+1)) β σ s'->Kp T s.heap s'.heap->Q () s'):wpAny (model Z.prog Z.w) A (letOwnedTupleGo tx (.ref T.Ia) v) Q E s:=by
 cases t with
 | var i=>replace pt:=ao pt; obtain ⟨x,h0,hx⟩:=pt;apply iY (bH h0); intro p;exact NF (h s (L.skip (he.resolve_left NY)) λ_ _ _ e=>e)
 | tup l=>replace pt:=ao pt; obtain ⟨xs,h0,h1⟩:=pt;apply Ep (kc h0); intro k' p;exact L.go h
theorem Lp.done (L:Lp Z A O T cu bq cU (T.St k) β σ s) {E:Value->Shared->Prop} {Q:Option Value->Shared->Prop} (hk:k=T.shown.length)
   (h:∀ s',Kp T s.heap s'.heap->s'.gens=s.gens->s'.os=s.os->Q none s'):wpAny (model Z.prog Z.w) A (pyNext (.ref T.Ia)) Q E s:=by
 subst hk;exact L.op.done s Q E L.st λh' tk keep=>h _ keep rfl rfl
set_option tactic.hygienic true in
theorem pG {k:NameKind} (h:names.lookup x=some k) :
   (names.map λ(n,k)=>if (k==NameKind.free&&env.scope.kind==.function&&env.kindOf n==some .cell) then (n,NameKind.cell) else (n,k)).lookup x=some (if (k==NameKind.free&&env.scope.kind==.function&&env.kindOf x==some .cell) then .cell else k):=by
 induction names with
 | nil=>cases h
 | cons a r ih=>
   obtain ⟨n,k'⟩:=a;rw [NW] at h;show List.lookup x ((if (k'==NameKind.free&&env.scope.kind==.function&&env.kindOf n==some .cell)=true then (n,NameKind.cell) else (n,k'))::_)=_;cases hx:x==n with
   | true=>
     rw [hx] at h;cases h;have:=eq_of_beq hx; subst this;split
     . rename_i hc; simp [NW]
     . rename_i hc; simp [NW]
   | false=>
     rw [hx] at h;split
     . rw [NW,hx]; exact ih h
     . rw [NW,hx]; exact ih h
set_option tactic.hygienic true in
theorem lM {names:List (Str×NameKind)} {x:Str} {i:Nat}:∀ {l:List (Str×NameKind)},(∀ y∈l,y.2=.free)->(l.filterMap λx=>(sc.lookup x.1).map λi=>(x.1,i)).lookup x=some i->(x,NameKind.free)∈l/\sc.lookup x=some i
 | []=>@λ_ h=>by cases h
 | (n,k)::l=>@λhl h=>by
   have hk:k=.free:=hl (n,k) (NE ..);subst hk;have ih:=lM (names:=names) (x:=x) (i:=i) (l:=l) λy hy=>hl y (NA _ hy);rw [Ph] at h;cases hs:sc.lookup n with
   | none=>simp only [hs,Option.map_none] at h;exact ⟨NA _ (ih h).1,(ih h).2⟩
   | some j=>
     simp only [hs,Option.map_some] at h;rw [NW] at h;split at h
     . rename_i hx;have:=eq_of_beq hx; subst this;cases h;exact ⟨NE ..,hs⟩
     . exact ⟨NA _ (ih h).1,(ih h).2⟩
set_option tactic.hygienic true in
theorem j3:∀ {l:List (Str×Nat)},(l.map (·.2)).Nodup->∀ {x y:Str} {i:Nat},l.lookup x=some i->l.lookup y=some i->x=y
 | []=>@λ_ _ _ _ h _=>by cases h
 | (n,j)::l=>@λhn x y i hx hy=>by
   rw [Ol,O5] at hn;have mem:∀ {z:Str},l.lookup z=some i->i∈l.map (·.2):=λ{z} h=>by
     have:∃ p∈l,p.2=i:=by
       clear hn hx hy
       induction l with
       | nil=>cases h
       | cons a l ih=>
         rw [NW] at h;split at h
         . cases h; exact ⟨a,NE ..,rfl⟩
         . obtain ⟨p,h1,h2⟩:=ih h; exact ⟨p,NA _ h1,h2⟩
     obtain ⟨p,h1,h2⟩:=this;exact Ok.mpr ⟨p,h1,h2⟩
   rw [NW] at hx hy;split at hx
   . rename_i h1;cases hx;split at hy
     . rename_i h2; rw [eq_of_beq h1,eq_of_beq h2]
     . exact absurd (mem hy) hn.1
   . split at hy
     . cases hy; exact absurd (mem hx) hn.1
     . exact j3 hn.2 hx hy
set_option tactic.hygienic true in
theorem m9:∀ {l:List (Str×Nat)} {x:Str} {i:Nat},l.lookup x=some i->(x,i)∈l
 | (y,j)::l,x,i,h=>by
   rw [NW] at h;split at h
   . rename_i q; cases h; rw [eq_of_beq q]; exact NE ..
   . exact NA _ (m9 h)
structure CompNames (ks:List (Str×NameKind)) (sc:List (Str×Nat)) (scope:Scope) (xs:List Str) (is:List Nat) (sc':List (Str×Nat)):Prop where
 kind:scope.kind=.function
 loc:∀ y∈scope.names,y.2=.local->scope.names.lookup y.1=some .local
 free:∀ y,(y,NameKind.free)∈scope.names->scope.names.lookup y=some .free/\(ks.lookup y=some .cell\/ks.lookup y=some .free)/\(sc.lookup y).isSome=true/\bP y=true
 nocell:∀ y∈scope.names,y.2≠.cell
 x0:∀ x∈xs,scope.names.lookup x=some .local/\bP x=true
 inj:(sc'.map (·.2)).Nodup
 at1:∀ x i,sc'.lookup x=some i->(x∈xs/\i∈is)\/((x,NameKind.free)∈scope.names/\sc.lookup x=some i/\i∉is)
set_option tactic.hygienic true in
theorem pH:∀ {l l':List (Str×Nat)} {x:Str} {i:Nat},(l++l').lookup x=some i->(x,i)∈l\/l'.lookup x=some i
 | [],_,_,_,h=>.inr h
 | (y,j)::l,l',x,i,h=>by
   rw [List.cons_append,NW] at h;split at h
   . rename_i q; cases h; rw [eq_of_beq q]; exact .inl (NE ..)
   . exact (pH h).imp (NA _) id
theorem AU (h:DH ks sc scope t tx=true):CompNames ks sc scope (dN tx) (cM t) (di sc scope.names t tx):=by
 obtain ⟨hk,hn,hx,hi,hl⟩:=LI h;replace hk:=of_decide_eq_true hk;replace hi:=of_decide_eq_true hi;replace hl:=of_decide_eq_true hl;have hn':=Oz.mp hn;have hfr:∀ y,(y,NameKind.free)∈scope.names->scope.names.lookup y=some .free/\(ks.lookup y=some .cell\/ks.lookup y=some .free)/\(sc.lookup y).isSome=true/\bP y=true:=λy hy=>by obtain ⟨q1,q2,q3,q4⟩:=Gw (show (decide (scope.names.lookup y=some .free)&&decide (ks.lookup y=some .cell\/ks.lookup y=some .free)&&(sc.lookup y).isSome&&bP y)=true from hn' _ hy);exact ⟨of_decide_eq_true q1,of_decide_eq_true q2,q3,q4⟩
 refine ⟨hk,λy hy hl=>?_,hfr,λy hy hc=>?_,λx hx'=>?_,hi,λx i hx=>?_⟩
 . have:=hn' y hy;rw [hl] at this;simpa using this
 . have:=hn' y hy;rw [hc] at this;cases this
 . have:=Oz.mp hx x hx';simpa only [NO,decide_eq_true_eq] using this
 . rcases pH hx with q | q
   . exact .inl ⟨(QO q).1,(QO q).2⟩
   . obtain ⟨h2,h3⟩:=lM (names:=scope.names) (λy hy=>by have:=(Ov.mp hy).2; simpa using this) q;refine .inr ⟨(Ov.mp h2).1,h3,λz=>?_⟩;unfold di at hi;rw [NP,List.map_snd_zip (OH hl.symm)] at hi;exact (Pf.mp hi).2.2 i z i (Ok.mpr ⟨(x,i),m9 q,rfl⟩) rfl
set_option tactic.hygienic true in
theorem AV {xs:List Str} (N:CompNames ks sc scope xs is sc') (F:FrameOk Z env ks sc ρ β σ h)
   (h2:∀ x c,cl.lookup x=some c->env.cells.lookup x=some c) (h3:∀ x,(x,NameKind.free)∈scope.names->(cl.lookup x).isSome=true) (h4:∀ x,(cl.lookup x).isSome=true->(x,NameKind.free)∈scope.names)
   (hC:h.get? C=none) (hCb:C∉β') (hC0:Z.h₀.get? C=none) (hn:h'.Ns C λ_=>none) (hk:∀ b o,h.get? b=some o->h'.get? b=some o) (hv:∀ w v,aw β σ h w v->aw β' σ' h' w v) (hβ:∀ a o,h.get? a=some o->a∉β->a∉β') :
   FrameOk Z (compEnvC scope cl C env) scope.names sc' (Bl is ρ) β' σ' h':=by
 have kd:∀ x k,scope.names.lookup x=some k->(compEnvC scope cl C env).kindOf x=some (if (k==NameKind.free&&env.scope.kind==.function&&env.kindOf x==some .cell) then .cell else k):=λx k hx=>pG hx;have kl:∀ x∈xs,(compEnvC scope cl C env).kindOf x=some .local:=λx hx=>by rw [kd x .local (N.x0 x hx).1]; rfl
 have kf:∀ x,(x,NameKind.free)∈scope.names->(compEnvC scope cl C env).kindOf x=some .cell\/(compEnvC scope cl C env).kindOf x=some .free:=λx hx=>by
   rw [kd x .free (N.free x hx).1];split
   . exact .inl rfl
   . exact .inr rfl
 refine ⟨N.kind,F.globals,F.builtins,λx k hx=>?_,λx i hx=>?_,λx y i hx hy=>j3 N.inj hx hy,⟨_,hn,λx i hx hl v hv' hu=>?_⟩,λx c hc=>?_,λa ha=>?_,λx y c hx hy=>F.cinj x y c (h2 x c hx) (h2 y c hy),λx hx=>?_,λf hf=>?_⟩
 . rw [kd x k hx];split
   . rename_i hc;simp only [NO] at hc;exact .inr ⟨eq_of_beq hc.1.1,rfl⟩
   . exact .inl rfl
 . rcases N.at1 x i hx with ⟨h1,_⟩ | ⟨hf,hs,_⟩
   . exact ⟨.inl (kl x h1),(cA (N.x0 x h1).2).2⟩
   . obtain ⟨c,hc⟩:=Ox.mp (h3 x hf);exact ⟨.inr ⟨kf x hf,c,hc⟩,(cA (N.free x hf).2.2.2).2⟩
 . exfalso;rcases N.at1 x i hx with ⟨_,h2⟩ | ⟨hf,_,_⟩
   . exact (oq hv' hu).1 h2
   . rcases kf x hf with q | q <;> rw [hl] at q <;> cases q
 . obtain ⟨ov,⟨o,ho,hd⟩,q⟩:=F.cell x c (h2 x c hc);refine ⟨ov,⟨o,hk c o ho,hd⟩,λi hx hk' v hv' hu=>?_⟩;have hf:=h4 x (by have hc:List.lookup x cl=some c:=hc; rw [hc]; rfl);rcases N.at1 x i hx with ⟨h1,_⟩ | ⟨_,hs,hne⟩
   . have:=(N.free x hf).1; rw [(N.x0 x h1).1] at this; cases this
   . replace hv':=(oq hv' hu).2;have hkx:env.kindOf x=some .cell\/env.kindOf x=some .free:=by
       rcases (N.free x hf).2.1 with q | q
       . exact (F.kinds x _ q).elim .inl λz=>by cases z.1
       . exact (F.kinds x _ q).elim .inr λz=>.inl z.2
     obtain ⟨w,g1,g2⟩:=q i hs hkx v hv' hu;exact ⟨w,g1,hv _ _ g2⟩
 . rcases ha with rfl | ⟨x,hx⟩
   . exact ⟨hCb,hC0⟩
   . have hown:own env a:=.inr ⟨x,h2 x a hx⟩;obtain ⟨o,ho,_⟩:=F.ownSome hown;exact ⟨hβ a o ho (F.apart a hown).1,(F.apart a hown).2⟩
 . have hown:own env C:=.inr ⟨x,h2 x C hx⟩;obtain ⟨o,ho,_⟩:=F.ownSome hown;rw [hC] at ho; cases ho
 . refine kk λK k=>?_;obtain ⟨⟨o,e,q⟩,nb,n0⟩:=F.frs f hf;refine k ?_;exact ⟨⟨o,hk f o e,q⟩,hβ f o e nb,n0⟩
noncomputable def wh (G:Nat->Option PyData) (cf:Nat->List V->ac->Res V) (t:Tgt) (c:EO) (e:E) (ρ:Fm):PyData->ac->Res (Option PyData):=λx σ'=>match eu t x ρ with
 | none=>.bad
 | some ρ'=>(dg G cf c ρ' σ').bind λcv af=>match cv with
   | none=>(ag G cf e ρ' af).bind λy au=>bg ((bx y).map some) au
   | some cv=>(bg (truthy af cv) af).bind λb af=>if b then (ag G cf e ρ' af).bind λy au=>bg ((bx y).map some) au else .ok none af
theorem xU (G:Nat->Option PyData) (cf:Nat->List V->ac->Res V) (m:Bool) (t:Tgt) (it:It) (c:EO) (e:E) (ρ:Fm) (σ:ac):ag G cf (.comp m t it c e) ρ σ=(bX G cf it ρ σ).bind λI aa=>(gI (wh G cf t c e ρ) I.shown (cG I.lk aa++[.busy])).bind λr af=>aU m r ((bc I.lk I.base af).take aa.length):=rfl
noncomputable def He (G:Nat->Option PyData) (cf:Nat->List V->ac->Res V) (c:EO) (e:E) (ρ':Fm) (σ':ac):Res (Option PyData):=(dg G cf c ρ' σ').bind λcv af=>match cv with
   | none=>(ag G cf e ρ' af).bind λy au=>bg ((bx y).map some) au
   | some cv=>(bg (truthy af cv) af).bind λb af=>if b then (ag G cf e ρ' af).bind λy au=>bg ((bx y).map some) au else .ok none af
variable {c:EO} {o:Option PyData}
theorem DI {x:PyData} (h:wh G cf t c e ρ x σ=.ok o σ'):∃ ρ',eu t x ρ=some ρ'/\He G cf c e ρ' σ=.ok o σ':=by
 unfold wh at h;cases hb:eu t x ρ with
 | none=>rw [hb] at h; cases h
 | some ρ'=>rw [hb] at h; exact ⟨ρ',rfl,h⟩
inductive CompDone (Z:Cx) (β:List Addr) (σ:ac) (s:Shared) (v:V) (σ':ac) (acc:Value) (C:Addr) (s':Shared):Prop where
 | mk (β':List Addr) (mm:Str->Option Value) (h1:Step bV β σ s β' σ' s') (h2:Inv Z β' σ' s'.heap) (h3:aw β' σ' s'.heap acc v) (h4:s'.heap.Ns C mm) (h5:s.heap.get? C=none) (h6:C∉β'):CompDone Z β σ s v σ' acc C s'
variable {l r:List PyData} {f:PyData->ac->Res (Option PyData)}
theorem xY {d:PyData} (hd:l[k]?=some d) (h:gI f (l.drop k) σ=.ok r σ') :
   X3 λo aa uW=>A3 (f d σ=.ok o aa) (gI f (l.drop (k+1)) aa=.ok uW σ') (r=o.toList++uW):=by
 have hlt:=(NK.mp hd).1;have hd':=(NK.mp hd).2;rw [Ps hlt,hd'] at h;replace h:((f d σ).bind λo aa=>(gI f (l.drop (k+1)) aa).bind λr af=>.ok (o.toList++r) af)=.ok r σ':=h;refine kk λK k=>?_;obtain ⟨o,aa,h1,h2⟩:=Res.bind_ok h;obtain ⟨uW,af,h2,h3⟩:=Res.bind_ok h2;cases (h3);refine k ?_;exact ⟨o,aa,uW,h1,h2,rfl⟩
variable {Dd:Addr} {ce:Env} {elt iter:Expr} {ρt:Fm} {βk βc:List Addr} {ifs:List Expr} {nb mm:Nat} {sb mO sz:Shared} {σL σk σb σc:ac} {mC:Str->Option Value} {v:V} {Q:Value->Shared->Prop}
theorem lE {m:Str->Option Value} (hn:h.Ns a m):¬ bB h a:=λ⟨o,vs,n,e,d⟩=>by obtain ⟨o',es,ep,e',hd,_⟩:=hn;rw [e] at e'; cases e';rcases d with d | ⟨_,_,d | d⟩ <;> rw [hd] at d <;> cases d
theorem wB {x:Value} {E:Value->Shared->Prop} (e:s.heap.get? a=some (dj vs n)) (hz:vs.size<=sizeLine)
   (q:∀ h' m,h'.get? a=some (dj (vs.push x) m)->(∀ b o,b≠a->s.heap.get? b=some o->h'.get? b=some o)->Q .none { s with heap:=h' }):wpAny (model Z.prog Z.w) A (call (.builtin "list.append") [.ref a,x]) Q E s:=by
 refine call_meets F.slot_list_append ⟨_,e,rfl⟩ F.entry_list_append (F.args_list_append_2 _ _) (list_append a vs n x hz) ⟨e,?_⟩;obtain ⟨⟨m',e'⟩,hk⟩:=jo (f:=λx_1=>x_1.push x) e;exact q _ m' e' hk
theorem Step.takeN (a:Step O β σ s ah aa ai) (hn:β.length<=n):Step O β σ s (ah.take n) (aa.take n) ai:=by obtain ⟨e,rfl,f⟩:=a.ext;refine ⟨⟨e.take (n - β.length),by rw [List.take_append,Pn hn],λx hx=>f x (Oi hx)⟩,λk c' hk hc=>a.mono k c' hk ?_,a.keepW,a.alive,a.gens,a.os⟩;rw [OW,if_pos (by lia)] at hc;exact hc
theorem yt (h:k < n):n+1 - (k+1) < n+1 - k:=Nat.sub_lt_sub_left (Nat.lt_succ_of_lt h) (PR k)
inductive CompPk (Z:Cx) (A:Around) (T:Itr) (ah:List Addr) (σL:ac) (aj:Shared) (env:Env) (ks:List (Str×NameKind)) (sc:List (Str×Nat)) (n:Nat) (Dd:Addr) (k kk:Nat) (done:List PyData) (βk:List Addr) (σk:ac) (s':Shared) (ρ':Fm):Prop where
 | mk (L:Lp Z A bV T ah σL aj (T.St k) βk σk s') (Fr:FrameOk Z env ks sc ρ' βk σk s'.heap) (db:βk[n]?=some Dd) (dc:σk[n]?=some .busy) (ys:Array Value) (mm:Nat) (dh:s'.heap.get? Dd=some (dj ys mm)) (dr:RelAll (TT βk σk) s'.heap ys.toList done) (dz:ys.size<=kk):CompPk Z A T ah σL aj env ks sc n Dd k kk done βk σk s' ρ'
inductive CompJ (Z:Cx) (A:Around) (T:Itr) (ah:List Addr) (σL:ac) (aj:Shared) (env:Env) (ks:List (Str×NameKind)) (sc:List (Str×Nat)) (nb:Nat) (Dd:Addr) (ρ:Fm) (f:PyData->ac->Res (Option PyData)) (r:List PyData) (af:ac) (n:Nat) (s':Shared):Prop where
 | mk (k:Nat) (βk:List Addr) (σk:ac) (done rest:List PyData) (h1:n=T.shown.length+1 - k) (h2:k<=T.shown.length) (pk:CompPk Z A T ah σL aj env ks sc nb Dd k k done βk σk s' ρ) (h4:gI f (T.shown.drop k) σk=.ok rest af) (h5:r=done++rest):CompJ Z A T ah σL aj env ks sc nb Dd ρ f r af n s'
theorem CompPk.lp {kk:Nat} {done:List PyData}:CompPk Z A T ah σL aj env ks sc n Dd k kk done βk σk s' ρ'->Lp Z A bV T ah σL aj (T.St k) βk σk s'
 | ⟨L,_,_,_,_,_,_,_,_⟩=>L
theorem CompPk.fr {kk:Nat} {done:List PyData}:CompPk Z A T ah σL aj env ks sc n Dd k kk done βk σk s' ρ'->FrameOk Z env ks sc ρ' βk σk s'.heap
 | ⟨_,F,_,_,_,_,_,_,_⟩=>F
theorem CompPk.step {kk:Nat} {done:List PyData} {βb:List Addr} (pk:CompPk Z A T ah σL aj env ks sc n Dd k kk done βk σk s' ρ') (S:Step bV βk σk s' βb σb sb) (Ib:Inv Z βb σb sb.heap):CompPk Z A T ah σL aj env ks sc n Dd k kk done βb σb sb ρ':=by
 obtain ⟨L,Fr,db,dc,ys,mm,dh,dr,dz⟩:=pk;have st:=nY.keep S L.inv Ib (λx z=>z.elim) (.inl ⟨n,db,dc⟩);have hlt:n < βk.length:=(NK.mp db).1;have hltb:n < σb.length:=by rw [<- Ib.len]; exact (NK.mp (S.get db)).1
 obtain ⟨c',h1,_,_,hbz⟩:=S.mono n σb[n] hlt (NC hltb);rw [dc] at h1; cases h1;exact ⟨L.step S Ib (λx z=>z.elim) (λ_ _=>id),Fr.step S,S.get db,by rw [NC hltb,hbz rfl],ys,mm,st.1 _ dh,S.relAll0 dr,dz⟩
theorem AS {prog:Program} {R:Result->Shared->Prop} {elt target iter:Expr} {ifs:List Expr} {scope:Scope} {pos:Pos} {acc:Value} (J:Nat->Shared->Prop)
   (turn:∀ n s,J n s->wpAny (model prog w) A (pyNext it) (λr ai=>match r with
     | none=>R (.ok .next) ai
     | some v=>wpAny (model prog w) A (letOwnedTupleGo target it v) (λ_ ai=>wpAny (model prog w) A (assign target env v) (λ_ aj=>
         wpAny (model prog w) A (forIn ifs true λc r=>if r=true then do let ok <- isTrue c env (eval c env); pure (ForInStep.yield ok) else pure (ForInStep.yield r)) (λok aR=>
           if ok=true then wpAny (model prog w) A (eval elt env) (λx c8=>wpAny (model prog w) A (call (.builtin "list.append") [acc,x]) (λ_ fJ=>∃ m,m < n/\J m fJ) (λ_ _=>False) c8) (λ_ _=>False) aR
           else ∃ m,m < n/\J m aR) (λ_ _=>False) aj) (λ_ _=>False) ai) (λ_ _=>False) ai) (λ_ _=>False) s) (n:Nat) {s:Shared} (h:J n s) :
   codeAny (model prog w) A (.compLoop (.ListComp elt [⟨target,iter,ifs,0⟩] scope pos) 0 it acc env) R s:=by
 refine codeAny_loop rfl J (λn s hI=>?_) n h;show wpAny _ A ((compTurn (.ListComp elt [⟨target,iter,ifs,0⟩] scope pos) 0 it acc env).onRaise (λx=>do noteFrame x env; theTreesLotGoes x)) _ _ s;refine wpAny_noted ?_;rw [compTurn_list];refine MQ (Ow (MQ (NM (turn n s hI) (λr ai aX=>?_) λ_ _ x=>x.elim)));cases r with
 | none=>exact NF aX
 | some v=>
   refine MQ (NM aX (λ_ ai aX=>MQ (NM aX (λ_ aj fE=>MQ (NM fE (λok aR my=>?_) λ_ _ x=>x.elim)) λ_ _ x=>x.elim)) λ_ _ x=>x.elim);cases ok with
   | false=>exact NF ⟨rfl,my⟩
   | true=>exact MQ (MQ (NM my (λx c8 FS=>MQ (NM FS (λ_ fJ Mk=>NF (NF ⟨rfl,Mk⟩)) λ_ _ x=>x.elim)) λ_ _ x=>x.elim))
theorem sF {done:List PyData} {Q:Shared->Prop} (he:PE Z P gn G cf d e) (hme:mE P gn ks sc e elt=true) (hA:jR Z d A) (hDf:aj.heap.get? Dd=none) (hfpD:Dd∉T.fp) (hz:k<=sizeLine)
   (pk:CompPk Z A T ah σL aj ce ks sc nb Dd (k+1) k done βc σc mO ρt) (h:((ag G cf e ρt σc).bind λy au=>bg ((bx y).map some) au)=.ok o σb)
   (fin:∀ βd fJ,CompPk Z A T ah σL aj ce ks sc nb Dd (k+1) (k+1) (done++o.toList) βd σb fJ ρt->Q fJ) :
   wpAny (model Z.prog Z.w) A (eval elt ce) (λx c8=>wpAny (model Z.prog Z.w) A (call (.builtin "list.append") [.ref Dd,x]) (λ_ fJ=>Q fJ) (λ_ _=>False) c8) (λ_ _=>False) mO:=by
 refine kk λK k=>?_;obtain ⟨y,au,hy,hl⟩:=Res.bind_ok h;obtain ⟨yd,hyd,eo,eσ⟩:=iu hl;rw [b8 hyd,<- eσ] at hy;refine k ?_;refine NM ((he ks sc elt _ _ A βc σc mO hme hA pk.fr pk.lp.inv).1 _ _ hy) (λx c8 ⟨βd,Sd,Id,rx⟩=>?_) λ_ _ x=>x;obtain ⟨Ld,Fd,db',dc',ys',mm',dh',dr',dz'⟩:=CompPk.step pk Sd Id;refine wB dh' (iv dz' hz) λh' m' e' hk'=>fin βd _ ?_;obtain ⟨Ie,sq⟩:=Ld.inv.touchBusy db' dc' hk' ⟨_,e'⟩;rw [eo];exact ⟨Ld.off (s':={ c8 with heap:=h' }) (a:=Dd) hDf hfpD Ie (λ_ _ _ _ _=>⟨_,_,db',dc',rfl⟩) hk' rfl rfl,
   Fd.seq sq (λD o _ e t=>⟨hk' D o (λq=>t (q ▸ ⟨_,_,db',dc',rfl⟩)) e,t⟩) (λb hb o e=>hk' b o (λq=>(Fd.frs b hb).2.1 (q ▸ NI db')) e) λb hb o e=>hk' b o (λq=>(Fd.apart b hb).1 (q ▸ NI db')) e,
   db',dc',_,m',e',by rw [Qx]; exact (dr'.mono sq).append (.one (Rel.mono sq rx)),by rw [Array.size_push]; exact N7 dz'⟩
theorem AR {done:List PyData} {Q:Shared->Prop} (hc:Gy Z P gn G cf d c) (he:PE Z P gn G cf d e)
   (hmc:(match ifs with | []=>yW P gn ks sc c none | [x]=>yW P gn ks sc c (some x) | _=>false)=true) (hme:mE P gn ks sc e elt=true) (hA:jR Z d A) (hDf:aj.heap.get? Dd=none) (hfpD:Dd∉T.fp) (hz:k<=sizeLine)
   (pk:CompPk Z A T ah σL aj ce ks sc nb Dd (k+1) k done βk σk sb ρt) (hf:He G cf c e ρt σk=.ok o σb)
   (fin:∀ βd fJ,CompPk Z A T ah σL aj ce ks sc nb Dd (k+1) (k+1) (done++o.toList) βd σb fJ ρt->Q fJ) :
   wpAny (model Z.prog Z.w) A (forIn ifs true λc r=>if r=true then do let ok <- isTrue c ce (eval c ce); pure (ForInStep.yield ok) else pure (ForInStep.yield r)) (λok aR=>if ok=true then wpAny (model Z.prog Z.w) A (eval elt ce) (λx c8=>wpAny (model Z.prog Z.w) A (call (.builtin "list.append") [.ref Dd,x]) (λ_ fJ=>Q fJ) (λ_ _=>False) c8) (λ_ _=>False) aR else Q aR) (λ_ _=>False) sb:=by
 cases ifs with
 | nil=>
   cases c with
   | yes e=>exact OQ (show false=true from hmc)
   | no=>exact wpAny_tests_nil (by rw [if_pos rfl]; exact sF he hme hA hDf hfpD hz pk hf fin)
 | cons x xs=>
   cases xs with
   | cons _ _=>cases hmc
   | nil=>
     obtain ⟨c',ec,B⟩:=hc.2 ks sc x _ _ A βk σk sb (show yW P gn ks sc c (some x)=true from hmc) hA pk.fr pk.lp.inv;rw [ec] at hf;clear hmc hc ec;refine kk λK k=>?_;obtain ⟨cv,σc,hcv,hf⟩:=Res.bind_ok hf;obtain ⟨cv',σc',hcv',hq⟩:=Res.bind_ok (r:=ag G cf c' ρt σk) (f:=λx aa=>.ok (some x) aa) hcv;cases (hq);obtain ⟨b,σd,hb,hf⟩:=Res.bind_ok hf;have htr:truthy σc cv'=some b/\σd=σc:=by
       cases hq:truthy σc cv' with
       | none=>rw [hq] at hb; cases hb
       | some b'=>rw [hq] at hb; cases (hb); exact ⟨rfl,rfl⟩
     obtain ⟨htr,rfl⟩:=htr;refine k ?_;refine wpAny_tests_one (NM (B.2 b σd (by rw [hcv']; simp [lq,Res.bind,bg,htr])) (λa mO ⟨βc,Sc,Ic,q⟩=>?_) λ_ _ x=>x);rw [q];have pkc:=CompPk.step pk Sc Ic;cases b with
     | true=>rw [if_pos rfl]; exact sF he hme hA hDf hfpD hz pkc hf fin
     | false=>rw [if_neg NY];have hf:Res.ok none σd=Res.ok o σb:=hf;cases (hf);obtain ⟨Lc,Fc,db',dc',ys',mm',dh',dr',dz'⟩:=pkc;exact fin βc mO ⟨Lc,Fc,db',dc',ys',mm',dh',by rw [Option.toList_none,NX]; exact dr',Pu dz'⟩
theorem DG (az:Step bV β σ s ah aa aj) (al:Inv Z ah aa aj.heap) (h0:∀ a,s.heap.get? a=none->Z.h₀.get? a=none) (hw:∀ a∈T.wr,s.heap.get? a=none/\a∉ah)
   (Op:Opened Z A T ah (cG I.lk aa) aj.heap) (hlk:∀ n,I.lk=some n->aa[n]?=some (.lst I.base)) (hrl:r.length<=LIM) (hCs:s.heap.get? C=none) (hfpC:C∉T.fp) (L:Lp Z A bV T ah (cG I.lk aa) aj X βk af s') (hnC:s'.heap.Ns C mC) (hCk:C∉βk) (db:βk[aa.length]?=some Dd) (dc:af[aa.length]?=some .busy)
   (dh:s'.heap.get? Dd=some (dj ys mm)) (dr:RelAll (TT βk af) s'.heap ys.toList r) (hkz:Kp T s'.heap sz.heap) (hgz:sz.gens=s'.gens) (hoz:sz.os=s'.os) (hv:aU m r ((bc I.lk I.base af).take aa.length)=.ok v σ'):CompDone Z β σ s v σ' (.ref Dd) C sz:=by
 obtain ⟨Sx,Ix,ttx⟩:=ki az al hlk L.st0 L.inv (λx z=>z.elim) (λa q=>(Op.noseq 0 _ Op.start a q).2) (λa q=>(hw a q).1);have hUn:(bc I.lk I.base af)[aa.length]?=some .busy:=by
   cases hlk':I.lk with
   | none=>exact dc
   | some n=>show (af.set n _)[aa.length]?=_;rw [dB (OI (NK.mp (hlk n hlk')).1)]; exact dc
 generalize bc I.lk I.base af=U at *;have hnβ:β.length<=aa.length:=by obtain ⟨e,q,_⟩:=az.ext;rw [<- al.len,q,ND]; exact NZ _ _
 have hnsI:∀ a,a∈T.wr->¬ bB s'.heap a:=λa q=>(L.live a q).2;have dU:=dr.mono λx o _ _ e _ t=>⟨e,λz=>t ((ttx x).mp z)⟩;have key:∀ {βf:List Addr},Step bV β σ s βf σ' s'->Inv Z βf σ' s'.heap->(∀ a∈T.wr,a∉βf)->C∉βf->aw βf σ' s'.heap (.ref Dd) v->CompDone Z β σ s v σ' (.ref Dd) C sz:=by intro βf Sf If nI nC rv;refine ⟨βf,mC,Sf.tail (W:=(·∈T.wr)) (λa q=>(hw a q).1) hkz hgz hoz,If.touch (W:=(·∈T.wr)) nI (λa q=>h0 a (hw a q).1) hnsI hkz,hZ (W:=(·∈T.wr)) hkz hnsI nI rv,?_,hCs,nC⟩;obtain ⟨o,es,ep,ho,q⟩:=hnC;exact ⟨o,es,ep,hkz _ _ (λq=>hfpC (Op.sub _ q)) ho,q⟩
 cases m with
 | false=>
   cases (hv);refine key (βf:=βk.take aa.length) (Sx.takeN hnβ) (Ix.take _) (λa ha q=>L.nm a ha (Oi q)) (λq=>hCk (Oi q)) ?_;refine .list dh (λz=>?_) hrl (dU.mono λx o _ _ e _ t=>⟨e,λz=>t (l4 z)⟩);obtain ⟨j,c',q1,_,_⟩:=z;rw [OW] at q1;by_cases hj:j < aa.length
   . rw [if_pos hj] at q1;exact L.inv.addr_ne db q1 (Qa hj) rfl
   . rw [if_neg hj] at q1; cases q1
 | true=>
   cases (hv);have Io:=Ix.openBusy db hUn dh dU hrl;have So:Step bV β σ s βk (U.set aa.length (.lst r)) s':=⟨Sx.ext,λj c' hj hc'=>by rw [dB (Qa (OF hj hnβ))] at hc';exact Sx.mono j c' hj hc',Sx.keepW,Sx.alive,Sx.gens,Sx.os⟩
   have htk:(U.take aa.length).length=aa.length:=by rw [Pz]; exact Pj (OU (NK.mp hUn).1)
   have e1:(U.set aa.length (.lst r)).take (aa.length+1)=U.take aa.length++[.lst r]:=by rw [List.take_add_one];rw [cQ hUn,List.take_set_of_le (Of _)];rfl
   exact key (βf:=βk.take (aa.length+1)) (e1 ▸ So.takeN (Pu hnβ)) (e1 ▸ Io.take _) (λa ha q=>L.nm a ha (Oi q)) (λq=>hCk (Oi q)) ⟨Dd,by rw [htk,OW,if_pos (PR _)]; exact db,rfl⟩
theorem AT (D:Wd Z P gn G cf d) {c:EO} (hc:Gy Z P gn G cf d c) (he:PE Z P gn G cf d e) 
   (N:CompNames ks sc scope (dN tx) (cM t) sc') (hmt:mZ sc' t tx=true) (hh:A.handled=none) (hmc:(match ifs with | []=>yW P gn scope.names sc' c none | [x]=>yW P gn scope.names sc' c (some x) | _=>false)=true) (hme:mE P gn scope.names sc' e elt=true)
   (h2:∀ x c,cl.lookup x=some c->env.cells.lookup x=some c) (h3:∀ x,(x,NameKind.free)∈scope.names->(cl.lookup x).isSome=true) (h4:∀ x,(cl.lookup x).isSome=true->(x,NameKind.free)∈scope.names)
   (hA:jR Z d A) (Iv:Inv Z β σ s.heap) {I:Items} {T:Itr} (hsh:T.shown=I.shown) (hen:xz t=true\/T.en=false)
   (az:Step bV β σ s ah aa aj) (al:Inv Z ah aa aj.heap) (hw:∀ a∈T.wr,s.heap.get? a=none/\a∉ah) (Op:Opened Z A T ah (cG I.lk aa) aj.heap) (hlk:∀ n,I.lk=some n->aa[n]?=some (.lst I.base)) (hlen:I.shown.length<=LIM)
   (Ea:FrameOk Z env ks sc ρ β σ s.heap) {m:Bool} {r:List PyData} {af:ac} (hr:gI (wh G cf t c e ρ) I.shown (cG I.lk aa++[.busy])=.ok r af) {v:V} {σ':ac} (hv:aU m r ((bc I.lk I.base af).take aa.length)=.ok v σ') :
   wpAny (model Z.prog Z.w) A (newList []) (λacc aR=>wpAny (model Z.prog Z.w) A (newFunctionEnv scope env.globals cl [] env.qual none .none (some env)) (λcenv c8=>
     codeAny (model Z.prog Z.w) A (.compStart (.ListComp elt [⟨tx,iter,ifs,0⟩] scope pos) 0 (.ref T.Ia) acc { cenv with scope:=relabel scope env }) (λr s'=>match r with | .ok _=>CompDone Z β σ s v σ' acc cenv.locals s' | .error _=>False) c8) (λ_ _=>False) aR) (λ_ _=>False) aj:=by
 rw [<- hsh] at hlen hr;have F:=Ea.step az;have h0:∀ a,s.heap.get? a=none->Z.h₀.get? a=none:=λa ha=>by
   cases q:Z.h₀.get? a with
   | none=>rfl
   | some o=>rw [Iv.base a o q] at ha; cases ha
 have h0':∀ a,aj.heap.get? a=none->s.heap.get? a=none:=az.alive;obtain ⟨IL,SL⟩:=yX al hlk;generalize hσL:cG I.lk aa=σL at *;have hlL:σL.length=aa.length:=by subst hσL; cases I.lk with | none=>rfl | some n=>exact PY
 have hn0:ah.length=aa.length:=al.len;refine wpAny_newList ?_ (by simp);generalize hDd:aj.heap.objs.size=Dd;have hDf:aj.heap.get? Dd=none:=by rw [<- hDd]; exact aV _
 refine wpAny_newFunctionEnv N.nocell (by intro y hy; simp at hy) (λaX pU tT=>?_) N.kind;dsimp only at pU tT ⊢;generalize hH3:aj.heap.push { cls:=.type "list",dict:=none,data:=.seq ([]:List Value).toArray }=H3 at pU tT ⊢;have hk23:∀ b o,aj.heap.get? b=some o->H3.get? b=some o:=λb o e=>by rw [<- hH3]; exact NG _ e
 have hD3:H3.get? Dd=some (dj #[] 0):=by rw [<- hH3,<- hDd]; exact NQ _ rfl
 generalize hC:H3.objs.size=C at pU tT ⊢;have hCf3:H3.get? C=none:=by rw [<- hC]; exact aV _
 have hCf:aj.heap.get? C=none:=by
   cases q:aj.heap.get? C with
   | none=>rfl
   | some o=>rw [hk23 _ _ q] at hCf3; cases hCf3
 have hDC:Dd≠C:=λq=>by rw [q,hCf3] at hD3; cases hD3
 have hk34:∀ b o,H3.get? b=some o->aX.get? b=some o:=λb o e=>(tT.2 b (λq=>by rw [q,hCf3] at e; cases e)).trans (NG _ e);have hk24:∀ b o,aj.heap.get? b=some o->aX.get? b=some o:=λb o e=>hk34 b o (hk23 b o e)
 -- the state behind
 have NB:=tG (O:=bV) (s:=aj) (ai:={ aj with heap:=aX,toks:=aj.toks+([]:List (Str×Value)).length }) (a:=Dd) (c:=.busy) IL hk24 hDf rfl rfl ⟨_,hk34 _ _ hD3⟩;have hC4:∃ o,aX.get? C=some o:=by obtain ⟨o,_,_,ho,_⟩:=pU; exact ⟨o,ho⟩
 have hCβ:C∉ah++[Dd]:=λmm=>by
   rcases NR.mp mm with q | q
   . exact al.notMem hCf q
   . simp at q; exact hDC q.symm
 have FC:FrameOk Z (compEnvC scope cl C env) scope.names sc' (Bl (cM t) ρ) (ah++[Dd]) (σL++[.busy]) aX:=
   AV N F h2 h3 h4 hCf hCβ (h0 C (h0' C hCf)) pU hk24 (λw v q=>(SL.trans NB.1).vrel0 q) λa o ho hb mm=>by
     rcases NR.mp mm with q | q
     . exact hb q
     . simp at q; rw [q,hDf] at ho; cases ho
 have uw:Lp Z A bV T ah σL aj (T.St 0) ah σL aj:=Lp.start Op IL (λa q=>(hw a q).2) λa q=>h0 a (hw a q).1;have LL:Lp Z A bV T ah σL aj (T.St 0) (ah++[Dd]) (σL++[.busy]) { aj with heap:=aX,toks:=aj.toks+([]:List (Str×Value)).length }:=
   uw.step NB.1 NB.2 (λx z=>z.elim) λ_ _=>id
 have hfpC:C∉T.fp:=λq=>by obtain ⟨o,ho⟩:=uw.exAll C q;rw [hCf] at ho; cases ho
 have hfpD:Dd∉T.fp:=λq=>by obtain ⟨o,ho⟩:=uw.exAll Dd q;rw [hDf] at ho; cases ho
 have ownC:∀ a,own (compEnvC scope cl C env) a->a=C\/∃ o,aj.heap.get? a=some o:=λa ha=>by
   rcases ha with q | ⟨x,hx⟩
   . exact .inl q
   . obtain ⟨o,ho,_⟩:=F.ownSome (.inr ⟨x,h2 x a hx⟩);exact .inr ⟨o,ho⟩
 have hIaOwn:∀ a∈T.wr,¬ own (compEnvC scope cl C env) a:=λa ha z=>by
   rcases z with q | ⟨x,hx⟩
   . have q:a=C:=q;exact hfpC (Op.sub _ (q ▸ ha))
   . obtain ⟨o,ho,_⟩:=Ea.ownSome (.inr ⟨x,h2 x a hx⟩);rw [(hw a ha).1] at ho; cases ho
 have kl:∀ x∈dN tx,(compEnvC scope cl C env).kindOf x=some .local:=λx hx=>lookup_relabel_local (N.x0 x hx).1
 -- what a turn keeps
 let Pk:Nat->Nat->List PyData->List Addr->ac->Shared->Fm->Prop:=CompPk Z A T ah σL aj (compEnvC scope cl C env) scope.names sc' aa.length Dd
 let J:Nat->Shared->Prop:=CompJ Z A T ah σL aj (compEnvC scope cl C env) scope.names sc' aa.length Dd (Bl (cM t) ρ) (wh G cf t c e ρ) r af
 have loop:∀ aR:Shared,aR={ aj with heap:=aX,toks:=aj.toks+([]:List (Str×Value)).length }->
     codeAny (model Z.prog Z.w) A (.compLoop (.ListComp elt [⟨tx,iter,ifs,0⟩] scope pos) 0 (.ref T.Ia) (.ref Dd) (compEnvC scope cl C env)) (λr s'=>match r with | .ok _=>CompDone Z β σ s v σ' (.ref Dd) C s' | .error _=>False) aR:=by
   rintro aR rfl
   refine AS J ?_ (T.shown.length+1) ⟨0,_,_,[],r,rfl,N3 _,⟨LL,FC,by rw [<- hn0]; simp,by rw [<- hlL]; simp,#[],0,hk34 _ _ hD3,.nil,Of _⟩,by simpa using hr,rfl⟩
   rintro n s' ⟨k,βk,σk,done,rest,rfl,hkl,pk,hrest,hdone⟩
   obtain ⟨L,Fr,db,dc,ys,mm,dh,dr,dz⟩:=pk;by_cases hlt:k < T.shown.length
   . refine L.next hlt λw dd sa Lm hdd kJ hka=>?_;obtain ⟨o,σb,E6,hf,CT,er⟩:=xY hdd hrest;obtain ⟨ρt,hbt,hf⟩:=DI hf;obtain ⟨hb1,hb2⟩:=Bb hbt;refine Lm.goT (pt:=hmt) hen λsa' La hk'=>?_;replace hka:Kp T s'.heap sa'.heap:=λb o hb e=>hk' b o hb (hka b o hb e);replace kJ:Rel (TT βk σk) sa'.heap w dd:=hZ (W:=(·∈T.wr)) (v:=.d dd) hk' (λa q=>(Lm.live a q).2) Lm.nm kJ;clear hk' Lm;have Fa:FrameOk Z (compEnvC scope cl C env) scope.names sc' (Bl (cM t) ρ) βk σk sa'.heap:=Fr.touch (W:=(·∈T.wr)) L.nm (λa q=>Ea.frs.not (hw a q).1) hIaOwn (λa q=>(L.live a q).2) hka;have sqa:bL βk σk s'.heap βk σk sa'.heap:=λx o vs n e d t=>⟨hka x o (λq=>(L.live x q).2 ⟨o,vs,n,e,d⟩) e,t⟩;refine DU hh hmt kl Fa La.inv (dd:=dd) kJ hb1 λsb Fb Sb Ib kC=>?_;have nsC:¬ bB sa'.heap C:=Fa.notSeq C (.inl rfl);have Lb:=La.off (a:=C) hCf hfpC Ib (λo vs n e d=>absurd ⟨o,vs,n,e,d⟩ nsC) kC Sb.gens Sb.os;have pkb:Pk (k+1) k done βk σk sb ρt:=⟨Lb,Fb,db,dc,ys,mm,kC _ _ hDC (hka _ _ (λq=>hfpD (Op.sub _ q)) dh),(dr.mono sqa).mono (λx o vs n e d t=>⟨kC x o (λq=>by have q:x=C:=q; rw [q] at e; exact nsC ⟨o,vs,n,e,d⟩) e,t⟩),dz⟩
     refine AR hc he hmc hme hA hDf hfpD (iv (OU hlt) (Gz _ hlen)) pkb hf λβd fJ pk=>?_;obtain ⟨Ld,Fd,db',dc',ys',mm',dh',dr',dz'⟩:=pk;exact ⟨T.shown.length+1 - (k+1),yt hlt,k+1,βd,σb,done++o.toList,E6,rfl,hlt,⟨Ld,Fd.less λj v h1 h2=>(oq h1 h2).2 ▸ hb2 j (oq h1 h2).1,db',dc',ys',mm',dh',dr',dz'⟩,CT,by rw [hdone,er,N2]⟩
   . have hke:k=T.shown.length:=Pv hkl (OE hlt);refine L.done hke λsz hkz hgz hoz=>?_;refine kk λK k=>?_;rw [hke,Qg] at hrest;cases (hrest);rw [NX] at hdone;have hrl:r.length<=LIM:=by rw [hdone,<- dr.length,NT]; exact iv dz (iv hkl hlen)
     obtain ⟨mC,hnC,_⟩:=Fr.ns;rw [<- hσL] at L;refine k ?_;exact DG az al h0 hw (hσL ▸ Op) hlk hrl (h0' C hCf) hfpC L hnC (Fr.apart C (.inl rfl)).1 db dc dh (hdone ▸ dr) hkz hgz hoz hv
 exact codeAny_compStart_list (loop _ rfl) (Op.self 0 _ _ _ LL.st (loop _ rfl))
variable {it:It}
theorem mY (h:pj iter=true) (x:Value):foldedSetIterable iter env x=pure x:=by cases iter <;> first | rfl | cases h
inductive CompX (P:Nat->Option Fn) (gn:Nat->Str) (ks:List (Str×NameKind)) (sc:List (Str×Nat)) (t:Tgt) (it:It) (c:EO) (e:E) (ex:Expr):Prop where
 | mk (elt tx iter:Expr) (ifs:List Expr) (scope:Scope) (pos:Pos) (h1:ex=.ListComp elt [⟨tx,iter,ifs,0⟩] scope pos) (h2:mZ (di sc scope.names t tx) t tx=true) (h3:xz t=true\/xA it=false) (h4:KV P gn ks sc it iter=true) (h5:pj iter=true) (h6:CompNames ks sc scope (dN tx) (cM t) (di sc scope.names t tx))
     (h7:(match (generalizing:=false) ifs with | []=>yW P gn scope.names (di sc scope.names t tx) c none | [x]=>yW P gn scope.names (di sc scope.names t tx) c (some x) | _=>false)=true)
     (h8:mE P gn scope.names (di sc scope.names t tx) e elt=true) (h9:(P 0).isSome=true):CompX P gn ks sc t it c e ex
theorem qp {ex:Expr} (hm:mE P gn ks sc (.comp m t it c e) ex=true):CompX P gn ks sc t it c e ex:=by
 refine kk λK k=>?_;replace hm:=ao hm; obtain ⟨⟨elt,gs,scope⟩,h0,hm⟩:=hm;refine k ?_;apply iY (C8 h0); intro pos;replace hm:=ao hm; obtain ⟨⟨target,iter,ifs,as⟩,h00,hm⟩:=hm;replace h00:=da h00; subst h00;simp only [NO,decide_eq_true_eq,Bool.or_eq_true,Oo] at hm;obtain ⟨⟨⟨⟨⟨⟨⟨⟨⟨h0',he⟩,h1⟩,h2⟩,h3⟩,h4⟩,h5⟩,h5'⟩,h6⟩,hP⟩:=hm;have h0':as=0:=h0';subst h0';refine ⟨elt,target,iter,ifs,scope,pos,rfl,h4,he,h1,h2,AU h3,?_,h6,hP⟩;cases ifs with
 | nil=>exact h5'
 | cons a l=>cases l with
   | nil=>exact h5'
   | cons _ _=>exact absurd h5 (by simp)
theorem sE (D:Wd Z P gn G cf d) (hi:JL Z P gn G cf d it) (hc:Gy Z P gn G cf d c) (he:PE Z P gn G cf d e) {iter:Expr} {pos pos':Pos}
   (hmt:mZ (di sc scope.names t tx) t tx=true) (hen:xz t=true\/xA it=false) (h1:KV P gn ks sc it iter=true) (h2:pj iter=true) (N:CompNames ks sc scope (dN tx) (cM t) (di sc scope.names t tx))
   (h5:(match ifs with | []=>yW P gn scope.names (di sc scope.names t tx) c none | [x]=>yW P gn scope.names (di sc scope.names t tx) c (some x) | _=>false)=true)
   (h6:mE P gn scope.names (di sc scope.names t tx) e elt=true) (hA:jR Z d A) (hh:A.handled=none) (F:FrameOk Z env ks sc ρ β σ s.heap) (I:Inv Z β σ s.heap) {v:V} {σ':ac} (ev:ag G cf (.comp m t it c e) ρ σ=.ok v σ')
   {use:Option (Value->Sem Unit)} {Q:Value->Shared->Prop} (q:∀ acc C s',CompDone Z β σ s v σ' acc C s'->compPost (model Z.prog Z.w) A (λ_ _=>False) use Q acc C (.ok .next) s') :
   wpAny (model Z.prog Z.w) A (comprehension (.ListComp elt [⟨tx,iter,ifs,0⟩] scope pos) scope env pos' (newList []) false (eval iter env) use) Q (λ_ _=>False) s:=by
 refine kk λK k=>?_;rw [xU] at ev;obtain ⟨It,aa,hit,ev⟩:=Res.bind_ok ev;obtain ⟨r,af,hr,hv⟩:=Res.bind_ok ev;have hcells:∀ x∈scope.names,x.2=.free->∃ c,env.cells.lookup x.1=some c:=λx hx hf=>by
   obtain ⟨n,k⟩:=x;subst hf;obtain ⟨_,hks,hsc,_⟩:=N.free n hx;obtain ⟨i,hi⟩:=Ox.mp hsc;have hk:env.kindOf n=some .cell\/env.kindOf n=some .free:=by
     rcases hks with q | q
     . exact (F.kinds n _ q).elim .inl λz=>by cases z.1
     . exact (F.kinds n _ q).elim .inr λz=>.inl z.2
   rcases (F.bound n i hi).1 with q | ⟨_,q⟩
   . rcases hk with z | z <;> rw [q] at z <;> cases z
   . exact q
 obtain ⟨cl,hcl,c2,c3,c4⟩:=rm hcells;refine k ?_;refine wpAny_comprehension_free (use:=use) rfl (λx=>mY h2 x) hcl N.kind N.loc ?_;refine NM (hi ks sc iter env ρ A β σ s It aa h1 hA hh F I hit) (λx ai h=>NM h (λitv aj h=>?_) λ_ _ x=>x) λ_ _ x=>x;obtain ⟨ah,T,rfl,hsh,hen',az,al,hw,Op,hlk,hlen⟩:=h;refine NM (AT D hc he N hmt hh h5 h6 c2 c3 c4 hA I hsh (hen.imp id hen'.trans) az al hw Op hlk hlen F hr hv (iter:=iter) (pos:=pos)) (λacc aR h=>NM h (λcenv c8 h=>codeAny_mono h λr s' hr=>?_) λ_ _ x=>x) λ_ _ x=>x;cases r with
 | ok f=>have:=q acc cenv.locals s' hr;cases use <;> exact this
 | error x=>exact hr.elim
theorem IJ (D:Wd Z P gn G cf d) (hi:JL Z P gn G cf d it) (hc:Gy Z P gn G cf d c) (he:PE Z P gn G cf d e):PE Z P gn G cf d (.comp m t it c e):=λks sc ex env ρ A β σ s hm hA F I=>by
 obtain ⟨elt,tx,iter,ifs,scope,pos,rfl,hmt,hen,h1,h2,N,h5,h6,hP⟩:=qp hm;refine gy.plain D.y rfl λv σ' ev=>?_;rw [arm_eval_ListComp];refine sE D hi hc he hmt hen h1 h2 N h5 h6 hA (hA.1 (D.q hP)) F I ev (use:=none) λacc C s' h=>?_;obtain ⟨β',mm,S,I',rv,hn,hC,hCb⟩:=h;refine ⟨mm,hn,λh' hs'=>?_⟩;have hk:∀ b o,b≠C->s'.heap.get? b=some o->h'.get? b=some o:=λb o hb e=>(hs'.2 b hb).trans e;have h0:Z.h₀.get? C=none:=by
   cases q:Z.h₀.get? C with
   | none=>rfl
   | some o=>rw [I.base C o q] at hC; cases hC
 exact ⟨β',S.tail (W:=(·=C)) (λ_ q=>q ▸ hC) hk rfl rfl,I'.touch (W:=(·=C)) (λ_ q=>q ▸ hCb) (λ_ q=>q ▸ h0) (λ_ q=>q ▸ lE hn) hk,fR hk (lE hn) hCb rv⟩
mutual
theorem jy (D:Wd Z P gn G cf d):∀ e,PE Z P gn G cf d e
 | .none=>IA D
 | .bool b=>IN D b
 | .int i=>KH D i
 | .str x=>Kx D x
 | .var i=>Kv D i
 | .glob g=>IF D g
 | .bin op m a b=>KM D (jy D a) (jy D b)
 | .neg a=>KD D (jy D a)
 | .not a=>KB D (jy D a)
 | .bop k es=>KL D (qX D es)
 | .cmp op a b=>KJ D (jy D a) (jy D b)
 | .cmp2 bp fK a b c=>IK D (jy D a) (jy D b) (jy D c)
 | .ite c a b=>KF D (jy D c) (jy D a) (jy D b)
 | .tup es=>Kw D (qX D es)
 | .list m es=>IC D (qX D es)
 | .dict0=>Fk D
 | .idx a i=>KI D (jy D a) (jy D i)
 | .slc m a lo hi=>Ky D (jy D a) (Fj D lo) (Fj D hi)
 | .comp m t it c e=>IJ D (ID D it) (Fj D c) (jy D e)
 | .call f es=>IM D (qX D es)
 | .bi b m es=>Md D (qX D es)
 | .meth b o es=>IB D (jy D o) (qX D es)
 | .isx k e=>KG D (jy D e)
 | .freeze e=>Cm D (jy D e)
theorem qX (D:Wd Z P gn G cf d):∀ es,D7 Z P gn G cf d es
 | .nil=>KC D
 | .cons e es=>II D (jy D e) (qX D es)
theorem Fj (D:Wd Z P gn G cf d):∀ e,Gy Z P gn G cf d e
 | .no=>Mc D
 | .yes e=>Ku D (jy D e)
theorem ID (D:Wd Z P gn G cf d):∀ e,JL Z P gn G cf d e
 | .seq e=>Kz D (jy D e)
 | .range e=>Fi D (jy D e)
 | .range2 a b=>Ch D (jy D a) (jy D b)
 | .enum e=>IG D (jy D e)
end
noncomputable def pP (ex:Expr):Bool:=(sm ex).isSome
noncomputable def Kb (ex:Expr):Nat:=Expr.casesOn (motive_1:=λ_=>Nat) ex (λ_ _ _=>0) (λ_ _ _=>0) (λ_ _ _ _=>0) (λ_ _ _=>0) (λ_ _ _ _=>0) (λ_ _ _ _=>0) (λ_ _ _=>0) (λ_ _ _=>0) (λ_ _ _ _=>1) (λ_ _ _ _=>2) (λ_ _ _ _ _=>2) (λ_ _ _ _=>0) (λ_ _=>0) (λ_ _=>0) (λ_ _=>0) (λ_ _ _ _=>0) (λ_ _ _ _=>0) (λ_ _ _ _=>0) (λ_ _=>0) (λ_ _ _=>0) (λ_ _ _=>0) (λ_ _ _=>0) (λ_ _=>0) (λ_ _=>0) (λ_ _=>0) (λ_ _ _=>0) (λ_ _ _ _=>0)
noncomputable def DE:E->Bool
 | .comp ..=>true
 | _=>false
theorem DD (h:DE e=true):X5 λm t it c e'=>e=.comp m t it c e':=by cases e <;> first | exact ⟨_,_,_,_,_,rfl⟩ | exact OQ h
noncomputable def Hj (e:E) (v:Expr):Bool:=match Kb v with
 | 0=>true
 | 1=>DE e
 | _=>false
noncomputable def BW (ex:Stmt):Option (Expr):=cy ex.ctorIdx 24 λe=>Stmt.Expr.elim (motive_2:=λ_=>Expr) ex e λa0 _=>a0
theorem uV {ex:Stmt} {t:Expr} (h:BW ex=some t):∃ p,ex=.Expr t p:=by obtain ⟨e,q⟩:=aT h;exact Stmt.Expr.elim (motive_2:=λex=>∀ e:ex.ctorIdx=24,(Stmt.Expr.elim (motive_2:=λ_=>Expr) ex e λa0 _=>a0)=t->∃ p,ex=.Expr t p) ex e (λ_ p _ q=>q ▸ ⟨p,rfl⟩) e q
theorem Ig {ex:Stmt} {t:List Expr×Expr} (h:wZ ex=some t):∃ p,ex=.Assign t.1 t.2 p:=by obtain ⟨e,q⟩:=aT h;exact Stmt.Assign.elim (motive_2:=λex=>∀ e:ex.ctorIdx=5,(Stmt.Assign.elim (motive_2:=λ_=>List Expr×Expr) ex e λa0 a1 _=>(a0,a1))=t->∃ p,ex=.Assign t.1 t.2 p) ex e (λ_ _ p _ q=>q ▸ ⟨p,rfl⟩) e q
variable {v:Expr}
theorem lB {ex:Stmt} {t:List Expr} (h:wZ ex=some (t,v)):∃ p,ex=.Assign t v p:=Ig h
noncomputable def L8 (ex:Stmt):Option (Expr×List Stmt×List Stmt):=cy ex.ctorIdx 12 λe=>Stmt.If.elim (motive_2:=λ_=>Expr×List Stmt×List Stmt) ex e λa0 a1 a2 _=>(a0,a1,a2)
theorem Kl {ex:Stmt} {t:Expr×List Stmt×List Stmt} (h:L8 ex=some t):∃ p,ex=.If t.1 t.2.1 t.2.2 p:=by obtain ⟨e,q⟩:=aT h;exact Stmt.If.elim (motive_2:=λex=>∀ e:ex.ctorIdx=12,(Stmt.If.elim (motive_2:=λ_=>Expr×List Stmt×List Stmt) ex e λa0 a1 a2 _=>(a0,a1,a2))=t->∃ p,ex=.If t.1 t.2.1 t.2.2 p) ex e (λ_ _ _ p _ q=>q ▸ ⟨p,rfl⟩) e q
variable {b:List Stmt}
theorem H7 {ex:Stmt} {t:Expr} {a:List Stmt} (h:L8 ex=some (t,a,b)):∃ p,ex=.If t a b p:=Kl h
noncomputable def H9 (ex:Stmt):Option (Expr×Expr×List Stmt×List Stmt):=cy ex.ctorIdx 9 λe=>Stmt.For.elim (motive_2:=λ_=>Expr×Expr×List Stmt×List Stmt) ex e λa0 a1 a2 a3 _=>(a0,a1,a2,a3)
theorem H8 {ex:Stmt} {t:Expr×Expr×List Stmt×List Stmt} (h:H9 ex=some t):∃ p,ex=.For t.1 t.2.1 t.2.2.1 t.2.2.2 p:=by obtain ⟨e,q⟩:=aT h;exact Stmt.For.elim (motive_2:=λex=>∀ e:ex.ctorIdx=9,(Stmt.For.elim (motive_2:=λ_=>Expr×Expr×List Stmt×List Stmt) ex e λa0 a1 a2 a3 _=>(a0,a1,a2,a3))=t->∃ p,ex=.For t.1 t.2.1 t.2.2.1 t.2.2.2 p) ex e (λ_ _ _ _ p _ q=>q ▸ ⟨p,rfl⟩) e q
theorem E3 {ex:Stmt} {t i:Expr} {o:List Stmt} (h:H9 ex=some (t,i,b,o)):∃ p,ex=.For t i b o p:=H8 h
noncomputable def EX (ex:Stmt):Option (Option Expr):=cy ex.ctorIdx 3 λe=>Stmt.Return.elim (motive_2:=λ_=>Option Expr) ex e λa0 _=>a0
theorem tw {ex:Stmt} {t:Option Expr} (h:EX ex=some t):∃ p,ex=.Return t p:=by obtain ⟨e,q⟩:=aT h;exact Stmt.Return.elim (motive_2:=λex=>∀ e:ex.ctorIdx=3,(Stmt.Return.elim (motive_2:=λ_=>Option Expr) ex e λa0 _=>a0)=t->∃ p,ex=.Return t p) ex e (λ_ p _ q=>q ▸ ⟨p,rfl⟩) e q
noncomputable def GO (ex:Stmt):Option (Unit):=cy ex.ctorIdx 25 λe=>Stmt.Pass.elim (motive_2:=λ_=>Unit) ex e λ_=>()
theorem BT {ex:Stmt} {t:Unit} (h:GO ex=some t):∃ p,ex=.Pass p:=by obtain ⟨e,q⟩:=aT h;exact Stmt.Pass.elim (motive_2:=λex=>∀ e:ex.ctorIdx=25,(Stmt.Pass.elim (motive_2:=λ_=>Unit) ex e λ_=>())=t->∃ p,ex=.Pass p) ex e (λp _ _=>⟨p,rfl⟩) e q
noncomputable def wY (ex:Stmt):Option (Option Expr×Option Expr):=cy ex.ctorIdx 16 λe=>Stmt.Raise.elim (motive_2:=λ_=>Option Expr×Option Expr) ex e λa0 a1 _=>(a0,a1)
theorem BS {ex:Stmt} {t:Option Expr×Option Expr} (h:wY ex=some t):∃ p,ex=.Raise t.1 t.2 p:=by obtain ⟨e,q⟩:=aT h;exact Stmt.Raise.elim (motive_2:=λex=>∀ e:ex.ctorIdx=16,(Stmt.Raise.elim (motive_2:=λ_=>Option Expr×Option Expr) ex e λa0 a1 _=>(a0,a1))=t->∃ p,ex=.Raise t.1 t.2 p) ex e (λ_ _ p _ q=>q ▸ ⟨p,rfl⟩) e q
theorem Ab {ex:Stmt} {a b:Option Expr} (h:wY ex=some (a,b)):∃ p,ex=.Raise a b p:=BS h
noncomputable def HX (ex:Stmt):Option (List Stmt×List ExceptHandler×List Stmt×List Stmt):=cy ex.ctorIdx 17 λe=>Stmt.Try.elim (motive_2:=λ_=>List Stmt×List ExceptHandler×List Stmt×List Stmt) ex e λa0 a1 a2 a3 _=>(a0,a1,a2,a3)
theorem HW {ex:Stmt} {t:List Stmt×List ExceptHandler×List Stmt×List Stmt} (h:HX ex=some t):∃ p,ex=.Try t.1 t.2.1 t.2.2.1 t.2.2.2 p:=by obtain ⟨e,q⟩:=aT h;exact Stmt.Try.elim (motive_2:=λex=>∀ e:ex.ctorIdx=17,(Stmt.Try.elim (motive_2:=λ_=>List Stmt×List ExceptHandler×List Stmt×List Stmt) ex e λa0 a1 a2 a3 _=>(a0,a1,a2,a3))=t->∃ p,ex=.Try t.1 t.2.1 t.2.2.1 t.2.2.2 p) ex e (λ_ _ _ _ p _ q=>q ▸ ⟨p,rfl⟩) e q
theorem EW {ex:Stmt} {a c d:List Stmt} {b:List ExceptHandler} (h:HX ex=some (a,b,c,d)):∃ p,ex=.Try a b c d p:=HW h
noncomputable def MV (sc:List (Str×Nat)):RT->Stmt->Option Expr
 | .drop,st=>BW st
 | .var i,st=>(wZ st).bind λq=>(one q.1).bind λtx=>(fk tx).bind λx=>if sc.lookup x=some i then some q.2 else none
 | .ret,_=>none
 | .retL,st=>((EX st).bind id).bind λv=>(C5 v).bind one
noncomputable def M8:ExceptHandler->Option (Str×Option Str×Expr)
 | .ExceptHandler ty nm bd _=>ty.bind λt=>(fk t).bind λx=>(one bd).bind λst=>(EX st).bind λo=>o.bind λv=>some (x,nm,v)
variable {eh:ExceptHandler} {nm:Option Str}
theorem Jf (h:M8 eh=some (x,nm,v)):X3 λxp rp hp=>eh=.ExceptHandler (some (.Name x xp)) nm [.Return (some v) rp] hp:=by refine kk λK k=>?_;obtain ⟨ty,nm',bd,hp⟩:=eh;obtain ⟨t,h1,h⟩:=NJ.mp h;obtain ⟨x',h2,h⟩:=NJ.mp h;obtain ⟨st,h3,h⟩:=NJ.mp h;obtain ⟨o,h4,h⟩:=NJ.mp h;obtain ⟨v',h5,h⟩:=NJ.mp h;have g1:=Prod.mk.inj (Option.some.inj h);have g2:=Prod.mk.inj g1.2;obtain ⟨xp,e2⟩:=bH h2;obtain ⟨rp,e4⟩:=tw h4;refine k ?_;exact ⟨xp,rp,hp,by rw [h1,da h3,e4,h5,e2,g1.1,g2.1,g2.2]⟩
noncomputable def Mj (P:Nat->Option Fn) (ks:List (Str×NameKind)) (f:Nat) (n:Str) (v:Expr):Bool:=ob (pY v) λz=>ob (one z.2) λa=>ob (fk a) λn'=>decide (n'=n)&&decide ((P f).map (·.name)=some z.1)&&decide (z.1=("_law_kind":Str))&&pN ks z.1
noncomputable def M2 (ks:List (Str×NameKind)) (sc:List (Str×Nat)) (i:Nat) (n:Str):Bool:=decide (sc.lookup n=some i)&&bP n&&decide (ks.lookup n=some .local)
noncomputable def M3 (P:Nat->Option Fn) (ks:List (Str×NameKind)) (sc:List (Str×Nat)) (h:Hk) (nm:Option Str) (v:Expr):Bool:=match h with
   | .kind _ _=>false
   | .tup i f a=>ob nm λn=>ob (AD v) λxs=>M2 ks sc i n&&ob (HF xs) λq=>Mj P ks f n q.1&&(if a then ob (two q.2) λr=>G0 n jf r.1&&G0 n cS r.2 else q.2.isEmpty)
   | .none=>false
noncomputable def IT (P:Nat->Option Fn) (ks:List (Str×NameKind)) (sc:List (Str×Nat)):List Hd->List ExceptHandler->Bool
 | [],_=>true
 | h::hs,es=>ob (HF es) λq=>ob (M8 q.1) λg=>decide (g.1=kS h.k)&&pN ks g.1&&decide (h.k<=6)&&M3 P ks sc h.h g.2.1 g.2.2&&IT P ks sc hs q.2
section
variable (P:Nat->Option Fn) (gn:Nat->Str)
noncomputable def LG (v:Expr):Bool:=(AE v).isSome
mutual
noncomputable def mS (ks:List (Str×NameKind)) (sc:List (Str×Nat)):S->Stmt->Bool
 | .expr e,st=>ob (BW st) λv=>pP v&&mE P gn ks sc e v
 | .asg t e,st=>ob (wZ st) λq=>ob (one q.1) λtx=>KU sc t tx&&Hj e q.2&&mE P gn ks sc e q.2
 | .asgT l e,st=>ob (wZ st) λq=>ob (one q.1) λtx=>ob (AD tx) λxs=>jB sc l xs&&LG q.2&&(P 0).isSome&&mE P gn ks sc e q.2
 | .put o i e,st=>ob (wZ st) λq=>ob (one q.1) λtx=>ob (AE tx) λp=>vf p.2&&mE P gn ks sc o p.1&&mE P gn ks sc i p.2&&mE P gn ks sc e q.2
 | .ite c a b,st=>ob (L8 st) λq=>mE P gn ks sc c q.1&&En ks sc a q.2.1&&En ks sc b q.2.2
 | .forr t it b,st=>ob (H9 st) λq=>q.2.2.2.isEmpty&&mZ sc t q.1&&pj q.2.1&&KV P gn ks sc it q.2.1&&En ks sc b q.2.2.1&&(xz t||!xA it)&&(P 0).isSome
 | .ret e,st=>ob (EX st) λo=>ob o λv=>mE P gn ks sc e v
 | .pass,st=>ob (GO st) λ_=>true
 | .stop,_=>true
 | .calls t f es,st=>ob (MV sc t st) λv=>ob (pY v) λq=>decide ((P f).map (λfn=>(fn.name,fn.meth||fn.ctor))=some (q.1,false))&&pN ks q.1&&pA P gn ks sc es q.2
 | .raise k es,st=>ob (wY st) λq=>ob q.1 λex=>ob (pY ex) λz=>q.2.isNone&&decide (z.1=kS k)&&pN ks z.1&&decide (1<=k/\k<=6)&&(P 0).isSome&&pA P gn ks sc es z.2&&decide (z.2.length<=1000)
 | .tryS b hs,st=>ob (HX st) λq=>q.2.2.1.isEmpty&&q.2.2.2.isEmpty&&En ks sc b q.1&&(P 0).isSome&&(HF q.2.1).isSome&&IT P ks sc hs q.2.1
noncomputable def En (ks:List (Str×NameKind)) (sc:List (Str×Nat)):SL->List Stmt->Bool
 | .nil,xs=>xs.isEmpty
 | .cons s r,xs=>ob (HF xs) λq=>mS ks sc s q.1&&En ks sc r q.2
end
end
variable {c:E} {Q:Flow->Shared->Prop} {sp px:Pos} {st:S} {r:SL}
noncomputable def FR (Z:Cx) (env:Env) (ks:List (Str×NameKind)) (sc:List (Str×Nat)) (f:Flow) (o:Out) (β:List Addr) (σ:ac) (h:Heap):Prop:=match o with
 | .next ρ'=>f=.next/\FrameOk Z env ks sc ρ' β σ h
 | .ret v=>∃ w,f=.ret w/\aw β σ h w v
 | .exc _ _=>False
noncomputable def wE (A:Around) (env:Env):Prop:=X2 λouter f=>A.frames=some (env::outer)/\env.frame=some f
noncomputable def PS (Z:Cx) (P:Nat->Option Fn) (gn:Nat->Str) (G:Nat->Option PyData) (cf:Nat->List V->ac->Res V) (d:Nat) (st:S):Prop:=
 ∀ ks sc x env ρ A β σ s,mS P gn ks sc st x=true->jR Z d A->FrameOk Z env ks sc ρ β σ s.heap->Inv Z β σ s.heap->wE A env->ux env.frame Z (own env) A (PySem.exec x env) (exec G cf st ρ σ) (FR Z env ks sc) (FrameOk Z env ks sc []) β σ s
noncomputable def Er (Z:Cx) (P:Nat->Option Fn) (gn:Nat->Str) (G:Nat->Option PyData) (cf:Nat->List V->ac->Res V) (d:Nat) (st:SL):Prop:=
 ∀ ks sc xs env ρ A β σ s,En P gn ks sc st xs=true->jR Z d A->FrameOk Z env ks sc ρ β σ s.heap->Inv Z β σ s.heap->wE A env->ux env.frame Z (own env) A (PySem.execs xs env) (execs G cf st ρ σ) (FR Z env ks sc) (FrameOk Z env ks sc []) β σ s
theorem mI {t:Option Expr} (h:pP v=true):swapsWith v t n env=pure false:=by obtain ⟨q,e⟩:=Ox.mp h;rw [zi e]; rfl
theorem uX {x:Expr} {E:Value->Shared->Prop} (hk:env.scope.kind=.function) (hx:pP x=true) (h:wpAny (model Z.prog Z.w) A (eval x env) (λ_ ai=>Q .next ai) E s):wpAny (model Z.prog Z.w) A (PySem.exec (.Expr x sp) env) Q E s:=by
 have hi:interactive env=false:=by unfold interactive; rw [hk]; rfl
 rw [arm_exec_Expr];refine MQ (Ow ?_);rw [hi,mI hx];show wpAny _ _ (do dropValue x sp (<- eval x env)) _ _ _;exact MQ (NM h (λa ai q=>wpAny_dropValue q) λ_ _ x=>x)
theorem yE {n:Str} {E:Value->Shared->Prop} (hs:swapsWith v (some (.Name n px)) sp.line env=pure false) (hw:swappedStores [.Name n px] v env=pure none)
   (h:wpAny (model Z.prog Z.w) A (eval v env) (λu ai=>wpAny (model Z.prog Z.w) A (assign (.Name n px) env u) (λ_ aj=>Q .next aj) E ai) E s):wpAny (model Z.prog Z.w) A (PySem.exec (.Assign [.Name n px] v sp) env) Q E s:=by
 rw [arm_exec_Assign];refine MQ (Ow ?_);show wpAny _ _ (swapsWith v (some (.Name n px)) sp.line env >>= λb=>if b=true then _ else _) _ _ _;rw [hs];refine MQ (NF ?_);rw [if_neg NY];refine MQ (NM h (λu ai q=>?_) λ_ _ x=>x);rw [hw];refine MQ (NF ?_);show wpAny _ _ (assign (.Name n px) env u >>= λ_=>pure Flow.next) _ _ _;exact MQ (NM q (λ_ _ q=>NF q) λ_ _ x=>x)
theorem BY {E:Value->Shared->Prop} (hs:swapsWith v (some (.Tuple xs k p)) sp.line env=pure false) (hw:swappedStores [.Tuple xs k p] v env=pure none)
   (h:wpAny (model Z.prog Z.w) A (eval v env) (λu ai=>wpAny (model Z.prog Z.w) A (assign (.Tuple xs k p) env u) (λ_ aj=>Q .next aj) E ai) E s):wpAny (model Z.prog Z.w) A (PySem.exec (.Assign [.Tuple xs k p] v sp) env) Q E s:=by
 rw [arm_exec_Assign];refine MQ (Ow ?_);show wpAny _ _ (swapsWith v (some (.Tuple xs k p)) sp.line env >>= λb=>if b=true then _ else _) _ _ _;rw [hs];refine MQ (NF ?_);rw [if_neg NY];refine MQ (NM h (λu ai q=>?_) λ_ _ x=>x);rw [hw];refine MQ (NF ?_);show wpAny _ _ (assign (.Tuple xs k p) env u >>= λ_=>pure Flow.next) _ _ _;exact MQ (NM q (λ_ _ q=>NF q) λ_ _ x=>x)
theorem E4 {x:Expr} {E:Value->Shared->Prop} (h:wpAny (model Z.prog Z.w) A (eval x env) (λu ai=>Q (.ret u) ai) E s):wpAny (model Z.prog Z.w) A (PySem.exec (.Return (some x) sp) env) Q E s:=by rw [arm_exec_Return];refine MQ (Ow ?_);show wpAny _ _ (eval x env >>= λr=>pure (Flow.ret r)) _ _ _;exact MQ (NM h (λ_ _ q=>NF q) λ_ _ x=>x)
theorem E0 (D:Wd Z P gn G cf d):PS Z P gn G cf d (.expr e):=λks sc x env ρ A β σ s hm hA F I hE=>ux.of <| by
 replace hm:=ao hm; obtain ⟨v,h0,hm⟩:=hm;apply iY (uV h0); intro pos
 . simp only [NO] at hm;intro c σ' ev;rw [Hz] at ev;obtain ⟨w,aa,h1,h2⟩:=Res.bind_ok ev;cases h2;exact uX F.kind hm.1 (NM (((jy D e) ks sc v env ρ A β σ s hm.2 hA F I).1 _ _ h1) (λa ai ⟨ah,S,al,q⟩=>⟨ah,S.ofNo,al,rfl,F.step S⟩) λ_ _ x=>x)
theorem qE {v:V} {w:Value} {Q:Unit->Shared->Prop} {E:Value->Shared->Prop} (F:FrameOk Z env ks sc ρ β σ s.heap) (I:Inv Z β σ s.heap) (hx:sc.lookup x=some i) (r:aw β σ s.heap w v)
   (q:∀ s',FrameOk Z env ks sc (ρ.set i v) β σ s'.heap->Step (own env) β σ s β σ s'->Inv Z β σ s'.heap->Q () s'):wpAny (model Z.prog Z.w) A (storeName env x w) Q E s:=
 F.store I hx r λs' F' S' I' _ _=>q s' F' S' I'
inductive SwapX (e:E) (v:Expr):Prop where
 | mk (m:Bool) (t:Tgt) (it:It) (c:EO) (e':E) (a:Expr) (g:List Comprehension) (s:Scope) (p:Pos) (h1:e=.comp m t it c e') (h2:v=.ListComp a g s p):SwapX e v
set_option tactic.hygienic true in
theorem uM (h:Hj e v=true):swapsWith v (some (.Name x px)) n env=pure false\/(swapsWith v (some (.Name x px)) n env=pure true/\SwapX e v):=by
 cases v
 case ListComp a g s p=>
   obtain ⟨m,t,it,c,e',rfl⟩:=DD (show DE e=true from h);have hb:swapsWith (.ListComp a g s p) (some (.Name x px)) n env=pure (env.blockKind==.function&&env.kindOf x==some .local&&px.line==(Expr.ListComp a g s p).pos.line&&!(s.names.any λ(n,k)=>n==x&&(k==.local||k==.cell))):=rfl;generalize (env.blockKind==.function&&env.kindOf x==some .local&&px.line==(Expr.ListComp a g s p).pos.line&&!(s.names.any λ(n,k)=>n==x&&(k==.local||k==.cell)))=b at hb;cases b with
   | false=>exact .inl hb
   | true=>exact .inr ⟨hb,_,_,_,_,_,_,_,_,_,rfl,rfl⟩
 all_goals first
   | exact .inl rfl
   | exact OQ (show false=true from h)
theorem H6 (D:Wd Z P gn G cf d):PS Z P gn G cf d (.asg t e):=λks sc x env ρ A β σ s hm hA F I hE=>ux.of <| by
 replace hm:=ao hm; obtain ⟨⟨txs,v⟩,hz,hm⟩:=hm;obtain ⟨pos,rfl⟩:=lB hz; clear hz;replace hm:=ao hm; obtain ⟨tx,h00,hm⟩:=hm;replace h00:=da h00; subst h00
 . obtain ⟨h1,h0,h2⟩:=JJ hm;replace h1:=Fy h1; obtain ⟨i,x,px,rfl,rfl,h1,_⟩:=h1
   . intro c σ' ev;have ev':((ag G cf e ρ σ).bind λx aa=>bg ((DV (.var i) x ρ).map Out.next) aa)=.ok c σ':=ev;obtain ⟨w,aa,h3,h4⟩:=Res.bind_ok ev';apply tL h4; intro ρ' hb;cases hb;rcases uM (env:=env) (x:=x) (px:=px) (n:=pos.line) h0 with hq | ⟨hq,m,t,it,c,e',a,g,mO,p,rfl,rfl⟩
     . exact yE hq rfl (NM ((jy D e ks sc v env ρ A β σ s h2 hA F I).1 _ _ h3) (λu ai ⟨ah,S,al,q⟩=>wpAny_assign_Name (qE (F.step S) al h1 q λs' F' S' I'=>⟨ah,S.ofNo.trans S',I',rfl,F'⟩)) λ_ _ x=>x)
     . rw [arm_exec_Assign];refine MQ (Ow ?_);show wpAny _ _ (swapsWith (.ListComp a g mO p) (some (.Name x px)) pos.line env >>= λb=>if b=true then _ else _) _ _ _;rw [hq];refine MQ (NF ?_);rw [if_pos rfl];refine kk λK k=>?_;obtain ⟨elt,tgx,iter,ifs,scope,pos',q,kt,k0,k1,k2,N,k5,k6,hP⟩:=qp h2;cases (q);refine k ?_;rw [arm_evalThenUse_ListComp];refine MQ (MQ ?_);show wpAny _ _ (comprehension _ mO env _ (newList []) false (eval iter env) (some λv=>assign (.Name x px) env v)) _ _ _;refine sE D (ID D it) (Fj D c) (jy D e') kt k0 k1 k2 N k5 k6 hA (hA.1 (D.q hP)) F I h3 λacc C s' h=>?_;obtain ⟨β',mm,S,I',rv,hn,hC,hCb⟩:=h;have h0:Z.h₀.get? C=none:=by
         cases q:Z.h₀.get? C with
         | none=>rfl
         | some o=>rw [I.base C o q] at hC; cases hC
       have hnC:¬ own env C:=λz=>by obtain ⟨o,ho,_⟩:=F.ownSome z; rw [hC] at ho; cases ho
       show wpAny _ _ (assign (.Name x px) env acc) _ _ _;refine wpAny_assign_Name (qE (F.step S) I' h1 rv λs'' F'' S'' I''=>?_);have hn'':∃ m,s''.heap.Ns C m:=by
         obtain ⟨o,es,ep,ho,q⟩:=hn;rcases S''.keepW C o ho (λz=>hCb z.tt.mem) hnC with e | ⟨_,_,sl,e⟩
         . exact ⟨mm,o,es,ep,e,q⟩
         . exact ⟨mm,_,es,ep,e,q⟩
       obtain ⟨m'',hn''⟩:=hn'';refine ⟨m'',hn'',λh' hs'=>?_⟩;have hk:∀ b o,b≠C->s''.heap.get? b=some o->h'.get? b=some o:=λb o hb e=>(hs'.2 b hb).trans e;refine NF (NF ⟨β',(S.ofNo.trans S'').tail (W:=(·=C)) (λ_ q=>q ▸ hC) hk rfl rfl,I''.touch (W:=(·=C)) (λ_ q=>q ▸ hCb) (λ_ q=>q ▸ h0) (λ_ q=>q ▸ lE hn'') hk,rfl,F''.touch (W:=(·=C)) (λ_ q=>q ▸ hCb) (λ_ q=>q ▸ F.frs.not hC) (λ_ q=>q ▸ hnC) (λ_ q=>q ▸ lE hn'') hk⟩)
theorem zU (h:LG v=true):swapsWith v (some (.Tuple xs k p)) n env=pure false/\swappedStores [.Tuple xs k p] v env=pure none:=by obtain ⟨q,e⟩:=Ox.mp h;obtain ⟨p',e⟩:=C1 e;rw [e]; exact ⟨rfl,rfl⟩
theorem E2 (D:Wd Z P gn G cf d) {l:List Nat}:PS Z P gn G cf d (.asgT l e):=λks sc x env ρ A β σ s hm hA F I hE=>ux.of <| by replace hm:=ao hm; obtain ⟨⟨txs,v⟩,hz,hm⟩:=hm;obtain ⟨pos,rfl⟩:=lB hz; clear hz;replace hm:=ao hm; obtain ⟨tx,hz,hm⟩:=hm;replace hz:=da hz; subst hz;replace hm:=ao hm; obtain ⟨xs,hz,hm⟩:=hm;apply Ep (kc hz); intro k p; clear hz;obtain ⟨h1,h2,hP,h4⟩:=Gw hm;intro c σ' ev;rw [HA] at ev;obtain ⟨w,aa,e1,ev⟩:=Res.bind_ok ev;obtain ⟨ds,hw,ev⟩:=ik ev;obtain ⟨hl,ev⟩:=y8 ev;cases (ev);have hw:=dM hw; subst hw;obtain ⟨q1,q2⟩:=zU (env:=env) (xs:=xs) (k:=k) (p:=p) (n:=pos.line) h2;refine BY q1 q2 (NM ((jy D e ks sc v env ρ A β σ s h4 hA F I).1 _ _ e1) (λu ai ⟨ah,S,al,q⟩=>?_) λ_ _ x=>x);apply (oH q).el; intro a vs n ha ht hz r;have hn:=lh (env:=env) h1;have hz:=r.length;simp only [NT] at hz;refine wpAny_assign_Tuple (hA.1 (D.q hP)) ⟨_,ha,rfl,_,rfl⟩ (by rw [hn.1,hz,hl]) hn.2 λh' he=>?_;have hk:∀ b o,ai.heap.get? b=some o->h'.get? b=some o:=λb o e=>he b o (OI (Os e)) e;have S2:Step bV ah σ' ai ah σ' { ai with heap:=h' }:=Step.grow hk rfl rfl;refine mJ h1 hl (r.mono λx o _ _ e _ t=>⟨hk _ _ e,t⟩) ((F.step S).step S2) (al.grow hk) λs' F' S' I' _=>⟨ah,(S.trans S2).ofNo.trans S',I',rfl,F'⟩
theorem zV {o i:Expr}:swapsWith v (some (.Subscript o i p)) n env=pure false:=by cases v <;> rfl
theorem H1 (D:Wd Z P gn G cf d) {o i:E}:PS Z P gn G cf d (.put o i e):=λks sc x env ρ A β σ s hm hA F I hE=>ux.of <| by
 replace hm:=ao hm; obtain ⟨⟨txs,v⟩,hz,hm⟩:=hm;obtain ⟨pos,rfl⟩:=lB hz; clear hz;replace hm:=ao hm; obtain ⟨tx,h00,hm⟩:=hm;replace h00:=da h00; subst h00;replace hm:=ao hm; obtain ⟨⟨ox,ix⟩,h00,hm⟩:=hm;apply iY (tX h00); intro p
 . refine kk λK k=>?_;obtain ⟨h0,h1,h2,h3⟩:=Gw hm;refine k ?_;intro c σ' ev;rw [J3] at ev;obtain ⟨x,aa,e1,ev⟩:=Res.bind_ok ev;obtain ⟨a,af,e2,ev⟩:=Res.bind_ok ev;obtain ⟨k,au,e3,ev⟩:=Res.bind_ok ev;obtain ⟨xd,hx,ev⟩:=ik ev;obtain ⟨n,ks',ha,hk,ev⟩:=Hi ev;obtain ⟨l,hl,ev⟩:=ik ev;obtain ⟨hlim,evF⟩:=y8 ev;clear ev;clear ev;replace hl:=gq hl;replace hx:=b8 hx; replace ha:=gB ha; replace hk:=dP hk;subst hx; subst ha; subst hk
   . skip
     . skip
       . skip
         cases evF;refine wpAny_Assign_Subscript ?_ zV;refine NM ((jy D e ks sc v env ρ A β σ s h3 hA F I).1 _ _ e1) (λu ai ⟨ah,az,al,ru⟩=>?_) λ_ _ x=>x;refine NM ((jy D o ks sc ox env ρ A ah aa ai h1 hA (F.step az) al).1 _ _ e2) (λov aj ⟨aL,bY,bQ,ro⟩=>?_) λ_ _ x=>x;refine NM ((jy D i ks sc ix env ρ A aL af aj h2 hA ((F.step az).step bY) bQ).1 _ _ e3) (λiv aR ⟨uB,qN,wF,ri⟩=>?_) λ_ _ x=>x;obtain ⟨ad,hb,rfl⟩:=qN.vrel0 ro;apply xT (ma ri); intro t g;have S:=(az.trans bY).trans qN;refine Af (O:=bV) wF hb hl g (qN.rel0 (bY.rel0 ru)) hlim λs' S' I'=>?_;exact ⟨uB,(S.trans S').ofNo,I',rfl,F.step (S.trans S')⟩
theorem HZ (D:Wd Z P gn G cf d):PS Z P gn G cf d (.ret e):=λks sc x env ρ A β σ s hm hA F I hE=>ux.of <| by
 replace hm:=ao hm; obtain ⟨o,h0,hm⟩:=hm;apply iY (tw h0); intro pos;replace hm:=ao hm; obtain ⟨v,h00,hm⟩:=hm;subst h00
 . intro c σ' ev;rw [J2] at ev;obtain ⟨y,aa,e1,ev⟩:=Res.bind_ok ev;cases ev;rw [arm_exec_Return];refine MQ (Ow ?_);show wpAny _ _ (eval v env >>= λr=>pure (Flow.ret r)) _ _ _;exact MQ (NM ((jy D e ks sc v env ρ A β σ s hm hA F I).1 _ _ e1) (λu ai ⟨ah,az,al,ru⟩=>NF ⟨ah,az.ofNo,al,u,rfl,ru⟩) λ_ _ x=>x)
theorem EZ (D:Wd Z P gn G cf d):PS Z P gn G cf d .pass:=λks sc x env ρ A β σ s hm hA F I hE=>ux.of <| by replace hm:=ao hm; obtain ⟨_,h0,hm⟩:=hm;apply iY (BT h0); intro pos;rw [arm_exec_Pass];exact Ev.standAt (Ev.pure I ⟨rfl,F⟩)
theorem H4 (D:Wd Z P gn G cf d) {a b:SL} (ha:Er Z P gn G cf d a) (hb:Er Z P gn G cf d b):PS Z P gn G cf d (.ite c a b):=λks sc x env ρ A β σ s hm hA F I hE=>by
 refine kk λK k=>?_;replace hm:=ao hm; obtain ⟨⟨t,x,y⟩,h0,hm⟩:=hm;refine k ?_;apply iY (H7 h0); intro pos
 . refine kk λK k=>?_;obtain ⟨h1,h2,h3⟩:=JJ hm;refine k ?_;have ev:exec G cf (.ite c a b) ρ σ=(lq (ag G cf c ρ σ)).bind λt aa=>if t then execs G cf a ρ aa else execs G cf b ρ aa:=by have ev0:exec G cf (.ite c a b) ρ σ=(ag G cf c ρ σ).bind (λx aa=>(bg (truthy aa x) aa).bind λt aa=>if t then execs G cf a ρ aa else execs G cf b ρ aa):=rfl;rw [ev0];unfold lq;cases ag G cf c ρ σ <;> rfl
   rw [ev,arm_exec_If];refine ux.standAt (ux.bindO (jy D c ks sc t env ρ A β σ s h1 hA F I).2 λv w ah aa ai az al q _=>?_);cases q;cases v with
   | true=>exact ha ks sc x env ρ A ah aa ai h2 hA (F.step az) al hE
   | false=>exact hb ks sc y env ρ A ah aa ai h3 hA (F.step az) al hE
theorem H2 (D:Wd Z P gn G cf d):Er Z P gn G cf d .nil:=λks sc xs env ρ A β σ s hm hA F I hE=>by replace hm:=fC hm; subst hm;exact ux.of (Ev.pure I ⟨rfl,F⟩)
theorem E1 (D:Wd Z P gn G cf d) (hs:PS Z P gn G cf d st) (hr:Er Z P gn G cf d r):Er Z P gn G cf d (.cons st r):=λks sc xs env ρ A β σ s hm hA F I hE=>by
 replace hm:=ao hm; obtain ⟨⟨x,xs⟩,h0,hm⟩:=hm;replace h0:=me h0; subst h0
 . simp only [NO] at hm;rw [arm_execs_cons];intro c σ' ev;rw [EB] at ev;obtain ⟨o,aa,h1,h2⟩:=Res.bind_ok ev;refine MQ (NM (hs ks sc x env ρ A β σ s hm.1 hA F I hE o aa h1) (λf ai ⟨ah,az,al,q⟩=>?_) λv ai ⟨k,ds,q,fq⟩=>?_)
   . cases o with
     | next ρ'=>obtain ⟨rfl,F'⟩:=q;exact NM (hr ks sc xs env ρ' A ah aa ai hm.2 hA F' al hE c σ' h2) (λf aj ⟨aL,bY,bQ,q⟩=>⟨aL,az.trans bY,bQ,q⟩) λv aj ⟨k,ds,q,fq⟩=>⟨k,ds,q,fq.back az⟩
     | ret v=>obtain ⟨w,rfl,q⟩:=q;cases h2;exact NF ⟨ah,az,al,w,rfl,q⟩
     | exc k ds=>exact q.elim
   . subst q;cases h2;exact ⟨k,ds,rfl,fq⟩
variable {e:Addr} {hk:Hk} {hs:List Hd} {us:List Value} {f:Nat} {L:Option Addr} {out:Out} {tp np rp:Pos} {x y z:PyData} {b:SL} {aR:Shared} {fx:Str} {mL:Str->Option Value}
structure Landed (Z:Cx) (env:Env) (ks:List (Str×NameKind)) (sc:List (Str×Nat)) (L:Option Addr) (β:List Addr) (σ:ac) (s:Shared) (β':List Addr) (σ':ac) (s':Shared) (e:Addr) (k:Nat) (ds:List PyData):Prop where
 st:Step (own env) β σ s β' σ' s'
 inv:Inv Z β' σ' s'.heap
 nb:e∉β'
 fl:Fl L s.heap s'.heap e k ds
 fr:FrameOk Z env ks sc [] β' σ' s'.heap
 xd:k=6->XD s.heap β' σ' s'.heap e ds
theorem FlyQ.elim {Q:Prop} {v:Value} (q:FlyQ L Z (own env) β σ s σ' k ds (FrameOk Z env ks sc []) v s') (f:∀ β' e,v=.ref e->Landed Z env ks sc L β σ s β' σ' s' e k ds->Q):Q:=by obtain ⟨β',e,h0,h1,h2,h3,h4,h5,h6⟩:=q;exact f β' e h0 ⟨h1,h2,h3,h4,h5,h6⟩
theorem Landed.q (q:Landed Z env ks sc L β σ s β' σ' s' e k ds):FlyQ L Z (own env) β σ s σ' k ds (FrameOk Z env ks sc []) (.ref e) s':=⟨β',e,rfl,q.st,q.inv,q.nb,q.fl,q.fr,q.xd⟩
theorem Fl.elim {Q:Prop} (q:Fl L h0 h e k ds) (f:∀ oe vs,h.get? e=some oe->oe.cls=.ref (KA k)->oe.data=.fields vs->gR L h e vs->(∀ T,vs[1]?=some (.ref T)->h0.get? T=none)->Q):Q:=by obtain ⟨_,_,oe,vs,h1,h2,h3,h4,h5⟩:=q;exact f oe vs h1 h2 h3 h4 h5
theorem wE.elim {Q:Prop} (hE:wE A env) (hA:jR Z d A) (f:∀ outer L,A.frames=some (env::outer)->env.frame=some L->(env::outer).filterMap (·.frame)=Z.fr->(∀ x∈env::outer,x.scope.kind=.function/\∃ f',x.frame=some f'/\f'∈Z.fr)->Q):Q:=by obtain ⟨outer,L,hfr,hfL⟩:=hE;obtain ⟨l,hl,hlf,hlk⟩:=hA.2.2.2;rw [hfr] at hl;cases hl;obtain ⟨hfm,hfx⟩:=AG hlf;exact f outer L hfr hfL hfm λx hx=>⟨hlk x hx,hfx x hx⟩
theorem Landed.frames (q:Landed Z env ks sc L β σ s β' σ' s' e k ds) {l:List Env} (h:∀ x∈l,x.scope.kind=.function/\∃ f',x.frame=some f'/\f'∈Z.fr):s'.heap.FunFrames jA l:=sr λx hx'=>by obtain ⟨h1,f',hf1,hf2⟩:=h x hx';obtain ⟨⟨o',q1,q2⟩,_⟩:=q.fr.frs f' hf2;exact ⟨by rw [h1]; decide,f',o',hf1,q1,q2⟩
theorem Landed.noted {L':Option Addr} (q:Landed Z env ks sc L β σ s β' σ' s' e k ds) (F:ey Z β s.heap) (I:Inv Z β σ s.heap) (hfv:fv=.none\/∃ l,L'=some l/\fv=rawInt l) (hfs:∀ f∈fs,f∈Z.fr)
   (he:s'.heap.get? e=some oe) (hc:oe.cls=.ref (KA k)) (hd:oe.data=.fields vs) (hL:gR L s'.heap e vs) (hT:∀ T,vs[1]?=some (.ref T)->s.heap.get? T=none) (N:Noted fv fs e oe vs s'.heap h'):Landed Z env ks sc L' β σ s β' σ' { s' with heap:=h' } e k ds:=by
 have base0:∀ a,s.heap.get? a=none->Z.h₀.get? a=none:=λa q=>by
   cases z:Z.h₀.get? a with
   | none=>rfl
   | some o'=>rw [I.base a o' z] at q; cases q
 exact ⟨q.st.noted N q.fl.1 hT λf' hf=>⟨(q.fr.frs f' (hfs f' hf)).1,(F f' (hfs f' hf)).2.1⟩,q.inv.noted (h0:=s.heap) N he hd hL (λf' hf=>q.fr.frs f' (hfs f' hf)) (base0 _ q.fl.1) λT z=>base0 _ (hT T z),q.nb,Fl.noted N hfv q.st.alive q.fl.1 hT q.fl.2.1 hc,q.fr.noted N he hd hL λf' hf=>(q.fr.frs f' (hfs f' hf)).1,λz=>(q.xd z).noted N he hd hL λf' hf=>⟨(q.fr.frs f' (hfs f' hf)).1,λy=>by obtain ⟨⟨o,y',_⟩,_⟩:=F f' (hfs f' hf); rw [y] at y'; cases y'⟩⟩
theorem Dk {v:Value} (hA:jR Z d A) (hE:wE A env) (F:ey Z β s.heap) (I:Inv Z β σ s.heap) (ho:out=.exc k ds) (fq:FlyQ env.frame Z (own env) β σ s σ' k ds (FrameOk Z env ks sc []) v aR) :
   notedBy (model Z.prog Z.w) A env (cameBackBy (model Z.prog Z.w) A env (λv s'=>X2 λk ds=>out=.exc k ds/\FlyQ env.frame Z (own env) β σ s σ' k ds (FrameOk Z env ks sc []) v s')) v aR:=
 fq.elim λβ' e hv q=>hE.elim hA λouter L hfr hfL hfm hfx=>q.fl.elim λoe vs he hc hd hL hT=>by subst hv;exact CB hfr (q.frames hfx) hfL he hd hL λfE N=>⟨k,ds,ho,(q.noted F I (.inr ⟨L,hfL,rfl⟩) (λf' hf=>hfm ▸ hf) he hc hd hL hT N).q⟩
theorem ym (t:RT) (k:Nat) (ds:List PyData) (ρ:Fm) (σ:ac):je t (.exc k ds) ρ σ=.ok (.exc k ds) σ:=rfl
theorem jd {v:V} (h:nQ v=none) (t:RT) (ρ:Fm) (σ:ac):je t v ρ σ=MW t v ρ σ:=by unfold je; rw [h]
theorem DL (D:Wd Z P gn G cf d) {x:Str} {pos:Pos} (h1:(P f).map (λfn=>(fn.name,fn.meth||fn.ctor))=some (x,false)) (h2:pN ks x=true) (h3:pA P gn ks sc es args=true) (hA:jR Z d A) (F:FrameOk Z env ks sc ρ β σ s.heap) (I:Inv Z β σ s.heap) :
   Et Z A (eval (.Call (.Name x p) args [] pos) env) ((aW G cf es ρ σ).bind λvs aa=>cf f vs aa) β σ s:=λc σ' e=>by
 obtain ⟨fn,hf,hq⟩:=N9.mp h1;have hq1:=(Prod.mk.inj hq).1;subst hq1;obtain ⟨a,o,fd,hg,ho,hd,hcall⟩:=D.c f fn hf (Prod.mk.inj hq).2;obtain ⟨vs,aa,he,hc⟩:=Res.bind_ok e;refine PyProof.Rows.Call_Name (c5 (pos:=pos) h3).1 (gD D F I h2 hg ?_);refine callWith_function (o:=o) (fd:=fd) (eE (qX D es) h3 hA F I he λws β' s' S I' r=>⟨⟨I'.base a o ho,hd⟩,?_⟩);exact NM (hcall A β' aa s' ws vs hA (F.step S).frs I' r c σ' hc) (λv s'' ⟨z,β'',S',I'',q⟩=>⟨z,β'',S.trans S',I'',q⟩) λv s'' ⟨k,ds,q,fq⟩=>⟨k,ds,q,fq.back S⟩
theorem FlyQ.own {v:Value} (F:FrameOk Z env ks sc ρ β σ s.heap) (q:FlyQ none Z bV β σ s σ' k ds (λ_ _ _=>True) v s'):FlyQ env.frame Z (own env) β σ s σ' k ds (FrameOk Z env ks sc []) v s':=by obtain ⟨β',e,rfl,S,I,n,f,_,y⟩:=q;obtain ⟨f1,f2,oe,vs,f3,f4,f5,f6,f7⟩:=f;exact ⟨β',e,rfl,S.ofNo,I,n,⟨f1,f2,oe,vs,f3,f4,f5,f6.any,f7⟩,(F.step S).bare,y⟩
theorem Gi {t:RT} {v:V} {c:Out} (F:FrameOk Z env ks sc ρ β σ s.heap) (ev:je t v ρ af=.ok c σ'):(X2 λk ds=>v=.exc k ds/\FlyQ none Z bV β σ s af k ds (λ_ _ _=>True) u s')->X2 λk ds=>c=.exc k ds/\FlyQ env.frame Z (own env) β σ s σ' k ds (FrameOk Z env ks sc []) u s':=λ⟨k,ds,q,fq⟩=>by rw [q,ym] at ev;cases ev;exact ⟨k,ds,rfl,fq.own F⟩
theorem BX {x:Expr} {lp:Pos} {E:Value->Shared->Prop} (hx:backTo lp (starEach [x] env)=[(false,eval x env)]) (h:wpAny (model Z.prog Z.w) A (eval x env) (λu ai=>wpAny (model Z.prog Z.w) A (newList [u]) (λr aj=>Q (.ret r) aj) E ai) E s):wpAny (model Z.prog Z.w) A (PySem.exec (.Return (some (.List [x] lp)) sp) env) Q E s:=by refine E4 ?_;rw [arm_eval_List,hx];exact MQ (Ow (MQ (spliced_cons (NM h (λu ai q=>spliced_nil q) λ_ _ x=>x))))
theorem AW {t:RT} {x:Stmt} {v:V} {c:Out} {E:Value->Shared->Prop} (hx:MV sc t x=some (.Call (.Name fx p) args [] pos)) (F:FrameOk Z env ks sc ρ β σ s.heap) (ev:je t v ρ af=.ok c σ') (C:wpAny (model Z.prog Z.w) A (eval (.Call (.Name fx p) args [] pos) env) (λa ai=>nQ v=none/\Po Z bV β σ s af ai λβ'=>aw β' af ai.heap a v) E s)
   (fin:∀ f s',(Po Z (own env) β σ s σ' s' λβ'=>FR Z env ks sc f c β' σ' s'.heap)->Q f s'):wpAny (model Z.prog Z.w) A (PySem.exec x env) Q E s:=by
 cases t with
 | drop=>apply iY (uV hx); intro sp;refine uX F.kind rfl (NM C (λa ai ⟨z,ah,S,al,q⟩=>?_) λ_ _ x=>x);rw [jd z] at ev;cases ev;exact fin _ _ ⟨ah,S.ofNo,al,rfl,F.step S⟩
 | var i=>
   replace hx:=NJ.mp hx; obtain ⟨⟨txs,w⟩,hz,hx⟩:=hx;replace hx:=NJ.mp hx; obtain ⟨tx,h00,hx⟩:=hx;replace hx:=NJ.mp hx; obtain ⟨n,hn,hx⟩:=hx;apply iY (lB hz); intro sp;apply zo (show txs=[tx] from da h00);apply iY (bH hn); intro px;by_cases hl:sc.lookup n=some i
   . rw [if_pos hl] at hx;apply zo (show w=(.Call (.Name fx p) args [] pos) from Option.some.inj hx);refine yE (mI rfl) rfl (NM C (λu ai ⟨z,ah,S,al,q⟩=>?_) λ_ _ x=>x);rw [jd z] at ev;cases ev;exact wpAny_assign_Name (qE (F.step S) al hl q λs' F' S' I'=>fin _ _ ⟨ah,S.ofNo.trans S',I',rfl,F'⟩)
   . rw [if_neg hl] at hx; cases hx
 | ret=>cases hx
 | retL=>replace hx:=NJ.mp hx; obtain ⟨w,hz,hx⟩:=hx;replace hz:=NJ.mp hz; obtain ⟨o,hz,hw⟩:=hz;apply iY (tw hz); intro sp;apply zo (show o=some w from hw);replace hx:=NJ.mp hx; obtain ⟨xs,hg,hx⟩:=hx;apply iY (vI hg); intro lp;apply zo (da hx);refine BX rfl (NM C (λu ai ⟨z,ah,S,al,q⟩=>?_) λ_ _ x=>x);rw [jd z] at ev;have ev:oc (bx v) (λx=>Res.ok (Out.ret (.d (.list [x]))) af) .bad=.ok c σ':=ev;obtain ⟨y,hy,ev⟩:=ik ev;cases ev;rw [b8 hy] at q;have M:=dJ (O:=bV) (A:=A) (m:=false) (l:=[y]) (t:=newList [u]) al (by simp [LIM]) (wpAny_newList (by exact ⟨_,_,0,rfl,aV _,NQ _ rfl,aS _,rfl,rfl,by simpa using RelAll.one q⟩) (by simp [sizeLine])) _ _ rfl;exact NM M (λr aj ⟨aL,bY,bQ,xa⟩=>fin _ _ ⟨aL,(S.trans bY).ofNo,bQ,r,rfl,xa⟩) λ_ _ x=>x.elim
theorem BV (D:Wd Z P gn G cf d) {t:RT}:PS Z P gn G cf d (.calls t f es):=λks sc x env ρ A β σ s hm hA F I hE=>by refine kk λK k=>?_;replace hm:=ao hm; obtain ⟨v,hx,hm⟩:=hm;replace hm:=ao hm; obtain ⟨⟨fx,args⟩,h0,hm⟩:=hm;obtain ⟨p,pos,e0⟩:=eT h0;rw [e0] at hx;obtain ⟨h1,h3⟩:=NH.mp hm;obtain ⟨h1,h2⟩:=NH.mp h1;have h1:=of_decide_eq_true h1;clear h0 e0 hm;refine k λc σ' ev=>?_;clear k;have ev:((aW G cf es ρ σ).bind λvs aa=>(cf f vs aa).bind λv af=>je t v ρ af)=.ok c σ':=ev;obtain ⟨vs,σa,ea,ev⟩:=Res.bind_ok ev;obtain ⟨v,af,eb,ev⟩:=Res.bind_ok ev;have C:=DL (p:=p) (pos:=pos) D h1 h2 h3 hA F I v af (by rw [ea]; exact eb);clear h1 h2 h3 eb ea;exact AW hx F ev (NM C (λ_ _ x=>x) λ_ _=>Gi F ev) λ_ _ q=>q
theorem VRels.two {vs:List Value} (r:VRels β σ h vs [.d x,.d y]):X2 λv1 v2=>A3 (vs=[v1,v2]) (Rel (TT β σ) h v1 x) (Rel (TT β σ) h v2 y):=by
 cases r with
 | cons r1 r=>cases r with
   | cons r2 r=>cases r; exact ⟨_,_,rfl,r1,r2⟩
theorem Ii (D:Wd Z P gn G cf d) {pos:Pos} {Q:Flow->Shared->Prop} {E:Value->Shared->Prop} (hg:pN ks (kS 6)=true) (h3:pA P gn ks sc es args=true) (hh:A.handled=none) (hA:jR Z d A) (F:FrameOk Z env ks sc ρ β σ s.heap) (I:Inv Z β σ s.heap) (he:aW G cf es ρ σ=.ok [.d x,.d y] σ')
   (k:∀ v s',FlyQ env.frame Z (own env) β σ s σ' 6 [x,y] (FrameOk Z env ks sc []) v s'->E v s'):wpAny (model Z.prog Z.w) A (PySem.exec (.Raise (some (.Call (.Name (kS 6) p) args [] pos)) none sp) env) Q E s:=by
 have es':=c5 (env:=env) (pos:=pos) h3;have W:=D.w;rw [arm_exec_Raise];refine MQ (Ow ?_);refine XAt.elim (D.x.own 6 (Of 6)).2 λnm q' N bs hdct sn sub ab col dd k0 k1 k2 k3 k5 mN hC hN _ _=>?_;refine w9 (C:=KA 6) (nm:=nm) (q:=q') (N:=N) (bs:=bs) (bm:=cL 6) (hdct:=hdct) (sn:=sn) (sub:=sub) (ab:=ab) (col:=col) (dd:=dd) (k0:=k0) (k1:=k1) (k2:=k2) (k3:=k3) (k5:=k5) (newId:="ValueError.__new__") (by rw [hY (by decide),OA]; rfl) hh ?_;refine MQ (NM (Q:=λv ai=>X4 λe t D sl=>A4 (v=.ref e) (ai.heap.get? (KA 6)=some (excClassObj nm q' (KA 6) N bs (cL 6) hdct sn sub ab col dd k0 k1 k2 k3 k5 "ValueError.__new__")) (ai.heap.get? e=some { cls:=.ref (KA 6),dict:=D,data:=.fields #[.ref t,.none,.none,.none,.bool false,.none],slots:=sl }) (E (.ref e) ai)) ?_ (λv aR my=>MQ (Ow (NF my))) λ_ _ z=>z);refine PyProof.Rows.Call_Name es'.1 (gD D F I hg (D.x.own 6 (Of 6)).1 ?_);unfold callWith;refine MQ (OG (eE (qX D es) h3 hA F I he λws β' s' S I' r=>MQ (Ow ?_)));obtain ⟨v1,v2,rfl,r1,r2⟩:=r.two;have X6:=DJ (D.x.at I' (Of 6)) (D.x.at I' (N3 _));have hlim:=(W.keeps I').2.2;have hC':=I'.base _ _ hC;have F':=F.step S;obtain ⟨hp,g,dr,tk,os⟩:=s';rw [es'.2];refine MQ (wpAny_keeperOf_exc hC' ?_);refine MQ (x5 (prog:=Z.prog) (w:=Z.w) (h:=hp) (g:=g) (d:=dr) (t:=tk) (os:=os) (v1:=v1) (v2:=v2) X6 hlim (Oc (Ob (NZ _ d) (by decide)) hA.2.1) λh' tk' e M=>MQ (OG (wpAny_point (NF ?_))));obtain ⟨t,Dd,sl,m,kp,e1,e2,e3,e4,e5⟩:=M;have G':Step bV β' σ' ⟨hp,g,dr,tk,os⟩ β' σ' ⟨h',g,dr,tk',os⟩:=Step.grow kp rfl rfl;have nb:Dd∉β':=I'.notMem e3;refine ⟨e,t,_,sl,rfl,kp _ _ hC',e2,k _ _ ⟨β',e,rfl,(S.trans G').ofNo,I'.grow kp,I'.notMem e1,⟨S.alive _ e1,⟨by decide,by decide⟩,_,_,e2,rfl,rfl,.inl rfl,λT q=>by cases q⟩,(F'.step G').bare,λ_=>⟨_,Dd,m,v1,v2,x,y,rfl,e2,rfl,⟨S.alive _ e3,nb⟩,e4,e5,G'.rel0 r1,G'.rel0 r2⟩⟩⟩
theorem Ij (D:Wd Z P gn G cf d) {pos:Pos} {vs:List V} {E:Value->Shared->Prop} (hk:1<=k/\k<=5) (hg:pN ks (kS k)=true) (h3:pA P gn ks sc es args=true) (hlen:args.length<=1000) (hh:A.handled=none) (hA:jR Z d A) (F:FrameOk Z env ks sc ρ β σ s.heap) (I:Inv Z β σ s.heap) (he:aW G cf es ρ σ=.ok vs σ')
   (fin:∀ v s',FlyQ env.frame Z (own env) β σ s σ' k [] (FrameOk Z env ks sc []) v s'->E v s'):wpAny (model Z.prog Z.w) A (PySem.exec (.Raise (some (.Call (.Name (kS k) p) args [] pos)) none sp) env) Q E s:=by
 have hb:=(D.x.own k (Pu hk.2)).1;refine XAt.elim (D.x.own k (Pu hk.2)).2 λnm q N bs hdct sn sub ab col dd k0 k1 k2 k3 k5 mN hC hN hq hi=>?_;refine XAt.elim (D.x.own 0 (N3 _)).2 λnm' q' N' bs' hdct' sn' sub' ab' col' dd' k0' k1' k2' k3' k5' mN' hC' hN' hq' hi'=>?_;have es':=c5 (env:=env) (pos:=pos) h3;refine wpAny_Raise_call_subT (C:=KA k) (nm:=nm) (q:=q) (N:=N) (bs:=bs) (bm:=cL k) (hdct:=hdct) (sn:=sn) (sub:=sub) (ab:=ab) (col:=col) (dd:=dd) (k0:=k0) (k1:=k1) (k2:=k2) (k3:=k3) (k5:=k5)
   PySem.F.excBase_ValueError (mN:=mN) (by rw [hY hk.1,OA]; rfl) hh (by rw [es'.1]; exact es'.2) (hi hk.2) (gD D F I hg hb ⟨rfl,?_⟩)
 rw [es'.1];refine eE (qX D es) h3 hA F I he λws β' s' S I' r=>⟨rfl,?_,I'.base _ _ hC,hN.keeps I'.base,?_,λh' e M=>?_⟩
 . show ws.length<=sizeLine;rw [fH r,kh h3 he];exact iv hlen (by decide)
 . rw [hY hk.1];exact .own (I'.base _ _ hC') (hN'.keeps I'.base) (hi' (N3 _)) .base
 . obtain ⟨t,ht,_,_⟩:=M.there;have G':Step bV β' σ' s' β' σ' { s' with heap:=h' }:=Step.grow M.keeps rfl rfl;exact fin _ _ ⟨β',e,rfl,(S.trans G').ofNo,I'.grow M.keeps,I'.notMem M.new,⟨S.alive _ M.new,⟨hk.1,Pu hk.2⟩,_,_,ht,rfl,rfl,.inl rfl,λT q=>by cases q⟩,((F.step S).step G').bare,λz=>absurd (z ▸ hk.2) (by decide)⟩
theorem BU (D:Wd Z P gn G cf d):PS Z P gn G cf d (.raise k es):=λks sc x env ρ A β σ s hm hA F I hE=>by
 replace hm:=ao hm; obtain ⟨⟨ox,oc⟩,h0,hm⟩:=hm;apply iY (Ab h0); intro sp;replace hm:=ao hm; obtain ⟨ex,h00,hm⟩:=hm;apply zo (show ox=some ex from h00);replace hm:=ao hm; obtain ⟨⟨z,args⟩,h01,hm⟩:=hm;apply Ep (eT h01); intro p pos;refine kk λK kx=>?_;obtain ⟨hm,hlen⟩:=NH.mp hm;obtain ⟨hm,h3⟩:=NH.mp hm;obtain ⟨hm,hP⟩:=NH.mp hm;obtain ⟨hm,hk⟩:=NH.mp hm;obtain ⟨hm,hg⟩:=NH.mp hm;obtain ⟨hn,hz⟩:=NH.mp hm;replace hk:=of_decide_eq_true hk;replace hz:z=kS k:=of_decide_eq_true hz;replace hn:oc=none:=Ou.mp hn;rw [hz] at hg;refine kx ?_;clear kx h0 h00 h01 hm;apply zo hz;apply zo hn;clear hz hn;intro c σ' ev;have ev:((aW G cf es ρ σ).bind λvs aa=>LT k vs aa)=.ok c σ':=ev;obtain ⟨vs,aa,he,ev⟩:=Res.bind_ok ev;unfold LT at ev;by_cases hk5:k<=5
 . rw [if_pos ⟨hk.1,hk5⟩] at ev;cases (ev);exact Ij D ⟨hk.1,hk5⟩ hg h3 (of_decide_eq_true hlen) (hA.1 (D.q hP)) hA F I he λv s' q=>⟨k,[],rfl,q⟩
 . have hk6:k=6:=Pv hk.2 (Nat.lt_of_not_le hk5);rw [if_neg λz=>hk5 z.2,if_pos hk6] at ev;obtain ⟨⟨a,b⟩,h2,ev⟩:=ik ev;obtain ⟨x,y,hx,hy,ev⟩:=Hi ev;rw [iD h2,show a=.d x from b8 hx,show b=.d y from b8 hy] at he;cases ev;clear h2 hx hy;subst hk6;exact Ii D hg h3 (hA.1 (D.q hP)) hA F I he λv s' q=>⟨6,[x,y],rfl,q⟩
theorem Ax (D:Wd Z P gn G cf d) {n:Str} {v:V} {E:Value->Shared->Prop} (h1:(P f).map (·.name)=some fx) (h1':fx=("_law_kind":Str)) (h2:pN ks fx=true) (hn:sc.lookup n=some i) (hno:bP n=true)
   (hA:jR { Z with q:=true } d A) (F:FrameOk Z env ks sc ρ β σ s.heap) (I:Inv Z β σ s.heap) (hv:ρ[i]?=some (.exc k ds)) (hc:cf f [.exc k ds] σ=.ok v σ') (hx:nQ v=none) :
   wpAny (model Z.prog Z.w) A (eval (.Call (.Name fx p) [.Name n np] [] pos) env) (λa s'=>Po Z bV β σ s σ' s' λβ'=>aw β' σ' s'.heap a v) E s:=by
 obtain ⟨fn,hf,rfl⟩:=N9.mp h1;obtain ⟨a,o,fd,hg,ho,hd,hcall⟩:=D.k f fn hf h1';have trees:backTo pos (starEach [.Name n np] env)=[(false,eval (.Name n np) env)]:=rfl;refine PyProof.Rows.Call_Name trees (gD D F I h2 hg ?_);refine callWith_function (o:=o) (fd:=fd) (evalArgs_plain (spliced_cons (wpAny_Name (F.load hn hv (by simp) λw hw=>spliced_nil ⟨⟨I.base a o ho,hd⟩,?_⟩) (cA hno).1)));refine NM (hcall A β σ s [w] [.exc k ds] hA F.frs I (.cons hw .nil) v σ' hc) (λu s'' q=>q.2) λu s'' ⟨k',ds',q,_⟩=>?_;subst q; cases hx
theorem Cy {n:Str} {Q:Prop} (hm:Mj P ks f n v=true) (q:∀ fp np fpos,v=.Call (.Name "_law_kind" fp) [.Name n np] [] fpos->(P f).map (·.name)=some "_law_kind"->pN ks "_law_kind"=true->Q):Q:=by replace hm:=ao hm; obtain ⟨⟨fx,fargs⟩,q5,hm⟩:=hm;obtain ⟨fp,fpos,rfl⟩:=eT q5;replace hm:=ao hm; obtain ⟨ax,q6,hm⟩:=hm;replace q6:fargs=[ax]:=da q6;subst q6;replace hm:=ao hm; obtain ⟨n',q7,hm⟩:=hm;obtain ⟨np,rfl⟩:=bH q7;simp only [NO,decide_eq_true_eq] at hm;obtain ⟨⟨⟨q8,hf⟩,hf'⟩,hgf⟩:=hm;subst q8;have hf':fx=("_law_kind":Str):=hf';subst hf';exact q fp np fpos rfl hf hgf
theorem xt {n x:Str} (hm:G0 n x v=true):X2 λnp p=>v=.Attribute (.Name n np) x p:=by replace hm:=ao hm; obtain ⟨⟨o,y,p⟩,h0,hm⟩:=hm;apply zo (vK h0);replace hm:=ao hm; obtain ⟨n',h1,hm⟩:=hm;obtain ⟨np,h1⟩:=bH h1;have h1:o=.Name n' np:=h1;subst h1;simp only [NO,decide_eq_true_eq] at hm;obtain ⟨rfl,h2⟩:=hm;have h2:y=x:=h2;subst h2;exact ⟨np,p,rfl⟩
theorem Ar {n:Str} {v:V} {f:Flow} {E:Value->Shared->Prop} (hkl:env.kindOf n=some .local) (F:FrameOk Z env ks sc ρ β σ s.heap) (I:Inv Z β σ s.heap) (r:aw β σ s.heap u v) (q:∀ s',Step (own env) β σ s β σ s'->Inv Z β σ s'.heap->aw β σ s'.heap u v->Q f s') :
   wpAny (model Z.prog Z.w) A (do bindName env n .none; unbindBehindTheSuite env n pos) (λ_ s'=>Q f s') E s:=by
 obtain ⟨No,MK,_⟩:=F.ns;refine wpAny_nameGoes hkl MK (by rw [F.kind]; rfl) λK1 Nn MJ G3=>?_;have hk6':∀ b' o',b'≠env.locals->s.heap.get? b'=some o'->K1.get? b'=some o':=λb' o' q z=>(G3.2 b' q).trans z;have nS:=F.notSeq env.locals (.inl rfl);refine q _ ⟨⟨[],by simp,by simp⟩,λk c' _ e=>⟨c',e,id,id,id⟩,Hc λb' o' z _ hb'=>hk6' b' o' (λq=>hb' (.inl q)) z,λb' z=>?_,rfl,rfl⟩ (I.touch (W:=(·=env.locals)) (λ_ q=>q ▸ (F.apart _ (.inl rfl)).1) (λ_ q=>q ▸ (F.apart _ (.inl rfl)).2) (λ_ q=>q ▸ nS) hk6') (fR hk6' nS (F.apart _ (.inl rfl)).1 r);by_cases q:b'=env.locals
 . subst q;obtain ⟨o',_,_,z',_⟩:=MJ;have z:K1.get? env.locals=none:=z;rw [z'] at z; cases z
 . exact (G3.2 b' q).symm.trans z
noncomputable def GA (Z:Cx) (A:Around) (env:Env) (v:Expr) (σ':ac) (x:V) (β:List Addr) (σ:ac) (s:Shared):Prop:=
 wpAny (model Z.prog Z.w) A (eval v env) (λu ai=>Po Z bV β σ s σ' ai λβ'=>aw β' σ' ai.heap u x) (λ_ _=>False) s
theorem BD {x:V} {n:Str} {v:Expr} {E LO:Value->Shared->Prop} (q:Landed Z env ks sc none β σ s β' aa ai e k ds) (Ea:FrameOk Z env ks sc ρ β σ s.heap)
   (hni:sc.lookup n=some i) (hkl:env.kindOf n=some .local)
   (hv:∀ ρ' c8,ρ'[i]?=some (.exc k ds)->FrameOk Z env ks sc ρ' β' aa c8.heap->Inv Z β' aa c8.heap->Step (own env) β' aa ai β' aa c8->(k=6->XD s.heap β' aa c8.heap e ds)->(X2 λo vs=>A3 (c8.heap.get? e=some o) (o.cls=.ref (KA k)) (o.data=.fields vs))->(∃ m,c8.heap.Ns env.locals m/\m n=some (.ref e))->GA Z (A.mark (some (.ref e))) env v σ' x β' aa c8)
   (k':∀ ls u fJ,Step (own env) β σ s ls σ' fJ->Inv Z ls σ' fJ.heap->aw ls σ' fJ.heap u x->Q (.ret u) fJ) :
   wpAny (model Z.prog Z.w) (A.mark (some (.ref e))) (storeName env n (.ref e)) (λ_ aj=>wpAny (model Z.prog Z.w) (A.mark (some (.ref e))) (PySem.execs [.Return (some v) rp] env)
     (λf aR=>wpAny (model Z.prog Z.w) A (do bindName env n .none; unbindBehindTheSuite env n pos) (λ_ s'=>Q f s') E' aR) E aj) LO ai:=by
 have MO:FrameOk Z env ks sc (List.replicate (i+1) .un) β' aa ai.heap:=q.fr.empty;refine q.fl.elim λoe vs he hc hd _ _=>MO.store (v:=.exc k ds) q.inv hni ⟨e,oe,vs,rfl,he,⟨hc,hd,q.fl.2.1⟩,λz=>q.nb z.mem⟩ λc8 Bj LK D9 kv kl=>?_;obtain ⟨keepL,hNm⟩:=kl hkl;have lo:s.heap.get? env.locals≠none:=λz=>by obtain ⟨o,ho,_⟩:=Ea.ownSome (.inl rfl); rw [z] at ho; cases ho
 have eL:e≠env.locals:=λz=>lo (z ▸ q.fl.1);have xd:k=6->XD s.heap β' aa c8.heap e ds:=λz=>(q.xd z).move (λ_ y=>y) (λo y=>⟨o,keepL e o eL y,rfl⟩) (λD o y _ nb hn=>⟨nb,o.slots,keepL D o (λy'=>lo (y' ▸ hn)) y⟩) λu y r=>kv u (.d y) r;rw [arm_execs_cons,arm_exec_Return];refine MQ (MQ (Ow ?_));show wpAny _ _ (eval v env >>= λr=>pure (Flow.ret r)) _ _ _;refine MQ (NM (hv _ c8 (by simp) Bj D9 LK xd ⟨oe,vs,keepL e oe eL he,hc,hd⟩ hNm) (λu fJ ⟨ls,Bh,D8,r⟩=>NF (NF ?_)) λ_ _ z=>z.elim);exact Ar hkl (Bj.step Bh) D8 r λLZ MI MN L9=>k' ls u LZ (((q.st.trans LK).trans Bh.ofNo).trans MI) MN L9
theorem qI (D:Wd Z P gn G cf d) {n y:Str} {m:Str->Option Value} {Q:Value->Shared->Prop} {E:Value->Shared->Prop} (hy:y∈c7) (hB:typeLookup (.type "ValueError") y=pure none) (hno:bP n=true) (hk:env.scope.kind=.function) (hkl:env.kindOf n=some .local) (I:Inv Z β σ s.heap)
   (hNm:s.heap.Ns env.locals mL) (hn':mL n=some (.ref e)) (he:s.heap.get? e=some oe) (hc:oe.cls=.ref (KA 6)) (hd:oe.data=.fields vs) (hD:oe.dict=some Dd) (hn:s.heap.Ns1 Dd m) (hu:m y=some u) (r:Rel (TT β σ) s.heap u z) (q:∀ tk,Q u { s with toks:=tk }) :
   wpAny (model Z.prog Z.w) A (eval (.Attribute (.Name n np) y pos) env) Q E s:=by
 refine PyProof.Rows.Attribute_name (wpAny_Name (wpAny_loadName_local hk hkl hNm hn' ?_) (cA hno).1);obtain ⟨mN,mN',T,qn,_⟩:=DJ (D.x.at I (Of 6)) (D.x.at I (N3 _));have n1:=qn "__getattribute__" (.head _);have n2:=qn "__getattr__" (.tail _ (.head _));have n3:=qn y hy;obtain ⟨hp,g,dr,tk,os⟩:=s;exact vG T n1.1 n1.2 n2.1 n2.2 n3.1 n3.2 hB he hc hd hD hn hu (by cases r <;> rfl) λt'=>q t'
theorem yu {xs:List PyData} {E:Value->Shared->Prop} (I:Inv Z β σ s.heap) (r:RelAll (TT β σ) s.heap us xs) (hl:xs.length<=1000):wpAny (model Z.prog Z.w) A (newTuple us) (λw s'=>Po Z bV β σ s σ s' λβ'=>aw β' σ s'.heap w (.d (.tuple xs))) E s:=by have hlen:=r.length;exact KS (qm (O:=bV) I (iv hl (by decide)) (wpAny_newTuple ⟨_,_,0,rfl,aV _,NQ _ rfl,aS _,rfl,rfl,by simpa using r⟩ (by rw [hlen]; exact iv hl (by decide))) _ _ rfl)
theorem XD.step (X:XD h0 β σ s.heap e ds) (S:Step bV β σ s ah aa ai) (he:s.heap.get? e=some oe) (hd:oe.data=.fields vs) (nb:e∉β):XD h0 ah aa ai.heap e ds:=
 X.move (λ_ z=>z) (λo z=>⟨o,S.keep e o z (λy=>nb y.tt.mem) id (by rw [he] at z; cases z; exact dW hd),rfl⟩) (λD o z hf nb' _=>⟨(λy=>by
     obtain ⟨l,rfl,g⟩:=S.ext;rcases NR.mp y with y | y
     . exact nb' y
     . rw [g D y] at z; cases z),(S.keepW D o z (λy=>nb' y.tt.mem) id).elim (λy=>⟨o.slots,y⟩) λy=>y.2.2⟩) λv x r=>S.rel0 r
theorem CQ (D:Wd Z P gn G cf d) {a:Bool} {n:Str} {q:Expr} {xs:List Expr} {kk:Nat} (hq:Mj P ks f n q=true) (hxs:(if a then ob (two xs) λr=>G0 n jf r.1&&G0 n cS r.2 else xs.isEmpty)=true) (hak:a=true->k=6)
   (hni:sc.lookup n=some i) (hno:bP n=true) (hkl:env.kindOf n=some .local) (hA:jR { Z with q:=true } d A) (F:FrameOk Z env ks sc ρ β σ s.heap) (I:Inv Z β σ s.heap) (hv:ρ[i]?=some (.exc k ds)) (ec:cf f [.exc k ds] σ=.ok (.d x) σ')
   (nb:e∉β) (xd:k=6->XD h0 β σ s.heap e ds) (he:s.heap.get? e=some oe) (hc:oe.cls=.ref (KA k)) (hd:oe.data=.fields vs) (hNm:s.heap.Ns env.locals mL) (hn:mL n=some (.ref e)):GA Z A env (.Tuple (q::xs) kk tp) σ' (.d (.tuple (x::if a then ds else []))) β σ s:=by
 refine Cy hq λfp np fpos q0 hf hgf=>?_;subst q0;have C:=Ax (p:=fp) (np:=np) (pos:=fpos) D hf rfl hgf hni hno hA F I hv ec rfl (E:=λ_ _=>False);unfold GA;cases a with
 | false=>have hxs:xs=[]:=fC hxs;subst hxs;have trees:backTo tp (starEach [.Call (.Name "_law_kind" fp) [.Name n np] [] fpos] env)=[(false,eval (.Call (.Name "_law_kind" fp) [.Name n np] [] fpos) env)]:=rfl;rw [arm_eval_Tuple,trees];exact MQ (Ow (MQ (spliced_cons (NM C (λu ai ⟨ah,S,al,r⟩=>spliced_nil (NM (yu al (RelAll.one r) (N8 rfl)) (λw aj ⟨aL,bY,bQ,tz⟩=>⟨aL,S.trans bY,bQ,tz⟩) λ_ _ z=>z)) λ_ _ z=>z))))
 | true=>
   have hk:=hak rfl;subst hk;have hxs:(ob (two xs) λr=>G0 n jf r.1&&G0 n cS r.2)=true:=hxs;replace hxs:=ao hxs; obtain ⟨⟨y1,y2⟩,h2,hxs⟩:=hxs;have h2:xs=[y1,y2]:=iD h2;subst h2;obtain ⟨m1,m2⟩:=NH.mp hxs;obtain ⟨np1,p1,m1⟩:=xt m1;obtain ⟨np2,p2,m2⟩:=xt m2;have m1:y1=_:=m1;have m2:y2=_:=m2;subst m1; subst m2;have trees:backTo tp (starEach [.Call (.Name "_law_kind" fp) [.Name n np] [] fpos,.Attribute (.Name n np1) jf p1,.Attribute (.Name n np2) cS p2] env)=[(false,eval (.Call (.Name "_law_kind" fp) [.Name n np] [] fpos) env),(false,eval (.Attribute (.Name n np1) jf p1) env),(false,eval (.Attribute (.Name n np2) cS p2) env)]:=rfl;rw [arm_eval_Tuple,trees];refine MQ (Ow (MQ (spliced_cons (NM C (λu ai ⟨ah,S,al,r⟩=>?_) λ_ _ z=>z))));have sh:=S.keep e oe he (λy=>nb y.tt.mem) id (dW hd);obtain ⟨oe',Dd,m,v1,v2,x1,x2,rfl,z2,z3,z4,z5,z6,z7,z8⟩:=(xd rfl).step S he hd nb;rw [sh] at z2; cases z2;have tU:∃ mL,ai.heap.Ns env.locals mL/\mL n=some (.ref e):=by
     obtain ⟨o,es,ep,ho,rr⟩:=hNm;rcases S.keepW _ o ho (λy=>(F.apart _ (.inl rfl)).1 y.tt.mem) id with y | ⟨_,_,sl,y⟩
     . exact ⟨mL,⟨o,es,ep,y,rr⟩,hn⟩
     . exact ⟨mL,⟨_,es,ep,y,rr⟩,hn⟩
   obtain ⟨mL',tU,lI⟩:=tU;have k1:jf∈c7:=.tail _ (.tail _ (.tail _ (.tail _ (.head _))));have k2:cS∈c7:=.tail _ (.tail _ (.tail _ (.tail _ (.tail _ (.head _)))));refine spliced_cons (qI D k1 sd hno F.kind hkl al tU lI sh hc hd z3 z5 z6.1 z7 λtk=>spliced_cons (qI (s:={ ai with toks:=tk }) D k2 na hno F.kind hkl al tU lI sh hc hd z3 z5 z6.2 z8 λtk'=>spliced_nil ?_));exact NM (yu (s:={ ai with toks:=tk' }) (us:=[u,v1,v2]) (xs:=[x,x1,x2]) al (.cons r (.cons z7 (.cons z8 .nil))) (by simp)) (λw aj ⟨aL,bY,bQ,tz⟩=>⟨aL,(S.trans (Step.grow (s:=ai) (ai:={ ai with toks:=tk' }) (λ_ _ z=>z) rfl rfl)).trans bY,bQ,tz⟩) λ_ _ z=>z
noncomputable def MP (Z:Cx) (A:Around) (env:Env) (ks:List (Str×NameKind)) (sc:List (Str×Nat)) (β:List Addr) (σ:ac) (s:Shared) (β':List Addr) (aa:ac) (aj:Shared) (e:Addr) (k:Nat) (ds:List PyData):Prop:=
 ∀ (Q:Unit->Shared->Prop) (E:Value->Shared->Prop),(∀ aR,Landed Z env ks sc none β σ s β' aa aR e k ds->Q () aR)->wpAny (model Z.prog Z.w) (A.mark (some (.ref e))) (setFlight (.ref e) none) Q E aj
section
variable {c:Out} {hp:Pos}
abbrev HQ (Z:Cx) (env:Env) (ks:List (Str×NameKind)) (sc:List (Str×Nat)) (β:List Addr) (σ:ac) (s:Shared) (σ':ac) (c:Out) (f:Flow) (aR:Shared):Prop:=Po Z (own env) β σ s σ' aR λβ'=>FR Z env ks sc f c β' σ' aR.heap
theorem FT {n:Str} {x:V} {E:Value->Shared->Prop} (fly:MP Z A env ks sc β σ s β' aa aj e k ds) (F:FrameOk Z env ks sc ρ β σ s.heap) (hmn:M2 ks sc i n=true)
   (hv:∀ ρ' c8,bP n=true->sc.lookup n=some i->env.kindOf n=some .local->ρ'[i]?=some (.exc k ds)->FrameOk Z env ks sc ρ' β' aa c8.heap->Inv Z β' aa c8.heap->(k=6->XD s.heap β' aa c8.heap e ds)->(X2 λo vs=>A3 (c8.heap.get? e=some o) (o.cls=.ref (KA k)) (o.data=.fields vs))->(∃ m,c8.heap.Ns env.locals m/\m n=some (.ref e))->GA Z (A.mark (some (.ref e))) env v σ' x β' aa c8)
   (hR:∀ f aR,wpAny (model Z.prog Z.w) A (do bindName env n .none; unbindBehindTheSuite env n hp) (λ_ s'=>HQ Z env ks sc β σ s σ' (.ret x) f s') E aR->R (.ok f) aR):codeAny (model Z.prog Z.w) (A.mark (some (.ref e))) (.handlers (.ref e) [.ExceptHandler none (some n) [.Return (some v) rp] hp] env) R aj:=by
 obtain ⟨h1,h2⟩:=NH.mp hmn;obtain ⟨h1,hno⟩:=NH.mp h1;have hni:=of_decide_eq_true h1;have hkl:env.kindOf n=some .local:=(F.kinds n _ (of_decide_eq_true h2)).elim id λz=>by cases z.1
 refine codeAny_handlers_suite_as (fly _ _ λaR uY=>?_);refine NM (BD (Q:=HQ Z env ks sc β σ s σ' (.ret x)) (E':=E) (E:=λ_ _=>False) (LO:=λ_ _=>False) uY F hni hkl (λρ' c8 hv' Bj D9 _ xd ho hN=>hv ρ' c8 hno hni hkl hv' Bj D9 xd ho hN) λls u fJ Bh D8 Ma=>⟨ls,Bh,D8,u,rfl,Ma⟩) (λ_ c8 h=>NM h (λf fJ h=>hR f fJ h) λ_ _ z=>z.elim) λ_ _ z=>z.elim
theorem Ja (D:Wd Z P gn G cf d) {E:Value->Shared->Prop} (fly:MP Z A env ks sc β σ s β' aa aj e k ds) (hA:jR Z d A) (F:FrameOk Z env ks sc ρ β σ s.heap) (nb:e∉β') (hmk:M3 P ks sc hk nm v=true) (ev:oo cf hk k ds aa=.ok c σ')
   (hR:∀ f aR,(match nm with | none=>HQ Z env ks sc β σ s σ' c f aR | some n=>wpAny (model Z.prog Z.w) A (do bindName env n .none; unbindBehindTheSuite env n hp) (λ_ s'=>HQ Z env ks sc β σ s σ' c f s') E aR)->R (.ok f) aR):codeAny (model Z.prog Z.w) (A.mark (some (.ref e))) (.handlers (.ref e) [.ExceptHandler none nm [.Return (some v) rp] hp] env) R aj:=by
 have hA':jR { Z with q:=true } d (A.mark (some (.ref e))):=⟨(λz=>by cases z),hA.2⟩
 cases hk with
 | none=>cases hmk
 | kind i f=>cases hmk
 | tup i f a=>obtain ⟨n,n1,hmk⟩:=ao hmk;subst n1;obtain ⟨xs,n2,hmk2⟩:=ao hmk;apply Ep (kc n2); intro kk tp;obtain ⟨hmn,hmk3⟩:=NH.mp hmk2;obtain ⟨⟨y,ys⟩,n3,hmk4⟩:=ao hmk3;have n3:=me n3;subst n3;obtain ⟨m1,m2⟩:=NH.mp hmk4;obtain ⟨vr,σa,ec,ev⟩:=Res.bind_ok (show ((cf f [.exc k ds] aa).bind λv aa=>oc (bx v) (λx=>if a=true->k=6 then Res.ok (Out.ret (.d (.tuple (x::if a then ds else [])))) aa else .bad) .bad)=.ok c σ' from ev);obtain ⟨x,hx,ev2⟩:=ik ev;obtain ⟨hak,ev3⟩:=y8 ev2;have hx:=b8 hx;subst hx;cases ev3;exact FT fly F hmn (λρ' c8 hno hni hkl hv Bj D9 xd ⟨o,vs',y1,y2,y3⟩ ⟨mL,y4,y5⟩=>CQ D m1 m2 hak hni hno hkl hA' Bj D9 hv ec nb xd y1 y2 y3 y4 y5) hR
theorem vD (D:Wd Z P gn G cf d) {E:Value->Shared->Prop} (fly:MP Z A env ks sc β σ s β' aa aj e k ds) (hA:jR Z d A) (F:FrameOk Z env ks sc ρ β σ s.heap) (q:Landed Z env ks sc none β σ s β' aa aj e k ds) (he:aj.heap.get? e=some oe) (hc:oe.cls=.ref (KA k)) (hs:List Hd):∀ (ehs:List ExceptHandler),IT P ks sc hs ehs=true->mz cf hs k ds aa=.ok c σ'->wpAny (model Z.prog Z.w) A (handleBy (.ref e) env ehs) (HQ Z env ks sc β σ s σ' c) E aj:=by
 induction hs with
 | nil=>intro ehs _ ev; cases ev
 | cons h hs ih=>
   intro ehs hm ev;obtain ⟨⟨eh,es⟩,g0,hm1⟩:=ao hm;have g0':=me g0;subst g0';obtain ⟨⟨x,nm,v⟩,g1,hm2⟩:=ao hm1;obtain ⟨xp,rp,hp,g1'⟩:=Jf g1;have g1':eh=_:=g1';subst g1';obtain ⟨hm3,hms⟩:=NH.mp hm2;obtain ⟨hm4,hmk⟩:=NH.mp hm3;obtain ⟨hm5,hj⟩:=NH.mp hm4;obtain ⟨g2,hgx⟩:=NH.mp hm5;have g2:x=kS h.k:=of_decide_eq_true g2;subst g2;have hj6:=of_decide_eq_true hj;have hk6:=q.fl.2.1;refine wpAny_handleBy_cons (codeAny_handlers_test (gD D q.fr q.inv hgx (D.x.own h.k hj6).1 (xS (D.x.at q.inv hk6.2) (D.x.at q.inv hj6) he hc (GD D.x hk6.1 hk6.2 hj6) ?_))) (by intro q; cases q);have ev:(if h.k=k\/h.k=0 then oo cf h.h k ds aa else mz cf hs k ds aa)=.ok c σ':=ev;by_cases hit:h.k=k\/h.k=0
   . rw [if_pos hit] at ev;have hb:(h.k==k||h.k==0)=true:=by rcases hit with z | z <;> rw [z] <;> simp
     rw [hb];exact Ja D fly hA F q.nb hmk ev λf aR h=>h
   . rw [if_neg hit] at ev;have hb:(h.k==k||h.k==0)=false:=by rw [beq_eq_false_iff_ne.mpr λz=>hit (.inl z),beq_eq_false_iff_ne.mpr λz=>hit (.inr z)]; rfl
     rw [hb];exact ih es hms ev
end
theorem HY (D:Wd Z P gn G cf d) (hb:Er Z P gn G cf d b):PS Z P gn G cf d (.tryS b hs):=λks sc x env ρ A β σ s hm hA F I hE=>by
 replace hm:=ao hm; obtain ⟨⟨body,hds,els,fin⟩,h0,hm⟩:=hm;apply iY (EW h0); intro sp;simp only [NO] at hm;obtain ⟨⟨⟨⟨⟨h1,h2⟩,h3⟩,hP⟩,hne⟩,hm⟩:=hm;have h1:els=[]:=fC h1;have h2:fin=[]:=fC h2;subst h1; subst h2;obtain ⟨⟨hd0,hds'⟩,hne⟩:=Ox.mp hne;have hne:hds=hd0::hds':=me hne;subst hne;intro c σ' ev;obtain ⟨o,aa,e1,ev⟩:=Res.bind_ok (show ((execs G cf b ρ σ).bind λo aa=>match o with | .exc k ds=>mz cf hs k ds aa | o=>.ok o aa)=.ok c σ' from ev);refine wpAny_Try_except (NM (hb ks sc body env ρ A β σ s h3 hA F I hE o aa e1) (λf ai ⟨ah,az,al,q⟩=>?_) λv ai ⟨k,ds,q,fq⟩=>?_)
 . cases o with
   | next ρ'=>obtain ⟨rfl,F'⟩:=q;cases ev;exact wpAny_execs_nil ⟨ah,az,al,rfl,F'⟩
   | ret w=>obtain ⟨u,rfl,q⟩:=q;cases ev;exact ⟨ah,az,al,u,rfl,q⟩
   | exc k ds=>exact q.elim
 . subst q;refine fq.elim λβ' e hv q=>hE.elim hA λouter L hfr hfL hfm hfx=>q.fl.elim λoe vs he hc hd hL hT=>?_;subst hv;refine vc (fo:=none) hfr (q.frames hfx) hfL he hd hL λfE N=>?_;have xa:=q.noted (L':=none) F.frs I (.inl rfl) (λf' hf=>hfm ▸ hf) he hc hd hL hT N;refine N.then (v':=.none) λT KO oT J5 ts nk K3 K8 hTe hT2 hdT h3T _=>xa.fl.elim λKN J4 nj G4 si K7 ze=>?_;have z:KN=KO:=Option.some.inj (nj.symm.trans nk);subst z;have z:J4=J5:=by have:=si.symm.trans K3; cases (this); rfl
   subst z;exact vD D (λQ E hq=>ld (fo:=none) nj si K8 hTe hT2 hdT h3T λmy ML=>hq _ (xa.noted (L':=none) F.frs I (.inl rfl) (λf' hf=>by cases hf) nj G4 si K7 ze ML)) hA F xa nj G4 hs (hd0::hds') hm ev
noncomputable def pC (G:Nat->Option PyData) (cf:Nat->List V->ac->Res V) (t:Tgt) (b:SL):PyData->Fm->ac->Res Out:=λx ρ' σ'=>match eu t x ρ' with
 | none=>.bad
 | some ρ''=>execs G cf b ρ'' σ'
variable {o:Out}
theorem CC (h:pC G cf t b x ρ σ=.ok o σ'):∃ ρ',eu t x ρ=some ρ'/\execs G cf b ρ' σ=.ok o σ':=by
 unfold pC at h;cases hb:eu t x ρ with
 | none=>rw [hb] at h; cases h
 | some ρ'=>rw [hb] at h; exact ⟨ρ',rfl,h⟩
theorem AN (G:Nat->Option PyData) (cf:Nat->List V->ac->Res V) (t:Tgt) (it:It) (b:SL) (ρ:Fm) (σ:ac):exec G cf (.forr t it b) ρ σ=(bX G cf it ρ σ).bind λI aa=>(aZ (pC G cf t b) I.shown ρ (cG I.lk aa)).bind λo af=>.ok o (bc I.lk I.base af):=rfl
variable {f:PyData->Fm->ac->Res Out}
theorem xw {d:PyData} (hd:l[k]?=some d) (h:aZ f (l.drop k) ρ σ=.ok o σ') :
   X2 λbp aa=>f d ρ σ=.ok bp aa/\((∃ bA,bp=.next bA/\aZ f (l.drop (k+1)) bA aa=.ok o σ')\/(∃ v,A3 (bp=.ret v) (o=.ret v) (σ'=aa))\/(X2 λk ds=>A3 (bp=.exc k ds) (o=.exc k ds) (σ'=aa))):=by
 have hlt:=(NK.mp hd).1;have hd':=(NK.mp hd).2;rw [Ps hlt,hd'] at h;rw [FE] at h;obtain ⟨bp,aa,h1,h2⟩:=Res.bind_ok h;cases bp with
 | next bA=>exact ⟨_,aa,h1,.inl ⟨bA,rfl,h2⟩⟩
 | ret v=>cases h2; exact ⟨_,_,h1,.inr (.inl ⟨v,rfl,rfl,rfl⟩)⟩
 | exc k ds=>cases h2; exact ⟨_,_,h1,.inr (.inr ⟨k,ds,rfl,rfl,rfl⟩)⟩
variable {ρk:Fm} {X:Fm->Prop} {body:List Stmt} {k':Nat} {τ:ac}
inductive ForJ (Z:Cx) (A:Around) (env:Env) (ks:List (Str×NameKind)) (sc:List (Str×Nat)) (T:Itr) (ah:List Addr) (σL:ac) (aj:Shared) (f:PyData->Fm->ac->Res Out) (out:Out) (af:ac) (n:Nat) (s':Shared):Prop where
 | mk (k:Nat) (βk:List Addr) (σk:ac) (ρk:Fm) (h1:n=T.shown.length+1 - k) (h2:k<=T.shown.length) (L:Lp Z A (own env) T ah σL aj (T.St k) βk σk s') (Fr:FrameOk Z env ks sc ρk βk σk s'.heap) (hr:aZ f (T.shown.drop k) ρk σk=.ok out af):ForJ Z A env ks sc T ah σL aj f out af n s'
theorem Dg {It:Items} {sa:Shared} {bp:Out} {E:Value->Shared->Prop} (hb:Er Z P gn G cf d b) (h4:En P gn ks sc b body=true) (hA:jR Z d A) (hE:wE A env)
   (az:Step bV β σ s ah aa aj) (al:Inv Z ah aa aj.heap) (hlk:∀ n,It.lk=some n->aa[n]?=some (.lst It.base)) (hw:∀ a∈T.wr,s.heap.get? a=none/\a∉ah) (hwOwn:∀ a∈T.wr,¬ own env a) (ownS:∀ x,own env x->¬ bB aj.heap x)
   (La:Lp Z A (own env) T ah (cG It.lk aa) aj (T.St k') βk σk sa) (Fa:FrameOk Z env ks sc ρk βk σk sa.heap) (Fb:FrameOk Z env ks sc ρt βk σk sb.heap) (Sb:Step (own env) βk σk sa βk σk sb) (Ib:Inv Z βk σk sb.heap)
   (hf:execs G cf b ρt σk=.ok bp σc) (hor:(∃ bA,bp=.next bA/\X bA)\/(∃ v,A3 (bp=.ret v) (out=.ret v) (af=σc))\/(X2 λk ds=>A3 (bp=.exc k ds) (out=.exc k ds) (af=σc)))
   (q1:∀ bA βc aR,X bA->Lp Z A (own env) T ah (cG It.lk aa) aj (T.St k') βc σc aR->FrameOk Z env ks sc bA βc σc aR.heap->Q .next aR)
   (q2:∀ u βc aR,Step (own env) β σ s βc (bc It.lk It.base af) aR->Inv Z βc (bc It.lk It.base af) aR.heap->FR Z env ks sc (.ret u) out βc (bc It.lk It.base af) aR.heap->Q (.ret u) aR)
   (q3:∀ k ds v aR,out=.exc k ds->FlyQ env.frame Z (own env) β σ s (bc It.lk It.base af) k ds (FrameOk Z env ks sc []) v aR->E v aR):wpAny (model Z.prog Z.w) A (PySem.execs body env) Q E sb:=by
 have Lb:=La.step Sb Ib (λx z=>⟨(Fa.apart x z).1,Fa.notSeq x z⟩) hwOwn;have own2:∀ x,own env x->x∉βk/\¬ bB sb.heap x:=λx z=>⟨(Fb.apart x z).1,Fb.notSeq x z⟩;have GW:∀ a∈T.wr,¬ bB aj.heap a:=λa q=>(La.op.noseq 0 _ La.op.start a q).2;refine NM (hb ks sc body env _ A βk σk sb h4 hA Fb Ib hE bp σc hf) (λf aR ⟨βc,Sc,Ic,q⟩=>?_) λv aR ⟨kx,dx,hx,fq⟩=>fq.elim λβc ea hv q=>?_
 . have Lc:=Lb.step Sc Ic own2 hwOwn;rcases hor with ⟨bA,e,x⟩ | ⟨v,e,e',e''⟩ | ⟨k',ds',e,_⟩
   . refine kk λK k=>?_;rw [e] at q;obtain ⟨ef,Fc⟩:=q;refine k ?_;rw [ef];exact q1 bA βc aR x Lc Fc
   . rw [e] at q;obtain ⟨u,ef,ru⟩:=q;rw [ef];rw [e''] at q2;obtain ⟨Sx,Ix,ttx⟩:=ki az.ofNo al hlk Lc.st0 Lc.inv ownS GW λa q=>(hw a q).1;refine q2 u βc aR Sx Ix ?_;rw [e'];exact ⟨u,rfl,bL.vrel (λx o vs n e d t=>⟨e,λz=>t ((ttx x).mp z)⟩) (λD o _ e t=>⟨e,λz=>t ((ttx D).mp z)⟩) ru⟩
   . rw [e] at q; exact q.elim
 . have hor':out=.exc kx dx/\af=σc:=by
     rw [hx] at hor;rcases hor with ⟨bA,z,_⟩ | ⟨v,z,_⟩ | ⟨k',ds',z,z',z''⟩
     . cases z
     . cases z
     . cases z; exact ⟨z',z''⟩
   rw [hor'.2] at q3;have Lc:=Lb.step q.st q.inv own2 hwOwn;obtain ⟨Sx,Ix,ttx⟩:=ki az.ofNo al hlk Lc.st0 Lc.inv ownS GW λa q=>(hw a q).1;exact q3 kx dx v aR hor'.1 ⟨βc,ea,hv,Sx,Ix,q.nb,q.fl.back λa q=>az.alive a (Lb.st0.alive a q),q.fr.seq (λx o vs n e d t=>⟨e,λz=>t ((ttx x).mp z)⟩) (λD o _ e t=>⟨e,λz=>t ((ttx D).mp z)⟩) (λb _ o e=>e) (λb _ o e=>e),λz=>(q.xd z).same (λa q=>az.alive a (Lb.st0.alive a q)) (λ_ z=>z) λa=>(ttx a).mp⟩
theorem Ge {It:Items} (F:FrameOk Z env ks sc ρ β σ s.heap) (az:Step bV β σ s ah aa aj) (al:Inv Z ah aa aj.heap) (h0:∀ a,s.heap.get? a=none->Z.h₀.get? a=none) (hlk:∀ n,It.lk=some n->aa[n]?=some (.lst It.base)) (hw:∀ a∈T.wr,s.heap.get? a=none/\a∉ah) (hwOwn:∀ a∈T.wr,¬ own env a) (ownS:∀ x,own env x->¬ bB aj.heap x)
   (L:Lp Z A (own env) T ah (cG It.lk aa) aj (T.St k') βk af s') (Fr:FrameOk Z env ks sc ρk βk af s'.heap) (hkz:Kp T s'.heap sz.heap) (hgz:sz.gens=s'.gens) (hoz:sz.os=s'.os):Po Z (own env) β σ s (bc It.lk It.base af) sz λβ'=>FR Z env ks sc .next (.next ρk) β' (bc It.lk It.base af) sz.heap:=by
 obtain ⟨Sx,Ix,ttx⟩:=ki az.ofNo al hlk L.st0 L.inv ownS (λa q=>(L.op.noseq 0 _ L.op.start a q).2) (λa q=>(hw a q).1);have hnsI:∀ a,a∈T.wr->¬ bB s'.heap a:=λa q=>(L.live a q).2;have Fx:FrameOk Z env ks sc ρk βk (bc It.lk It.base af) s'.heap:=Fr.seq (λx o vs n e d t=>⟨e,λz=>t ((ttx x).mp z)⟩) (λD o _ e t=>⟨e,λz=>t ((ttx D).mp z)⟩) (λb _ o e=>e) λb _ o e=>e;exact ⟨βk,Sx.tail (W:=(·∈T.wr)) (λa q=>(hw a q).1) hkz hgz hoz,Ix.touch (W:=(·∈T.wr)) L.nm (λa q=>h0 a (hw a q).1) hnsI hkz,rfl,Fx.touch (W:=(·∈T.wr)) L.nm (λa q=>F.frs.not (hw a q).1) hwOwn hnsI hkz⟩
theorem Cg {a b:α} (h:Res.ok a σ=.ok b τ):a=b/\σ=τ:=by cases h; exact ⟨rfl,rfl⟩
theorem Dh (hb:Er Z P gn G cf d b) (h1:mZ sc t tx=true) (h4:En P gn ks sc b body=true) (h5:(xz t||!xA it)=true) (hh:A.handled=none) (hA:jR Z d A) (F:FrameOk Z env ks sc ρ β σ s.heap) (Iv:Inv Z β σ s.heap) (hE:wE A env)
   (hen:T.en=xA it) (az:Step bV β σ s ah aa aj) (al:Inv Z ah aa aj.heap) (hw:∀ a∈T.wr,s.heap.get? a=none/\a∉ah) (Op:Opened Z A T ah (cG I.lk aa) aj.heap) (hlk:∀ n,I.lk=some n->aa[n]?=some (.lst I.base)) (hr:aZ (pC G cf t b) T.shown ρ (cG I.lk aa)=.ok out af)
   (r1:∀ f s',(f=.next\/∃ u,f=.ret u)->(Po Z (own env) β σ s (bc I.lk I.base af) s' λβ'=>FR Z env ks sc f out β' (bc I.lk I.base af) s'.heap)->R (.ok f) s')
   (r3:∀ k ds v aR,out=.exc k ds->FlyQ env.frame Z (own env) β σ s (bc I.lk I.base af) k ds (FrameOk Z env ks sc []) v aR->notedBy (model Z.prog Z.w) A env (λe s'=>R (.error e) s') v aR):codeAny (model Z.prog Z.w) A (.forLoop tx (.ref T.Ia) body [] env) R aj:=by
 have h0:∀ a,s.heap.get? a=none->Z.h₀.get? a=none:=λa ha=>by
   cases q:Z.h₀.get? a with
   | none=>rfl
   | some o=>rw [Iv.base a o q] at ha; cases ha
 obtain ⟨IL,SL⟩:=yX al hlk;have hwOwn:∀ a∈T.wr,¬ own env a:=λa ha z=>by obtain ⟨o,ho,_⟩:=F.ownSome z; rw [(hw a ha).1] at ho; cases ho
 have ownS:∀ x,own env x->¬ bB aj.heap x:=(F.step az).notSeq;refine codeAny_forLoop_any (ForJ Z A env ks sc T ah (cG I.lk aa) aj (pC G cf t b) out af) ?_ (T.shown.length+1) ⟨0,_,_,ρ,rfl,N3 _,Lp.start Op IL (λa q=>(hw a q).2) λa q=>h0 a (hw a q).1,(F.step az).step SL,hr⟩;clear hr IL SL
 rintro n s' ⟨k,βk,σk,ρk,en,hkl,L,Fr,hrest⟩
 rw [en];clear en;by_cases hlt:k < T.shown.length
 . refine L.next hlt λw dd sa Lm hdd kJ hka=>?_;have Fa:FrameOk Z env ks sc ρk βk σk sa.heap:=Fr.touch (W:=(·∈T.wr)) L.nm (λa q=>F.frs.not (hw a q).1) hwOwn (λa q=>(L.live a q).2) hka;obtain ⟨bp,σc,hf0,hor⟩:=xw hdd hrest;obtain ⟨ρt,hbt,hf⟩:=CC hf0;clear hf0 hrest hka L Fr hdd;have turn:=λ{sa'} (La:Lp Z A (own env) T ah (cG I.lk aa) aj (T.St (k+1)) βk σk sa') (Fa:FrameOk Z env ks sc ρk βk σk sa'.heap) {sb} (Fb:FrameOk Z env ks sc ρt βk σk sb.heap) (Sb:Step (own env) βk σk sa' βk σk sb) (Ib:Inv Z βk σk sb.heap)=>Dg (Q:=λf aR=>match f with | .next | .cont=>∃ m,m < T.shown.length+1 - k/\ForJ Z A env ks sc T ah (cG I.lk aa) aj (pC G cf t b) out af m aR | .brk=>R (.ok .next) aR | .ret v=>R (.ok (.ret v)) aR) hb h4 hA hE az al hlk hw hwOwn ownS La Fa Fb Sb Ib hf hor (λbA βc aR x Lc Fc=>⟨T.shown.length+1 - (k+1),yt hlt,k+1,βc,σc,bA,rfl,hlt,Lc,Fc,x⟩) (λu βc aR Sx Ix fr=>r1 _ _ (.inr ⟨u,rfl⟩) ⟨βc,Sx,Ix,fr⟩) r3
   clear hor hf;cases t with
   | var i=>replace h1:=ao h1; obtain ⟨x,h0,hx⟩:=h1;apply iY (bH h0); intro p;have La:=Lm.skip (hen.trans (vd h5));rw [<- Option.some.inj hbt] at turn;refine NF (a:=()) ?_;exact wpAny_assign_Name (Fa.store La.inv (of_decide_eq_true hx) (v:=.d dd) kJ λsb Fb Sb Ib _ _=>turn La Fa Fb Sb Ib)
   | tup l=>replace h1:=ao h1; obtain ⟨xs,h0,h1⟩:=h1;apply Ep (kc h0); intro k' p;refine Lm.go λsa' La hk'=>?_;have Fa':FrameOk Z env ks sc ρk βk σk sa'.heap:=Fa.touch (W:=(·∈T.wr)) Lm.nm (λa q=>F.frs.not (hw a q).1) hwOwn (λa q=>(Lm.live a q).2) hk';exact qK hh h1 Fa' La.inv (hZ (W:=(·∈T.wr)) hk' (λa q=>(Lm.live a q).2) Lm.nm kJ) hbt λsb Fb Sb Ib _=>turn La Fa' Fb Sb Ib
 . have hke:k=T.shown.length:=Pv hkl (OE hlt);refine L.done hke λsz hkz hgz hoz=>?_;rw [hke,Qg,IV] at hrest;have e:=Cg hrest;rw [e.2] at L Fr;exact wpAny_execs_nil (r1 _ _ (.inl rfl) (e.1 ▸ Ge F az al h0 hlk hw hwOwn ownS L Fr hkz hgz hoz))
inductive ForX (G:Nat->Option PyData) (cf:Nat->List V->ac->Res V) (t:Tgt) (it:It) (b:SL) (ρ:Fm) (σ:ac) (out:Out) (σ':ac):Prop where
 | mk (I:Items) (aa af:ac) (h1:bX G cf it ρ σ=.ok I aa) (h2:aZ (pC G cf t b) I.shown ρ (cG I.lk aa)=.ok out af) (h3:σ'=bc I.lk I.base af):ForX G cf t it b ρ σ out σ'
theorem Ln (ev:exec G cf (.forr t it b) ρ σ=.ok out σ'):ForX G cf t it b ρ σ out σ':=by rw [AN] at ev;obtain ⟨I,aa,hit,ev⟩:=Res.bind_ok ev;obtain ⟨o,af,hr,hv⟩:=Res.bind_ok ev;have e:=Cg hv;exact ⟨I,aa,af,hit,e.1 ▸ hr,e.2.symm⟩
theorem H5 (D:Wd Z P gn G cf d) (hb:Er Z P gn G cf d b):PS Z P gn G cf d (.forr t it b):=λks sc x env ρ A β σ s hm hA F I hE=>by replace hm:=ao hm; obtain ⟨⟨tx,iter,body,els⟩,h0,hm⟩:=hm;apply iY (E3 h0); intro pos;refine kk λK kx=>?_;obtain ⟨hm,hP⟩:=NH.mp hm;obtain ⟨hm,h5⟩:=NH.mp hm;obtain ⟨hm,h4⟩:=NH.mp hm;obtain ⟨hm,h3⟩:=NH.mp hm;obtain ⟨hm,h2⟩:=NH.mp hm;obtain ⟨hm,h1⟩:=NH.mp hm;have hh:=hA.1 (D.q hP);refine kx λout σ' ev=>?_;apply zo (show els=[] from fC hm);clear kx hm hP h0;obtain ⟨I',aa,af,hit,hr,e⟩:=Ln ev;rw [e];refine wpAny_For ?_ (λx=>mY h2 x);refine NM (ID D it ks sc iter env ρ A β σ s I' aa h3 hA hh F I hit) (λx ai h=>NM h (λitv aj h=>?_) λ_ _ x=>x.elim) λ_ _ x=>x.elim;obtain ⟨ah,T,ei,hsh,hen,az,al,hw,Op,hlk,hlen⟩:=h;rw [ei];exact Dh hb h1 h4 h5 hh hA F I hE hen az al hw Op hlk (hsh ▸ hr) (λf s' hf q=>q) λk ds v aR hx fq=>Dk hA hE F.frs I hx fq
theorem EY (D:Wd Z P gn G cf d):PS Z P gn G cf d .stop:=λks sc x env ρ A β σ s hm hA F I hE=>by intro c σ' ev;have ev:Res.bad=.ok c σ':=ev;cases ev
mutual
theorem Nl (D:Wd Z P gn G cf d):∀ st,PS Z P gn G cf d st
 | .expr e=>E0 D
 | .asg t e=>H6 D
 | .asgT l e=>E2 D
 | .put o i e=>H1 D
 | .ite c a b=>H4 D (Ap D a) (Ap D b)
 | .forr t it b=>H5 D (Ap D b)
 | .ret e=>HZ D
 | .pass=>EZ D
 | .stop=>EY D
 | .calls t f es=>BV D
 | .raise k es=>BU D
 | .tryS b h=>HY D (Ap D b)
theorem Ap (D:Wd Z P gn G cf d):∀ st,Er Z P gn G cf d st
 | .nil=>H2 D
 | .cons s r=>E1 D (Nl D s) (Ap D r)
end
noncomputable def oh (names:List (Str×NameKind)) (slots:List (Str×Nat)) (ps:List Str) (np ns:Nat):Bool:=
 (slots.all λp=>(decide (names.lookup p.1=some .local)||(decide (names.lookup p.1=some .cell)))&&bP p.1)&&decide (slots.map (·.2)).Nodup&&decide (ps.length=np)&&
 (ps.zipIdx.all λp=>decide (slots.lookup p.1=some p.2))&&decide (np<=ns)&&(slots.all λp=>decide (p.2 < ns))
noncomputable def fnAt (Z:Cx) (fn:Fn):Option Value:=if fn.meth then Z.mn fn.name else Z.mg fn.name
inductive FnX (Z:Cx) (P:Nat->Option Fn) (gn:Nat->Str) (fn:Fn):Prop where
 | mk (a:Addr) (o:Obj) (fd:FuncData) (body:List Stmt) (ps:List Str) (h1:fnAt Z fn=some (.ref a)) (h2:Z.h₀.get? a=some o) (h2':fn.meth=true->o.cls=.type "function") (h3:o.data=.func fd) (h4:fd.body=.stmts body) (h5:fd.closure=[]) (h6:Z.h₀.CodeRec fd.code fd.qualname) (h7:fd.globals=mainGlobals) (h8:fd.builtins=builtinsNs)
   (h9:fd.scope.kind=.function) (h10:fd.scope.isCoroutine=false) (h11:fd.scope.isGenerator=false) (h12:∀ vals:List Value,vals.length=ps.length->bindArgs fd ⟨vals,[]⟩=pure (ps.zip vals))
   (h13:oh fd.scope.names fn.slots ps fn.np fn.ns=true) (h14:En P gn fd.scope.names fn.slots fn.body body=true):FnX Z P gn fn
structure FnOk (Z:Cx) (P:Nat->Option Fn) (gn:Nat->Str) (fn:Fn):Prop where
 ex:FnX Z P gn fn
 noC:fn.ctor=false
set_option tactic.hygienic true in
theorem eV:∀ {names:List (Str×NameKind)} {n:Nat} {acc:List (Str×Addr)} {x:Str},(x,NameKind.cell)∈names\/(acc.lookup x).isSome=true->((cellsFrom n names acc).lookup x).isSome=true
 | [],n,acc,x,h=>by
   rcases h with h | h
   . cases h
   . exact h
 | (y,k)::r,n,acc,x,h=>by
   unfold cellsFrom;split
   . rename_i hk;refine eV ?_;rcases h with h | h
     . rcases NN.mp h with h | h
       . cases h; right; simp [NW]
       . exact .inl h
     . right; rw [NW]; split
       . rfl
       . exact h
   . rename_i hk;refine eV ?_;rcases h with h | h
     . rcases NN.mp h with h | h
       . cases h; simp at hk
       . exact .inl h
     . exact .inr h
variable {x:Str} {kindOf:Str->Option NameKind}
theorem wz (hx:kindOf x=some .local):∀ {ps:List Str} {vals:List Value} {m:Str->Option Value},ps.Nodup->(∀ (i:Nat) (v:Value),ps[i]?=some x->vals[i]?=some v->bindL kindOf (ps.zip vals) m x=some v)/\(x∉ps->bindL kindOf (ps.zip vals) m x=m x)
 | [],vals,m,_=>⟨λi v h=>by simp at h,λ_=>rfl⟩
 | p::ps,[],m,_=>⟨λi v _ h=>by simp at h,λ_=>rfl⟩
 | p::ps,w::vals,m,hn=>by
   obtain ⟨h1,h2⟩:=O5.mp hn;have e:∀ y,bindL kindOf ((p::ps).zip (w::vals)) m y=bindL kindOf (ps.zip vals) (if kindOf p=some .local then λy=>if y=p then some w else m y else m) y:=λ_=>rfl;have ih:=λm'=>wz hx (ps:=ps) (vals:=vals) (m:=m') h2;refine ⟨λi v hi hv=>?_,λhx'=>?_⟩
   . rw [e];cases i with
     | zero=>simp at hi hv;subst hi hv;rw [(ih _).2 h1,if_pos hx]; simp
     | succ i=>exact (ih _).1 i v (by simpa using hi) (by simpa using hv)
   . simp only [NN,not_or] at hx';rw [e,(ih _).2 hx'.2];split
     . show (if x=p then some w else m x)=m x;rw [if_neg hx'.1]
     . rfl
theorem wA (hx:kindOf x≠some .local):∀ {ps:List Str} {vals:List Value} {m:Str->Option Value},ps.Nodup->(∀ (i:Nat) (v:Value),ps[i]?=some x->vals[i]?=some v->bindC kindOf (ps.zip vals) m x=some v)/\(x∉ps->bindC kindOf (ps.zip vals) m x=m x)
 | [],vals,m,_=>⟨λi v h=>by simp at h,λ_=>rfl⟩
 | p::ps,[],m,_=>⟨λi v _ h=>by simp at h,λ_=>rfl⟩
 | p::ps,w::vals,m,hn=>by
   obtain ⟨h1,h2⟩:=O5.mp hn;have e:∀ y,bindC kindOf ((p::ps).zip (w::vals)) m y=bindC kindOf (ps.zip vals) (if kindOf p=some .local then m else λy=>if y=p then some w else m y) y:=λ_=>rfl;have ih:=λm'=>wA hx (ps:=ps) (vals:=vals) (m:=m') h2;refine ⟨λi v hi hv=>?_,λhx'=>?_⟩
   . rw [e];cases i with
     | zero=>simp at hi hv;subst hi hv;rw [(ih _).2 h1,if_neg hx]; simp
     | succ i=>exact (ih _).1 i v (by simpa using hi) (by simpa using hv)
   . simp only [NN,not_or] at hx';rw [e,(ih _).2 hx'.2];split
     . rfl
     . show (if x=p then some w else m x)=m x;rw [if_neg hx'.1]
variable {fd:FuncData} {slots:List (Str×Nat)} {ps:List Str} {xs:List V} {vs vals:List Value} {p:Prog} {v v':V}
theorem VRels.get (r:VRels β σ h vs xs) {x:V} (e:xs[i]?=some x):∃ v,vs[i]?=some v/\aw β σ h v x:=by
 induction r generalizing i with
 | nil=>cases (e)
 | cons r rs ih=>
   cases i with
   | zero=>cases e; exact ⟨_,rfl,r⟩
   | succ i=>exact ih e
theorem js {np ns:Nat} (h:oh names slots ps np ns=true) :
   A5 (∀ x i,slots.lookup x=some i->(names.lookup x=some .local\/names.lookup x=some .cell)/\bP x=true) (slots.map (·.2)).Nodup (ps.length=np) (∀ i x,ps[i]?=some x->slots.lookup x=some i) (np<=ns):=by
 obtain ⟨h1,h2,h3,h4,h5,h6⟩:=JI h;refine ⟨λx i hx=>?_,of_decide_eq_true h2,of_decide_eq_true h3,λi x hx=>of_decide_eq_true (Oz.mp h4 (x,i) (List.mem_zipIdx_iff_getElem?.mpr hx)),of_decide_eq_true h5⟩;have q:=NH.mp (Oz.mp h1 (x,i) (mem_of_lookup hx));exact ⟨(Od.mp q.1).imp of_decide_eq_true of_decide_eq_true,q.2⟩
theorem uZ (h:∀ i x,ps[i]?=some x->slots.lookup x=some i):ps.Nodup:=by unfold List.Nodup;rw [List.pairwise_iff_getElem];intro i j hi hj hij e;have h1:=h i _ (NC hi);have h2:=h j _ (NC hj);rw [e,h2] at h1;exact OI hij (Option.some.inj h1).symm
noncomputable abbrev Cx.at (Z:Cx) (l:List Addr):Cx:={ Z with fr:=l }
theorem Inv.fr (l:List Addr) (I:Inv Z β σ h):Inv (Z.at l) β σ h:=⟨I.len,I.nodup,I.base,I.fresh,λk a c h1 h2=>by have:=I.cell k a c h1 h2;cases c <;> exact this⟩
theorem A0 (hs:oh fd.scope.names fn.slots ps fn.np fn.ns=true) (hk:fd.scope.kind=.function) (hg:fd.globals=mainGlobals) (hb:fd.builtins=builtinsNs)
   (Fs:ey Z β s.heap) (I:Inv Z β σ s.heap) (r:VRels β σ s.heap vals xs) (hl:xs.length=fn.np)
   (x:InCallC s (callEnvC fd s.heap.objs.size a).locals (bindL (callEnvC fd s.heap.objs.size a).kindOf (ps.zip vals) λ_=>none) (callEnvC fd s.heap.objs.size a).cells (bindC (callEnvC fd s.heap.objs.size a).kindOf (ps.zip vals) λ_=>none) ai) :
   A4 (FrameOk (Z.at (s.heap.objs.size::Z.fr)) (callEnvC fd s.heap.objs.size a) fd.scope.names fn.slots (xs++List.replicate (fn.ns - fn.np) .un) β σ ai.heap) (Step (own (callEnvC fd s.heap.objs.size a)) β σ s β σ ai) (Inv (Z.at (s.heap.objs.size::Z.fr)) β σ ai.heap) (∀ y,own (callEnvC fd s.heap.objs.size a) y->s.heap.get? y=none):=by
 refine kk λK k=>?_;obtain ⟨f1,f2,f3,f4,f5⟩:=js hs;have pn:=uZ f4;obtain ⟨h',tk,rfl,hkeep⟩:=x.done;refine k ?_;have S:Step (own (callEnvC fd s.heap.objs.size a)) β σ s β σ { s with heap:=h',toks:=tk }:=Step.grow hkeep rfl rfl;have Sn:Step bV β σ s β σ { s with heap:=h',toks:=tk }:=Step.grow hkeep rfl rfl;have fresh:∀ y,own (callEnvC fd s.heap.objs.size a) y->s.heap.get? y=none:=λy hy=>by
   rcases hy with rfl | ⟨n,hn⟩
   . exact fm x.toInCall.fresh
   . exact fm (OU (Oc x.toInCall.fresh (x.above n y (mem_of_lookup hn))))
 have argAt:∀ {x:Str} {i:Nat} {v:V},fn.slots.lookup x=some i->(xs++List.replicate (fn.ns - fn.np) .un)[i]?=some v->v≠.un->ps[i]?=some x/\∃ w,vals[i]?=some w/\aw β σ h' w v:=by
   intro x i v hx hv hu;have hi:i < fn.np:=by
     rcases QN i fn.np with q | q
     . exact q
     . rw [N6 (by rw [hl]; exact q)] at hv;have:=NI hv;rw [PZ] at this;exact absurd this.2 hu
   rw [N4 (by rw [hl]; exact hi)] at hv;obtain ⟨w,h1,h2⟩:=r.get hv;have hp:i < ps.length:=by rw [f3]; exact hi
   have h3:=f4 i _ (NC hp);have h4:=j3 f2 hx h3;exact ⟨by rw [NC hp,h4],w,h1,Sn.vrel0 h2⟩
 refine ⟨⟨hk,hg,hb,λy k hy=>.inl hy,λy i hy=>?_,λy z i hy hz=>j3 f2 hy hz,⟨_,x.toInCall.ns,λy i hy hl v hv hu=>?_⟩,λy c hc=>⟨_,x.cell y c hc,λi hy hk' v hv hu=>?_⟩,λy hy=>?_,λy z c hy hz=>name_of_addr x.apart (mem_of_lookup hy) (mem_of_lookup hz),λy hy=>?_,λf hf=>?_⟩,S,(I.grow hkeep).fr _,fresh⟩
 . obtain ⟨h1,h2⟩:=f1 y i hy;refine ⟨?_,(cA h2).2⟩;rcases h1 with h1 | h1
   . exact .inl h1
   . exact .inr ⟨.inl h1,Ox.mp (eV (.inl (mem_of_lookup h1)))⟩
 . obtain ⟨h1,w,h2,h3⟩:=argAt hy hv hu;exact ⟨w,(wz hl pn).1 i w h1 h2,h3⟩
 . obtain ⟨h1,w,h2,h3⟩:=argAt hy hv hu;exact ⟨w,(wA (by rcases hk' with q | q <;> rw [q] <;> simp) pn).1 i w h1 h2,h3⟩
 . refine ⟨I.notMem (fresh y hy),?_⟩;cases q:Z.h₀.get? y with
   | none=>rfl
   | some o=>have:=I.base y o q; rw [fresh y hy] at this; cases this
 . exact Pa _ (x.above y _ (mem_of_lookup hy))
 . rcases NN.mp hf with rfl | hf
   . have q:s.heap.get? s.heap.objs.size=none:=fresh _ (.inl rfl);obtain ⟨o,es,ep,ho,hd,_⟩:=x.toInCall.ns;refine ⟨⟨o,ho,es,ep,hd⟩,I.notMem q,?_⟩;cases z:Z.h₀.get? s.heap.objs.size with
     | none=>rfl
     | some o=>have:=I.base _ o z; rw [q] at this; cases this
   . obtain ⟨⟨o,e,q⟩,r⟩:=Fs f hf;exact ⟨⟨o,hkeep f o e,q⟩,r⟩
theorem ny {Q:V->ac->Prop} {c:V} (h:lP n v σ=.ok c σ') (h1:∀ x,v=.d x->Q (.d x) (σ.take n)) (h2:∀ k,v=.loc k->k < n->Q (.loc k) (σ.take n)) (h3:∀ k c',v=.loc k->¬ k < n->σ[k]?=some c'->Q (.loc n) (σ.take n++[c'])):Q c σ':=by
 cases v with
 | d x=>cases h; exact h1 x rfl
 | loc k=>
   have h:(if k < n then Res.ok (V.loc k) (σ.take n) else match σ[k]? with | some (.lst l)=>.ok (.loc n) (σ.take n++[.lst l]) | some (.dct l)=>.ok (.loc n) (σ.take n++[.dct l]) | _=>.bad)=.ok c σ':=h;by_cases hk:k < n
   . rw [if_pos hk] at h; cases h; exact h2 k rfl hk
   . rw [if_neg hk] at h;cases hc:σ[k]? with
     | none=>rw [hc] at h; cases h
     | some c'=>
       rw [hc] at h;cases c' with
       | lst l=>cases h; exact h3 k _ rfl hk hc
       | dct l=>cases h; exact h3 k _ rfl hk hc
       | _=>cases h
 | _=>cases h
theorem qh {w:Value} (S:Step O β σ s ah aa ai) (I:Inv Z β σ s.heap) (al:Inv Z ah aa ai.heap) (r:aw ah aa ai.heap w v) (h:lP σ.length v aa=.ok v' σ'):Po Z O β σ s σ' ai λβ'=>aw β' σ' ai.heap w v':=by
 have hl:=I.len;apply ny h
 . intro x e; rw [e] at r;exact ⟨_,S.take hl al.len,al.take _,EN r⟩
 . intro k e hk; rw [e] at r;obtain ⟨a,hb,ew⟩:=r;exact ⟨_,S.take hl al.len,al.take _,a,by rw [OW,if_pos hk]; exact hb,ew⟩
 . intro k c' e hk hc; rw [e] at r;obtain ⟨a,hb,ew⟩:=r;have hlen:(ah.take σ.length).length=σ.length:=by obtain ⟨e,q,_⟩:=S.ext;rw [q,Pz,ND]; exact Pj (by rw [<- hl]; exact NZ _ _)
   have E:=Gg S hl al (OE hk) hb hc;exact ⟨_,E.1,E.2,a,by rw [N6 (OH hlen),hlen]; simp,ew⟩
theorem qi {c:V} (h:lP n v σ=.ok c σ'):nQ c=none:=
 ny (Q:=λc _=>nQ c=none) h (λ_ _=>rfl) (λ_ _ _=>rfl) λ_ _ _ _ _=>rfl
structure Static (Z:Cx) (p:Prog) (gn:Nat->Str):Prop where
 w:World0 Z
 y:uA Z
 b:BiOk Z
 g:∀ k x,p.G k=some x->∃ v,Z.mg (gn k)=some v/\∀ T h,Rel T h v x
 f:∀ i fn,p.P i=some fn->fn.ctor=false->FnOk Z p.P gn fn
 x:XOk Z
 k:∀ i fn,p.P i=some fn->fn.name=("_law_kind":Str)->FnOk Z (λ_=>none) gn fn
 km:∀ i fn,p.P i=some fn->fn.name=("_law_kind":Str)->fn.meth=false
noncomputable abbrev Cx.of (Z:Cx) (l:List Addr) (q:Bool):Cx:={ Z with fr:=l,q:=q }
theorem Inv.of (l:List Addr) (q:Bool) (I:Inv Z β σ h):Inv (Z.of l q) β σ h:=⟨I.len,I.nodup,I.base,I.fresh,λk a c h1 h2=>by have:=I.cell k a c h1 h2;cases c <;> exact this⟩
theorem Inv.ofBack {l:List Addr} {q:Bool} (I:Inv (Z.of l q) β σ h):Inv Z β σ h:=⟨I.len,I.nodup,I.base,I.fresh,λk a c h1 h2=>by have:=I.cell k a c h1 h2;cases c <;> exact this⟩
theorem FnX.of (h:FnX Z P gn fn) (l:List Addr) (q:Bool):FnX (Z.of l q) P gn fn:=by
 cases h with
 | mk a o fd body ps h1 h2 h2' h3 h4 h5 h6 h7 h8 h9 h10 h11 h12 h13 h14=>exact .mk a o fd body ps h1 h2 h2' h3 h4 h5 h6 h7 h8 h9 h10 h11 h12 h13 h14
theorem Static.of (T:Static Z p gn) (l:List Addr) (q:Bool):Static (Z.of l q) p gn:=
 ⟨{ T.w with },T.y,{ T.b with },T.g,λi fn h hc=>⟨(T.f i fn h hc).ex.of _ _,(T.f i fn h hc).noC⟩,{ T.x with }
 ,(λi fn h h'=>⟨(T.k i fn h h').ex.of _ _,(T.k i fn h h').noC⟩),T.km
 ⟩
set_option tactic.hygienic true in
theorem Di {f:Nat} {q:Bool} (T:Static Z p gn) (hf:p.P f=some fn) (Fn:FnOk Z P gn fn) (ih:∀ l,Wd (Z.of l q) P gn p.G (ae p d) d) :
   X3 λa o fd=>A4 (fnAt Z fn=some (.ref a)) ((Z.h₀.get? a=some o/\(fn.meth=true->o.cls=.type "function"))) (o.data=.func fd) (∀ A β σ s vs xs,jR (Z.of Z.fr q) (d+1) A->ey Z β s.heap->Inv Z β σ s.heap->VRels β σ s.heap vs xs->Et Z A (call (.ref a) vs) (ae p (d+1) f xs σ) β σ s):=by
 obtain ⟨a,o,fd,body,ps,h1,h2,h2',h3,h4,h5,h6,h7,h8,h9,h10,h11,h12,h13,h14⟩:=Fn.ex;refine ⟨a,o,fd,h1,⟨h2,h2'⟩,h3,λA β σ s vs xs hA Fs I r c σ' ev=>?_⟩;have ev:(match p.P f with | none=>Res.bad | some fn=>if fn.ctor then zv p d fn xs σ else if xs.length=fn.np then (execs p.G (ae p d) fn.body (xs++List.replicate (fn.ns - fn.np) V.un) σ).bind λo aa=>nz σ.length o aa else .bad)=.ok c σ':=ev;rw [hf] at ev;dsimp only at ev;rw [if_neg (by rw [Fn.noC]; exact NY)] at ev;split at ev
 . rename_i hl;obtain ⟨out,aa,e1,e2⟩:=Res.bind_ok ev;obtain ⟨f1,f2,f3,f4,f5⟩:=js h13;have hvl:vs.length=ps.length:=by rw [fH r,hl,f3]
   obtain ⟨k1,k2,k3⟩:=T.w.keeps I;have hcode:s.heap.CodeRec fd.code fd.qualname:=h6.keeps I.base;refine wpAny_call (codeAny_call_cells (Oc (iv (NZ _ (d+1)) (NZ _ 2)) hA.2.1) (I.base a o h2) h3 k3 hcode h4 (h12 vs hvl) h5 (λy hy=>?_) (λai x=>?_) h10 h11 h9)
   . obtain ⟨i,hi⟩:=Qi (QO hy).1;rcases (f1 _ i (f4 i _ hi)).1 with q | q
     . exact .inl q
     . exact .inr ⟨q,eV (.inl (mem_of_lookup q))⟩
   . obtain ⟨Fr,S,al,fresh⟩:=A0 (Z:=Z.of Z.fr q) h13 h9 h7 h8 Fs (I.of Z.fr q) r hl x;have hA2:=hA.deeper (callEnvC fd s.heap.objs.size a) rfl h9;obtain ⟨_,_,_,l0,hl0,_⟩:=hA;have hfr:=Around.frames_deeper (env:=callEnvC fd s.heap.objs.size a) hl0;refine NM (Ap (ih (s.heap.objs.size::Z.fr)) fn.body _ _ body _ _ _ β σ ai h14 hA2 Fr al ⟨_,_,hfr,rfl⟩ out aa e1) (λfl aj ⟨aL,bY,bQ,q⟩=>?_) λv aj ⟨k,ds,q,fq⟩=>?_
     . have S':=(S.trans bY).drop fresh;have bQ:=bQ.ofBack;cases out with
       | next ρ'=>obtain ⟨rfl,_⟩:=q;have e2:lP σ.length (.d .none) aa=.ok c σ':=e2;exact ⟨qi e2,qh S' I bQ (v:=.d .none) .none e2⟩
       | ret v=>obtain ⟨w,rfl,q⟩:=q;have e2:lP σ.length v aa=.ok c σ':=e2;exact ⟨qi e2,qh S' I bQ q e2⟩
       | exc k ds=>exact q.elim
     . subst q;have e2:Res.ok (V.exc k ds) (aa.take σ.length)=.ok c σ':=e2;cases e2;refine fq.elim λaL e hv q=>wE.elim ⟨_,_,hfr,rfl⟩ hA2 λouter L hfr' hfL hfm hfx=>q.fl.elim λoe vs' he hc hd hL hT=>?_;subst hv;refine vv hfr' (q.frames hfx) hfL he hd hL λmy N=>?_;have uY:=q.noted (L':=none) Fr.frs al (.inl rfl) (λf' hf=>hfm ▸ hf) he hc hd hL hT N;exact ⟨k,ds,rfl,aL.take σ.length,e,rfl,((S.trans uY.st).drop fresh).take I.len uY.inv.len,uY.inv.ofBack.take _,λm=>uY.nb (Oi m),uY.fl.back S.alive,trivial,λz=>(uY.xd z).same S.alive (λ_=>Oi) λ_=>l4⟩
 . cases ev
theorem B1 (T:Static Z p gn):Wd Z (λ_=>none) gn p.G cf d:=⟨T.w,T.y,T.b,T.g,(λf fn hf=>by cases hf),(λh=>by cases h)
 ,T.x,λf fn hf=>by cases hf⟩
theorem yT (h:(fn.meth||fn.ctor)=false):fn.meth=false/\fn.ctor=false:=Qk.mp h
theorem pZ (h:fn.meth=false):fnAt Z fn=Z.mg fn.name:=if_neg (by rw [h]; exact NY)
theorem ED (p:Prog) (gn:Nat->Str) (Z:Cx) (T:Static Z p gn) (hz:Z.q=false) (hcf:∀ f xs σ,cf f xs σ=.bad):Wd Z p.P gn p.G cf 0:=⟨T.w,T.y,T.b,T.g,λf fn hf hn=>by
   obtain ⟨a,o,fd,body,ps,h1,h2,h2',h3,_⟩:=(T.f f fn hf (yT hn).2).ex;exact ⟨a,o,fd,(pZ (yT hn).1).symm.trans h1,h2,h3,λA β σ s vs xs _ _ _ _=>by rw [hcf]; exact Et.bad⟩,λ_=>hz
   ,T.x
   ,λf fn hf hn=>by
   obtain ⟨a,o,fd,body,ps,h1,h2,h2',h3,_⟩:=(T.k f fn hf hn).ex;exact ⟨a,o,fd,(pZ (T.km f fn hf hn)).symm.trans h1,h2,h3,λA β σ s vs xs _ _ _ _=>by rw [hcf]; exact Et.bad⟩
   ⟩
theorem uE (p:Prog) (gn:Nat->Str):∀ (d:Nat) (Z:Cx) (T:Static Z p gn) (hz:Z.q=false),Wd Z p.P gn p.G (ae p d) d
 | 0=>@λZ T hz=>ED p gn Z T hz λ_ _ _=>rfl
 | d+1=>@λZ T hz=>⟨T.w,T.y,T.b,T.g,λf fn hf hn=>by
     obtain ⟨a,o,fd,h1,h2,h3,h4⟩:=Di (q:=Z.q) T hf (T.f f fn hf (yT hn).2) λl=>uE p gn d (Z.of l Z.q) (T.of _ _) hz;exact ⟨a,o,fd,(pZ (yT hn).1).symm.trans h1,h2.1,h3,h4⟩,λ_=>hz
     ,T.x
     ,λf fn hf hn=>by
     obtain ⟨a,o,fd,h1,h2,h3,h4⟩:=Di (q:=true) T hf (T.k f fn hf hn) λl=>B1 (T.of l true);exact ⟨a,o,fd,(pZ (T.km f fn hf hn)).symm.trans h1,h2.1,h3,h4⟩
     ⟩
theorem vL {f g:α->Option γ}:∀ {l:List α},(∀ n∈l,f n=g n)->l.filterMap f=l.filterMap g
 | []=>@λ_=>rfl
 | a::l=>@λh=>by rw [Ph,Ph,h a (NE ..),vL λn hn=>h n (NA _ hn)]
set_option tactic.hygienic true in
theorem oF:∀ {ps:List Str} {vals:List Value},ps.Nodup->vals.length=ps.length->(∀ n∈ps,((ps.zip vals).lookup n).isSome=true)/\(ps.filterMap λn=>((ps.zip vals).lookup n).map (n,·))=ps.zip vals
 | [],[]=>@λ_ _=>⟨(λn h=>by cases h),rfl⟩
 | [],_::_=>@λ_ h=>by simp at h
 | _::_,[]=>@λ_ h=>by simp at h
 | p::ps,v::vals=>@λhn hl=>by
   obtain ⟨h1,h2⟩:=O5.mp hn;have ih:=oF h2 (by simpa using hl);refine ⟨λn hm=>?_,?_⟩
   . rw [List.zip_cons_cons,NW];split
     . rfl
     . rename_i hne;rcases NN.mp hm with rfl | hm
       . simp at hne
       . exact ih.1 n hm
   . rw [List.zip_cons_cons,Ph,NW];simp only [beq_self_eq_true,Option.map_some];rw [vL (g:=λn=>((ps.zip vals).lookup n).map (n,·)) λn hm=>?_,ih.2];rw [NW];have:(n==p)=false:=by
       simp only [beq_eq_false_iff_ne]
       rintro rfl; exact h1 hm
     rw [this]
variable {as:List Arg}
theorem qF {qual:Str} {pm code doc:Value} (hn:(as.map (·.arg)).Nodup) (hl:vals.length=(as.map (·.arg)).length) :
   bindArgs (PyProof.Rows.methDef name qual ⟨[],as,none,[],[],none,[]⟩ body scope pm code doc) ⟨vals,[]⟩=pure ((as.map (·.arg)).zip vals):=by
 obtain ⟨z1,z2⟩:=oF hn hl;refine Eq.trans (b:=if (decide (vals.length > (as.map Arg.arg).length)&&true)=true then _ else _) rfl ((if_neg (by rw [hl]; simp)).trans ?_);refine Eq.trans (b:=if (!(List.filter (λn=>(List.lookup n ((as.map Arg.arg).zip vals)).isNone) (List.take ((as.map Arg.arg).length - (List.drop (0 - (as.map Arg.arg).length) ([]:List Value)).length) (as.map Arg.arg))).isEmpty)=true then _ else _) rfl ((if_neg ?_).trans ?_)
 . rw [QI.mpr λn hn=>?_]
   . simp
   . rw [Ou,<- Option.not_isSome_iff_eq_none];exact not_not_intro (z1 n (Oi hn))
 . show (forIn (List.zip (List.drop _ (as.map Arg.arg)) (List.drop (0 - (as.map Arg.arg).length) ([]:List Value))) ((as.map Arg.arg).zip vals) _ >>= λ_=>_)=_;rw [List.drop_nil,List.zip_nil_right];show (pure (List.filterMap _ (as.map Arg.arg++[])):Sem _)=_;rw [NX];exact congrArg pure z2
theorem u6 {a:Arguments} (h:jx a=true):a=⟨[],a.args,none,[],[],none,[]⟩:=by obtain ⟨p,as,v,k,kd,kw,d⟩:=a;obtain ⟨h1,h2,h3,h4,h5,h6⟩:=JI h;rw [show p=[] from PA.mp h1,show v=none from Ou.mp h2,show k=[] from PA.mp h3,show kd=[] from PA.mp h4,show kw=none from Ou.mp h5,show d=[] from PA.mp h6]
noncomputable def cI (rs:List DefRec) (P:Nat->Option Fn) (gn:Nat->Str) (fn:Fn):Bool:=ob (rs.find? λr=>decide (r.name=fn.name)) λr=>jx r.params&&decide (r.scope.kind=.function)&&!r.scope.isCoroutine&&!r.scope.isGenerator&&oh r.scope.names fn.slots (r.params.args.map (·.arg)) fn.np fn.ns&&En P gn r.scope.names fn.slots fn.body r.body&&!fn.ctor&&!fn.meth
variable {view:Program}
theorem zm (TA:∀ e:PyProof.Rows.DefItem,e∈List.map PySem.W.itemOf (PyProof.Rows.recsOf view)->e.params.defaults=[]->e.At Z.mg Z.h₀)
   (h:cI (PyProof.Rows.recsOf view) P gn fn=true):FnOk Z P gn fn:=by
 replace h:=ao h; obtain ⟨r,hr,h⟩:=h
 . skip
   obtain ⟨h1,h2,h3,h4,h5,h6,h7,h8⟩:=ME h;replace h2:=of_decide_eq_true h2;replace h3:=vd h3;replace h4:=vd h4;replace h7:=vd h7;replace h8:=vd h8;have hm:=List.mem_of_find?_eq_some hr;have hn:r.name=fn.name:=by simpa using List.find?_some hr
   have hp:=u6 h1;obtain ⟨a,c,P',o,pm,doc,q1,q2,q3,q4,_⟩:=TA (PySem.W.itemOf r) (Ok.mpr ⟨r,hm,rfl⟩) (by show r.params.defaults=[]; rw [hp]);obtain ⟨f1,f2,f3,f4,f5⟩:=js h5;refine ⟨⟨a,o,_,r.body,r.params.args.map (·.arg),(pZ h8).trans (hn ▸ q1),q2,(λz=>by rw [h8] at z; cases z),q3,rfl,rfl,q4,rfl,rfl,h2,h3,h4,λvals hl=>?_,h5,h6⟩,h7⟩;show bindArgs (docDef r.name r.params r.body r.scope pm (.ref c) doc) ⟨vals,[]⟩=_;rw [hp];exact qF (qual:=r.name) (uZ f4) hl
variable {rs:List DefRec}
theorem uh (h:cI rs P gn fn=true):fn.meth=false:=by
 replace h:=ao h; obtain ⟨r,hr,h⟩:=h
 . simp only [NO,Oo] at h;exact h.2
noncomputable def ou:List Str:=["len","list","dict","int","max","tuple","sorted","set","any","all","isinstance","bool","str","range","enumerate","zip"]
noncomputable def sv (names:List Str):Bool:=ou.all λx=>!names.contains x&&!PySem.bootMainNames.contains x
theorem JA (b:Bi):qG b∈ou:=by cases b <;> first | decide | exact (by decide:("isinstance":Str)∈ou)
theorem LE (b:Bi):qG b≠"__name__":=by cases b <;> first | decide | exact (by decide:("isinstance":Str)≠"__name__")
variable {consts:List (Str×PyData)} {names:List Str} {mg mb mn:Str->Option Value}
theorem static_of {prog:Program} {xG:List Fn}
   (GL:PyProof.Rows.Glob 0 mg mb (List.map PySem.W.itemOf (PyProof.Rows.recsOf view)) consts [] names ai.heap)
   (TA:∀ e:PyProof.Rows.DefItem,e∈List.map PySem.W.itemOf (PyProof.Rows.recsOf view)->e.params.defaults=[]->e.At mg ai.heap)
   (hchk:(xG.all λfn=>cI (PyProof.Rows.recsOf view) p.P gn fn)=true)
   (hP:p.P=λn=>xG[n]?) (hfree:sv names=true)
   (hg:∀ k x,p.G k=some x->∃ v,mg (gn k)=some v/\∀ T h,Rel T h v x)
   (hkd:(xG.all λfn=>!decide (fn.name=("_law_kind":Str))||cI (PyProof.Rows.recsOf view) (λ_=>none) gn fn)=true)
   (X:XOk ⟨prog,w,ai.heap,mg,mb,[],false,mn⟩):Static ⟨prog,w,ai.heap,mg,mb,[],false,mn⟩ p gn:=by
 have fr:∀ x∈ou,mg x=none:=λx hx=>by have:=Oz.mp hfree x hx;simp only [NO,Oo,QW,decide_eq_false_iff_not] at this;exact GL.free x this.1 this.2
 have bt:∀ x:Str,x≠"__name__"->mb x=bootBuiltins x:=GL.builtins;refine ⟨⟨GL.g,GL.b,GL.nolimit⟩,?_,⟨λb=>⟨?_,λhb=>?_⟩,λt=>⟨?_,?_⟩,⟨fr _ (by decide),?_⟩
   ,⟨fr _ (by decide),?_⟩
   ,⟨fr _ (by decide),?_⟩
   ⟩,hg,λi fn hf hc=>?_,X
   ,λi fn hf hn=>?_,λi fn hf hn=>?_
   ⟩
 . obtain ⟨mm,⟨o,es,ep,e,_⟩,_⟩:=GL.seer.mods;exact ⟨o,e⟩
 . exact fr _ (JA b)
 . show mb (qG b)=_;rw [bt _ (LE b)];cases b <;> first | rfl | (exfalso; rcases hb with hb | ⟨t,hb⟩ <;> cases hb)
 . exact fr _ (by cases t <;> decide)
 . show mb (rI t)=_;rw [bt _ (by cases t <;> decide)];cases t <;> rfl
 . show mb "range"=_;rw [bt _ (by decide)];rfl
 . show mb "enumerate"=_;rw [bt _ (by decide)];rfl
 . show mb "set"=_;rw [bt _ (by decide)];rfl
 . rw [hP] at hf;exact zm (Z:=⟨prog,w,ai.heap,mg,mb,[],false,mn⟩) TA (Oz.mp hchk fn (NI hf))
 . rw [hP] at hf;have:=Oz.mp hkd fn (NI hf);rw [decide_eq_true hn,PK,P1] at this;exact zm (Z:=⟨prog,w,ai.heap,mg,mb,[],false,mn⟩) TA this
 . rw [hP] at hf;have:=Oz.mp hkd fn (NI hf);rw [decide_eq_true hn,PK,P1] at this;exact uh this
variable {T:Addr->Prop} {Pm:Params}
theorem wT {l:List Int} (hT:¬ T a) (hl:l.length<=LIM) (hw:PySem.W.Well Pm h (.ref a) (PySem.W.ofPy (.list (l.map .int)))):Rel T h (.ref a) (.list (l.map .int)):=by
 have all:∀ {l:List Int} {vs:List Value},PySem.W.WellAll Pm h vs (PySem.W.ofPys (l.map .int))->RelAll T h vs (l.map .int):=by
   intro l
   induction l with
   | nil=>intro vs w; cases w; exact .nil
   | cons i l ih=>
     intro vs w;cases w with
     | cons w ws=>cases w;exact .cons (.int _ _) (ih ws)
 cases hw with
 | list e ws=>exact .list (n:=0) e hT (by simpa using hl) (by simpa using all ws)
theorem yj (hz:Z.fr=[]) (h:d<=600):jR Z d callerA:=⟨λ_=>rfl,by show 1+claimMargin+d+2 < recursionLimit; unfold claimMargin recursionLimit; omega,by show 4+8 * d+200 < cLine; unfold cLine; omega,[],rfl,by rw [hz]; rfl,λ_ h=>by cases h⟩
theorem run_law {prog:Program} {w:PySem.World} {fa:Addr} {l:List Int} (T:Static ⟨prog,w,ai.heap,mg,mb,[],false,mn⟩ p gn) (hf:p.P i=some fn) (hmc:(fn.meth||fn.ctor)=false) (hmg:mg fn.name=some (.ref fa))
   (hw:PySem.W.Well w.params ai.heap (.ref a) (PySem.W.ofPy (.list (l.map .int)))) (hl:l.length<=LIM) (hd:d<=600) (hrun:ae p d i [.d (.list (l.map .int))] []=.ok (.d (.bool true)) σ') {Q E:Value->Shared->Prop}
   (q:∀ s',(∀ b o,ai.heap.get? b=some o->s'.heap.get? b=some o)->s'.os=ai.os->s'.gens=ai.gens->Q (.bool true) s'):wpAny (model prog w) callerA (call (.ref fa) [.ref a]) Q E ai:=by
 obtain ⟨a',o,fd,h1,_,_,hc⟩:=(uE p gn d _ T rfl).c i fn hf hmc;have:a'=fa:=by have h1:mg fn.name=some (.ref a'):=h1;rw [hmg] at h1; cases h1; rfl
 subst this;have I:Inv ⟨prog,w,ai.heap,mg,mb,[],false,mn⟩ [] [] ai.heap:=⟨rfl,.nil,λ_ _ e=>e,(λ_ h=>by cases h),λk a c h=>by simp at h⟩
 have hr:VRels [] [] ai.heap [.ref a] [.d (.list (l.map .int))]:=.cons (wT (λ⟨k,c,h,_,_⟩=>by simp at h) hl hw) .nil;refine NM (hc callerA [] [] ai _ _ (yj rfl hd) (λ_ h=>by cases h) I hr _ _ hrun) (λv s' ⟨_,β',S,I',rv⟩=>?_) λ_ _ ⟨_,_,q,_⟩=>by cases q
 cases rv;exact q s' (λb o e=>I'.base b o e) S.os S.gens
noncomputable def vM:PyData->Bool
 | .int _=>true
 | .str y=>zf y
 | _=>false
variable {aX:Heap} {ds:List PyProof.Rows.DefItem}
theorem globs_of (GL:PyProof.Rows.Glob 0 mg mb ds consts [] names aX)
   (h:∀ k x,p.G k=some x->(gn k,x)∈consts/\vM x=true):∀ k x,p.G k=some x->∃ v,mg (gn k)=some v/\∀ T h,Rel T h v x:=λk x hk=>by
 obtain ⟨h1,h2⟩:=h k x hk;obtain ⟨v,q1,q2⟩:=GL.bound _ h1;refine ⟨v,q1,λT h=>?_⟩;have r:Reads h v x []:=q2 h;cases x with
 | int i=>cases r; exact .int _ _
 | str y=>cases r; exact .str _ _ (vF h2)
 | _=>cases h2
noncomputable def gnames:Nat->Str
 | 0=>"REST"
 | 1=>"LETTERS"
 | _=>"LONGEST"
theorem dE {a b:Bool} (h:(a&&b)=true):a=true/\b=true:=NH.mp h
variable {st:Stmt}
theorem vm {p f n:Str} (h:Cw p f n st=true):X4 λn1 n2 n3 n4=>st=.Assign [.Attribute (.Name p n1) f n2] (.Name n n3) n4:=by refine kk λK k=>?_;obtain ⟨⟨ts,v⟩,z1,h1⟩:=ao h;obtain ⟨t,z2,h2⟩:=ao h1;have h3:=dE h2;obtain ⟨n1,n2,u1⟩:=xt h3.1;obtain ⟨m,z3,h4⟩:=ao h3.2;obtain ⟨n3,u2⟩:=bH z3;obtain ⟨n4,u3⟩:=lB z1;refine k ?_;have u4:ts=[t]:=da z2;have u5:v=.Name m n3:=u2;exact ⟨n1,n2,n3,n4,by rw [u3,u4,u1,u5,of_decide_eq_true h4]⟩
variable {b:List Stmt}
theorem AF {f:FuncBody} (h:C2 f=some b):f=.stmts b:=by cases f <;> first | (cases h; rfl) | cases h
theorem Fp {a:Bool} (h:(!a)=true):a=false:=by cases a <;> first | rfl | cases h
theorem zT {l:List Str} {a b c:Str} (h:BC l=some (a,b,c)):l=[a,b,c]:=by
 match l,h with
 | [x,y,z],h=>cases h; rfl
theorem Lq (e0:fd.params=⟨[],as,none,[],[],none,[]⟩) (e1:fd.body=.stmts b) (e2:fd.globals=mainGlobals) (e3:fd.closure=[]) (e4:fd.defaults=.none) (e5:fd.kwdefaults=.none) (e6:fd.annotations=none) (e7:fd.closureTuple=.none) (e8:fd.builtins=builtinsNs) :
   fd=PyProof.Rows.methDef fd.name fd.qualname ⟨[],as,none,[],[],none,[]⟩ b fd.scope fd.pyModule fd.code fd.doc:=
 congr (congr (congr (congr (congr (congr (congr (congr (congrArg (λp b g c d k a t u=>FuncData.mk fd.name fd.qualname p b fd.scope g c d k fd.doc fd.pyModule a fd.code t u) e0) e1) e2) e3) e4) e5) e6) e7) e8
theorem IO (w:p1≠p0/\p2≠p0/\p2≠p1):[p0,p1,p2].Nodup:=
 O5.mpr ⟨λz=>(NN.mp z).elim (λz=>w.1 z.symm) λz=>w.2.1 (NL.mp z).symm,O5.mpr ⟨λz=>w.2.2 (NL.mp z).symm,O5.mpr ⟨Oy,PN⟩⟩⟩
theorem LD {as:List Arg} (e:fd=PyProof.Rows.methDef fd.name fd.qualname ⟨[],as,none,[],[],none,[]⟩ b fd.scope fd.pyModule fd.code fd.doc) (w4:as.map (·.arg)=[p0,p1,p2]) (w6:p1≠p0/\p2≠p0/\p2≠p1) (u v w:Value):bindArgs fd ⟨[u,v,w],[]⟩=pure [(p0,u),(p1,v),(p2,w)]:=by have:=qF (name:=fd.name) (qual:=fd.qualname) (as:=as) (body:=b) (scope:=fd.scope) (pm:=fd.pyModule) (code:=fd.code) (doc:=fd.doc) (vals:=[u,v,w]) (w4 ▸ IO w6) (by rw [w4]; rfl);rw [w4,<- e] at this;exact this
theorem I9 (h:M6 fd p0 p1 p2 b=true):X8 λn1 n2 n3 n4 n5 n6 n7 n8=>b=[.Assign [.Attribute (.Name p0 n1) jf n2] (.Name p1 n3) n4,.Assign [.Attribute (.Name p0 n5) cS n6] (.Name p2 n7) n8]:=by refine kk λK k=>?_;obtain ⟨q,z1,h1⟩:=ao h;have h2:=dE h1;obtain ⟨n1,n2,n3,n4,u3⟩:=vm h2.1;obtain ⟨n5,n6,n7,n8,u4⟩:=vm h2.2;refine k ?_;exact ⟨n1,n2,n3,n4,n5,n6,n7,n8,by rw [iD z1,u3,u4]⟩
variable {ns:Addr} {o:Obj}
theorem FM (h1:h.nsMap ns "__init__"=some (.ref a)) (h2:h.get? a=some o) (x0:o.cls=.type "function") (h3:o.data=.func fd) (x:M5 h fd=true):InitX h (h.nsMap ns):=by have x1:=dE x;have x2:=dE x1.2;refine kk λK k=>?_;obtain ⟨b,z1,y1⟩:=ao x2.2;obtain ⟨⟨p0,p1,p2⟩,z2,y2⟩:=ao y1;have y3:=dE y2;obtain ⟨n1,n2,n3,n4,n5,n6,n7,n8,hb⟩:=I9 y3.1;refine k ?_;have w:=dE y3.2;have s1:=dE x2.1;have s2:=dE s1.2;have s3:=dE s2.2;have s4:=dE s3.2;have s5:=dE s4.2;have s6:=dE s5.2;have s7:=dE s6.2;have s8:=dE s7.2;have s9:=dE s8.2;have s10:=dE s9.2;have eb:=AF z1;exact ⟨a,o,fd,p0,p1,p2,n1,n2,n3,n4,n5,n6,n7,n8,h1,h2,x0,h3,eb.trans (congrArg FuncBody.stmts hb),fC s2.1,.of_ok s8.1,⟨of_decide_eq_true s9.1,Fp s10.1,Fp s10.2⟩,LD (Lq (u6 x1.1) eb (of_decide_eq_true s1.1) (fC s2.1) (of_decide_eq_true s3.1) (of_decide_eq_true s4.1) (Ou.mp s5.1) (of_decide_eq_true s6.1) (of_decide_eq_true s7.1)) (zT z2) (of_decide_eq_true w.2),λp hp=>⟨of_decide_eq_true (dE (Oz.mp w.1 p hp)).1,(dE (Oz.mp w.1 p hp)).2⟩,of_decide_eq_true w.2⟩
theorem FK (x:I8 h ns=true):InitX h (h.nsMap ns):=by
 unfold I8 at x;cases hf:h.fnAt ns "__init__" with
 | none=>rw [hf] at x; cases x
 | some y=>refine kk λK k=>?_;obtain ⟨a,o,fd⟩:=y;rw [hf] at x;obtain ⟨h1,h2,h3⟩:=Heap.fnAt_spec hf;refine k ?_;exact FM h1 h2 (of_decide_eq_true (dE x).1) h3 (dE x).2
noncomputable def XF (mg:Str->Option Value) (h:Heap):Prop:=∀ k,k<=6->mg (kS k)=some (.ref (KA k))/\XAt h k
variable {cd:ClassData}
theorem Hy (ho:h.get? (KA k)=some o) (hd:o.data=.cls cd) (h1:o.cls=.type "type") (h2:cd.mro=.ref (KA k)::cL k) (h3:cd.hasDel=false) (h4:o.slots.size=6) (h5:o.slots[4]?=some (some (.builtin "ValueError.__new__"))) (h6:h.isNs cd.ns=true) (h7:∀ n∈c7,h.nsMap cd.ns n=none) (h8:k<=5->h.nsMap cd.ns "__init__"=none) (h9:k=6->cd.hasDict=true/\InitX h (h.nsMap cd.ns)):XAt h k:=by obtain ⟨oc,dd,dt,sl⟩:=o;obtain ⟨nm,bs,mro,N,q,hdct,sn,sub,ab,col,hdel⟩:=cd;obtain ⟨l⟩:=sl;obtain ⟨k0,k1,k2,k3,k5,rfl⟩:=six_places (l:=l) h4 (by simpa using h5);cases h1; cases hd; cases h3; cases h2;exact ⟨nm,q,N,bs,hdct,sn,sub,ab,col,dd,k0,k1,k2,k3,k5,h.nsMap N,ho,.of_isNs h6,h7,h8,h9⟩
theorem xf_of (x:xChk h=true):XF (h.nsMap mainGlobals) h:=λk hk=>by
 have x:=Oz.mp x k (O4.mpr (P9 hk));unfold GE at x;cases hc:h.clsAt mainGlobals (kS k) with
 | none=>rw [hc] at x; cases x
 | some y=>obtain ⟨a,o,cd⟩:=y;rw [hc] at x;obtain ⟨hn,ho,hd⟩:=Heap.clsAt_spec hc;have s9:=dE x;have s8:=dE s9.1;have s7:=dE s8.1;have s6:=dE s7.1;have s5:=dE s6.1;have s4:=dE s5.1;have s3:=dE s4.1;have s2:=dE s3.1;have s1:=dE s2.1;have e:a=KA k:=of_decide_eq_true s1.1;rw [e] at hn ho;exact ⟨hn,Hy ho hd (eq_of_beq s1.2) (eq_of_beq s2.2) (Fp s3.2) (eq_of_beq s4.2) (eq_of_beq s5.2) s6.2 (λn hn=>Ou.mp (Oz.mp s7.2 n hn)) (λh5=>(Od.mp s8.2).elim (λz=>absurd (of_decide_eq_true z) (λz=>by rw [z] at h5; exact absurd h5 (by decide))) Ou.mp) λh6=>(Od.mp s9.2).elim (λz=>absurd h6 (of_decide_eq_false (Fp z))) λz=>⟨(dE z).1,FK (dE z).2⟩⟩
theorem XF.keeps (x:XF mg h) (hk:∀ b o,h.get? b=some o->h'.get? b=some o):XF mg h':=λk hk6=>⟨(x k hk6).1,(x k hk6).2.keeps hk⟩
theorem JN:∀ i j,i<=6->j<=6->KA i=KA j->i=j:=by
 have:∀ i,i < 7->∀ j,j < 7->KA i=KA j->i=j:=by decide +kernel
 exact λi j hi hj=>this i (P9 hi) j (P9 hj)
theorem xok_of {prog:Program} (GL:PyProof.Rows.Glob 0 mg mb ds consts [] names ai.heap) (hve:(!names.contains ("ValueError":Str)&&!PySem.bootMainNames.contains "ValueError")=true) (X:XF mg ai.heap):XOk ⟨prog,w,ai.heap,mg,mb,[],false,mn⟩:=by
 refine ⟨λk hk=>⟨(X k hk).1,(X k hk).2⟩,JN,?_,?_⟩
 . simp only [NO,Oo,QW,decide_eq_false_iff_not] at hve;exact GL.free _ hve.1 hve.2
 . show mb "ValueError"=_;rw [GL.builtins _ (by decide)];rfl
namespace L09
noncomputable def bh:Str:=⟨#[110,97,109,101]⟩
noncomputable def ju:Str:=⟨#[110,117,109]⟩
noncomputable def ie:Str:=⟨#[115,101,116]⟩
noncomputable def wW:Str:=⟨#[116,101,108,108]⟩
noncomputable def jt:Str:=⟨#[119,104,101,110]⟩
noncomputable def bC:Str:=⟨#[99,97,108,108]⟩
noncomputable def du:Str:=⟨#[97,103,97,105,110]⟩
noncomputable def kI:Str:=⟨#[110,111,32,115,117,99,104,32,112,108,97,99,101]⟩
noncomputable def kW:Str:=⟨#[110,111,32,114,111,119,32,115,116,97,110,100,115,32,116,104,101,114,101]⟩
noncomputable def BQ:Str:=⟨#[110,111,32,99,97,108,108]⟩
noncomputable def aC:Str:=⟨#[97,98,99,100,101,102,103,104,105,106,107,108,109,110,111,112,113,114,115,116,117,118,119,120,121,122]⟩
noncomputable def uU:Str:=⟨#[115,117,109]⟩
noncomputable def tv:Str:=⟨#[108,101,115,115]⟩
noncomputable def oi:Str:=⟨#[116,105,109,101,115]⟩
noncomputable def Aa:Str:=⟨#[115,101,118,101,114,97,108]⟩
noncomputable def cj:Str:=⟨#[112,108,97,99,101]⟩
noncomputable def EV:Str:=⟨#[116,97,107,101,110]⟩
noncomputable def BO:Str:=⟨#[117,110,108,105,107,101]⟩
noncomputable def cE:Str:=⟨#[99,108,97,115,104]⟩
noncomputable def zx (a b:E):E:=.idx a b
noncomputable def aP:E:=.var 0
noncomputable def dq:E:=.int 0
noncomputable def aH (s:Str):E:=.str s
noncomputable def cB (a b:E):E:=.cmp .eq a b
noncomputable def bk:E:=.int 1
noncomputable def aY:E:=.var 1
noncomputable def iC (a b:E):E:=.cmp .notIn a b
noncomputable def aO (a:E):EL:=.cons a .nil
noncomputable def bn (a:S):SL:=.cons a .nil
noncomputable def cg (c:E) (l:SL):S:=.ite c l .nil
noncomputable def yp (a b:E):E:=.cmp .ne a b
noncomputable def zc (f:Nat) (l:EL):E:=.call f l
noncomputable def aE (a b:E):EL:=.cons a (.cons b .nil)
noncomputable def cw:E:=.int 2
noncomputable def qT (a b:S):SL:=.cons a (.cons b .nil)
noncomputable def am (k:Nat) (e:E):S:=.asg (.var k) e
noncomputable def zr (e:E):S:=.ret e
noncomputable def qP (a b c:S):SL:=.cons a (.cons b (.cons c .nil))
noncomputable def oA (l:EL):E:=.bop false l
noncomputable def hJ:E:=.int 3
noncomputable def GB (a b c d:S):SL:=.cons a (.cons b (.cons c (.cons d .nil)))
noncomputable def bS:E:=.var 3
noncomputable def a9:E:=.var 2
noncomputable def fu (k:Nat) (i:It) (l:SL):S:=.forr (.var k) i l
noncomputable def zt (l:EL):E:=.tup l
noncomputable def bR:E:=.var 4
noncomputable def jS (a:E):E:=.cmp .isNotN a .none
noncomputable def d8 (l:EL):E:=.bop true l
noncomputable def El (a b:E):E:=.cmp .gt a b
noncomputable def cT:E:=.var 5
noncomputable def Hu (a b:E):E:=.cmp .lt a b
noncomputable def Hx (k f:Nat) (l:EL):S:=.calls (.var k) f l
noncomputable def ji:E:=.var 6
noncomputable def Eg:E:=.var 9
noncomputable def lm:E:=.var 7
noncomputable def qO:E:=.var 8
noncomputable def Eu (a b c d e:S):SL:=.cons a (.cons b (.cons c (.cons d (.cons e .nil))))
noncomputable def LU (a b c d e f:S):SL:=.cons a (.cons b (.cons c (.cons d (.cons e (.cons f .nil)))))
noncomputable def qQ (a b c d:E):EL:=.cons a (.cons b (.cons c (.cons d .nil)))
noncomputable def hX (a b c:E):EL:=.cons a (.cons b (.cons c .nil))
noncomputable def kH (a b:E):E:=.cmp .isIn a b
noncomputable def sO:E:=.var 12
noncomputable def Eh (a b c d e f g:S):SL:=.cons a (.cons b (.cons c (.cons d (.cons e (.cons f (.cons g .nil))))))
noncomputable def Hv (a:E):E:=.cmp .isN a .none
noncomputable def Hw (a b c d e:E):EL:=.cons a (.cons b (.cons c (.cons d (.cons e .nil))))
noncomputable def Ek:E:=.int 8
noncomputable def Bk:E:=.int 6
noncomputable def Bp:E:=.int 4
noncomputable def LQ (a b c d e f:E):EL:=.cons a (.cons b (.cons c (.cons d (.cons e (.cons f .nil)))))
noncomputable def MT:Nat->List Str->List (Str×Nat)
 | _,[]=>[]
 | k,x::l=>(x,k)::MT (k+1) l
noncomputable def dG (x:Str) (n:Nat) (l:List Str) (m:Nat) (b:SL):Fn:={ name:=x,np:=n,slots:=MT 0 l,ns:=m,body:=b }
noncomputable def LX:Str:=⟨#[116,101,114,109]⟩
noncomputable def GC:Str:=⟨#[102,111,117,110,100]⟩
noncomputable def uy:Str:=⟨#[114,111,119]⟩
noncomputable def Ej:Str:=⟨#[114,111,119,115]⟩
noncomputable def Hq:Str:=⟨#[110,117,109,98,101,114]⟩
noncomputable def LW:Str:=⟨#[110,97,109,101,115]⟩
noncomputable def Ei:Str:=⟨#[112,114,111,103,114,97,109]⟩
noncomputable def Ew:Str:=⟨#[102,117,110,99,116,105,111,110]⟩
noncomputable def LP:Str:=⟨#[110,101,119,115]⟩
noncomputable def LV:Str:=⟨#[114,101,115,117,108,116]⟩
noncomputable def EA:Str:=⟨#[115,112,111,116]⟩
noncomputable def Ez:Str:=⟨#[95,108,97,119,95,115,99,114,105,112,116]⟩
noncomputable def Ey:Str:=⟨#[95,108,97,119,95,107]⟩
noncomputable def nE:Str:=⟨#[95,108,97,119,95,99,101,108,108,95,104,101,114,101]⟩
noncomputable def Bo:Str:=⟨#[95,108,97,119,95,109,97,110,121]⟩
noncomputable def sQ:Str:=⟨#[95,108,97,119,95,97,116]⟩
noncomputable def uD:Str:=⟨#[95,108,97,119,95,119,111,114,100,115,95,104,101,114,101]⟩
noncomputable def Ht:Str:=⟨#[95,108,97,119,95,100,101,101,112]⟩
noncomputable def qU:Str:=⟨#[95,108,97,119,95,110,97,109,101]⟩
noncomputable def Ex:Str:=⟨#[95,108,97,119,95,104,101,97,100,115]⟩
noncomputable def oE:Str:=⟨#[95,108,97,119,95,114,111,119,115,95,104,101,114,101]⟩
noncomputable def ky:Str:=⟨#[95,108,97,119,95,112,114,111,103,114,97,109,95,104,101,114,101]⟩
noncomputable def wK:Str:=⟨#[95,108,97,119,95,110,97,109,101,115,95,104,101,114,101]⟩
noncomputable def Hs:Str:=⟨#[95,108,97,119,95,114,101,115,117,108,116]⟩
noncomputable def uC:Str:=⟨#[95,108,97,119,95,102,117,110,99,116,105,111,110,95,104,101,114,101]⟩
noncomputable def oC:Str:=⟨#[95,108,97,119,95,114,111,119,95,104,101,114,101]⟩
noncomputable def oB:Str:=⟨#[95,108,97,119,95,102,111,117,110,100]⟩
noncomputable def sP:Str:=⟨#[95,108,97,119,95,112,108,97,99,101]⟩
noncomputable def Hr:Str:=⟨#[95,108,97,119,95,116,111,108,100,95,104,101,114,101]⟩
noncomputable def zM:Str:=⟨#[95,108,97,119,95,110,117,109,98,101,114,95,104,101,114,101]⟩
noncomputable def wH:E:=.list false .nil
noncomputable def Ef:E:=.bi .len false (aO aY)
noncomputable def Ee:E:=.bi .len false (aO aP)
noncomputable def qR:E:=zx aP dq
noncomputable def J1:E:=zc 25 (aE aP (.bin .add false aY cw))
noncomputable def MS:S:=cg (cB Ef bk) (bn (zr (.bin .add false (.bin .add false (.slc false aP .no (.yes bR)) bS) (.slc false aP (.yes (.bin .add false bR a9)) .no))))
noncomputable def JQ:E:=.slc false aY (.yes bk) .no
noncomputable def J0:E:=.bin .add false aP (zt (aO bS))
noncomputable def wG:E:=zx aY dq
noncomputable def MR:E:=zc 32 (Hw cT aY lm (.bin .sub false bS bk) (.bin .add false bk (.bin .mod false (.bin .fdiv false aP (.int 9)) hJ)))
noncomputable def zL:E:=.bi .len false (aO a9)
noncomputable def l7:E:=zx aP bk
noncomputable def Hp:E:=.slc false aP (.yes (.bin .add false bR bk)) .no
noncomputable def qS:E:=.bool true
noncomputable def Bn:E:=.bin .fdiv false aP Bk
noncomputable def Bm:E:=.bi .len false (aO bS)
noncomputable def Du:Fn:=dG ⟨#[103,97,116,104,101,114]⟩ 2 [LX,GC] 2 (bn (.ite (cB qR (aH bh)) (bn (cg (iC l7 aY) (bn (.expr (.meth .append aY (aO l7)))))) (bn (cg (yp qR (aH ju)) (qT (.expr (zc 0 (aE l7 aY))) (.expr (zc 0 (aE (zx aP cw) aY))))))))
noncomputable def xK:Fn:=dG ⟨#[110,97,109,101,115,95,105,110]⟩ 1 [LX,GC] 2 (qP (am 1 (.list true .nil)) (.expr (zc 0 (aE aP aY))) (zr (.freeze aY)))
noncomputable def nr:Fn:=dG ⟨#[111,119,110,95,116,101,114,109,115]⟩ 1 [uy] 1 (GB (cg (cB qR (aH ie)) (bn (zr (.list false (aO (zx aP cw)))))) (cg (oA (aE (cB qR (aH wW)) (cB qR (aH jt)))) (bn (zr (.list false (aO l7))))) (cg (cB qR (aH bC)) (bn (zr (.bi .list false (aO (zx aP hJ)))))) (zr wH))
noncomputable def kM:SL:=bn (.put aY bS qS)
noncomputable def kL:SL:=bn (fu 3 (.seq (zc 1 (aO a9))) kM)
noncomputable def vO:Fn:=dG ⟨#[111,119,110,95,110,97,109,101,115]⟩ 1 [uy,GC,LX,bh] 4 (qP (am 1 .dict0) (fu 2 (.seq (zc 2 (aO aP))) kL) (zr (.bi .list false (aO aY))))
noncomputable def sw:Fn:=dG ⟨#[111,119,110,95,115,101,116]⟩ 1 [uy] 1 (qT (cg (oA (aE (cB qR (aH ie)) (cB qR (aH bC)))) (bn (zr l7))) (zr .none))
noncomputable def qg:Fn:=dG ⟨#[104,97,115,95,114,111,119,115]⟩ 1 [uy] 1 (bn (zr (oA (aE (cB qR (aH jt)) (cB qR (aH du))))))
noncomputable def rc:Fn:=dG ⟨#[114,111,119,115,95,119,105,116,104,105,110]⟩ 1 [uy] 1 (qT (cg (zc 5 (aO aP)) (bn (zr (zx aP cw)))) (zr (zt .nil)))
noncomputable def k8:SL:=qT (.expr (.meth .append a9 (aO (zt (aE J0 bR))))) (.expr (.meth .extend a9 (aO (zc 7 (aE J0 (zc 6 (aO bR)))))))
noncomputable def Dq:Fn:=dG ⟨#[119,97,108,107,101,100]⟩ 2 [⟨#[97,116]⟩,Ej,GC,Hq,uy] 5 (qP (am 2 (.list true .nil)) (.forr (.tup [3,4]) (.enum aY) k8) (zr (.freeze a9)))
noncomputable def eP:SL:=qT (cg (jS (zc 4 (aO a9))) (bn (.put aY (zc 4 (aO a9)) qS))) (cg (d8 (aE (cB (zx a9 dq) (aH du)) (El (zx a9 bk) dq))) (bn (.expr (.meth .update aY (aO (zc 8 (aO (zx a9 cw))))))))
noncomputable def jL:Fn:=dG ⟨#[115,117,114,101,108,121,95,105,110]⟩ 1 [Ej,GC,uy] 3 (qP (am 1 .dict0) (fu 2 (.seq aP) eP) (zr aY))
noncomputable def fN:SL:=bn (cg (iC cT a9) (bn (.put aY cT qS)))
noncomputable def cp:SL:=GB (am 4 (zc 3 (aO bS))) (cg (oA (aE (cB (zx bS dq) (aH jt)) (d8 (aE (cB (zx bS dq) (aH du)) (El (zx bS bk) dq))))) (bn (am 4 (.bin .add false bR (.bi .list false (aO (zc 9 (aO (zx bS cw))))))))) (fu 5 (.seq bR) fN) (.expr (.meth .update a9 (aO (zc 8 (aO (zt (aO bS)))))))
noncomputable def xR:Fn:=dG ⟨#[102,105,114,115,116,95,105,110]⟩ 1 [Ej,GC,⟨#[107,110,111,119,110]⟩,uy,LW,bh] 6 (GB (am 1 .dict0) (am 2 .dict0) (fu 3 (.seq aP) cp) (zr aY))
noncomputable def iS:SL:=qT (cg (oA (aE (.not (.cmp2 .le .lt dq bS zL)) (.not (zc 5 (aO (zx a9 bS)))))) (bn (.raise 1 (aO (aH kI))))) (am 2 (zx (zx a9 bS) cw))
noncomputable def xI:Fn:=dG ⟨#[116,117,112,108,101,95,97,116]⟩ 2 [Ei,cj,Ej,Hq] 4 (GB (cg (oA (aE (Hu Ef cw) (.not (.cmp2 .le .lt dq wG Ee)))) (bn (.raise 1 (aO (aH kI))))) (am 2 (zx (zx aP wG) cw)) (fu 3 (.seq (.slc false aY (.yes bk) (.yes (.neg bk)))) iS) (zr a9))
noncomputable def Dr:Fn:=dG ⟨#[114,111,119,95,97,116]⟩ 2 [Ei,cj,Ej] 3 (qP (Hx 2 10 (aE aP aY)) (cg (.not (.cmp2 .le .lt dq (zx aY (.neg bk)) zL)) (bn (.raise 1 (aO (aH kW))))) (zr (zx a9 (zx aY (.neg bk)))))
noncomputable def iU:SL:=Eu (am 6 (.slc false bS (.yes (.bin .add false (zx aY cT) bk)) .no)) (am 7 (zc 8 (aO ji))) (am 4 (.bin .add false (.bi .list false (aO (zc 9 (aO ji)))) (.comp false (.var 9) (.seq bR) (.yes (iC Eg lm)) Eg))) (am 8 (zx bS (zx aY cT))) (cg (Hu cT (.bin .sub false Ef bk)) (qT (am 3 (zx qO cw)) (cg (d8 (aE (cB (zx qO dq) (aH du)) (El (zx qO bk) bk))) (bn (am 4 (.bin .add false bR (.bi .list false (aO (zc 9 (aO bS))))))))))
noncomputable def Dt:Fn:=dG ⟨#[110,101,101,100,101,100]⟩ 2 [Ei,cj,Ew,Ej,LW,⟨#[100,101,112,116,104]⟩,⟨#[98,101,104,105,110,100]⟩,⟨#[115,117,114,101]⟩,uy] 10 (LU (.calls .drop 11 (aE aP aY)) (am 2 (zx aP wG)) (am 3 (zx a9 cw)) (am 4 (zc 1 (aO (zx a9 hJ)))) (fu 5 (.range2 bk Ef) iU) (zr (.bi .sortedSet false (aO bR))))
noncomputable def p7:Fn:=dG ⟨#[119,105,116,104,95,114,111,119,115,95,105,110]⟩ 4 [Ej,⟨#[112,97,116,104]⟩,⟨#[109,97,110,121]⟩,LP,⟨#[97,116]⟩,uy] 6 (GB (am 4 wG) MS (am 5 (zx aP bR)) (zr (.bin .add false (.bin .add false (.slc false aP .no (.yes bR)) (zt (aO (zt (hX (zx cT dq) (zx cT bk) (zc 13 (qQ (zx cT cw) JQ a9 bS))))))) Hp)))
noncomputable def vN:Fn:=dG ⟨#[119,105,116,104,95,114,111,119,115]⟩ 4 [Ei,cj,⟨#[109,97,110,121]⟩,LP,bh,⟨#[112,97,114,97,109,101,116,101,114,115]⟩,Ej,LV,Ew] 9 (qP (.asgT [4,5,6,7] (zx aP wG)) (am 8 (zt (qQ bR cT (zc 13 (qQ ji JQ a9 bS)) lm))) (zr (.bin .add false (.bin .add false (.slc false aP .no (.yes wG)) (zt (aO qO))) (.slc false aP (.yes (.bin .add false wG bk)) .no))))
noncomputable def gV:SL:=bn (cg (cB (zx bS dq) aY) (bn (zr a9)))
noncomputable def vP:Fn:=dG ⟨#[110,117,109,98,101,114,95,111,102]⟩ 2 [Ei,bh,Hq,Ew] 4 (qT (.forr (.tup [2,3]) (.enum aP) gV) (zr .none))
noncomputable def re:Fn:=dG ⟨#[110,117,109,98,101,114,115,95,115,101,116]⟩ 2 [uy,Ew] 4 (bn (zr (.comp false (.tup [2,3]) (.enum (zx aY bk)) (.yes (yp (zx (zx aP hJ) a9) (zt (aE (aH bh) bS)))) a9)))
noncomputable def xJ:Fn:=dG ⟨#[114,111,119,115,95,112,117,116]⟩ 2 [uy,Ew,LP] 4 (qP (am 2 (.bin .add false (.bi .tuple false (aO (.comp false (.var 3) (.seq (zc 16 (aE aP aY))) .no (zt (hX (aH ie) (zx (zx aY bk) bS) (zx (zx aP hJ) bS)))))) (zx aY cw))) (cg (d8 (aE (jS l7) (yp (zx aY hJ) (zt (aE (aH bh) l7))))) (bn (am 2 (.bin .add false a9 (zt (aO (zt (hX (aH ie) l7 (zx aY hJ))))))))) (zr a9))
noncomputable def gg:SL:=bn (cg (kH (zx (zx a9 bk) bS) (zc 1 (aO (zx (zx aY hJ) bR)))) (bn (zr (zt (aE J0 (.bin .add false aP (zt (aO bR))))))))
noncomputable def jC:SL:=bn (fu 4 (.range2 (.bin .add false bS bk) (.bi .len false (aO (zx aY hJ)))) gg)
noncomputable def tY:Fn:=dG ⟨#[116,101,114,109,95,99,108,97,115,104]⟩ 3 [cj,uy,Ew,⟨#[107]⟩,⟨#[111,116,104,101,114]⟩] 5 (qT (fu 3 (.seq (zc 16 (aE aY a9))) jC) (zr .none))
noncomputable def gk:SL:=bn (cg (.bi .any false (aO (.comp false (.var 13) (.seq (zc 3 (aO (.var 10)))) .no (kH (.var 13) qO)))) (bn (zr (zt (aE Eg aY)))))
noncomputable def t9:Fn:=dG ⟨#[98,97,114,101,95,99,108,97,115,104]⟩ 3 [Ei,cj,Hq,⟨#[112,97,114,97,109,101,116,101,114,115]⟩,Ej,LV,⟨#[115,117,114,101]⟩,LW,⟨#[98,97,114,101]⟩,EA,uy] 14 (Eh (.asgT [3,4,5] (.slc false (zx aP a9) (.yes bk) .no)) (am 6 (zc 8 (aO bR))) (am 7 (.bin .add false (.bi .list false (aO (zc 9 (aO bR)))) (.comp false (.var 11) (.seq (zc 1 (aO cT))) (.yes (iC (.var 11) ji)) (.var 11)))) (am 8 (.comp false (.var 12) (.seq lm) (.yes (iC sO bS)) sO)) (cg (cB qO wH) (bn (zr .none))) (.forr (.tup [9,10]) (.seq (zc 7 (aE (zt (aO a9)) bR))) gk) (zr (zt (aE (zt (aE a9 (.bi .len false (aO bR)))) aY))))
noncomputable def ng:SL:=bn (.put bR (zx (zx bS bk) cT) (.bin .add false aP (zt (aO cT))))
noncomputable def jD:SL:=bn (cg (d8 (aE (jS (zc 4 (aO lm))) (iC (zc 4 (aO lm)) bR))) (bn (.put bR (zc 4 (aO lm)) ji)))
noncomputable def AH:Fn:=dG ⟨#[115,101,116,116,101,114,115]⟩ 4 [cj,uy,Hq,Ew,GC,⟨#[107]⟩,EA,⟨#[111,110,101]⟩] 8 (Eu (am 4 .dict0) (fu 5 (.seq (zc 16 (aE aY bS))) ng) (.forr (.tup [6,7]) (.seq (zc 7 (aE (zt (aO a9)) (zx bS cw)))) jD) (.expr (.meth .pop bR (aE (zx aY bk) .none))) (zr bR))
noncomputable def iT:SL:=bn (cg (El ji aY) (bn (zr ji)))
noncomputable def Ds:Fn:=dG ⟨#[114,101,97,100,101,114]⟩ 3 [Ei,cj,bh,Ej,LV,⟨#[115,112,111,116,115]⟩,EA] 9 (Eu (.asgT [3,4] (.slc false (zx aP wG) (.yes cw) .no)) (am 5 (.comp true (.tup [7,8]) (.seq (zc 7 (aE (zt (aO wG)) bS))) (.yes (kH a9 (zc 3 (aO qO)))) lm)) (cg (kH a9 (zc 1 (aO bR))) (bn (.expr (.meth .append cT (aO (zt (aE wG Bm))))))) (fu 6 (.seq cT) iT) (zr (zx cT dq)))
noncomputable def gh:SL:=bn (cg (kH cT bR) (bn (zr (zt (aE (zx bR cT) (zc 21 (hX aP aY cT)))))))
noncomputable def tZ:Fn:=dG ⟨#[108,111,115,116,95,99,108,97,115,104]⟩ 4 [Ei,cj,uy,Hq,GC,bh] 6 (qP (am 4 (zc 20 (qQ aY a9 bS (zx aP bS)))) (fu 5 (.seq (zc 12 (aE aP aY))) gh) (zr .none))
noncomputable def dl:SL:=bn (cg (d8 (aE (cB (zx bR dq) (aH bC)) (cB (zx bR cw) aY))) (bn (zr qS)))
noncomputable def kN:SL:=bn (.forr (.tup [3,4]) (.seq (zc 7 (aE (zt .nil) (zx a9 cw)))) dl)
noncomputable def vX:Fn:=dG ⟨#[105,115,95,99,97,108,108,101,100]⟩ 2 [Ei,bh,Ew,EA,uy] 5 (qT (fu 2 (.seq aP) kN) (zr (.bool false)))
noncomputable def Lr:Fn:=dG ⟨#[112,117,116]⟩ 2 [Ei,cj,uy,Hq,Ew,cE,LP,⟨#[97,102,116,101,114]⟩] 8 (.cons (Hx 2 11 (aE aP aY)) (.cons (cg (yp (zx a9 dq) (aH bC)) (bn (.raise 4 (aO (aH BQ))))) (.cons (am 3 (zc 15 (aE aP (zx a9 cw)))) (.cons (am 4 (zx aP bS)) (.cons (am 5 (zc 18 (hX aY a9 bR))) (.cons (cg (Hv cT) (bn (am 5 (zc 19 (hX aP aY bS))))) (Eh (cg (Hv cT) (bn (Hx 5 22 (qQ aP aY a9 bS)))) (cg (jS cT) (bn (.raise 6 (aE (zx cT dq) (zx cT bk))))) (am 6 (zc 17 (aE a9 bR))) (am 7 (zc 14 (qQ aP aY bk ji))) (cg (zc 23 (aE lm (zx a9 cw))) (bn (zr (zt (aE lm (zt (Hw aY (.bi .len false (aO ji)) a9 bS .none))))))) (am 7 (.bin .add false (.slc false lm .no (.yes bS)) (.slc false lm (.yes (.bin .add false bS bk)) .no))) (zr (zt (aE lm (zt (Hw (.bin .add false (zt (aO (.bin .sub false wG bk))) JQ) (.bi .len false (aO ji)) a9 bS bR))))))))))))
noncomputable def qH:SL:=GB (am 2 (.ite (Hu aY Ee) (zx aP aY) dq)) (am 3 (.bin .mod false (.bin .mul false (.bin .add false (.bin .mod false a9 (.int 2147483629)) (.bin .mul false (.int 7919) (.bin .add false aY bk))) (.int 48271)) (.int 2147483647))) (am 3 (.bin .mod false (.bin .mul false (.bin .mod false (.bin .mul false bS bS) (.int 2147483629)) (.int 69621)) (.int 2147483647))) (zr (.bin .add false (.bin .mul false (.bin .add false (.bin .mul false (.bin .fdiv false a9 (.int 2147483629)) (.int 2147483647)) bS) (.int 2147483629)) (.bin .mod false (.bin .mul false bS bS) (.int 2147483629))))
noncomputable def qf:Fn:=dG ⟨#[95,108,97,119,95,99,101,108,108]⟩ 2 [Ez,Ey,nE,⟨#[95,108,97,119,95,109,97,114,107]⟩] 4 qH
noncomputable def vS:Fn:=dG ⟨#[95,108,97,119,95,109,105,120,101,100]⟩ 2 [nE,Ey,⟨#[95,108,97,119,95,109,97,114,107]⟩] 3 (qT (am 2 (.bin .mod false (.bin .add false (.bin .mul false aP (.int 48271)) (.bin .mul false (.bin .add false aY bk) (.int 1299721))) (.int 2147483647))) (zr (.bin .mod false (.bin .mul false a9 (.bin .add false (.bin .mod false (.bin .fdiv false a9 (.int 7)) (.int 65536)) hJ)) (.int 2147483647))))
noncomputable def vQ:Fn:=dG ⟨#[95,108,97,119,95,119,111,114,100,115]⟩ 2 [nE,Bo,⟨#[95,108,97,119,95,108,101,116,116,101,114,115]⟩,⟨#[95,108,97,119,95,98,97,115,101]⟩,sQ] 7 (Eu (am 2 (aH aC)) (am 3 (.bin .mul false (zx a9 (.bin .mod false aP (.int 26))) (.bin .add false bk (.bin .mod false (.bin .fdiv false aP (.int 26)) Ek)))) (am 4 (.bin .mod false (.bin .fdiv false aP (.int 208)) Bm)) (cg (cB (.bin .mod false (.bin .fdiv false aP (.int 1664)) hJ) bk) (bn (zr (.comp false (.var 5) (.range aY) .no (.bin .mul false (zx a9 (.bin .mod false aP (.int 26))) (.bin .add false bk cT)))))) (zr (.comp false (.var 6) (.range aY) .no (.bin .add false (.bin .add false (.slc false bS .no (.yes bR)) (zx a9 (.bin .mod false (.bin .add false (.bin .fdiv false aP (.int 4992)) (.bin .mul false (.int 5) ji)) (.int 26)))) (.slc false bS (.yes (.bin .add false bR bk)) .no)))))
noncomputable def xM:Fn:=dG ⟨#[95,108,97,119,95,116,101,114,109]⟩ 3 [nE,uD,Ht,⟨#[95,108,97,119,95,107,105,110,100,95,104,101,114,101]⟩,⟨#[95,108,97,119,95,119,111,114,100]⟩] 5 (LU (am 3 (.bin .mod false aP Bk)) (cg (cB bS dq) (bn (zr (zt (aE (aH ju) (.bin .mod false Bn hJ)))))) (cg (cB bS bk) (bn (zr (zt (aE (aH ju) (.bin .mod false Bn (.int 1000003))))))) (cg (oA (aE (Hu bS Bp) (cB a9 dq))) (bn (zr (zt (aE (aH bh) (zx aY (.bin .mod false Bn Ef))))))) (am 4 (zx (.list false (hX (aH uU) (aH tv) (aH oi))) (.bin .mod false Bn hJ))) (zr (zt (hX bR (zc 28 (hX (zc 26 (aE aP bk)) aY (.bin .sub false a9 bk))) (zc 28 (hX (zc 26 (aE aP cw)) aY (.bin .sub false a9 bk)))))))
noncomputable def vT:Fn:=dG ⟨#[95,108,97,119,95,103,105,118,101,110]⟩ 3 [nE,uD,qU] 3 (qT (cg (cB (.bin .mod false aP cw) dq) (bn (zr (zt (aE (aH bh) a9))))) (zr (zc 28 (hX (.bin .fdiv false aP cw) aY bk))))
noncomputable def xP:Fn:=dG ⟨#[95,108,97,119,95,99,97,108,108]⟩ 3 [nE,uD,Ex,⟨#[95,108,97,119,95,104,101,97,100]⟩,⟨#[95,108,97,119,95,116,101,114,109,115]⟩,⟨#[95,108,97,119,95,116,97,114,103,101,116,95,104,101,114,101]⟩] 7 (Eu (am 3 (zx a9 (.bin .mod false (.bin .fdiv false aP (.int 7)) zL))) (am 4 (.comp false (.var 6) (.range (.bi .len false (aO (zx bS bk)))) .no (zc 29 (hX (zc 26 (aE aP (.bin .add false (.int 10) ji))) aY (zx (zx bS bk) ji))))) (am 5 (zx aY (.bin .mod false (.bin .fdiv false aP (.int 49)) Ef))) (cg (cB (.bin .mod false aP hJ) dq) (bn (am 5 .none))) (zr (zt (qQ (aH bC) cT (zx bS dq) (.bi .tuple false (aO bR))))))
noncomputable def AI:Fn:=dG ⟨#[95,108,97,119,95,114,111,119]⟩ 4 [nE,uD,Ex,Ht,⟨#[95,108,97,119,95,107,105,110,100,95,104,101,114,101]⟩,⟨#[95,108,97,119,95,114,101,115,116]⟩,⟨#[95,108,97,119,95,119,111,114,100]⟩,⟨#[95,108,97,119,95,102,101,119]⟩,oE,⟨#[95,108,97,119,95,99,111,117,110,116]⟩] 10 (.cons (am 4 (.bin .mod false aP (.int 9))) (.cons (am 5 (zc 26 (aE aP hJ))) (Eh (am 6 (zx aY (.bin .mod false (.bin .fdiv false aP (.int 9)) Ef))) (am 7 (.slc false a9 .no (.yes (.bin .add false bk (.bi .int false (aO (cB (.bin .mod false (.bin .fdiv false aP (.int 3645)) Ek) bk))))))) (cg (oA (aE (cB bR cw) (cB bR Ek))) (bn (zr (zt (aE (aH wW) (zc 28 (hX cT aY cw))))))) (cg (d8 (hX (Hu cw bR) (Hu bR Bk) (yp a9 wH))) (bn (zr (zc 30 (hX cT aY a9))))) (cg (d8 (aE (cB bR Bk) (El bS dq))) (qT (am 8 MR) (zr (zt (hX (aH jt) (zc 28 (hX (zc 26 (aE aP Bp)) aY bk)) qO))))) (cg (d8 (aE (cB bR (.int 7)) (El bS dq))) (qP (am 9 (zx (.list false (qQ cw bk cw dq)) (.bin .mod false (.bin .fdiv false aP (.int 27)) Bp))) (cg (d8 (aE (cB a9 wH) (cB bS cw))) (bn (am 9 (zx (.list false (Hw cw hJ bk (.bin .mod false (.bin .fdiv false aP (.int 135)) (.int 10)) dq)) (.bin .mod false (.bin .fdiv false aP (.int 27)) (.int 5)))))) (zr (zt (hX (aH du) Eg MR))))) (zr (zt (hX (aH ie) ji (zc 28 (hX cT aY (.bin .add false bk (.bin .mod false bR cw))))))))))
noncomputable def xN:Fn:=dG ⟨#[95,108,97,119,95,114,111,119,115]⟩ 5 [nE,uD,Ex,Ht,Bo] 6 (bn (zr (.bi .tuple false (aO (.comp false (.var 5) (.range bR) .no (zc 31 (qQ (zc 26 (aE aP (.bin .add false (.int 20) cT))) aY a9 bS)))))))
noncomputable def jF:SL:=bn (am 4 (zt (aO (zt (hX (aH jt) (zt (aE (aH ju) (.bin .add false bk ji))) bR)))))
noncomputable def t8:Fn:=dG ⟨#[95,108,97,119,95,108,111,111,112,101,100]⟩ 2 [ky,nE,qU,wK,oE,Hs,Ey] 7 (GB (cg (oA (aE (cB (.bin .mod false aY cw) dq) (cB (zx (zx aP (.neg bk)) cw) (zt .nil)))) (bn (zr aP))) (.asgT [2,3,4,5] (zx aP (.neg bk))) (cg (cB (.bin .mod false (.bin .fdiv false aY Bp) Bp) bk) (bn (fu 6 (.range Bk) jF))) (zr (.bin .add false (.slc false aP .no (.yes (.neg bk))) (zt (aO (zt (qQ a9 bS (zt (aO (zt (hX (aH du) (.bin .add false cw (.bin .mod false (.bin .fdiv false aY cw) cw)) bR)))) cT)))))))
noncomputable def qe:Fn:=dG ⟨#[95,108,97,119,95,102,117,110,99,116,105,111,110]⟩ 4 [nE,qU,uD,Ex,⟨#[95,108,97,119,95,102,105,114,115,116]⟩,wK,Bo,oE] 9 (Eh (am 4 (.bin .mod false Bn zL)) (am 5 (.bi .tuple false (aO (.comp false (.var 8) (.range (zx (.list false (LQ dq bk cw cw hJ Bp)) (.bin .mod false aP Bk))) .no (zx a9 (.bin .mod false (.bin .add false bR (.bin .mul false cw qO)) zL)))))) (am 6 (zx (.list false (LQ hJ Bp cw (.int 5) dq Bk)) (.bin .mod false (.bin .fdiv false aP (.int 30)) Bk))) (cg (cB (.bin .mod false (.bin .fdiv false aP (.int 180)) (.int 12)) bk) (bn (am 6 (.bin .mod false (.bin .fdiv false aP (.int 2160)) (.int 30))))) (cg (El ji Bk) (bn (am 3 wH))) (am 7 (zc 32 (Hw (zc 26 (aE aP (.int 5))) a9 bS (.bin .sub false cw (.bi .int false (aO (El ji Bk)))) ji))) (zr (zt (qQ aY cT lm (zc 28 (hX (zc 26 (aE aP Bk)) a9 bk))))))
noncomputable def nN:Fn:=dG ⟨#[95,108,97,119,95,118,97,114,105,97,98,108,101,115]⟩ 2 [Ez,sQ] 2 (bn (zr (zc 27 (aE (zc 25 (aE aP aY)) (.bin .add false (.int 5) (.bin .mul false cw (.bi .int false (aO (cB (.bin .mod false (.bin .fdiv false J1 (.int 512)) Ek) bk)))))))))
noncomputable def cz:SL:=qP (am 7 (zc 34 (qQ (zc 25 (aE aP (.bin .add false (.bin .add false aY hJ) ji))) (zx bS ji) a9 (.bi .list false (aO (.slc false bR .no (.yes hJ))))))) (cg (d8 (aE (cB ji dq) (cB (.bin .mod false (.bin .fdiv false J1 (.int 4096)) Ek) bk))) (bn (am 7 (zt (qQ (zx bS dq) (zt .nil) (zt .nil) (zx lm hJ)))))) (am 4 (.bin .add false bR (zt (aO lm))))
noncomputable def rg:Fn:=dG ⟨#[95,108,97,119,95,112,114,111,103,114,97,109]⟩ 2 [Ez,sQ,uD,wK,ky,⟨#[95,108,97,119,95,99,111,117,110,116]⟩,Ey,uC] 8 (Eh (am 2 (zc 35 (aE aP aY))) (am 3 (zc 27 (aE (zc 25 (aE aP (.bin .sub false (.bin .add false aY bk) (.bi .int false (aO (cB (.bin .mod false (zc 25 (aE aP (.bin .add false aY bk))) Ek) hJ)))))) Ek))) (am 4 (zt .nil)) (am 5 (.bin .add false bk (.bin .mod false (.bin .add false J1 cw) Bp))) (cg (cB (.bin .mod false (.bin .fdiv false J1 (.int 64)) Ek) bk) (bn (am 5 (.bin .add false cT Bp)))) (fu 6 (.range cT) cz) (zr (zc 33 (aE bR (.bin .fdiv false J1 Bp)))))
noncomputable def vR:Fn:=dG ⟨#[95,108,97,119,95,110,97,109,101,115]⟩ 1 [⟨#[95,108,97,119,95,116,101,114,109,95,104,101,114,101]⟩] 1 (qP (cg (cB qR (aH bh)) (bn (zr (.list false (aO l7))))) (cg (cB qR (aH ju)) (bn (zr wH))) (zr (.bin .add false (zc 37 (aO l7)) (zc 37 (aO (zx aP cw))))))
noncomputable def jE:SL:=bn (am 2 (.bin .add false a9 (zc 37 (aO bS))))
noncomputable def sx:Fn:=dG ⟨#[95,108,97,119,95,111,119,110]⟩ 1 [oC,⟨#[95,108,97,119,95,116,101,114,109,115]⟩,oB,⟨#[95,108,97,119,95,116,101,114,109,95,104,101,114,101]⟩] 4 (Eh (cg (cB qR (aH du)) (bn (zr wH))) (am 1 (.list false (aO l7))) (cg (cB qR (aH ie)) (bn (am 1 (.list false (aO (zx aP cw)))))) (cg (cB qR (aH bC)) (bn (am 1 (.bi .list false (aO (zx aP hJ)))))) (am 2 wH) (fu 3 (.seq aY) jE) (zr a9))
noncomputable def lN:Fn:=dG ⟨#[95,108,97,119,95,116,97,114,103,101,116]⟩ 1 [oC] 1 (qT (cg (oA (aE (cB qR (aH ie)) (cB qR (aH bC)))) (bn (zr l7))) (zr .none))
noncomputable def nv:Fn:=dG ⟨#[95,108,97,119,95,98,108,111,99,107]⟩ 1 [oC] 1 (qT (cg (oA (aE (cB qR (aH jt)) (cB qR (aH du)))) (bn (zr (zx aP cw)))) (zr (zt .nil)))
noncomputable def gi:SL:=qT (.expr (.meth .append a9 (aO (zt (aE J0 (zx aY bS)))))) (am 2 (.bin .add true a9 (zc 41 (aE J0 (zc 40 (aO (zx aY bS)))))))
noncomputable def t4:Fn:=dG ⟨#[95,108,97,119,95,112,108,97,99,101,115]⟩ 2 [sP,oE,oB,sQ] 4 (qP (am 2 (.list true .nil)) (fu 3 (.range Ef) gi) (zr (.freeze a9)))
noncomputable def fM:SL:=qP (am 2 (oA (aE a9 (kH aY (zc 38 (aO bS)))))) (cg (oA (aE (cB (zx bS dq) (aH jt)) (d8 (aE (cB (zx bS dq) (aH du)) (El (zx bS bk) dq))))) (qP (am 4 (zc 42 (aE (zx bS cw) aY))) (am 2 (oA (aE a9 (zx bR dq)))) (cg (d8 (aE (cB (zx bS dq) (aH du)) (.not (zx bR bk)))) (bn (zr (zt (aE a9 (.bool false)))))))) (cg (cB (zc 39 (aO bS)) aY) (bn (zr (zt (aE a9 (.bool false))))))
noncomputable def qc:Fn:=dG ⟨#[95,108,97,119,95,115,99,97,110]⟩ 2 [oE,qU,⟨#[95,108,97,119,95,114,101,97,100]⟩,oC,Hr] 5 (qP (am 2 (.bool false)) (fu 3 (.seq aP) fM) (zr (zt (aE a9 qS))))
noncomputable def gj:SL:=Eu (am 7 (zc 42 (aE (.slc false bR (.yes (.bin .add false ji bk)) .no) a9))) (am 5 (oA (aE (zx lm dq) (d8 (aE (zx lm bk) cT))))) (am 8 (zx bR ji)) (am 4 (zx qO cw)) (cg (d8 (aE (cB (zx qO dq) (aH du)) (El (zx qO bk) bk))) (bn (am 5 (oA (aE cT (zx (zc 42 (aE bR a9)) dq))))))
noncomputable def t7:Fn:=dG ⟨#[95,108,97,119,95,110,101,101,100,101,100]⟩ 3 [ky,sP,qU,uC,oE,⟨#[95,108,97,119,95,108,97,116,101,114]⟩,sQ,Hr,oC] 9 (LU (am 3 (zx aP wG)) (am 4 (zx bS cw)) (am 5 (kH a9 (zc 37 (aO (zx bS hJ))))) (fu 6 (.seq (.slc false aY (.yes bk) (.yes (.neg bk)))) gj) (am 7 (zc 42 (aE (.slc false bR (.yes (.bin .add false (zx aY (.neg bk)) bk)) .no) a9))) (zr (oA (aE (zx lm dq) (d8 (aE (zx lm bk) cT))))))
noncomputable def jG:SL:=bn (am 1 (.bin .add false aY (zc 41 (aE (zt (aO a9)) (zx (zx aP a9) cw)))))
noncomputable def AK:Fn:=dG ⟨#[95,108,97,119,95,97,108,108]⟩ 1 [ky,oB,zM] 3 (qP (am 1 wH) (fu 2 (.range Ee) jG) (zr aY))
noncomputable def t0:Fn:=dG ⟨#[95,108,97,119,95,119,105,116,104,105,110]⟩ 4 [oE,⟨#[95,108,97,119,95,115,116,101,112,115]⟩,Bo,⟨#[95,108,97,119,95,111,116,104,101,114,115]⟩,sQ,oC,⟨#[95,108,97,119,95,105,110,110,101,114]⟩] 7 (Eu (am 4 wG) MS (am 5 (zx aP bR)) (am 6 (zc 45 (qQ (zx cT cw) JQ a9 bS))) (zr (.bin .add false (.bin .add false (.slc false aP .no (.yes bR)) (zt (aO (zt (hX (zx cT dq) (zx cT bk) ji))))) Hp)))
noncomputable def xL:Fn:=dG ⟨#[95,108,97,119,95,119,105,116,104]⟩ 4 [ky,sP,Bo,⟨#[95,108,97,119,95,111,116,104,101,114,115]⟩,sQ,uC,oE,⟨#[95,108,97,119,95,109,97,100,101]⟩] 8 (Eu (am 4 wG) (am 5 (zx aP bR)) (am 6 (zc 45 (qQ (zx cT cw) JQ a9 bS))) (am 7 (zt (qQ (zx cT dq) (zx cT bk) ji (zx cT hJ)))) (zr (.bin .add false (.bin .add false (.slc false aP .no (.yes bR)) (zt (aO lm))) Hp)))
noncomputable def rf:Fn:=dG ⟨#[95,108,97,119,95,114,101,97,100,101,114,115]⟩ 2 [ky,zM,uC,oB] 6 (qP (am 2 (zx aP aY)) (am 3 (.comp false (.tup [4,5]) (.seq (zc 41 (aE (zt (aO aY)) (zx a9 cw)))) .no (zt (aE bR (zc 38 (aO cT)))))) (zr (.bin .add false bS (.list false (aO (zt (aE (zt (aE aY (.bi .len false (aO (zx a9 cw))))) (zc 37 (aO (zx a9 hJ))))))))))
noncomputable def t6:Fn:=dG ⟨#[95,108,97,119,95,110,117,109,98,101,114]⟩ 2 [ky,qU] 3 (bn (zr (.meth .index (.comp false (.var 2) (.seq aP) .no (zx a9 dq)) (aO aY))))
noncomputable def xO:Fn:=dG ⟨#[95,108,97,119,95,107,101,112,116]⟩ 2 [oC,uC] 3 (bn (zr (.comp false (.var 2) (.range (.bi .len false (aO (zx aP hJ)))) (.yes (yp (zx (zx aP hJ) a9) (zt (aE (aH bh) (zx (zx aY bk) a9))))) a9)))
noncomputable def xQ:Fn:=dG ⟨#[95,108,97,119,95,98,97,114,101]⟩ 2 [uC,qU,Hr] 3 (qT (am 2 (zc 42 (aE (zx aP cw) aY))) (zr (d8 (aE (iC aY l7) (oA (aE (zx a9 dq) (d8 (aE (zx a9 bk) (kH aY (zc 37 (aO (zx aP hJ))))))))))))
noncomputable def gY:SL:=bn (cg (kH (zx (zx bR bk) lm) (zc 37 (aO (zx (zx a9 hJ) qO)))) (bn (.expr (.meth .append ji (aO (zt (aE (.bin .add false aY (zt (aO lm))) (.bin .add false aY (zt (aO qO))))))))))
noncomputable def gX:SL:=bn (fu 8 (.range2 (.bin .add false lm bk) (.bi .len false (aO (zx a9 hJ)))) gY)
noncomputable def eR:SL:=bn (cg (yp (.comp false (.var 14) (.seq (.var 10)) (.yes (zc 50 (aE bR (.var 14)))) (.var 14)) wH) (bn (.expr (.meth .append ji (aO (zt (aE Eg aY)))))))
noncomputable def gW:SL:=bn (cg (kH sO (.var 10)) (bn (.expr (.meth .append ji (aO (zt (aE Eg (.var 13))))))))
noncomputable def eQ:SL:=bn (cg (d8 (hX (jS sO) (yp sO (zx a9 bk)) (zc 43 (hX aP aY sO)))) (bn (.forr (.tup [13,10]) (.seq (zc 47 (aE aP wG))) gW)))
noncomputable def nB:SL:=.cons (am 3 (zc 48 (aE aP (zx a9 cw)))) (.cons (am 4 (zx aP bS)) (.cons (am 5 (zc 49 (aE a9 bR))) (Eh (am 6 (.list true .nil)) (fu 7 (.seq cT) gX) (.forr (.tup [9,10]) (.seq (zc 47 (aE aP bS))) eR) (am 11 (.comp false (.var 15) (.seq cT) .no (zt (aE (.bin .add false aY (zt (aO (.var 15)))) (zx (zx bR bk) (.var 15)))))) (am 11 (.bin .add false (.var 11) (.comp false (.tup [16,17]) (.seq (zc 41 (aE (zt (aO bS)) (zx bR cw)))) .no (zt (aE (.var 16) (zc 39 (aO (.var 17)))))))) (.forr (.tup [9,12]) (.seq (.var 11)) eQ) (zr (.freeze ji)))))
noncomputable def nu:Fn:=dG ⟨#[95,108,97,119,95,112,97,105,114,115]⟩ 3 [ky,sP,oC,sQ,uC,⟨#[95,108,97,119,95,107,101,112,116,95,104,101,114,101]⟩,oB,⟨#[95,108,97,119,95,105]⟩,⟨#[95,108,97,119,95,106]⟩,⟨#[95,108,97,119,95,116,104,101,114,101]⟩,wK,⟨#[95,108,97,119,95,103,105,118,101,114,115]⟩,qU,⟨#[95,108,97,119,95,111,116,104,101,114]⟩] 18 nB
noncomputable def dY:SL:=bn (cg (d8 (aE (cB (zx bR dq) (aH bC)) (cB (zx bR cw) aY))) (bn (zr qS)))
noncomputable def gE:SL:=bn (.forr (.tup [3,4]) (.seq (zc 41 (aE (zt (aO a9)) (zx (zx aP a9) cw)))) dY)
noncomputable def nO:Fn:=dG ⟨#[95,108,97,119,95,105,115,95,99,97,108,108,101,100]⟩ 2 [ky,qU,zM,sP,oC] 5 (qT (fu 2 (.range Ee) gE) (zr (.bool false)))
noncomputable def AJ:Fn:=dG ⟨#[95,108,97,119,95,112,117,116]⟩ 3 [ky,sP,oC,sQ,uC,oE,oB,⟨#[95,108,97,119,95,116,104,101,114,101]⟩] 9 (.cons (am 3 (zc 48 (aE aP (zx a9 cw)))) (Eh (am 4 (zx aP bS)) (am 5 (.bin .add false (.bi .tuple false (aO (.comp false (.var 8) (.seq (zc 49 (aE a9 bR))) .no (zt (hX (aH ie) (zx (zx bR bk) qO) (zx (zx a9 hJ) qO)))))) (zx bR cw))) (cg (d8 (aE (jS (zx a9 bk)) (yp (zx bR hJ) (zt (aE (aH bh) (zx a9 bk)))))) (bn (am 5 (.bin .add false cT (zt (aO (zt (hX (aH ie) (zx a9 bk) (zx bR hJ))))))))) (am 6 (zc 46 (qQ aP aY bk cT))) (cg (zc 52 (aE ji (zx bR dq))) (bn (zr (zt (aE ji (zt (Hw aY (.bi .len false (aO cT)) a9 bS .none))))))) (am 7 (.bin .add false (zt (aO (.bin .sub false wG bk))) JQ)) (zr (zt (aE (.bin .add false (.slc false ji .no (.yes bS)) (.slc false ji (.yes (.bin .add false bS bk)) .no)) (zt (Hw lm (.bi .len false (aO cT)) a9 bS bR)))))))
noncomputable def gZ:SL:=qT (am 3 (zc 41 (aE (zt (aO a9)) (zx (zx aP a9) cw)))) (am 1 (.bin .add false aY (.comp false (.var 4) (.seq bS) (.yes (cB (zx (zx bR bk) dq) (aH bC))) bR)))
noncomputable def vV:Fn:=dG ⟨#[95,108,97,119,95,99,97,108,108,115]⟩ 1 [ky,oB,zM,⟨#[95,108,97,119,95,115,111,109,101]⟩] 5 (qP (am 1 wH) (fu 2 (.range Ee) gZ) (zr aY))
noncomputable def jc:SL:=Eh (am 2 (.bin .mod false (.bin .fdiv false aY Bk) Ee)) (am 3 (zx (zx aP a9) cw)) (am 4 (.bin .mod false (.bin .fdiv false aY (.int 30)) (.bin (.pow ()) false (.int 10) (.int 20)))) (am 5 (.list false (LQ (zt (aE a9 (.neg bk))) (zt (aE a9 Bm)) (zt (aE (.bin .add false Ee bR) dq)) (zt (aE (.bin .sub false (.neg bk) bR) dq)) (zt (aO a9)) (zt .nil)))) (am 5 (.bin .add false cT (.list false (hX (zt (aE a9 (.bin .add false Bm bR))) (zt (hX a9 dq (.bin .sub false (.neg bk) bR))) (zt (hX a9 Bm dq)))))) (am 6 (.comp false (.var 7) (.seq (zc 41 (aE (zt (aO a9)) bS))) (.yes (cB (zc 40 (aO (zx lm bk))) (zt .nil))) (.bin .add false (zx lm dq) (zt (aO (.bin .mod false bR cw)))))) (zr (zx (.bin .add false cT ji) (.bin .mod false aY (.bin .add false (.int 9) (.bi .len false (aO ji))))))
noncomputable def qd:Fn:=dG ⟨#[95,108,97,119,95,110,111,110,101]⟩ 2 [ky,nE,zM,oE,⟨#[95,108,97,119,95,102,97,114]⟩,⟨#[95,108,97,119,95,115,111,109,101]⟩,⟨#[95,108,97,119,95,108,101,97,118,101,115]⟩] 8 jc
noncomputable def iX:Fn:=dG ⟨#[95,108,97,119,95,107,105,110,100]⟩ 1 [⟨#[95,108,97,119,95,101,114,114,111,114]⟩,oB] 2 (GB (am 1 (.list false (hX (.isx 1 aP) (.isx 2 aP) (.isx 3 aP)))) (am 1 (.bin .add false aY (.list false (hX (.isx 4 aP) (.isx 5 aP) (.isx 6 aP))))) (cg (oA (hX (.not (.isx 0 aP)) (.not (.isx 7 aP)) (yp (.meth .count aY (aO qS)) bk))) (bn (zr (aH Aa)))) (zr (zx (.list false (LQ (aH cj) (aH bh) (aH EV) (aH bC) (aH BO) (aH cE))) (.meth .index aY (aO qS)))))
noncomputable def vW:Fn:=dG ⟨#[95,108,97,119,95,97,108,105,107,101]⟩ 2 [oB,⟨#[95,108,97,119,95,100,117,101]⟩] 3 (qP (cg (.bi (.isinst .tuple) false (aO aY)) (qT (cg (oA (aE (.not (.bi (.isinst .tuple) false (aO aP))) (yp Ee Ef))) (bn (zr (.bool false)))) (zr (.not (.comp false (.var 2) (.range Ef) (.yes (.not (zc 57 (aE (zx aP a9) (zx aY a9))))) a9))))) (cg (oA (aE (Hv aY) (.bi (.isinst .str) false (aO aY)))) (bn (zr (d8 (aE (cB aP aY) (cB (.bi (.isinst .str) false (aO aP)) (.bi (.isinst .str) false (aO aY)))))))) (zr (d8 (hX (.bi (.isinst .int) false (aO aP)) (.not (.bi (.isinst .bool) false (aO aP))) (cB aP aY)))))
noncomputable def gp:Fn:=dG ⟨#[95,108,97,119,95,116,111,108,100]⟩ 2 [ky,sP,⟨#[95,108,97,119,95,101,114,114,111,114]⟩] 3 (bn (.tryS (bn (.calls .retL 24 (aE aP aY))) [{ k:=6,h:=.tup 2 56 true },{ k:=0,h:=.tup 2 56 false }]))
noncomputable def vU:Fn:=dG ⟨#[95,108,97,119,95,101,97,115,101,100]⟩ 2 [ky,nE,qU,wK,oE,Hs,uD,⟨#[95,108,97,119,95,97,104,101,97,100]⟩] 10 (Eu (cg (oA (aE (cB (.bin .mod false aY cw) dq) (Hu Ee cw))) (bn (zr aP))) (.asgT [2,3,4,5] qR) (am 6 (.comp false (.var 8) (.seq (zc 60 (aO aP))) (.yes (iC qO bS)) qO)) (am 7 (.bi .tuple false (aO (.comp false (.var 9) (.seq ji) (.yes (zc 50 (aE qR Eg))) (zt (hX (aH ie) Eg (zt (aE (aH ju) (.bin .mod false (.bin .fdiv false aY cw) (.int 7)))))))))) (zr (.bin .add false (zt (aO (zt (qQ a9 bS (.bin .add false lm bR) cT)))) (.slc false aP (.yes bk) .no))))
noncomputable def dZ:SL:=bn (am 1 (.bin .add false aY (.comp false (.var 5) (.seq bR) (.yes (iC cT aY)) cT)))
noncomputable def gF:SL:=bn (.forr (.tup [3,4]) (.seq (zc 47 (aE aP a9))) dZ)
noncomputable def nP:Fn:=dG ⟨#[95,108,97,119,95,97,108,108,95,119,111,114,100,115]⟩ 1 [ky,oB,zM,sP,wK] 6 (qP (am 1 wH) (fu 2 (.range Ee) gF) (zr aY))
noncomputable def tO:SL:=bn (cg (zc 57 (aE qO (zt (hX (aH cE) (.var 10) (.var 11))))) (bn (zr qS)))
noncomputable def gP:SL:=.cons (am 1 (zc 59 (aE (zc 36 (aE aP Bp)) (zc 25 (aE aP cw))))) (.cons (cg (cB (.bin .mod false (zc 25 (aE aP bk)) Ek) cw) (bn (zr (zc 57 (aE (zc 58 (aE aY (zc 55 (aE aY (zc 25 (aE aP dq)))))) (zt (aO (aH cj)))))))) (.cons (am 2 (zc 54 (aO aY))) (.cons (cg (oA (aE (cB (.bin .mod false (zc 25 (aE aP bk)) Ek) bk) (cB a9 wH))) (bn (am 2 (zc 44 (aO aY))))) (.cons (am 3 (.comp false (.var 12) (.seq a9) (.yes (d8 (aE (cB (zx (zx sO bk) dq) (aH bC)) (cB (.bi .len false (aO (zx (zx sO bk) hJ))) cw)))) sO)) (.cons (cg (d8 (aE (yp bS wH) (cB (.bin .mod false (.bin .fdiv false (zc 25 (aE aP cw)) (.int 14)) hJ) bk))) (bn (am 2 bS))) (.cons (cg (cB a9 wH) (bn (zr qS))) (.cons (.asgT [4,5] (zx a9 (.bin .mod false (zc 25 (aE aP dq)) zL))) (Eh (cg (d8 (hX (cB (zx cT dq) (aH bC)) (cB (.bi .len false (aO (zx cT hJ))) cw) (cB (.bin .mod false (.bin .fdiv false (zc 25 (aE aP cw)) (.int 14)) hJ) bk))) (qP (am 6 (zx (zx aY (zc 48 (aE aY (zx cT cw)))) bk)) (am 5 (zt (qQ (aH bC) (zx ji dq) (zx cT cw) (zt (aE (zt (aE (aH ju) (.int 5))) (zt (hX (aH uU) (zt (aE (aH bh) (zx ji dq))) (zt (aE (aH ju) bk))))))))) (am 1 (zc 46 (qQ aY bR bk (zt (aO cT))))))) (cg (d8 (aE (cB (zx cT dq) (aH bC)) (cB (.bin .mod false (.bin .fdiv false (zc 25 (aE aP cw)) (.int 42)) hJ) bk))) (qP (am 7 (zx (zx aY (zc 48 (aE aY (zx cT cw)))) hJ)) (am 5 (zt (qQ (aH bC) (zx (.list false (aE (zx cT bk) (zx lm bk))) (.bi .int false (aO (cB (zx lm dq) (aH bh))))) (zx cT cw) (zx cT hJ)))) (am 1 (zc 46 (qQ aY bR bk (zt (aO cT))))))) (am 8 (zc 58 (aE aY bR))) (cg (yp (zx cT dq) (aH bC)) (bn (zr (zc 57 (aE qO (zt (aO (aH bC)))))))) (am 9 (zc 51 (hX aY bR cT))) (cg (yp Eg wH) (qT (.forr (.tup [10,11]) (.seq Eg) tO) (zr (.bool false)))) (zr (d8 (aE (.bi (.isinst .list) false (aO qO)) (zc 57 (aE (zx qO dq) (zc 53 (hX aY bR cT)))))))))))))))
noncomputable def f_law:Fn:=dG ⟨#[108,97,119]⟩ 1 [Ez,ky,⟨#[95,108,97,119,95,112,97,105,114,115,95,104,101,114,101]⟩,⟨#[95,108,97,119,95,116,119,105,99,101]⟩,sP,oC,wK,Hs,oB,⟨#[95,108,97,119,95,99,108,97,115,104,105,110,103]⟩,⟨#[95,108,97,119,95,111,110,101]⟩,⟨#[95,108,97,119,95,111,116,104,101,114]⟩] 13 gP
noncomputable def xG:List Fn:=[Du,xK,nr,vO,sw,qg,rc,Dq,jL,xR,xI,Dr,Dt,p7,vN,vP,re,xJ,tY,t9,AH,Ds,tZ,vX,Lr,qf,vS,vQ,xM,vT,xP,AI,xN,t8,qe,nN,rg,vR,sx,lN,nv,t4,qc,t7,AK,t0,xL,rf,t6,xO,xQ,nu,nO,AJ,vV,qd,iX,vW,gp,vU,nP,f_law]
noncomputable def Le:Nat->Option PyData
 | _=>none
noncomputable def prog:Prog:={ G:=Le,P:=λn=>xG[n]? }
set_option linter.unusedSimpArgs false
noncomputable def gK (l:List Int) (k:Nat):Int:=(l[k]?).getD 0
noncomputable def Cu (c k:Int):Int:=(c % 2147483629+7919 * (k+1)) * 48271 % 2147483647
noncomputable def Cv (m:Int):Int:=m * m % 2147483629 * 69621 % 2147483647
noncomputable def cJ (l:List Int) (k:Nat):Int:=(gK l k / 2147483629 * 2147483647+Cv (Cu (gK l k) k)) * 2147483629+Cv (Cu (gK l k) k) * Cv (Cu (gK l k) k) % 2147483629
theorem mU (h:n<=d):∃ e,d=e+n:=⟨d - n,(Nat.sub_add_cancel h).symm⟩
theorem iP (d:Nat) {a b:Nat} (h:a < b):a < d+b:=OF h (N5 b d)
theorem kn (e:Nat):((e+1:Nat):Int) - 1=(e:Int):=Int.add_sub_cancel (e:Int) 1
theorem dT {p:Prop} [Decidable p] (h:p):some (decide p)=some true:=congrArg some (decide_eq_true h)
theorem dF {p:Prop} [Decidable p] (h:¬ p):some (decide p)=some false:=congrArg some (decide_eq_false h)
abbrev same (σ:ac):σ.take σ.length=σ:=List.take_length
theorem c6 (d:Nat) (l:List Int) (k:Nat) (σ:ac):ae prog (d+1) 25 [.d (.list (l.map .int)),.d (.int k)] σ=.ok (.d (.int (cJ l k))) σ:=by
 have first:ag prog.G (ae prog d) (.ite (.cmp .lt (.var 1) (.bi .len false (.cons (.var 0) (.nil)))) (.idx (.var 0) (.var 1)) (.int 0)) [.d (.list (l.map .int)),.d (.int k),.un,.un] σ=.ok (.d (.int (gK l k))) σ:=by
   by_cases h:k < l.length
   . exact J7 (Bx (cx rfl rfl rfl) (decide_eq_true (by rw [Ng]; exact OO.mpr h))) (bw rfl rfl (by rw [iA _ (Oa k)]; simp [gK,h]))
   . refine J8 (Bx (cx rfl rfl rfl) (decide_eq_false (by rw [Ng]; exact λq=>h (OO.mp q)))) ?_;simp only [gK,OS (OE h)]; rfl
 have m1:=λ(x:Int)=>JT (x:=x) (y:=2147483629) false σ (by decide);exact cR (fn:=qf) rfl rfl (aA (cO first) ((dA prog.G (ae prog d) (tl qH) [.d (.list (l.map .int)),.d (.int k),.d (.int (gK l k)),.un] σ 26960 (JT _ _ (by decide)) (Mi _ _ (by decide) (by decide)) (JT _ _ (by decide)) (JT _ _ (by decide)) (m1 _) (Mi _ _ (by decide) (by decide)))))
theorem kj (d:Nat) (l:List Int) (σ:ac) (k:Nat) (i:Int) (hi:i=(k:Int)):ae prog (d+1) 25 [.d (.list (l.map .int)),.d (.int i)] σ=.ok (.d (.int (cJ l k))) σ:=by subst hi; exact c6 d l k σ
noncomputable def jl (c k:Int):Int:=(c * 48271+(k+1) * 1299721) % 2147483647 * ((c * 48271+(k+1) * 1299721) % 2147483647 / 7 % 65536+3) % 2147483647
theorem dC (d:Nat) (c k:Int) (σ:ac):ae prog (d+1) 26 [.d (.int c),.d (.int k)] σ=.ok (.d (.int (jl c k))) σ:=
 (a5 prog 26 d [.d (.int c),.d (.int k)] σ rfl 261 (JT _ _ (by decide)) (JT _ _ (by decide)) (Mi _ _ (by decide) (by decide)) (same σ))
theorem vh (h:0 < d) (c k:Int) (σ:ac):ae prog d 26 [.d (.int c),.d (.int k)] σ=.ok (.d (.int (jl c k))) σ:=by obtain ⟨e,rfl⟩:∃ e,d=e+1:=mU h;exact dC e c k σ
inductive Tm where
 | num (i:Int)
 | name (x:Str)
 | op (k:Nat) (a b:Tm)
noncomputable def Tm.ctorIdx (t:Tm):Nat:=by cases (t); exact 0; exact 1; exact 2
noncomputable def GU:Nat->Str
 | 0=>uU
 | 1=>tv
 | _=>oi
noncomputable def bZ:Tm->PyData
 | .num i=>.tuple [.str ju,.int i]
 | .name x=>.tuple [.str bh,.str x]
 | .op k a b=>.tuple [.str (GU k),bZ a,bZ b]
noncomputable def ht:Tm->Nat
 | .op _ a b=>max (ht a) (ht b)+1
 | _=>0
theorem rY (k:Nat):GU k=uU\/GU k=tv\/GU k=oi:=match k with
 | 0=>.inl rfl
 | 1=>.inr (.inl rfl)
 | _+2=>.inr (.inr rfl)
variable {c:Cell}
theorem yC (h:σ[n]?=some c):(σ.set n c')[n]?=some c':=by have:=(NK.mp h).1; simp [this]
theorem uS (hc:σ[n]?=some c):σ.set n c=σ:=by
 apply P8; intro k;by_cases hk:n=k
 . subst hk; rw [yC hc,hc]
 . simp [hk]
theorem aM (σ:ac) (c:Cell):(σ++[c])[σ.length]?=some c:=by simp
theorem fe (σ:ac) (c c':Cell):(σ++[c]).set σ.length c'=σ++[c']:=by simp
theorem ke (σ:ac) (l:List PyData):Jm (.loc σ.length) (σ++[.lst l])=.ok (.d (.list l)) (σ++[.gone]):=by rw [Jl (aM _ _),fe]
theorem yB (n:Nat) (c:Cell):(σ.set n c).take σ.length=σ.set n c:=Pn (by simp)
variable {i:Int}
theorem CE (h0:0<=i) (h:i < 26) (σ:ac):df (.d (.str aC)) (.d (.int i)) σ=some (.d (.str (av [97+i.toNat]))):=by
 have hl:(aI aC).length=26:=by decide
 have ha:∀ n,n < 26->(aI aC)[n]?=some (97+n):=by decide
 rw [FN,index,hl,if_pos h0,if_pos (show i < ((26:Nat):Int) from h)];show ((aI aC)[i.toNat]?).map _=_;rw [ha _ ((PV h0).mpr h)]; rfl
theorem eH (l:List Nat):aI (av l)=l:=by simp [aI,av]
theorem xX (l:List Nat):(av l).cps.size=l.length:=by simp [av]
theorem yH (a:Nat):∀ n:Nat,(List.replicate n [a]).flatten=List.replicate n a
 | 0=>rfl
 | n+1=>by rw [Qo,List.flatten_cons,yH a n]; rfl
theorem Hg (a:Nat) {n:Int} (h0:0<=n) (h:n<=1000) (m:Bool) (σ:ac):dD .mul m (.d (.str (av [a]))) (.d (.int n)) σ=.ok (.d (.str (av (List.replicate n.toNat a)))) σ:=by rw [JB ⟨h0,h,by rw [xX]; simp⟩,eH,yH]
theorem rO (l:List α) (lo hi:Option Int):(ar l lo hi).length<=l.length:=by unfold ar; rw [Pz,O7];exact iv (PP _ _) (Q4 _ _)
theorem r8 {g:Nat->Str} {n:Nat} (h:∀ i j,i < n->j < n->g i=g j->i=j):((List.range n).map g).Nodup:=by rw [List.Nodup,List.pairwise_map];refine List.Pairwise.imp_of_mem (λ{a b} ha hb hne=>?_) (List.nodup_range (n:=n));exact λe=>hne (h a b (O4.mp ha) (O4.mp hb) e)
theorem tK (g:Nat->Str) (n:Nat):(List.range n).map (λk=>PyData.str (g k))=((List.range n).map g).map .str:=by rw [Oq]; rfl
theorem p8:(0:Int) < 8:=by decide
theorem p4:(0:Int) < 4:=by decide
theorem iK:co none=some none:=rfl
theorem iL (i:Int):co (some (.d (.int i)))=some (some i):=rfl
theorem Dn:∀ i j:Fin 26,(5 * i.val) % 26=(5 * j.val) % 26->i=j:=by decide
theorem Fv (m:Int) {i:Nat} (hi:i < 26) (hj:j < 26) (h:((m+5 * (i:Int)) % 26).toNat=((m+5 * (j:Int)) % 26).toNat):i=j:=by
 have h1:=QJ (m+5 * (i:Int)) (by decide:(26:Int)≠0);have h2:=QJ (m+5 * (j:Int)) (by decide:(26:Int)≠0);have h3:(m+5 * (i:Int)) % 26=(m+5 * (j:Int)) % 26:=by rw [<- Pl h1,<- Pl h2,h]
 have h4:((5 * i:Nat):Int) % ((26:Nat):Int)=((5 * j:Nat):Int) % ((26:Nat):Int):=Int.emod_add_cancel_left.mp h3;rw [<- Int.natCast_emod,<- Int.natCast_emod] at h4;exact congrArg Fin.val (Dn ⟨i,hi⟩ ⟨j,hj⟩ (PL.mp h4))
noncomputable def GF (base:List Nat) (at' m:Int):Str:=av (ar base none (some at')++[97+(m % 26).toNat]++ar base (some (at'+1)) none)
theorem qt (n k:Nat):jN n (k:Int)=min k n:=by
 unfold jN;rw [if_neg (Q3.mpr (Oa k))];rcases Nat.le_total k n with h | h
 . rw [Qp (Pd.mpr h),PQ (Oa _),Oh,Pj h]
 . rw [Int.min_eq_right (Pd.mpr h),PQ (Oa _),Oh,Nat.min_eq_right h]
theorem oQ (l:List α) (k:Nat):ar l none (some (k:Int))=l.take k:=by show (l.drop 0).take (jN l.length k - 0)=_;rw [qt,List.drop_zero,Nat.sub_zero,List.take_eq_take_iff,Nat.min_assoc,Nat.min_self]
theorem oR (l:List α) (k:Nat):ar l (some (k:Int)) none=l.drop k:=by
 show (l.drop (jN l.length k)).take (l.length - jN l.length k)=_;rw [qt,Pn (OH O7)];rcases Nat.le_total k l.length with h | h
 . rw [Pj h]
 . rw [Nat.min_eq_right h,Qg,List.drop_eq_nil_of_le h]
theorem qv (c many:Int) (hm:0<=many/\many<=26) (d:Nat) (σ:ac):∃ ws:List Str,A3 (ws.length=many.toNat) (ws.Nodup) (∀ (d:Nat) (σ:ac),ae prog (d+1) 27 [.d (.int c),.d (.int many)] σ=.ok (.d (.list (ws.map .str))) σ):=by
 have iy:∀ σ',df (.d (.str aC)) (.d (.int (c % 26))) σ'=some (.d (.str (av [97+(c % 26).toNat]))):=λσ'=>CE (bI c (by decide)).1 (bI c (by decide)).2 σ';have hn:=bI (c / 26) p8;have ib:=λσ=>Hg (97+(c % 26).toNat) (n:=1+c / 26 % 8) (Pt (by decide) hn.1) (OC (Int.add_le_add_left (PU hn.2) 1) (by decide)) false σ;generalize hbase:List.replicate (1+c / 26 % 8).toNat (97+(c % 26).toNat)=base at ib;have hbl:0 < (((aI (av base)).length:Nat):Int):=by rw [eH,<- hbase,Qc,Pl (Pt (by decide) hn.1)]; exact PG (by decide) (Pp hn.1)
 have hbu:base.length<=8:=by rw [<- hbase,Qc]; exact Pc.mpr (by rw [QP]; exact hn.2)
 have hat:=bI (c / 208) hbl;rw [eH] at hat;have im:∀ σ,dD .mod false (.d (.int (c / 208))) (.d (.int ((aI (av base)).length:Int))) σ=.ok (.d (.int (c / 208 % (base.length:Int)))) σ:=λσ=>by rw [gO _ _ hbl,eH]
 generalize c / 208 % (base.length:Int)=at' at im hat;by_cases hk:c / 1664 % 3=1
 . refine ⟨(List.range many.toNat).map λ(k:Nat)=>av (List.replicate (1+(k:Int)).toNat (97+(c % 26).toNat)),by simp,r8 λi j _ _ e=>?_,λd σ=>?_⟩
   . have:=congrArg (λx=>(aI x).length) e;simp only [eH,Qc] at this;lia
   . rw [<- tK];exact (a5 prog 27 d [.d (.int c),.d (.int many)] σ rfl 4386 (iy _) (ib _) (im _) (dT hk) (uG _ rfl ⟨hm.1,OC hm.2 (by decide)⟩ λk hk=>fX (bw rfl rfl (iy _)) rfl (Hg _ (by lia) (by omega) _ _)) (same σ))
 . refine ⟨(List.range many.toNat).map λ(k:Nat)=>GF base at' (c / 4992+5 * (k:Int)),by simp,r8 λi j hi hj e=>?_,λd σ=>?_⟩
   . have:=congrArg aI e;simp only [GF,eH] at this;have:=List.append_cancel_left (List.append_cancel_right this);simp only [List.cons.injEq,and_true] at this;exact Fv (c / 4992) (OF hi (Pc.mpr hm.2)) (OF hj (Pc.mpr hm.2)) (Nat.add_left_cancel this)
   . have s1:=rO base none (some at');have s2:=rO base (some (at'+1)) none;have h1:∀ m τ,gU m (.d (.str (av base))) none (some (.d (.int at'))) τ=.ok (.d (.str (av (ar base none (some at'))))) τ:=λm τ=>by rw [yA _ _ iK (iL _),eH]
     have h2:∀ m τ,gU m (.d (.str (av base))) (some (.d (.int (at'+1)))) none τ=.ok (.d (.str (av (ar base (some (at'+1)) none)))) τ:=λm τ=>by rw [yA _ _ (iL _) iK,eH]
     have cat:∀ (a b:List Nat) (m:Bool) (τ:ac),a.length+b.length<=100->dD .add m (.d (.str (av a))) (.d (.str (av b))) τ=.ok (.d (.str (av (a++b)))) τ:=λa b m τ h=>by rw [LF (by rw [xX,xX]; unfold LIM; lia),eH,eH]
     rw [<- tK];exact (a5 prog 27 d [.d (.int c),.d (.int many)] σ rfl 4386 (iy _) (ib _) (im _) (dF hk) (uG _ rfl ⟨hm.1,OC hm.2 (by decide)⟩ λk hk=>fX (fX (yr rfl rfl rfl (h1 _ _)) (bw rfl rfl (CE (bI _ (by decide)).1 (bI _ (by decide)).2 _)) (cat _ _ _ _ (by rw [OM]; lia))) (yr rfl rfl rfl (h2 _ _)) (cat _ _ _ _ (by rw [ND,OM]; lia))) (same σ))
variable {ws:List Str}
theorem EE (h0:0<=i) (h:i < ws.length) (σ:ac):∃ w:Str,w∈ws/\df (.d (.list (ws.map .str))) (.d (.int i)) σ=some (.d (.str w)):=by have:i.toNat < ws.length:=(PV h0).mpr h;exact ⟨ws[i.toNat],Pq _,by rw [iA _ h0]; simp [this]⟩
theorem jn (hw:0 < ws.length) (x:Int) (σ:ac):0 < (((ws.map PyData.str).length:Nat):Int)/\∃ w:Str,w∈ws/\df (.d (.list (ws.map .str))) (.d (.int (x % ((ws.map PyData.str).length:Int)))) σ=some (.d (.str w)):=by
 have hwl:0 < (((ws.map PyData.str).length:Nat):Int):=by rw [Ng]; exact OO.mpr hw
 have:=bI x hwl;exact ⟨hwl,EE this.1 (by rw [Ng] at this ⊢; exact this.2) σ⟩
theorem Ks (x:Int) (σ:ac):∃ k:Nat,df (.d (.list [.str uU,.str tv,.str oi])) (.d (.int (x % 3))) σ=some (.d (.str (GU k))):=by
 have h0:=bI x (show (0:Int) < 3 by decide);have h2:(x % 3).toNat < 3:=(PV h0.1).mpr h0.2;rw [iA _ h0.1];generalize (x % 3).toNat=n at h2;exact ⟨n,match n,h2 with
   | 0,_=>rfl
   | 1,_=>rfl
   | 2,_=>rfl⟩
noncomputable def cc:Tm->List Str
 | .num _=>[]
 | .name x=>[x]
 | .op _ a b=>cc a++cc b
noncomputable def T1 (ws:List Str) (deep:Nat) (t:Tm):Prop:=(∀ x∈cc t,x∈ws)/\ht t<=deep
theorem qM (ws:List Str) (deep:Nat) (i:Int):T1 ws deep (.num i):=⟨λ_ h=>(by cases h),N3 _⟩
theorem uv (deep:Nat) (h:x∈ws):T1 ws deep (.name x):=⟨λ_ q=>NL.mp q ▸ h,N3 _⟩
noncomputable def yn (ws:List Str) (deep:Nat):Prop:=∀ (d:Nat) (c:Int) (σ:ac),deep+1 < d->∃ t,T1 ws deep t/\ae prog d 28 [.d (.int c),.d (.list (ws.map .str)),.d (.int deep)] σ=.ok (.d (bZ t)) σ
variable {deep:Nat}
theorem yv (hw:0 < ws.length) (H:∀ e,deep=e+1->yn ws e):yn ws deep:=by
 intro d c σ hd;obtain ⟨d,rfl⟩:∃ e,d=e+1:=mU (iv (N5 1 _) hd);obtain ⟨hwl,w,hwm,iw⟩:=jn hw (c / 6) σ;have R:=λ(D:Int)=>a5 prog 28 d [.d (.int c),.d (.list (ws.map .str)),.d (.int D)] σ rfl;by_cases h0:c % 6=0
 . exact ⟨.num (c / 6 % 3),qM ..,(R deep 4 (dT h0) (same σ))⟩
 by_cases h1:c % 6=1
 . exact ⟨.num (c / 6 % 1000003),qM ..,(R deep 20 (dF h0) (dT h1) (same σ))⟩
 by_cases h4:c % 6 < 4
 . exact ⟨.name w,uv _ hwm,(R deep 6548 (dF h0) (dF h1) (dT h4) (dT h4) (gO _ _ hwl) iw (same σ))⟩
 cases deep with
 | zero=>exact ⟨.name w,uv _ hwm,(R 0 12436 (dF h0) (dF h1) (dF h4) (gO _ _ hwl) iw (same σ))⟩
 | succ deep=>obtain ⟨k,hk⟩:=Ks (c / 6) σ;have hd:=P5 hd;obtain ⟨a,ha,ea⟩:=H deep rfl d (jl c 1) σ hd;obtain ⟨b,hb,eb⟩:=H deep rfl d (jl c 2) σ hd;have hD:((deep+1:Nat):Int)≠0:=λq=>absurd (PL.mp q) (QF deep);have hd0:0 < d:=OF (Qb _) (OU hd);rw [<- kn deep] at ea eb;generalize ((deep+1:Nat):Int)=D at *;exact ⟨.op k a b,⟨λx hx=>(NR.mp hx).elim (ha.1 x) (hb.1 x),N7 (Q5.mpr ⟨ha.2,hb.2⟩)⟩,(R D 4756 (dF h0) (dF h1) (dF h4) (dF hD) hk (vh hd0 c 1 σ) ea (vh hd0 c 2 σ) eb (same σ))⟩
theorem dK (ws:List Str) (hw:0 < ws.length):∀ deep,yn ws deep
 | 0=>yv hw λe h=>by cases h
 | n+1=>yv hw λe h=>by cases h; exact dK ws hw n
theorem tF:∀ t:Tm,(cc t).length<=2 ^ ht t
 | .num _=>N3 _
 | .name _=>Of _
 | .op _ a b=>by show (cc a++cc b).length<=2 ^ (max (ht a) (ht b)+1);rw [ND,Nat.pow_succ,Nat.mul_two];exact Ob (iv (tF a) (Ql (by decide) (P2 ..))) (iv (tF b) (Ql (by decide) (PT ..)))
noncomputable def gx (L:List Str) (x:Str):List Str:=if x∈L then L else L++[x]
theorem D5 (L:List Str) (x:Str):(gx L x).length<=L.length+1:=by
 unfold gx;by_cases h:x∈L
 . rw [if_pos h]; exact PI _
 . rw [if_neg h,ND]; exact Of _
theorem D4 (L:List Str) (x y:Str):y∈gx L x↔y∈L\/y=x:=by
 unfold gx;by_cases h:x∈L
 . rw [if_pos h]; exact ⟨.inl,λq=>q.elim id λe=>e ▸ h⟩
 . rw [if_neg h,NR,NL]
noncomputable def vH:Tm->List Str->List Str
 | .num _,L=>L
 | .name x,L=>gx L x
 | .op _ a b,L=>vH b (vH a L)
theorem tJ {a b:Nat} (h:max a b+1 < d+1):a < d/\b < d:=⟨Oc (P2 _ _) (P5 h),Oc (PT _ _) (P5 h)⟩
theorem pX:∀ (t:Tm) (L:List Str),(vH t L).length<=L.length+(cc t).length
 | .num _=>@λL=>Of _
 | .name x=>@λL=>D5 L x
 | .op _ a b=>@λL=>by show _<=L.length+(cc a++cc b).length;rw [ND,<- On];exact iv (pX b (vH a L)) (NS (pX a L) _)
theorem oy (L:List Str) (x:Str):((L.map PyData.str).any λy=>y.eqv (.str x))=decide (x∈L):=by
 induction L with
 | nil=>rfl
 | cons y L ih=>
   rw [Ol,Pw,ih,Gj];by_cases h:y=x
   . rw [h,decide_eq_true rfl,decide_eq_true (NE ..)]; rfl
   . rw [decide_eq_false h,P1];exact decide_eq_decide.mpr ⟨λq=>NA _ q,λq=>(NN.mp q).resolve_left (Ne.symm h)⟩
theorem fO (L:List Str) (x:Str) (σ:ac):br .isIn (.d (.str x)) (.d (.list (L.map .str))) σ=some (decide (x∈L)):=by rw [MA,y6,oy]
variable {L:List Str}
theorem Nq (h:σ[n]?=some (.lst (L.map .str))) (x:Str):br .notIn (.d (.str x)) (.loc n) σ=some (!decide (x∈L)):=by rw [um,I7 x h,oy]; rfl
theorem yP (k:Nat):decide (GU k=ju)=false:=by rcases rY k with h | h | h <;> rw [h] <;> decide
theorem o8 (k:Nat):decide (GU k=bh)=false:=by rcases rY k with h | h | h <;> rw [h] <;> decide
theorem Hl (h:σ[n]?=some (.lst l)) (hl:l.length<=900000) (x:PyData):xo .append (.loc n) σ [.d x] σ=.ok (.d .none) (σ.set n (.lst (l++[x]))):=by unfold xo;rw [vk h];exact JH h (Oc hl (by decide)) x
variable {b:Bool}
theorem nT (h:b=false):some (!b)=some true:=congrArg (λb=>some (!b)) h
theorem nF (h:b=true):some (!b)=some false:=congrArg (λb=>some (!b)) h
theorem bT (h:b=true):some b=some true:=congrArg some h
theorem bF (h:b=false):some b=some false:=congrArg some h
theorem jP (n:Nat):∀ (t:Tm) (d:Nat) (σ:ac) (L:List Str),ht t < d->σ[n]?=some (.lst (L.map .str))->L.length+(cc t).length<=1000->ae prog d 0 [.d (bZ t),.loc n] σ=.ok (.d .none) (σ.set n (.lst ((vH t L).map .str)))
 | .num i,0=>@λ_ _ hd _ _=>by cases hd
 | .name i,0=>@λ_ _ hd _ _=>by cases hd
 | .op ..,0=>@λ_ _ hd _ _=>by cases hd
 | .num i,d+1=>@λσ L hd hc hl=>by show _=Res.ok (V.d .none) (σ.set n (.lst (L.map .str)));rw [uS hc];exact ((w0 prog 0 d [.d (bZ (.num i)),.loc n] σ rfl 0)).trans (lO _ (same σ))
 | .name x,d+1=>@λσ L hd hc hl=>by
   have ck:=Nq hc x;show _=Res.ok (V.d .none) (σ.set n (.lst ((gx L x).map .str)));unfold gx;by_cases hx:x∈L
   . rw [if_pos hx,uS hc];rw [decide_eq_true hx] at ck;exact ((w0 prog 0 d [.d (bZ (.name x)),.loc n] σ rfl 16 ck)).trans (lO _ (same σ))
   . rw [if_neg hx,NP];rw [decide_eq_false hx] at ck;exact ((w0 prog 0 d [.d (bZ (.name x)),.loc n] σ rfl 16 ck (Hl hc (by rw [Ng]; exact iv (O3 hl) (by decide)) _))).trans (lO _ (yB _ _))
 | .op k a b,d+1=>@λσ L hd hc hl=>by have hl:L.length+(cc a++cc b).length<=1000:=hl;rw [ND,<- On] at hl;have h1:=jP n a d σ L (tJ hd).1 hc (iv (NZ _ _) hl);have h2:=jP n b d _ (vH a L) (tJ hd).2 (yC hc) (iv (NS (pX a L) _) hl);rw [List.set_set] at h2;exact ((w0 prog 0 d [.d (bZ (.op k a b)),.loc n] σ rfl 36 (bF (o8 k)) (nT (yP k)) h1 h2)).trans (lO _ (yB _ _))
noncomputable def o9 (ws:List Str) (t:Tm):Prop:=T1 ws 2 t
variable {t:Tm}
theorem lC (h:o9 ws t):(cc t).length<=4:=iv (tF t) (Ql (n:=2) (by decide) h.2)
theorem kZ (hd:deep<=2) (h:T1 ws deep t):o9 ws t:=⟨h.1,iv h.2 hd⟩
structure St (K:List Str) (P:Str->Prop):Prop where
 nd:K.Nodup
 mem:∀ x,x∈K↔P x
variable {K:List Str} {P:Str->Prop}
theorem St.few (h:St K P) (w7:ws.length<=7) (hp:∀ x,P x->x∈ws):K.length<=7:=iv (h.nd.length_le_of_subset λx hx=>hp x ((h.mem x).mp hx)) w7
theorem St.add (h:St K P) (y:Str):St (gx K y) λx=>P x\/x=y:=by
 refine ⟨?_,λx=>by rw [D4,h.mem x]⟩;unfold gx;by_cases q:y∈K
 . rw [if_pos q]; exact h.nd
 . rw [if_neg q];exact Pf.mpr ⟨h.nd,QB _ y,λa ha b hb e=>q (NL.mp hb ▸ e ▸ ha)⟩
theorem St.nil:St [] λ_=>False:=⟨PN,λx=>⟨(λh=>by cases h),False.elim⟩⟩
theorem St.of {Q:Str->Prop} (h:St K P) (e:∀ x,P x↔Q x):St K Q:=⟨h.nd,λx=>(h.mem x).trans (e x)⟩
theorem tW:∀ (t:Tm) {L:List Str} {P:Str->Prop},St L P->St (vH t L) λx=>P x\/x∈cc t
 | .num _,L,P,h=>h.of λx=>⟨.inl,λq=>q.elim id λq=>by cases q⟩
 | .name y,L,P,h=>(h.add y).of λx=>or_congr Iff.rfl NL.symm
 | .op _ a b,L,P,h=>(tW b (tW a h)).of λx=>by show _↔P x\/x∈cc a++cc b;rw [NR,or_assoc]
theorem dm (h:o9 ws t) (d:Nat) (σ:ac):∃ L:List Str,St L (·∈cc t)/\ae prog (d+4) 1 [.d (bZ t)] σ=.ok (.d (.list (L.map .str))) σ:=by have hl:=lC h;have e:=jP σ.length t (d+3) (σ++[.lst []]) [] (Oc h.2 (iP d (by decide))) (aM _ _) (by rw [OY,Pe]; exact iv hl (by decide));rw [fe] at e;exact ⟨vH t [],(tW t St.nil).of λx=>⟨λq=>q.resolve_left id,.inr⟩,(a5 prog 1 (d+3) [.d (bZ t)] σ rfl 0 e (ke _ _) (b7 _ _))⟩
theorem iB {a b:List PyData} (h:a.length+b.length<=100000) (σ:ac):dD .add false (.d (.list a)) (.d (.list b)) σ=.ok (.d (.list (a++b))) σ:=JD (iv h (by decide)) _ _
theorem gQ {a b:List PyData} (h:a.length+b.length<=100000) (σ:ac):dD .add false (.d (.tuple a)) (.d (.tuple b)) σ=.ok (.d (.tuple (a++b))) σ:=JC (iv h (by decide)) _ _
theorem li:∀ (t:Tm) (d:Nat) (σ:ac),ht t < d->(cc t).length<=1000->ae prog d 37 [.d (bZ t)] σ=.ok (.d (.list ((cc t).map .str))) σ
 | .num i,0=>@λ_ hd _=>by cases hd
 | .name i,0=>@λ_ hd _=>by cases hd
 | .op ..,0=>@λ_ hd _=>by cases hd
 | .num i,d+1=>@λσ hd hl=>(a5 prog 37 d [.d (bZ (.num i))] σ rfl 0 (same σ))
 | .name x,d+1=>@λσ hd hl=>(a5 prog 37 d [.d (bZ (.name x))] σ rfl 0 (same σ))
 | .op k a b,d+1=>@λσ hd hl=>by have hl:(cc a++cc b).length<=1000:=hl;rw [ND] at hl;have h1:=li a d σ (tJ hd).1 (iv (NZ _ _) hl);have h2:=li b d σ (tJ hd).2 (iv (N5 _ _) hl);rw [show cc (.op k a b)=cc a++cc b from rfl,NP];exact (a5 prog 37 d [.d (bZ (.op k a b))] σ rfl 292 (bF (o8 k)) (bF (yP k)) h1 h2 (iB (by rw [Ng,Ng]; exact iv hl (by decide)) _) (same σ))
theorem kq (h:o9 ws t) (d:Nat) (σ:ac):ae prog (d+3) 37 [.d (bZ t)] σ=.ok (.d (.list ((cc t).map .str))) σ:=li t (d+3) σ (Oc h.2 (iP d (by decide))) (iv (lC h) (by decide))
mutual
inductive Rw where
 | set (x:Str) (t:Tm)
 | tell (t:Tm)
 | call (o:Option Str) (f:Str) (ts:List Tm)
 | whn (t:Tm) (b:RL)
 | aga (n:Int) (b:RL)
inductive RL where
 | nil
 | cons (r:Rw) (b:RL)
end
noncomputable def Rw.ctorIdx (t:Rw):Nat:=by cases (t); exact 0; exact 1; exact 2; exact 3; exact 4
noncomputable def RL.ctorIdx (t:RL):Nat:=by cases (t); exact 0; exact 1
noncomputable def u7:Option Str->PyData
 | none=>.none
 | some x=>.str x
mutual
noncomputable def ba:Rw->PyData
 | .set x t=>.tuple [.str ie,.str x,bZ t]
 | .tell t=>.tuple [.str wW,bZ t]
 | .call o f ts=>.tuple [.str bC,u7 o,.str f,.tuple (ts.map bZ)]
 | .whn t b=>.tuple [.str jt,bZ t,.tuple (ak b)]
 | .aga n b=>.tuple [.str du,.int n,.tuple (ak b)]
noncomputable def ak:RL->List PyData
 | .nil=>[]
 | .cons r b=>ba r::ak b
end
mutual
noncomputable def hR:Rw->Nat
 | .whn _ b=>hL b+1
 | .aga _ b=>hL b+1
 | _=>0
noncomputable def hL:RL->Nat
 | .nil=>0
 | .cons r b=>max (hR r) (hL b)
end
mutual
noncomputable def nR:Rw->Nat
 | .whn _ b=>nL b+1
 | .aga _ b=>nL b+1
 | _=>1
noncomputable def nL:RL->Nat
 | .nil=>0
 | .cons r b=>nR r+nL b
end
abbrev CS:=List (Str×Nat)
mutual
noncomputable def lr (ws:List Str) (cs:CS):Rw->Prop
 | .set x t=>x∈ws/\o9 ws t
 | .tell t=>o9 ws t
 | .call o f ts=>(∀ x,o=some x->x∈ws)/\(∀ t∈ts,o9 ws t)/\ts.length<=4/\(f,ts.length)∈cs
 | .whn t b=>o9 ws t/\gA ws cs b
 | .aga _ b=>gA ws cs b
noncomputable def gA (ws:List Str) (cs:CS):RL->Prop
 | .nil=>True
 | .cons r b=>lr ws cs r/\gA ws cs b
end
noncomputable def fL:List Rw->RL
 | []=>.nil
 | r::l=>.cons r (fL l)
theorem jU:∀ l:List Rw,ak (fL l)=l.map ba
 | []=>rfl
 | r::l=>congrArg (ba r::·) (jU l)
variable {cs:CS}
theorem k7:∀ l:List Rw,(∀ r∈l,lr ws cs r)->gA ws cs (fL l)
 | []=>@λ_=>trivial
 | r::l=>@λh=>⟨h r (NE ..),k7 l λx hx=>h x (NA _ hx)⟩
theorem pV:∀ l:List Rw,(∀ r∈l,hR r<=n)->hL (fL l)<=n
 | []=>@λ_=>N3 _
 | r::l=>@λh=>Q5.mpr ⟨h r (NE ..),pV l λx hx=>h x (NA _ hx)⟩
theorem GY:∀ l:List Rw,(∀ r∈l,nR r<=n)->nL (fL l)<=l.length * n
 | []=>@λ_=>N3 _
 | r::l=>@λh=>by show nR r+nL (fL l)<=(l.length+1) * n;rw [Qd,Oj];exact Ob (GY l λx hx=>h x (NA _ hx)) (h r (NE ..))
structure Fd where
 nm:Str
 ps:List Str
 rs:RL
 t:Tm
noncomputable def aq (f:Fd):PyData:=.tuple [.str f.nm,.tuple (f.ps.map .str),.tuple (ak f.rs),bZ f.t]
noncomputable def nq (f:Fd):Str×Nat:=(f.nm,f.ps.length)
noncomputable def IE (ws:List Str) (cs:CS) (f:Fd):Prop:=(∀ x∈f.ps,x∈ws)/\f.ps.length<=4/\nq f∈cs
structure okF (ws:List Str) (cs:CS) (f:Fd):Prop where
 ps:∀ x∈f.ps,x∈ws
 p4:f.ps.length<=4
 rs:gA ws cs f.rs
 h9:hL f.rs<=9
 n4:nL f.rs<=600
 t:o9 ws f.t
theorem jV (m:Bool) (x:List PyData) {l h:Option Int} (hl:co lo=some l) (hh:co hi=some h) (σ:ac):gU m (.d (.tuple x)) lo hi σ=.ok (.d (.tuple (ar x l h))) σ:=by unfold gU;rw [hl,hh]; rfl
theorem rN {β:Type} (f:α->β) (l:List α) (lo hi:Option Int):ar (l.map f) lo hi=(ar l lo hi).map f:=by unfold ar; rw [Ng,QD,Qm]
theorem zZ {l:List α} {lo hi:Option Int} {x:α} (h:x∈ar l lo hi):x∈l:=O9 (Oi h)
theorem lQ (l:List PyData) (σ:ac):br .eq (.d (.list l)) (.d (.list [])) σ=some l.isEmpty:=by show Jr (.list l) (.list [])=_;rw [lR (iv (PP _ _) (by decide))];cases l <;> rfl
theorem CP (h0:0<=i) (h:i < l.length) (σ:ac):∃ x,x∈l/\df (.d (.list l)) (.d (.int i)) σ=some (.d x):=by have:i.toNat < l.length:=(PV h0).mpr h;exact ⟨l[i.toNat],Pq _,by rw [iA _ h0,NC this]; rfl⟩
theorem zd (φ:α->PyData) {l:List α} (h:0 < l.length) (x:Int):0 < (((l.map φ).length:Nat):Int)/\∃ a,a∈l/\∀ σ,df (.d (.list (l.map φ))) (.d (.int (x % ((l.map φ).length:Int)))) σ=some (.d (φ a)):=by
 have hl:0 < (((l.map φ).length:Nat):Int):=by rw [Ng]; exact OO.mpr h
 have b:=bI x hl;have:(x % ((l.map φ).length:Int)).toNat < l.length:=Nat.lt_of_lt_of_eq ((PV b.1).mpr b.2) (Ng φ);exact ⟨hl,l[(x % ((l.map φ).length:Int)).toNat],Pq _,λσ=>by rw [iA _ b.1,Om,NC this]; rfl⟩
theorem ES (a0:α) {p:Nat->Prop} {Q:Nat->α->Prop} (h:∀ k,p k->∃ r,Q k r):∃ g:Nat->α,∀ k,p k->Q k (g k):=by
 classical exact ⟨λk=>if hk:p k then Classical.choose (h k hk) else a0,λk hk=>by show Q k (if hk:p k then Classical.choose (h k hk) else a0); rw [dif_pos hk]; exact Classical.choose_spec (h k hk)⟩
theorem yc (hw:0 < ws.length) (hx:x∈ws) (c:Int) (d:Nat) (σ:ac):∃ t,o9 ws t/\ae prog (d+4) 29 [.d (.int c),.d (.list (ws.map .str)),.d (.str x)] σ=.ok (.d (bZ t)) σ:=by
 by_cases h:c % 2=0
 . exact ⟨.name x,uv _ hx,(a5 prog 29 (d+3) [.d (.int c),.d (.list (ws.map .str)),.d (.str x)] σ rfl 4 (dT h) (same σ))⟩
 . obtain ⟨t,h1,h2⟩:=dK ws hw 1 (d+3) (c / 2) σ (iP d (by decide));exact ⟨t,kZ (by decide) h1,(a5 prog 29 (d+3) [.d (.int c),.d (.list (ws.map .str)),.d (.str x)] σ rfl 4 (dF h) h2 (same σ))⟩
variable {fs:List Fd}
theorem AZ (hw:0 < ws.length) (hf:0 < fs.length) (hok:∀ f∈fs,IE ws cs f) (c:Int) (d:Nat) (σ:ac):∃ r,(lr ws cs r/\hR r=0/\nR r=1)/\ae prog (d+6) 30 [.d (.int c),.d (.list (ws.map .str)),.d (.list (fs.map aq))] σ=.ok (.d (ba r)) σ:=by
 refine kk λK k=>?_;obtain ⟨hfl,f,hf1,ih⟩:=zd aq hf (c / 7);have ih:=ih σ;have of:=hok f hf1;obtain ⟨hwl,w,hwm,iw⟩:=jn hw (c / 49) σ;have hsk:∀ k:Nat,k < f.ps.length->∃ t,o9 ws t/\ae prog (d+5) 29 [.d (.int (jl c (10+k))),.d (.list (ws.map .str)),.d (.str ((f.ps[k]?).getD bh))] (σ++[.busy])=.ok (.d (bZ t)) (σ++[.busy]):=λk hk=>yc hw (of.1 _ (by rw [NC hk]; exact Pq _)) _ (d+1) _
 obtain ⟨g,hg⟩:=ES (.num 0) hsk;have hlen:(f.ps.map PyData.str).length=f.ps.length:=Ng _;have comp:=uG (G:=prog.G) (cf:=ae prog (d+5)) (i:=6) (eb:=.bi .len false (.cons (.idx (.var 3) (.int 1)) (.nil))) (e:=.call 29 (.cons (.call 26 (.cons (.var 0) (.cons (.bin .add false (.int 10) (.var 6)) (.nil)))) (.cons (.var 1) (.cons (.idx (.idx (.var 3) (.int 1)) (.var 6)) (.nil)))))
   (ρ:=(F7 (.d (.int c)) (.d (.list (ws.map .str))) (.d (.list (fs.map aq))) (.d (aq f)) .un .un .un)) (σ:=σ) (b:=((f.ps.map PyData.str).length:Int)) (λk=>bZ (g k)) rfl ⟨Oa _,by rw [hlen]; exact Pd.mpr (iv of.2.1 (by decide))⟩ (λk hk=>by rw [hlen,Oh] at hk;exact ay (de (ay rfl (dC (d+4) c (10+k) _)) (de rfl (iz (bw rfl rfl (by rw [b9,Om,NC hk]; rfl))))) (by have:=(hg k hk).2; rw [NC hk] at this; exact this))
 rw [hlen,Oh] at comp;have okts:(∀ t∈(List.range f.ps.length).map g,o9 ws t)/\((List.range f.ps.length).map g).length=f.ps.length:=by refine ⟨λt ht=>?_,by rw [Ng,O2]⟩;obtain ⟨k,hk,rfl⟩:=Ok.mp ht;exact (hg k (O4.mp hk)).1
 have e:(List.range f.ps.length).map (λk=>bZ (g k))=((List.range f.ps.length).map g).map bZ:=by rw [Oq]; rfl
 rw [e] at comp;refine k ?_;generalize (List.range f.ps.length).map g=ts at comp okts;have okc:∀ o:Option Str,(∀ x,o=some x->x∈ws)->lr ws cs (.call o f.nm ts):=λo ho=>⟨ho,okts.1,okts.2 ▸ of.2.1,okts.2.symm ▸ of.2.2⟩;by_cases h3:c % 3=0
 . exact ⟨.call none f.nm ts,⟨okc none (λx hx=>by cases hx),rfl,rfl⟩,(a5 prog 30 (d+5) [.d (.int c),.d (.list (ws.map .str)),.d (.list (fs.map aq))] σ rfl 1228 (gO _ _ hfl) ih comp (gO _ _ hwl) iw (dT h3) (same σ))⟩
 . exact ⟨.call (some w) f.nm ts,⟨okc (some w) (λx hx=>by cases hx; exact hwm),rfl,rfl⟩,(a5 prog 30 (d+5) [.d (.int c),.d (.list (ws.map .str)),.d (.list (fs.map aq))] σ rfl 1228 (gO _ _ hfl) ih comp (gO _ _ hwl) iw (dF h3) (same σ))⟩
noncomputable def KK:Nat->Nat
 | 0=>1
 | n+1=>1+3 * KK n
theorem JM:∀ n,1<=KK n
 | 0=>Of _
 | n+1=>NZ ..
noncomputable def Ho (ws:List Str) (deep:Nat):Prop:=∀ (cs:CS) (fs:List Fd) (c:Int) (d:Nat) (σ:ac),(∀ f∈fs,IE ws cs f)->2 * deep+8<=d->∃ r,(lr ws cs r/\hR r<=deep/\nR r<=KK deep)/\
 ae prog d 31 [.d (.int c),.d (.list (ws.map .str)),.d (.list (fs.map aq)),.d (.int (deep:Int))] σ=.ok (.d (ba r)) σ
noncomputable def yo (ws:List Str) (deep:Nat):Prop:=∀ (cs:CS) (fs:List Fd) (c many:Int) (d:Nat) (σ:ac),(∀ f∈fs,IE ws cs f)->0<=many/\many<=30->2 * deep+9<=d->∃ rs,(gA ws cs rs/\hL rs<=deep/\nL rs<=many.toNat * KK deep)/\
 ae prog d 32 (F5 (.d (.int c)) (.d (.list (ws.map .str))) (.d (.list (fs.map aq))) (.d (.int (deep:Int))) (.d (.int many))) σ=.ok (.d (.tuple (ak rs))) σ
theorem Fe (h:(n:Int) > 0):∃ e,n=e+1:=mU (OO.mp h)
variable {x:Int}
theorem Jo (h:0<=x/\x < 3):0<=1+x/\1+x<=30:=⟨Pt (by decide) h.1,OC (Int.add_le_add_left (PU h.2) 1) (by decide)⟩
theorem yQ (h:0<=x/\x < 2):∃ n:Nat,1+x=(n:Int)/\n<=2:=⟨(1+x).toNat,(Pl (Pt (by decide) h.1)).symm,Pc.mpr (by rw [QP]; exact h.2)⟩
theorem mP (H:Ho ws deep):yo ws deep:=by
 intro cs fs c many d σ hok hm hd;obtain ⟨d,rfl⟩:∃ e,d=e+2:=mU (iv (N5 2 (2 * deep+7)) hd);have hsk:∀ k:Nat,True->∃ r,(lr ws cs r/\hR r<=deep/\nR r<=KK deep)/\ae prog (d+1) 31 [.d (.int (jl c (20+k))),.d (.list (ws.map .str)),.d (.list (fs.map aq)),.d (.int (deep:Int))] (σ++[.busy])=.ok (.d (ba r)) (σ++[.busy]):=λk _=>H cs fs _ (d+1) _ hok (PF hd)
 obtain ⟨g,hg⟩:=ES (.tell (.num 0)) hsk;refine ⟨fL ((List.range many.toNat).map g),⟨k7 _ λr hr=>?_,pV _ λr hr=>?_,?_⟩,?_⟩
 . obtain ⟨k,_,rfl⟩:=Ok.mp hr; exact (hg k trivial).1.1
 . obtain ⟨k,_,rfl⟩:=Ok.mp hr; exact (hg k trivial).1.2.1
 . have:=GY (n:=KK deep) ((List.range many.toNat).map g) λr hr=>by obtain ⟨k,_,rfl⟩:=Ok.mp hr; exact (hg k trivial).1.2.2
   simpa using this
 . rw [jU,Oq];exact (a5 prog 32 (d+1) (F5 (.d (.int c)) (.d (.list (ws.map .str))) (.d (.list (fs.map aq))) (.d (.int (deep:Int))) (.d (.int many))) σ rfl 0 (uG (λk=>ba (g k)) rfl ⟨hm.1,OC hm.2 (by decide)⟩ λk hk=>ay (de (ay rfl (dC d c (20+k) _)) rfl) (hg k trivial).2) (same σ))
variable {e:Nat} {rs:RL}
theorem oX {c:Int} (hm:0<=c / 9 % 3/\c / 9 % 3 < 3) (h:nL rs<=(1+c / 9 % 3).toNat * KK e):nL rs+1<=1+3 * KK e:=by rw [Oj];exact Oe (iv h (ON (KK e) (Pc.mpr (by rw [QP]; exact hm.2)))) 1
theorem lH (l:List Int) (h0:0<=i) (h:i < l.length) (σ:ac):∃ n,n∈l/\df (.d (.list (l.map .int))) (.d (.int i)) σ=some (.d (.int n)):=by refine kk λK k=>?_;obtain ⟨x,hx,e⟩:=CP (l:=l.map .int) h0 (by simpa using h) σ;obtain ⟨n,hn,rfl⟩:=Ok.mp hx;refine k ?_;exact ⟨n,hn,e⟩
theorem on (l:List PyData) (σ:ac):br .ne (.d (.list l)) (.d (.list [])) σ=some (!l.isEmpty):=by show (br .eq (.d (.list l)) (.d (.list [])) σ).map _=_;rw [lQ]; rfl
set_option maxHeartbeats 1000000 in
theorem BZ (hw:0 < ws.length) (H:∀ e,deep=e+1->yo ws e):Ho ws deep:=by
 intro cs fs c d σ hok hd;obtain ⟨d,rfl⟩:∃ e,d=e+7:=mU (iv (N5 7 (2 * deep+1)) hd);obtain ⟨hwl,w,hwm,iw⟩:=jn hw (c / 9) σ;obtain ⟨few,fok,few'⟩:∃ few:List Fd,(∀ f∈few,IE ws cs f)/\gU false (.d (.list (fs.map aq))) none (some (.d (.int (1+if decide (c / 3645 % 8=1) then 1 else 0)))) σ=.ok (.d (.list (few.map aq))) σ:=
   ⟨ar fs none (some (1+if decide (c / 3645 % 8=1) then 1 else 0)),λf hf=>hok f (zZ hf),congrArg (λl=>Res.ok (V.d (.list l)) σ) (rN ..)⟩
 have kp:=JM deep;have hm:=bI (c / 9) (show (0:Int) < 3 by decide);have R:=λ(D:Int)=>a5 prog 31 (d+6) [.d (.int c),.d (.list (ws.map .str)),.d (.list (fs.map aq)),.d (.int D)] σ rfl;have m3:=dC (d+5) c 3 σ;have bm:=gO (x:=c / 9) σ false hwl;by_cases h1:c % 9=2
 . obtain ⟨t,ht,et⟩:=dK ws hw 2 (d+6) (jl c 3) σ (iP d (by decide));exact ⟨.tell t,⟨kZ (by decide) ht,N3 _,kp⟩,(R deep 25624 m3 bm iw few' (dT h1) (dT h1) et (same σ))⟩
 by_cases h1':c % 9=8
 . obtain ⟨t,ht,et⟩:=dK ws hw 2 (d+6) (jl c 3) σ (iP d (by decide));exact ⟨.tell t,⟨kZ (by decide) ht,N3 _,kp⟩,(R deep 42008 m3 bm iw few' (dF h1) (dT h1') et (same σ))⟩
 have k2:=λ(D:Int)=>rH (G:=prog.G) (cf:=ae prog (d+6)) (e:=.cmp .lt (.int 2) (.var 4)) (e':=.cmp .lt (.var 4) (.int 6)) (es:=.cons (.cmp .ne (.var 2) (.list false (.nil))) (.nil)) (ρ:=(Es (.d (.int c)) (.d (.list (ws.map .str))) (.d (.list (fs.map aq))) (.d (.int D)) (.d (.int (c % 9))) (.d (.int (jl c 3))) (.d (.str w)) (.d (.list (few.map aq))) .un .un)) (cx rfl rfl rfl) λ_=>rH (cx rfl rfl rfl) λ_=>dy (cx rfl rfl (on _ σ));cases h2:(decide (2 < c % 9)&&(decide (c % 9 < 6)&&!(fs.map aq).isEmpty)) with
 | true=>
   have hf:0 < fs.length:=by
     cases fs with
     | nil=>rw [OV,List.isEmpty_nil,PK,QY,QY] at h2; cases h2
     | cons _ _=>exact Qb _
   obtain ⟨r,⟨h5,h6,h7⟩,er⟩:=AZ hw hf hok (jl c 3) d σ;exact ⟨r,⟨h5,h6 ▸ N3 _,h7 ▸ kp⟩,(R deep 238616 m3 bm iw few' (dF h1) (dF h1') (k2 deep) (bT h2) er (same σ))⟩
 | false=>
   by_cases hD:(deep:Int) > 0
   . refine kk λK k=>?_;obtain ⟨e,rfl⟩:∃ e,deep=e+1:=Fe hD;obtain ⟨rs,⟨a1,a2,a3⟩,ers⟩:=H e rfl cs few (jl c 3) (1+c / 9 % 3) (d+6) σ fok (Jo hm) (PF hd);rw [<- kn e] at ers;refine k ?_;generalize ((e+1:Nat):Int)=D at *;by_cases h3:c % 9=6
     . obtain ⟨t,ht,et⟩:=dK ws hw 1 (d+6) (jl c 4) σ (iP d (by decide));exact ⟨.whn t rs,⟨⟨kZ (by decide) ht,a1⟩,N7 a2,oX hm a3⟩,(R D 5481496 m3 bm iw few' (dF h1) (dF h1') (k2 D) (bF h2) (dT h3) (dT hD) ers (dC (d+5) c 4 σ) et (same σ))⟩
     by_cases h4:c % 9=7
     . have b4:=bI (c / 27) p4;have b5:=bI (c / 27) (show (0:Int) < 5 by decide);refine kk λK k=>?_;obtain ⟨n4,m4,i4⟩:=lH [2,1,2,0] b4.1 b4.2 σ;obtain ⟨n5,m5,i5⟩:=lH [2,3,1,c / 135 % 10,0] b5.1 b5.2 σ;refine k ?_;have k5:=rH (G:=prog.G) (cf:=ae prog (d+6)) (e:=.cmp .eq (.var 2) (.list false (.nil))) (e':=.cmp .eq (.var 3) (.int 2)) (es:=.nil) (ρ:=(Es (.d (.int c)) (.d (.list (ws.map .str))) (.d (.list (fs.map aq))) (.d (.int D)) (.d (.int (c % 9))) (.d (.int (jl c 3))) (.d (.str w)) (.d (.list (few.map aq))) .un (.d (.int n4)))) (cx rfl rfl (lQ _ σ)) λ_=>dy (cx rfl rfl rfl);cases h5:((fs.map aq).isEmpty&&decide (D=2)) with
       | true=>exact ⟨.aga n5 rs,⟨a1,N7 a2,oX hm a3⟩,(R D 72564843544 m3 bm iw few' (dF h1) (dF h1') (k2 D) (bF h2) (dF h3) (dF h3) (dT h4) (dT hD) i4 k5 (bT h5) i5 ers (same σ))⟩
       | false=>exact ⟨.aga n4 rs,⟨a1,N7 a2,oX hm a3⟩,(R D 3845366808 m3 bm iw few' (dF h1) (dF h1') (k2 D) (bF h2) (dF h3) (dF h3) (dT h4) (dT hD) i4 k5 (bF h5) ers (same σ))⟩
     refine kk λK k=>?_;obtain ⟨n,hn,hn2⟩:∃ n:Nat,1+c % 9 % 2=(n:Int)/\n<=2:=yQ (bI (c % 9) (by decide));obtain ⟨t,ht,et⟩:=dK ws hw n (d+6) (jl c 3) σ (Oc (N7 hn2) (iP d (by decide)));rw [<- hn] at et;refine k ?_;exact ⟨.set w t,⟨⟨hwm,kZ hn2 ht⟩,N3 _,kp⟩,(R D 53715992 m3 bm iw few' (dF h1) (dF h1') (k2 D) (bF h2) (dF h3) (dF h3) (dF h4) (dF h4) et (same σ))⟩
   . obtain ⟨n,hn,hn2⟩:∃ n:Nat,1+c % 9 % 2=(n:Int)/\n<=2:=yQ (bI (c % 9) (by decide));obtain ⟨t,ht,et⟩:=dK ws hw n (d+6) (jl c 3) σ (Oc (N7 hn2) (iP d (by decide)));rw [<- hn] at et;refine ⟨.set w t,⟨⟨hwm,kZ hn2 ht⟩,N3 _,kp⟩,?_⟩;by_cases h3:c % 9=6
     . have h4:¬ c % 9=7:=λq=>by rw [h3] at q; cases q
       exact (R deep 106144792 m3 bm iw few' (dF h1) (dF h1') (k2 deep) (bF h2) (dT h3) (dF hD) (dF h4) (dF h4) et (same σ))
     by_cases h4:c % 9=7
     . exact (R deep 87270424 m3 bm iw few' (dF h1) (dF h1') (k2 deep) (bF h2) (dF h3) (dF h3) (dT h4) (dF hD) et (same σ))
     exact (R deep 53715992 m3 bm iw few' (dF h1) (dF h1') (k2 deep) (bF h2) (dF h3) (dF h3) (dF h4) (dF h4) et (same σ))
theorem yF (hw:0 < ws.length):∀ deep,yo ws deep
 | 0=>mP (BZ hw λe h=>by cases h)
 | n+1=>mP (BZ hw λe h=>by cases h; exact yF hw n)
noncomputable def JS (ws:List Str) (cs:CS) (f:Fd):Prop:=okF ws cs f/\hL f.rs<=2/\nL f.rs<=390
theorem rB (hw:0 < ws.length) (hok:∀ f∈fs,IE ws cs f) (c:Int) (nm:Str) (d:Nat) (σ:ac):∃ f,(JS ws cs f/\f.nm=nm)/\
   ae prog (d+16) 34 [.d (.int c),.d (.str nm),.d (.list (ws.map .str)),.d (.list (fs.map aq))] σ=.ok (.d (aq f)) σ:=by
 have b6:=bI c (show (0:Int) < 6 by decide);have b6':=bI (c / 30) (show (0:Int) < 6 by decide);obtain ⟨n0,hn0,i0⟩:=lH [0,1,2,2,3,4] b6.1 b6.2 σ;obtain ⟨n6,hn6,i6⟩:=lH [3,4,2,5,0,6] b6'.1 b6'.2 σ;have b0:0<=n0/\n0<=4:=(by decide:∀ x∈([0,1,2,2,3,4]:List Int),0<=x/\x<=4) n0 hn0;have b6:0<=n6/\n6<=6:=(by decide:∀ x∈([3,4,2,5,0,6]:List Int),0<=x/\x<=6) n6 hn6;have hwl:=(jn hw 0 σ).1;have hsk:∀ k:Nat,True->∃ w,w∈ws/\df (.d (.list (ws.map .str))) (.d (.int ((c / 6 % ((ws.map PyData.str).length:Int)+2 * k) % ((ws.map PyData.str).length:Int)))) (σ++[.busy])=some (.d (.str w)):=λk _=>(jn hw _ _).2;obtain ⟨g,hg⟩:=ES bh hsk;obtain ⟨t,ht,et⟩:=dK ws hw 1 (d+15) (jl c 6) σ (iP d (by decide));have okp:((List.range n0.toNat).map g).length<=4:=by rw [Ng,O2]; exact Pc.mpr b0.2
 have okw:∀ x∈(List.range n0.toNat).map g,x∈ws:=λx hx=>by obtain ⟨k,_,rfl⟩:=Ok.mp hx;exact (hg k trivial).1
 have cm:ag prog.G (ae prog (d+15)) (.comp false (.var 8) (.range (.idx (.list false (.cons (.int 0) (.cons (.int 1) (.cons (.int 2) (.cons (.int 2) (.cons (.int 3) (.cons (.int 4) (.nil)))))))) (.bin .mod false (.var 0) (.int 6)))) .no (.idx (.var 2) (.bin .mod false (.bin .add false (.var 4) (.bin .mul false (.int 2) (.var 8))) (.bi .len false (.cons (.var 2) (.nil)))))) (F9 (.d (.int c)) (.d (.str nm)) (.d (.list (ws.map .str))) (.d (.list (fs.map aq))) (.d (.int (c / 6 % ((ws.map PyData.str).length:Int)))) .un .un .un .un) σ=.ok (.d (.list (((List.range n0.toNat).map g).map .str))) σ:=by rw [<- tK];exact uG (λk=>.str (g k)) (bw rfl rfl i0) ⟨b0.1,OC b0.2 (by decide)⟩ λk hk=>bw rfl (fX rfl rfl (gO _ _ hwl)) (hg k trivial).2
 generalize (List.range n0.toNat).map g=ps at cm okp okw;have R:=a5 prog 34 (d+15) [.d (.int c),.d (.str nm),.d (.list (ws.map .str)),.d (.list (fs.map aq))] σ rfl;have fin:∀ (M:Int) (hs:List Fd) (deep:Nat),0<=M/\M<=30->(∀ f∈hs,IE ws cs f)->deep<=2->∃ rs,ae prog (d+15) 32 (F5 (.d (.int (jl c 5))) (.d (.list (ws.map .str))) (.d (.list (hs.map aq))) (.d (.int deep)) (.d (.int M))) σ=.ok (.d (.tuple (ak rs))) σ/\JS ws cs ⟨nm,ps,rs,t⟩:=λM hs deep bM hok' hd2=>by obtain ⟨rs,hrs,ers⟩:=yF hw deep cs hs (jl c 5) M (d+15) σ hok' bM (iv (NS (OR 2 hd2) 9) (iv (by decide) (N5 15 d)));have hk:KK deep<=13:=(by decide:∀ n,n < 3->KK n<=13) deep (P9 hd2);have hn:nL rs<=390:=iv hrs.2.2 (QX (Pc.mpr bM.2) hk);exact ⟨rs,ers,⟨okw,okp,hrs.1,iv hrs.2.1 (iv hd2 (by decide)),iv hn (by decide),kZ (by decide) ht⟩,iv hrs.2.1 hd2,hn⟩
 have bl:=gO (x:=c / 6) σ false hwl;have m5:=dC (d+14) c 5 σ;have m6:=dC (d+14) c 6 σ;have one:∀ b:Bool,some (b:Bool)=some b:=λ_=>rfl;by_cases h1:c / 180 % 12=1
 . have bM:=bI (c / 2160) (show (0:Int) < 30 by decide);by_cases h2:c / 2160 % 30 > 6
   . obtain ⟨rs,e,ok⟩:=fin (c / 2160 % 30) [] 1 ⟨bM.1,PU bM.2⟩ (λf hf=>by cases hf) (by decide);exact ⟨_,⟨ok,rfl⟩,(R 83012 bl cm i6 (dT h1) (dT h2) m5 ((show zE .int false [.d (.bool (decide (c / 2160 % 30 > 6)))] σ=.ok (.d (.int 1)) σ by rw [decide_eq_true h2]; rfl)) e m6 et (same σ))⟩
   . obtain ⟨rs,e,ok⟩:=fin (c / 2160 % 30) fs 2 ⟨bM.1,PU bM.2⟩ hok (by decide);exact ⟨_,⟨ok,rfl⟩,(R 83012 bl cm i6 (dT h1) (dF h2) m5 ((show zE .int false [.d (.bool (decide (c / 2160 % 30 > 6)))] σ=.ok (.d (.int 0)) σ by rw [decide_eq_false h2]; rfl)) e m6 et (same σ))⟩
 . have h2:¬ n6 > 6:=Q3.mpr b6.2;obtain ⟨rs,e,ok⟩:=fin n6 fs 2 ⟨b6.1,OC b6.2 (by decide)⟩ hok (by decide);exact ⟨_,⟨ok,rfl⟩,(R 21572 bl cm i6 (dF h1) (dF h2) m5 ((show zE .int false [.d (.bool (decide (n6 > 6)))] σ=.ok (.d (.int 0)) σ by rw [decide_eq_false h2]; rfl)) e m6 et (same σ))⟩
theorem qw (l:List Int) (a:Nat):∃ ws:List Str,(5<=ws.length/\ws.length<=7)/\∀ (d:Nat) (σ:ac),ae prog (d+3) 35 [.d (.list (l.map .int)),.d (.int (a:Int))] σ=.ok (.d (.list (ws.map .str))) σ:=by
 generalize hM:(5+2 * (if decide (cJ l (a+2) / 512 % 8=1) then 1 else 0):Int)=M;have bM:5<=M/\M<=7:=by rw [<- hM];cases decide (cJ l (a+2) / 512 % 8=1) <;> decide
 obtain ⟨ws,h1,_,h3⟩:=qv (cJ l a) M ⟨OC (by decide) bM.1,OC bM.2 (by decide)⟩ 0 [];refine ⟨ws,⟨h1 ▸ Int.toNat_le_toNat bM.1,h1 ▸ Int.toNat_le_toNat bM.2⟩,λd σ=>?_⟩;have h3:=h3 (d+1) σ;rw [<- hM] at h3;exact (a5 prog 35 (d+2) [.d (.list (l.map .int)),.d (.int (a:Int))] σ rfl 0 (c6 (d+1) l a σ) (kj (d+1) l σ (a+2) _ rfl) h3 (same σ))
theorem IP (n:Nat):(-1:Int)+((n+1:Nat):Int)=(n:Int):=by rw [QP]; exact kn n
theorem vA (a:List PyData) (x:PyData) (σ:ac):df (.d (.tuple (a++[x]))) (.d (.int (-1))) σ=some (.d x):=by
 rw [y9];have e:(-1:Int)+((a++[x]).length:Int)=(a.length:Int):=by rw [ND,OM]; exact IP _
 have:index (a++[x]).length (-1)=some a.length:=by unfold index;rw [if_neg (by decide),e,if_pos (Oa _)]; rfl
 rw [this];show ((a++[x])[a.length]?).map V.d=_;rw [N6 (Of _),QQ]; rfl
theorem wR (a:List α) (x:α):ar (a++[x]) none (some (-1))=a:=by
 have e:(-1:Int)+((a++[x]).length:Int)=(a.length:Int):=by rw [ND,OM]; exact IP _
 have h:jN (a++[x]).length (-1)=a.length:=by unfold jN;rw [if_pos (by decide),e,Qp (Pd.mpr (by rw [ND]; exact NZ ..)),PQ (Oa _)]; rfl
 show ((a++[x]).drop 0).take (jN (a++[x]).length (-1) - 0)=a;rw [h];exact QR rfl
theorem zq (l:List PyData) (σ:ac):br .eq (.d (.tuple l)) (.d (.tuple [])) σ=some l.isEmpty:=by show Jr (.tuple l) (.tuple [])=_;rw [lR (iv (PP _ _) (by decide))];cases l <;> rfl
noncomputable def wL:List Nat->RL->RL
 | [],b=>b
 | k::ks,b=>wL ks (.cons (.whn (.num (1+(k:Int))) b) .nil)
theorem zN (cf:Nat->List V->ac->Res V) (v0 v1 v2 v3 v5:V) (σ:ac):∀ (ks:List Nat) (b:RL) (v:V),∃ v',aZ (aB prog.G cf (.var 6) jF) (ks.map λ(k:Nat)=>PyData.int (k:Int)) (F7 v0 v1 v2 v3 (.d (.tuple (ak b))) v5 v) σ=.ok (.next (F7 v0 v1 v2 v3 (.d (.tuple (ak (wL ks b)))) v5 v')) σ:=by
 intro xs_
 induction xs_ with
 | nil=>intro b v; exact ⟨v,rfl⟩
 | cons k ks ih_=>intro b v;obtain ⟨v',ih⟩:=ih_ (.cons (.whn (.num (1+(k:Int))) b) .nil) (.d (.int (k:Int)));exact ⟨v',aQ (aJ rfl) ih⟩
theorem EC:∀ (ks:List Nat) (b:RL),gA ws cs b->gA ws cs (wL ks b)/\hL (wL ks b)=hL b+ks.length/\nL (wL ks b)=nL b+ks.length:=by
 intro xs_
 induction xs_ with
 | nil=>intro b h; exact ⟨h,rfl,rfl⟩
 | cons k ks ih_=>
   intro b h;obtain ⟨h1,h2,h3⟩:=ih_ (.cons (.whn (.num (1+(k:Int))) b) .nil) ⟨⟨qM ..,h⟩,trivial⟩;have e2:hL (.cons (.whn (.num (1+(k:Int))) b) .nil)=hL b+1:=Nat.max_eq_left (N3 _);refine ⟨h1,?_,?_⟩
   . show hL (wL ks _)=_;rw [h2,e2,NU,On,Oj 1]
   . show nL (wL ks _)=_;rw [h3,NU,Oj ks.length,<- On]; rfl
variable {f:Fd}
theorem wq (hf:JS ws cs f) (hl:fs.length<=100) (c:Int) (d:Nat) (σ:ac):∃ f',(okF ws cs f'/\nq f'=nq f/\nL f'.rs<=400)/\ae prog (d+1) 33 [.d (.tuple ((fs++[f]).map aq)),.d (.int c)] σ=.ok (.d (.tuple ((fs++[f']).map aq))) σ:=by
 have em:∀ g,(fs++[g]).map aq=fs.map aq++[aq g]:=λg=>by rw [NP]; rfl
 have il:=vA (fs.map aq) (aq f) σ;rw [em];have R:=a5 prog 33 d [.d (.tuple (fs.map aq++[aq f])),.d (.int c)] σ rfl;by_cases h1:c % 2=0
 . exact ⟨f,⟨hf.1,rfl,iv hf.2.2 (by decide)⟩,by rw [em]; exact (R 24 (dT h1) (dT h1) (same σ))⟩
 have en:=zq (ak f.rs) σ;cases h2:(ak f.rs).isEmpty with
 | true=>rw [h2] at en;exact ⟨f,⟨hf.1,rfl,iv hf.2.2 (by decide)⟩,by rw [em]; exact (R 88 (dF h1) il en (same σ))⟩
 | false=>
   rw [h2] at en;have hlen:∀ x:PyData,(fs.map aq).length+List.length [x]<=100000:=λx=>by rw [Ng,OM]; exact iv (N7 hl) (by decide)
   have sl:gU false (.d (.tuple (fs.map aq++[aq f]))) none (some (.d (.int (-1)))) σ=.ok (.d (.tuple (fs.map aq))) σ:=by rw [jV _ _ iK (iL _),wR]
   have fin:∀ b:RL,gA ws cs b->hL b<=8->nL b<=396->okF ws cs ⟨f.nm,f.ps,.cons (.aga (2+c / 2 % 2) b) .nil,f.t⟩:=λb w1 w2 w3=>⟨hf.1.ps,hf.1.p4,⟨w1,trivial⟩,Q5.mpr ⟨N7 w2,N3 _⟩,iv (N7 w3) (by decide),hf.1.t⟩
   by_cases h4:c / 4 % 4=1
   . obtain ⟨v',lp⟩:=zN (ae prog d) (.d (.tuple (fs.map aq++[aq f]))) (.d (.int c)) (.d (.str f.nm)) (.d (.tuple (f.ps.map .str))) (.d (bZ f.t)) σ (List.range 6) f.rs .un;obtain ⟨w1,w2,w3⟩:=EC (List.range 6) f.rs hf.1.rs;rw [O2] at w2 w3;refine ⟨_,⟨fin _ w1 (w2 ▸ NS hf.2.1 6) (w3 ▸ NS hf.2.2 6),rfl,iv (N7 (w3 ▸ NS hf.2.2 6)) (by decide)⟩,?_⟩;rw [em];exact (R 143704 (dF h1) il en il (dT h4) (aK (d0 rfl (by decide)) lp) sl (gQ (hlen _) _) (same σ))
   . refine ⟨_,⟨fin f.rs hf.1.rs (iv hf.2.1 (by decide)) (iv hf.2.2 (by decide)),rfl,iv (N7 hf.2.2) (by decide)⟩,?_⟩;rw [em];exact (R 143704 (dF h1) il en il (dF h4) sl (gQ (hlen _) _) (same σ))
variable {cs':CS}
mutual
theorem Ci (h:∀ x∈cs,x∈cs'):∀ r:Rw,lr ws cs r->lr ws cs' r
 | .set _ _=>@λq=>q
 | .tell _=>@λq=>q
 | .call _ _ _=>@λq=>⟨q.1,q.2.1,q.2.2.1,h _ q.2.2.2⟩
 | .whn _ b=>@λq=>⟨q.1,lD h b q.2⟩
 | .aga _ b=>@λq=>lD h b q
theorem lD (h:∀ x∈cs,x∈cs'):∀ b:RL,gA ws cs b->gA ws cs' b
 | .nil=>@λ_=>trivial
 | .cons r b=>@λq=>⟨Ci h r q.1,lD h b q.2⟩
end
theorem vb (h:∀ x∈cs,x∈cs') (q:okF ws cs f):okF ws cs' f:={ q with rs:=lD h _ q.rs }
noncomputable def kE (fs:List Fd):List Str:=fs.map (·.nm)
noncomputable def Ck (ws:List Str) (fs:List Fd):Prop:=∀ f∈fs,JS ws (fs.map nq) f
variable {a:α}
theorem io {l:List α} {x:α} (h:x∈l++[a]):x∈l\/x=a:=(NR.mp h).imp id NL.mp
theorem vC (f:Fd):∀ x∈fs.map nq,x∈(fs++[f]).map nq:=λx hx=>by rw [NP]; exact OD _ hx
theorem Aq (h:Ck ws fs) (hf:JS ws (fs.map nq) f):Ck ws (fs++[f]):=λg hg=>by
 rcases io hg with hg | rfl
 . exact ⟨vb (vC f) (h g hg).1,(h g hg).2⟩
 . exact ⟨vb (vC g) hf.1,hf.2⟩
noncomputable def LS (ws:List Str) (fs:List Fd):Prop:=∀ f∈fs,okF ws (fs.map nq) f/\nL f.rs<=400
variable {l:List Str}
theorem vz (h:k < l.length) (σ:ac):df (.d (.list (l.map .str))) (.d (.int (k:Int))) σ=some (.d (.str l[k])):=by rw [iA _ (Oa k)];show ((l.map PyData.str)[k]?).map V.d=_;rw [Om,NC h]; rfl
theorem Ai {cc:List Str} (hw:0 < ws.length) (hn:cc.length=8) (l:List Int) (a:Nat) (hok:Ck ws fs) (hk:fs.length < 8) (d:Nat) (v5 v6 v7:V) (σ:ac) :
   X2 λ(f:Fd) (v7':V)=>(JS ws (fs.map nq) f/\some f.nm=cc[fs.length]?)/\
     aB prog.G (ae prog (d+16)) (.var 6) cz (.int (fs.length:Int)) (F8 (.d (.list (l.map .int))) (.d (.int (a:Int))) (.d (.list (ws.map .str))) (.d (.list (cc.map .str))) (.d (.tuple (fs.map aq))) v5 v6 v7) σ =
     .ok (.next (F8 (.d (.list (l.map .int))) (.d (.int (a:Int))) (.d (.list (ws.map .str))) (.d (.list (cc.map .str))) (.d (.tuple ((fs++[f]).map aq))) v5 (.d (.int (fs.length:Int))) v7')) σ:=by
 have h8:fs.length < cc.length:=hn ▸ hk;have h0:0 < cc.length:=hn ▸ (by decide)
 have ck:=kj (d+15) l σ (a+3+fs.length) ((a:Int)+3+(fs.length:Int)) rfl;have c4:=kj (d+15) l σ (a+2) ((a:Int)+2) rfl;have hokh:∀ f∈fs.take 3,IE ws (fs.map nq) f:=λf hf=>by have hf:=Oi hf;exact ⟨(hok f hf).1.ps,(hok f hf).1.p4,Px hf⟩
 refine kk λK k=>?_;obtain ⟨f,⟨okf,nmf⟩,ef⟩:=rB hw hokh (cJ l (a+3+fs.length)) cc[fs.length] d σ;refine k ?_;have sl:gU false (.d (.tuple (fs.map aq))) none (some (.d (.int 3))) σ=.ok (.d (.tuple ((fs.take 3).map aq))) σ:=by rw [jV _ _ iK (iL _),rN];exact congrArg (λx=>Res.ok (V.d (.tuple (x.map aq))) σ) (oQ fs 3)
 have ad:∀ g:Fd,dD .add false (.d (.tuple (fs.map aq))) (.d (.tuple [aq g])) σ=.ok (.d (.tuple ((fs++[g]).map aq))) σ:=λg=>by rw [NP];exact gQ (by rw [Ng,OM]; exact iv hk (by decide)) σ
 have R:=dA prog.G (ae prog (d+16)) cz (F8 (.d (.list (l.map .int))) (.d (.int (a:Int))) (.d (.list (ws.map .str))) (.d (.list (cc.map .str))) (.d (.tuple (fs.map aq))) v5 (.d (.int (fs.length:Int))) v7) σ;have i1:=vz h8 σ;have nof:some f.nm=cc[fs.length]?:=by rw [nmf]; exact (NC h8).symm
 by_cases hz:(fs.length:Int)=0
 . by_cases h:cJ l (a+2) / 4096 % 8=1
   . have i0:=vz h0 σ;have hz':fs.length=0:=PL.mp hz;refine ⟨⟨cc[0],[],.nil,f.t⟩,.d (aq ⟨cc[0],[],.nil,f.t⟩),⟨⟨⟨(λx hx=>by cases hx),N3 _,trivial,N3 _,N3 _,okf.1.t⟩,N3 _,N3 _⟩,?_⟩,aJ ?_⟩
     . rw [hz']; exact (NC h0).symm
     . exact (R 45196 ck i1 sl ef (dT hz) c4 (dT h) i0 (ad ⟨cc[0],[],.nil,f.t⟩))
   . exact ⟨f,.d (aq f),⟨okf,nof⟩,aJ ((R 12428 ck i1 sl ef (dT hz) c4 (dF h) (ad f)))⟩
 . exact ⟨f,.d (aq f),⟨okf,nof⟩,aJ ((R 908 ck i1 sl ef (dF hz) (dF hz) (ad f)))⟩
noncomputable def Nc (l:List Int) (a:Nat) (ws cc:List Str) (σ:ac) (N:Nat) (v5:V):List Nat->Fm->ac->Prop:=λrest ρ τ=>X3 λ(fs:List Fd) (v6:V) (v7:V)=>A6 (rest=List.range' fs.length (N - fs.length)) (fs.length<=N) (Ck ws fs) (kE fs=cc.take fs.length) (ρ=(F8 (.d (.list (l.map .int))) (.d (.int (a:Int))) (.d (.list (ws.map .str))) (.d (.list (cc.map .str))) (.d (.tuple (fs.map aq))) v5 v6 v7)) (τ=σ)
theorem uP {N m:Nat} (h:m < N):N - m=(N - (m+1))+1:=by rw [Nat.sub_add_eq,Nat.sub_add_cancel (Nat.sub_pos_of_lt h)]
theorem Aj {cc:List Str} (hw:0 < ws.length) (hn:cc.length=8) (l:List Int) (a d N:Nat) (hN:N<=8) (v5:V) (σ:ac):X2 λρ' τ'=>aZ (aB prog.G (ae prog (d+16)) (.var 6) cz) ((List.range N).map λ(k:Nat)=>PyData.int (k:Int)) (F8 (.d (.list (l.map .int))) (.d (.int (a:Int))) (.d (.list (ws.map .str))) (.d (.list (cc.map .str))) (.d (.tuple [])) v5 .un .un) σ=.ok (.next ρ') τ'/\Nc l a ws cc σ N v5 [] ρ' τ':=by
 refine CA (λ(k:Nat)=>PyData.int (k:Int)) (Nc l a ws cc σ N v5) ?_ (List.range N) _ _ ⟨[],.un,.un,by rw [OZ]; rfl,N3 _,(λf h=>by cases h),rfl,rfl,rfl⟩
 rintro x xs ρ τ ⟨fs,v6,v7,h1,h2,h3,h4,rfl,rfl⟩
 have hlt:fs.length < N:=by
   rcases QN fs.length N with h | h
   . exact h
   . rw [QS h] at h1; cases h1
 rw [uP hlt,QG] at h1;injection h1 with hx hxs;subst hx;have h8:=OF hlt hN;obtain ⟨f,v7',⟨a1,a2⟩,e⟩:=Ai hw hn l a h3 h8 d v5 v6 v7 τ;have el:(fs++[f]).length=fs.length+1:=ND;refine ⟨_,_,e,fs++[f],.d (.int (fs.length:Int)),v7',by rw [el,hxs],by rw [el]; exact hlt,Aq h3 a1,?_,rfl,rfl⟩;have en:kE (fs++[f])=kE fs++[f.nm]:=NP;have h8:fs.length < cc.length:=hn ▸ h8;rw [NC h8] at a2;rw [en,el,h4,Option.some.inj a2,List.take_succ_eq_append_getElem h8]
theorem Ct (g:Fd):g∈fs++[g]:=OK _ (NL.mpr rfl)
variable {hs:List Fd}
theorem Cj {g f':Fd} (h:Ck ws (hs++[g])) (hf:okF ws ((hs++[g]).map nq) f') (e:nq f'=nq g) (h4:nL f'.rs<=400):LS ws (hs++[f']):=by
 have:(hs++[f']).map nq=(hs++[g]).map nq:=by rw [NP,NP,Pr,Pr,e]
 intro f q;rw [this];rcases io q with q | rfl
 . exact ⟨(h f (OD _ q)).1,iv (h f (OD _ q)).2.2 (by decide)⟩
 . exact ⟨hf,h4⟩
theorem M0 (h:0<=x) (h4:x < 4):1<=(1+x+4).toNat/\(1+x+4).toNat<=8:=by omega
theorem M1 (h:0<=x) (h4:x < 4):1<=(1+x).toNat/\(1+x).toNat<=8:=by omega
theorem uj (l:List Int) (a d:Nat) (σ:ac):X2 λ(ws:List Str) (fs:List Fd)=>(ws.length<=7/\0 < fs.length/\fs.length<=8/\LS ws fs/\(kE fs).Nodup)/\ae prog (d+17) 36 [.d (.list (l.map .int)),.d (.int (a:Int))] σ=.ok (.d (.tuple (fs.map aq))) σ:=by
 obtain ⟨ws,hw,hv⟩:=qw l a;have c3:=kj (d+15) l σ (a+1) ((a:Int)+1) rfl;have c4:=kj (d+15) l σ (a+2) ((a:Int)+2) rfl;obtain ⟨k,hk⟩:∃ k:Nat,((a:Int)+1 - (if decide (cJ l (a+1) % 8=3) then 1 else 0):Int)=(k:Int):=by
   cases decide (cJ l (a+1) % 8=3) with
   | true=>exact ⟨a,Int.add_sub_cancel _ 1⟩
   | false=>exact ⟨a+1,Q6 _⟩
 obtain ⟨cc,hn,hnd,h3⟩:=qv (cJ l k) 8 (by decide) 0 [];have ck:=kj (d+15) l σ k _ hk;have bm:=bI (cJ l (a+2)+2) p4;have R:=a5 prog 36 (d+16) [.d (.list (l.map .int)),.d (.int (a:Int))] σ rfl;have main:∀ N:Nat,1<=N->N<=8->X4 λ(fs:List Fd) (fs':List Fd) (v6:V) (v7:V)=>A3 ((0 < fs'.length/\fs'.length<=8/\LS ws fs'/\(kE fs').Nodup)) (exec prog.G (ae prog (d+16)) (.forr (.var 6) (.range (.var 5)) cz) (F8 (.d (.list (l.map .int))) (.d (.int (a:Int))) (.d (.list (ws.map .str))) (.d (.list (cc.map .str))) (.d (.tuple [])) (.d (.int (N:Int))) .un .un) σ=.ok (.next (F8 (.d (.list (l.map .int))) (.d (.int (a:Int))) (.d (.list (ws.map .str))) (.d (.list (cc.map .str))) (.d (.tuple (fs.map aq))) (.d (.int (N:Int))) v6 v7)) σ) (ae prog (d+16) 33 [.d (.tuple (fs.map aq)),.d (.int (cJ l (a+2) / 4))] σ=.ok (.d (.tuple (fs'.map aq))) σ):=λN hN1 hN8=>by
   refine kk λK k=>?_;obtain ⟨ρ',τ',lp,fs,v6,v7,h1,h2,h3,h4,rfl,rfl⟩:=Aj (OF (by decide) hw.1) hn l a d N hN8 (.d (.int (N:Int))) σ;have hlen:fs.length=N:=by
     rcases QN fs.length N with h | h
     . rw [uP h,QG] at h1; cases h1
     . exact Pv h2 h
   have hne:fs≠[]:=λh=>by rw [<- hlen,h] at hN1; cases hN1
   obtain ⟨hs,g,rfl⟩:X2 λhs g=>fs=hs++[g]:=⟨fs.dropLast,fs.getLast hne,(List.dropLast_concat_getLast hne).symm⟩
   have hlen:hs.length+1=N:=by rw [<- hlen,ND]; rfl
   obtain ⟨f',⟨hf',hf2,hf4⟩,ef⟩:=wq (fs:=hs) (h3 g (Ct g)) (by rw [<- hlen] at hN8; exact iv (O3 hN8) (by decide)) (cJ l (a+2) / 4) (d+15) τ';rw [<- cn] at lp;refine k ?_;refine ⟨hs++[g],hs++[f'],v6,v7,⟨by rw [ND]; exact Qb _,by rw [ND]; exact hlen ▸ hN8,Cj h3 hf' hf2 hf4,?_⟩,aK (d0 rfl ⟨OC (by decide) (Oa N),Pd.mpr (iv hN8 (by decide))⟩) lp,ef⟩;have:kE (hs++[f'])=kE (hs++[g]):=by unfold kE;rw [NP,NP,Pr,Pr];exact congrArg (λx=>hs.map (·.nm)++[x]) (congrArg Prod.fst hf2)
   rw [this,h4];exact (P6 _ _).nodup hnd
 have w:=hw.2;by_cases h:cJ l (a+2) / 64 % 8=1
 . obtain ⟨N,hN,hN1,hN8⟩:∃ N:Nat,A3 (1+(cJ l (a+2)+2) % 4+4=(N:Int)) (1<=N) (N<=8):=⟨_,(Pl (Pt (Pt (by decide) bm.1) (by decide))).symm,(M0 bm.1 bm.2).1,(M0 bm.1 bm.2).2⟩
   obtain ⟨fs,fs',v6,v7,ok,e1,e2⟩:=main N hN1 hN8;rw [<- hN] at e1;exact ⟨ws,fs',⟨w,ok⟩,(R 16384 (hv (d+13) σ) c3 ck (h3 (d+15) σ) c4 c4 (dT h) e1 c4 e2 (same σ))⟩
 . obtain ⟨N,hN,hN1,hN8⟩:∃ N:Nat,A3 (1+(cJ l (a+2)+2) % 4=(N:Int)) (1<=N) (N<=8):=⟨_,(Pl (Pt (by decide) bm.1)).symm,(M1 bm.1 bm.2).1,(M1 bm.1 bm.2).2⟩
   obtain ⟨fs,fs',v6,v7,ok,e1,e2⟩:=main N hN1 hN8;rw [<- hN] at e1;exact ⟨ws,fs',⟨w,ok⟩,(R 16384 (hv (d+13) σ) c3 ck (h3 (d+15) σ) c4 c4 (dF h) e1 c4 e2 (same σ))⟩
noncomputable def lst:RL->List Rw
 | .nil=>[]
 | .cons r b=>r::lst b
theorem eZ:∀ b:RL,ak b=(lst b).map ba
 | .nil=>rfl
 | .cons r b=>congrArg (ba r::·) (eZ b)
theorem xv:∀ l:List Rw,lst (fL l)=l
 | []=>rfl
 | r::l=>congrArg (r::·) (xv l)
theorem xn:∀ b:RL,fL (lst b)=b
 | .nil=>rfl
 | .cons r b=>congrArg (RL.cons r) (xn b)
variable {b:RL} {r:Rw}
theorem pv {Q:Rw->Prop} (h1:Q r) (h2:∀ x∈lst b,Q x):∀ x∈lst (.cons r b),Q x:=λx hx=>(NN.mp hx).elim (λe=>e ▸ h1) (h2 x)
theorem bJ:∀ {b:RL},gA ws cs b->∀ r∈lst b,lr ws cs r
 | .nil=>@λ_ r hr=>by cases hr
 | .cons r b=>@λh x hx=>pv h.1 (bJ h.2) x hx
theorem bW:∀ {b:RL},∀ r∈lst b,hR r<=hL b
 | .nil=>@λr hr=>by cases hr
 | .cons r b=>@λx hx=>pv (P2 ..) (λx hx=>iv (bW x hx) (PT ..)) x hx
theorem Cq:∀ {b:RL},∀ r∈lst b,nR r<=nL b
 | .nil=>@λr hr=>by cases hr
 | .cons r b=>@λx hx=>pv (NZ ..) (λx hx=>iv (Cq x hx) (N5 ..)) x hx
noncomputable def cK:Rw->RL
 | .whn _ b=>b
 | .aga _ b=>b
 | _=>.nil
theorem g8 (h:lr ws cs r):gA ws cs (cK r):=by
 cases r with
 | whn t b=>exact h.2
 | aga n b=>exact h
 | _=>trivial
theorem DS (r:Rw):nL (cK r)+1=nR r:=by cases r <;> rfl
theorem DT (h:r∈lst b) (hn:nL b<=n):nL (cK r)<=n:=iv (O3 (iv (OH (DS r)) (Cq r h))) hn
variable {h:Nat}
theorem qD (hh:hR r<=h+1):hL (cK r)<=h:=by
 cases r with
 | whn t b=>exact PF hh
 | aga n b=>exact PF hh
 | _=>exact N3 _
theorem lU (h:hR r<=0):cK r=.nil:=by
 cases r with
 | whn t b=>cases h
 | aga n b=>cases h
 | _=>rfl
noncomputable def iF:Rw->List Tm
 | .set _ t=>[t]
 | .tell t=>[t]
 | .call _ _ ts=>ts
 | .whn t _=>[t]
 | .aga _ _=>[]
noncomputable def own (r:Rw):List Str:=(iF r).flatMap cc
noncomputable def HK:Rw->Option Str
 | .set x _=>some x
 | .call o _ _=>o
 | _=>none
theorem jq (h:lr ws cs r):(∀ t∈iF r,o9 ws t)/\(iF r).length<=4:=by
 have one:∀ t,o9 ws t->(∀ u∈[t],o9 ws u)/\[t].length<=4:=λt h=>⟨λu hu=>NL.mp hu ▸ h,N5 1 3⟩;cases r with
 | set x t=>exact one t h.2
 | tell t=>exact one t h
 | call o f ts=>exact ⟨h.2.1,h.2.2.1⟩
 | whn t b=>exact one t h.1
 | aga n b=>exact ⟨(λu hu=>by cases hu),N3 _⟩
variable {x:Str}
theorem kY (h:lr ws cs r) (hx:x∈own r):x∈ws:=by obtain ⟨t,ht,q⟩:=O8.mp hx;exact ((jq h).1 t ht).1 x q
theorem qB (r:Rw) (d:Nat) (σ:ac):ae prog (d+1) 40 [.d (ba r)] σ=.ok (.d (.tuple (ak (cK r)))) σ:=cR (fn:=nv) rfl rfl (by cases r <;> rfl)
theorem nA (r:Rw) (d:Nat) (σ:ac):ae prog (d+1) 39 [.d (ba r)] σ=.ok (.d (u7 (HK r))) σ:=cR (fn:=lN) rfl rfl (by cases r <;> rfl)
theorem lT (r:Rw) (d:Nat) (σ:ac):ae prog (d+1) 4 [.d (ba r)] σ=.ok (.d (u7 (HK r))) σ:=cR (fn:=sw) rfl rfl (by cases r <;> rfl)
theorem qx (r:Rw) (d:Nat) (σ:ac):ae prog (d+1) 2 [.d (ba r)] σ=.ok (.d (.list ((iF r).map bZ))) σ:=cR (fn:=nr) rfl rfl (by cases r <;> rfl)
noncomputable def uz:Rw->Bool
 | .whn _ _=>true
 | .aga _ _=>true
 | _=>false
theorem kQ (r:Rw) (d:Nat) (σ:ac):ae prog (d+1) 5 [.d (ba r)] σ=.ok (.d (.bool (uz r))) σ:=cR (fn:=qg) rfl rfl (by cases r <;> rfl)
theorem wl (r:Rw) (d:Nat) (σ:ac):ae prog (d+2) 6 [.d (ba r)] σ=.ok (.d (.tuple (ak (cK r)))) σ:=by have e:=kQ r d σ;have R:=a5 prog 6 (d+1) [.d (ba r)] σ rfl;cases r <;> exact (R 0 e (same σ))
theorem Cc (d:Nat) (v0 v1:V) (σ:ac):∀ (ts:List Tm) (acc:List Str) (v3:V),(∀ t∈ts,o9 ws t)->acc.length+ts.length * 4<=1000->∃ v3',aZ (aB prog.G (ae prog (d+3)) (.var 3) jE) (ts.map bZ) [v0,v1,.d (.list (acc.map .str)),v3] σ=.ok (.next [v0,v1,.d (.list ((acc++ts.flatMap cc).map .str)),v3']) σ:=by
 intro xs_
 induction xs_ with
 | nil=>intro acc v3 _ _; exact ⟨v3,by rw [List.flatMap_nil,NX]; rfl⟩
 | cons t ts ih_=>
   intro acc v3 h hl;have ht:=h t (NE ..);have h4:=lC ht;have hl:(acc++cc t).length+ts.length * 4<=1000:=by rw [NU,Qd,Oj _ 4,<- On] at hl;rw [ND];exact iv (NS (Oe h4 _) _) hl
   obtain ⟨v3',ih⟩:=ih_ (acc++cc t) (.d (bZ t)) (λu hu=>h u (NA _ hu)) hl;have ad:=iB (a:=acc.map .str) (b:=(cc t).map .str) (by rw [Ng,Ng,<- ND]; exact iv (OJ hl) (by decide)) σ;rw [<- NP] at ad;refine ⟨v3',aQ (aJ ((dA prog.G (ae prog (d+3)) jE [v0,v1,.d (.list (acc.map .str)),.d (bZ t)] σ 1 (kq ht d σ) ad))) ?_⟩;rw [Pg,<- N2];exact ih
theorem wo {ws:List Str} (h:lr ws cs r) (d:Nat) (σ:ac):ae prog (d+4) 38 [.d (ba r)] σ=.ok (.d (.list ((own r).map .str))) σ:=by
 obtain ⟨t1,t2⟩:=jq h;obtain ⟨v',lp⟩:=Cc (ws:=ws) d (.d (ba r)) (.d (.list ((iF r).map bZ))) σ (iF r) [] .un t1 (by rw [OY,Pe]; exact iv (ON 4 t2) (by decide));have lp:=aK (it:=.seq (.var 1)) (a8 rfl rfl) lp;have R:=a5 prog 38 (d+3) [.d (ba r)] σ rfl;cases r with
 | aga n b=>exact cR (fn:=sx) rfl rfl rfl
 | set _ _=>exact (R 0 lp (same σ))
 | tell _=>exact (R 0 lp (same σ))
 | call _ _ _=>exact (R 0 lp (same σ))
 | whn _ _=>exact (R 0 lp (same σ))
noncomputable def dk (L:List Str):List (Str×PyData):=L.map λk=>(k,.bool true)
theorem Jw (L:List Str) (k:Str):(dk L).any (λx=>decide (x.1=k))=decide (k∈L):=by
 induction L with
 | nil=>rfl
 | cons y L ih=>
   show (decide (y=k)||(dk L).any (λx=>decide (x.1=k)))=_;rw [ih];by_cases h:y=k
   . rw [h,decide_eq_true rfl,decide_eq_true (NE ..)]; rfl
   . rw [decide_eq_false h,P1];exact decide_eq_decide.mpr ⟨λq=>NA _ q,λq=>(NN.mp q).resolve_left (Ne.symm h)⟩
theorem yJ (L:List Str) (k:Str):d9 k (.bool true) (dk L)=dk (gx L k):=by
 unfold d9 gx;rw [Jw];by_cases h:k∈L
 . rw [if_pos (decide_eq_true h),if_pos h];unfold dk;rw [Oq];refine Pi λy _=>?_;show (if y=k then (y,PyData.bool true) else (y,PyData.bool true))=_;exact ite_self _
 . rw [if_neg λq=>h (of_decide_eq_true q),if_neg h];unfold dk; rw [NP]; rfl
theorem xW (L:List Str):(dk L).length=L.length:=Ng _
theorem eO (h:σ[n]?=some (.dct (dk L))):zE .list false [.loc n] σ=.ok (.d (.list (L.map .str))) σ:=by
 have e:aD σ (.loc n)=none:=by show σ[n]?.bind FB=_;rw [h]; rfl
 show oc (aD σ (.loc n)) (λl=>aU false l σ) (oc (fG σ (.loc n)) (λkvs=>aU false (kvs.map λx=>.str x.1) σ) .bad)=_;rw [e,fV h];show aU false ((dk L).map λx=>.str x.1) σ=_;unfold dk; rw [Oq]; rfl
theorem g0 (σ:ac) (a:Cell) (g:List Cell):(σ++a::g)[σ.length]?=some a:=by rw [N6 (Of _),QQ]; rfl
theorem st0 (σ:ac) (a a':Cell) (g:List Cell):(σ++a::g).set σ.length a'=σ++a'::g:=by rw [QT _ _ (Of _),QQ]; rfl
variable {e:E} {g:List Cell} {F:List Str}
theorem wX {o i:E} {k:Str} (h1:ag prog.G cf e ρ (σ++.dct (dk F)::g)=.ok (.d (.bool true)) (σ++.dct (dk F)::g)) (h2:ag prog.G cf o ρ (σ++.dct (dk F)::g)=.ok (.loc σ.length) (σ++.dct (dk F)::g)) (h3:ag prog.G cf i ρ (σ++.dct (dk F)::g)=.ok (.d (.str k)) (σ++.dct (dk F)::g)) (hl:F.length<=7):exec prog.G cf (.put o i e) ρ (σ++.dct (dk F)::g)=.ok (.next ρ) (σ++.dct (dk (gx F k))::g):=by refine (GN h1 h2 h3 (g0 _ _ _) (by rw [xW]; exact Oc hl (by decide))).trans ?_;rw [st0,yJ]
theorem B4 (w7:ws.length<=7) (cf:Nat->List V->ac->Res V) (v0 v2:V) (σ:ac):∀ (ns F:List Str) (P:Str->Prop) (v3:V),(∀ x∈ns,x∈ws)->(∀ x,P x->x∈ws)->St F P->X2 λF' v3'=>St F' (λx=>P x\/x∈ns)/\aZ (aB prog.G cf (.var 3) kM) (ns.map .str) [v0,.loc σ.length,v2,v3] (σ++[.dct (dk F)])=.ok (.next [v0,.loc σ.length,v2,v3']) (σ++[.dct (dk F')]):=by
 intro xs_
 induction xs_ with
 | nil=>intro F P v3 _ _ h; exact ⟨F,v3,h.of λx=>⟨.inl,λq=>q.elim id λq=>by cases q⟩,rfl⟩
 | cons y ns ih_=>intro F P v3 hn hp h;obtain ⟨F',v3',h',e⟩:=ih_ (gx F y) _ (.d (.str y)) (λx hx=>hn x (NA _ hx)) (λx q=>q.elim (hp x) λe=>e ▸ hn y (NE ..)) (h.add y);exact ⟨F',v3',h'.of λx=>by rw [or_assoc,NN],aQ (aJ (aA (wX rfl rfl rfl (h.few w7 hp)) rfl)) e⟩
theorem xm (w7:ws.length<=7) (d:Nat) (v0:V) (σ:ac):∀ (ts:List Tm) (F:List Str) (P:Str->Prop) (v2 v3:V),(∀ t∈ts,o9 ws t)->(∀ x,P x->x∈ws)->St F P->X3 λF' v2' v3'=>St F' (λx=>P x\/x∈ts.flatMap cc)/\aZ (aB prog.G (ae prog (d+4)) (.var 2) kL) (ts.map bZ) [v0,.loc σ.length,v2,v3] (σ++[.dct (dk F)])=.ok (.next [v0,.loc σ.length,v2',v3']) (σ++[.dct (dk F')]):=by
 intro xs_
 induction xs_ with
 | nil=>intro F P v2 v3 _ _ h; exact ⟨F,v2,v3,h.of λx=>⟨.inl,λq=>q.elim id λq=>by cases q⟩,rfl⟩
 | cons t ts ih_=>intro F P v2 v3 hn hp h;have ht:=hn t (NE ..);refine kk λK k=>?_;obtain ⟨L,hL,e⟩:=dm ht d (σ++[.dct (dk F)]);obtain ⟨JO,oK,aX,lp⟩:=B4 w7 (ae prog (d+4)) v0 (.d (bZ t)) σ L F P v3 (λx hx=>ht.1 x ((hL.mem x).mp hx)) hp h;obtain ⟨F',v2',v3',h',ih⟩:=ih_ JO _ (.d (bZ t)) oK (λu hu=>hn u (NA _ hu)) (λx q=>q.elim (hp x) λq=>ht.1 x ((hL.mem x).mp q)) aX;refine k ?_;exact ⟨F',v2',v3',h'.of λx=>by rw [or_assoc,Pg,NR,hL.mem x],aQ (aJ (aA (aK (a8 (ay rfl e) rfl) lp) rfl)) ih⟩
theorem gu (w7:ws.length<=7) (h:lr ws cs r) (d:Nat) (σ:ac):∃ L:List Str,St L (·∈own r)/\ae prog (d+5) 3 [.d (ba r)] σ=.ok (.d (.list (L.map .str))) σ:=by obtain ⟨F,v2',v3',hF,lp⟩:=xm w7 d (.d (ba r)) σ (iF r) [] _ .un .un (jq h).1 (λ_ q=>q.elim) St.nil;exact ⟨F,hF.of λx=>⟨λq=>q.resolve_left id,.inr⟩,(a5 prog 3 (d+4) [.d (ba r)] σ rfl 1 (aK (a8 (ay rfl (qx r (d+3) _)) rfl) lp) (eO (aM _ _)) (b7 _ _))⟩
mutual
noncomputable def yx (x:Str):Rw->Bool
 | .set y _=>decide (y=x)
 | .call o _ _=>decide (o=some x)
 | .aga n b=>decide (n > 0)&&fc x b
 | .tell _=>false
 | .whn _ _=>false
noncomputable def fc (x:Str):RL->Bool
 | .nil=>false
 | .cons r b=>yx x r||fc x b
end
mutual
noncomputable def wJ (x:Str):Rw->Bool
 | .set y t=>decide (x∈own (.set y t))
 | .tell t=>decide (x∈own (.tell t))
 | .call o f ts=>decide (x∈own (.call o f ts))
 | .whn t b=>decide (x∈own (.whn t b))||cC x b
 | .aga n b=>decide (n > 0)&&cC x b
noncomputable def cC (x:Str):RL->Bool
 | .nil=>false
 | .cons r b=>wJ x r||(!yx x r&&cC x b)
end
theorem Gd (x:Str) (t:Tm) (b:RL):wJ x (.whn t b)=(decide (x∈own (.whn t b))||cC x b):=rfl
theorem zl (x:Str) (n:Int) (b:RL):wJ x (.aga n b)=(decide (n > 0)&&cC x b):=rfl
mutual
theorem sZ (x:Str):∀ r:Rw,lr ws cs r->yx x r=true->x∈ws
 | .set y _,h,q=>of_decide_eq_true q ▸ h.1
 | .call o _ _,h,q=>h.1 x (of_decide_eq_true q)
 | .aga _ b,h,q=>s0 x b h (NH.mp q).2
theorem s0 (x:Str):∀ b:RL,gA ws cs b->fc x b=true->x∈ws
 | .cons r b,h,q=>(Od.mp q).elim (sZ x r h.1) (s0 x b h.2)
end
mutual
theorem Df (x:Str):∀ r:Rw,lr ws cs r->wJ x r=true->x∈ws
 | .set _ _=>@λh q=>kY h (of_decide_eq_true q)
 | .tell _=>@λh q=>kY h (of_decide_eq_true q)
 | .call _ _ _=>@λh q=>kY h (of_decide_eq_true q)
 | .whn t b=>@λh q=>(Od.mp q).elim (λq=>kY h (of_decide_eq_true q)) (d4 x b h.2)
 | .aga _ b=>@λh q=>d4 x b h (NH.mp q).2
theorem d4 (x:Str):∀ b:RL,gA ws cs b->cC x b=true->x∈ws
 | .cons r b,h,q=>(Od.mp q).elim (Df x r h.1) λq=>d4 x b h.2 (NH.mp q).2
end
noncomputable def gb (a b:Bool):PyData:=.tuple [.bool a,.bool b]
theorem Iz (o:Option Str) (x:Str) (σ:ac):br .eq (.d (u7 o)) (.d (.str x)) σ=some (decide (o=some x)):=by
 cases o with
 | none=>rw [decide_eq_false (λh=>by cases h)]; rfl
 | some y=>show br .eq (.d (.str y)) (.d (.str x)) σ=_;rw [DP];exact congrArg some (decide_eq_decide.mpr Option.some_inj.symm)
noncomputable def gz (s:Bool) (a b:Res Out):Res Out:=match s with
 | true=>a
 | false=>b
theorem z9 (hr:lr ws cs r) (x:Str) (d:Nat) (v0:V) (σ:ac) (H:ae prog (d+4) 42 [.d (.tuple (ak (cK r))),.d (.str x)] σ=.ok (.d (gb (cC x (cK r)) (!fc x (cK r)))) σ) (rd:Bool) (v3 v4:V) :
   ∃ v4',aB prog.G (ae prog (d+4)) (.var 3) fM (ba r) (F5 v0 (.d (.str x)) (.d (.bool rd)) v3 v4) σ=gz (yx x r) (.ok (.ret (.d (gb (rd||wJ x r) false))) σ) (.ok (.next (F5 v0 (.d (.str x)) (.d (.bool (rd||wJ x r))) (.d (ba r)) v4')) σ):=by
 have s1:=Bw (G:=prog.G) (cf:=ae prog (d+4)) (e:=.var 2) (e':=.cmp .isIn (.var 1) (.call 38 (.cons (.var 3) .nil))) (es:=.nil) (ρ:=(F5 v0 (.d (.str x)) (.d (.bool rd)) (.d (ba r)) v4)) (σ:=σ) rfl λ_=>dy (cx rfl (ay rfl (wo hr d σ)) (fO _ _ _));have R:=dA prog.G (ae prog (d+4)) fM (F5 v0 (.d (.str x)) (.d (.bool rd)) (.d (ba r)) v4) σ;have tg:=nA r (d+3) σ;have te:=Iz (HK r) x σ;have s2:=λb (v:V)=>Bw (G:=prog.G) (cf:=ae prog (d+4)) (e:=.var 2) (e':=.idx (.var 4) (.int 0)) (es:=.nil) (ρ:=(F5 v0 (.d (.str x)) (.d (.bool (rd||decide (x∈own r)))) (.d (ba r)) (.d (gb b (!fc x (cK r)))))) (σ:=σ) rfl λ_=>dy rfl;cases r with
 | set y t=>
   show ∃ _,_=gz (decide (y=x)) _ _;by_cases h:y=x
   . rw [decide_eq_true h];exact ⟨v4,aJ ((R 3073 s1 tg te (dT (congrArg some h))))⟩
   . rw [decide_eq_false h];exact ⟨v4,aJ ((R 3073 s1 tg te (dF λq=>h (Option.some.inj q))))⟩
 | tell t=>exact ⟨v4,aJ ((R 1 s1 tg))⟩
 | call o f ts=>
   show ∃ _,_=gz (decide (o=some x)) _ _;by_cases h:o=some x
   . rw [decide_eq_true h];exact ⟨v4,aJ ((R 3073 s1 tg te (dT h)))⟩
   . rw [decide_eq_false h];exact ⟨v4,aJ ((R 3073 s1 tg te (dF h)))⟩
 | whn t b=>have e:(rd||wJ x (.whn t b))=((rd||decide (x∈own (.whn t b)))||cC x b):=(Bool.or_assoc ..).symm;rw [e];exact ⟨_,aJ ((R 129 s1 H (s2 _ .un) tg))⟩
 | aga n b=>
   have e:(rd||decide (x∈own (.aga n b)))=rd:=Pb rd;show ∃ _,_=gz (decide (n > 0)&&fc x b) (.ok (.ret (.d (gb (rd||(decide (n > 0)&&cC x b)) false))) σ) (.ok (.next (F5 v0 (.d (.str x)) (.d (.bool (rd||(decide (n > 0)&&cC x b)))) _ _)) σ);rw [e] at s1 s2;by_cases h:n > 0
   . rw [decide_eq_true h,PM,PM];cases h2:fc x b with
     | true=>exact ⟨v4,aJ ((R 534529 s1 (dT h) H (s2 _ .un) (nT (congrArg (!·) h2))))⟩
     | false=>exact ⟨_,aJ ((R 534529 s1 (dT h) H (s2 _ .un) (nF (congrArg (!·) h2)) tg))⟩
   . rw [decide_eq_false h,PC,PC,Pb];exact ⟨v4,aJ ((R 2049 s1 (dF h) tg))⟩
theorem rS (x:Str) (d:Nat) (v0:V) (σ:ac):∀ (b:RL),gA ws cs b->(∀ r∈lst b,ae prog (d+4) 42 [.d (.tuple (ak (cK r))),.d (.str x)] σ=.ok (.d (gb (cC x (cK r)) (!fc x (cK r)))) σ)->∀ (rd:Bool) (v3 v4:V),
   X2 λv3' v4'=>aZ (aB prog.G (ae prog (d+4)) (.var 3) fM) (ak b) (F5 v0 (.d (.str x)) (.d (.bool rd)) v3 v4) σ=gz (fc x b) (.ok (.ret (.d (gb (rd||cC x b) false))) σ) (.ok (.next (F5 v0 (.d (.str x)) (.d (.bool (rd||cC x b))) v3' v4')) σ)
 | .nil=>@λ_ _ rd v3 v4=>⟨v3,v4,by rw [show cC x .nil=false from rfl,Pb]; rfl⟩
 | .cons r b=>@λh H rd v3 v4=>by
   obtain ⟨lu,e⟩:=z9 h.1 x d v0 σ (H r (NE ..)) rd v3 v4;obtain ⟨v3',v4',ih⟩:=rS x d v0 σ b h.2 (λq hq=>H q (NA _ hq)) (rd||wJ x r) (.d (ba r)) lu;refine ⟨v3',v4',?_⟩;rw [show fc x (.cons r b)=(yx x r||fc x b) from rfl,show cC x (.cons r b)=(wJ x r||(!yx x r&&cC x b)) from rfl];cases hs:yx x r with
   | true=>rw [hs] at e;rw [PK,PC,Pb];exact mv e
   | false=>rw [hs] at e;rw [Bool.not_false,PM,<- Bool.or_assoc];exact aQ e ih
theorem ko (x:Str):∀ (h:Nat) (b:RL) (d:Nat) (σ:ac),gA ws cs b->hL b<=h->ae prog (d+h+5) 42 [.d (.tuple (ak b)),.d (.str x)] σ=.ok (.d (gb (cC x b) (!fc x b))) σ:=by
 have fin:∀ (b:RL) (d:Nat) (σ:ac),gA ws cs b->(∀ r∈lst b,ae prog (d+4) 42 [.d (.tuple (ak (cK r))),.d (.str x)] σ=.ok (.d (gb (cC x (cK r)) (!fc x (cK r)))) σ)->ae prog (d+5) 42 [.d (.tuple (ak b)),.d (.str x)] σ=.ok (.d (gb (cC x b) (!fc x b))) σ:=λb d σ ok H=>by
   obtain ⟨v3',v4',e⟩:=rS x d (.d (.tuple (ak b))) σ b ok H false .un .un;have R:=a5 prog 42 (d+4) [.d (.tuple (ak b)),.d (.str x)] σ rfl;cases h2:fc x b with
   | true=>rw [h2] at e;exact (R 0 (aK (a8 rfl rfl) e) (same σ))
   | false=>rw [h2] at e;exact (R 0 (aK (a8 rfl rfl) e) (same σ))
 have non:∀ d σ,ae prog (d+4) 42 [.d (.tuple (ak .nil)),.d (.str x)] σ=.ok (.d (gb (cC x .nil) (!fc x .nil))) σ:=λd σ=>cR (fn:=qc) (d:=d+3) rfl rfl rfl;intro h
 induction h with
 | zero=>exact λb d σ ok hh=>fin b d σ ok λr hr=>by rw [lU (iv (bW r hr) hh)]; exact non d σ
 | succ h ih=>exact λb d σ ok hh=>fin b (d+h+1) σ ok λr hr=>ih (cK r) d σ (g8 (bJ ok r hr)) (qD (iv (bW r hr) hh))
theorem yz:∀ (M:List Str) {F:List Str} {P:Str->Prop},St F P->St (M.foldl gx F) λx=>P x\/x∈M:=by
 intro xs_
 induction xs_ with
 | nil=>intro F P h; exact h.of λx=>⟨.inl,λq=>q.elim id λq=>by cases q⟩
 | cons y M ih_=>intro F P h; exact (ih_ (h.add y)).of λx=>by rw [or_assoc,NN]
theorem Ah:∀ (M L:List Str),dR (dk L) (dk M)=dk (M.foldl gx L):=by
 intro xs_
 induction xs_ with
 | nil=>intro L; exact rfl
 | cons x M ih_=>intro L;have e:dR (dk L) (dk (x::M))=dR (d9 x (.bool true) (dk L)) (dk M):=rfl;rw [e,yJ,ih_,QK]
theorem GH {S:List Str} (hn:τ[n]?=some (.dct (dk F))) (h1:F.length<=7) (h2:S.length<=7):xo .update (.loc n) τ [.loc τ.length] (τ++[.dct (dk S)])=.ok (.d .none) ((τ.set n (.dct (dk (S.foldl gx F))))++[.dct (dk S)]):=by
 have hlt:=(NK.mp hn).1;have e:qZ .update τ (.loc n)=true:=by show (fG τ (.loc n)).isSome=true;rw [fV hn]; rfl
 unfold xo;rw [e];show Em .update (.loc n) [.loc τ.length] (τ++[.dct (dk S)])=_;rw [zQ (x:=dk F) (y:=dk S) (by rw [N4 hlt]; exact hn) (aM _ _) (OI hlt) (by rw [xW,xW]; exact iv (Ob h1 h2) (by decide)),Ah,List.set_append_left _ _ hlt]
theorem MD (σ g:ac) (a c:Cell):(σ++a::g)++[c]=σ++a::(g++[c]):=N2 ..
noncomputable def gv (b:RL) (d:Nat):Prop:=∀ σ,∃ S,St S (λx=>fc x b=true)/\ae prog d 8 [.d (.tuple (ak b))] σ=.ok (.loc σ.length) (σ++[.dct (dk S)])
theorem zW (w7:ws.length<=7) (d:Nat) (v0:V) (σ:ac) {F:List Str} (h:St F P) (hp:∀ x,P x->x∈ws) (g:List Cell) (r:Rw) (ok:lr ws cs r) (H:gv (cK r) (d+1)) (v2:V) :
   X2 λF' g'=>St F' (λx=>P x\/yx x r=true)/\aB prog.G (ae prog (d+1)) (.var 2) eP (ba r) [v0,.loc σ.length,v2] (σ++.dct (dk F)::g)=.ok (.next [v0,.loc σ.length,.d (ba r)]) (σ++.dct (dk F')::g'):=by
 have e:=lT r d (σ++.dct (dk F)::g);have R:=dA prog.G (ae prog (d+1)) eP [v0,.loc σ.length,.d (ba r)] (σ++.dct (dk F)::g);have no:St F λx=>P x\/false=true:=h.of λx=>⟨.inl,λq=>q.elim id λq=>by cases q⟩;have some1:∀ y,St (gx F y) λx=>P x\/decide (y=x)=true:=λy=>(h.add y).of λx=>or_congr Iff.rfl ⟨λq=>decide_eq_true q.symm,λq=>(of_decide_eq_true q).symm⟩;have pt:=λy (h:HK r=some y)=>wX (cf:=ae prog (d+1)) (ρ:=[v0,.loc σ.length,.d (ba r)]) (σ:=σ) (g:=g) (o:=.var 1) (i:=.call 4 (.cons (.var 2) .nil)) (e:=.bool true) (F:=F) (k:=y) rfl rfl (ay rfl (by rw [h] at e; exact e)) (St.few ‹_› w7 hp);cases r with
 | set y t=>exact ⟨_,g,some1 y,aJ ((R 0 e (pt y rfl)))⟩
 | tell t=>exact ⟨F,g,no,aJ ((R 0 e))⟩
 | whn t b=>exact ⟨F,g,no,aJ ((R 0 e))⟩
 | call o f ts=>
   cases o with
   | none=>exact ⟨F,g,no,aJ ((R 0 e))⟩
   | some y=>exact ⟨_,g,(some1 y).of λx=>or_congr Iff.rfl (by show _↔decide (some y=some x)=true; rw [decide_eq_true_iff,decide_eq_true_iff,Option.some_inj]),aJ ((R 0 e (pt y rfl)))⟩
 | aga n b=>
   show X2 λF' g'=>St F' (λx=>P x\/(decide (n > 0)&&fc x b)=true)/\_;by_cases q:n > 0
   . obtain ⟨S,hS,eS⟩:=H (σ++.dct (dk F)::g);have u:=GH (g0 σ (.dct (dk F)) g) (h.few w7 hp) (hS.few w7 λx=>s0 x b ok);rw [st0,MD σ g (.dct (dk (S.foldl gx F)))] at u;refine ⟨S.foldl gx F,g++[.dct (dk S)],(yz S h).of λx=>?_,aJ ((R 256 e (dT q) eS u))⟩;rw [decide_eq_true q,PM,hS.mem x]; rfl
   . rw [decide_eq_false q];exact ⟨F,g,no,aJ ((R 256 e (dF q)))⟩
theorem rL (w7:ws.length<=7) (d:Nat) (v0:V) (σ:ac):∀ (b:RL) {F:List Str} {P:Str->Prop} (g:List Cell) (v2:V),St F P->(∀ x,P x->x∈ws)->gA ws cs b->(∀ r∈lst b,gv (cK r) (d+1))->
   X3 λF' g' v2'=>St F' (λx=>P x\/fc x b=true)/\aZ (aB prog.G (ae prog (d+1)) (.var 2) eP) (ak b) [v0,.loc σ.length,v2] (σ++.dct (dk F)::g)=.ok (.next [v0,.loc σ.length,v2']) (σ++.dct (dk F')::g')
 | .nil,F,P,g,v2,h,_,_,_=>⟨F,g,v2,h.of λx=>⟨.inl,λq=>q.elim id λq=>by cases q⟩,rfl⟩
 | .cons r b,F,P,g,v2,h,hp,ok,H=>by refine kk λK k=>?_;obtain ⟨JO,CX,aX,e⟩:=zW w7 d v0 σ h hp g r ok.1 (H r (NE ..)) v2;obtain ⟨F',g',v2',h',ih⟩:=rL w7 d v0 σ b CX (.d (ba r)) aX (λx q=>q.elim (hp x) (sZ x r ok.1)) ok.2 λq hq=>H q (NA _ hq);refine k ?_;exact ⟨F',g',v2',h'.of λx=>by rw [or_assoc,<- Od]; rfl,aQ e ih⟩
theorem wm (w7:ws.length<=7):∀ (h:Nat) (b:RL) (d:Nat),gA ws cs b->hL b<=h->gv b (d+h+2):=by
 have fin:∀ (b:RL) (d:Nat),gA ws cs b->(∀ r∈lst b,gv (cK r) (d+1))->gv b (d+2):=λb d ok H σ=>by obtain ⟨F,g',v2',h,e⟩:=rL w7 d (.d (.tuple (ak b))) σ b [] .un St.nil (λ_ q=>q.elim) ok H;exact ⟨F,h.of λx=>⟨λq=>q.resolve_left id,.inr⟩,DN (fn:=jL) (d:=d+1) (g:=[]) (g':=g') rfl rfl (aA (cO rfl) (aA (aK (a8 rfl rfl) e) (jw (GM rfl)))) rfl (.inr ⟨_,rfl⟩)⟩
 have non:∀ d,gv .nil (d+1):=λd σ=>⟨[],St.nil.of λx=>⟨False.elim,λq=>by cases q⟩,DN (fn:=jL) (d:=d) (g:=[]) (g':=[]) rfl rfl rfl rfl (.inr ⟨_,rfl⟩)⟩;intro h
 induction h with
 | zero=>exact λb d ok hh=>fin b d ok λr hr=>by rw [lU (iv (bW r hr) hh)]; exact non d
 | succ h ih=>exact λb d ok hh=>fin b (d+h+1) ok λr hr=>ih (cK r) d (g8 (bJ ok r hr)) (qD (iv (bW r hr) hh))
theorem Go (L:List Str) (x:Str):((dk L).lookup x).isSome=decide (x∈L):=by
 induction L with
 | nil=>rfl
 | cons y L ih=>
   show (List.lookup x ((y,PyData.bool true)::dk L)).isSome=_;rw [NW];by_cases h:x=y
   . rw [h,beq_self_eq_true,decide_eq_true (NE ..)]; rfl
   . rw [beq_false_of_ne h];exact ih.trans (decide_eq_decide.mpr ⟨λq=>NA _ q,λq=>(NN.mp q).resolve_left h⟩)
theorem FJ (h:σ[n]?=some (.dct (dk L))) (x:Str):br .isIn (.d (.str x)) (.loc n) σ=some (decide (x∈L)):=by
 have e:aD σ (.loc n)=none:=by show σ[n]?.bind FB=_;rw [h]; rfl
 show oc (aD σ (.loc n)) (λl=>vy (.str x) l) (oc (fG σ (.loc n)) (λkvs=>some (kvs.lookup x).isSome) none)=_;rw [e,fV h];exact congrArg some (Go L x)
theorem po (h:σ[n]?=some (.dct (dk L))) (x:Str):br .notIn (.d (.str x)) (.loc n) σ=some (!decide (x∈L)):=by show (br .isIn (.d (.str x)) (.loc n) σ).map _=_;rw [FJ h]; rfl
theorem g1 (σ:ac) (a b:Cell) (g:List Cell):(σ++a::b::g)[σ.length+1]?=some b:=by rw [N6 (NZ _ 1),QE]; rfl
theorem Ni (σ:ac) (a b b':Cell) (g:List Cell):(σ++a::b::g).set (σ.length+1) b'=σ++a::b'::g:=by rw [QT _ _ (NZ _ 1),QE]; rfl
theorem Gf (w7:ws.length<=7) (cf:Nat->List V->ac->Res V) (v0 v3 v4:V) (σ:ac) (K:List Str) (g:List Cell) {m:Nat} (hm:m=σ.length+1):∀ (ns:List Str) {F:List Str} {P:Str->Prop} (v5:V),(∀ x∈ns,x∈ws)->(∀ x,P x->x∈ws)->St F P->X2 λF' v5'=>St F' (λx=>P x\/(x∈ns/\x∉K))/\aZ (aB prog.G cf (.var 5) fN) (ns.map .str) (F6 v0 (.loc σ.length) (.loc m) v3 v4 v5) (σ++.dct (dk F)::.dct (dk K)::g)=.ok (.next (F6 v0 (.loc σ.length) (.loc m) v3 v4 v5')) (σ++.dct (dk F')::.dct (dk K)::g):=by
 intro xs_
 induction xs_ with
 | nil=>intro F P v5 _ _ h; exact ⟨F,v5,h.of λx=>⟨.inl,λq=>q.elim id λq=>by cases q.1⟩,rfl⟩
 | cons y ns ih_=>
   intro F P v5 hn hp h;have hy:=hn y (NE ..);have hn:=λx hx=>hn x (NA _ hx);have ck:=po (L:=K) (n:=m) (σ:=σ++.dct (dk F)::.dct (dk K)::g) (by rw [hm]; exact g1 ..) y;by_cases q:y∈K
   . rw [decide_eq_true q] at ck;obtain ⟨F',v5',h',e⟩:=ih_ (.d (.str y)) hn hp h;refine ⟨F',v5',h'.of λx=>or_congr Iff.rfl ⟨λz=>⟨NA _ z.1,z.2⟩,λz=>⟨(NN.mp z.1).resolve_left λe=>z.2 (e ▸ q),z.2⟩⟩,aQ (aJ ?_) e⟩;exact (dA prog.G cf fN (F6 v0 (.loc σ.length) (.loc m) v3 v4 (.d (.str y))) (σ++.dct (dk F)::.dct (dk K)::g) 1 ck)
   . rw [decide_eq_false q] at ck;obtain ⟨F',v5',h',e⟩:=ih_ (.d (.str y)) hn (λx z=>z.elim (hp x) λe=>e ▸ hy) (h.add y);refine ⟨F',v5',h'.of λx=>?_,aQ (aJ ?_) e⟩
     . rw [or_assoc,NN,or_and_right];exact or_congr Iff.rfl (or_congr ⟨λe=>⟨e,e ▸ q⟩,And.left⟩ Iff.rfl)
     . exact (dA prog.G cf fN (F6 v0 (.loc σ.length) (.loc m) v3 v4 (.d (.str y))) (σ++.dct (dk F)::.dct (dk K)::g) 1 ck (wX rfl rfl rfl (h.few w7 hp)))
noncomputable def ku (b:RL) (d:Nat):Prop:=∀ σ,∃ S,St S (λx=>cC x b=true)/\ae prog d 9 [.d (.tuple (ak b))] σ=.ok (.loc σ.length) (σ++[.dct (dk S)])
theorem xH (w7:ws.length<=7) (d:Nat) (v0:V) (σ:ac) {Q:Str->Prop} (hF:St F P) (hp:∀ x,P x->x∈ws) (hK:St K Q) (hq:∀ x,Q x->x∈ws) (g:List Cell) {m:Nat} (hm:m=σ.length+1) (r:Rw) (ok:lr ws cs r) (HS:gv (.cons r .nil) (d+5)) (H:ku (cK r) (d+5)) (v3 v4 v5:V) :
   X5 λF' K' g' v4' v5'=>A3 (St F' (λx=>P x\/(wJ x r=true/\¬ Q x))) (St K' (λx=>Q x\/yx x r=true)) (aB prog.G (ae prog (d+5)) (.var 3) cp (ba r) (F6 v0 (.loc σ.length) (.loc m) v3 v4 v5) (σ++.dct (dk F)::.dct (dk K)::g)=.ok (.next (F6 v0 (.loc σ.length) (.loc m) (.d (ba r)) v4' v5')) (σ++.dct (dk F')::.dct (dk K')::g')):=by
 obtain ⟨L,hL,eL⟩:=gu w7 ok d (σ++.dct (dk F)::.dct (dk K)::g)
 -- the names are found: what follows
 have tail:∀ (N:List Str) (g:List Cell),(∀ x∈N,x∈ws)->X4 λF' K' g' v5'=>A3 (St F' (λx=>P x\/(x∈N/\¬ Q x))) (St K' (λx=>Q x\/yx x r=true)) (∀ {q:Res Out},q=.ok (.next (F6 v0 (.loc σ.length) (.loc m) (.d (ba r)) (.d (.list (N.map .str))) v5')) (σ++.dct (dk F')::.dct (dk K')::g')->execs prog.G (ae prog (d+5)) (tl (tl cp)) (F6 v0 (.loc σ.length) (.loc m) (.d (ba r)) (.d (.list (N.map .str))) v5) (σ++.dct (dk F)::.dct (dk K)::g)=q):=λN g hN=>by
   obtain ⟨F',v5',h',e⟩:=Gf w7 (ae prog (d+5)) v0 (.d (ba r)) (.d (.list (N.map .str))) σ K g hm N v5 hN hp hF;obtain ⟨S,hS,eS⟩:=HS (σ++.dct (dk F')::.dct (dk K)::g);have hS:=hS.of (Q:=λx=>yx x r=true) λx=>by show (yx x r||false)=true↔_; rw [Pb]
   have u:=GH (τ:=σ++.dct (dk F')::.dct (dk K)::g) (n:=m) (by rw [hm]; exact g1 ..) (hK.few w7 hq) (hS.few w7 λx=>sZ x r ok);have es:(σ++Cell.dct (dk F')::.dct (dk K)::g).set m (.dct (dk (S.foldl gx K)))++[.dct (dk S)]=σ++.dct (dk F')::.dct (dk (S.foldl gx K))::(g++[.dct (dk S)]):=by rw [hm,Ni]; exact N2 ..
   rw [es] at u;refine ⟨F',S.foldl gx K,g++[.dct (dk S)],v5',h'.of λx=>by rw [hK.mem x],(yz S hK).of λx=>by rw [hS.mem x],λ{q} hq=>?_⟩;rw [hq];exact (dA prog.G (ae prog (d+5)) (tl (tl cp)) (F6 v0 (.loc σ.length) (.loc m) (.d (ba r)) (.d (.list (N.map .str))) v5) (σ++.dct (dk F)::.dct (dk K)::g) 0 (aK (a8 rfl rfl) e) eS u)
 have lw:∀ x∈L,x∈ws:=λx hx=>kY ok ((hL.mem x).mp hx)
 -- with the names within,if they count
 have within:X2 λ(N:List Str) (g':List Cell)=>A3 ((∀ x,x∈N↔wJ x r=true)) ((∀ x∈N,x∈ws)) (∀ {q:Res Out},execs prog.G (ae prog (d+5)) (tl (tl cp)) (F6 v0 (.loc σ.length) (.loc m) (.d (ba r)) (.d (.list (N.map .str))) v5) (σ++.dct (dk F)::.dct (dk K)::g')=q->execs prog.G (ae prog (d+5)) (tl cp) (F6 v0 (.loc σ.length) (.loc m) (.d (ba r)) (.d (.list (L.map .str))) v5) (σ++.dct (dk F)::.dct (dk K)::g)=q):=by
   clear tail HS;have plain:(∀ x,wJ x r=decide (x∈own r))->∀ x,x∈L↔wJ x r=true:=λh x=>by rw [h x,hL.mem x,decide_eq_true_iff]
   have both:∃ M:List Str,A4 ((∀ x,x∈M↔cC x (cK r)=true)) ((gA ws cs (cK r))) (M.length<=7) (∃ τ,A4 (ae prog (d+5) 9 [.d (.tuple (ak (cK r)))] (σ++.dct (dk F)::.dct (dk K)::g)=.ok (.loc (σ++.dct (dk F)::.dct (dk K)::g).length) τ) (τ=σ++.dct (dk F)::.dct (dk K)::(g++[Cell.dct (dk M)])) (zE .list false [.loc (σ++.dct (dk F)::.dct (dk K)::g).length] τ=.ok (.d (.list (M.map .str))) τ) (dD .add false (.d (.list (L.map .str))) (.d (.list (M.map .str))) τ=.ok (.d (.list ((L++M).map .str))) τ)):=by obtain ⟨M,hM,eM⟩:=H (σ++.dct (dk F)::.dct (dk K)::g);have m7:=hM.few w7 λx=>d4 x _ (g8 ok);refine ⟨M,hM.mem,g8 ok,m7,_,eM,N2 ..,eO (aM _ _),?_⟩;rw [NP];exact iB (by rw [Ng,Ng]; exact iv (Ob (hL.few w7 λx=>kY ok) m7) (by decide)) _
   clear H eL;cases r with
   | set y t=>exact ⟨L,g,plain λ_=>rfl,lw,λh=>ml rfl h⟩
   | tell t=>exact ⟨L,g,plain λ_=>rfl,lw,λh=>ml rfl h⟩
   | call o f ts=>exact ⟨L,g,plain λ_=>rfl,lw,λh=>ml rfl h⟩
   | whn t b=>refine kk λK k=>?_;obtain ⟨M,hM,okb,m7,τ,e1,rfl,e3,e4⟩:=both;refine k ?_;refine ⟨L++M,g++[Cell.dct (dk M)],λx=>?_,λx hx=>(NR.mp hx).elim (lw x) λq=>d4 x _ okb ((hM x).mp q),λ{q} h=>aA (BR rfl (aA (cO (fX rfl (Ka (iz (ay rfl e1)) e3) e4)) rfl)) h⟩;rw [NR,hM x,hL.mem x,Gd,Od,decide_eq_true_iff]; rfl
   | aga n b=>
     have nown:∀ x,¬ x∈L:=λx hx=>by cases (hL.mem x).mp hx
     by_cases h:n > 0
     . refine kk λK k=>?_;obtain ⟨M,hM,okb,m7,τ,e1,rfl,e3,e4⟩:=both;refine k ?_;refine ⟨L++M,g++[Cell.dct (dk M)],λx=>?_,λx hx=>(NR.mp hx).elim (lw x) λq=>d4 x _ okb ((hM x).mp q),λ{q} z=>aA (BR (Bv rfl (dy (sT rfl (dy (Bx (cx rfl rfl rfl) (decide_eq_true h)))))) (aA (cO (fX rfl (Ka (iz (ay rfl e1)) e3) e4)) rfl)) z⟩;rw [NR,hM x,zl,decide_eq_true h,PM];exact ⟨λq=>q.resolve_left (nown x),.inr⟩
     . refine ⟨L,g,λx=>?_,lw,λz=>ml (Bv rfl (dy (sT rfl (dy (Bx (cx rfl rfl rfl) (decide_eq_false h)))))) z⟩;rw [zl,decide_eq_false h,PC];exact ⟨λq=>(nown x q).elim,λq=>by cases q⟩
 refine kk λK k=>?_;obtain ⟨N,g',hN,hw,e1⟩:=within;obtain ⟨F',K',g'',v5',h1,h2,e2⟩:=tail N g' hw;refine k ?_;exact ⟨F',K',g'',_,v5',h1.of λx=>by rw [hN x],h2,aJ (aA (cO (ay rfl eL)) (e1 (e2 rfl)))⟩
theorem p5 (w7:ws.length<=7) (d:Nat) (v0:V) (σ:ac) {m:Nat} (hm:m=σ.length+1):∀ (b:RL) {F K:List Str} {P Q:Str->Prop} (g:List Cell) (v3 v4 v5:V),St F P->(∀ x,P x->x∈ws)->St K Q->(∀ x,Q x->x∈ws)->gA ws cs b->(∀ r∈lst b,gv (.cons r .nil) (d+5))->(∀ r∈lst b,ku (cK r) (d+5))->
   X6 λF' c g' v3' v4' v5'=>St F' (λx=>P x\/(cC x b=true/\¬ Q x))/\aZ (aB prog.G (ae prog (d+5)) (.var 3) cp) (ak b) (F6 v0 (.loc σ.length) (.loc m) v3 v4 v5) (σ++.dct (dk F)::.dct (dk K)::g)=.ok (.next (F6 v0 (.loc σ.length) (.loc m) v3' v4' v5')) (σ++.dct (dk F')::c::g')
 | .nil,F,K,P,Q,g,v3,v4,v5,h,_,_,_,_,_,_=>⟨F,_,g,v3,v4,v5,h.of λx=>⟨.inl,λq=>q.elim id λq=>by cases q.1⟩,rfl⟩
 | .cons r b,F,K,P,Q,g,v3,v4,v5,hF,hp,hK,hq,ok,HS,H=>by refine kk λK k=>?_;obtain ⟨JO,Ny,CX,lu,Ke,aX,IZ,e⟩:=xH w7 d v0 σ hF hp hK hq g hm r ok.1 (HS r (NE ..)) (H r (NE ..)) v3 v4 v5;obtain ⟨F',c,g',v3',v4',v5',h',ih⟩:=p5 w7 d v0 σ hm b CX (.d (ba r)) lu Ke aX (λx q=>q.elim (hp x) λq=>Df x r ok.1 q.1) IZ (λx q=>q.elim (hq x) (sZ x r ok.1)) ok.2 (λq hq=>HS q (NA _ hq)) λq hq=>H q (NA _ hq);refine k ?_;refine ⟨F',c,g',v3',v4',v5',h'.of λx=>?_,aQ e ih⟩;show _↔P x\/((wJ x r||(!yx x r&&cC x b))=true/\¬ Q x);rw [or_assoc];refine or_congr Iff.rfl ?_;cases wJ x r <;> cases yx x r <;> cases cC x b <;> simp
variable {l:List (Str×PyData)}
theorem qj (h1:τ.take σ.length=σ) (h2:τ[σ.length]?=some (.dct l)):nz σ.length (.ret (.loc σ.length)) τ=.ok (.loc σ.length) (σ++[.dct l]):=by
 show (if σ.length < σ.length then _ else match τ[σ.length]? with
   | some (.lst l)=>Res.ok (V.loc σ.length) (τ.take σ.length++[Cell.lst l])
   | some (.dct l)=>.ok (.loc σ.length) (τ.take σ.length++[Cell.dct l])
   | _=>.bad)=_
 rw [if_neg (Pa _),h2,h1]
theorem fb (σ g:ac):(σ++g).take σ.length=σ:=QR rfl
variable {D:Nat}
theorem wO (w7:ws.length<=7) (ok:gA ws cs b) (h:hL b+2<=D):gv b D:=by obtain ⟨d,rfl⟩:=mU h;exact wm w7 (hL b) b d ok (Of _)
theorem uN (w7:ws.length<=7) {cs:CS} {b:RL} (ok:gA ws cs b) (hr:r∈lst b) (hh:hL b<=h) (hD:h+2<=D):gv (.cons r .nil) D:=wO (cs:=cs) (b:=.cons r .nil) w7 ⟨bJ ok r hr,trivial⟩ (iv (NS (Q5.mpr ⟨iv (bW r hr) hh,N3 _⟩) 2) hD)
theorem ll (w7:ws.length<=7):∀ (h:Nat) (b:RL) (d:Nat),gA ws cs b->hL b<=h->ku b (d+h+6):=by
 have fin:∀ (b:RL) (d:Nat),gA ws cs b->(∀ r∈lst b,gv (.cons r .nil) (d+5))->(∀ r∈lst b,ku (cK r) (d+5))->ku b (d+6):=λb d ok HS H σ=>by
   obtain ⟨F,c,g',v3',v4',v5',h,e⟩:=p5 w7 d (.d (.tuple (ak b))) σ (m:=(σ++[Cell.dct []]).length) ND b [] .un .un .un St.nil (λ_ q=>q.elim) St.nil (λ_ q=>q.elim) ok HS H;have ea:σ++Cell.dct (dk [])::.dct (dk [])::[]=(σ++[.dct []])++[.dct []]:=by rw [N2]; rfl
   rw [ea] at e;exact ⟨F,h.of λx=>⟨λq=>(q.resolve_left id).1,λq=>.inr ⟨q,id⟩⟩,((w0 prog 9 (d+5) [.d (.tuple (ak b))] σ rfl 0 (aK (a8 rfl rfl) e))).trans (qj (fb ..) (g0 ..))⟩
 have non:∀ d,ku .nil (d+1):=λd σ=>⟨[],St.nil.of λx=>⟨False.elim,λq=>by cases q⟩,((w0 prog 9 d [.d (.tuple (ak .nil))] σ rfl 0 (aK (a8 rfl rfl) rfl))).trans (qj (by rw [N2]; exact fb ..) (by rw [N2]; exact g0 ..))⟩;intro h
 induction h with
 | zero=>exact λb d ok hh=>fin b d ok (λr hr=>uN w7 ok hr hh (iv (by decide) (N5 5 d))) λr hr=>by rw [lU (iv (bW r hr) hh)]; exact non (d+4)
 | succ h ih=>exact λb d ok hh=>fin b (d+h+1) ok (λr hr=>uN w7 ok hr hh (by rw [On d,On d]; exact iv (Oe (by decide) _) (N5 _ d))) λr hr=>ih (cK r) d (g8 (bJ ok r hr)) (qD (iv (bW r hr) hh))
noncomputable def nI (k:Nat):PyData:=.int (k:Int)
noncomputable def pD (p:List Nat):PyData:=.tuple (p.map nI)
noncomputable def aG (p:List Nat×Rw):PyData:=.tuple [pD p.1,ba p.2]
mutual
noncomputable def wI (pl:List Nat):Rw->List (List Nat×Rw)
 | .whn _ b=>fT pl 0 b
 | .aga _ b=>fT pl 0 b
 | .set _ _=>[]
 | .tell _=>[]
 | .call _ _ _=>[]
noncomputable def fT (pl:List Nat) (k:Nat):RL->List (List Nat×Rw)
 | .nil=>[]
 | .cons r b=>(pl++[k],r)::(wI (pl++[k]) r++fT pl (k+1) b)
end
theorem yN (pl:List Nat) (k:Nat):fT pl k .nil=[]:=rfl
theorem yM (pl:List Nat) (r:Rw):wI pl r=fT pl 0 (cK r):=by cases r <;> rfl
mutual
theorem yL (pl:List Nat):∀ r:Rw,(wI pl r).length+1=nR r
 | .whn _ b=>congrArg (·+1) (cW pl 0 b)
 | .aga _ b=>congrArg (·+1) (cW pl 0 b)
 | .set _ _=>rfl
 | .tell _=>rfl
 | .call _ _ _=>rfl
theorem cW (pl:List Nat) (k:Nat):∀ b:RL,(fT pl k b).length=nL b
 | .nil=>rfl
 | .cons r b=>by show (wI (pl++[k]) r++fT pl (k+1) b).length+1=nR r+nL b;rw [ND,cW pl (k+1) b,<- yL (pl++[k]) r,OX]
end
theorem rD {pl:List Nat} (h:pl.length<=100) (k:Nat) (σ:ac):dD .add false (.d (pD pl)) (.d (.tuple [.int (k:Int)])) σ=.ok (.d (pD (pl++[k]))) σ:=by unfold pD;rw [NP];exact gQ (by rw [Ng]; exact iv (N7 h) (by decide)) σ
theorem Nb (L M N:List α) (x:α):(L++[x]++M)++N=L++x::(M++N):=by rw [N2,N2]; rfl
variable {l:List PyData}
theorem mG (hl:l.length<=900000) (x:PyData):xo .append (.loc σ.length) (σ++[.lst l]) [.d x] (σ++[.lst l])=.ok (.d .none) (σ++[.lst (l++[x])]):=by rw [Hl (aM _ _) hl,fe]
theorem Jq {y:List PyData} (hl:l.length+y.length<=100000):xo .extend (.loc σ.length) (σ++[.lst l]) [.d (.list y)] (σ++[.lst l])=.ok (.d .none) (σ++[.lst (l++y)]):=by have e:qZ .extend (σ++[.lst l]) (.loc σ.length)=true:=vk (aM _ _);unfold xo;rw [e];show Em .extend (.loc σ.length) [.d (.list y)] (σ++[.lst l])=_;rw [AM (aM _ _) rfl (iv hl (by decide)),fe]
theorem yK {a:Nat} (pl:List Nat) (k:Nat) (r:Rw) (b:RL) (h:a+nL (.cons r b)<=n):a<=n/\a+1+(wI (pl++[k]) r).length+nL b<=n:=by
 have e:a+1+(wI (pl++[k]) r).length+nL b=a+nL (.cons r b):=by show _=a+(nR r+nL b);rw [<- yL (pl++[k]) r,On a,Oj 1,On]
 exact ⟨iv (NZ _ _) h,e ▸ h⟩
noncomputable def g9 (f:Nat) (b:RL) (pl:List Nat) (d:Nat):Prop:=∀ σ,ae prog d f [.d (pD pl),.d (.tuple (ak b))] σ=.ok (.d (.list ((fT pl 0 b).map aG))) σ
theorem rE {pl:List Nat} (hpl:pl.length<=100) (d:Nat) (v1:V) (σ:ac):∀ (b:RL) (k:Nat) (L:List PyData) (v3 v4:V),L.length+nL b<=9000->(∀ r∈lst b,∀ k,g9 7 (cK r) (pl++[k]) (d+2))->
   X2 λv3' v4'=>aZ (aB prog.G (ae prog (d+2)) (.tup [3,4]) k8) (((ak b).zipIdx k).map λp=>.tuple [.int p.2,p.1]) (F5 (.d (pD pl)) v1 (.loc σ.length) v3 v4) (σ++[.lst L])=.ok (.next (F5 (.d (pD pl)) v1 (.loc σ.length) v3' v4')) (σ++[.lst (L++(fT pl k b).map aG)])
 | .nil=>@λk L v3 v4 _ _=>⟨v3,v4,by rw [yN,OV,NX]; rfl⟩
 | .cons r b=>@λk L v3 v4 hl IH=>by
   obtain ⟨h1,h2⟩:=yK pl k r b hl;have hl2:(L++[aG (pl++[k],r)]++(wI (pl++[k]) r).map aG).length+nL b<=9000:=by rw [ND,ND,Ng]; exact h2
   obtain ⟨v3',v4',ih⟩:=rE hpl d v1 σ b (k+1) (L++[aG (pl++[k],r)]++(wI (pl++[k]) r).map aG) (.d (nI k)) (.d (ba r)) hl2 λx hx=>IH x (NA _ hx);have w:=IH r (NE ..) k (σ++[.lst (L++[aG (pl++[k],r)])]);rw [<- yM] at w;have ea:=Jq (σ:=σ) (l:=L++[aG (pl++[k],r)]) (y:=(wI (pl++[k]) r).map aG) (by rw [<- ND]; exact iv (OJ hl2) (by decide));rw [Nb,<- NP] at ih;exact ⟨v3',v4',aQ (ek rfl ((dA prog.G (ae prog (d+2)) k8 (F5 (.d (pD pl)) v1 (.loc σ.length) (.d (.int (k:Int))) (.d (ba r))) (σ++[Cell.lst L]) 3 (rD hpl k _) (mG (iv h1 (by decide)) _) (rD hpl k _) (wl r d _) w ea))) ih⟩
theorem EG {pl:List Nat} (hpl:pl.length<=100) (d:Nat) (hn:nL b<=9000) (IH:∀ r∈lst b,∀ k,g9 7 (cK r) (pl++[k]) (d+2)):g9 7 b pl (d+3):=λσ=>by obtain ⟨v3',v4',lp⟩:=rE hpl d (.d (.tuple (ak b))) σ b 0 [] .un .un (by rw [OY,Pe]; exact hn) IH;exact (a5 prog 7 (d+2) [.d (pD pl),.d (.tuple (ak b))] σ rfl 0 (aK (tS rfl) lp) (ke _ _) (b7 _ _))
variable {F:RL->List Nat->Nat->Prop}
theorem mF {c:Nat} (h0:∀ pl d,F .nil pl (d+c)) (h:∀ (b:RL) (pl:List Nat) (d:Nat),pl.length<=100->nL b<=9000->(∀ r∈lst b,∀ k,F (cK r) (pl++[k]) (d+c))->F b pl (d+c+1)):∀ (n:Nat) (b:RL) (pl:List Nat) (d:Nat),hL b<=n->nL b<=9000->pl.length+n<=100->F b pl (d+n+c+1)
 | 0=>@λb pl d hh hn hp=>h b pl d hp hn λr hr k=>by rw [lU (iv (bW r hr) hh)]; exact h0 _ d
 | n+1=>@λb pl d hh hn hp=>h b pl (d+n+1) (iv (NZ _ _) hp) hn λr hr k=>by have:=mF h0 h n (cK r) (pl++[k]) d (qD (iv (bW r hr) hh)) (DT hr hn) (by rw [ND,On,Oj _ n]; exact hp);rw [OX (d+n) 1 c]; exact this
theorem gL:∀ (n:Nat) (b:RL) (pl:List Nat) (d:Nat),hL b<=n->nL b<=9000->pl.length+n<=100->g9 7 b pl (d+n+3):=mF (F:=g9 7) (c:=2) (λpl d σ=>(a5 prog 7 (d+1) [.d (pD pl),.d (.tuple (ak .nil))] σ rfl 0 (aK (tS rfl) rfl) (ke _ _) (b7 _ _))) λb pl d hp hn H=>EG hp d hn H
theorem JE {x:List PyData} (h:σ[n]?=some (.lst x)) (y:List PyData) (hl:x.length+y.length<=100000):dD .add true (.loc n) (.d (.list y)) σ=.ok (.loc σ.length) (σ++[.lst (x++y)]):=by show b2 (aD σ (.loc n)) (some y) (λx y=>if x.length+y.length<=LIM then aU true (x++y) σ else .bad) .bad=_;rw [iQ h]; exact if_pos (iv hl (by decide))
theorem ft {l0 l:List α} (h:l0.drop k=a::l):l0[k]?=some a/\l0.drop (k+1)=l:=by
 constructor
 . have:=congrArg (λl=>l[0]?) h;rw [List.getElem?_drop,Nat.add_zero] at this;exact this
 . rw [<- List.drop_drop,h]; rfl
theorem mV {pl:List Nat} (hpl:pl.length<=100) (d:Nat) (b0:RL) (σ:ac):∀ (b:RL) (k:Nat) (L:List PyData) (g:ac) (v3:V),(ak b0).drop k=ak b->L.length+nL b<=9000->(∀ r∈lst b,∀ k,g9 41 (cK r) (pl++[k]) (d+1))->
   X2 λg' v3'=>aZ (aB prog.G (ae prog (d+1)) (.var 3) gi) ((List.range' k (ak b).length).map λ(k:Nat)=>PyData.int (k:Int)) [.d (pD pl),.d (.tuple (ak b0)),.loc (σ++g).length,v3] ((σ++g)++[.lst L])=.ok (.next [.d (pD pl),.d (.tuple (ak b0)),.loc (σ++g').length,v3']) ((σ++g')++[.lst (L++(fT pl k b).map aG)])
 | .nil=>@λk L g v3 _ _ _=>⟨g,v3,by rw [yN,OV,NX]; rfl⟩
 | .cons r b=>@λk L g v3 hd hl IH=>by
   obtain ⟨h1,h2⟩:=yK pl k r b hl;have hl2:(L++[aG (pl++[k],r)]++(wI (pl++[k]) r).map aG).length+nL b<=9000:=by rw [ND,ND,Ng]; exact h2
   obtain ⟨hk,hd'⟩:=ft hd;have hI:∀ τ:ac,df (.d (.tuple (ak b0))) (.d (.int (k:Int))) τ=some (.d (ba r)):=λτ=>by rw [b9,hk]; rfl
   obtain ⟨g',v3',ih⟩:=mV hpl d b0 σ b (k+1) (L++[aG (pl++[k],r)]++(wI (pl++[k]) r).map aG) (g++[.lst (L++[aG (pl++[k],r)])]) (.d (.int (k:Int))) hd' hl2 λx hx=>IH x (NA _ hx);have w:=IH r (NE ..) k ((σ++g)++[.lst (L++[aG (pl++[k],r)])]);rw [<- yM] at w;have ea:=JE (aM (σ++g) (.lst (L++[aG (pl++[k],r)]))) ((wI (pl++[k]) r).map aG) (by rw [<- ND]; exact iv (OJ hl2) (by decide));rw [Nb,<- NP,<- N2] at ih;exact ⟨g',v3',aQ (aJ ((dA prog.G (ae prog (d+1)) gi [.d (pD pl),.d (.tuple (ak b0)),.loc (σ++g).length,.d (.int (k:Int))] ((σ++g)++[Cell.lst L]) 31 (rD hpl k _) (hI _) (mG (iv h1 (by decide)) _) (rD hpl k _) (hI _) (qB r d _) w ea))) ih⟩
theorem iO:∀ b:RL,(ak b).length<=nL b
 | .nil=>Of _
 | .cons r b=>by show (ak b).length+1<=nR r+nL b;rw [Oj,<- DS r];exact Ob (N5 ..) (iO b)
theorem jv (h:n<=9000):-100000<=(n:Int)/\(n:Int)<=100000:=⟨OC (by decide) (Oa n),Pd.mpr (iv h (by decide))⟩
theorem Am {pl:List Nat} (hpl:pl.length<=100) (d:Nat) (hn:nL b<=9000) (IH:∀ r∈lst b,∀ k,g9 41 (cK r) (pl++[k]) (d+1)):g9 41 b pl (d+2):=λσ=>by obtain ⟨g',v3',lp⟩:=mV hpl d b σ b 0 [] [] .un rfl (by rw [OY,Pe]; exact hn) IH;rw [NX,<- OZ,<- cn] at lp;exact (a5 prog 41 (d+1) [.d (pD pl),.d (.tuple (ak b))] σ rfl 0 (aK (d0 rfl (jv (iv (iO b) hn))) lp) (ke _ _) (by rw [N2]; exact fb ..))
theorem dL:∀ (n:Nat) (b:RL) (pl:List Nat) (d:Nat),hL b<=n->nL b<=9000->pl.length+n<=100->g9 41 b pl (d+n+2):=mF (F:=g9 41) (c:=1) (λpl d σ=>(a5 prog 41 d [.d (pD pl),.d (.tuple (ak .nil))] σ rfl 0 (aK (xs:=bD 0 0) (d0 (b:=0) rfl (by decide)) rfl) (ke _ _) (b7 _ _))) λb pl d hp hn H=>Am hp d hn H
noncomputable def pI (a:Int) (ms:List Int) (z:Int):PyData:=.tuple (.int a::(ms.map PyData.int++[.int z]))
noncomputable def g6 {α:Type} (l:List α) (i:Int):Option α:=if 0<=i then l[i.toNat]? else none
theorem d3 (l:List α) (k:Nat):g6 l (k:Int)=l[k]?:=if_pos (Oa k)
variable {l:List α}
theorem zg (hn:l.length=n):(0<=i/\i < (n:Int))↔(g6 l i).isSome=true:=by
 subst hn;unfold g6;by_cases h:0<=i
 . obtain ⟨k,rfl⟩:=Py h;rw [if_pos h];show (0<=(k:Int)/\(k:Int) < (l.length:Int))↔(l[k]?).isSome=true;rw [Ox];exact ⟨λq=>⟨_,NC (OO.mp q.2)⟩,λ⟨a,q⟩=>⟨h,OO.mpr (NK.mp q).1⟩⟩
 . rw [if_neg h];exact ⟨λq=>(h q.1).elim,λq=>by cases q⟩
theorem Bu {σ:ac} {a b:E} {n:Int} (h1:ag G cf a ρ σ=.ok (.d (.int i)) σ) (h2:ag G cf b ρ σ=.ok (.d (.int n)) σ):ag G cf (.cmp2 .le .lt (.int 0) a b) ρ σ=.ok (.d (.bool (decide (0<=i/\i < n)))) σ:=by
 rw [Gn];refine aF (a:=V.d (.int 0)) (σ:=σ) rfl (aF h1 (aF (a:=decide (0<=i)) (σ:=σ) rfl ?_));by_cases h:0<=i
 . rw [decide_eq_true h];refine (aF h2 rfl:_=Res.ok (V.d (.bool (decide (i < n)))) σ).trans ?_;rw [decide_eq_decide.mpr (show (i < n)↔(0<=i/\i < n) from ⟨λq=>⟨h,q⟩,And.right⟩)]
 . rw [decide_eq_false h];show Res.ok (V.d (.bool false)) σ=_;rw [decide_eq_false λq=>h q.1]
theorem EH {a b:E} (hn:l.length=n) (h1:ag G cf a ρ σ=.ok (.d (.int i)) σ) (h2:ag G cf b ρ σ=.ok (.d (.int n)) σ):ag G cf (.cmp2 .le .lt (.int 0) a b) ρ σ=.ok (.d (.bool (g6 l i).isSome)) σ:=by
 rw [Bu h1 h2];cases hs:(g6 l i).isSome with
 | true=>rw [decide_eq_true ((zg hn).mpr hs)]
 | false=>rw [decide_eq_false λq=>by rw [(zg hn).mp q] at hs; cases hs]
theorem iR (b:RL):(lst b).length=(ak b).length:=by rw [eZ,Ng]
theorem jJ (h:g6 (lst b) i=some r) (σ:ac):df (.d (.tuple (ak b))) (.d (.int i)) σ=some (.d (ba r)):=by
 unfold g6 at h;by_cases q:0<=i
 . obtain ⟨k,rfl⟩:=Py q;rw [if_pos q] at h;have h:(lst b)[k]?=some r:=h;show df _ (.d (.int (k:Int))) σ=_;rw [b9,eZ,Om,h]; rfl
 . rw [if_neg q] at h; cases h
theorem bG (h:fs[j]?=some f) (σ:ac):df (.d (.tuple (fs.map aq))) (.d (.int (j:Int))) σ=some (.d (aq f)):=by rw [b9,Om,h]; rfl
theorem Gr (h:uz r=true) (σ:ac):df (.d (ba r)) (.d (.int 2)) σ=some (.d (.tuple (ak (cK r)))):=by cases r <;> first | rfl | cases h
theorem tD (a:Int) (ms:List Int) (z:Int) (σ:ac):df (.d (pI a ms z)) (.d (.int (-1))) σ=some (.d (.int z)):=vA (.int a::ms.map PyData.int) (.int z) σ
theorem zY (a:α) (l:List α) (x:α):ar (a::(l++[x])) (some 1) (some (-1))=l:=by
 have e:(-1:Int)+((a::(l++[x])).length:Int)=((l.length+1:Nat):Int):=by rw [NU,ND,OM]; exact IP _
 have h:jN (a::(l++[x])).length (-1)=l.length+1:=by unfold jN;rw [if_pos (by decide),e,Qp (Pd.mpr (by rw [NU,ND]; exact NZ ..)),PQ (Oa _)]; rfl
 show ((a::(l++[x])).drop (jN (a::(l++[x])).length ((1:Nat):Int))).take (jN (a::(l++[x])).length (-1) - jN (a::(l++[x])).length ((1:Nat):Int))=l;rw [h,qt,Pj (by rw [NU]; exact N5 ..),Nat.add_sub_cancel];exact QR rfl
theorem Ca (a:Int) (ms:List Int) (z:Int) (σ:ac):gU false (.d (pI a ms z)) (some (.d (.int 1))) (some (.d (.int (-1)))) σ=.ok (.d (.tuple (ms.map PyData.int))) σ:=by unfold pI;rw [jV _ _ (iL _) (iL _),zY]
theorem tC (a:Int) (ms:List Int) (z:Int):¬ (((PyData.int a::(ms.map PyData.int++[.int z])).length:Nat):Int) < 2:=λq=>by rw [NU,ND] at q;exact absurd (OO.mp q) (Qv.mpr (N5 2 _))
noncomputable def kz (b:RL):List Int->Option RL
 | []=>some b
 | i::is=>match g6 (lst b) i with
   | some r=>match uz r with
     | true=>kz (cK r) is
     | false=>none
   | none=>none
theorem sR (b:RL) (i:Int) (is:List Int):kz b (i::is)=(match g6 (lst b) i with | some r=>(match uz r with | true=>kz (cK r) is | false=>none) | none=>none):=rfl
theorem yq (h:g6 (lst b) i=none) (is:List Int):kz b (i::is)=none:=by rw [sR,h]
theorem rF (h:g6 (lst b) i=some r) (hb:uz r=false) (is:List Int):kz b (i::is)=none:=by rw [sR,h]; show (match uz r with | true=>_ | false=>_)=_; rw [hb]
theorem nZ (h:g6 (lst b) i=some r) (hb:uz r=true) (is:List Int):kz b (i::is)=kz (cK r) is:=by rw [sR,h]; show (match uz r with | true=>_ | false=>_)=_; rw [hb]
noncomputable def Nv (o:Option RL) (f:RL->Fm) (σ:ac):Res Out:=match o with
 | some c=>.ok (.next (f c)) σ
 | none=>.ok (.exc 1 []) σ
noncomputable def Nw (o:Option RL):V:=match o with
 | some c=>.d (.tuple (ak c))
 | none=>.exc 1 []
theorem o6 (a:Int) (ms:List Int) (z:Int) (σ:ac):df (.d (pI a ms z)) (.d (.int 0)) σ=some (.d (.int a)):=b9 (k:=0) ..
theorem Gu (d:Nat) (v0 v1:V) (σ:ac):∀ (ms:List Int) (b:RL) (v3:V),∃ v3',aZ (aB prog.G (ae prog (d+1)) (.var 3) iS) (ms.map PyData.int) [v0,v1,.d (.tuple (ak b)),v3] σ=Nv (kz b ms) (λc=>[v0,v1,.d (.tuple (ak c)),v3']) σ:=by
 intro xs_
 induction xs_ with
 | nil=>intro b v3; exact ⟨v3,rfl⟩
 | cons i is ih_=>
   intro b v3;have c1:=EH (G:=prog.G) (cf:=ae prog (d+1)) (a:=.var 3) (b:=.bi .len false (.cons (.var 2) .nil)) (ρ:=[v0,v1,.d (.tuple (ak b)),.d (.int i)]) (σ:=σ) (iR b) rfl rfl;have R:=dA prog.G (ae prog (d+1)) iS [v0,v1,.d (.tuple (ak b)),.d (.int i)] σ;cases hr:g6 (lst b) i with
   | none=>rw [hr] at c1;rw [yq hr];exact ⟨.un,Cz (aJ ((R 0 c1)))⟩
   | some r=>
     rw [hr] at c1;have gr:=jJ hr σ;have hh:=kQ r d σ;cases hb:uz r with
     | false=>rw [hb] at hh;rw [rF hr hb];exact ⟨.un,Cz (aJ ((R 4 c1 gr hh)))⟩
     | true=>rw [hb] at hh;rw [nZ hr hb];obtain ⟨v3',ih⟩:=ih_ (cK r) (.d (.int i));exact ⟨v3',aQ (aJ ((R 52 c1 gr hh gr (Gr hb σ)))) ih⟩
theorem mH (hj:fs[j]?=some f) (ms:List Int) (z:Int) (d:Nat) (σ:ac):ae prog (d+2) 10 [.d (.tuple (fs.map aq)),.d (pI (j:Int) ms z)] σ=.ok (Nw (kz f.rs ms)) σ:=by
 obtain ⟨v3',lp⟩:=Gu d (.d (.tuple (fs.map aq))) (.d (pI (j:Int) ms z)) σ ms f.rs .un;have c0:=EH (G:=prog.G) (cf:=ae prog (d+1)) (a:=.idx (.var 1) (.int 0)) (b:=.bi .len false (.cons (.var 0) .nil)) (ρ:=[.d (.tuple (fs.map aq)),.d (pI (j:Int) ms z),.un,.un]) (σ:=σ) (l:=fs) (i:=(j:Int)) (Ng _).symm (bw rfl rfl (o6 ..)) rfl;rw [d3,hj] at c0;have R:=a5 prog 10 (d+1) [.d (.tuple (fs.map aq)),.d (pI (j:Int) ms z)] σ rfl;have gf:=bG hj σ;have it:=a8 (yr (G:=prog.G) (cf:=ae prog (d+1)) (m:=false) (a:=.var 1) (lo:=.yes (.int 1)) (hi:=.yes (.neg (.int 1))) (ρ:=[.d (.tuple (fs.map aq)),.d (pI (j:Int) ms z),.d (.tuple (ak f.rs)),.un]) rfl rfl rfl (Ca (j:Int) ms z σ)) rfl;cases hw:kz f.rs ms with
 | some c=>rw [hw] at lp;exact (R 104 (dF (tC _ _ _)) c0 (o6 (j:Int) ms z σ) gf (aK it lp) (same σ))
 | none=>rw [hw] at lp;exact (R 104 (dF (tC _ _ _)) c0 (o6 (j:Int) ms z σ) gf (aK it lp) (same σ))
theorem sW {a:Int} (ha:g6 fs a=none) (ms:List Int) (z:Int) (d:Nat) (σ:ac):ae prog (d+2) 10 [.d (.tuple (fs.map aq)),.d (pI a ms z)] σ=.ok (.exc 1 []) σ:=by have c0:=EH (G:=prog.G) (cf:=ae prog (d+1)) (a:=.idx (.var 1) (.int 0)) (b:=.bi .len false (.cons (.var 0) .nil)) (ρ:=[.d (.tuple (fs.map aq)),.d (pI a ms z),.un,.un]) (σ:=σ) (l:=fs) (i:=a) (Ng _).symm (bw rfl rfl (o6 ..)) rfl;rw [ha] at c0;exact (a5 prog 10 (d+1) [.d (.tuple (fs.map aq)),.d (pI a ms z)] σ rfl 8 (dF (tC _ _ _)) c0 (same σ))
variable {v:PyData}
theorem mj {P:PyData} (d:Nat) (σ:ac) (h:ae prog (d+2) 10 [.d v,.d P] σ=.ok (.exc 1 []) σ):ae prog (d+3) 11 [.d v,.d P] σ=.ok (.exc 1 []) σ:=
 (a5 prog 11 (d+2) [.d v,.d P] σ rfl 0 h (same σ))
noncomputable def Mb:Option Rw->V
 | some r=>.d (ba r)
 | none=>.exc 1 []
variable {ms:List Int} {c:RL}
theorem rT {a:Int} {z:Int} (d:Nat) (σ:ac) (h:ae prog (d+2) 10 [.d v,.d (pI a ms z)] σ=.ok (.d (.tuple (ak c))) σ):ae prog (d+3) 11 [.d v,.d (pI a ms z)] σ=.ok (Mb (g6 (lst c) z)) σ:=by
 have c0:=EH (G:=prog.G) (cf:=ae prog (d+2)) (a:=.idx (.var 1) (.neg (.int 1))) (b:=.bi .len false (.cons (.var 2) .nil)) (ρ:=[.d v,.d (pI a ms z),.d (.tuple (ak c))]) (σ:=σ) (l:=lst c) (i:=z) (iR c) (bw rfl rfl (tD a ms z σ)) rfl;have R:=a5 prog 11 (d+2) [.d v,.d (pI a ms z)] σ rfl;cases hz:g6 (lst c) z with
 | none=>rw [hz] at c0;exact (R 0 h c0 (same σ))
 | some r=>rw [hz] at c0;exact (R 6 h c0 (tD a ms z σ) (jJ hz σ) (same σ))
noncomputable def Ed (fs:List Fd) (x:PyData):Prop:=∀ (d:Nat) (σ:ac),ae prog (d+3) 11 [.d (.tuple (fs.map aq)),.d x] σ=.ok (.exc 1 []) σ
theorem sK (hj:fs[j]?=some f) (ms:List Int) (z:Int) (h:∀ c,kz f.rs ms=some c->g6 (lst c) z=none):Ed fs (pI (j:Int) ms z):=λd σ=>by
 have e:=mH hj ms z d σ;cases hw:kz f.rs ms with
 | none=>rw [hw] at e; exact mj d σ e
 | some c=>rw [hw] at e;rw [rT d σ e,h c hw]; rfl
variable {a:Int}
theorem zF (ha:g6 fs a=none) (ms:List Int) (z:Int):Ed fs (pI a ms z):=λd σ=>mj d σ (sW ha ms z d σ)
theorem sL {P:List PyData} (hP:P.length < 2):Ed fs (.tuple P):=λd σ=>mj d σ ((a5 prog 10 (d+1) [.d (.tuple (fs.map aq)),.d (.tuple P)] σ rfl 24 (dT (OO.mpr hP)) (dT (OO.mpr hP)) (same σ)))
inductive Pth:RL->List Nat->RL->Prop
 | nil (b:RL):Pth b [] b
 | cons {b c:RL} {r:Rw} {k:Nat} {ks:List Nat}:(lst b)[k]?=some r->uz r=true->Pth (cK r) ks c->Pth b (k::ks) c
noncomputable def iN (p:List Nat):List Int:=p.map λ(k:Nat)=>(k:Int)
noncomputable def bb (j:Nat) (pre:List Nat) (z:Nat):List Nat:=j::(pre++[z])
theorem GR (j:Nat) (pre:List Nat) (z:Nat):pD (bb j pre z)=pI (j:Int) (iN pre) (z:Int):=by unfold pD bb pI iN;rw [Ol,NP,Oq]; rfl
variable {pre:List Nat}
theorem Bq (h:Pth b pre c):kz b (iN pre)=some c:=by
 induction h with
 | nil b=>rfl
 | @cons b c r k ks hk hb _ ih=>exact (nZ ((d3 _ k).trans hk) hb (iN ks)).trans ih
variable {z:Nat}
theorem jO (hj:fs[j]?=some f) (hp:Pth f.rs pre c) (hz:(lst c)[z]?=some r) (d:Nat) (σ:ac):ae prog (d+3) 11 [.d (.tuple (fs.map aq)),.d (pD (bb j pre z))] σ=.ok (.d (ba r)) σ:=by have e:=mH hj (iN pre) (z:Int) d σ;rw [Bq hp] at e;rw [GR,rT d σ e,d3,hz]; rfl
mutual
theorem B7 (pl:List Nat):∀ (r:Rw) (p:List Nat×Rw),p∈wI pl r->uz r=true/\X3 λ(pre:List Nat) (z:Nat) (c:RL)=>A3 (p.1=pl++(pre++[z])) (Pth (cK r) pre c) ((lst c)[z]?=some p.2)
 | .whn t b=>@λp hp=>⟨rfl,f8 pl b b 0 rfl p hp⟩
 | .aga n b=>@λp hp=>⟨rfl,f8 pl b b 0 rfl p hp⟩
 | .set _ _=>@λp hp=>by cases hp
 | .tell _=>@λp hp=>by cases hp
 | .call _ _ _=>@λp hp=>by cases hp
theorem f8 (pl:List Nat) (b0:RL):∀ (b:RL) (k:Nat),(lst b0).drop k=lst b->∀ p∈fT pl k b,X3 λ(pre:List Nat) (z:Nat) (c:RL)=>A3 (p.1=pl++(pre++[z])) (Pth b0 pre c) ((lst c)[z]?=some p.2)
 | .nil=>@λk _ p hp=>by cases hp
 | .cons r b=>@λk hd p hp=>by
   obtain ⟨g,hd'⟩:=ft hd;rcases NN.mp hp with rfl | hp
   . exact ⟨[],k,b0,rfl,.nil b0,g⟩
   . rcases NR.mp hp with hp | hp
     . obtain ⟨hb,pre,z,c,e,h1,h2⟩:=B7 _ r p hp;exact ⟨k::pre,z,c,by rw [e,N2]; rfl,.cons g hb h1,h2⟩
     . exact f8 pl b0 b (k+1) hd' p hp
end
theorem jY (h:Pth b pre c):pre.length<=hL b:=by
 induction h with
 | nil b=>exact N3 _
 | @cons b c r k ks hk hb _ ih=>
   have h2:hL (cK r)+1=hR r:=by cases r <;> first | rfl | cases hb
   exact iv (N7 ih) (iv (OH h2) (bW r (NI hk)))
theorem Br (h:Pth b pre c) (i:Int):kz b (iN pre++[i])=kz c [i]:=by
 induction h with
 | nil b=>rfl
 | @cons b c r k ks hk hb _ ih=>exact (nZ ((d3 _ k).trans hk) hb (iN ks++[i])).trans ih
theorem DW (hj:fs[j]?=some f) (hp:Pth f.rs pre c) (hz:(lst c)[z]?=some r) (hr:cK r=.nil) (y:Int):Ed fs (.tuple ((bb j pre z).map nI++[.int y])):=by
 have e:PyData.tuple ((bb j pre z).map nI++[.int y])=pI (j:Int) (iN pre++[(z:Int)]) y:=by unfold pI bb iN;rw [Ol,NP,NP,Oq]; rfl
 rw [e];refine sK hj _ y λc' hc=>?_;rw [Br hp] at hc;have hz:=(d3 _ z).trans hz;cases hb:uz r with
 | true=>rw [nZ hz hb,hr] at hc;cases hc;unfold g6;exact ite_self _
 | false=>rw [rF hz hb] at hc; cases hc
theorem Gs (h:(ak (cK r)).isEmpty=true):cK r=.nil:=by
 cases hb:cK r with
 | nil=>rfl
 | cons _ _=>rw [hb] at h; cases h
theorem pW (l:List α) (h:i < 0):g6 l i=none:=if_neg (Int.not_le.mpr h)
theorem lK (l:List α) (hn:l.length<=n) (h:(n:Int)<=i):g6 l i=none:=by obtain ⟨k,rfl⟩:=Py (OC (Oa n) h);exact (d3 l k).trans (OS (iv hn (Pd.mp h)))
theorem AX (f0:0 < fs.length) (fok:∀ f∈fs,hL f.rs<=9/\nL f.rs<=600) (c:Int) (d:Nat) (σ:ac):∃ x,ae prog (d+14) 55 [.d (.tuple (fs.map aq)),.d (.int c)] σ=.ok (.d x) σ/\Ed fs x:=by
 have fpos:0 < ((fs.map aq).length:Int):=by rw [Ng]; exact OO.mpr f0
 obtain ⟨j,hjN⟩:=Py (bI (c / 6) fpos).1;have hlt:j < fs.length:=by have:=(bI (c / 6) fpos).2;rw [hjN,Ng] at this;exact OO.mp this
 have m1:=gO (x:=c / 6) σ false fpos;rw [hjN] at m1;have hj:fs[j]?=some fs[j]:=NC hlt;generalize fs[j]=f at hj;obtain ⟨fh,fn⟩:=fok f (NI hj);have far0:=(bI (c / 30) (m:=100000000000000000000) (by decide)).1;generalize hfar:c / 30 % 100000000000000000000=far at far0;have m2:dD .mod false (.d (.int (c / 30))) (.d (.int 100000000000000000000)) σ=.ok (.d (.int far)) σ:=by rw [gO _ _ (by decide),hfar]
 have ep:=dL 9 f.rs [j] (d+2) fh (iv fn (by decide)) (N5 10 90) σ
 -- the nine
 obtain ⟨Sm,lS,badS,s5⟩:∃ Sm:List PyData,A3 (Sm.length=9) ((∀ x∈Sm,Ed fs x)) (execs prog.G (ae prog (d+13)) jc ([.d (.tuple (fs.map aq)),.d (.int c)]++List.replicate 6 .un) σ=execs prog.G (ae prog (d+13)) (tl (tl (tl (tl (tl jc))))) (F8 (.d (.tuple (fs.map aq))) (.d (.int c)) (.d (.int (j:Int))) (.d (.tuple (ak f.rs))) (.d (.int far)) (.d (.list Sm)) .un .un) σ):=by
   refine ⟨[.tuple [.int (j:Int),.int (-1)],.tuple [.int (j:Int),.int (ak f.rs).length],.tuple [.int (((fs.map aq).length:Int)+far),.int 0],.tuple [.int (-1 - far),.int 0],.tuple [.int (j:Int)],.tuple [],.tuple [.int (j:Int),.int ((ak f.rs).length+far)],.tuple [.int (j:Int),.int 0,.int (-1 - far)],.tuple [.int (j:Int),.int (ak f.rs).length,.int 0]],rfl,?_,?_⟩
   . have neg:-1 - far < 0:=Int.lt_of_le_of_lt (Int.sub_le_sub_left far0 (-1)) (by decide);have L:=iR f.rs;have rows:∀ c',kz f.rs []=some c'->(lst c').length<=(ak f.rs).length:=λc' hc=>by cases hc; exact OH L
     have all:∀ l:List PyData,(∀ x∈l,Ed fs x)->∀ y,Ed fs y->∀ x∈y::l,Ed fs x:=λl h y hy x hx=>(NN.mp hx).elim (λe=>e ▸ hy) (h x);refine all _ (all _ (all _ (all _ (all _ (all _ (all _ (all _ (all _ (λx hx=>by cases hx) _ ?_) _ ?_) _ ?_) _ ?_) _ ?_) _ ?_) _ ?_) _ ?_) _ ?_
     . exact sK hj [((ak f.rs).length:Int)] 0 λc' hc=>by rw [yq (lK _ (OH L) (Int.le_refl _))] at hc; cases hc
     . exact sK hj [0] (-1 - far) λc' _=>pW _ neg
     . exact sK hj [] ((ak f.rs).length+far) λc' hc=>lK _ (rows c' hc) (Pp far0)
     . exact sL (by decide)
     . exact sL (PR 1)
     . exact zF (pW _ neg) [] 0
     . exact zF (lK _ (OH (Ng aq).symm) (Pp far0)) [] 0
     . exact sK hj [] (ak f.rs).length λc' hc=>lK _ (rows c' hc) (Int.le_refl _)
     . exact sK hj [] (-1) λc' _=>pW _ (by decide)
   . refine aA (cO (fX rfl rfl m1)) (aA (cO (bw (bw rfl rfl (bG hj σ)) rfl rfl)) (aA (cO (fX rfl rfl m2)) (aA (cO rfl) (aA (cO (fX rfl rfl (iB (N8 rfl) σ))) rfl))))
 -- the leaves
 have cm:=fy (G:=prog.G) (cf:=ae prog (d+13)) (i:=7) (it:=.seq (.call 41 (.cons (.tup (.cons (.var 2) (.nil))) (.cons (.var 3) (.nil))))) (c:=.cmp .eq (.call 40 (.cons (.idx (.var 7) (.int 1)) (.nil))) (.tup (.nil))) (e:=.bin .add false (.idx (.var 7) (.int 0)) (.tup (.cons (.bin .mod false (.var 4) (.int 2)) (.nil))))
   (ρ:=(F8 (.d (.tuple (fs.map aq))) (.d (.int c)) (.d (.int (j:Int))) (.d (.tuple (ak f.rs))) (.d (.int far)) (.d (.list Sm)) .un .un)) (σ:=σ) (aa:=σ) aG (λp=>.tuple (p.1.map nI++[.int (far % 2)])) (λp=>(ak (cK p.2)).isEmpty) (ps:=fT [j] 0 f.rs)
   (a8 (ay rfl ep) rfl) (λp hp=>cx (ay rfl (qB p.2 (d+12) _)) rfl (zq ..)) (λp hp _=>by obtain ⟨pre,z,c',e1,h1,h2⟩:=f8 _ f.rs f.rs 0 rfl p hp;refine fX (x:=.d (.tuple (p.1.map nI))) rfl rfl (gQ ?_ _);rw [Ng,e1,ND,ND];exact iv (N7 (Oe (N7 (iv (jY h1) fh)) 1)) (by decide))
 have bLv:∀ x∈((fT [j] 0 f.rs).filter λp=>(ak (cK p.2)).isEmpty).map (λp=>PyData.tuple (p.1.map nI++[.int (far % 2)])),Ed fs x:=λx hx=>by obtain ⟨p,hp,rfl⟩:=Ok.mp hx;obtain ⟨hp,hb⟩:=Ov.mp hp;obtain ⟨pre,z,c',e1,h1,h2⟩:=f8 _ f.rs f.rs 0 rfl p hp;rw [e1];exact DW hj h1 h2 (Gs hb) (far % 2)
 have lLv:(((fT [j] 0 f.rs).filter λp=>(ak (cK p.2)).isEmpty).map (λp=>PyData.tuple (p.1.map nI++[.int (far % 2)]))).length<=600:=by rw [Ng];exact iv (Ot ..) (by rw [cW]; exact fn)
 generalize ((fT [j] 0 f.rs).filter λp=>(ak (cK p.2)).isEmpty).map (λp=>PyData.tuple (p.1.map nI++[.int (far % 2)]))=Lv at cm bLv lLv;have p9:0 < (9:Int)+(Lv.length:Int):=PG (by decide) (Pp (Oa _));have em:=bI c p9;obtain ⟨x,hx,ix⟩:=CP (l:=Sm++Lv) (i:=c % (9+(Lv.length:Int))) em.1 (by rw [ND,lS]; exact em.2) σ;refine ⟨x,cR (fn:=qd) (d:=d+13) rfl rfl (s5.trans ?_),(NR.mp hx).elim (badS x) (bLv x)⟩;exact (dA prog.G (ae prog (d+13)) (tl (tl (tl (tl (tl jc))))) (F8 (.d (.tuple (fs.map aq))) (.d (.int c)) (.d (.int (j:Int))) (.d (.tuple (ak f.rs))) (.d (.int far)) (.d (.list Sm)) .un .un) σ 25 cm (iB (by rw [lS]; exact iv (Oe lLv 9) (by decide)) σ) (gO _ _ p9) ix)
noncomputable def bo (n:Nat) (b:RL):RL:=fL ((lst b).drop n)
theorem uc (h:gA ws cs b):gA ws cs (bo n b):=k7 _ λr hr=>bJ h r (O9 hr)
theorem ud {m:Nat} (h:hL b<=m):hL (bo n b)<=m:=pV _ λr hr=>iv (bW r (O9 hr)) h
theorem ez (b:RL) (k:Nat) (σ:ac):gU false (.d (.tuple (ak b))) (some (.d (.int ((k:Int)+1)))) none σ=.ok (.d (.tuple (ak (bo (k+1) b)))) σ:=by
 have e:ak (bo (k+1) b)=(ak b).drop (k+1):=by unfold bo; rw [jU,eZ,Qm]
 rw [jV _ _ (iL _) iK,e];exact congrArg (λx=>Res.ok (V.d (.tuple x)) σ) (oR (ak b) (k+1))
noncomputable def kB (x:Str) (B:RL) (l:Bool):Bool:=cC x B||(!fc x B&&l)
noncomputable def Js (x:Str) (r:Rw) (l:Bool):Bool:=match r with
 | .aga n b=>l||(decide (n > 1)&&cC x b)
 | _=>l
noncomputable def tN (x:Str):RL->List Nat->Nat->Bool->Bool
 | b,[],z,l=>kB x (bo (z+1) b) l
 | b,k::ks,z,l=>match (lst b)[k]? with
   | some r=>tN x (cK r) ks z (Js x r (kB x (bo (k+1) b) l))
   | none=>l
theorem CH (x:Str) (b:RL) (k:Nat) (ks:List Nat) (z:Nat) (l:Bool):tN x b (k::ks) z l=(match (lst b)[k]? with | some r=>tN x (cK r) ks z (Js x r (kB x (bo (k+1) b) l)) | none=>l):=rfl
theorem pK (h:(lst b)[k]?=some r) (ks:List Nat) (z:Nat) (l:Bool):tN x b (k::ks) z l=tN x (cK r) ks z (Js x r (kB x (bo (k+1) b) l)):=by rw [CH,h]
variable {i:Nat} {B:RL}
theorem GG {l:Bool} (h1:ag prog.G cf (.var i) ρ σ=.ok (.d (gb (cC x B) (!fc x B))) σ) (h2:ag prog.G cf (.var 5) ρ σ=.ok (.d (.bool l)) σ):ag prog.G cf (.bop false (.cons (.idx (.var i) (.int 0)) (.cons (.bop true (.cons (.idx (.var i) (.int 1)) (.cons (.var 5) .nil))) .nil))) ρ σ=.ok (.d (.bool (kB x B l))) σ:=
 Bw (bw h1 rfl rfl) λ_=>dy (rH (bw h1 rfl rfl) λ_=>dy h2)
theorem FF (d:Nat) (x:Str) (v0 v1 v3:V) (σ:ac):∀ (pre:List Nat) (b c:RL) (l:Bool) (v6 v7 v8:V),Pth b pre c->gA ws cs b->hL b<=9->X4 λl' v6' v7' v8'=>A4 (aZ (aB prog.G (ae prog (d+14)) (.var 6) gj) ((iN pre).map PyData.int) (F9 v0 v1 (.d (.str x)) v3 (.d (.tuple (ak b))) (.d (.bool l)) v6 v7 v8) σ=.ok (.next (F9 v0 v1 (.d (.str x)) v3 (.d (.tuple (ak c))) (.d (.bool l')) v6' v7' v8')) σ) ((∀ z,tN x b pre z l=tN x c [] z l')) (gA ws cs c) (hL c<=9):=by
 intro xs_
 induction xs_ with
 | nil=>intro b c l v6 v7 v8 h ok h9; cases h; exact ⟨l,v6,v7,v8,rfl,λz=>rfl,ok,h9⟩
 | cons k ks ih_=>
   intro b c l v6 v7 v8 h ok h9;cases h with
   | @cons _ _ r _ _ hk hb hp=>
   have hr:=NI hk;have okr:=bJ ok r hr;have h8:hL (cK r)<=9:=qD (iv (iv (bW r hr) h9) (by decide));obtain ⟨l',v6',v7',v8',ih,h2,h3,h4⟩:=ih_ (cK r) c (Js x r (kB x (bo (k+1) b) l)) (.d (.int (k:Int))) (.d (gb (cC x (bo (k+1) b)) (!fc x (bo (k+1) b)))) (.d (ba r)) hp (g8 okr) h8;have sc:=ko x 9 (bo (k+1) b) d σ (uc ok) (ud h9);have sc2:=ko x 9 (cK r) d σ (g8 okr) h8;have gr:=jJ ((d3 _ k).trans hk) σ;have sl:=ez b k σ;have R:=dA prog.G (ae prog (d+14)) gj (F9 v0 v1 (.d (.str x)) v3 (.d (.tuple (ak b))) (.d (.bool l)) (.d (.int (k:Int))) v7 v8) σ;have vo:=GG (cf:=ae prog (d+14)) (ρ:=(F9 v0 v1 (.d (.str x)) v3 (.d (.tuple (ak b))) (.d (.bool l)) (.d (.int (k:Int))) (.d (gb (cC x (bo (k+1) b)) (!fc x (bo (k+1) b)))) v8)) (σ:=σ) (i:=7) rfl rfl;refine ⟨l',v6',v7',v8',aQ (aJ ?_) ih,λz=>by rw [pK hk,h2 z],h3,h4⟩;clear ih;clear h2;cases r with
   | whn t b'=>exact (R 14 sl sc vo gr)
   | aga n b'=>
     have e:Js x (.aga n b') (kB x (bo (k+1) b) l)=(kB x (bo (k+1) b) l||(decide (n > 1)&&cC x b')):=rfl;rw [e];by_cases h:n > 1
     . rw [decide_eq_true h,PM];exact (R 6158 sl sc vo gr (dT h) (Bw rfl λ_=>dy (bw (ay rfl sc2) rfl rfl)))
     . rw [decide_eq_false h,PC,Pb];exact (R 2062 sl sc vo gr (dF h))
   | set _ _=>cases hb
   | tell _=>cases hb
   | call _ _ _=>cases hb
theorem uk (hj:fs[j]?=some f) (of:okF ws cs f) (hp:Pth f.rs pre c) (x:Str) (d:Nat) (σ:ac):ae prog (d+15) 43 [.d (.tuple (fs.map aq)),.d (pD (bb j pre z)),.d (.str x)] σ=.ok (.d (.bool (tN x f.rs pre z (decide (x∈cc f.t))))) σ:=by obtain ⟨l',v6',v7',v8',lp,h2,h3,h4⟩:=FF d x (.d (.tuple (fs.map aq))) (.d (pI (j:Int) (iN pre) (z:Int))) (.d (aq f)) σ pre f.rs c (decide (x∈cc f.t)) .un .un .un hp of.rs of.h9;rw [h2 z,GR];have sc:=ko x 9 (bo (z+1) c) d σ (uc h3) (ud h4);have it:=a8 (yr (G:=prog.G) (cf:=ae prog (d+14)) (m:=false) (a:=.var 1) (lo:=.yes (.int 1)) (hi:=.yes (.neg (.int 1))) (ρ:=(F9 (.d (.tuple (fs.map aq))) (.d (pI (j:Int) (iN pre) (z:Int))) (.d (.str x)) (.d (aq f)) (.d (.tuple (ak f.rs))) (.d (.bool (decide (x∈cc f.t)))) .un .un .un)) rfl rfl rfl (Ca (j:Int) (iN pre) (z:Int) σ)) rfl;have vo:=GG (cf:=ae prog (d+14)) (ρ:=(F9 (.d (.tuple (fs.map aq))) (.d (pI (j:Int) (iN pre) (z:Int))) (.d (.str x)) (.d (aq f)) (.d (.tuple (ak c))) (.d (.bool l')) v6' (.d (gb (cC x (bo (z+1) c)) (!fc x (bo (z+1) c)))) v8')) (σ:=σ) (i:=7) rfl rfl;exact (a5 prog 43 (d+14) [.d (.tuple (fs.map aq)),.d (pI (j:Int) (iN pre) (z:Int)),.d (.str x)] σ rfl 435 (o6 ..) (bG hj σ) (kq of.t (d+11) σ) (fO ..) (aK it lp) (tD ..) ((ez c z σ)) sc vo (same σ))
structure Nm (ws N:List Str) (P:Str->Bool) (n:Nat):Prop where
 mem:∀ x,x∈N↔P x=true
 inw:∀ x∈N,x∈ws
 len:N.length<=n
theorem dp (Q:List Nat) {m:Nat} (h:Q[m]?=some k) (σ:ac):df (.d (pD Q)) (.d (.int (m:Int))) σ=some (.d (.int (k:Int))):=by unfold pD; rw [b9,Om,h]; rfl
theorem uJ (τ:ac) (a b c:Cell):((τ++[a])++[b]++[c])[τ.length]?=some a:=by rw [N2,N2]; exact g0 ..
variable {N:List Str}
theorem yU (w7:ws.length<=7) (d:Nat) (v0 v2:V) {Q:List Nat} {m:Nat} (hm:Q[m]?=some k) {b:RL} {r:Rw} (hk:(lst b)[k]?=some r) (ok:gA ws cs b) (h9:hL b<=9) {P:Str->Bool} (hN:Nm ws N P n) (h1:n<=1000) (v5 v6 v7 v8 v9:V) (τ:ac) (more:Bool) (hmore:decide ((m:Int) < ((Q.map nI).length:Int) - 1)=more) (hb:more=true->uz r=true) :
   X4 λN' g v6' v7'=>Nm ws N' (λx=>bif more then Js x r (kB x (bo (k+1) b) (P x)) else kB x (bo (k+1) b) (P x)) (n+14)/\aB prog.G (ae prog (d+16)) (.var 5) iU (.int (m:Int)) (Es v0 (.d (pD Q)) v2 (.d (.tuple (ak b))) (.d (.list (N.map .str))) v5 v6 v7 v8 v9) τ=.ok (.next (Es v0 (.d (pD Q)) v2 (.d (.tuple (ak (bif more then cK r else b)))) (.d (.list (N'.map .str))) (.d (.int (m:Int))) v6' v7' (.d (ba r)) v9)) (τ++g):=by
 have okB:gA ws cs (bo (k+1) b):=uc ok;obtain ⟨S,hS,eS⟩:=wO w7 okB (D:=d+16) (iv (NS (ud h9) 2) (iv (by decide) (N5 16 d))) τ;obtain ⟨F,hF,eF⟩:=ll w7 9 _ (d+1) okB (ud h9) (τ++[.dct (dk S)]);have fw:=λx (q:x∈F)=>d4 x _ okB ((hF.mem x).mp q);have f7:=hF.few w7 λx=>d4 x _ okB;have c:=fy (G:=prog.G) (cf:=ae prog (d+16)) (i:=9) (it:=.seq (.var 4)) (c:=.cmp .notIn (.var 9) (.var 7)) (e:=.var 9) (ρ:=(Es v0 (.d (pD Q)) v2 (.d (.tuple (ak b))) (.d (.list (N.map .str))) (.d (.int (m:Int))) (.d (.tuple (ak (bo (k+1) b)))) (.loc τ.length) v8 v9)) (σ:=(τ++[Cell.dct (dk S)])++[Cell.dct (dk F)]) (aa:=(τ++[Cell.dct (dk S)])++[Cell.dct (dk F)]) (base:=N.map .str) PyData.str PyData.str (λx=>!decide (x∈S)) (ps:=N) (a8 rfl rfl) (λp hp=>cx rfl rfl (po (uJ ..) p)) (λp hp _=>rfl);have l1:F.length+(N.filter λx=>!decide (x∈S)).length<=n+7:=by rw [Oj]; exact Ob (iv (Ot ..) hN.len) f7
 have ad:=iB (a:=F.map PyData.str) (b:=(N.filter λx=>!decide (x∈S)).map .str) (by rw [Ng,Ng]; exact iv l1 (iv (NS h1 7) (by decide))) ((τ++[Cell.dct (dk S)])++[Cell.dct (dk F)]);rw [<- NP] at ad;have hN1:Nm ws (F++N.filter λx=>!decide (x∈S)) (λx=>kB x (bo (k+1) b) (P x)) (n+7):=by refine ⟨λx=>?_,λx hx=>(NR.mp hx).elim (fw x) λq=>hN.inw x (Ov.mp q).1,by rw [ND]; exact l1⟩;unfold kB;rw [NR,Ov,hF.mem x,hN.mem x,Od,NH,Oo,Oo,decide_eq_false_iff_not,hS.mem x,Bool.not_eq_true];exact or_congr Iff.rfl and_comm
 generalize F++(N.filter λx=>!decide (x∈S))=N1 at ad hN1;have R:=dA prog.G (ae prog (d+16)) iU (Es v0 (.d (pD Q)) v2 (.d (.tuple (ak b))) (.d (.list (N.map .str))) (.d (.int (m:Int))) v6 v7 v8 v9) τ;have gr:=λσ=>jJ ((d3 _ k).trans hk) σ;have hq:=λσ=>dp Q hm σ;have as2:(τ++[Cell.dct (dk S)])++[Cell.dct (dk F)]=τ++[Cell.dct (dk S),Cell.dct (dk F)]:=N2 ..;have up:Nm ws N1 (λx=>kB x (bo (k+1) b) (P x)) (n+14):={ hN1 with len:=iv hN1.len (Oe (by decide) n) }
 cases more with
 | false=>refine ⟨N1,[.dct (dk S),.dct (dk F)],.d (.tuple (ak (bo (k+1) b))),.loc τ.length,up,aJ ?_⟩;rw [<- as2];exact (R 1149 (hq _) ((ez b k τ)) eS eF (eO (aM _ _)) c ad (hq _) (gr _) (bF hmore))
 | true=>
   cases r with
   | whn t b'=>refine ⟨N1,[.dct (dk S),.dct (dk F)],.d (.tuple (ak (bo (k+1) b))),.loc τ.length,up,aJ ?_⟩;rw [<- as2];exact (R 1149 (hq _) ((ez b k τ)) eS eF (eO (aM _ _)) c ad (hq _) (gr _) (bT hmore))
   | aga i b'=>
     have okr:=bJ ok _ (NI hk);have h8:hL b'<=9:=qD (r:=.aga i b') (iv (iv (bW _ (NI hk)) h9) (by decide));by_cases h:i > 1
     . obtain ⟨M,hM,eM⟩:=ll w7 9 b' (d+1) okr h8 ((τ++[Cell.dct (dk S)])++[Cell.dct (dk F)]);have m7:=hM.few w7 λx=>d4 x _ okr;have ad2:=iB (a:=N1.map PyData.str) (b:=M.map .str) (by rw [Ng,Ng]; exact iv (Ob hN1.len m7) (iv (NS h1 14) (by decide))) ((τ++[Cell.dct (dk S)])++[Cell.dct (dk F)]++[Cell.dct (dk M)]);rw [<- NP] at ad2;have as3:(τ++[Cell.dct (dk S)])++[Cell.dct (dk F)]++[Cell.dct (dk M)]=τ++[Cell.dct (dk S),Cell.dct (dk F),Cell.dct (dk M)]:=by rw [N2,N2]; rfl
       refine ⟨N1++M,[.dct (dk S),.dct (dk F),.dct (dk M)],.d (.tuple (ak (bo (k+1) b))),.loc τ.length,⟨λx=>?_,λx hx=>(NR.mp hx).elim (hN1.inw x) λq=>d4 x _ okr ((hM.mem x).mp q),by rw [ND]; exact (Ob hN1.len m7:_<=n+7+7)⟩,aJ ?_⟩
       . show _↔(kB x (bo (k+1) b) (P x)||(decide (i > 1)&&cC x b'))=true;rw [NR,hN1.mem x,hM.mem x,decide_eq_true h,PM,Od]
       . rw [<- as3];exact (R 1836157 (hq _) ((ez b k τ)) eS eF (eO (aM _ _)) c ad (hq _) (gr _) (bT hmore) (dT h) eM (eO (aM _ _)) ad2)
     . refine ⟨N1,[.dct (dk S),.dct (dk F)],.d (.tuple (ak (bo (k+1) b))),.loc τ.length,{ up with mem:=λx=>?_ },aJ ?_⟩
       . show _↔(kB x (bo (k+1) b) (P x)||(decide (i > 1)&&cC x b'))=true;rw [hN1.mem x,decide_eq_false h,PC,Pb]
       . rw [<- as2];exact (R 263293 (hq _) ((ez b k τ)) eS eF (eO (aM _ _)) c ad (hq _) (gr _) (bT hmore) (dF h))
   | set _ _=>cases hb rfl
   | tell _=>cases hb rfl
   | call _ _ _=>cases hb rfl
theorem IY {m:Nat} (h:n - m=1):¬ ((m:Int) < (n:Int) - 1):=by omega
theorem IX {m:Nat} (h:n - m=k+1+1):(m:Int) < (n:Int) - 1:=by omega
theorem Fu (w7:ws.length<=7) (d:Nat) (v0 v2 v9:V) (Q:List Nat) (z:Nat) (rz:Rw) (σ:ac):∀ (pre:List Nat) (b c:RL) (N:List Str) (P:Str->Bool) (n:Nat) (g:ac) (m:Nat) (v5 v6 v7 v8:V),Pth b pre c->(lst c)[z]?=some rz->Q.drop m=pre++[z]->gA ws cs b->hL b<=9->Nm ws N P n->n+14 * pre.length<=1000->
   X7 λN' g' v3' v5' v6' v7' v8'=>Nm ws N' (λx=>tN x b pre z (P x)) (n+14 * pre.length+14)/\aZ (aB prog.G (ae prog (d+16)) (.var 5) iU) ((List.range' m (pre.length+1)).map nI) (Es v0 (.d (pD Q)) v2 (.d (.tuple (ak b))) (.d (.list (N.map .str))) v5 v6 v7 v8 v9) (σ++g)=.ok (.next (Es v0 (.d (pD Q)) v2 v3' (.d (.list (N'.map .str))) v5' v6' v7' v8' v9)) (σ++g'):=by
 intro xs_
 induction xs_ with
 | nil=>
   intro b c N P n g m v5 v6 v7 v8 hp hz hq ok h9 hN hl;refine kk λK k=>?_;cases hp;obtain ⟨q1,q2⟩:=ft hq;have q3:¬ ((m:Int) < ((Q.map nI).length:Int) - 1):=by have:=congrArg List.length hq;rw [O7] at this;rw [Ng];exact IY this
   obtain ⟨N',g',v6',v7',h,e⟩:=yU w7 d v0 v2 q1 hz ok h9 hN hl v5 v6 v7 v8 v9 (σ++g) false (decide_eq_false q3) (λq=>by cases q);rw [N2] at e;refine k ?_;exact ⟨N',g++g',_,_,v6',v7',_,h,aQ e rfl⟩
 | cons k ks ih_=>
   intro b c N P n g m v5 v6 v7 v8 hp hz hq ok h9 hN hl;cases hp with
   | @cons _ _ r _ _ hk hb hp=>
   refine kk λK k=>?_;obtain ⟨q1,q2⟩:=ft hq;have q3:(m:Int) < ((Q.map nI).length:Int) - 1:=by have:=congrArg List.length hq;rw [O7,ND,NU] at this;rw [Ng];exact IX (k:=ks.length) this
   have hr:=NI hk;have h9':hL (cK r)<=9:=qD (iv (iv (bW r hr) h9) (by decide));rw [NU,Nat.mul_succ,Oj (14 * ks.length),<- On] at hl;obtain ⟨MM,CX,Kd,Kc,h,e⟩:=yU w7 d v0 v2 q1 hk ok h9 hN (iv (NZ _ _) (iv (NZ _ _) hl)) v5 v6 v7 v8 v9 (σ++g) true (decide_eq_true q3) (λ_=>hb);obtain ⟨N',g',v3',v5',v6',v7',v8',h',ih⟩:=ih_ (cK r) c MM _ (n+14) (g++CX) (m+1) (.d (.int (m:Int))) Kd Kc (.d (ba r)) hp hz q2 (g8 (bJ ok r hr)) h9' h hl;rw [<- N2] at ih;refine k ?_;refine ⟨N',g',v3',v5',v6',v7',v8',⟨λx=>?_,h'.inw,?_⟩,?_⟩
   . rw [pK hk]; exact h'.mem x
   . rw [NU,Nat.mul_succ,Oj (14 * ks.length),<- On]; exact h'.len
   . rw [NU,QG];exact aQ e ih
theorem tj:∀ L:List Str,fY (L.map .str)=some L
 | []=>rfl
 | x::L=>by show (fY (L.map .str)).map (x::·)=_;rw [tj L]; rfl
theorem we (y:Str) (l:List Str):cH (y::l)=if y∈l then cH l else y::cH l:=rfl
theorem CO (x y:Str) (r:List Str):iV x (y::r)=if lx y x then y::iV x r else x::y::r:=rfl
theorem bj (x:Str):∀ l:List Str,x∈cH l↔x∈l
 | []=>Iff.rfl
 | y::l=>by
   rw [we];by_cases h:y∈l
   . rw [if_pos h,bj x l,NN];exact ⟨.inr,λq=>q.elim (λe=>e ▸ h) id⟩
   . rw [if_neg h,NN,bj x l,NN]
theorem ch:∀ l:List Str,(cH l).Nodup
 | []=>PN
 | y::l=>by
   rw [we];by_cases h:y∈l
   . rw [if_pos h]; exact ch l
   . rw [if_neg h]; exact O5.mpr ⟨λq=>h ((bj y l).mp q),ch l⟩
theorem yV (x y:Str):∀ l:List Str,x∈iV y l↔x=y\/x∈l
 | []=>NN
 | a::l=>by
   rw [CO];cases lx a y with
   | true=>rw [if_pos rfl,NN,yV x y l,NN];exact or_left_comm
   | false=>rw [if_neg NY,NN]
theorem vi (x:Str):∀ l:List Str,x∈cV l↔x∈l
 | []=>Iff.rfl
 | y::l=>(yV x y _).trans (by rw [vi x l,NN])
theorem Ac (n:Nat):bD 1 ((n+1:Nat):Int)=(List.range' 1 n).map nI:=by unfold bD;rw [Qz,Oq,show (((n+1:Nat):Int) - 1).toNat=n from congrArg Int.toNat (kn n)];refine Pi λk _=>?_;show PyData.int (1+(k:Int))=.int ((1+k:Nat):Int);rw [Int.natCast_add]; rfl
theorem wp (w7:ws.length<=7) (hj:fs[j]?=some f) (of:okF ws cs f) (hp:Pth f.rs pre c) (hz:(lst c)[z]?=some r) (d:Nat) (σ:ac):∃ L:List Str,(∀ x,x∈L↔tN x f.rs pre z (decide (x∈cc f.t))=true)/\ae prog (d+17) 12 [.d (.tuple (fs.map aq)),.d (pD (bb j pre z))] σ=.ok (.d (.list (L.map .str))) σ:=by
 refine kk λK k=>?_;obtain ⟨N0,h0,e0⟩:=dm of.t (d+12) σ;have h0':Nm ws N0 (λx=>decide (x∈cc f.t)) 7:=⟨λx=>by rw [h0.mem x,decide_eq_true_iff],λx hx=>of.t.1 x ((h0.mem x).mp hx),h0.few w7 of.t.1⟩
 have hl:=iv (jY hp) of.h9;have hb:7+14 * pre.length<=133:=Oe (OR 14 hl) 7;obtain ⟨N,g',v3',v5',v6',v7',v8',hN,lp⟩:=Fu w7 d (.d (.tuple (fs.map aq))) (.d (aq f)) .un (bb j pre z) z r σ pre f.rs c N0 _ 7 [] 1 .un .un .un .un hp hz rfl of.rs of.h9 h0' (iv hb (by decide));rw [NX,<- Ac] at lp;have dn:(cH N).length < 64:=Oc (iv ((ch N).length_le_of_subset λx hx=>hN.inw x ((bj x N).mp hx)) w7) (by decide);have so:zE .sortedSet false [.d (.list (N.map .str))] (σ++g')=.ok (.d (.list ((cV (cH N)).map .str))) (σ++g'):=by show oc (fY (N.map .str)) (λl=>if l.length < 2000/\(cH l).length < 64 then aU false ((cV (cH l)).map .str) (σ++g') else .bad) .bad=_;rw [tj];exact if_pos ⟨Oc (iv hN.len (NS hb 14)) (by decide),dn⟩
 have ln:(bb j pre z).map nI=(bb j pre z).map nI:=rfl;have le:((bb j pre z).map nI).length=pre.length+1+1:=by rw [Ng]; exact congrArg (·+1) ND
 have hr:(-100000<=(1:Int)/\(1:Int)<=100000)/\(-100000<=(((bb j pre z).map nI).length:Int)/\(((bb j pre z).map nI).length:Int)<=100000):=⟨by decide,jv (by rw [le]; exact iv (NS hl 2) (by decide))⟩
 rw [<- le] at lp;refine k ?_;refine ⟨cV (cH N),λx=>by rw [vi,bj,hN.mem x],?_⟩;exact (a5 prog 12 (d+16) [.d (.tuple (fs.map aq)),.d (pD (bb j pre z))] σ rfl 19 (jO hj hp hz (d+13) σ) (dp (m:=0) (bb j pre z) rfl σ) (bG hj σ) e0 (aK (pT rfl rfl hr) lp) so (fb ..))
theorem fA (l:List PyData) (k:Nat) (σ:ac):gU false (.d (.tuple l)) none (some (.d (.int (k:Int)))) σ=.ok (.d (.tuple (l.take k))) σ:=by rw [jV _ _ iK (iL _),oQ]
theorem dQ (l:List PyData) (k:Nat) (σ:ac):gU false (.d (.tuple l)) (some (.d (.int ((k:Int)+1)))) none σ=.ok (.d (.tuple (l.drop (k+1)))) σ:=by rw [jV _ _ (iL _) iK];exact congrArg (λx=>Res.ok (V.d (.tuple x)) σ) (oR l (k+1))
theorem gT (k:Nat) (p:List Nat) (σ:ac):gU false (.d (pD (k::p))) (some (.d (.int 1))) none σ=.ok (.d (pD p)) σ:=dQ ((k::p).map nI) 0 σ
theorem dI (k:Nat) (p:List Nat) (σ:ac):df (.d (pD (k::p))) (.d (.int 0)) σ=some (.d (.int (k:Int))):=b9 (k:=0) ..
noncomputable def bN {α:Type} (l:List α) (k:Nat) (news:List α):List α:=l.take k++news++l.drop (k+1)
theorem oY {β:Type} (φ:α->β) (l:List α) (k:Nat) (news:List α):(bN l k news).map φ=bN (l.map φ) k (news.map φ):=by unfold bN; rw [NP,NP,QD,Qm]
theorem uf (l:List α) (k:Nat):(l.take k).length+(l.drop (k+1)).length<=l.length:=by have h:=congrArg List.length (Qe k l);rw [ND] at h;exact iv (Oe (by rw [O7,O7]; exact Nat.sub_le_sub_left (PI k) _) _) (OH h)
theorem o1 {l news:List PyData} (h:l.length+news.length<=90000) (k:Nat) (σ:ac):dD .add false (.d (.tuple (l.take k))) (.d (.tuple news)) σ=.ok (.d (.tuple (l.take k++news))) σ/\dD .add false (.d (.tuple (l.take k++news))) (.d (.tuple (l.drop (k+1)))) σ=.ok (.d (.tuple (bN l k news))) σ:=by
 have h1:(l.take k).length+news.length<=90000:=iv (NS (List.length_take_le' ..) _) h;refine ⟨gQ (iv h1 (by decide)) σ,gQ ?_ σ⟩;have h2:(l.take k++news).length+(l.drop (k+1)).length<=(l.length+news.length)+0:=by rw [ND,OX]; exact NS (uf l k) _
 exact iv h2 (iv h (by decide))
noncomputable def oU:Rw->RL->Rw
 | .whn t _,b=>.whn t b
 | .aga n _,b=>.aga n b
 | r,_=>r
noncomputable def ed (news:RL) (z:Nat):RL->List Nat->RL
 | b,[]=>fL (bN (lst b) z (lst news))
 | b,k::ks=>match (lst b)[k]? with
   | some r=>fL (bN (lst b) k [oU r (ed news z (cK r) ks)])
   | none=>b
theorem l9 (news:RL) (z:Nat) (b:RL):ed news z b []=fL (bN (lst b) z (lst news)):=rfl
theorem kT (news:RL) (z:Nat) (b:RL) (k:Nat) (ks:List Nat):ed news z b (k::ks)=(match (lst b)[k]? with | some r=>fL (bN (lst b) k [oU r (ed news z (cK r) ks)]) | none=>b):=rfl
theorem rJ (b:RL) (k:Nat) (news:List Rw):ak (fL (bN (lst b) k news))=bN (ak b) k (news.map ba):=by rw [jU,oY,<- eZ]
noncomputable def uu (f:Nat) (news:RL) (z:Nat) (b:RL) (pre:List Nat) (d:Nat):Prop:=∀ σ,ae prog d f [.d (.tuple (ak b)),.d (pD (pre++[z])),.d (.int 1),.d (.tuple (ak news))] σ=.ok (.d (.tuple (ak (ed news z b pre)))) σ
theorem lv (pre:List Nat) (k z:Nat):¬ (((k::(pre++[z])).map nI).length:Int)=1:=λq=>by rw [Ng,NU,ND] at q;exact absurd (Nat.succ.inj (PL.mp q)) (QF pre.length)
theorem CF (h:nL b<=9000) (hn:n<=9000):(ak b).length+n<=90000:=iv (Ob (iv (iO b) h) hn) (by decide)
theorem EF {news:RL} (hn:nL news<=9000) (z:Nat):∀ (pre:List Nat) (b:RL) (d:Nat),Pth b pre c->nL b<=9000->uu 13 news z b pre (d+pre.length+1)/\uu 45 news z b pre (d+pre.length+1):=by
 intro xs_
 induction xs_ with
 | nil=>
   intro b d _ h;have ra:=λσ=>o1 (CF h (iv (iO news) hn)) z σ;have e:ak (ed news z b [])=bN (ak b) z (ak news):=by rw [l9,rJ,<- eZ]
   unfold uu;rw [e];exact ⟨λσ=>(a5 prog 13 d [.d (.tuple (ak b)),.d (pD [z]),.d (.int 1),.d (.tuple (ak news))] σ rfl 432 ((fA ..)) ((ra σ).1) ((dQ ..)) ((ra σ).2) (same σ)),
     λσ=>(a5 prog 45 d [.d (.tuple (ak b)),.d (pD [z]),.d (.int 1),.d (.tuple (ak news))] σ rfl 432 ((fA ..)) ((ra σ).1) ((dQ ..)) ((ra σ).2) (same σ))⟩
 | cons k ks ih_=>
   intro b d hp h;cases hp with
   | @cons _ _ r _ _ hk hb hp=>
   obtain ⟨i1,i2⟩:=ih_ (cK r) d hp (DT (NI hk) h);have ra:=λx σ=>o1 (news:=[x]) (CF h (N8 rfl)) k σ;have e:ak (ed news z b (k::ks))=bN (ak b) k [ba (oU r (ed news z (cK r) ks))]:=by rw [kT,hk]; exact rJ ..
   have gr:=λσ=>jJ ((d3 _ k).trans hk) σ;unfold uu;rw [e];clear e;have R:=λσ=>a5 prog 13 (d+ks.length+1) [.d (.tuple (ak b)),.d (pD (k::(ks++[z]))),.d (.int 1),.d (.tuple (ak news))] σ rfl;have R':=λσ=>a5 prog 45 (d+ks.length+1) [.d (.tuple (ak b)),.d (pD (k::(ks++[z]))),.d (.int 1),.d (.tuple (ak news))] σ rfl;cases r with
   | whn t b'=>exact ⟨λσ=>(R σ 13881 (dI ..) (dF (lv ks k z)) (gr σ) ((fA ..)) ((gT ..)) (i1 σ) ((ra _ σ).1) ((dQ ..)) ((ra _ σ).2) (same σ)),λσ=>(R' σ 13529 (dI ..) (dF (lv ks k z)) (gr σ) ((gT ..)) (i2 σ) ((fA ..)) ((ra _ σ).1) ((dQ ..)) ((ra _ σ).2) (same σ))⟩
   | aga n b'=>exact ⟨λσ=>(R σ 13881 (dI ..) (dF (lv ks k z)) (gr σ) ((fA ..)) ((gT ..)) (i1 σ) ((ra _ σ).1) ((dQ ..)) ((ra _ σ).2) (same σ)),λσ=>(R' σ 13529 (dI ..) (dF (lv ks k z)) (gr σ) ((gT ..)) (i2 σ) ((fA ..)) ((ra _ σ).1) ((dQ ..)) ((ra _ σ).2) (same σ))⟩
   | set _ _=>cases hb
   | tell _=>cases hb
   | call _ _ _=>cases hb
noncomputable def bO (news:RL) (pre:List Nat) (z:Nat) (f:Fd):Fd:={ f with rs:=ed news z f.rs pre }
theorem mD {news:RL} (hn:nL news<=9000) (hj:fs[j]?=some f) (h8:fs.length<=8) (hp:Pth f.rs pre c) (hf:nL f.rs<=9000) (h9:hL f.rs<=9) (d:Nat) (σ:ac):ae prog (d+11) 14 [.d (.tuple (fs.map aq)),.d (pD (bb j pre z)),.d (.int 1),.d (.tuple (ak news))] σ=.ok (.d (.tuple ((bN fs j [bO news pre z f]).map aq))) σ/\
   ae prog (d+11) 46 [.d (.tuple (fs.map aq)),.d (pD (bb j pre z)),.d (.int 1),.d (.tuple (ak news))] σ=.ok (.d (.tuple ((bN fs j [bO news pre z f]).map aq))) σ:=by
 refine kk λK k=>?_;obtain ⟨e,he⟩:=mU (iv (jY hp) h9);obtain ⟨i1,i2⟩:=EF hn z pre f.rs (d+e) hp hf;refine k ?_;have h10:d+e+pre.length+1=d+10:=by rw [On d e,<- he]
 rw [h10] at i1 i2;have ra:=o1 (l:=fs.map aq) (news:=[aq (bO news pre z f)]) (by rw [Ng]; exact iv (NS h8 1) (by decide)) j σ;rw [oY];have gf:=bG hj σ;exact ⟨(a5 prog 14 (d+10) [.d (.tuple (fs.map aq)),.d (pD (bb j pre z)),.d (.int 1),.d (.tuple (ak news))] σ rfl 895 (dI ..) gf ((gT ..)) (i1 σ) (dI ..) ((fA ..)) ra.1 (dI ..) ((dQ ..)) ra.2 (same σ)),
   (a5 prog 46 (d+10) [.d (.tuple (fs.map aq)),.d (pD (bb j pre z)),.d (.int 1),.d (.tuple (ak news))] σ rfl 3467 (dI ..) gf ((gT ..)) (i2 σ) ((fA ..)) ra.1 ((dQ ..)) ra.2 (same σ))⟩
theorem Cn (cf:Nat->List V->ac->Res V) (x:Str) (v0:V) (σ:ac):∀ (fs:List Fd) (k:Nat) (v2 v3:V),x∈kE fs->aZ (aB prog.G cf (.tup [2,3]) gV) (((fs.map aq).zipIdx k).map λp=>.tuple [.int p.2,p.1]) [v0,.d (.str x),v2,v3] σ=.ok (.ret (.d (.int ((k+(kE fs).idxOf x:Nat):Int)))) σ:=by
 intro xs_
 induction xs_ with
 | nil=>intro k v2 v3 h; cases h
 | cons f fs ih_=>
   intro k v2 v3 h;have R:=dA prog.G cf gV [v0,.d (.str x),.d (.int (k:Int)),.d (aq f)] σ;have e:kE (f::fs)=f.nm::kE fs:=rfl;rw [e] at h ⊢;by_cases q:f.nm=x
   . rw [q,List.idxOf_cons_self];exact mv (ek rfl ((R 4 (dT q))))
   . have ih:=ih_ (k+1) (.d (.int (k:Int))) (.d (aq f)) ((NN.mp h).resolve_left (Ne.symm q));rw [List.idxOf_cons,beq_false_of_ne q,cond_false,Oj ((kE fs).idxOf x),<- On];exact aQ (ek rfl ((R 4 (dF q)))) ih
theorem qy (h:x∈kE fs) (d:Nat) (σ:ac):ae prog (d+1) 15 [.d (.tuple (fs.map aq)),.d (.str x)] σ=.ok (.d (.int ((kE fs).idxOf x:Nat))) σ:=by have lp:=Cn (ae prog d) x (.d (.tuple (fs.map aq))) σ fs 0 .un .un h;rw [Pe] at lp;exact (a5 prog 15 d [.d (.tuple (fs.map aq)),.d (.str x)] σ rfl 0 (aK (tS rfl) lp) (same σ))
theorem xB (h:x∈L) (σ:ac):xo .index (.d (.list (L.map .str))) σ [.d (.str x)] σ=.ok (.d (.int (L.idxOf x:Nat))) σ:=by show b2 (jk (.d (.str x))) (fY (L.map .str)) (λx l=>if l.idxOf x < l.length then Res.ok (V.d (.int (l.idxOf x:Nat))) σ else .bad) .bad=_;rw [tj];exact if_pos (QA.mpr h)
theorem gM (h:x∈kE fs) (d:Nat) (σ:ac):ae prog (d+1) 48 [.d (.tuple (fs.map aq)),.d (.str x)] σ=.ok (.d (.int ((kE fs).idxOf x:Nat))) σ:=by
 have c:=uH (G:=prog.G) (cf:=ae prog d) (i:=2) (it:=.seq (.var 0)) (e:=.idx (.var 2) (.int 0)) (ρ:=[.d (.tuple (fs.map aq)),.d (.str x),.un]) (σ:=σ) (aa:=σ) (base:=fs.map aq) aq (λf=>.str f.nm) (ps:=fs) (a8 rfl rfl) λf _=>rfl;have e:fs.map (λf=>PyData.str f.nm)=(kE fs).map .str:=by unfold kE; rw [Oq]; rfl
 rw [e] at c;exact (a5 prog 48 d [.d (.tuple (fs.map aq)),.d (.str x)] σ rfl 0 c (xB h σ) (same σ))
noncomputable def pM (ts:List Tm) (ps:List Str) (k:Nat):Bool:=match ts[k]?,ps[k]? with
 | some t,some p=>!(bZ t).eqv (bZ (.name p))
 | _,_=>false
noncomputable def cZ (ts:List Tm) (ps:List Str):List Nat:=(List.range ts.length).filter (pM ts ps)
theorem lF (t:Tm) (p:Str) (σ:ac):br .ne (.d (bZ t)) (.d (.tuple [.str bh,.str p])) σ=some (!(bZ t).eqv (bZ (.name p))):=by show (Jr (bZ t) (.tuple [.str bh,.str p])).map _=_;rw [lR (iv (PP _ _) (N8 rfl))]; rfl
variable {ts:List Tm}
theorem j9 (hl:ts.length=ps.length) (hk:k < ts.length):X2 λt p=>A3 (ts[k]?=some t) (ps[k]?=some p) (pM ts ps k=!(bZ t).eqv (bZ (.name p))):=by have h1:ts[k]?=some ts[k]:=NC hk;have h2:ps[k]?=some (ps[k]'(hl ▸ hk)):=NC (hl ▸ hk);exact ⟨_,_,h1,h2,by unfold pM; rw [h1,h2]⟩
theorem mx (h:ts[k]?=some t) (σ:ac):df (.d (.tuple (ts.map bZ))) (.d (.int (k:Int))) σ=some (.d (bZ t)):=by rw [b9,Om,h]; rfl
theorem iW {p:Str} (h:ps[k]?=some p) (σ:ac):df (.d (.tuple (ps.map .str))) (.d (.int (k:Int))) σ=some (.d (.str p)):=by rw [b9,Om,h]; rfl
variable {l:List Nat} {ds:List PyData}
theorem zB {c:E} {b:Bool} (hl:l.length=ds.length) (hc:ag G cf c (bv l ds ρ) σ=.ok (.d (.bool b)) σ) (h:b=true->ag G cf e (bv l ds ρ) σ=.ok (.d y) σ):iZ G cf (.tup l) (.yes c) e ρ (.tuple ds) σ=.ok (if b then some y else none) σ:=by
 have eb:eu (.tup l) (.tuple ds) ρ=some (bv l ds ρ):=if_pos hl;unfold iZ;rw [eb];show (dg G cf (.yes c) (bv l ds ρ) σ).bind _=_;rw [GV hc,rU];cases b with
 | true=>show (ag G cf e (bv l ds ρ) σ).bind _=_;rw [h rfl]; rfl
 | false=>rfl
variable {g:Fd} {o:Option Str} {fn:Str}
theorem eD (hl:ts.length=g.ps.length) (d:Nat) (σ:ac):ae prog (d+1) 16 [.d (ba (.call o fn ts)),.d (aq g)] σ=.ok (.d (.list ((cZ ts g.ps).map nI))) σ:=by
 have c:=mc (G:=prog.G) (cf:=ae prog d) (m:=false) (t:=.tup [2,3]) (it:=.enum (.idx (.var 1) (.int 1))) (c:=.yes (.cmp .ne (.idx (.idx (.var 0) (.int 3)) (.var 2)) (.tup (.cons (.str bh) (.cons (.var 3) .nil))))) (e:=.var 2) (ρ:=[.d (ba (.call o fn ts)),.d (aq g),.un,.un]) (σ:=σ) (aa:=σ) (tS rfl) (ja (λp:PyData×Nat=>.tuple [.int p.2,p.1]) (λp=>if pM ts g.ps p.2 then some (nI p.2) else none) ((g.ps.map PyData.str).zipIdx) λp hp=>by
   have hk:=List.mem_zipIdx hp;obtain ⟨t,q,h1,h2,h3⟩:=j9 hl (k:=p.2) (by rw [hl]; have:=hk.2.1; rw [Ng,Pe] at this; exact this);have e:p.1=.str q:=by
     have:=hk.2.2;have h4:(g.ps.map PyData.str)[p.2]?=some (.str q):=by rw [Om,h2]; rfl
     rw [this];exact Option.some.inj ((NC _).symm.trans h4)
   rw [e,h3];exact zB rfl (cx (bw rfl rfl (mx h1 _)) rfl (lF ..)) λ_=>rfl)
 have e:(((g.ps.map PyData.str).zipIdx).filterMap λp=>if pM ts g.ps p.2 then some (nI p.2) else none)=(cZ ts g.ps).map nI:=by
   rw [Do (λp:PyData×Nat=>pM ts g.ps p.2) (λp=>nI p.2)];have h1:((g.ps.map PyData.str).zipIdx).map (·.2)=List.range ts.length:=by rw [List.zipIdx_map_snd,Ng,hl,OZ]
   unfold cZ;rw [<- h1,List.filter_map,Oq]; rfl
 rw [e] at c;exact (a5 prog 16 d [.d (ba (.call o fn ts)),.d (aq g)] σ rfl 0 c (same σ))
theorem sG (hl:ts.length=g.ps.length) (h4:ts.length<=4) (d:Nat) (σ:ac):ae prog (d+1) 49 [.d (ba (.call o fn ts)),.d (aq g)] σ=.ok (.d (.list ((cZ ts g.ps).map nI))) σ:=by
 have hI:=d0 (G:=prog.G) (cf:=ae prog d) (e:=.bi .len false (.cons (.idx (.var 0) (.int 3)) .nil)) (ρ:=[.d (ba (.call o fn ts)),.d (aq g),.un]) (σ:=σ) (b:=((ts.map bZ).length:Int)) rfl (jv (by rw [Ng]; exact iv h4 (by decide)));rw [Ng,cn] at hI;have c:=fy (G:=prog.G) (cf:=ae prog d) (i:=2) (c:=.cmp .ne (.idx (.idx (.var 0) (.int 3)) (.var 2)) (.tup (.cons (.str bh) (.cons (.idx (.idx (.var 1) (.int 1)) (.var 2)) .nil)))) (e:=.var 2) (λ(k:Nat)=>PyData.int (k:Int)) nI (pM ts g.ps) hI (λk hk=>by obtain ⟨t,p,h1,h2,h3⟩:=j9 hl (O4.mp hk);rw [h3];exact cx (bw rfl rfl (mx h1 _)) (rG (de rfl (iz (bw rfl rfl (iW h2 _)))) rfl) (lF ..)) λk _ _=>rfl
 exact (a5 prog 49 d [.d (ba (.call o fn ts)),.d (aq g)] σ rfl 0 c (same σ))
noncomputable def kA (ts:List Tm) (ps:List Str) (k:Nat):Rw:=match ts[k]?,ps[k]? with
 | some t,some p=>.set p t
 | _,_=>.tell (.num 0)
noncomputable def nf (o:Option Str) (t:Tm):List Rw:=match o with
 | some y=>if (bZ t).eqv (bZ (.name y)) then [] else [.set y t]
 | none=>[]
theorem j6 {y:Str} (h:(bZ t).eqv (bZ (.name y))=true):nf (some y) t=[]:=if_pos h
theorem j7 {y:Str} (h:(bZ t).eqv (bZ (.name y))=false):nf (some y) t=[.set y t]:=if_neg (by rw [h]; exact NY)
noncomputable def bz (o:Option Str) (ts:List Tm) (g:Fd):RL:=fL ((cZ ts g.ps).map (kA ts g.ps)++lst g.rs++nf o g.t)
theorem j8 (h:k∈cZ ts ps):k < ts.length:=O4.mp (Ov.mp h).1
theorem fj (ts:List Tm) (ps:List Str):(cZ ts ps).length<=ts.length:=iv (Ot ..) (OH O2)
theorem rP {a b:Nat} (hl:ts.length=g.ps.length) (h1:ag prog.G cf e ρ σ=.ok (.d (.list ((cZ ts g.ps).map nI))) σ) (ha:∀ k σ,ag prog.G cf (.var a) (ρ.set i (.d (nI k))) σ=.ok (.d (aq g)) σ) (hb:∀ k σ,ag prog.G cf (.var b) (ρ.set i (.d (nI k))) σ=.ok (.d (ba (.call o fn ts))) σ) (hi:∀ k σ,ag prog.G cf (.var i) (ρ.set i (.d (nI k))) σ=.ok (.d (nI k)) σ) :
   ag prog.G cf (.comp false (.var i) (.seq e) .no (.tup (.cons (.str ie) (.cons (.idx (.idx (.var a) (.int 1)) (.var i)) (.cons (.idx (.idx (.var b) (.int 3)) (.var i)) .nil))))) ρ σ=.ok (.d (.list (((cZ ts g.ps).map (kA ts g.ps)).map ba))) σ:=by
 rw [Oq];exact uH nI (λk=>ba (kA ts g.ps k)) (a8 h1 rfl) λk hk=>by
   obtain ⟨t,p,h1,h2,h3⟩:=j9 hl (j8 hk);have e:kA ts g.ps k=.set p t:=by unfold kA; rw [h1,h2]
   rw [e];exact rG (de rfl (de (bw (bw (ha k _) rfl rfl) (hi k _) (iW h2 _)) (iz (bw (bw (hb k _) rfl rfl) (hi k _) (mx h1 _))))) rfl
theorem rK (o:Option Str) (ts:List Tm) (g:Fd):ak (bz o ts g)=(((cZ ts g.ps).map (kA ts g.ps)).map ba++ak g.rs)++(nf o g.t).map ba:=by unfold bz;rw [jU,NP,NP,<- eZ]
theorem vg (h4:ts.length<=4) (hn:nL g.rs<=600) (σ:ac):dD .add false (.d (.tuple (((cZ ts g.ps).map (kA ts g.ps)).map ba))) (.d (.tuple (ak g.rs))) σ=.ok (.d (.tuple (((cZ ts g.ps).map (kA ts g.ps)).map ba++ak g.rs))) σ/\∀ x,dD .add false (.d (.tuple (((cZ ts g.ps).map (kA ts g.ps)).map ba++ak g.rs))) (.d (.tuple [x])) σ=.ok (.d (.tuple ((((cZ ts g.ps).map (kA ts g.ps)).map ba++ak g.rs)++[x]))) σ:=by
 have h:(((cZ ts g.ps).map (kA ts g.ps)).map ba).length+(ak g.rs).length<=604:=by rw [Ng,Ng];exact Ob (iv (fj ..) h4) (iv (iO _) hn)
 exact ⟨gQ (iv h (by decide)) σ,λx=>gQ (by rw [ND]; exact iv (N7 h) (by decide)) σ⟩
theorem rA {o:Option Str} {fn:Str} {g:Fd} (hl:ts.length=g.ps.length) (h4:ts.length<=4) (hn:nL g.rs<=600) (d:Nat) (σ:ac):ae prog (d+2) 17 [.d (ba (.call o fn ts)),.d (aq g)] σ=.ok (.d (.tuple (ak (bz o ts g)))) σ:=by
 have c:=rP (cf:=ae prog (d+1)) (ρ:=[.d (ba (.call o fn ts)),.d (aq g),.un,.un]) (σ:=σ) (i:=3) (a:=1) (b:=0) (e:=.call 16 (.cons (.var 0) (.cons (.var 1) .nil))) (o:=o) (fn:=fn) hl (ay rfl (eD hl d σ)) (λ_ _=>rfl) (λ_ _=>rfl) (λ_ _=>rfl);obtain ⟨a1,a2⟩:=vg (g:=g) h4 hn σ;have R:=a5 prog 17 (d+1) [.d (ba (.call o fn ts)),.d (aq g)] σ rfl;rw [rK];cases o with
 | none=>show _=Res.ok (V.d (.tuple (_++[]))) σ;rw [NX];exact (R 4 c a1 (same σ))
 | some y=>
   have ne:=lF g.t y σ;cases h:(bZ g.t).eqv (bZ (.name y)) with
   | true=>rw [h] at ne;rw [j6 h,OV,NX];exact (R 516 c a1 ne (same σ))
   | false=>rw [h] at ne;rw [j7 h];exact (R 8708 c a1 ne (a2 _) (same σ))
noncomputable def CN (x:Str):Rw->Bool
 | .call _ f _=>decide (f=x)
 | _=>false
mutual
noncomputable def D0:Rw->List Rw
 | .whn _ b=>jm b
 | .aga _ b=>jm b
 | .set _ _=>[]
 | .tell _=>[]
 | .call _ _ _=>[]
noncomputable def jm:RL->List Rw
 | .nil=>[]
 | .cons r b=>r::(D0 r++jm b)
end
mutual
theorem Ff (pl:List Nat):∀ r:Rw,(wI pl r).map (·.2)=D0 r
 | .whn _ b=>jZ pl 0 b
 | .aga _ b=>jZ pl 0 b
 | .set _ _=>rfl
 | .tell _=>rfl
 | .call _ _ _=>rfl
theorem jZ (pl:List Nat) (k:Nat):∀ b:RL,(fT pl k b).map (·.2)=jm b
 | .nil=>rfl
 | .cons r b=>by
   show r::(wI (pl++[k]) r++fT pl (k+1) b).map (·.2)=r::(D0 r++jm b)
   rw [NP,Ff (pl++[k]) r,jZ pl (k+1) b]
end
noncomputable def dw (x:Str) (fs:List Fd):Bool:=fs.any λf=>(jm f.rs).any (CN x)
theorem zA (B:SL) (hB:B=dl\/B=dY) (cf:Nat->List V->ac->Res V) (x:Str) (v0 v2:V) (σ:ac):∀ (L:List (List Nat×Rw)) (v3 v4:V),X2 λv3' v4'=>aZ (aB prog.G cf (.tup [3,4]) B) (L.map aG) (F5 v0 (.d (.str x)) v2 v3 v4) σ=gz ((L.map (·.2)).any (CN x)) (.ok (.ret (.d (.bool true))) σ) (.ok (.next (F5 v0 (.d (.str x)) v2 v3' v4')) σ):=by
 intro xs_
 induction xs_ with
 | nil=>intro v3 v4; exact ⟨v3,v4,rfl⟩
 | cons p L ih_=>
   intro v3 v4;obtain ⟨v3',v4',ih⟩:=ih_ (.d (pD p.1)) (.d (ba p.2));have st:aB prog.G cf (.tup [3,4]) B (aG p) (F5 v0 (.d (.str x)) v2 v3 v4) σ=gz (CN x p.2) (.ok (.ret (.d (.bool true))) σ) (.ok (.next (F5 v0 (.d (.str x)) v2 (.d (pD p.1)) (.d (ba p.2)))) σ):=by
     clear ih;obtain ⟨q,r⟩:=p;refine ek rfl ?_;have R:=dA prog.G cf dl (F5 v0 (.d (.str x)) v2 (.d (pD q)) (.d (ba r))) σ;have go:execs prog.G cf dl (F5 v0 (.d (.str x)) v2 (.d (pD q)) (.d (ba r))) σ=gz (CN x r) (.ok (.ret (.d (.bool true))) σ) (.ok (.next (F5 v0 (.d (.str x)) v2 (.d (pD q)) (.d (ba r)))) σ):=by
       cases r with
       | call o f ts=>
         show _=gz (decide (f=x)) _ _;by_cases h:f=x
         . rw [decide_eq_true h];exact (R 64 (dT h))
         . rw [decide_eq_false h];exact (R 64 (dF h))
       | set _ _=>exact (R 0)
       | tell _=>exact (R 0)
       | whn _ _=>exact (R 0)
       | aga _ _=>exact (R 0)
     rcases hB with rfl | rfl
     . exact go
     . exact go
   refine ⟨v3',v4',?_⟩;show _=gz (CN x p.2||(L.map (·.2)).any (CN x)) _ _;cases h:CN x p.2 with
   | true=>rw [h] at st;exact mv st
   | false=>rw [h] at st;exact aQ st ih
theorem FQ (d:Nat) (x:Str) (v0:V) (σ:ac):∀ (fs:List Fd) (v2 v3 v4:V),(∀ f∈fs,hL f.rs<=18/\nL f.rs<=9000)->X3 λv2' v3' v4'=>aZ (aB prog.G (ae prog (d+21)) (.var 2) kN) (fs.map aq) (F5 v0 (.d (.str x)) v2 v3 v4) σ=gz (dw x fs) (.ok (.ret (.d (.bool true))) σ) (.ok (.next (F5 v0 (.d (.str x)) v2' v3' v4')) σ):=by
 intro xs_
 induction xs_ with
 | nil=>intro v2 v3 v4 _; exact ⟨v2,v3,v4,rfl⟩
 | cons f fs ih_=>
   intro v2 v3 v4 h;refine kk λK k=>?_;obtain ⟨h1,h2⟩:=h f (NE ..);obtain ⟨oK,lu,lp⟩:=zA dl (.inl rfl) (ae prog (d+21)) x v0 (.d (aq f)) σ (fT [] 0 f.rs) v3 v4;rw [jZ] at lp;obtain ⟨v2',v3',v4',ih⟩:=ih_ (.d (aq f)) oK lu λg hg=>h g (NA _ hg);refine k ?_;have w:=gL 18 f.rs [] d h1 h2 (by decide) σ;have it:=a8 (G:=prog.G) (cf:=ae prog (d+21)) (e:=.call 7 (.cons (.tup .nil) (.cons (.idx (.var 2) (.int 2)) .nil))) (ρ:=(F5 v0 (.d (.str x)) (.d (aq f)) v3 v4)) (ay rfl w) rfl;refine ⟨v2',v3',v4',?_⟩;show _=gz ((jm f.rs).any (CN x)||dw x fs) _ _;cases q:(jm f.rs).any (CN x) with
   | true=>rw [q] at lp; exact mv (aJ (jw (aK it lp)))
   | false=>rw [q] at lp; exact aQ (aJ (aA (aK it lp) rfl)) ih
theorem qA (h:∀ f∈fs,hL f.rs<=18/\nL f.rs<=9000) (x:Str) (d:Nat) (σ:ac):ae prog (d+22) 23 [.d (.tuple (fs.map aq)),.d (.str x)] σ=.ok (.d (.bool (dw x fs))) σ:=by
 obtain ⟨v2',v3',v4',lp⟩:=FQ d x (.d (.tuple (fs.map aq))) σ fs .un .un .un h;cases q:dw x fs with
 | true=>rw [q] at lp; exact (a5 prog 23 (d+21) [.d (.tuple (fs.map aq)),.d (.str x)] σ rfl 0 (aK (a8 rfl rfl) lp) (same σ))
 | false=>rw [q] at lp; exact (a5 prog 23 (d+21) [.d (.tuple (fs.map aq)),.d (.str x)] σ rfl 0 (aK (a8 rfl rfl) lp) (same σ))
theorem FH (d:Nat) (x:Str) (fs0:List Fd) (σ:ac):∀ (fs:List Fd) (k:Nat) (v2 v3 v4:V),fs0.drop k=fs->(∀ f∈fs,hL f.rs<=18/\nL f.rs<=9000)->X3 λv2' v3' v4'=>aZ (aB prog.G (ae prog (d+20)) (.var 2) gE) ((List.range' k fs.length).map λ(k:Nat)=>PyData.int (k:Int)) (F5 (.d (.tuple (fs0.map aq))) (.d (.str x)) v2 v3 v4) σ=gz (dw x fs) (.ok (.ret (.d (.bool true))) σ) (.ok (.next (F5 (.d (.tuple (fs0.map aq))) (.d (.str x)) v2' v3' v4')) σ):=by
 intro xs_
 induction xs_ with
 | nil=>intro k v2 v3 v4 _ _; exact ⟨v2,v3,v4,rfl⟩
 | cons f fs ih_=>
   intro k v2 v3 v4 hd h;obtain ⟨h1,h2⟩:=h f (NE ..);obtain ⟨hk,hd'⟩:=ft hd;obtain ⟨oK,lu,lp⟩:=zA dY (.inr rfl) (ae prog (d+20)) x (.d (.tuple (fs0.map aq))) (.d (.int (k:Int))) σ (fT [k] 0 f.rs) v3 v4;rw [jZ] at lp;obtain ⟨v2',v3',v4',ih⟩:=ih_ (k+1) (.d (.int (k:Int))) oK lu hd' λg hg=>h g (NA _ hg);have w:=dL 18 f.rs [k] d h1 h2 (N5 19 81) σ;have it:=a8 (G:=prog.G) (cf:=ae prog (d+20)) (e:=.call 41 (.cons (.tup (.cons (.var 2) .nil)) (.cons (.idx (.idx (.var 0) (.var 2)) (.int 2)) .nil))) (ρ:=(F5 (.d (.tuple (fs0.map aq))) (.d (.str x)) (.d (.int (k:Int))) v3 v4)) (ay (de rfl (iz (bw (bw rfl rfl (bG hk σ)) rfl rfl))) w) rfl;refine ⟨v2',v3',v4',?_⟩;show _=gz ((jm f.rs).any (CN x)||dw x fs) _ _;cases q:(jm f.rs).any (CN x) with
   | true=>rw [q] at lp; exact mv (aJ (jw (aK it lp)))
   | false=>rw [q] at lp; exact aQ (aJ (aA (aK it lp) rfl)) ih
theorem lj (h8:fs.length<=8) (h:∀ f∈fs,hL f.rs<=18/\nL f.rs<=9000) (x:Str) (d:Nat) (σ:ac):ae prog (d+21) 52 [.d (.tuple (fs.map aq)),.d (.str x)] σ=.ok (.d (.bool (dw x fs))) σ:=by
 obtain ⟨v2',v3',v4',lp⟩:=FH d x fs σ fs 0 .un .un .un rfl h;have hl:(fs.map aq).length=fs.length:=Ng _;rw [<- OZ,<- cn,<- hl] at lp;have it:=d0 (G:=prog.G) (cf:=ae prog (d+20)) (e:=.bi .len false (.cons (.var 0) .nil)) (ρ:=(F5 (.d (.tuple (fs.map aq))) (.d (.str x)) .un .un .un)) (σ:=σ) (b:=((fs.map aq).length:Int)) rfl (jv (by rw [hl]; exact iv h8 (by decide)));cases q:dw x fs with
 | true=>rw [q] at lp; exact (a5 prog 52 (d+20) [.d (.tuple (fs.map aq)),.d (.str x)] σ rfl 0 (aK it lp) (same σ))
 | false=>rw [q] at lp; exact (a5 prog 52 (d+20) [.d (.tuple (fs.map aq)),.d (.str x)] σ rfl 0 (aK it lp) (same σ))
variable {f:PyData->Fm->ac->Res Out}
theorem ir (φ:α->PyData) (Fr:Fm->Prop) (C:α->Prop) (val:α->V->Prop) (σ:ac):∀ (xs:List α) (ρ:Fm),(∀ x∈xs,∀ ρ,Fr ρ->(∃ ρ',A3 (Fr ρ') (¬ C x) (f (φ x) ρ σ=.ok (.next ρ') σ))\/∃ v,A3 (C x) (val x v) (f (φ x) ρ σ=.ok (.ret v) σ))->Fr ρ->
   (∃ ρ',A3 (Fr ρ') ((∀ x∈xs,¬ C x)) (aZ f (xs.map φ) ρ σ=.ok (.next ρ') σ))\/X2 λx v=>A4 (x∈xs) (C x) (val x v) (aZ f (xs.map φ) ρ σ=.ok (.ret v) σ):=by
 intro xs_
 induction xs_ with
 | nil=>intro ρ _ h; exact .inl ⟨ρ,h,(λx hx=>by cases hx),rfl⟩
 | cons x xs ih_=>
   intro ρ H h;rcases H x (NE ..) ρ h with ⟨bA,aX,n,e⟩ | ⟨v,c,q,e⟩
   . rcases ih_ bA (λy hy=>H y (NA _ hy)) aX with ⟨oz,fE,m,kG⟩ | ⟨y,v,hy,c,q,kG⟩
     . exact .inl ⟨oz,fE,λy hy=>(NN.mp hy).elim (λe=>e ▸ n) (m y),aQ e kG⟩
     . exact .inr ⟨y,v,NA _ hy,c,q,aQ e kG⟩
   . exact .inr ⟨x,v,NE ..,c,q,mv e⟩
theorem gm {β:Type} (φ:α->PyData) (D:β->PyData) (Fr:Fm->Prop) (g:α->List β) (w:Nat) (σ:ac):∀ (xs:List α) (ρ:Fm) (L:List β),(∀ x∈xs,(g x).length<=w/\∀ ρ L,Fr ρ->L.length+w<=900000->∃ ρ',Fr ρ'/\f (φ x) ρ (σ++[.lst (L.map D)])=.ok (.next ρ') (σ++[.lst ((L++g x).map D)]))->Fr ρ->L.length+xs.length * w<=900000->∃ ρ',Fr ρ'/\aZ f (xs.map φ) ρ (σ++[.lst (L.map D)])=.ok (.next ρ') (σ++[.lst ((L++xs.flatMap g).map D)]):=by
 intro xs_
 induction xs_ with
 | nil=>intro ρ L _ h _; exact ⟨ρ,h,by rw [List.flatMap_nil,NX]; rfl⟩
 | cons x xs ih_=>intro ρ L H h hl;refine kk λK k=>?_;rw [NU,Qd,Oj _ w,<- On] at hl;obtain ⟨hw,hx⟩:=H x (NE ..);obtain ⟨bA,aX,e⟩:=hx ρ L h (OJ hl);obtain ⟨oz,fE,kG⟩:=ih_ bA (L++g x) (λy hy=>H y (NA _ hy)) aX (by rw [ND]; exact iv (NS (Oe hw _) _) hl);rw [N2,<- Pg] at kG;refine k ?_;exact ⟨oz,fE,aQ e kG⟩
noncomputable def c9 (j:Nat) (f:Fd):List (List Nat×List Str):=(fT [j] 0 f.rs).map (λp=>(p.1,own p.2))++[([j,(ak f.rs).length],cc f.t)]
noncomputable def Ih (q:List Nat×List Str):PyData:=.tuple [pD q.1,.list (q.2.map .str)]
theorem DQ (hl:l.length=ds.length) (h:ag G cf e (bv l ds ρ) σ=.ok (.d y) σ):iZ G cf (.tup l) .no e ρ (.tuple ds) σ=.ok (some y) σ:=by have eb:eu (.tup l) (.tuple ds) ρ=some (bv l ds ρ):=if_pos hl;unfold iZ;rw [eb];show (ag G cf e (bv l ds ρ) σ).bind _=_;rw [h]; rfl
mutual
theorem Ip (pl:List Nat):∀ r:Rw,lr ws cs r->∀ p∈wI pl r,lr ws cs p.2
 | .set _ _=>@λ_ _ hp=>absurd hp Oy
 | .tell _=>@λ_ _ hp=>absurd hp Oy
 | .call _ _ _=>@λ_ _ hp=>absurd hp Oy
 | .whn _ b=>@λh p hp=>kX pl 0 b h.2 p hp
 | .aga _ b=>@λh p hp=>kX pl 0 b h p hp
theorem kX (pl:List Nat) (k:Nat):∀ b:RL,gA ws cs b->∀ p∈fT pl k b,lr ws cs p.2
 | .nil=>@λ_ _ hp=>absurd hp Oy
 | .cons r b=>@λh p hp=>by
   rcases NN.mp hp with e | hp
   . rw [e]; exact h.1
   . exact (NR.mp hp).elim (Ip _ r h.1 p) (kX pl (k+1) b h.2 p)
end
theorem tA {f:Fd} (of:okF ws cs f) (j:Nat):(c9 j f).length<=601:=by unfold c9;rw [ND,Ng,cW];exact N7 of.n4
theorem jb {f:Fd} (hj:fs[j]?=some f) (of:okF ws cs f) (d:Nat) (σ:ac):ae prog (d+12) 47 [.d (.tuple (fs.map aq)),.d (.int (j:Int))] σ=.ok (.d (.list ((c9 j f).map Ih))) σ:=by
 have ep:=dL 9 f.rs [j] d of.h9 (iv of.n4 (by decide)) (N5 10 90) σ;have c:=mc (G:=prog.G) (cf:=ae prog (d+11)) (m:=false) (t:=.tup [4,5]) (it:=.seq (.call 41 (.cons (.tup (.cons (.var 1) .nil)) (.cons (.idx (.var 2) (.int 2)) .nil)))) (c:=.no) (e:=.tup (.cons (.var 4) (.cons (.call 38 (.cons (.var 5) .nil)) .nil))) (ρ:=(F6 (.d (.tuple (fs.map aq))) (.d (.int (j:Int))) (.d (aq f)) .un .un .un)) (σ:=σ) (aa:=σ) (a8 (ay rfl ep) rfl) (ja aG (λp=>some (Ih (p.1,own p.2))) (fT [j] 0 f.rs) λp hp=>DQ rfl (rG (de rfl (iz (ay rfl (wo (kX [j] 0 f.rs of.rs p hp) (d+7) _)))) rfl));rw [P4] at c;have e:(c9 j f).map Ih=(fT [j] 0 f.rs).map (λp=>Ih (p.1,own p.2))++[.tuple [.tuple [.int (j:Int),.int (ak f.rs).length],.list ((cc f.t).map .str)]]:=by unfold c9; rw [NP,Oq]; rfl
 rw [e];exact (a5 prog 47 (d+11) [.d (.tuple (fs.map aq)),.d (.int (j:Int))] σ rfl 17 (bG hj σ) c (kq of.t (d+8) σ) (iB (by rw [Ng,cW]; exact iv (N7 of.n4) (by decide)) _) (same σ))
noncomputable def gN (f:Fd) (x:Str):Bool:=!decide (x∈f.ps)&&(cC x f.rs||(!fc x f.rs&&decide (x∈cc f.t)))
theorem mr (L:List Str) (x:Str) (σ:ac):br .notIn (.d (.str x)) (.d (.tuple (L.map .str))) σ=some (!decide (x∈L)):=by rw [um,I5,oy]; rfl
theorem sH {f:Fd} (of:okF ws cs f) (x:Str) (d:Nat) (σ:ac):ae prog (d+15) 50 [.d (aq f),.d (.str x)] σ=.ok (.d (.bool (gN f x))) σ:=by have sc:=ko x 9 f.rs d σ of.rs of.h9;have b:=rH (G:=prog.G) (cf:=ae prog (d+14)) (e:=.cmp .notIn (.var 1) (.idx (.var 0) (.int 1))) (e':=.bop false (.cons (.idx (.var 2) (.int 0)) (.cons (.bop true (.cons (.idx (.var 2) (.int 1)) (.cons (.cmp .isIn (.var 1) (.call 37 (.cons (.idx (.var 0) (.int 3)) .nil))) .nil))) .nil))) (es:=.nil) (ρ:=[.d (aq f),.d (.str x),.d (gb (cC x f.rs) (!fc x f.rs))]) (σ:=σ) (cx rfl rfl (mr ..)) λ_=>dy (Bw rfl λ_=>dy (rH rfl λ_=>dy (cx rfl (ay rfl (kq of.t (d+11) σ)) (fO ..))));exact (a5 prog 50 (d+14) [.d (aq f),.d (.str x)] σ rfl 2 sc b (same σ))
noncomputable def TC (ts:List Tm) (ps:List Str) (k o:Nat):Prop:=X2 λp t=>A3 (ps[k]?=some p) (ts[o]?=some t) (p∈cc t)
noncomputable def fS (p:List Nat×List Nat):PyData:=.tuple [pD p.1,pD p.2]
theorem o4 (k n:Nat):bD ((k:Int)+1) (n:Int)=(List.range' (k+1) (n - (k+1))).map nI:=by unfold bD;have e:((n:Int) - ((k:Int)+1)).toNat=n - (k+1):=Int.toNat_sub n (k+1);rw [Qz,Oq,e];refine Pi λi _=>?_;show PyData.int ((k:Int)+1+(i:Int))=.int ((k+1+i:Nat):Int);rw [Int.natCast_add]; rfl
theorem gd {o:Nat}:o∈List.range' (k+1) (n - (k+1))↔k < o/\o < n:=by
 rw [List.mem_range'_1];refine ⟨λh=>⟨h.1,?_⟩,λh=>⟨h.1,?_⟩⟩
 . by_cases q:k+1<=n
   . rw [Qr q] at h; exact h.2
   . rw [QS (OU (Nat.lt_of_not_le q))] at h; exact absurd (Oc h.1 h.2) (Pa _)
 . rw [Qr (OU (Oc h.1 h.2))]; exact h.2
theorem yG (hk:k < n) (h4:n<=4):(-100000<=(k:Int)+1/\(k:Int)+1<=100000)/\(-100000<=(n:Int)/\(n:Int)<=100000):=⟨⟨OC (by decide:(-100000:Int)<=0) (Pt (Oa k) (by decide)),OC (Int.add_le_add_right (Pd.mpr (OU (OF hk h4))) 1) (by decide)⟩,OC (by decide:(-100000:Int)<=0) (Oa n),OC (Pd.mpr h4) (by decide)⟩
theorem nV {o:Option Str} {fn:Str} {pl:List Nat} (hpl:pl.length<=100) (hl:ts.length=g.ps.length) (h4:ts.length<=4) (ok:∀ t∈ts,o9 ws t) (d:Nat) (σ:ac):∃ v,ae prog (d+5) 18 [.d (pD pl),.d (ba (.call o fn ts)),.d (aq g)] σ=.ok (.d v) σ/\((v=.none/\∀ k∈cZ ts g.ps,∀ i,k < i->i < ts.length->¬ TC ts g.ps k i)\/X2 λk i=>A5 (k∈cZ ts g.ps) (k < i) (i < ts.length) (TC ts g.ps k i) (v=fS (pl++[k],pl++[i]))):=by
 have hps:∀ k,k < ts.length->∃ p,g.ps[k]?=some p:=λk hk=>⟨_,NC (hl ▸ hk)⟩;have hts:∀ k,k < ts.length->∃ t,ts[k]?=some t/\o9 ws t:=λk hk=>⟨_,NC hk,ok _ (Pq _)⟩;have inner:=λk (hk:k∈cZ ts g.ps) (v3 v4:V)=>ir (f:=aB prog.G (ae prog (d+4)) (.var 4) gg) nI (λρ=>∃ v4,ρ=(F5 (.d (pD pl)) (.d (ba (.call o fn ts))) (.d (aq g)) (.d (nI k)) v4)) (TC ts g.ps k) (λi v=>v=.d (fS (pl++[k],pl++[i]))) σ (List.range' (k+1) (ts.length - (k+1))) (F5 (.d (pD pl)) (.d (ba (.call o fn ts))) (.d (aq g)) (.d (nI k)) v4) (by
   rintro i hi _ ⟨v4,rfl⟩
   obtain ⟨hki,hin⟩:=gd.mp hi;obtain ⟨p,hp⟩:=hps k (QM hki hin);obtain ⟨t,ht,okt⟩:=hts i hin;obtain ⟨L,hL,e⟩:=dm okt d σ;have R:=dA prog.G (ae prog (d+4)) gg (F5 (.d (pD pl)) (.d (ba (.call o fn ts))) (.d (aq g)) (.d (nI k)) (.d (nI i))) σ;have ip:=iW hp σ;have it:=mx ht σ;have ins:=fO L p σ;by_cases q:p∈L
   . exact .inr ⟨_,⟨p,t,hp,ht,(hL.mem p).mp q⟩,rfl,aJ ((R 250 ip it e ins (dT q) (rD hpl k σ) (rD hpl i σ)))⟩
   . refine .inl ⟨_,⟨.d (nI i),rfl⟩,λ⟨p',t',h1,h2,h3⟩=>q ?_,aJ ((R 58 ip it e ins (dF q)))⟩;rw [hp] at h1; rw [ht] at h2;cases h1; cases h2;exact (hL.mem p).mpr h3) ⟨v4,rfl⟩
 have outer:=ir (f:=aB prog.G (ae prog (d+4)) (.var 3) jC) nI (λρ=>X2 λv3 v4=>ρ=(F5 (.d (pD pl)) (.d (ba (.call o fn ts))) (.d (aq g)) v3 v4)) (λk=>∃ i,i∈List.range' (k+1) (ts.length - (k+1))/\TC ts g.ps k i) (λk v=>∃ i,A3 (i∈List.range' (k+1) (ts.length - (k+1))) (TC ts g.ps k i) (v=.d (fS (pl++[k],pl++[i])))) σ (cZ ts g.ps) (F5 (.d (pD pl)) (.d (ba (.call o fn ts))) (.d (aq g)) .un .un) (by
   rintro k hk _ ⟨v3,v4,rfl⟩
   have it:=pT (G:=prog.G) (cf:=ae prog (d+4)) (e:=.bin .add false (.var 3) (.int 1)) (e':=.bi .len false (.cons (.idx (.var 1) (.int 3)) .nil)) (ρ:=(F5 (.d (pD pl)) (.d (ba (.call o fn ts))) (.d (aq g)) (.d (nI k)) v4)) (σ:=σ) (a:=(k:Int)+1) (b:=((ts.map bZ).length:Int)) rfl rfl (by rw [Ng]; exact yG (j8 hk) h4);rw [Ng,o4] at it;rcases inner k hk v3 v4 with ⟨_,⟨v4',rfl⟩,n,e⟩ | ⟨i,v,hi,c,rfl,e⟩
   . exact .inl ⟨_,⟨.d (nI k),v4',rfl⟩,λ⟨i,hi,c⟩=>n i hi c,aJ (aA (aK it e) rfl)⟩
   . exact .inr ⟨_,⟨i,hi,c⟩,⟨i,hi,c,rfl⟩,aJ (jw (aK it e))⟩) ⟨.un,.un,rfl⟩
 have it:=a8 (G:=prog.G) (cf:=ae prog (d+4)) (e:=.call 16 (.cons (.var 1) (.cons (.var 2) .nil))) (ρ:=(F5 (.d (pD pl)) (.d (ba (.call o fn ts))) (.d (aq g)) .un .un)) (ay rfl (eD (o:=o) (fn:=fn) hl (d+3) σ)) rfl;have R:=a5 prog 18 (d+4) [.d (pD pl),.d (ba (.call o fn ts)),.d (aq g)] σ rfl;rcases outer with ⟨_,⟨v3,v4,rfl⟩,n,e⟩ | ⟨k,v,hk,c,⟨i,hi,c',rfl⟩,e⟩
 . exact ⟨.none,(R 0 (aK it e) (same σ)),.inl ⟨rfl,λk hk i h1 h2 c=>n k hk ⟨i,gd.mpr ⟨h1,h2⟩,c⟩⟩⟩
 . exact ⟨_,(R 0 (aK it e) (same σ)),.inr ⟨k,i,hk,(gd.mp hi).1,(gd.mp hi).2,c',rfl⟩⟩
theorem ww (b:α->Bool):∀ L:List α,d7 (L.map λx=>.bool (b x))=some (L.map b)
 | []=>rfl
 | x::L=>by show (d7 (L.map λx=>.bool (b x))).map (b x::·)=_;rw [ww b L]; rfl
theorem Bf (b:α->Bool) (L:List α) (σ:ac):zE .any false [.d (.list (L.map λx=>.bool (b x)))] σ=.ok (.d (.bool (L.any b))) σ:=by show oc (d7 (L.map λx=>.bool (b x))) (λl=>Res.ok (V.d (.bool (l.any id))) σ) .bad=_;rw [ww];show Res.ok (V.d (.bool ((L.map b).any id))) σ=_;rw [Q9]; rfl
mutual
theorem De (x:Str):∀ r:Rw,wJ x r=true->x∈own r\/∃ q∈D0 r,x∈own q
 | .set _ _=>@λh=>.inl (of_decide_eq_true h)
 | .tell _=>@λh=>.inl (of_decide_eq_true h)
 | .call _ _ _=>@λh=>.inl (of_decide_eq_true h)
 | .whn _ b=>@λh=>(Od.mp h).imp of_decide_eq_true (fU x b)
 | .aga _ b=>@λh=>.inr (fU x b (NH.mp h).2)
theorem fU (x:Str):∀ b:RL,cC x b=true->∃ q∈jm b,x∈own q
 | .cons r b,h=>by
   rcases Od.mp h with h | h
   . rcases De x r h with h | ⟨q,hq,h⟩
     . exact ⟨r,NE ..,h⟩
     . exact ⟨q,NA _ (OD _ hq),h⟩
   . obtain ⟨q,hq,h⟩:=fU x b (NH.mp h).2;exact ⟨q,NA _ (OK _ hq),h⟩
end
theorem DY (h:r∈jm b) (pl:List Nat) (k:Nat):∃ p∈fT pl k b,p.2=r:=by rw [<- jZ pl k b] at h;exact Ok.mp h
noncomputable def zK (g:Fd) (q:List Nat×List Str):Prop:=∃ x∈q.2,gN g x=true
theorem nX (w7:ws.length<=7) (hn:fs[n]?=some g) (og:okF ws cs g) (pl:List Nat) (d:Nat) (σ:ac):∃ v,ae prog (d+17) 19 [.d (.tuple (fs.map aq)),.d (pD pl),.d (.int (n:Int))] σ=.ok (.d v) σ/\((v=.none/\∀ x,gN g x=false)\/∃ q∈c9 n g,zK g q/\v=fS (q.1,pl)):=by
 refine kk λK k=>?_;obtain ⟨S,hS,eS⟩:=wO w7 og.rs (D:=d+16) (iv (NS og.h9 2) (iv (by decide) (N5 16 d))) σ;obtain ⟨F,hF,eF⟩:=ll w7 9 _ (d+1) og.rs og.h9 (σ++[.dct (dk S)]);obtain ⟨N,hN,eN⟩:=dm og.t (d+12) ((σ++[.dct (dk S)])++[.dct (dk F)]);refine k ?_;generalize hτ:(σ++[Cell.dct (dk S)])++[Cell.dct (dk F)]=τ at eF eN;have ht:(τ++[Cell.busy])[σ.length]?=some (.dct (dk S)):=by rw [<- hτ]; exact uJ ..
 have hf:τ[(σ++[Cell.dct (dk S)]).length]?=some (.dct (dk F)):=by rw [<- hτ]; exact aM ..
 have hb:τ.take σ.length=σ:=by rw [<- hτ,N2]; exact fb ..
 have c1:=fy (G:=prog.G) (cf:=ae prog (d+16)) (i:=11) (it:=.seq (.call 1 (.cons (.var 5) .nil))) (c:=.cmp .notIn (.var 11) (.var 6)) (e:=.var 11) (ρ:=(JP (.d (.tuple (fs.map aq))) (.d (pD pl)) (.d (.int (n:Int))) (.d (.tuple (g.ps.map .str))) (.d (.tuple (ak g.rs))) (.d (bZ g.t)) (.loc σ.length) .un .un .un .un .un .un .un)) (σ:=τ) (aa:=τ) (base:=N.map .str) PyData.str PyData.str (λx=>!decide (x∈S)) (ps:=N) (a8 (ay rfl eN) rfl) (λp hp=>cx rfl rfl (po ht p)) (λp hp _=>rfl);have ad:=iB (a:=F.map PyData.str) (b:=(N.filter λx=>!decide (x∈S)).map .str) (by rw [Ng,Ng]; exact iv (Ob (hF.few w7 λx=>d4 x _ og.rs) (iv (Ot ..) (hN.few w7 og.t.1))) (by decide)) τ;rw [<- NP] at ad;have hM:∀ x,x∈(F++N.filter λx=>!decide (x∈S)).filter (λx=>!decide (x∈g.ps))↔gN g x=true:=λx=>by unfold gN;rw [Ov,NR,Ov,hF.mem x,hN.mem x,NH,Od,NH,Oo,Oo,Oo,decide_eq_false_iff_not,decide_eq_false_iff_not,hS.mem x,Bool.not_eq_true,decide_eq_true_iff];exact and_comm.trans (and_congr Iff.rfl (or_congr Iff.rfl and_comm))
 have c2:=λ(M:List Str)=>fy (G:=prog.G) (cf:=ae prog (d+16)) (i:=12) (it:=.seq (.var 7)) (c:=.cmp .notIn (.var 12) (.var 3)) (e:=.var 12) (ρ:=(JP (.d (.tuple (fs.map aq))) (.d (pD pl)) (.d (.int (n:Int))) (.d (.tuple (g.ps.map .str))) (.d (.tuple (ak g.rs))) (.d (bZ g.t)) (.loc σ.length) (.d (.list (M.map .str))) .un .un .un .un .un .un)) (σ:=τ) (aa:=τ) (base:=M.map .str) PyData.str PyData.str (λx=>!decide (x∈g.ps)) (ps:=M) (a8 rfl rfl) (λp hp=>cx rfl rfl (mr ..)) (λp hp _=>rfl);have c2:=c2 (F++N.filter λx=>!decide (x∈S));generalize hB:(F++N.filter λx=>!decide (x∈S)).filter (λx=>!decide (x∈g.ps))=B at hM c2;generalize F++(N.filter λx=>!decide (x∈S))=M at ad c2;have R:=a5 prog 19 (d+16) [.d (.tuple (fs.map aq)),.d (pD pl),.d (.int (n:Int))] σ rfl;have en:=lQ (B.map PyData.str) τ;rw [Qh] at en;cases hE:B.isEmpty with
 | true=>
   rw [hE] at en;refine ⟨.none,(R 29 (bG hn σ) eS eF (eO hf) c1 ad c2 en hb),.inl ⟨rfl,λx=>?_⟩⟩;cases q:gN g x with
   | false=>rfl
   | true=>rw [PA.mp hE] at hM; cases (hM x).mpr q
 | false=>
   rw [hE] at en;have w:=gL 9 g.rs [n] (d+4) og.h9 (iv og.n4 (by decide)) (N5 10 90) τ;have lp:=ir (f:=aB prog.G (ae prog (d+16)) (.tup [9,10]) gk) aG (λρ=>X2 λv9 v10=>ρ=(JP (.d (.tuple (fs.map aq))) (.d (pD pl)) (.d (.int (n:Int))) (.d (.tuple (g.ps.map .str))) (.d (.tuple (ak g.rs))) (.d (bZ g.t)) (.loc σ.length) (.d (.list (M.map .str))) (.d (.list (B.map .str))) v9 v10 .un .un .un)) (λp=>zK g (p.1,own p.2)) (λp v=>v=.d (fS (p.1,pl))) τ (fT [n] 0 g.rs) (JP (.d (.tuple (fs.map aq))) (.d (pD pl)) (.d (.int (n:Int))) (.d (.tuple (g.ps.map .str))) (.d (.tuple (ak g.rs))) (.d (bZ g.t)) (.loc σ.length) (.d (.list (M.map .str))) (.d (.list (B.map .str))) .un .un .un .un .un) (by
     rintro p hp _ ⟨v9,v10,rfl⟩
     obtain ⟨L,hL,eL⟩:=gu w7 (kX [n] 0 g.rs og.rs p hp) (d+11) τ;have c3:=uH (G:=prog.G) (cf:=ae prog (d+16)) (i:=13) (it:=.seq (.call 3 (.cons (.var 10) .nil))) (e:=.cmp .isIn (.var 13) (.var 8)) (ρ:=(JP (.d (.tuple (fs.map aq))) (.d (pD pl)) (.d (.int (n:Int))) (.d (.tuple (g.ps.map .str))) (.d (.tuple (ak g.rs))) (.d (bZ g.t)) (.loc σ.length) (.d (.list (M.map .str))) (.d (.list (B.map .str))) (.d (pD p.1)) (.d (ba p.2)) .un .un .un)) (σ:=τ) (aa:=τ) (base:=L.map .str) PyData.str (λx=>.bool (decide (x∈B))) (ps:=L) (a8 (ay rfl eL) rfl) λx _=>cx rfl rfl (fO ..);have R:=dA prog.G (ae prog (d+16)) gk (JP (.d (.tuple (fs.map aq))) (.d (pD pl)) (.d (.int (n:Int))) (.d (.tuple (g.ps.map .str))) (.d (.tuple (ak g.rs))) (.d (bZ g.t)) (.loc σ.length) (.d (.list (M.map .str))) (.d (.list (B.map .str))) (.d (pD p.1)) (.d (ba p.2)) .un .un .un) τ;have an:=Bf (λx=>decide (x∈B)) L τ;have iff:(L.any λx=>decide (x∈B))=true↔zK g (p.1,own p.2):=by rw [Qf];exact exists_congr λx=>and_congr (hL.mem x) (decide_eq_true_iff.trans (hM x))
     cases q:L.any λx=>decide (x∈B) with
     | true=>exact .inr ⟨_,iff.mp q,rfl,ek rfl ((R 3 c3 an (bT q)))⟩
     | false=>exact .inl ⟨_,⟨_,_,rfl⟩,λc=>NY (q.symm.trans (iff.mpr c)),ek rfl ((R 3 c3 an (bF q)))⟩) ⟨.un,.un,rfl⟩
   have it:=a8 (G:=prog.G) (cf:=ae prog (d+16)) (e:=.call 7 (.cons (.tup (.cons (.var 2) .nil)) (.cons (.var 4) .nil))) (ρ:=(JP (.d (.tuple (fs.map aq))) (.d (pD pl)) (.d (.int (n:Int))) (.d (.tuple (g.ps.map .str))) (.d (.tuple (ak g.rs))) (.d (bZ g.t)) (.loc σ.length) (.d (.list (M.map .str))) (.d (.list (B.map .str))) .un .un .un .un .un)) (ay rfl w) rfl;rcases lp with ⟨_,⟨v9,v10,rfl⟩,no,e⟩ | ⟨p,v,hp,c,rfl,e⟩
   . refine ⟨_,(R 29 (bG hn σ) eS eF (eO hf) c1 ad c2 en (aK it e) hb),.inr ⟨([n,(ak g.rs).length],cc g.t),OK _ (NL.mpr rfl),?_,rfl⟩⟩;clear e;clear it;clear c2;obtain ⟨x,hx⟩:∃ x,x∈B:=by
       cases B with
       | nil=>cases hE
       | cons x _=>exact ⟨x,NE ..⟩
     have q:=(hM x).mp hx;rcases Od.mp (NH.mp q).2 with h | h
     . refine kk λK k=>?_;obtain ⟨r,hr,hx⟩:=fU x g.rs h;obtain ⟨p,hp,rfl⟩:=DY hr [n] 0;refine k ?_;exact (no p hp ⟨x,hx,q⟩).elim
     . exact ⟨x,of_decide_eq_true (NH.mp h).2,q⟩
   . exact ⟨_,(R 29 (bG hn σ) eS eF (eO hf) c1 ad c2 en (aK it e) hb),.inr ⟨(p.1,own p.2),OD _ (Px hp),c,rfl⟩⟩
theorem vn:∀ (p q:List Nat),∃ b,Fz (p.map nI) (q.map nI)=some b
 | [],[]=>⟨_,rfl⟩
 | [],_::_=>⟨_,rfl⟩
 | _::_,[]=>⟨_,rfl⟩
 | a::p,b::q=>by
   show ∃ c,(if (a:Int)=(b:Int) then Fz (p.map nI) (q.map nI) else some (decide ((a:Int) < (b:Int))))=some c;by_cases h:(a:Int)=(b:Int)
   . rw [if_pos h]; exact vn p q
   . rw [if_neg h]; exact ⟨_,rfl⟩
variable {l:List PyData}
theorem K0 (h:ag G cf e ρ σ=.ok (.loc n) aa) (hc:aa[n]?=some (.lst l)):bX G cf (.seq e) ρ σ=.ok ⟨l,l,some n⟩ aa:=aF h (by rw [Ce hc]; rfl)
theorem HU {σ:ac} {t:Tgt} {b:SL} {o:Out} (hI:bX G cf it ρ σ=.ok ⟨l,l,some n⟩ aa) (hl:aZ (aB G cf t b) l ρ (aa.set n .busy)=.ok o af):exec G cf (.forr t it b) ρ σ=.ok o (af.set n (.lst l)):=aF hI (aF (a:=o) (σ:=af) hl rfl)
noncomputable def nM (x:Str) (q:List Nat×List Str):Bool:=decide (x∈q.2)
theorem wn (w7:ws.length<=7) {f:Fd} (hj:fs[j]?=some f) (of:okF ws cs f) (hx:∃ q∈c9 j f,x∈q.2) (p:List Nat) (d:Nat) (σ:ac):∃ q∈c9 j f,x∈q.2/\ae prog (d+13) 21 [.d (.tuple (fs.map aq)),.d (pD (j::p)),.d (.str x)] σ=.ok (.d (pD q.1)) σ:=by
 have w:=gL 9 f.rs [j] d of.h9 (iv of.n4 (by decide)) (N5 10 90) σ;obtain ⟨N,hN,eN⟩:=dm of.t (d+8) (σ++[.lst (((fT [j] 0 f.rs).filter λp=>decide (x∈own p.2)).map λp=>pD p.1)]);have c:=mc (G:=prog.G) (cf:=ae prog (d+12)) (m:=true) (t:=.tup [7,8]) (it:=.seq (.call 7 (.cons (.tup (.cons (.idx (.var 1) (.int 0)) .nil)) (.cons (.var 3) .nil)))) (c:=.yes (.cmp .isIn (.var 2) (.call 3 (.cons (.var 8) .nil)))) (e:=.var 7) (ρ:=(F9 (.d (.tuple (fs.map aq))) (.d (pD (j::p))) (.d (.str x)) (.d (.tuple (ak f.rs))) (.d (bZ f.t)) .un .un .un .un)) (σ:=σ) (aa:=σ) (a8 (ay (de (rG (iz (bw rfl rfl (dI ..))) rfl) rfl) w) rfl) (ja aG (λp=>if decide (x∈own p.2) then some (pD p.1) else none) (fT [j] 0 f.rs) λp hp=>by obtain ⟨L,hL,eL⟩:=gu w7 (kX [j] 0 f.rs of.rs p hp) (d+7) (σ++[.busy]);exact zB rfl (cx rfl (ay rfl eL) (by rw [fO]; exact congrArg some (decide_eq_decide.mpr (hL.mem x)))) λ_=>rfl)
 rw [Do (λp:List Nat×Rw=>decide (x∈own p.2)) (λp=>pD p.1)] at c;have R:=a5 prog 21 (d+12) [.d (.tuple (fs.map aq)),.d (pD (j::p)),.d (.str x)] σ rfl;have ins:=fO N x (σ++[.lst (((fT [j] 0 f.rs).filter λp=>decide (x∈own p.2)).map λp=>pD p.1)]);have eL:∀ b:Bool,decide (x∈cc f.t)=b->((c9 j f).filter (nM x)).map (·.1)=((fT [j] 0 f.rs).filter λp=>decide (x∈own p.2)).map (·.1)++(bif b then [[j,(ak f.rs).length]] else []):=λb hb=>by unfold c9;rw [List.filter_append,NP,List.filter_map,Oq];have h2:nM x ([j,(ak f.rs).length],cc f.t)=b:=hb;rw [QH,h2];cases (b) <;> rfl
 have sub:∀ q∈((c9 j f).filter (nM x)).map (·.1),∃ r∈c9 j f,x∈r.2/\q=r.1:=λq hq=>by obtain ⟨r,hr,rfl⟩:=Ok.mp hq;exact ⟨r,(Ov.mp hr).1,of_decide_eq_true (Ov.mp hr).2,rfl⟩
 have ne:((c9 j f).filter (nM x)).map (·.1)≠[]:=λh=>by obtain ⟨q,hq,hx⟩:=hx;have:q.1∈((c9 j f).filter (nM x)).map (·.1):=Px (Ov.mpr ⟨hq,decide_eq_true hx⟩);rw [h] at this; cases this
 have lL:(((fT [j] 0 f.rs).filter λp=>decide (x∈own p.2)).map λp=>pD p.1).length<=600:=by rw [Ng];exact iv (Ot ..) (by rw [cW]; exact of.n4)
 have mp:((fT [j] 0 f.rs).filter λp=>decide (x∈own p.2)).map (λp=>pD p.1)=(((fT [j] 0 f.rs).filter λp=>decide (x∈own p.2)).map (·.1)).map pD:=by rw [Oq]; rfl
 generalize hA:((fT [j] 0 f.rs).filter λp=>decide (x∈own p.2)).map (·.1)=A at eL mp;rw [mp] at c eN ins lL;generalize hQ:((c9 j f).filter (nM x)).map (·.1)=Q at eL sub ne;have lp:=ir (f:=aB prog.G (ae prog (d+12)) (.var 6) iT) pD (λρ=>∃ v6,ρ=(F9 (.d (.tuple (fs.map aq))) (.d (pD (j::p))) (.d (.str x)) (.d (.tuple (ak f.rs))) (.d (bZ f.t)) (.loc σ.length) v6 .un .un)) (λq=>Fz ((j::p).map nI) (q.map nI)=some true) (λq v=>v=.d (pD q)) (σ++[.busy]) Q (F9 (.d (.tuple (fs.map aq))) (.d (pD (j::p))) (.d (.str x)) (.d (.tuple (ak f.rs))) (.d (bZ f.t)) (.loc σ.length) .un .un .un) (by
   rintro q hq _ ⟨v6,rfl⟩
   obtain ⟨b,hb⟩:=vn (j::p) q;have R:=dA prog.G (ae prog (d+12)) iT (F9 (.d (.tuple (fs.map aq))) (.d (pD (j::p))) (.d (.str x)) (.d (.tuple (ak f.rs))) (.d (bZ f.t)) (.loc σ.length) (.d (pD q)) .un .un) (σ++[Cell.busy]);cases b with
   | true=>exact .inr ⟨_,hb,rfl,aJ ((R 1 hb))⟩
   | false=>exact .inl ⟨_,⟨_,rfl⟩,(λh=>by rw [hb] at h; cases h),aJ ((R 1 hb))⟩) ⟨.un,rfl⟩
 have lp':=λo (h:aZ (aB prog.G (ae prog (d+12)) (.var 6) iT) (Q.map pD) (F9 (.d (.tuple (fs.map aq))) (.d (pD (j::p))) (.d (.str x)) (.d (.tuple (ak f.rs))) (.d (bZ f.t)) (.loc σ.length) .un .un .un) (σ++[.busy])=.ok o (σ++[.busy]))=>HU (G:=prog.G) (it:=.seq (.var 5)) (K0 (n:=σ.length) (aa:=σ++[.lst (Q.map pD)]) rfl (aM _ _)) (by rw [fe]; exact h);rw [fe] at lp';obtain ⟨q0,Q',rfl⟩:X2 λq0 Q'=>Q=q0::Q':=by
   cases Q with
   | nil=>exact (ne rfl).elim
   | cons a b=>exact ⟨a,b,rfl⟩
 have i0:df (.loc σ.length) (.d (.int 0)) (σ++[.lst ((q0::Q').map pD)])=some (.d (pD q0)):=by show oc (aD (σ++[.lst ((q0::Q').map pD)]) (.loc σ.length)) (λl=>if (0:Int)<=0 then (l[(0:Int).toNat]?).map V.d else none) none=_;rw [iQ (aM _ _)]; rfl
 cases hb:decide (x∈cc f.t) with
 | true=>
   have eL:=eL true hb;have ap:=mG (σ:=σ) (l:=A.map pD) (iv lL (by decide)) (pD [j,(ak f.rs).length]);have e2:A.map pD++[pD [j,(ak f.rs).length]]=(q0::Q').map pD:=by rw [eL,NP]; rfl
   rw [e2] at ap;have q:x∈N:=(hN.mem x).mpr (of_decide_eq_true hb);rcases lp with ⟨_,⟨v6,rfl⟩,no,e⟩ | ⟨q1,v,hq,_,rfl,e⟩
   . refine kk λK k=>?_;obtain ⟨r,h1,h2,rfl⟩:=sub q0 (NE ..);refine k ?_;exact ⟨r,h1,h2,(R 187 (dI ..) (bG hj σ) c eN ins (dT q) (dI ..) ap (lp' _ e) i0 (b7 ..))⟩
   . obtain ⟨r,h1,h2,rfl⟩:=sub q1 hq;exact ⟨r,h1,h2,(R 59 (dI ..) (bG hj σ) c eN ins (dT q) (dI ..) ap (lp' _ e) (b7 ..))⟩
 | false=>
   have eL:=eL false hb;rw [cond_false,NX] at eL;subst eL;clear eL;have q:¬ x∈N:=λq=>of_decide_eq_false hb ((hN.mem x).mp q);rcases lp with ⟨_,⟨v6,rfl⟩,no,e⟩ | ⟨q1,v,hq,_,rfl,e⟩
   . obtain ⟨r,h1,h2,rfl⟩:=sub q0 (NE ..);exact ⟨r,h1,h2,(R 59 (dI ..) (bG hj σ) c eN ins (dF q) (lp' _ e) i0 (b7 ..))⟩
   . refine kk λK k=>?_;obtain ⟨r,h1,h2,rfl⟩:=sub q1 hq;refine k ?_;exact ⟨r,h1,h2,(R 27 (dI ..) (bG hj σ) c eN ins (dF q) (lp' _ e) (b7 ..))⟩
theorem rV (k:Str) (v:PyData) (x:Str):∀ kvs:List (Str×PyData),(d9 k v kvs).lookup x=if x=k then some v else kvs.lookup x:=by
 have rep:∀ kvs:List (Str×PyData),(kvs.map λy=>if y.1=k then (y.1,v) else y).lookup x=if x=k then (if kvs.any (λy=>decide (y.1=k)) then some v else none) else kvs.lookup x:=λkvs=>by
   induction kvs with
   | nil=>exact (ite_self _).symm
   | cons a l ih=>
     obtain ⟨y,w⟩:=a;rw [Ol];by_cases h:y=k
     . rw [if_pos h,NW,ih,Pw,decide_eq_true h,Bool.true_or,if_pos rfl,NW,h];by_cases q:x=k
       . rw [if_pos q,if_pos q,beq_iff_eq.mpr q]
       . rw [if_neg q,if_neg q,beq_false_of_ne q]
     . rw [if_neg h,NW,ih,Pw,decide_eq_false h,P1,NW];by_cases q:x=k
       . rw [if_pos q,if_pos q,beq_false_of_ne λe=>h (e.symm.trans q)]
       . rw [if_neg q,if_neg q]
 have no:∀ kvs:List (Str×PyData),kvs.any (λy=>decide (y.1=k))=false->kvs.lookup k=none:=λkvs h=>by
   induction kvs with
   | nil=>rfl
   | cons a l ih=>obtain ⟨y,w⟩:=a;rw [Pw,Qk] at h;rw [NW,beq_false_of_ne λe=>of_decide_eq_false h.1 e.symm];exact ih h.2
 intro kvs;unfold d9;cases h:kvs.any λy=>decide (y.1=k) with
 | true=>rw [if_pos rfl,rep,h,if_pos rfl]
 | false=>
   rw [if_neg NY,List.lookup_append,NW];by_cases q:x=k
   . rw [if_pos q,q,no kvs h,beq_self_eq_true]; rfl
   . rw [if_neg q,beq_false_of_ne q]; exact Option.or_none
theorem kg (k x:Str):∀ kvs:List (Str×PyData),(kvs.filter λy=>!decide (y.1=k)).lookup x=if x=k then none else kvs.lookup x
 | []=>(ite_self _).symm
 | (y,w)::l=>by
   rw [QH];by_cases h:y=k
   . rw [decide_eq_true h,PK,if_neg NY,kg k x l,NW];by_cases q:x=k
     . rw [if_pos q,if_pos q]
     . rw [if_neg q,if_neg q,beq_false_of_ne λe=>q (e.trans h)]
   . rw [decide_eq_false h,Bool.not_false,if_pos rfl,NW,kg k x l,NW];by_cases q:x=k
     . rw [if_pos q,if_pos q,beq_false_of_ne λe=>h (e.symm.trans q)]
     . rw [if_neg q,if_neg q]
theorem B5 (k:Str) (v:PyData) (kvs:List (Str×PyData)):(d9 k v kvs).length<=kvs.length+1:=by
 unfold d9;cases kvs.any λx=>decide (x.1=k) with
 | true=>rw [if_pos rfl,Ng]; exact PI _
 | false=>rw [if_neg NY,ND]; exact Of _
abbrev JX:=List (List Nat×Option Str)
structure Dm (kvs:List (Str×PyData)) (G:JX):Prop where
 some:∀ x v,kvs.lookup x=some v->∃ q,v=pD q/\(q,Option.some x)∈G
 none:∀ x,kvs.lookup x=none->∀ q,(q,Option.some x)∉G
 len:kvs.length<=G.length
variable {G:JX} {kvs:List (Str×PyData)}
theorem Dm.put (h:Dm kvs G) (k:Str) (q:List Nat):Dm (d9 k (pD q) kvs) (G++[(q,Option.some k)]):=by
 refine ⟨λx v e=>?_,λx e p m=>?_,by rw [ND]; exact iv (B5 ..) (N7 h.len)⟩
 . rw [rV] at e;by_cases c:x=k
   . rw [if_pos c] at e;exact ⟨q,(Option.some.inj e).symm,c ▸ OK _ (NL.mpr rfl)⟩
   . rw [if_neg c] at e;obtain ⟨p,h1,h2⟩:=h.some x v e;exact ⟨p,h1,OD _ h2⟩
 . rw [rV] at e;by_cases c:x=k
   . rw [if_pos c] at e; cases e
   . rw [if_neg c] at e;rcases io m with m | m
     . exact h.none x e p m
     . exact c (Option.some.inj (congrArg Prod.snd m))
theorem Dm.skip (h:Dm kvs G) (q:List Nat) (o:Option Str) (ho:∀ x,o=Option.some x->(kvs.lookup x).isSome=true):Dm kvs (G++[(q,o)]):=by
 refine ⟨λx v e=>?_,λx e p m=>?_,by rw [ND]; exact iv h.len (NZ _ _)⟩
 . obtain ⟨p,h1,h2⟩:=h.some x v e;exact ⟨p,h1,OD _ h2⟩
 . rcases io m with m | m
   . exact h.none x e p m
   . have:=ho x (congrArg Prod.snd m).symm;rw [e] at this; cases this
theorem BP {o i:E} {k:Str} {x:PyData} (h1:ag prog.G cf e ρ (σ++[.dct kvs])=.ok (.d x) (σ++[.dct kvs])) (h2:ag prog.G cf o ρ (σ++[.dct kvs])=.ok (.loc σ.length) (σ++[.dct kvs])) (h3:ag prog.G cf i ρ (σ++[.dct kvs])=.ok (.d (.str k)) (σ++[.dct kvs])) (hl:kvs.length<=9000):exec prog.G cf (.put o i e) ρ (σ++[.dct kvs])=.ok (.next ρ) (σ++[.dct (d9 k x kvs)]):=by refine (GN h1 h2 h3 (aM _ _) (Oc hl (by decide))).trans ?_;rw [fe]
theorem sD (φ:α->PyData) (Fr:Fm->Prop) (γ:α->List Nat×Option Str) (σ:ac):∀ (xs:List α) (ρ:Fm) (kvs:List (Str×PyData)) (G:JX),(∀ x∈xs,∀ ρ kvs G,Fr ρ->Dm kvs G->G.length<=9000->X2 λρ' kvs'=>A3 (Fr ρ') (Dm kvs' (G++[γ x])) (f (φ x) ρ (σ++[.dct kvs])=.ok (.next ρ') (σ++[.dct kvs'])))->Fr ρ->Dm kvs G->G.length+xs.length<=9000->X2 λρ' kvs'=>A3 (Fr ρ') (Dm kvs' (G++xs.map γ)) (aZ f (xs.map φ) ρ (σ++[.dct kvs])=.ok (.next ρ') (σ++[.dct kvs'])):=by
 intro xs_
 induction xs_ with
 | nil=>intro ρ kvs G _ h hd _; exact ⟨ρ,kvs,h,by rw [OV,NX]; exact hd,rfl⟩
 | cons x xs ih_=>intro ρ kvs G H h hd hl;refine kk λK k=>?_;rw [NU,Oj xs.length,<- On] at hl;obtain ⟨bA,IZ,aX,Mp,e⟩:=H x (NE ..) ρ kvs G h hd (iv (NZ _ _) (iv (NZ _ _) hl));obtain ⟨oz,FI,fE,Lx,kG⟩:=ih_ bA IZ (G++[γ x]) (λy hy=>H y (NA _ hy)) aX Mp (by rw [ND]; exact hl);rw [N2] at Lx;refine k ?_;exact ⟨oz,FI,fE,Lx,aQ e kG⟩
noncomputable def Eo (pl:List Nat) (g:Fd) (k:Nat):List Nat×Option Str:=(pl++[k],g.ps[k]?)
noncomputable def K9 (p:List Nat×Rw):List Nat×Option Str:=(p.1,HK p.2)
noncomputable def q9 (pl:List Nat) (n:Nat) (ts:List Tm) (g:Fd):JX:=(cZ ts g.ps).map (Eo pl g)++(fT [n] 0 g.rs).map K9
theorem CL (h:σ[n]?=some (.dct kvs)) (x:Str):br .isIn (.d (.str x)) (.loc n) σ=some (kvs.lookup x).isSome:=by
 have e:aD σ (.loc n)=none:=by show σ[n]?.bind FB=_;rw [h]; rfl
 show oc (aD σ (.loc n)) (λl=>vy (.str x) l) (oc (fG σ (.loc n)) (λkvs=>some (kvs.lookup x).isSome) none)=_;rw [e,fV h]; rfl
theorem Fo (h:σ[n]?=some (.dct kvs)) (x:Str):br .notIn (.d (.str x)) (.loc n) σ=some (!(kvs.lookup x).isSome):=by show (br .isIn (.d (.str x)) (.loc n) σ).map _=_;rw [CL h]; rfl
structure Sets (kvs:List (Str×PyData)) (G:JX) (o:Option Str):Prop where
 some:∀ x v,kvs.lookup x=some v->(∃ q,v=pD q/\(q,Option.some x)∈G)/\o≠Option.some x
 none:∀ x,kvs.lookup x=none->(∀ q,(q,Option.some x)∉G)\/o=Option.some x
set_option maxHeartbeats 2000000 in
theorem ui {o:Option Str} {fn:Str} {pl:List Nat} (hpl:pl.length<=100) (hl:ts.length=g.ps.length) (h4:ts.length<=4) (og:okF ws cs g) (n d:Nat) (σ:ac):∃ kvs,Sets kvs (q9 pl n ts g) o/\ae prog (d+13) 20 [.d (pD pl),.d (ba (.call o fn ts)),.d (.int (n:Int)),.d (aq g)] σ=.ok (.loc σ.length) (σ++[.dct kvs]):=by
 refine kk λK k=>?_;obtain ⟨_,k1,⟨v5,rfl⟩,d1,e1⟩:=sD (f:=aB prog.G (ae prog (d+12)) (.var 5) ng) nI (λρ=>∃ v5,ρ=(F8 (.d (pD pl)) (.d (ba (.call o fn ts))) (.d (.int (n:Int))) (.d (aq g)) (.loc σ.length) v5 .un .un)) (Eo pl g) σ (cZ ts g.ps) (F8 (.d (pD pl)) (.d (ba (.call o fn ts))) (.d (.int (n:Int))) (.d (aq g)) (.loc σ.length) .un .un .un) [] [] (by
   rintro k hk _ kvs G ⟨v5,rfl⟩ hd hG
   obtain ⟨t,p,h1,h2,h3⟩:=j9 hl (j8 hk);have e:Eo pl g k=(pl++[k],some p):=by unfold Eo; rw [h2]
   rw [e];exact ⟨_,_,⟨.d (nI k),rfl⟩,hd.put p (pl++[k]),aJ (aA (BP (fX rfl rfl (rD hpl k _)) rfl (bw rfl rfl (iW h2 _)) (iv hd.len hG)) rfl)⟩) ⟨.un,rfl⟩ ⟨(λx v h=>by cases h),(λx _ q h=>by cases h),Of _⟩ (by rw [OY,Pe]; exact iv (fj ..) (iv h4 (by decide)))
 obtain ⟨_,k2,⟨v6,v7,rfl⟩,d2,e2⟩:=sD (f:=aB prog.G (ae prog (d+12)) (.tup [6,7]) jD) aG (λρ=>X2 λv6 v7=>ρ=(F8 (.d (pD pl)) (.d (ba (.call o fn ts))) (.d (.int (n:Int))) (.d (aq g)) (.loc σ.length) v5 v6 v7)) K9 σ (fT [n] 0 g.rs) (F8 (.d (pD pl)) (.d (ba (.call o fn ts))) (.d (.int (n:Int))) (.d (aq g)) (.loc σ.length) v5 .un .un) k1 _ (by
   rintro ⟨q,r⟩ hp _ kvs G ⟨v6,v7,rfl⟩ hd hG
   have eo:=lT r (d+11) (σ++[.dct kvs]);have R:=dA prog.G (ae prog (d+12)) jD (F8 (.d (pD pl)) (.d (ba (.call o fn ts))) (.d (.int (n:Int))) (.d (aq g)) (.loc σ.length) v5 (.d (pD q)) (.d (ba r))) (σ++[Cell.dct kvs]);show X2 λρ' kvs'=>A3 (_) (Dm kvs' (G++[(q,HK r)])) (_);cases ht:HK r with
   | none=>rw [ht] at eo;exact ⟨_,kvs,⟨.d (pD q),.d (ba r),rfl⟩,hd.skip q none (λx h=>by cases h),ek rfl ((R 0 eo))⟩
   | some y=>
     rw [ht] at eo;have ni:=Fo (aM σ (.dct kvs)) y;cases hi:(kvs.lookup y).isSome with
     | true=>rw [hi] at ni;exact ⟨_,kvs,⟨.d (pD q),.d (ba r),rfl⟩,hd.skip q (some y) (λx h=>by cases h; exact hi),ek rfl ((R 8 eo eo ni))⟩
     | false=>rw [hi] at ni;exact ⟨_,_,⟨.d (pD q),.d (ba r),rfl⟩,hd.put y q,ek rfl ((R 8 eo eo ni (BP rfl rfl (ay rfl eo) (iv hd.len hG))))⟩) ⟨.un,.un,rfl⟩ d1 (by rw [P3,Ng,cW]; exact iv (Ob (iv (fj ..) h4) og.n4) (by decide))
 have it1:=a8 (G:=prog.G) (cf:=ae prog (d+12)) (e:=.call 16 (.cons (.var 1) (.cons (.var 3) .nil))) (ρ:=(F8 (.d (pD pl)) (.d (ba (.call o fn ts))) (.d (.int (n:Int))) (.d (aq g)) (.loc σ.length) .un .un .un)) (ay rfl (eD (o:=o) (fn:=fn) hl (d+11) (σ++[Cell.dct []]))) rfl;have it2:=a8 (G:=prog.G) (cf:=ae prog (d+12)) (e:=.call 7 (.cons (.tup (.cons (.var 2) .nil)) (.cons (.idx (.var 3) (.int 2)) .nil))) (ρ:=(F8 (.d (pD pl)) (.d (ba (.call o fn ts))) (.d (.int (n:Int))) (.d (aq g)) (.loc σ.length) v5 .un .un)) (ay rfl (gL 9 g.rs [n] d og.h9 (iv og.n4 (by decide)) (N5 10 90) (σ++[Cell.dct k1]))) rfl;have R:=w0 prog 20 (d+12) [.d (pD pl),.d (ba (.call o fn ts)),.d (.int (n:Int)),.d (aq g)] σ rfl;have mk:qZ .pop (σ++[.dct k2]) (.loc σ.length)=true:=by show (fG (σ++[.dct k2]) (.loc σ.length)).isSome=true;rw [fV (aM _ _)]; rfl
 have hk:d6 (σ++[.dct k2]) σ.length=some k2:=jM (aM _ _);have ex:=λl=>qj (σ:=σ) (τ:=σ++[.dct l]) (fb ..) (aM ..);rw [P3] at d2;refine k ?_;cases o with
 | none=>
   have pop:xo .pop (.loc σ.length) (σ++[.dct k2]) [.d .none,.d .none] (σ++[.dct k2])=.ok (.d .none) (σ++[.dct k2]):=by unfold xo;rw [mk,if_pos rfl];show oc (d6 (σ++[.dct k2]) σ.length) (λkvs=>Res.ok (V.d .none) (σ++[.dct k2])) .bad=_;rw [hk]; rfl
   exact ⟨k2,⟨λx v e=>⟨d2.some x v e,λq=>by cases q⟩,λx e=>.inl (d2.none x e)⟩,((R 0 (aK it1 e1) (aK it2 e2) pop)).trans (ex k2)⟩
 | some y=>
   have pop:xo .pop (.loc σ.length) (σ++[.dct k2]) [.d (.str y),.d .none] (σ++[.dct k2])=.ok (.d ((k2.lookup y).getD .none)) (σ++[.dct (k2.filter λx=>!decide (x.1=y))]):=by unfold xo;rw [mk,if_pos rfl];show oc (d6 (σ++[.dct k2]) σ.length) (λkvs=>Res.ok (V.d ((kvs.lookup y).getD .none)) ((σ++[Cell.dct k2]).set σ.length (Cell.dct (kvs.filter λx=>!decide (x.1=y))))) .bad=_;rw [hk];exact congrArg (Res.ok _) (fe ..)
   refine ⟨k2.filter λx=>!decide (x.1=y),⟨λx v e=>?_,λx e=>?_⟩,((R 0 (aK it1 e1) (aK it2 e2) pop)).trans (ex _)⟩
   . rw [kg] at e;by_cases c:x=y
     . rw [if_pos c] at e; cases e
     . rw [if_neg c] at e;exact ⟨d2.some x v e,λq=>c (Option.some.inj q).symm⟩
   . rw [kg] at e;by_cases c:x=y
     . exact .inr (congrArg some c.symm)
     . rw [if_neg c] at e;exact .inl (d2.none x e)
noncomputable def B0 (x:Str) (b:RL):Prop:=∃ q∈jm b,x∈own q
theorem zG (h:r∈lst b):∀ q∈jm (cK r),q∈jm b:=by
 have e:∀ r:Rw,D0 r=jm (cK r):=λr=>by cases r <;> rfl
 induction b using RL.rec (motive_1:=λ_=>True) with
 | nil=>cases h
 | cons a c _ ih=>
   intro q hq;rcases NN.mp h with rfl | h
   . exact NA _ (OD _ (e r ▸ hq))
   . exact NA _ (OK _ (ih h q hq))
 | _=>trivial
theorem wC {q:Rw}:∀ (n:Nat) (b:RL),q∈jm (bo n b)->q∈jm b
 | 0,b=>@λh=>by unfold bo at h; rw [List.drop_zero,xn] at h; exact h
 | n+1,.nil=>@λh=>h
 | n+1,.cons r b=>@λh=>NA _ (OK _ (wC n b h))
theorem va {l:Bool} (h:kB x (bo n b) l=true):l=true\/B0 x b:=by
 rcases Od.mp h with h | h
 . obtain ⟨q,hq,hx⟩:=fU x _ h;exact .inr ⟨q,wC n b hq,hx⟩
 . exact .inl (NH.mp h).2
theorem Dw (hr:r∈lst b) {l:Bool} (h:Js x r l=true):l=true\/B0 x b:=by
 cases r with
 | aga n c=>
   rcases Od.mp h with h | h
   . exact .inl h
   . obtain ⟨q,hq,hx⟩:=fU x _ (NH.mp h).2;exact .inr ⟨q,zG hr q hq,hx⟩
 | _=>exact .inl h
theorem CG (z:Nat):∀ (pre:List Nat) (b:RL) (l:Bool),tN x b pre z l=true->l=true\/B0 x b:=by
 intro xs_
 induction xs_ with
 | nil=>intro b l h; exact va h
 | cons k ks ih_=>
   intro b l h;cases hk:(lst b)[k]? with
   | none=>rw [CH,hk] at h; exact .inl h
   | some r=>
     rw [pK hk] at h;have hr:=NI hk;rcases ih_ _ _ h with h | ⟨q,hq,hx⟩
     . exact (Dw hr h).elim va .inr
     . exact .inr ⟨q,zG hr q hq,hx⟩
variable {f:Fd}
theorem IW (h:tN x f.rs pre z (decide (x∈cc f.t))=true) (j:Nat):∃ q∈c9 j f,x∈q.2:=by
 rcases CG z pre f.rs _ h with h | ⟨r,hr,hx⟩
 . exact ⟨_,OK _ (NL.mpr rfl),of_decide_eq_true h⟩
 . obtain ⟨p,hp,rfl⟩:=DY hr [j] 0;exact ⟨(p.1,own p.2),OD _ (Px hp),hx⟩
noncomputable def zJ (G:JX) (o:Option Str) (f:Fd) (pre:List Nat) (z:Nat) (q:List Nat) (x:Str):Prop:=(q,some x)∈G/\o≠some x/\tN x f.rs pre z (decide (x∈cc f.t))=true
theorem FO (h:σ[n]?=some (.dct kvs)) (hx:kvs.lookup x=some v):df (.loc n) (.d (.str x)) σ=some (.d v):=by show b2 (some x) (fG σ (.loc n)) (λk kvs=>(kvs.lookup k).map V.d) none=_;rw [fV h];show (kvs.lookup x).map V.d=_;rw [hx]; rfl
theorem AY (w7:ws.length<=7) {f:Fd} {o:Option Str} {fn:Str} (hj:fs[j]?=some f) (of:okF ws cs f) (hp:Pth f.rs pre c) (hz:(lst c)[z]?=some (.call o fn ts)) (hn:fs[n]?=some g) (og:okF ws cs g) (hl:ts.length=g.ps.length) (h4:ts.length<=4) (d:Nat) (σ:ac):∃ v,ae prog (d+18) 22 [.d (.tuple (fs.map aq)),.d (pD (bb j pre z)),.d (ba (.call o fn ts)),.d (.int (n:Int))] σ=.ok (.d v) σ/\((v=.none/\∀ q x,¬ zJ (q9 (bb j pre z) n ts g) o f pre z q x)\/X3 λq x r=>A4 (zJ (q9 (bb j pre z) n ts g) o f pre z q x) (r∈c9 j f) (x∈r.2) (v=fS (q,r.1))):=by
 have h100:(bb j pre z).length<=100:=by show (pre++[z]).length+1<=100;rw [ND];exact iv (NS (iv (jY hp) of.h9) 2) (by decide)
 obtain ⟨kvs,hs,es⟩:=ui (o:=o) (fn:=fn) h100 hl h4 og n (d+4) σ;obtain ⟨L,hL,eL⟩:=wp w7 hj of hp hz d (σ++[.dct kvs]);have it:=a8 (G:=prog.G) (cf:=ae prog (d+17)) (e:=.call 12 (.cons (.var 0) (.cons (.var 1) .nil))) (ρ:=(F6 (.d (.tuple (fs.map aq))) (.d (pD (bb j pre z))) (.d (ba (.call o fn ts))) (.d (.int (n:Int))) (.loc σ.length) .un)) (ay rfl eL) rfl;have R:=a5 prog 22 (d+17) [.d (.tuple (fs.map aq)),.d (pD (bb j pre z)),.d (ba (.call o fn ts)),.d (.int (n:Int))] σ rfl;have lp:=ir (f:=aB prog.G (ae prog (d+17)) (.var 5) gh) PyData.str (λρ=>∃ v5,ρ=(F6 (.d (.tuple (fs.map aq))) (.d (pD (bb j pre z))) (.d (ba (.call o fn ts))) (.d (.int (n:Int))) (.loc σ.length) v5)) (λx=>(kvs.lookup x).isSome=true) (λx v=>X2 λq r=>A4 (zJ (q9 (bb j pre z) n ts g) o f pre z q x) (r∈c9 j f) (x∈r.2) (v=.d (fS (q,r.1)))) (σ++[.dct kvs]) L (F6 (.d (.tuple (fs.map aq))) (.d (pD (bb j pre z))) (.d (ba (.call o fn ts))) (.d (.int (n:Int))) (.loc σ.length) .un) (by
   rintro x hx _ ⟨v5,rfl⟩
   have ii:=CL (aM σ (.dct kvs)) x;have R:=dA prog.G (ae prog (d+17)) gh (F6 (.d (.tuple (fs.map aq))) (.d (pD (bb j pre z))) (.d (ba (.call o fn ts))) (.d (.int (n:Int))) (.loc σ.length) (.d (.str x))) (σ++[Cell.dct kvs]);cases hk:kvs.lookup x with
   | none=>rw [hk] at ii;exact .inl ⟨_,⟨_,rfl⟩,NY,aJ ((R 1 ii))⟩
   | some v=>refine kk λK k=>?_;rw [hk] at ii;obtain ⟨⟨q,rfl,hq⟩,ho⟩:=hs.some x v hk;have hn:=(hL x).mp hx;obtain ⟨r,h1,h2,er⟩:=wn w7 hj of (IW hn j) (pre++[z]) (d+4) (σ++[.dct kvs]);refine k ?_;exact .inr ⟨_,rfl,⟨q,r,⟨hq,ho,hn⟩,h1,h2,rfl⟩,aJ ((R 5 ii (FO (aM ..) hk) er))⟩) ⟨.un,rfl⟩
 rcases lp with ⟨_,⟨v5,rfl⟩,no,e⟩ | ⟨x,v,hx,_,⟨q,r,h1,h2,h3,rfl⟩,e⟩
 . refine ⟨.none,(R 1 (bG hn σ) es (aK it e) (fb ..)),.inl ⟨rfl,λq x ⟨a,b,c⟩=>?_⟩⟩;have:=no x ((hL x).mpr c);cases hk:kvs.lookup x with
   | none=>exact (hs.none x hk).elim (λh=>h q a) b
   | some v=>rw [hk] at this; exact this rfl
 . exact ⟨_,(R 1 (bG hn σ) es (aK it e) (fb ..)),.inr ⟨q,x,r,h1,h2,h3,rfl⟩⟩
theorem mu:∀ l:List Rw,nL (fL l)=(l.map nR).sum
 | []=>rfl
 | r::l=>congrArg (nR r+·) (mu l)
theorem lG (b:RL):nL b=((lst b).map nR).sum:=by rw [<- mu,xn]
theorem Nx (a n d r:Nat):a+n+d+r=a+(r+d)+n:=by rw [OX a n d,OX (a+d) n r,On a d r,Oj d r]
theorem uO {l:List Rw} (h:l[k]?=some r) (news:List Rw):((bN l k news).map nR).sum+nR r=(l.map nR).sum+(news.map nR).sum:=by
 have hk:=(NK.mp h).1;have e:l=l.take k++r::l.drop (k+1):=by have:=Qe k l;rw [Ps hk,(NK.mp h).2] at this;exact this.symm
 have e2:(l.map nR).sum=((l.take k).map nR).sum+(nR r+((l.drop (k+1)).map nR).sum):=by
   conv=>lhs; rw [e]
   rw [NP,PJ,Ol,Q2]
 unfold bN;rw [NP,NP,PJ,PJ,e2];exact Nx ..
theorem HM (h:uz r=true) (b:RL):nR (oU r b)=nL b+1:=by cases r <;> first | rfl | cases h
theorem zD (h:uz r=true) (b:RL):cK (oU r b)=b/\uz (oU r b)=true:=by cases r <;> first | exact ⟨rfl,rfl⟩ | cases h
theorem HN (h:uz r=true) (b:RL):hR (oU r b)=hL b+1:=by cases r <;> first | rfl | cases h
theorem Jz (h:uz r=true):hL (cK r)+1=hR r:=by cases r <;> first | rfl | cases h
theorem ET (h:lr ws cs r) (hb:gA ws cs b):lr ws cs (oU r b):=by
 cases r with
 | whn t _=>exact ⟨h.1,hb⟩
 | aga n _=>exact hb
 | set _ _=>exact h
 | tell _=>exact h
 | call _ _ _=>exact h
theorem gc {l news:List α} {x:α} (h:x∈bN l k news):x∈l\/x∈news:=by
 rcases NR.mp h with h | h
 . exact (NR.mp h).imp Oi id
 . exact .inl (O9 h)
theorem o0 {l:List α} (h:k < l.length) (x:α):(bN l k [x])[k]?=some x:=by
 unfold bN;have hk:(l.take k).length=k:=by rw [Pz]; exact Pj (OU h)
 rw [N2,N6 (OH hk),hk,QQ]; rfl
variable {news:RL}
theorem oG (z:Nat) (hz:(lst c)[z]?=some r) (hp:Pth b pre c):(gA ws cs b->gA ws cs news->gA ws cs (ed news z b pre))/\hL (ed news z b pre)<=hL b+hL news/\nL (ed news z b pre)+nR r=nL b+nL news:=by
 induction hp with
 | nil b=>refine ⟨λh1 h2=>k7 _ λq hq=>(gc hq).elim (bJ h1 q) (bJ h2 q),pV _ λq hq=>(gc hq).elim (λh=>iv (bW q h) (NZ ..)) λh=>iv (bW q h) (N5 ..),?_⟩;rw [l9,mu,uO hz,<- lG,<- lG]
 | @cons b c q k ks hk hb hp ih=>
   obtain ⟨i1,i2,i3⟩:=ih hz;have e:ed news z b (k::ks)=fL (bN (lst b) k [oU q (ed news z (cK q) ks)]):=by rw [kT,hk]
   have hq:=NI hk;rw [e];refine ⟨λh1 h2=>k7 _ λx hx=>?_,pV _ λx hx=>?_,?_⟩
   . rcases gc hx with hx | hx
     . exact bJ h1 x hx
     . rw [NL.mp hx];exact ET (bJ h1 q hq) (i1 (g8 (bJ h1 q hq)) h2)
   . rcases gc hx with hx | hx
     . exact iv (bW x hx) (NZ ..)
     . rw [NL.mp hx,HN hb];refine iv (N7 i2) ?_;rw [<- Nat.succ_add];exact NS (iv (OH (Jz hb)) (bW q hq)) _
   . have h1:=uO hk [oU q (ed news z (cK q) ks)];rw [Pr,List.sum_singleton,HM hb,<- DS q] at h1;rw [mu,lG b];omega
variable {r':Rw}
theorem B6 (z:Nat) (hz:(lst c)[z]?=some r) (hp:Pth b pre c):∃ c',Pth (ed (.cons r' .nil) z b pre) pre c'/\(lst c')[z]?=some r':=by
 induction hp with
 | nil b=>exact ⟨_,.nil _,by rw [l9,xv]; exact o0 (NK.mp hz).1 r'⟩
 | @cons b c q k ks hk hb hp ih=>
   obtain ⟨c',h1,h2⟩:=ih hz;have e:ed (.cons r' .nil) z b (k::ks)=fL (bN (lst b) k [oU q (ed (.cons r' .nil) z (cK q) ks)]):=by rw [kT,hk]
   rw [e];exact ⟨c',.cons (by rw [xv]; exact o0 (NK.mp hk).1 _) (zD hb _).2 (by rw [(zD hb _).1]; exact h1),h2⟩
noncomputable def LJ (ts:List Tm) (g:Fd) (pl a b:List Nat):Prop:=X2 λk i=>A6 (k∈cZ ts g.ps) (k < i) (i < ts.length) (TC ts g.ps k i) (a=pl++[k]) (b=pl++[i])
noncomputable def Cl (j n:Nat) (f g:Fd) (pre:List Nat) (z:Nat) (o:Option Str) (ts:List Tm) (a b:List Nat):Prop:=
 LJ ts g (bb j pre z) a b\/(∃ q∈c9 n g,zK g q/\a=q.1/\b=bb j pre z)\/X2 λx r=>A4 (zJ (q9 (bb j pre z) n ts g) o f pre z a x) (r∈c9 j f) (x∈r.2) (b=r.1)
noncomputable def AQ (fs:List Fd) (n:Nat):List Fd:=fs.take n++fs.drop (n+1)
noncomputable def Ag (fs:List Fd) (j n:Nat) (f g:Fd) (pre:List Nat) (z:Nat) (o:Option Str) (fn:Str) (ts:List Tm):PyData:=
 bif dw fn (bN fs j [bO (bz o ts g) pre z f]) then .tuple [.tuple ((bN fs j [bO (bz o ts g) pre z f]).map aq),.tuple [pD (bb j pre z),.int (ak (bz o ts g)).length,ba (.call o fn ts),.int (n:Int),.none]]
 else .tuple [.tuple ((AQ (bN fs j [bO (bz o ts g) pre z f]) n).map aq),.tuple [.tuple (.int ((j:Int) - 1)::(pre++[z]).map nI),.int (ak (bz o ts g)).length,ba (.call o fn ts),.int (n:Int),aq g]]
structure At (ws:List Str) (cs:CS) (fs:List Fd) (j n:Nat) (f g:Fd) (pre:List Nat) (z:Nat) (c:RL) (o:Option Str) (fn:Str) (ts:List Tm):Prop where
 w7:ws.length<=7
 h8:fs.length<=8
 all:∀ f∈fs,okF ws cs f
 hj:fs[j]?=some f
 hp:Pth f.rs pre c
 hz:(lst c)[z]?=some (.call o fn ts)
 hn:fs[n]?=some g
 num:n=(kE fs).idxOf fn
 mem:fn∈kE fs
 nm:g.nm=fn
 hl:ts.length=g.ps.length
 h4:ts.length<=4
 ok:∀ t∈ts,o9 ws t
theorem At.of (h:At ws cs fs j n f g pre z c o fn ts):okF ws cs f:=h.all f (NI h.hj)
theorem At.og (h:At ws cs fs j n f g pre z c o fn ts):okF ws cs g:=h.all g (NI h.hn)
theorem At.pl (h:At ws cs fs j n f g pre z c o fn ts):(bb j pre z).length<=11:=by show (pre++[z]).length+1<=11;rw [ND];exact NS (iv (jY h.hp) h.of.h9) 2
theorem mt (h:At ws cs fs j n f g pre z c o fn ts):nL (bz o ts g)<=605/\hL (bz o ts g)<=9:=by
 have k1:∀ k,hR (kA ts g.ps k)=0/\nR (kA ts g.ps k)=1:=λk=>by
   unfold kA;cases ts[k]? with
   | none=>exact ⟨rfl,rfl⟩
   | some t=>cases g.ps[k]? <;> exact ⟨rfl,rfl⟩
 have l1:∀ r∈nf o g.t,hR r=0/\nR r=1:=λr hr=>by
   cases o with
   | none=>cases hr
   | some y=>
     cases q:(bZ g.t).eqv (bZ (.name y)) with
     | true=>rw [j6 q] at hr; cases hr
     | false=>rw [j7 q] at hr; rw [NL.mp hr]; exact ⟨rfl,rfl⟩
 have l2:(nf o g.t).length<=1:=by
   cases o with
   | none=>exact N3 _
   | some y=>
     cases q:(bZ g.t).eqv (bZ (.name y)) with
     | true=>rw [j6 q]; exact N3 _
     | false=>rw [j7 q]; exact Of _
 have s1:∀ l:List Rw,(∀ r∈l,nR r=1)->(l.map nR).sum=l.length:=λl=>by
   induction l with
   | nil=>exact λ_=>rfl
   | cons r l ih=>exact λh=>by rw [Ol,Q2,h r (NE ..),ih λx hx=>h x (NA _ hx),Oj]; rfl
 refine ⟨?_,pV _ λr hr=>?_⟩
 . unfold bz;rw [mu,NP,NP,PJ,PJ,<- lG,s1 _ λr hr=>(l1 r hr).2,s1 _ λr hr=>by obtain ⟨k,_,rfl⟩:=Ok.mp hr; exact (k1 k).2,Ng];have:=iv (fj ts g.ps) h.h4;have:=h.og.n4;omega
 . rcases NR.mp hr with hr | hr
   . rcases NR.mp hr with hr | hr
     . obtain ⟨k,_,rfl⟩:=Ok.mp hr;rw [(k1 k).1]; exact N3 _
     . exact iv (bW r hr) h.og.h9
   . rw [(l1 r hr).1]; exact N3 _
theorem At.after (h:At ws cs fs j n f g pre z c o fn ts):∀ q∈bN fs j [bO (bz o ts g) pre z f],hL q.rs<=18/\nL q.rs<=9000:=λq hq=>by
 obtain ⟨n1,n2⟩:=mt h;rcases gc hq with hq | hq
 . exact ⟨iv (h.all q hq).h9 (by decide),iv (h.all q hq).n4 (by decide)⟩
 . obtain ⟨_,w2,w3⟩:=oG (ws:=ws) (cs:=cs) (news:=bz o ts g) z h.hz h.hp;rw [NL.mp hq];exact ⟨iv w2 (Ob h.of.h9 n2),iv (iv (NZ _ _) (OH w3)) (iv (Ob h.of.n4 n1) (by decide))⟩
theorem oZ {l:List α} (x:α) (hk:k < l.length):(bN l k [x]).length=l.length:=by unfold bN;rw [ND,ND,Pz,O7,Pj (OU hk)];exact Qr hk
theorem At.len (h:At ws cs fs j n f g pre z c o fn ts) (x:Fd):(bN fs j [x]).length<=8:=iv (OH (oZ x (NK.mp h.hj).1)) h.h8
theorem zu (h:l.length<=8) (k:Nat) (σ:ac):dD .add false (.d (.tuple (l.take k))) (.d (.tuple (l.drop (k+1)))) σ=.ok (.d (.tuple (l.take k++l.drop (k+1)))) σ:=gQ (iv (uf l k) (iv h (by decide))) σ
set_option maxHeartbeats 4000000 in
theorem DK (h:At ws cs fs j n f g pre z c o fn ts) (d:Nat) (σ:ac):(X2 λa b=>Cl j n f g pre z o ts a b/\ae prog (d+23) 24 [.d (.tuple (fs.map aq)),.d (pD (bb j pre z))] σ=.ok (.exc 6 [pD a,pD b]) σ)\/((∀ a b,¬ Cl j n f g pre z o ts a b)/\ae prog (d+23) 24 [.d (.tuple (fs.map aq)),.d (pD (bb j pre z))] σ=.ok (.d (Ag fs j n f g pre z o fn ts)) σ):=by
 have R:=a5 prog 24 (d+22) [.d (.tuple (fs.map aq)),.d (pD (bb j pre z))] σ rfl;have e1:=jO h.hj h.hp h.hz (d+19) σ;have e2:=qy h.mem (d+21) σ;rw [<- h.num] at e2;have e3:=bG h.hn σ;obtain ⟨v1,t1,q1⟩:=nV (o:=o) (fn:=fn) (iv h.pl (by decide)) h.hl h.h4 h.ok (d+17) σ;rcases q1 with ⟨rfl,no1⟩ | ⟨k,i,a1,a2,a3,a4,rfl⟩
 . obtain ⟨v2,t2,q2⟩:=nX h.w7 h.hn h.og (bb j pre z) (d+5) σ;rcases q2 with ⟨rfl,no2⟩ | ⟨q,hq,hb,rfl⟩
   . obtain ⟨v3,t3,q3⟩:=AY h.w7 h.hj h.of h.hp h.hz h.hn h.og h.hl h.h4 (d+4) σ;rcases q3 with ⟨rfl,no3⟩ | ⟨q,x,r,b1,b2,b3,rfl⟩
     . refine .inr ⟨λa b q=>?_,?_⟩
       . rcases q with ⟨k,i,a1,a2,a3,a4,_,_⟩ | ⟨q,_,⟨x,_,hx⟩,_,_⟩ | ⟨x,r,b1,_⟩
         . exact no1 k a1 i a2 a3 a4
         . rw [no2 x] at hx; cases hx
         . exact no3 a x b1
       . have e4:=rA (o:=o) (fn:=fn) h.hl h.h4 h.og.n4 (d+20) σ;obtain ⟨n1,_⟩:=mt h;have e5:=(mD (news:=bz o ts g) (iv n1 (by decide)) h.hj h.h8 h.hp (iv h.of.n4 (by decide)) h.of.h9 (z:=z) (d+11) σ).1;have e6:=qA h.after fn d σ;unfold Ag;cases hc:dw fn (bN fs j [bO (bz o ts g) pre z f]) with
         | true=>rw [hc] at e6;exact (R 16 e1 e2 e3 t1 t2 t3 e4 e5 e6 (same σ))
         | false=>
           rw [hc] at e6;have l8:((bN fs j [bO (bz o ts g) pre z f]).map aq).length<=8:=by rw [Ng]; exact h.len _
           have e7:(AQ (bN fs j [bO (bz o ts g) pre z f]) n).map aq=((bN fs j [bO (bz o ts g) pre z f]).map aq).take n++((bN fs j [bO (bz o ts g) pre z f]).map aq).drop (n+1):=by unfold AQ; rw [NP,QD,Qm]
           have e8:dD .add false (.d (.tuple [.int ((j:Int) - 1)])) (.d (pD (pre++[z]))) σ=.ok (.d (.tuple (.int ((j:Int) - 1)::(pre++[z]).map nI))) σ:=gQ (by rw [Ng]; exact iv (Oe (iv (PI _) h.pl) 1) (by decide)) σ;rw [e7];exact (R 1810448 e1 e2 e3 t1 t2 t3 e4 e5 e6 ((fA ..)) ((dQ ..)) (zu l8 n σ) (dI ..) ((gT ..)) e8 (same σ))
     . exact .inl ⟨q,r.1,.inr (.inr ⟨x,r,b1,b2,b3,rfl⟩),(R 16 e1 e2 e3 t1 t2 t3 (same σ))⟩
   . exact .inl ⟨q.1,bb j pre z,.inr (.inl ⟨q,hq,hb,rfl,rfl⟩),(R 16 e1 e2 e3 t1 t2 (same σ))⟩
 . exact .inl ⟨_,_,.inl ⟨k,i,a1,a2,a3,a4,rfl,rfl⟩,(R 16 e1 e2 e3 t1 (same σ))⟩
set_option maxHeartbeats 1000000 in
theorem ul (h:At ws cs fs j n f g pre z c o fn ts) (d:Nat) (σ:ac):ae prog (d+22) 53 [.d (.tuple (fs.map aq)),.d (pD (bb j pre z)),.d (ba (.call o fn ts))] σ=.ok (.d (Ag fs j n f g pre z o fn ts)) σ:=by
 have e1:=gM h.mem (d+20) σ;rw [<- h.num] at e1;have e2:=bG h.hn σ;have cm:=rP (cf:=ae prog (d+21)) (ρ:=(F9 (.d (.tuple (fs.map aq))) (.d (pD (bb j pre z))) (.d (ba (.call o fn ts))) (.d (.int (n:Int))) (.d (aq g)) .un .un .un .un)) (σ:=σ) (i:=8) (a:=4) (b:=2) (e:=.call 49 (.cons (.var 2) (.cons (.var 4) .nil))) (o:=o) (fn:=fn) h.hl (ay rfl (sG h.hl h.h4 (d+20) σ)) (λ_ _=>rfl) (λ_ _=>rfl) (λ_ _=>rfl);obtain ⟨a1,a2⟩:=vg (g:=g) h.h4 h.og.n4 σ;obtain ⟨n1,_⟩:=mt h;have e5:=(mD (news:=bz o ts g) (iv n1 (by decide)) h.hj h.h8 h.hp (iv h.of.n4 (by decide)) h.of.h9 (z:=z) (d+10) σ).2;have e6:=lj (h.len (bO (bz o ts g) pre z f)) h.after fn d σ;rw [<- h.nm] at e6;have R:=a5 prog 53 (d+21) [.d (.tuple (fs.map aq)),.d (pD (bb j pre z)),.d (ba (.call o fn ts))] σ rfl;have l8:((bN fs j [bO (bz o ts g) pre z f]).map aq).length<=8:=by rw [Ng]; exact h.len _
 have e7:(AQ (bN fs j [bO (bz o ts g) pre z f]) n).map aq=((bN fs j [bO (bz o ts g) pre z f]).map aq).take n++((bN fs j [bO (bz o ts g) pre z f]).map aq).drop (n+1):=by unfold AQ; rw [NP,QD,Qm]
 have e8:dD .add false (.d (.tuple [.int ((j:Int) - 1)])) (.d (pD (pre++[z]))) σ=.ok (.d (.tuple (.int ((j:Int) - 1)::(pre++[z]).map nI))) σ:=gQ (by rw [Ng]; exact iv (Oe (iv (PI _) h.pl) 1) (by decide)) σ;have ca:=zu l8 n σ;clear l8;unfold Ag;rw [e7];clear e7;generalize hA:(bN fs j [bO (bz o ts g) pre z f])=A at e5 e6 ca ⊢;clear hA;rw [rK] at e5 ⊢;cases hc:dw g.nm A with
 | true=>
   rw [hc] at e6;rw [h.nm] at hc;rw [hc];cases o with
   | none=>have e9:nf none g.t=[]:=rfl;rw [e9,OV,NX] at e5 ⊢;exact (R 18 e1 e2 cm a1 e5 e6 (same σ))
   | some y=>
     have ne:=lF g.t y σ;cases hq:(bZ g.t).eqv (bZ (.name y)) with
     | true=>rw [hq] at ne;rw [j6 hq,OV,NX] at e5 ⊢;exact (R 2066 e1 e2 cm a1 ne e5 e6 (same σ))
     | false=>rw [hq] at ne;rw [j7 hq] at e5 ⊢;exact (R 34834 e1 e2 cm a1 ne (a2 _) e5 e6 (same σ))
 | false=>
   rw [hc] at e6;rw [h.nm] at hc;rw [hc];cases o with
   | none=>have e9:nf none g.t=[]:=rfl;rw [e9,OV,NX] at e5 ⊢;exact (R 905234 e1 e2 cm a1 e5 e6 (dI ..) ((gT ..)) e8 ((fA ..)) ((dQ ..)) ca (same σ))
   | some y=>
     have ne:=lF g.t y σ;cases hq:(bZ g.t).eqv (bZ (.name y)) with
     | true=>rw [hq] at ne;rw [j6 hq,OV,NX] at e5 ⊢;exact (R 7243794 e1 e2 cm a1 ne e5 e6 (dI ..) ((gT ..)) e8 ((fA ..)) ((dQ ..)) ca (same σ))
     | false=>rw [hq] at ne;rw [j7 hq] at e5 ⊢;exact (R 57968658 e1 e2 cm a1 ne (a2 _) e5 e6 (dI ..) ((gT ..)) e8 ((fA ..)) ((dQ ..)) ca (same σ))
noncomputable def Kg (ts:List Tm) (ps:List Str) (k i:Nat):Bool:=match ps[k]?,ts[i]? with
 | some p,some t=>decide (p∈cc t)
 | _,_=>false
theorem yw (ts:List Tm) (ps:List Str) (k i:Nat):Kg ts ps k i=true↔TC ts ps k i:=by
 unfold Kg TC;cases ps[k]? with
 | none=>exact ⟨λq=>(by cases q),λ⟨_,_,q,_,_⟩=>by cases q⟩
 | some p=>cases ts[i]? with
   | none=>exact ⟨λq=>(by cases q),λ⟨_,_,_,q,_⟩=>by cases q⟩
   | some t=>exact ⟨λq=>⟨p,t,rfl,rfl,of_decide_eq_true q⟩,λ⟨_,_,q1,q2,q3⟩=>by cases q1; cases q2; exact decide_eq_true q3⟩
noncomputable def vE (q:List Nat×Option Str):PyData:=.tuple [pD q.1,u7 q.2]
theorem IQ (o:Option Str) (x:Str) (σ:ac):br .ne (.d (.str x)) (.d (u7 o)) σ=some (!decide (o=some x)):=by
 cases o with
 | none=>rw [decide_eq_false (λh=>by cases h)]; rfl
 | some y=>show br .ne (.d (.str x)) (.d (.str y)) σ=_;rw [Lz];exact congrArg (λb=>some (!b)) (decide_eq_decide.mpr ⟨λe=>congrArg some e.symm,λe=>(Option.some.inj e).symm⟩)
theorem p6 (b:α->Bool):∀ l:List α,(!(l.filter b).isEmpty)=l.any b
 | []=>rfl
 | x::l=>by
   rw [QH,Pw];cases b x with
   | true=>rfl
   | false=>exact p6 b l
noncomputable def FP (fs:List Fd) (pl:List Nat) (o:Option Str) (fn:Str) (ts:List Tm) (n:Nat) (g:Fd) (b:Nat) (v7 v8 v9 v10 v11 v12 v13:V):Fm:=(Nz (.d (.tuple (fs.map aq))) (.d (pD pl)) (.d (ba (.call o fn ts))) (.d (.int (n:Int))) (.d (aq g)) (.d (.list ((cZ ts g.ps).map nI))) (.loc b) v7 v8 v9 v10 v11 v12 v13 .un .un .un .un)
noncomputable def G8 (ts:List Tm) (g:Fd) (pl:List Nat) (k i:Nat):List (List Nat×List Nat):=bif Kg ts g.ps k i then [(pl++[k],pl++[i])] else []
theorem kr (b:Bool) (x:α):(bif b then [x] else []).length<=1:=by
 cases b with
 | true=>exact Of _
 | false=>exact N3 _
theorem Iw (h:At ws cs fs j n f g pre z c o fn ts) (d:Nat) (σ:ac) (v9 v10 v11 v12 v13:V):X2 λv7' v8'=>exec prog.G (ae prog (d+20)) (.forr (.var 7) (.seq (.var 5)) gX) (FP fs (bb j pre z) o fn ts n g σ.length .un .un v9 v10 v11 v12 v13) (σ++[.lst (([]:List (List Nat×List Nat)).map fS)])=.ok (.next (FP fs (bb j pre z) o fn ts n g σ.length v7' v8' v9 v10 v11 v12 v13)) (σ++[.lst (((cZ ts g.ps).flatMap λk=>(List.range' (k+1) (ts.length - (k+1))).flatMap (G8 ts g (bb j pre z) k)).map fS)]):=by
 have inner:=λk (hk:k∈cZ ts g.ps) (v8:V) (L:List (List Nat×List Nat)) (hL:L.length+4<=900000)=>gm (f:=aB prog.G (ae prog (d+20)) (.var 8) gY) nI fS (λρ=>∃ v8,ρ=FP fs (bb j pre z) o fn ts n g σ.length (.d (nI k)) v8 v9 v10 v11 v12 v13) (G8 ts g (bb j pre z) k) 1 σ (List.range' (k+1) (ts.length - (k+1))) (FP fs (bb j pre z) o fn ts n g σ.length (.d (nI k)) v8 v9 v10 v11 v12 v13) L (λi hi=>⟨kr _ _,by
   rintro _ L ⟨v8,rfl⟩ hL
   obtain ⟨hki,hin⟩:=gd.mp hi;have hp:g.ps[k]?=some (g.ps[k]'(h.hl ▸ QM hki hin)):=NC _;have ht:ts[i]?=some ts[i]:=NC hin;generalize g.ps[k]'(h.hl ▸ QM hki hin)=p at hp;have okt:=h.ok ts[i] (Pq _);generalize ts[i]=t at ht okt;have e:Kg ts g.ps k i=decide (p∈cc t):=by unfold Kg; rw [hp,ht]
   have R:=dA prog.G (ae prog (d+20)) gY (FP fs (bb j pre z) o fn ts n g σ.length (.d (nI k)) (.d (nI i)) v9 v10 v11 v12 v13) (σ++[Cell.lst (L.map fS)]);have ins:=fO (cc t) p (σ++[Cell.lst (L.map fS)]);refine ⟨_,⟨.d (nI i),rfl⟩,aJ ?_⟩;unfold G8;rw [e];by_cases q:p∈cc t
   . rw [decide_eq_true q,cond_true,NP];exact (R 250 (iW hp _) (mx ht _) (kq okt (d+17) _) ins (dT q) (rD (iv h.pl (by decide)) k _) (rD (iv h.pl (by decide)) i _) (mG (by rw [Ng]; exact OJ hL) _))
   . rw [decide_eq_false q,cond_false,NX];exact (R 58 (iW hp _) (mx ht _) (kq okt (d+17) _) ins (dF q))⟩) ⟨v8,rfl⟩ (iv (Oe (by rw [Q0,Qt]; exact iv (Q4 ..) h.h4) _) hL)
 refine kk λK k=>?_;obtain ⟨_,⟨v7',v8',rfl⟩,e⟩:=gm (f:=aB prog.G (ae prog (d+20)) (.var 7) gX) nI fS (λρ=>X2 λv7 v8=>ρ=FP fs (bb j pre z) o fn ts n g σ.length v7 v8 v9 v10 v11 v12 v13) (λk=>(List.range' (k+1) (ts.length - (k+1))).flatMap (G8 ts g (bb j pre z) k)) 4 σ (cZ ts g.ps) (FP fs (bb j pre z) o fn ts n g σ.length .un .un v9 v10 v11 v12 v13) [] (λk hk=>⟨by
   have:∀ l:List Nat,(l.flatMap (G8 ts g (bb j pre z) k)).length<=l.length:=λl=>by
     induction l with
     | nil=>exact Of _
     | cons i l ih=>rw [Pg,ND,NU,Oj]; exact Ob ih (kr _ _)
   exact iv (this _) (by rw [Qt]; exact iv (Q4 ..) h.h4),by
   rintro _ L ⟨v7,v8,rfl⟩ hL
   obtain ⟨_,⟨v8',rfl⟩,e⟩:=inner k hk v8 L hL;have it:=pT (G:=prog.G) (cf:=ae prog (d+20)) (e:=.bin .add false (.var 7) (.int 1)) (e':=.bi .len false (.cons (.idx (.var 2) (.int 3)) .nil)) (ρ:=FP fs (bb j pre z) o fn ts n g σ.length (.d (nI k)) v8 v9 v10 v11 v12 v13) (σ:=σ++[Cell.lst (L.map fS)]) (a:=(k:Int)+1) (b:=((ts.map bZ).length:Int)) rfl rfl (by rw [Ng]; exact yG (j8 hk) h.h4);rw [Ng,o4] at it;exact ⟨_,⟨.d (nI k),v8',rfl⟩,aJ (aA (aK it e) rfl)⟩⟩) ⟨.un,.un,rfl⟩ (by rw [OY,Pe]; exact iv (ON 4 (iv (fj ..) h.h4)) (by decide))
 rw [P3] at e;refine k ?_;exact ⟨v7',v8',aK (a8 rfl rfl) e⟩
noncomputable def JV (g:Fd) (pl:List Nat) (q:List Nat×List Str):List (List Nat×List Nat):=bif q.2.any (gN g) then [(q.1,pl)] else []
theorem Iu (h:At ws cs fs j n f g pre z c o fn ts) (d:Nat) (σ:ac) (v7 v8 v11 v12 v13:V) (L0:List (List Nat×List Nat)) (h0:L0.length<=1000):X2 λv9' v10'=>exec prog.G (ae prog (d+20)) (.forr (.tup [9,10]) (.seq (.call 47 (.cons (.var 0) (.cons (.var 3) .nil)))) eR) (FP fs (bb j pre z) o fn ts n g σ.length v7 v8 .un .un v11 v12 v13) (σ++[.lst (L0.map fS)])=.ok (.next (FP fs (bb j pre z) o fn ts n g σ.length v7 v8 v9' v10' v11 v12 v13)) (σ++[.lst ((L0++(c9 n g).flatMap (JV g (bb j pre z))).map fS)]):=by
 refine kk λK k=>?_;obtain ⟨_,⟨v9',v10',rfl⟩,e⟩:=gm (f:=aB prog.G (ae prog (d+20)) (.tup [9,10]) eR) Ih fS (λρ=>X2 λv9 v10=>ρ=FP fs (bb j pre z) o fn ts n g σ.length v7 v8 v9 v10 v11 v12 v13) (JV g (bb j pre z)) 1 σ (c9 n g) (FP fs (bb j pre z) o fn ts n g σ.length v7 v8 .un .un v11 v12 v13) L0 (λq hq=>⟨kr _ _,by
   rintro _ L ⟨v9,v10,rfl⟩ hL
   have cm:=fy (G:=prog.G) (cf:=ae prog (d+20)) (i:=14) (it:=.seq (.var 10)) (c:=.call 50 (.cons (.var 4) (.cons (.var 14) .nil))) (e:=.var 14) (ρ:=FP fs (bb j pre z) o fn ts n g σ.length v7 v8 (.d (pD q.1)) (.d (.list (q.2.map .str))) v11 v12 v13) (σ:=σ++[Cell.lst (L.map fS)]) (aa:=σ++[Cell.lst (L.map fS)]) (base:=q.2.map .str) PyData.str PyData.str (gN g) (ps:=q.2) (a8 rfl rfl) (λx _=>ay rfl (sH h.og x (d+5) _)) λx _ _=>rfl;have nn:=on ((q.2.filter (gN g)).map PyData.str) (σ++[Cell.lst (L.map fS)]);rw [Qh,p6] at nn;have R:=dA prog.G (ae prog (d+20)) eR (FP fs (bb j pre z) o fn ts n g σ.length v7 v8 (.d (pD q.1)) (.d (.list (q.2.map .str))) v11 v12 v13) (σ++[Cell.lst (L.map fS)]);refine ⟨_,⟨.d (pD q.1),.d (.list (q.2.map .str)),rfl⟩,ek rfl ?_⟩;unfold JV;cases hb:q.2.any (gN g) with
   | true=>rw [hb] at nn;rw [cond_true,NP];exact (R 1 cm nn (mG (by rw [Ng]; exact OJ hL) _))
   | false=>rw [hb] at nn;rw [cond_false,NX];exact (R 1 cm nn)⟩) ⟨.un,.un,rfl⟩ (iv (Ob h0 (by rw [Q0]; exact tA h.og n)) (by decide))
 refine k ?_;exact ⟨v9',v10',aK (a8 (ay rfl (jb h.hn h.og (d+8) _)) rfl) e⟩
noncomputable def G7 (o:Option Str) (f:Fd) (j:Nat) (pre:List Nat) (z:Nat) (q:List Nat×Option Str):List (List Nat×List Nat):=match q.2 with
 | some x=>bif !decide (o=some x)&&tN x f.rs pre z (decide (x∈cc f.t)) then (c9 j f).flatMap λr=>bif nM x r then [(q.1,r.1)] else [] else []
 | none=>[]
theorem p3 {β:Type} (p:α->Bool) (φ:α->β):∀ l:List α,(l.flatMap λr=>bif p r then [φ r] else []).length<=l.length
 | []=>Of _
 | r::l=>by rw [Pg,ND,NU,Oj];exact Ob (p3 p φ l) (kr _ _)
set_option maxHeartbeats 1000000 in
theorem Ir (h:At ws cs fs j n f g pre z c o fn ts) (d:Nat) (σ:ac) (v7 v8 v9 v10:V) (L0:List (List Nat×List Nat)) (h0:L0.length<=2000):∃ ρ',exec prog.G (ae prog (d+20)) (.forr (.tup [9,12]) (.seq (.var 11)) eQ) (FP fs (bb j pre z) o fn ts n g σ.length v7 v8 v9 v10 (.d (.list ((q9 (bb j pre z) n ts g).map vE))) .un .un) (σ++[.lst (L0.map fS)])=.ok (.next ρ') (σ++[.lst ((L0++(q9 (bb j pre z) n ts g).flatMap (G7 o f j pre z)).map fS)])/\ρ'[6]?=some (.loc σ.length):=by
 have inner:=λ(q:List Nat) (x:Str) (v10 v13:V) (L:List (List Nat×List Nat)) (hL:L.length+601<=900000)=>gm (f:=aB prog.G (ae prog (d+20)) (.tup [13,10]) gW) Ih fS (λρ=>X2 λv10 v13=>ρ=FP fs (bb j pre z) o fn ts n g σ.length v7 v8 (.d (pD q)) v10 (.d (.list ((q9 (bb j pre z) n ts g).map vE))) (.d (.str x)) v13) (λr=>bif nM x r then [(q,r.1)] else []) 1 σ (c9 j f) (FP fs (bb j pre z) o fn ts n g σ.length v7 v8 (.d (pD q)) v10 (.d (.list ((q9 (bb j pre z) n ts g).map vE))) (.d (.str x)) v13) L (λr hr=>⟨kr _ _,by
   rintro _ L ⟨v10,v13,rfl⟩ hL
   have R:=dA prog.G (ae prog (d+20)) gW (FP fs (bb j pre z) o fn ts n g σ.length v7 v8 (.d (pD q)) (.d (.list (r.2.map .str))) (.d (.list ((q9 (bb j pre z) n ts g).map vE))) (.d (.str x)) (.d (pD r.1))) (σ++[Cell.lst (L.map fS)]);have ins:=fO r.2 x (σ++[Cell.lst (L.map fS)]);refine ⟨_,⟨.d (.list (r.2.map .str)),.d (pD r.1),rfl⟩,ek rfl ?_⟩;unfold nM;by_cases q:x∈r.2
   . rw [decide_eq_true q,cond_true,NP];exact (R 3 ins (dT q) (mG (by rw [Ng]; exact OJ hL) _))
   . rw [decide_eq_false q,cond_false,NX];exact (R 3 ins (dF q))⟩) ⟨v10,v13,rfl⟩ (iv (Oe (by rw [Q0]; exact tA h.of j) _) hL)
 obtain ⟨_,⟨v9',v10',v12',v13',rfl⟩,e⟩:=gm (f:=aB prog.G (ae prog (d+20)) (.tup [9,12]) eQ) vE fS (λρ=>X4 λv9 v10 v12 v13=>ρ=FP fs (bb j pre z) o fn ts n g σ.length v7 v8 v9 v10 (.d (.list ((q9 (bb j pre z) n ts g).map vE))) v12 v13) (G7 o f j pre z) 601 σ (q9 (bb j pre z) n ts g) (FP fs (bb j pre z) o fn ts n g σ.length v7 v8 v9 v10 (.d (.list ((q9 (bb j pre z) n ts g).map vE))) .un .un) L0 (λq hq=>⟨by
   unfold G7;cases q.2 with
   | none=>exact N3 _
   | some x=>
     show List.length (bif _ then _ else _)<=_;cases !decide (o=some x)&&tN x f.rs pre z (decide (x∈cc f.t)) with
     | true=>exact iv (p3 _ _ _) (tA h.of j)
     | false=>exact N3 _,by
   rintro _ L ⟨v9,v10,v12,v13,rfl⟩ hL
   obtain ⟨q,y⟩:=q;have R:=dA prog.G (ae prog (d+20)) eQ (FP fs (bb j pre z) o fn ts n g σ.length v7 v8 (.d (pD q)) v10 (.d (.list ((q9 (bb j pre z) n ts g).map vE))) (.d (u7 y)) v13) (σ++[Cell.lst (L.map fS)]);cases y with
   | none=>refine ⟨_,⟨.d (pD q),v10,.d .none,v13,rfl⟩,ek rfl ?_⟩;show _=Res.ok _ (σ++[.lst ((L++[]).map fS)]);rw [NX];exact (R 0)
   | some x=>
     have ne:=IQ o x (σ++[Cell.lst (L.map fS)]);have nd:=uk (z:=z) h.hj h.of h.hp x (d+5) (σ++[Cell.lst (L.map fS)]);by_cases ho:o=some x
     . rw [decide_eq_true ho] at ne;have e0:G7 o f j pre z (q,some x)=[]:=by show (bif !decide (o=some x)&&_ then _ else _)=_; rw [decide_eq_true ho]; rfl
       rw [e0,NX];exact ⟨_,⟨.d (pD q),v10,.d (.str x),v13,rfl⟩,ek rfl ((R 16 ne))⟩
     . rw [decide_eq_false ho] at ne;cases hl:tN x f.rs pre z (decide (x∈cc f.t)) with
       | false=>
         rw [hl] at nd;have e0:G7 o f j pre z (q,some x)=[]:=by show (bif !decide (o=some x)&&_ then _ else _)=_; rw [hl,QY]; rfl
         rw [e0,NX];exact ⟨_,⟨.d (pD q),v10,.d (.str x),v13,rfl⟩,ek rfl ((R 16 ne nd))⟩
       | true=>
         rw [hl] at nd;have e0:G7 o f j pre z (q,some x)=(c9 j f).flatMap λr=>bif nM x r then [(q,r.1)] else []:=by show (bif !decide (o=some x)&&_ then _ else _)=_; rw [hl,decide_eq_false ho]; rfl
         rw [e0];refine kk λK k=>?_;obtain ⟨_,⟨v10',v13',rfl⟩,e⟩:=inner q x v10 v13 L hL;refine k ?_;have it:=a8 (G:=prog.G) (cf:=ae prog (d+20)) (e:=.call 47 (.cons (.var 0) (.cons (.idx (.var 1) (.int 0)) .nil))) (ρ:=FP fs (bb j pre z) o fn ts n g σ.length v7 v8 (.d (pD q)) v10 (.d (.list ((q9 (bb j pre z) n ts g).map vE))) (.d (.str x)) v13) (ay (de rfl (iz (bw rfl rfl (dI ..)))) (jb h.hj h.of (d+8) (σ++[Cell.lst (L.map fS)]))) rfl;exact ⟨_,⟨.d (pD q),v10',.d (.str x),v13',rfl⟩,ek rfl ((R 16 ne nd (aK it e)))⟩⟩) ⟨v9,v10,.un,.un,rfl⟩ (by
   have:(q9 (bb j pre z) n ts g).length<=604:=by unfold q9;rw [ND,Ng,Ng,cW];exact Ob (iv (fj ..) h.h4) h.og.n4
   exact iv (Ob h0 (ON 601 this)) (by decide))
 exact ⟨_,aK (a8 rfl rfl) e,rfl⟩
theorem j4 {b:Bool} {x y:α}:y∈(bif b then [x] else [])↔b=true/\y=x:=by
 cases b with
 | true=>exact ⟨λq=>⟨rfl,NL.mp q⟩,λq=>NL.mpr q.2⟩
 | false=>exact ⟨λq=>(by cases q),λq=>by cases q.1⟩
theorem An (h:At ws cs fs j n f g pre z c o fn ts) (a b:List Nat):(a,b)∈((cZ ts g.ps).flatMap λk=>(List.range' (k+1) (ts.length - (k+1))).flatMap (G8 ts g (bb j pre z) k))++(c9 n g).flatMap (JV g (bb j pre z))++(q9 (bb j pre z) n ts g).flatMap (G7 o f j pre z)↔Cl j n f g pre z o ts a b:=by
 rw [NR,NR,or_assoc];refine or_congr ?_ (or_congr ?_ ?_)
 . rw [O8];constructor
   . rintro ⟨k,hk,q⟩
     obtain ⟨i,hi,q⟩:=O8.mp q;obtain ⟨q1,q2⟩:=j4.mp q;obtain ⟨h1,h2⟩:=gd.mp hi;cases q2;exact ⟨k,i,hk,h1,h2,(yw ..).mp q1,rfl,rfl⟩
   . rintro ⟨k,i,hk,h1,h2,q,rfl,rfl⟩
     exact ⟨k,hk,O8.mpr ⟨i,gd.mpr ⟨h1,h2⟩,j4.mpr ⟨(yw ..).mpr q,rfl⟩⟩⟩
 . rw [O8];constructor
   . rintro ⟨q,hq,m⟩
     obtain ⟨q1,q2⟩:=j4.mp m;cases q2;exact ⟨q,hq,Qf.mp q1,rfl,rfl⟩
   . rintro ⟨q,hq,hb,rfl,rfl⟩
     exact ⟨q,hq,j4.mpr ⟨Qf.mpr hb,rfl⟩⟩
 . rw [O8];constructor
   . rintro ⟨⟨q,y⟩,hq,m⟩
     cases y with
     | none=>cases m
     | some x=>
       have m:(a,b)∈(bif !decide (o=some x)&&tN x f.rs pre z (decide (x∈cc f.t)) then (c9 j f).flatMap (λr=>bif nM x r then [(q,r.1)] else []) else []):=m;cases hc:!decide (o=some x)&&tN x f.rs pre z (decide (x∈cc f.t)) with
       | false=>rw [hc] at m; cases m
       | true=>rw [hc] at m;obtain ⟨r,hr,m⟩:=O8.mp m;obtain ⟨q1,q2⟩:=j4.mp m;clear m;cases q2;have hc:=NH.mp hc;exact ⟨x,r,⟨hq,of_decide_eq_false (Oo _ ▸ hc.1),hc.2⟩,hr,of_decide_eq_true q1,rfl⟩
   . rintro ⟨x,r,⟨hq,ho,hl⟩,hr,hx,rfl⟩
     refine ⟨(a,some x),hq,?_⟩;show (a,r.1)∈(bif !decide (o=some x)&&tN x f.rs pre z (decide (x∈cc f.t)) then (c9 j f).flatMap (λr=>bif nM x r then [(a,r.1)] else []) else []);rw [decide_eq_false ho,hl];exact O8.mpr ⟨r,hr,j4.mpr ⟨decide_eq_true hx,rfl⟩⟩
theorem ya (h:At ws cs fs j n f g pre z c o fn ts) (d:Nat) (σ:ac):∃ Ls:List (List Nat×List Nat),(∀ a b,(a,b)∈Ls↔Cl j n f g pre z o ts a b)/\ae prog (d+21) 51 [.d (.tuple (fs.map aq)),.d (pD (bb j pre z)),.d (ba (.call o fn ts))] σ=.ok (.d (.list (Ls.map fS))) σ:=by
 have e1:=gM h.mem (d+19) σ;rw [<- h.num] at e1;have e2:=bG h.hn σ;have e3:=sG (o:=o) (fn:=fn) h.hl h.h4 (d+19) σ;obtain ⟨v7,v8,l1⟩:=Iw h d σ .un .un .un .un .un;have len1:((cZ ts g.ps).flatMap λk=>(List.range' (k+1) (ts.length - (k+1))).flatMap (G8 ts g (bb j pre z) k)).length<=16:=by
   have fl:∀ (l:List Nat) (φ:Nat->List (List Nat×List Nat)) (w:Nat),(∀ x∈l,(φ x).length<=w)->(l.flatMap φ).length<=l.length * w:=λl φ w=>by
     induction l with
     | nil=>exact λ_=>N3 _
     | cons x l ih=>exact λhw=>by rw [Pg,ND,NU,Qd,Oj]; exact Ob (ih λy hy=>hw y (NA _ hy)) (hw x (NE ..))
   exact iv (fl _ _ 4 λk _=>iv (fl _ _ 1 λi _=>kr _ _) (by rw [Q0,Qt]; exact iv (Q4 ..) h.h4)) (ON 4 (iv (fj ..) h.h4))
 have mem:=An h;generalize ((cZ ts g.ps).flatMap λk=>(List.range' (k+1) (ts.length - (k+1))).flatMap (G8 ts g (bb j pre z) k))=L1 at l1 len1 mem;obtain ⟨v9,v10,l2⟩:=Iu h d σ v7 v8 .un .un .un L1 (iv len1 (by decide));have len2:(L1++(c9 n g).flatMap (JV g (bb j pre z))).length<=2000:=by rw [ND];exact iv (Ob len1 (iv (p3 _ _ _) (tA h.og n))) (by decide)
 generalize (L1++(c9 n g).flatMap (JV g (bb j pre z)))=L2 at l2 len2 mem;have c1:=uH (G:=prog.G) (cf:=ae prog (d+20)) (i:=15) (it:=.seq (.var 5)) (e:=.tup (.cons (.bin .add false (.var 1) (.tup (.cons (.var 15) .nil))) (.cons (.idx (.idx (.var 4) (.int 1)) (.var 15)) .nil))) (ρ:=FP fs (bb j pre z) o fn ts n g σ.length v7 v8 v9 v10 .un .un .un) (σ:=σ++[Cell.lst (L2.map fS)]) (aa:=σ++[Cell.lst (L2.map fS)]) (base:=(cZ ts g.ps).map nI) nI (λk=>vE (Eo (bb j pre z) g k)) (ps:=cZ ts g.ps) (a8 rfl rfl) λk hk=>by
   obtain ⟨t,p,h1,h2,h3⟩:=j9 h.hl (j8 hk);have e:Eo (bb j pre z) g k=(bb j pre z++[k],some p):=by unfold Eo; rw [h2]
   rw [e];exact rG (de (fX rfl rfl (rD (iv h.pl (by decide)) k _)) (iz (bw rfl rfl (iW h2 _)))) rfl
 have ep:=dL 9 g.rs [n] (d+9) h.og.h9 (iv h.og.n4 (by decide)) (N5 10 90) (σ++[Cell.lst (L2.map fS)]);have c2:=λ(v11:V)=>mc (G:=prog.G) (cf:=ae prog (d+20)) (m:=false) (t:=.tup [16,17]) (it:=.seq (.call 41 (.cons (.tup (.cons (.var 3) .nil)) (.cons (.idx (.var 4) (.int 2)) .nil)))) (c:=.no) (e:=.tup (.cons (.var 16) (.cons (.call 39 (.cons (.var 17) .nil)) .nil))) (ρ:=FP fs (bb j pre z) o fn ts n g σ.length v7 v8 v9 v10 v11 .un .un) (σ:=σ++[Cell.lst (L2.map fS)]) (aa:=σ++[Cell.lst (L2.map fS)]) (a8 (ay rfl ep) rfl) (ja aG (λp=>some (vE (K9 p))) (fT [n] 0 g.rs) λp _=>DQ rfl (rG (de rfl (iz (ay rfl (nA p.2 (d+19) _)))) rfl));have c2:=c2 (.d (.list ((cZ ts g.ps).map λk=>vE (Eo (bb j pre z) g k))));rw [P4] at c2;have eg:(q9 (bb j pre z) n ts g).map vE=(cZ ts g.ps).map (λk=>vE (Eo (bb j pre z) g k))++(fT [n] 0 g.rs).map (λp=>vE (K9 p)):=by unfold q9; rw [NP,Oq,Oq]; rfl
 have ad:=iB (a:=(cZ ts g.ps).map λk=>vE (Eo (bb j pre z) g k)) (b:=(fT [n] 0 g.rs).map λp=>vE (K9 p)) (by rw [Ng,Ng,cW]; exact iv (Ob (iv (fj ..) h.h4) h.og.n4) (by decide)) (σ++[Cell.lst (L2.map fS)]);rw [<- eg] at ad;obtain ⟨ρ',l3,h6⟩:=Ir h d σ v7 v8 v9 v10 L2 len2;refine ⟨_,mem,?_⟩;generalize L2++(q9 (bb j pre z) n ts g).flatMap (G7 o f j pre z)=L3 at l3;have fz:ag prog.G (ae prog (d+20)) (.freeze (.var 6)) ρ' (σ++[.lst (L3.map fS)])=.ok (.d (.list (L3.map fS))) (σ++[.gone]):=by refine J9 (x:=.loc σ.length) ?_ (ke _ _);rw [DA,h6]; rfl
 have l0:execs prog.G (ae prog (d+20)) (tl (tl (tl (tl nB)))) (FP fs (bb j pre z) o fn ts n g σ.length .un .un .un .un .un .un .un) (σ++[.lst (([]:List (List Nat×List Nat)).map fS)])=.ok (.ret (.d (.list (L3.map fS)))) (σ++[.gone]):=aA l1 (aA l2 (aA (cO c1) (aA (cO (fX rfl c2 ad)) (aA l3 (jw (GM fz))))));exact DM (fn:=nu) (d:=d+20) rfl rfl (aA (cO (ay rfl e1)) (aA (cO (bw rfl rfl e2)) (aA (cO (ay rfl e3)) (aA (cO rfl) l0)))) (b7 ..)
noncomputable def AL (d:Nat) (x y:PyData) (b:Bool):Prop:=∀ σ,ae prog d 57 [.d x,.d y] σ=.ok (.d (.bool b)) σ
theorem D1 (s:Str) (d:Nat):AL (d+1) (.str s) (.str s) true:=λσ=>by
 have e:br .eq (.d (.str s)) (.d (.str s)) σ=some true:=by rw [DP,decide_eq_true rfl]
 exact (a5 prog 57 d [.d (.str s),.d (.str s)] σ rfl 256 e (same σ))
theorem D2 (i k:Int) (d:Nat):AL (d+1) (.int i) (.int k) (decide (i=k)):=λσ=>(a5 prog 57 d [.d (.int i),.d (.int k)] σ rfl 0 (same σ))
theorem Gx (d:Nat):AL (d+1) .none .none true:=λσ=>(a5 prog 57 d [.d .none,.d .none] σ rfl 0 (same σ))
theorem yl {xs ys:List PyData} (hx:ys.length<=9000) (H:∀ (k:Nat) x y,xs[k]?=some x->ys[k]?=some y->∃ b,AL d x y b):∃ b,AL (d+1) (.tuple xs) (.tuple ys) b/\(xs.length=ys.length->(∀ (k:Nat) x y,xs[k]?=some x->ys[k]?=some y->AL d x y true)->b=true):=by
 by_cases hl:xs.length=ys.length
 . obtain ⟨g,hg⟩:∃ g:Nat->Bool,∀ k,k < ys.length->∀ x y,xs[k]?=some x->ys[k]?=some y->AL d x y (g k):=by
     have:=ES true (p:=λk=>k < ys.length) (Q:=λk b=>∀ x y,xs[k]?=some x->ys[k]?=some y->AL d x y b) λk hk=>by obtain ⟨b,hb⟩:=H k xs[k] ys[k] (NC (hl ▸ hk)) (NC hk);exact ⟨b,λx y h1 h2=>by rw [NC (hl ▸ hk)] at h1;rw [NC hk] at h2;cases h1; cases h2; exact hb⟩
     exact this
   refine ⟨((List.range ys.length).filter λk=>!g k).isEmpty,λσ=>?_,λ_ h=>?_⟩
   . have hI:=d0 (G:=prog.G) (cf:=ae prog d) (ρ:=[.d (.tuple xs),.d (.tuple ys),.un]) (σ:=σ) (aa:=σ) (e:=.bi .len false (.cons (.var 1) (.nil))) (b:=(ys.length:Int)) rfl (jv hx);rw [cn] at hI;have cm:=fy (i:=2) (c:=.not (.call 57 (.cons (.idx (.var 0) (.var 2)) (.cons (.idx (.var 1) (.var 2)) (.nil))))) (e:=.var 2) (λ(k:Nat)=>PyData.int (k:Int)) nI (λk=>!g k) hI (λk hk=>by have hk:=O4.mp hk;have e1:xs[k]?=some (xs[k]'(hl ▸ hk)):=NC _;have e2:ys[k]?=some ys[k]:=NC hk;exact HE (ay (de (bw rfl rfl (by rw [b9,e1]; rfl)) (iz (bw rfl rfl (by rw [b9,e2]; rfl)))) (hg k hk _ _ e1 e2 _))) (λk hk q=>rfl)
     have ne:(((xs.length:Nat):Int)=((ys.length:Nat):Int)):=congrArg _ hl;have e3:=(a5 prog 57 d [.d (.tuple xs),.d (.tuple ys)] σ rfl 256 (nF (decide_eq_true ne)) cm (same σ))
     rw [e3];show Res.ok (V.d (.bool (!(!(((List.range ys.length).filter λk=>!g k).map nI).isEmpty)))) σ=_;rw [Bool.not_not,Qh]
   . rw [PA,QI];intro k hk q;have hk:=O4.mp hk;have e1:xs[k]?=some (xs[k]'(hl ▸ hk)):=NC _;have e2:ys[k]?=some ys[k]:=NC hk;have a:=h k _ _ e1 e2 [];rw [hg k hk _ _ e1 e2 []] at a;injection a with a;injection a with a;injection a with a;rw [a] at q; cases q
 . exact ⟨false,λσ=>(a5 prog 57 d [.d (.tuple xs),.d (.tuple ys)] σ rfl 256 (nT (decide_eq_false λq=>hl (PL.mp q))) (same σ)),λh=>(hl h).elim⟩
noncomputable def SA (n:Nat) (x:PyData):Prop:=∀ d,AL (d+n+1) x x true
variable {x:PyData}
theorem SA.up {m:Nat} (h:SA n x) (hm:n<=m):SA m x:=λd=>by obtain ⟨e,rfl⟩:=mU hm;rw [<- On]; exact h (d+e)
theorem cN (n:Nat) (s:Str):SA n (.str s):=λd=>D1 s (d+n)
theorem iH (n:Nat) (i:Int):SA n (.int i):=λd=>by have:=D2 i i (d+n);rw [decide_eq_true rfl] at this;exact this
theorem yD (n:Nat):SA n .none:=λd=>Gx (d+n)
theorem fB (hl:l.length<=9000) (h:∀ y∈l,SA n y):SA (n+1) (.tuple l):=λd=>by
 have q:∀ (k:Nat) x y,l[k]?=some x->l[k]?=some y->AL (d+n+1) x y true:=λk x y h1 h2=>by rw [h1] at h2; cases h2;exact h x (NI h1) d
 obtain ⟨b,h1,h2⟩:=yl hl λk x y a b=>⟨true,q k x y a b⟩;rw [h2 rfl q] at h1;exact h1
theorem gw (hx:SA n x) (h:∀ y∈l,SA n y):∀ y∈x::l,SA n y:=λy hy=>(NN.mp hy).elim (λe=>e ▸ hx) (h y)
theorem wU:∀ y∈([]:List PyData),SA n y:=λy hy=>by cases hy
theorem BN {a b:PyData} (ha:SA n a) (hb:SA n b):SA (n+1) (.tuple [a,b]):=fB (N8 rfl) (gw ha (gw hb wU))
theorem BM {a b c:PyData} (ha:SA n a) (hb:SA n b) (hc:SA n c):SA (n+1) (.tuple [a,b,c]):=fB (N8 rfl) (gw ha (gw hb (gw hc wU)))
theorem Kj {a b c d:PyData} (ha:SA n a) (hb:SA n b) (hc:SA n c) (hd:SA n d):SA (n+1) (.tuple [a,b,c,d]):=fB (N8 rfl) (gw ha (gw hb (gw hc (gw hd wU))))
theorem oW (φ:α->PyData) {l:List α} (hl:l.length<=9000) (h:∀ a∈l,SA n (φ a)):SA (n+1) (.tuple (l.map φ)):=fB (by rw [Ng]; exact hl) λy hy=>by obtain ⟨a,ha,rfl⟩:=Ok.mp hy;exact h a ha
theorem HO:∀ t:Tm,SA (ht t+1) (bZ t)
 | .num i=>BN (cN _ _) (iH _ _)
 | .name x=>BN (cN _ _) (cN _ _)
 | .op k a b=>BM (cN _ _) ((HO a).up (N7 (P2 ..))) ((HO b).up (N7 (PT ..)))
theorem uT (h:o9 ws t):SA 3 (bZ t):=(HO t).up (N7 h.2)
theorem L7 (n:Nat) (o:Option Str):SA n (u7 o):=by
 cases o with
 | none=>exact yD n
 | some x=>exact cN n x
theorem Jn (n:Nat) {m:Nat} (h:m<=5):m<=n+5:=iv h (N5 5 n)
mutual
theorem Ki:∀ r:Rw,lr ws cs r->nR r<=9000->SA (2 * hR r+5) (ba r)
 | .set x t=>@λh _=>(BM (cN 3 _) (cN 3 _) (uT h.2)).up (Jn _ (by decide))
 | .tell t=>@λh _=>(BN (cN 3 _) (uT h)).up (Jn _ (by decide))
 | .whn t b=>@λh n=>BM (cN _ _) ((uT h.1).up (iv (by decide) (N5 6 _))) (fB (iv (iO b) (O3 n)) (EU b h.2 (O3 n)))
 | .aga k b=>@λh n=>BM (cN _ _) (iH _ _) (fB (iv (iO b) (O3 n)) (EU b h (O3 n)))
 | .call o f ts=>@λh _=>(Kj (cN 4 _) (L7 _ _) (cN _ _) (oW bZ (iv h.2.2.1 (by decide)) λt ht=>uT (h.2.1 t ht))).up (Jn _ (by decide))
theorem EU:∀ b:RL,gA ws cs b->nL b<=9000->∀ y∈ak b,SA (2 * hL b+5) y
 | .nil=>@λ_ _ y hy=>by cases hy
 | .cons r b=>@λh n y hy=>by
   rcases NN.mp hy with rfl | hy
   . exact (Ki r h.1 (iv (NZ ..) n)).up (NS (OR 2 (P2 ..)) 5)
   . exact (EU b h.2 (iv (N5 ..) n) y hy).up (NS (OR 2 (PT ..)) 5)
end
theorem HR (h1:f.ps.length<=4) (h2:gA ws cs f.rs) (h3:hL f.rs<=18) (h4:nL f.rs<=9000) (h5:o9 ws f.t):SA 43 (aq f):=
 Kj (cN _ _) ((oW (n:=0) PyData.str (iv h1 (by decide)) λx _=>cN _ _).up (by decide)) ((fB (iv (iO f.rs) h4) (EU f.rs h2 h4)).up (N7 (NS (OR 2 h3) 5))) ((uT h5).up (by decide))
theorem BL (p:List Nat) (h:p.length<=9000):SA 1 (pD p):=oW nI h λk _=>iH _ _
theorem I2 (d:Nat) (σ:ac):ae prog (d+1) 56 [.exc 1 []] σ=.ok (.d (.str cj)) σ:=cR (fn:=iX) rfl rfl rfl
theorem I1 (d:Nat) (σ:ac):ae prog (d+1) 56 [.exc 4 []] σ=.ok (.d (.str bC)) σ:=cR (fn:=iX) rfl rfl rfl
theorem I0 (x y:PyData) (d:Nat) (σ:ac):ae prog (d+1) 56 [.exc 6 [x,y]] σ=.ok (.d (.str cE)) σ:=cR (fn:=iX) rfl rfl rfl
variable {a:Bool}
theorem xE {f:Nat} (h:cf f [.exc k ds] σ=.ok (.d x) σ) (hk:a=true->k=6):oo cf (.tup i f a) k ds σ=.ok (.ret (.d (.tuple (x::if a then ds else [])))) σ:=by show ((cf f [.exc k ds] σ).bind λv aa=>oc (bx v) (λx=>if a=true->k=6 then Res.ok (Out.ret (.d (.tuple (x::if a then ds else [])))) aa else .bad) .bad)=_;rw [h];exact if_pos hk
section
variable {P Q:PyData}
theorem EM (h:ae prog d 24 [.d P,.d Q] σ=.ok (.d x) σ):ae prog (d+1) 58 [.d P,.d Q] σ=.ok (.d (.list [x])) σ:=
 cR (fn:=gp) rfl rfl (jw (HT (jw (oj rfl h rfl))))
theorem HJ (h:ae prog (d+1) 24 [.d P,.d Q] σ=.ok (.exc 1 []) σ):ae prog (d+2) 58 [.d P,.d Q] σ=.ok (.d (.tuple [.str cj])) σ:=
 cR (fn:=gp) rfl rfl (jw (wV (B2 (oj rfl h rfl)) (xE (i:=2) (a:=false) (I2 d σ) (λq=>by cases q))))
theorem HI (h:ae prog (d+1) 24 [.d P,.d Q] σ=.ok (.exc 4 []) σ):ae prog (d+2) 58 [.d P,.d Q] σ=.ok (.d (.tuple [.str bC])) σ:=
 cR (fn:=gp) rfl rfl (jw (wV (B2 (oj rfl h rfl)) (xE (i:=2) (a:=false) (I1 d σ) (λq=>by cases q))))
theorem HH (h:ae prog (d+1) 24 [.d P,.d Q] σ=.ok (.exc 6 [x,y]) σ):ae prog (d+2) 58 [.d P,.d Q] σ=.ok (.d (.tuple [.str cE,x,y])) σ:=
 cR (fn:=gp) rfl rfl (jw (wV (B2 (oj rfl h rfl)) (xE (i:=2) (a:=true) (I0 x y d σ) (λ_=>rfl))))
end
noncomputable def xc:Nat->List Fd->List (List Nat×Rw)
 | _,[]=>[]
 | k,f::fs=>fT [k] 0 f.rs++xc (k+1) fs
noncomputable def kR:Rw->Bool
 | .call _ _ _=>true
 | _=>false
theorem vt {a w m:Nat} (h:a+(n+1) * w<=m) {b:Nat} (hb:b<=w):a+b<=m/\(a+b)+n * w<=m:=by rw [Qd,Oj _ w,<- On] at h;exact ⟨iv (Oe hb _) (OJ h),iv (NS (Oe hb _) _) h⟩
theorem DZ (d:Nat) (fs0:List Fd) (σ:ac):∀ (fs:List Fd) (k:Nat) (L:List PyData) (v2:V),fs0.drop k=fs->(∀ f∈fs,hL f.rs<=9/\nL f.rs<=600)->L.length+fs.length * 600<=9000->
   ∃ v2',aZ (aB prog.G (ae prog (d+11)) (.var 2) jG) ((List.range' k fs.length).map λ(k:Nat)=>PyData.int (k:Int)) [.d (.tuple (fs0.map aq)),.d (.list L),v2] σ=.ok (.next [.d (.tuple (fs0.map aq)),.d (.list (L++(xc k fs).map aG)),v2']) σ:=by
 intro xs_
 induction xs_ with
 | nil=>intro k L v2 _ _ _; exact ⟨v2,by rw [show xc k []=[] from rfl,OV,NX]; rfl⟩
 | cons f fs ih_=>intro k L v2 hd hf hl;obtain ⟨f9,f4⟩:=hf f (NE ..);obtain ⟨hk,hd'⟩:=ft hd;obtain ⟨h1,h2⟩:=vt hl f4;obtain ⟨v2',ih⟩:=ih_ (k+1) (L++(fT [k] 0 f.rs).map aG) (.d (.int (k:Int))) hd' (λx hx=>hf x (NA _ hx)) (by rw [ND,Ng,cW]; exact h2);rw [N2,<- NP] at ih;exact ⟨v2',aQ (aJ ((dA prog.G (ae prog (d+11)) jG [.d (.tuple (fs0.map aq)),.d (.list L),.d (.int (k:Int))] σ 5 (bG hk σ) (dL 9 f.rs [k] d f9 (iv f4 (by decide)) (N5 10 90) σ) (iB (by rw [Ng,cW]; exact iv h1 (by decide)) σ)))) ih⟩
theorem DO (hf:∀ f∈fs,hL f.rs<=9/\nL f.rs<=600) (h8:fs.length<=8) (d:Nat) (σ:ac):ae prog (d+12) 44 [.d (.tuple (fs.map aq))] σ=.ok (.d (.list ((xc 0 fs).map aG))) σ:=by obtain ⟨v2',lp⟩:=DZ d fs σ fs 0 [] .un rfl hf (by rw [OY,Pe]; exact iv (ON 600 h8) (by decide));have hl:(fs.map aq).length=fs.length:=Ng _;rw [P3,<- OZ,<- cn,<- hl] at lp;exact (a5 prog 44 (d+11) [.d (.tuple (fs.map aq))] σ rfl 0 (aK (d0 rfl (jv (by rw [hl]; exact iv h8 (by decide)))) lp) (same σ))
theorem x8 (d:Nat) (fs0:List Fd) (σ:ac):∀ (fs:List Fd) (k:Nat) (L:List PyData) (v2 v3:V),fs0.drop k=fs->(∀ f∈fs,hL f.rs<=9/\nL f.rs<=600)->L.length+fs.length * 600<=9000->
   X2 λv2' v3'=>aZ (aB prog.G (ae prog (d+11)) (.var 2) gZ) ((List.range' k fs.length).map λ(k:Nat)=>PyData.int (k:Int)) (F5 (.d (.tuple (fs0.map aq))) (.d (.list L)) v2 v3 .un) σ=.ok (.next (F5 (.d (.tuple (fs0.map aq))) (.d (.list (L++((xc k fs).filter λp=>kR p.2).map aG))) v2' v3' .un)) σ:=by
 intro xs_
 induction xs_ with
 | nil=>intro k L v2 v3 _ _ _; exact ⟨v2,v3,by rw [show xc k []=[] from rfl,List.filter_nil,OV,NX]; rfl⟩
 | cons f fs ih_=>
   intro k L v2 v3 hd hf hl;obtain ⟨f9,f4⟩:=hf f (NE ..);obtain ⟨hk,hd'⟩:=ft hd;have lf:((fT [k] 0 f.rs).filter λp=>kR p.2).length<=600:=iv (Ot ..) (by rw [cW]; exact f4);obtain ⟨h1,h2⟩:=vt hl lf;obtain ⟨v2',v3',ih⟩:=ih_ (k+1) (L++((fT [k] 0 f.rs).filter λp=>kR p.2).map aG) (.d (.int (k:Int))) (.d (.list ((fT [k] 0 f.rs).map aG))) hd' (λx hx=>hf x (NA _ hx)) (by rw [ND,Ng]; exact h2);rw [N2,<- NP,<- List.filter_append] at ih;have c:=fy (G:=prog.G) (cf:=ae prog (d+11)) (i:=4) (it:=.seq (.var 3)) (c:=.cmp .eq (.idx (.idx (.var 4) (.int 1)) (.int 0)) (.str bC)) (e:=.var 4) (ρ:=(F5 (.d (.tuple (fs0.map aq))) (.d (.list L)) (.d (.int (k:Int))) (.d (.list ((fT [k] 0 f.rs).map aG))) .un)) (σ:=σ) (aa:=σ) (base:=(fT [k] 0 f.rs).map aG) aG aG (λp=>kR p.2) (ps:=fT [k] 0 f.rs) (a8 rfl rfl) (λp _=>by obtain ⟨q,r⟩:=p;cases r <;> rfl) λp _ _=>rfl
   exact ⟨v2',v3',aQ (aJ ((dA prog.G (ae prog (d+11)) gZ (F5 (.d (.tuple (fs0.map aq))) (.d (.list L)) (.d (.int (k:Int))) v3 .un) σ 5 (bG hk σ) (dL 9 f.rs [k] d f9 (iv f4 (by decide)) (N5 10 90) σ) c (iB (by rw [Ng]; exact iv h1 (by decide)) σ)))) ih⟩
theorem yg (hf:∀ f∈fs,hL f.rs<=9/\nL f.rs<=600) (h8:fs.length<=8) (d:Nat) (σ:ac):ae prog (d+12) 54 [.d (.tuple (fs.map aq))] σ=.ok (.d (.list (((xc 0 fs).filter λp=>kR p.2).map aG))) σ:=by obtain ⟨v2',v3',lp⟩:=x8 d fs σ fs 0 [] .un .un rfl hf (by rw [OY,Pe]; exact iv (ON 600 h8) (by decide));have hl:(fs.map aq).length=fs.length:=Ng _;rw [P3,<- OZ,<- cn,<- hl] at lp;exact (a5 prog 54 (d+11) [.d (.tuple (fs.map aq))] σ rfl 0 (aK (d0 rfl (jv (by rw [hl]; exact iv h8 (by decide)))) lp) (same σ))
theorem Iq:∀ (fs:List Fd) (k:Nat) (p:List Nat×Rw),p∈xc k fs->X2 λj f=>fs[j]?=some f/\p∈fT [k+j] 0 f.rs:=by
 intro xs_
 induction xs_ with
 | nil=>intro k p h; cases h
 | cons f fs ih_=>
   intro k p h;rcases NR.mp h with h | h
   . exact ⟨0,f,rfl,h⟩
   . obtain ⟨j,g,hj,hp⟩:=ih_ (k+1) p h;exact ⟨j+1,g,hj,by rw [On,Oj 1] at hp; exact hp⟩
variable {p:List Nat×Rw}
theorem B9 (h:p∈xc 0 fs):X5 λj f pre z c=>A4 (fs[j]?=some f) (p.1=bb j pre z) (Pth f.rs pre c) ((lst c)[z]?=some p.2):=by refine kk λK k=>?_;obtain ⟨j,f,hj,hp⟩:=Iq fs 0 p h;rw [Pe] at hp;obtain ⟨pre,z,c,e,h1,h2⟩:=f8 _ f.rs f.rs 0 rfl p hp;refine k ?_;exact ⟨j,f,pre,z,c,hj,e,h1,h2⟩
structure Wd (ws W D:List Str):Prop where
 mem:∀ x,x∈W↔x∈D
 nd:D.Nodup
 inw:∀ x∈D,x∈ws
 len:W.length<=16 * D.length
theorem Fh (h:lr ws cs r):(own r).length<=16:=by
 have fl:∀ l:List Tm,(∀ t∈l,o9 ws t)->(l.flatMap cc).length<=l.length * 4:=λl=>by
   induction l with
   | nil=>exact λ_=>N3 _
   | cons t l ih=>exact λhw=>by rw [Pg,ND,NU,Qd,Oj]; exact Ob (ih λy hy=>hw y (NA _ hy)) (lC (hw t (NE ..)))
 exact iv (fl _ (jq h).1) (ON 4 (jq h).2)
theorem Wd.step {W D:List Str} (h:Wd ws W D) (N:List Str) (hN:∀ x∈N,x∈ws) (h16:N.length<=16):∃ D',Wd ws (W++N.filter λx=>!decide (x∈W)) D':=by
 have hm:∀ x,x∈(N.filter λx=>!decide (x∈W))->x∈N/\x∉D:=λx hx=>by obtain ⟨h1,h2⟩:=Ov.mp hx;exact ⟨h1,λq=>by rw [decide_eq_true ((h.mem x).mpr q)] at h2; cases h2⟩
 have hl:(N.filter λx=>!decide (x∈W)).length<=16:=iv (Ot ..) h16;generalize (N.filter λx=>!decide (x∈W))=M at hm hl;cases M with
 | nil=>exact ⟨D,by rw [NX]; exact h⟩
 | cons a M=>
   refine ⟨D++cH (a::M),λx=>?_,Pf.mpr ⟨h.nd,ch _,λx hx y hy e=>(hm y ((bj y _).mp hy)).2 (e ▸ hx)⟩,λx hx=>?_,?_⟩
   . rw [NR,NR,h.mem x,bj]
   . exact (NR.mp hx).elim (h.inw x) λq=>hN x (hm x ((bj x _).mp q)).1
   . rw [ND,ND,Nat.mul_add];have:1<=(cH (a::M)).length:=List.length_pos_of_mem ((bj a (a::M)).mpr (NE ..));exact Ob h.len (iv hl (OR 16 this))
theorem Km (of:okF ws cs f) (j:Nat):∀ q∈c9 j f,(∀ x∈q.2,x∈ws)/\q.2.length<=16:=λq hq=>by
 rcases io hq with hq | rfl
 . obtain ⟨p,hp,rfl⟩:=Ok.mp hq;have:=kX [j] 0 f.rs of.rs p hp;exact ⟨λx hx=>kY this hx,Fh this⟩
 . exact ⟨of.t.1,iv (lC of.t) (by decide)⟩
theorem wM (w7:ws.length<=7) (cf:Nat->List V->ac->Res V) (v0 v2:V) (σ:ac):∀ (qs:List (List Nat×List Str)) (W D:List Str) (v3 v4:V),Wd ws W D->(∀ q∈qs,(∀ x∈q.2,x∈ws)/\q.2.length<=16)->X4 λW' D' v3' v4'=>Wd ws W' D'/\aZ (aB prog.G cf (.tup [3,4]) dZ) (qs.map Ih) (F6 v0 (.d (.list (W.map .str))) v2 v3 v4 .un) σ=.ok (.next (F6 v0 (.d (.list (W'.map .str))) v2 v3' v4' .un)) σ:=by
 intro xs_
 induction xs_ with
 | nil=>intro W D v3 v4 h _; exact ⟨W,D,v3,v4,h,rfl⟩
 | cons q qs ih_=>
   intro W D v3 v4 h H;refine kk λK k=>?_;obtain ⟨h1,h2⟩:=H q (NE ..);obtain ⟨Ec,aX⟩:=h.step q.2 h1 h2;obtain ⟨W',D',v3',v4',h',ih⟩:=ih_ _ Ec (.d (pD q.1)) (.d (.list (q.2.map .str))) aX λx hx=>H x (NA _ hx);have c:=fy (G:=prog.G) (cf:=cf) (i:=5) (it:=.seq (.var 4)) (c:=.cmp .notIn (.var 5) (.var 1)) (e:=.var 5) (ρ:=(F6 v0 (.d (.list (W.map .str))) v2 (.d (pD q.1)) (.d (.list (q.2.map .str))) .un)) (σ:=σ) (aa:=σ) (base:=q.2.map .str) PyData.str PyData.str (λx=>!decide (x∈W)) (ps:=q.2) (a8 rfl rfl) (λx _=>cx rfl rfl (by rw [um,y6,oy]; rfl)) λx _ _=>rfl;have ad:=iB (a:=W.map .str) (b:=(q.2.filter λx=>!decide (x∈W)).map .str) (by rw [Ng,Ng];exact iv (Ob (iv h.len (OR 16 (iv (h.nd.length_le_of_subset h.inw) w7))) (iv (Ot ..) h2)) (by decide)) σ
   rw [<- NP] at ad;refine k ?_;exact ⟨W',D',v3',v4',h',aQ (ek rfl ((dA prog.G cf dZ (F6 v0 (.d (.list (W.map .str))) v2 (.d (pD q.1)) (.d (.list (q.2.map .str))) .un) σ 1 c ad))) ih⟩
theorem zP (w7:ws.length<=7) (d:Nat) (fs0:List Fd) (σ:ac):∀ (fs:List Fd) (k:Nat) (W D:List Str) (v2 v3 v4:V),fs0.drop k=fs->(∀ f∈fs,okF ws cs f)->Wd ws W D->X5 λW' D' v2' v3' v4'=>Wd ws W' D'/\aZ (aB prog.G (ae prog (d+12)) (.var 2) gF) ((List.range' k fs.length).map λ(k:Nat)=>PyData.int (k:Int)) (F6 (.d (.tuple (fs0.map aq))) (.d (.list (W.map .str))) v2 v3 v4 .un) σ=.ok (.next (F6 (.d (.tuple (fs0.map aq))) (.d (.list (W'.map .str))) v2' v3' v4' .un)) σ:=by
 intro xs_
 induction xs_ with
 | nil=>intro k W D v2 v3 v4 _ _ h; exact ⟨W,D,v2,v3,v4,h,rfl⟩
 | cons f fs ih_=>intro k W D v2 v3 v4 hd hf h;obtain ⟨hk,hd'⟩:=ft hd;have of:=hf f (NE ..);obtain ⟨MG,Ec,oK,lu,aX,e⟩:=wM w7 (ae prog (d+12)) (.d (.tuple (fs0.map aq))) (.d (.int (k:Int))) σ (c9 k f) W D v3 v4 h (Km of k);obtain ⟨W',D',v2',v3',v4',h',ih⟩:=ih_ (k+1) MG Ec (.d (.int (k:Int))) oK lu hd' (λx hx=>hf x (NA _ hx)) aX;exact ⟨W',D',v2',v3',v4',h',aQ (aJ (aA (aK (a8 (ay rfl (jb hk of d σ)) rfl) e) rfl)) ih⟩
theorem qu (w7:ws.length<=7) (h8:fs.length<=8) (hf:∀ f∈fs,okF ws cs f) (d:Nat) (σ:ac):∃ W:List Str,A3 ((∀ x∈W,x∈ws)) (W.length<=112) (ae prog (d+13) 60 [.d (.tuple (fs.map aq))] σ=.ok (.d (.list (W.map .str))) σ):=by refine kk λK k=>?_;obtain ⟨W,D,v2,v3,v4,h,lp⟩:=zP w7 d fs σ fs 0 [] [] .un .un .un rfl hf ⟨λx=>Iff.rfl,PN,(λx h=>by cases h),Of _⟩;have hl:(fs.map aq).length=fs.length:=Ng _;rw [<- OZ,<- cn,<- hl] at lp;refine k ?_;exact ⟨W,λx hx=>h.inw x ((h.mem x).mp hx),iv h.len (OR 16 (iv (h.nd.length_le_of_subset h.inw) w7)),(a5 prog 60 (d+12) [.d (.tuple (fs.map aq))] σ rfl 0 (aK (d0 rfl (jv (by rw [hl]; exact iv h8 (by decide)))) lp) (same σ))⟩
noncomputable def JR (ws:List Str) (fs:List Fd):Prop:=(ws.length<=7/\0 < fs.length/\fs.length<=8/\(kE fs).Nodup)/\∀ f∈fs,okF ws (fs.map nq) f
theorem yf (hw:ws.length<=7/\0 < fs.length/\fs.length<=8/\LS ws fs/\(kE fs).Nodup) (c:Int) (d:Nat) (σ:ac):∃ fs',JR ws fs'/\ae prog (d+16) 59 [.d (.tuple (fs.map aq)),.d (.int c)] σ=.ok (.d (.tuple (fs'.map aq))) σ:=by
 obtain ⟨w7,h0,h8,ok,nd⟩:=hw;have R:=a5 prog 59 (d+15) [.d (.tuple (fs.map aq)),.d (.int c)] σ rfl;have okq:JR ws fs:=⟨⟨w7,h0,h8,nd⟩,λf hf=>(ok f hf).1⟩
 by_cases h1:c % 2=0
 . exact ⟨fs,okq,(R 24 (dT h1) (dT h1) (same σ))⟩
 by_cases h2:((fs.map aq).length:Int) < 2
 . exact ⟨fs,okq,(R 72 (dF h1) (dT h2) (same σ))⟩
 obtain ⟨W,hW,lW,eW⟩:=qu w7 h8 okq.2 (d+2) σ;cases fs with
 | nil=>cases h0
 | cons f fs=>
   have of:=okq.2 f (NE ..);have c1:=fy (G:=prog.G) (cf:=ae prog (d+15)) (i:=8) (it:=.seq (.call 60 (.cons (.var 0) .nil))) (c:=.cmp .notIn (.var 8) (.var 3)) (e:=.var 8) (ρ:=(Es (.d (.tuple ((f::fs).map aq))) (.d (.int c)) (.d (.str f.nm)) (.d (.tuple (f.ps.map .str))) (.d (.tuple (ak f.rs))) (.d (bZ f.t)) .un .un .un .un)) (σ:=σ) (aa:=σ) (base:=W.map .str) PyData.str PyData.str (λx=>!decide (x∈f.ps)) (ps:=W) (a8 (ay rfl eW) rfl) (λx _=>cx rfl rfl (mr ..)) λx _ _=>rfl;have hV:∀ x∈W.filter (λx=>!decide (x∈f.ps)),x∈ws:=λx hx=>hW x (Ov.mp hx).1;have lV:(W.filter λx=>!decide (x∈f.ps)).length<=112:=iv (Ot ..) lW;generalize (W.filter λx=>!decide (x∈f.ps))=U at c1 hV lV;have c2:=fy (G:=prog.G) (cf:=ae prog (d+15)) (i:=9) (it:=.seq (.var 6)) (c:=.call 50 (.cons (.idx (.var 0) (.int 0)) (.cons (.var 9) .nil))) (e:=.tup (.cons (.str ie) (.cons (.var 9) (.cons (.tup (.cons (.str ju) (.cons (.bin .mod false (.bin .fdiv false (.var 1) (.int 2)) (.int 7)) .nil))) .nil)))) (ρ:=(Es (.d (.tuple ((f::fs).map aq))) (.d (.int c)) (.d (.str f.nm)) (.d (.tuple (f.ps.map .str))) (.d (.tuple (ak f.rs))) (.d (bZ f.t)) (.d (.list (U.map .str))) .un .un .un)) (σ:=σ) (aa:=σ) (base:=U.map .str) PyData.str (λx=>ba (.set x (.num (c / 2 % 7)))) (gN f) (ps:=U) (a8 rfl rfl) (λx _=>ay (de (bw rfl rfl (b9 (k:=0) ..)) rfl) (sH of x d _)) λx _ _=>rfl;have lA:(U.filter (gN f)).length<=112:=iv (Ot ..) lV;have hA:∀ x∈U.filter (gN f),x∈ws:=λx hx=>hV x (Ov.mp hx).1;generalize U.filter (gN f)=A at c2 lA hA;have n4:=(ok f (NE ..)).2;have len:(A.map λx=>ba (.set x (.num (c / 2 % 7)))).length+(ak f.rs).length<=512:=by rw [Ng]; exact Ob lA (iv (iO _) n4)
   have a1:=gQ (a:=A.map λx=>ba (.set x (.num (c / 2 % 7)))) (b:=ak f.rs) (iv len (by decide)) σ;have e1:ak (fL ((A.map λx=>Rw.set x (.num (c / 2 % 7)))++lst f.rs))=(A.map λx=>ba (.set x (.num (c / 2 % 7))))++ak f.rs:=by rw [jU,NP,Oq,<- eZ]; rfl
   have a2:=gQ (a:=[aq ⟨f.nm,f.ps,fL ((A.map λx=>Rw.set x (.num (c / 2 % 7)))++lst f.rs),f.t⟩]) (b:=fs.map aq) (by rw [Ng,Oj]; exact iv h8 (by decide)) σ;have sl:gU false (.d (.tuple ((f::fs).map aq))) (some (.d (.int 1))) none σ=.ok (.d (.tuple (fs.map aq))) σ:=dQ ((f::fs).map aq) 0 σ;have hd:(⟨f.nm,f.ps,fL ((A.map λx=>Rw.set x (.num (c / 2 % 7)))++lst f.rs),f.t⟩::fs:List Fd).map nq=(f::fs).map nq:=rfl;refine ⟨⟨f.nm,f.ps,fL ((A.map λx=>Rw.set x (.num (c / 2 % 7)))++lst f.rs),f.t⟩::fs,⟨⟨w7,h0,h8,nd⟩,?_⟩,?_⟩
   . rw [hd];intro g hg;rcases NN.mp hg with rfl | hg
     . refine ⟨of.ps,of.p4,k7 _ λr hr=>?_,pV _ λr hr=>?_,?_,of.t⟩
       . rcases NR.mp hr with hr | hr
         . obtain ⟨x,hx,rfl⟩:=Ok.mp hr;exact ⟨hA x hx,qM ..⟩
         . exact bJ of.rs r hr
       . rcases NR.mp hr with hr | hr
         . obtain ⟨x,hx,rfl⟩:=Ok.mp hr;exact N3 _
         . exact iv (bW r hr) of.h9
       . show nL (fL _)<=600;rw [mu,NP,PJ,<- lG];have:∀ l:List Str,((l.map λx=>Rw.set x (.num (c / 2 % 7))).map nR).sum=l.length:=λl=>by
           induction l with
           | nil=>rfl
           | cons x l ih=>rw [Ol,Ol,Q2,ih,NU,Oj]; rfl
         rw [this];exact iv (Ob lA n4) (by decide)
     . exact okq.2 g (NA _ hg)
   . rw [<- e1] at a1;exact (R 3784 (dF h1) (dF h2) (b9 (k:=0) ..) c1 c2 a1 sl a2 (same σ))
structure Row (ws:List Str) (fs:List Fd) (j:Nat) (f:Fd) (pre:List Nat) (z:Nat) (c:RL) (r:Rw):Prop where
 q:JR ws fs
 hj:fs[j]?=some f
 hp:Pth f.rs pre c
 hz:(lst c)[z]?=some r
theorem Im (h:Pth b pre c):gA ws cs b->gA ws cs c:=by
 induction h with
 | nil b=>exact id
 | @cons b c r k ks hk hb hp ih=>exact λo=>ih (g8 (bJ o r (NI hk)))
variable {ts':List Tm} {o':Option Str}
theorem Row.of (h:Row ws fs j f pre z c r):okF ws (fs.map nq) f:=h.q.2 f (NI h.hj)
theorem Row.ok (h:Row ws fs j f pre z c r):lr ws (fs.map nq) r:=bJ (Im h.hp h.of.rs) r (NI h.hz)
theorem Jx (h:JR ws fs) (hm:(fn,k)∈fs.map nq):∃ g,A4 (fs[(kE fs).idxOf fn]?=some g) (g.nm=fn) (g.ps.length=k) (fn∈kE fs):=by
 obtain ⟨g,hg,e⟩:=Ok.mp hm;obtain ⟨e1,e2⟩:=Prod.mk.inj e;have hf:fn∈kE fs:=e1 ▸ Px (f:=λf:Fd=>f.nm) hg;obtain ⟨i,hi⟩:=Qi hg;have hn:=QA.mpr hf;have h1:(kE fs)[i]?=some fn:=by unfold kE; rw [Om,hi,<- e1]; rfl
 have h2:(kE fs)[(kE fs).idxOf fn]?=some fn:=by rw [NC hn,List.getElem_idxOf]
 have e3:=(List.getElem?_inj hn h.1.2.2.2).mp (h2.trans h1.symm);exact ⟨g,by rw [e3]; exact hi,e1,e2,hf⟩
theorem Row.at (h:Row ws fs j f pre z c (.call o fn ts)):∃ g,At ws (fs.map nq) fs j ((kE fs).idxOf fn) f g pre z c o fn ts:=by have ok:=h.ok;obtain ⟨g,h1,h2,h3,h4⟩:=Jx h.q ok.2.2.2;exact ⟨g,h.q.1.1,h.q.1.2.2.1,h.q.2,h.hj,h.hp,h.hz,h1,rfl,h4,h2,h3.symm,ok.2.2.1,ok.2.1⟩
theorem Row.put (h:Row ws fs j f pre z c (.call o fn ts)) (ok:lr ws (fs.map nq) (.call o' fn ts')):∃ c',Row ws (bN fs j [bO (.cons (.call o' fn ts') .nil) pre z f]) j (bO (.cons (.call o' fn ts') .nil) pre z f) pre z c' (.call o' fn ts'):=by
 refine kk λK k=>?_;obtain ⟨c',h1,h2⟩:=B6 (r':=.call o' fn ts') z h.hz h.hp;have hlt:=(NK.mp h.hj).1;have same:∀ {β:Type} (φ:Fd->β),φ (bO (.cons (.call o' fn ts') .nil) pre z f)=φ f->(bN fs j [bO (.cons (.call o' fn ts') .nil) pre z f]).map φ=fs.map φ:=λφ e=>by
   rw [oY,Pr,e];unfold bN;have hk:j < (fs.map φ).length:=by rw [Ng]; exact hlt
   have e2:φ f=(fs.map φ)[j]:=by rw [List.getElem_map]; exact congrArg φ (NK.mp h.hj).2.symm
   rw [e2,N2,List.singleton_append,List.getElem_cons_drop hk,Qe]
 have eh:=same nq rfl;have en:kE (bN fs j [bO (.cons (.call o' fn ts') .nil) pre z f])=kE fs:=same (·.nm) rfl;obtain ⟨w1,w2,w3⟩:=oG (ws:=ws) (cs:=fs.map nq) (news:=.cons (.call o' fn ts') .nil) z h.hz h.hp;refine k ?_;refine ⟨c',⟨⟨⟨h.q.1.1,?_,?_,by rw [en]; exact h.q.1.2.2.2⟩,λq hq=>?_⟩,o0 hlt _,h1,h2⟩⟩
 . rw [oZ _ hlt]; exact h.q.1.2.1
 . rw [oZ _ hlt]; exact h.q.1.2.2.1
 . rw [eh];rcases gc hq with hq | hq
   . exact h.q.2 q hq
   . rw [NL.mp hq];exact ⟨h.of.ps,h.of.p4,w1 h.of.rs ⟨ok,trivial⟩,iv w2 h.of.h9,iv (OH (Nat.add_right_cancel w3)) h.of.n4,h.of.t⟩
theorem Hm (p q:List Nat) (hq:q.length<=9000) (d:Nat):∃ b,AL (d+2) (pD p) (pD q) b:=by
 obtain ⟨b,h,_⟩:=yl (d:=d+1) (xs:=p.map nI) (ys:=q.map nI) (by rw [Ng]; exact hq) λk x y h1 h2=>by
   rw [Om] at h1 h2;cases e1:p[k]? with
   | none=>rw [e1] at h1; cases h1
   | some a=>
     cases e2:q[k]? with
     | none=>rw [e2] at h2; cases h2
     | some a'=>rw [e1] at h1; rw [e2] at h2;cases h1; cases h2;exact ⟨_,D2 _ _ d⟩
 exact ⟨b,h⟩
theorem D3 (a b a' b':List Nat) (h1:a'.length<=9000) (h2:b'.length<=9000) (d:Nat):∃ q,AL (d+3) (.tuple [.str cE,pD a,pD b]) (.tuple [.str cE,pD a',pD b']) q:=by
 obtain ⟨q,h,_⟩:=yl (d:=d+2) (xs:=[.str cE,pD a,pD b]) (ys:=[.str cE,pD a',pD b']) (N8 rfl) λk x y e1 e2=>by
   match k,e1,e2 with
   | 0,e1,e2=>cases e1; cases e2; exact ⟨_,D1 _ (d+1)⟩
   | 1,e1,e2=>cases e1; cases e2; exact Hm a a' h1 d
   | 2,e1,e2=>cases e1; cases e2; exact Hm b b' h2 d
 exact ⟨q,h⟩
theorem B8 (h9:hL b<=9) (j:Nat) (h:p∈fT [j] 0 b):p.1.length<=11:=by obtain ⟨pre,z,c,e,h1,_⟩:=f8 _ b b 0 rfl p h;rw [e,ND,ND,Oj];exact NS (NS (iv (jY h1) h9) 1) 1
theorem GP (of:okF ws cs f) {q:List Nat×List Str} (h:q∈c9 j f):q.1.length<=11:=by
 rcases io h with h | rfl
 . obtain ⟨p,hp,rfl⟩:=Ok.mp h;exact B8 of.h9 j hp
 . exact N5 2 9
theorem Cl.len (h:At ws cs fs j n f g pre z c o fn ts) {a b:List Nat} (q:Cl j n f g pre z o ts a b):a.length<=12/\b.length<=12:=by
 have one:∀ k:Nat,(bb j pre z++[k]).length<=12:=λk=>by rw [ND]; exact N7 h.pl
 rcases q with ⟨k,i,_,_,_,_,rfl,rfl⟩ | ⟨q,hq,_,rfl,rfl⟩ | ⟨x,r,hl,hr,_,rfl⟩
 . exact ⟨one k,one i⟩
 . exact ⟨iv (GP h.og hq) (by decide),iv h.pl (by decide)⟩
 . refine ⟨?_,iv (GP h.of hr) (by decide)⟩;rcases NR.mp hl.1 with m | m
   . obtain ⟨k,_,e⟩:=Ok.mp m;have:a=bb j pre z++[k]:=(congrArg Prod.fst e).symm;rw [this]; exact one k
   . obtain ⟨p,hp,e⟩:=Ok.mp m;have:a=p.1:=(congrArg Prod.fst e).symm;rw [this]; exact iv (B8 h.og.h9 n hp) (by decide)
theorem Ft (h:At ws cs fs j n f g pre z c o fn ts) (ho:∀ x,o=some x->x∈ws):gA ws cs (bz o ts g):=k7 _ λr hr=>by
 rcases NR.mp hr with hr | hr
 . rcases NR.mp hr with hr | hr
   . obtain ⟨k,hk,rfl⟩:=Ok.mp hr;obtain ⟨t,p,h1,h2,h3⟩:=j9 h.hl (j8 hk);have e:kA ts g.ps k=.set p t:=by unfold kA; rw [h1,h2]
     rw [e];exact ⟨h.og.ps p (NI h2),h.ok t (NI h1)⟩
   . exact bJ h.og.rs r hr
 . cases o with
   | none=>cases hr
   | some y=>
     cases q:(bZ g.t).eqv (bZ (.name y)) with
     | true=>rw [j6 q] at hr; cases hr
     | false=>rw [j7 q] at hr;rw [NL.mp hr];exact ⟨ho y rfl,h.og.t⟩
theorem HP (h:At ws cs fs j n f g pre z c o fn ts) (ok:lr ws cs (.call o fn ts)):SA 45 (Ag fs j n f g pre z o fn ts):=by
 have A:∀ q∈bN fs j [bO (bz o ts g) pre z f],SA 43 (aq q):=λq hq=>by
   obtain ⟨a1,a2⟩:=h.after q hq;rcases gc hq with hq | hq
   . have:=h.all q hq;exact HR this.p4 this.rs a1 a2 this.t
   . rw [NL.mp hq] at a1 a2 ⊢;exact HR (f:=bO (bz o ts g) pre z f) h.of.p4 ((oG (news:=bz o ts g) z h.hz h.hp).1 h.of.rs (Ft h ok.1)) a1 a2 h.of.t
 have l8:=h.len (bO (bz o ts g) pre z f);have hr:SA 43 (ba (.call o fn ts)):=(Ki _ ok (N8 rfl)).up (N8 rfl);have hp:SA 43 (pD (bb j pre z)):=(BL _ (iv h.pl (by decide))).up (by decide);unfold Ag;generalize bN fs j [bO (bz o ts g) pre z f]=B at A l8;cases dw fn B with
 | true=>exact BN (oW aq (iv l8 (by decide)) A) (fB (N8 rfl) (gw hp (gw (iH _ _) (gw hr (gw (iH _ _) (gw (yD _) wU))))))
 | false=>
   refine BN (oW aq ?_ λq hq=>A q ((NR.mp hq).elim Oi O9)) (fB (N8 rfl) (gw ?_ (gw (iH _ _) (gw hr (gw (iH _ _) (gw ?_ wU))))))
   . unfold AQ;rw [ND]; exact iv (uf B _) (iv l8 (by decide))
   . exact (fB (n:=0) (by rw [NU,Ng]; exact iv h.pl (by decide)) (gw (iH _ _) λy hy=>by obtain ⟨k,_,rfl⟩:=Ok.mp hy; exact iH _ _)).up (by decide)
   . exact HR h.og.p4 h.og.rs (iv h.og.h9 (by decide)) (iv h.og.n4 (by decide)) h.og.t
noncomputable def gH:Nat->SL->SL
 | 0,b=>b
 | n+1,.cons _ b=>gH n b
 | _+1,.nil=>.nil
noncomputable def FL (l:List Int) (fs:List Fd) (v2 v3:V) (pl:List Nat) (r:Rw) (v6 v7 v8 v9 v10 v11:V):Fm:=(Nd (.d (.list (l.map .int))) (.d (.tuple (fs.map aq))) v2 v3 (.d (pD pl)) (.d (ba r)) v6 v7 v8 v9 v10 v11 .un)
theorem Il (h:Row ws fs j f pre z c r) (hc:kR r=false) (d:Nat) (σ:ac):ae prog (d+4) 24 [.d (.tuple (fs.map aq)),.d (pD (bb j pre z))] σ=.ok (.exc 4 []) σ:=by
 have e1:=jO h.hj h.hp h.hz d σ;have R:=a5 prog 24 (d+3) [.d (.tuple (fs.map aq)),.d (pD (bb j pre z))] σ rfl;cases r with
 | call _ _ _=>cases hc
 | set _ _=>exact (R 0 e1 (same σ))
 | tell _=>exact (R 0 e1 (same σ))
 | whn _ _=>exact (R 0 e1 (same σ))
 | aga _ _=>exact (R 0 e1 (same σ))
theorem tail (h:Row ws fs j f pre z c r) (l:List Int) (v2 v3 v6 v7:V):execs prog.G (ae prog 99) (gH 10 gP) (FL l fs v2 v3 (bb j pre z) r v6 v7 .un .un .un .un) []=.ok (.ret (.d (.bool true))) []:=by
 have R:=dA prog.G (ae prog 99) (gH 10 gP) (FL l fs v2 v3 (bb j pre z) r v6 v7 .un .un .un .un) [];cases hc:kR r with
 | false=>
   have t:=HI (Il h hc 94 []);have a:=fB (n:=0) (l:=[.str bC]) (N8 rfl) (gw (cN _ _) wU) 97 [];cases r with
   | call _ _ _=>cases hc
   | set _ _=>exact (R 0 t a)
   | tell _=>exact (R 0 t a)
   | whn _ _=>exact (R 0 t a)
   | aga _ _=>exact (R 0 t a)
 | true=>
   cases r with
   | call o fn ts=>
     obtain ⟨g,A⟩:=h.at;obtain ⟨Ls,hL,eL⟩:=ya A 78 [];have nn:=on (Ls.map fS) [];rw [Qh] at nn;rcases DK A 75 [] with ⟨a,b,hab,e⟩ | ⟨no,e⟩
     . have t:=HH e;have m:=(hL a b).mpr hab;have ne:Ls.isEmpty=false:=by
         cases Ls with
         | nil=>cases m
         | cons _ _=>rfl
       rw [ne] at nn;have lp:=ir (f:=aB prog.G (ae prog 99) (.tup [10,11]) tO) fS (λρ=>X2 λv10 v11=>ρ=FL l fs v2 v3 (bb j pre z) (.call o fn ts) v6 v7 (.d (.tuple [.str cE,pD a,pD b])) (.d (.list (Ls.map fS))) v10 v11) (λp=>AL 99 (.tuple [.str cE,pD a,pD b]) (.tuple [.str cE,pD p.1,pD p.2]) true) (λ_ v=>v=.d (.bool true)) [] Ls (FL l fs v2 v3 (bb j pre z) (.call o fn ts) v6 v7 (.d (.tuple [.str cE,pD a,pD b])) (.d (.list (Ls.map fS))) .un .un) (by
         rintro ⟨p,q⟩ hp _ ⟨v10,v11,rfl⟩
         obtain ⟨l1,l2⟩:=Cl.len A ((hL p q).mp hp);obtain ⟨k,hk⟩:=D3 a b p q (iv l1 (by decide)) (iv l2 (by decide)) 96;have R:=dA prog.G (ae prog 99) tO (FL l fs v2 v3 (bb j pre z) (.call o fn ts) v6 v7 (.d (.tuple [.str cE,pD a,pD b])) (.d (.list (Ls.map fS))) (.d (pD p)) (.d (pD q))) [];have hk':=hk [];cases k with
         | true=>exact .inr ⟨_,hk,rfl,ek rfl ((R 0 hk'))⟩
         | false=>exact .inl ⟨_,⟨.d (pD p),.d (pD q),rfl⟩,(λq=>by have:=q []; rw [hk'] at this; cases this),ek rfl ((R 0 hk'))⟩) ⟨.un,.un,rfl⟩
       rcases lp with ⟨_,_,no,_⟩ | ⟨_,_,_,_,rfl,el⟩
       . obtain ⟨l1,l2⟩:=Cl.len A hab;exact (no (a,b) m (BM (n:=1) (cN _ _) (BL a (iv l1 (by decide))) (BL b (iv l2 (by decide))) 96)).elim
       . exact (R 8 t eL nn (aK (a8 rfl rfl) el))
     . have t:=EM e;have ne:Ls=[]:=by
         clear eL;cases Ls with
         | nil=>rfl
         | cons p _=>exact (no p.1 p.2 ((hL p.1 p.2).mp (NE ..))).elim
       subst ne;have lpu:=ul A 77 [];have a:=HP A h.ok 53 [];exact (R 0 t eL lpu a)
   | _=>cases hc
theorem om (h:Row ws fs j f pre z c (.call o fn ts)) (ok:lr ws (fs.map nq) (.call o' fn ts')):(∃ c',Row ws (bN fs j [bO (.cons (.call o' fn ts') .nil) pre z f]) j (bO (.cons (.call o' fn ts') .nil) pre z f) pre z c' (.call o' fn ts'))/\ae prog 99 46 [.d (.tuple (fs.map aq)),.d (pD (bb j pre z)),.d (.int 1),.d (.tuple [ba (.call o' fn ts')])] []=.ok (.d (.tuple ((bN fs j [bO (.cons (.call o' fn ts') .nil) pre z f]).map aq))) []:=
 ⟨h.put ok,(mD (news:=.cons (.call o' fn ts') .nil) (N8 rfl) h.hj h.q.1.2.2.1 h.hp (iv h.of.n4 (by decide)) h.of.h9 88 []).2⟩
theorem Mh (h:Row ws fs j f pre z c r) (l:List Int) (v2 v3:V):X5 λfs' f' c' r' v6=>Row ws fs' j f' pre z c' r'/\exec prog.G (ae prog 99) (JU (gH 8 gP)) (FL l fs v2 v3 (bb j pre z) r .un .un .un .un .un .un) []=.ok (.next (FL l fs' v2 v3 (bb j pre z) r' v6 .un .un .un .un .un)) []:=by
 have R:=E5 prog.G (ae prog 99) (JU (gH 8 gP)) (FL l fs v2 v3 (bb j pre z) r .un .un .un .un .un .un) [];have c2:=c6 98 l 2 [];cases r with
 | set _ _=>exact ⟨fs,f,c,_,.un,h,(R 0)⟩
 | tell _=>exact ⟨fs,f,c,_,.un,h,(R 0)⟩
 | whn _ _=>exact ⟨fs,f,c,_,.un,h,(R 0)⟩
 | aga _ _=>exact ⟨fs,f,c,_,.un,h,(R 0)⟩
 | call o fn ts=>
   by_cases h2:(((ts.map bZ).length:Nat):Int)=2
   . by_cases h14:cJ l 2 / 14 % 3=1
     . obtain ⟨g,A⟩:=h.at;have e1:=gM A.mem 98 [];have l2:g.ps.length=2:=by rw [<- A.hl]; rw [Ng] at h2; exact PL.mp h2
       have hp:g.ps[0]?=some (g.ps[0]'(by rw [l2]; decide)):=NC _;generalize g.ps[0]'(by rw [l2]; decide)=p at hp;have hw:=A.og.ps p (NI hp);have ok:=h.ok;refine kk λK k=>?_;obtain ⟨⟨c',q1⟩,q2⟩:=om h (o':=some p) (ts':=[.num 5,.op 0 (.name p) (.num 1)]) ⟨λx hx=>by cases hx; exact hw,λt ht=>by
         rcases NN.mp ht with rfl | ht
         . exact qM ..
         . rw [NL.mp ht];exact ⟨λx hx=>NL.mp hx ▸ hw,N8 rfl⟩,N8 rfl,by
         have:=ok.2.2.2;rw [Ng] at h2;rw [PL.mp h2] at this;exact this⟩
       refine k ?_;exact ⟨_,_,c',_,_,q1,(R 174208 (dT h2) c2 (dT h14) e1 (bG A.hn []) (iW (k:=0) hp []) (iW (k:=0) hp []) q2)⟩
     . exact ⟨fs,f,c,_,.un,h,(R 2176 (dT h2) c2 (dF h14))⟩
   . exact ⟨fs,f,c,_,.un,h,(R 384 (dF h2) (dF h2))⟩
theorem Mg (h:Row ws fs j f pre z c r) (l:List Int) (v2 v3 v6:V):X5 λfs' f' c' r' v7=>Row ws fs' j f' pre z c' r'/\exec prog.G (ae prog 99) (JU (gH 9 gP)) (FL l fs v2 v3 (bb j pre z) r v6 .un .un .un .un .un) []=.ok (.next (FL l fs' v2 v3 (bb j pre z) r' v6 v7 .un .un .un .un)) []:=by
 have R:=E5 prog.G (ae prog 99) (JU (gH 9 gP)) (FL l fs v2 v3 (bb j pre z) r v6 .un .un .un .un .un) [];have c2:=c6 98 l 2 [];cases r with
 | set _ _=>exact ⟨fs,f,c,_,.un,h,(R 0)⟩
 | tell _=>exact ⟨fs,f,c,_,.un,h,(R 0)⟩
 | whn _ _=>exact ⟨fs,f,c,_,.un,h,(R 0)⟩
 | aga _ _=>exact ⟨fs,f,c,_,.un,h,(R 0)⟩
 | call o fn ts=>
   by_cases h42:cJ l 2 / 42 % 3=1
   . obtain ⟨g,A⟩:=h.at;have e1:=gM A.mem 98 [];have e2:=bG A.hn [];have ok:=h.ok;have og:=A.og.t;have tn:aq g=.tuple [.str g.nm,.tuple (g.ps.map .str),.tuple (ak g.rs),bZ g.t]:=rfl;rw [tn] at e2;cases ht:g.t with
     | num i=>rw [ht] at e2;obtain ⟨⟨c',q1⟩,q2⟩:=om h ok;exact ⟨_,_,c',_,_,q1,(R 640 c2 (dT h42) e1 e2 q2)⟩
     | name y=>rw [ht] at e2 og;obtain ⟨⟨c',q1⟩,q2⟩:=om h (o':=some y) (ts':=ts) ⟨λx hx=>by cases hx; exact og.1 y (NL.mpr rfl),ok.2⟩;exact ⟨_,_,c',_,_,q1,(R 640 c2 (dT h42) e1 e2 q2)⟩
     | op k a b=>
       rw [ht] at e2;have i0:zE .int false [.d (.bool (decide (GU k=bh)))] []=.ok (.d (.int 0)) []:=by rw [o8 k]; rfl
       obtain ⟨⟨c',q1⟩,q2⟩:=om h ok;exact ⟨_,_,c',_,_,q1,(R 33408 c2 (dT h42) e1 e2 i0 q2)⟩
   . exact ⟨fs,f,c,_,.un,h,(R 128 c2 (dF h42))⟩
noncomputable def F0 (l:List Int) (fs:List Fd) (v2 v3:V):Fm:=(Nd (.d (.list (l.map .int))) (.d (.tuple (fs.map aq))) v2 v3 .un .un .un .un .un .un .un .un .un)
noncomputable def LR:Rw->Bool
 | .call _ _ ts=>decide (((ts.map bZ).length:Int)=2)
 | _=>false
theorem yk (h:JR ws fs):∀ f∈fs,hL f.rs<=9/\nL f.rs<=600:=λf hf=>⟨(h.2 f hf).h9,(h.2 f hf).n4⟩
theorem Kr (h:JR ws fs) (l:List Int):∃ L:List (List Nat×Rw),(∀ p∈L,p∈xc 0 fs)/\∀ {q:Res Out},execs prog.G (ae prog 99) (gH 4 gP) (F0 l fs (.d (.list (L.map aG))) .un) []=q->execs prog.G (ae prog 99) (gH 2 gP) (F0 l fs .un .un) []=q:=by
 have ec:=yg (yk h) h.1.2.2.1 87 [];have ea:=DO (yk h) h.1.2.2.1 87 [];have c1:=c6 98 l 1 [];have en:=lQ (((xc 0 fs).filter λp=>kR p.2).map aG) [];have R:=E5 prog.G (ae prog 99) (JU (gH 3 gP)) (F0 l fs (.d (.list (((xc 0 fs).filter λp=>kR p.2).map aG))) .un) [];by_cases h1:cJ l 1 % 8=1
 . exact ⟨xc 0 fs,λp hp=>hp,λ{q} e=>aA (cO (ay rfl ec)) (aA ((R 24 c1 (dT h1) (dT h1) ea)) e)⟩
 . cases hb:(((xc 0 fs).filter λp=>kR p.2).map aG).isEmpty with
   | true=>rw [hb] at en;exact ⟨xc 0 fs,λp hp=>hp,λ{q} e=>aA (cO (ay rfl ec)) (aA ((R 24 c1 (dF h1) en ea)) e)⟩
   | false=>rw [hb] at en;exact ⟨_,λp hp=>(Ov.mp hp).1,λ{q} e=>aA (cO (ay rfl ec)) (aA ((R 24 c1 (dF h1) en)) e)⟩
theorem Kq (L:List (List Nat×Rw)) (l:List Int):X2 λ(M:List (List Nat×Rw)) (v3:V)=>(∀ p∈M,p∈L)/\∀ {q:Res Out},execs prog.G (ae prog 99) (gH 6 gP) (F0 l fs (.d (.list (M.map aG))) v3) []=q->execs prog.G (ae prog 99) (gH 4 gP) (F0 l fs (.d (.list (L.map aG))) .un) []=q:=by
 have cm:=fy (G:=prog.G) (cf:=ae prog 99) (i:=12) (it:=.seq (.var 2)) (c:=.bop true (.cons (.cmp .eq (.idx (.idx (.var 12) (.int 1)) (.int 0)) (.str bC)) (.cons (.cmp .eq (.bi .len false (.cons (.idx (.idx (.var 12) (.int 1)) (.int 3)) .nil)) (.int 2)) .nil))) (e:=.var 12) (ρ:=F0 l fs (.d (.list (L.map aG))) .un) (σ:=[]) (aa:=[]) (base:=L.map aG) aG aG (λp=>LR p.2) (ps:=L) (a8 rfl rfl) (λp _=>by
   obtain ⟨q,r⟩:=p;cases r with
   | call o fn ts=>exact sT rfl (dy rfl)
   | set _ _=>exact oJ rfl
   | tell _=>exact oJ rfl
   | whn _ _=>exact oJ rfl
   | aga _ _=>exact oJ rfl) λp _ _=>rfl
 have c2:=c6 98 l 2 [];have nn:=on ((L.filter λp=>LR p.2).map aG) [];have R:=E5 prog.G (ae prog 99) (JU (gH 5 gP)) (F0 l fs (.d (.list (L.map aG))) (.d (.list ((L.filter λp=>LR p.2).map aG)))) [];cases hb:((L.filter λp=>LR p.2).map aG).isEmpty with
 | true=>rw [hb] at nn;exact ⟨L,_,λp hp=>hp,λ{q} e=>aA (cO cm) (aA ((R 2 nn)) e)⟩
 | false=>
   rw [hb] at nn;by_cases h:cJ l 2 / 14 % 3=1
   . exact ⟨_,_,λp hp=>(Ov.mp hp).1,λ{q} e=>aA (cO cm) (aA ((R 66 nn c2 (dT h))) e)⟩
   . exact ⟨L,_,λp hp=>hp,λ{q} e=>aA (cO cm) (aA ((R 66 nn c2 (dF h))) e)⟩
theorem E8 (h:Ed fs x) (d:Nat) (σ:ac):ae prog (d+4) 24 [.d (.tuple (fs.map aq)),.d x] σ=.ok (.exc 1 []) σ:=
 (a5 prog 24 (d+3) [.d (.tuple (fs.map aq)),.d x] σ rfl 0 (h d σ) (same σ))
theorem result (l:List Int):∃ σ',ae prog 100 61 [.d (.list (l.map .int))] []=.ok (.d (.bool true)) σ':=by
 obtain ⟨ws,fs0,hw,ep⟩:=uj l 4 82 [];obtain ⟨fs,h,ee⟩:=yf hw (cJ l 2) 83 [];have c0:=c6 98 l 0 [];have c1:=c6 98 l 1 [];have c2:=c6 98 l 2 [];refine ⟨[],cR (fn:=f_law) (d:=99) rfl rfl (aA (ρ':=F0 l fs .un .un) (cO (ay (de (ay rfl ep) (iz (ay rfl c2))) ee)) ?_)⟩;by_cases h2:cJ l 1 % 8=2
 . obtain ⟨x,ex,hx⟩:=AX h.1.2.1 (yk h) (cJ l 0) 85 [];have t:=HJ (E8 hx 94 []);have a:=fB (n:=0) (l:=[.str cj]) (N8 rfl) (gw (cN _ _) wU) 97 [];exact (dA prog.G (ae prog 99) (gH 1 gP) (F0 l fs .un .un) [] 4 c1 (dT h2) c0 ex t a)
 obtain ⟨L,hL,e1⟩:=Kr h l;obtain ⟨M,v3,hM,e2⟩:=Kq (fs:=fs) L l;refine ml (Bx (cx (fX (ay rfl c1) rfl rfl) rfl rfl) (decide_eq_false h2)) (e1 (e2 ?_));have en:=lQ (M.map aG) [];cases hb:M with
 | nil=>exact jw (BR (cx rfl rfl rfl) rfl)
 | cons p M'=>
   rw [<- hb];have hm:0 < M.length:=by rw [hb]; exact Qb _
   have he:(M.map aG).isEmpty=false:=by rw [hb]; rfl
   refine kk λK k=>?_;rw [he] at en;obtain ⟨hl,p,hp,ip⟩:=zd aG hm (cJ l 0);obtain ⟨j,f,pre,z,c,hj,pl,pt,hz⟩:=B9 (hL p (hM p hp));obtain ⟨q,r⟩:=p;have pl:q=bb j pre z:=pl;subst pl;have R0:Row ws fs j f pre z c r:=⟨h,hj,pt,hz⟩
   obtain ⟨fs1,f1,c1',r1,v6,R1,m1⟩:=Mh R0 l (.d (.list (M.map aG))) v3;obtain ⟨fs2,f2,c2',r2,v7,R2,m2⟩:=Mg R1 l (.d (.list (M.map aG))) v3 v6;refine k ?_;exact ml (cx rfl rfl en) (aA (HV (bw rfl (fX (ay rfl c0) rfl (gO _ _ hl)) (ip [])) rfl) (aA m1 (aA m2 (tail R2 l _ _ _ _))))
end L09
end Mine.Internal
set_option tactic.hygienic true
open PySem PySem.W PyProof.Rows
namespace Mine.Internal.L09
set_option maxRecDepth 100000
theorem eG {α:Type} {f:α->Bool} {l:List α} (n:Nat) (h1:(l.take n).all f=true) (h2:(l.drop n).all f=true):l.all f=true:=by rw [<- List.take_append_drop n l,List.all_append,h1,h2]; rfl
theorem Mz:((xG.take 8).all λfn=>cI (recsOf q09) prog.P gnames fn)=true:=by decide +kernel
theorem My:(((xG.drop 8).take 8).all λfn=>cI (recsOf q09) prog.P gnames fn)=true:=by decide +kernel
theorem Mx:((((xG.drop 8).drop 8).take 8).all λfn=>cI (recsOf q09) prog.P gnames fn)=true:=by decide +kernel
theorem Mw:(((((xG.drop 8).drop 8).drop 8).take 8).all λfn=>cI (recsOf q09) prog.P gnames fn)=true:=by decide +kernel
theorem Mv:((((((xG.drop 8).drop 8).drop 8).drop 8).take 8).all λfn=>cI (recsOf q09) prog.P gnames fn)=true:=by decide +kernel
theorem Mu:(((((((xG.drop 8).drop 8).drop 8).drop 8).drop 8).take 8).all λfn=>cI (recsOf q09) prog.P gnames fn)=true:=by decide +kernel
theorem Mt:((((((((xG.drop 8).drop 8).drop 8).drop 8).drop 8).drop 8).take 8).all λfn=>cI (recsOf q09) prog.P gnames fn)=true:=by decide +kernel
theorem Ms:((((((((xG.drop 8).drop 8).drop 8).drop 8).drop 8).drop 8).drop 8).all λfn=>cI (recsOf q09) prog.P gnames fn)=true:=by decide +kernel
theorem chk:(xG.all λfn=>cI (recsOf q09) prog.P gnames fn)=true:=eG 8 Mz (eG 8 My (eG 8 Mx (eG 8 Mw (eG 8 Mv (eG 8 Mu (eG 8 Mt Ms))))))
theorem kchk:(xG.all λfn=>!decide (fn.name=("_law_kind":Str))||cI (recsOf q09) (λ_=>none) gnames fn)=true:=by decide +kernel
theorem frees:sv (namesW q09 [])=true:=by decide +kernel
theorem vefree:(!(namesW q09 []).contains ("ValueError":Str)&&!PySem.bootMainNames.contains "ValueError")=true:=by decide +kernel
theorem globs_ok:∀ k x,prog.G k=some x->(gnames k,x)∈scalarsOf []++constsW q09/\vM x=true:=nofun
end Mine.Internal.L09
set_option maxRecDepth 100000 in
set_option maxHeartbeats 8000000 in
theorem PySem.Challenge.cw_uf010014_09_holds : PySem.Challenge.rw_uf010014_09.Holds := by
 refine holds_law Mine.Internal.said09 λsaid=>?_;refine holds_open (q:=Mine.Internal.q09) (loose:=[]) (Xt:=λs=>(xlAt Mine.Internal.q09 [] s&&recOk (RowW.records (OpenRow.toRowW (OpenLaw.row PySem.Challenge.rw_uf010014_09))) s)&&Mine.Internal.xChk s.heap) (XP:=λmg h=>XL Mine.Internal.q09 [] mg h/\Mine.Internal.XF mg h) (Yf:=Hook.obs Hook.none) (Ya:=Hook.val Hook.none) (YP:=Hook.says Hook.none) (N:=6000) Mine.Internal.left09 (Hook.of Hook.none) (Hook.keeps Hook.none)
   (λs e=>⟨xl_of s (Bool.and_eq_true_iff.mp (Bool.and_eq_true_iff.mp e).1).1,Mine.Internal.xf_of (Bool.and_eq_true_iff.mp e).2⟩) (λmg h h' x hk=>⟨XL.keeps mg h h' x.1 hk,x.2.keeps hk⟩) (by rfl) (by rfl) (by rfl) (λs e=>recFacts_of (Bool.and_eq_true_iff.mp (Bool.and_eq_true_iff.mp e).1).2) (by rfl) said (by decide +kernel) ⟨rfl,rfl,rfl,rfl,rfl,by decide +kernel⟩ ?hw ?hc
 case hw=>w_witness2
 case hc=>
   intro w cU ai mg mb G Y fa o pm cd doc dV kV ho hd hcd hD hmg hg args vals as hpre hlay hrd hwl hlo;have V:=(Ground.X G).1.2;have XX:=(Ground.X G).2;have GL:=glob_more (Ground.glob G (by decide +kernel) (by decide +kernel)) V;refine Ground.open G ?_;intro T B D TE TW;have TA:=at_of_top T;have hmg':mg (Str.ofString "law")=some (Value.ref fa):=hmg;have hos:=hg;clear hmg;refine Mine.Internal.kk λK kx=>?_
   wrow_args hpre hlay hrd hwl hlo
   rename_i l _ _ _ _ _ _ _ _ _ _ _ _ hw _ _ _ hlen _;obtain ⟨σ',hrun⟩:=Mine.Internal.L09.result l;refine kx ?_;refine Mine.Internal.run_law (p:=Mine.Internal.L09.prog) (gn:=Mine.Internal.gnames) (i:=61) (fn:=Mine.Internal.L09.f_law) (Mine.Internal.static_of (mn:=λ_=>none) GL TA Mine.Internal.L09.chk rfl Mine.Internal.L09.frees (Mine.Internal.globs_of GL Mine.Internal.L09.globs_ok) Mine.Internal.L09.kchk (Mine.Internal.xok_of GL Mine.Internal.L09.vefree XX)) rfl rfl hmg' hw (by unfold Mine.Internal.LIM; omega) (by omega) hrun λs' hk ho hgn=>?_;exact GoodW.toG ⟨.inl ⟨_,.bool true,[],rfl,λ_=>rfl,.bool true,postW_of (X:=true) (by with_unfolding_all rfl) (by with_unfolding_all rfl) rfl,λh=>⟨.nil,λa ha=>by cases ha⟩⟩,hk,ho,hgn.trans hos⟩
