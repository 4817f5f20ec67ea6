import PyProof.Rows.All
import PyProof.Rules
import PyProof.Raises
import PyProof.Rules2
import PyProof.AssignAttr
import PyProof.FactsSeq
import PyProof.FactsAll.list_3
import PyProof.FactsAll.dict_3
import PyProof.TupleIter
import PyProof.AutoSeq1
import PyProof.Rules3
import PyProof.SliceSyntax
import PyProof.ForAny
import PyProof.CallRoads
import PyProof.CallType
import PyProof.CallStr
import PyProof.Cells
import PyProof.ConsumeWalk
import PyProof.StrLoop
import PyProof.StrWalks
import PyProof.CollectIter
import PyProof.CompFree
import PyProof.Conv_int
import PyProof.Conv_int_bool
import PyProof.MeetsSeq
import PyProof.DictKinds
import PyProof.MeetsDict
import PyProof.MeetsDictList
import PyProof.DictRoads
import PyProof.DictTruth
import PyProof.DictStraight
import PyProof.DictCopy
import PyProof.DictIter
import PyProof.EnumStmt
import PyProof.EqAt
import PyProof.P3Eq
import PyProof.NeData
import PyProof.ExcArgs
import PyProof.ExcClsAt2
import PyProof.ExcAttrAll.ValueError
import PyProof.ExcClass3
import PyProof.RaisesMany
import PyProof.FactsAll.set_1
import PyProof.StrLawsIn
import PyProof.SliceStr2
import PyProof.StrOps
import PyProof.StrBlock
import PyProof.StrLawsChain
import PyProof.WalksMore
import PyProof.RangeFor
import PyProof.InstStore
import PyProof.InstLoad
import PyProof.InstStoreFacts
import PyProof.IsInstance
import PyProof.IsiHeapPairs
import PyProof.IsiNone
import PyProof.IsiPairs
import PyProof.IsiSeqPairs
import PyProof.IsiTupleAll
import PyProof.ListCopy
import PyProof.ListIndexNeg
import PyProof.WalkInts
import PyProof.RulesAs
import PyProof.NsDelKeeps
import PyProof.ObjNew
import PyProof.Rows.TupAssign
import PyProof.Rows.TupSub
import PyProof.Rows.TupIn
import PyProof.Rows.StrMeet
import PyProof.WalksPairs
import PyProof.StrCalls2
import PyProof.Rows.StrSplitAre
import PyProof.Rows.Many
import PyProof.Rows.Exc
import PyProof.Rows.StrBin
import PyProof.Rows.AttrNode
import PyProof.Rows.RuleU_int
import PyProof.Rows.RuleB_mul
import PyProof.Rows.RuleB_sub
import PyProof.Rows.RuleB_pow
import PyProof.Rows.FactsT1
import PyProof.WalksEnum
import PyProof.Rows.RuleB_floordiv
import PyProof.Rows.RuleB_mod
import PyProof.StrCalls3
import PyProof.Rows.Method
import PyProof.Rows.StrTemp
import PyProof.Rows.ListMul
import PyProof.Rows.RuleB_small
import PyProof.Rows.RuleC_int
import PyProof.TupleOps
import PyProof.SeqI3
import PyProof.Rows.TupMore
import PyProof.SliceMore
import PyProof.StrLawsTight
import PyProof.RulesDelMore
import PyProof.Rows.SeqMore
import PyProof.Rows.SumAny
import PyProof.Rows.TupAdd
import PyProof.TupleOfSeq
import PyProof.Rows.ReprOcc
import PyProof.Rows.SortWalk
import PyProof.Rows.TmSorted
import PyProof.Rows.PlainObj
import PyProof.Rows.SortRunsK
import PyProof.Rows.SortShellK
import PyProof.Rows.SortStr
import PyProof.SetRoads
import PyProof.Rows.SetFrom
import Wide.Well
import Wide.Loose
import Open.Row
import Open.Line
import Open.Boot
import Open.Tree
import KE.IntTextText
import KE.KItem
import KE.KDictOf
import PySem.Challenge.RW_uf010009_05
set_option Elab.async false
set_option genSizeOf false
set_option genInjectivity false
set_option bootstrap.genMatcherCode false
set_option autoImplicit true
set_option linter.unusedVariables false
set_option tactic.hygienic false
set_option backward.match.sparseCases false
open PyProof.Rows.F renaming plain_set_update_loop→N3
open Nat renaming exists_eq_add_one_of_ne_zero→NB,add_sub_cancel_left→Nx,eq_zero_of_not_pos→OW,le_of_succ_le_succ→OX,le_of_ble_eq_true→Oh,le_of_sub_eq_zero→Oj,add_lt_of_lt_sub'→PZ,add_le_add_right→MG,le_sub_one_of_lt→Pe,sub_succ_lt_self→Qb,pow_le_pow_right→Qc,add_le_add_left→Mh,mul_le_mul_left→NC,add_lt_add_left→N4,add_sub_cancel'→OH,le_iff_lt_or_eq→Qk,lt_of_le_of_lt→IT,lt_of_lt_of_le→Lp,sub_add_cancel→Nq,lt_of_le_of_ne→Nu,pos_of_ne_zero→Oe,lt_or_eq_of_le→Og,lt_of_lt_of_eq→OZ,le_of_lt_succ→LR,lt_of_succ_lt→Mf,le_succ_of_le→Mw,sub_pos_of_lt→NA,le_of_succ_le→NZ,lt_succ_of_le→O9,lt_succ_of_lt→PN,lt_trichotomy→QB,add_sub_assoc→QH,succ_le_succ→Ln,le_add_right→LQ,le_max_right→LX,lt_succ_self→MF,min_eq_right→OJ,lt_of_not_le→OO,succ_ne_zero→OP,min_le_right→P5,succ_ne_self→QR,max_eq_right→QW,min_eq_left→Nf,le_add_left→Nl,le_max_left→ND,min_le_left→NE,not_lt_zero→N0,le_antisymm→Ou,add_le_add→Mt,lt_irrefl→N7,add_assoc→Pr,le_trans→iF,le_of_eq→Lw,le_of_lt→LM,ne_of_gt→LY,ne_of_lt→Mn,zero_add→Nb,succ_pos→N6,lt_or_ge→OU,lt_trans→Pi,sub_self→Pj,add_comm→Rr,le_refl→nO,zero_le→Ly,one_pos→NF,le_succ→N8,le_zero→QC,sub_le→N1,sub_lt→Oc,not_lt→Oz,max_le→P2,mod_lt→RC,ble→Qm
open List renaming eraseIdx_eq_take_drop_succ→NG,getElem?_append_right→LU,exists_cons_of_ne_nil→Pb,getElem?_eq_some_iff→By,drop_eq_getElem_cons→L9,getElem?_append_left→Ms,getElem?_eq_none_iff→MY,extract_eq_take_drop→Oo,pairwise_iff_getElem→Oq,getElem?_zip_eq_some→Pm,map_eq_replicate_iff→Pn,getElem?_eq_getElem→Ls,length_eq_zero_iff→Nc,pairwise_singleton→Nw,filter_cons_of_pos→PA,filter_cons_of_neg→PD,take_of_length_le→M0,getElem?_set_self→OS,flatten_singleton→OY,length_take_of_le→PR,length_eq_one_iff→PT,mem_append_right→Lx,contains_iff_mem→Mc,take_append_drop→Mj,getElem?_toArray→MQ,getElem?_eq_none→M4,length_replicate→NH,length_singleton→NK,perm_append_comm→Om,mem_iff_getElem?→O6,dropLast_eq_take→PY,set_append_right→P0,mem_cons_of_mem→Lm,mem_of_getElem?→Lo,mem_append_left→LC,pairwise_append→LH,mem_of_mem_take→Mp,mem_of_mem_drop→MX,getElem?_set_ne→Ov,getElem?_of_mem→Pf,length_take_le'→P9,dropLast_concat→Qd,flatMap_append→M3,flatten_append→N5,length_pos_iff→OI,getElem_of_mem→Po,append_toArray→Qj,length_take_le→Ql,length_append→iN,mem_singleton→oF,mem_cons_self→IS,prefix_append→Mx,pairwise_cons→Nd,contains_cons→Pv,zip_cons_cons→Qw,mem_filterMap→Qy,map_replicate→Qz,append_assoc→DO,size_toArray→Lv,getElem?_map→LG,nodup_append→M7,flatten_cons→Oy,take_sublist→PV,ext_getElem?→QG,prefix_refl→Lq,all_eq_true→LN,lookup_cons→Ma,length_take→Mq,take_length→Mr,length_drop→Mv,getElem_mem→MC,length_cons→MD,not_mem_nil→M1,cons_ne_nil→M2,isEmpty_iff→NM,any_eq_true→Ob,drop_length→Pk,getElem_inj→P3,reverse_nil→QV,mem_flatMap→QX,length_map→tO,mem_append→Lg,append_nil→LJ,map_append→LK,nodup_cons→Nn,length_set→Pu,nil_append→Qf,forIn_cons→Qg,length_nil→Q3,of_mem_zip→Q4,replicate→L4,lt_irrefl→Pc,nodup_nil→PL,mem_range→Qq,take_zero→Qu,take_left→Q8,mem_cons→Lu,map_take→Oa,map_drop→OD,any_cons→QK,map_cons→QM,take_nil→Rb,drop_nil→Rc,lt_trans→Ri,mem_map→Mi,length→QI,not_lt→Q6,lookup→Ry,range→Nr,Perm→QS
open PySem.Builtin.Str renaming strSliceIndices→M9
open Array renaming getElem?_eq_some_iff→Mg,perm_iff_toList_perm→Of,getElem?_eq_getElem→Li,getElem_mem_toList→LV,getElem?_eq_none→OV,getElem?_toList→Mb,toList_extract→Pd,toList_reverse→Qa,length_toList→LP,toList_append→MR,toList_push→O8,ext'→RB,mk→Rz
open PySem.Builtin.List renaming listFitsIndex→Ny,listTooLong→NP
open PySem.Calls renaming Name_function_global→Nz,loadGlobal_global→OK,evalArgs_plain→NW,spliced_cons→O0,spliced_nil→PS
open Classical renaming byContradiction→LL
open Option renaming isNone_iff_eq_none→MZ,isSome_iff_exists→ML,bind_eq_some_iff→LW,map_eq_some_iff→LF,none→Py,some→aT,none→iD
open PySem.Builtin.Slice renaming slicePlaces→On,sliceAdjust→Pl
open PySem.Builtin.Tuple renaming tupleExact→OB
open PySem.F renaming args_tuple_add_2→Pq,plainAttrs_list→MU,entry_tuple_add→Pz,slot_tuple_add→PJ,attrBase_ValueError→Oi,slot_list_pop→O7,typeOf_object_class→PW,called_set→Nt,slot_gs_get→Rg
open PyProof.Rows renaming assign_Name→Ps,Call_Name→Ng,slot_tuple_getitem→OT,wpS_forRange→PO,wpS_modify→Px,wpS_bind→Lz,wpS_pure→LD,tail_any→Qp,wpS_lift→QT,wpS_mono→QU,wpS_get→Qn
open Int renaming eq_ofNat_of_zero_le→My,toNat_of_nonneg→Pp,natCast_nonneg→L5,emod_lt_of_pos→Np,lt_of_lt_of_le→Qo,toNat_natCast→NY,emod_nonneg→Os,natCast_add→Q5,ofNat_lt→M8,ofNat_le→NO,le_trans→Pg,ne_of_gt→PG,le_of_lt→PH,toNat_lt→Rn,toNat_le→Rp,add_comm→Ru,not_lt→Rk,not_le→RA
open PySem renaming wpAny_callSpecial?_slot→NX,builtinLookup_eq_fast→NJ,codeAny_call_builtin→P8,wpAny_isSubtype_exc→Nj,wpAny_setEntries_of→OG,wpAny_loadPart_at→L8,wpAny_newObj_type→MW,wpAny_truthy_bool→Na,wpAny_setState_of→Ow,fits_of_scanBound→PK,wpAny_pyIter_list→QD,wpAny_call_entry→NL,wpAny_askSetting→OM,noFill_tuple_add→QN,isinstance_outer→QO,wpAny_items_cons→QP,codeAny_builtin→Ot,typeLookup_type→O4,wpAny_execs_nil→Qh,call_isinstance→Q1,codeAny_of_tree→Q2,wpAny_setField→Od,wpAny_fieldsOf→Qt,isSubtype_type→Q7,wpAny_holding→Md,strKind→Mz,wpAny_standAt→N9,wpAny_attempt→P6,plainId_quiet→QL,seq_tuple_add→Re,wpAny_typeOf→QZ,concat_meets→Ro,wpAny_field→OR,sizeLine_eq→Q9,wpAny_bind→iS,wpAny_pure→EQ,wpAny_mono→Lk,wpAny_rule→OC,call_meets→Pa,DictEntry→Rv,Program→M6,codeAny→Ra,Shared→Do,Around→MP,Value→rW,wpAny→IF,World→Ni,Model→Qi,Addr→Lr,Heap→LA,Expr→L7,Stmt→Q0,Obj→OQ,Env→RF
open PySem.Heap renaming get?_push_of_some→Lj,get?_update_other→Nh,get?_update_self→LZ,get?_push_size→LI,size_push→PM,SameBut→L6,lt_size→Mu,ExtBut→QE
open Bool renaming and_eq_true_iff→ID,or_eq_false_iff→NV,or_eq_true_iff→OF,false_eq_true→Qr,false_ne_true→Qv,not_eq_true'→Nk,eq_false_iff→PU,and_eq_true→Ll,noConfusion→P1,eq_iff_iff→O3,or_false→Rh,or_true→Rq,false→bY,true→eQ
open PySem.Around renaming under_plainId→Ox
open List.IsPrefix renaming trans→LS
open PySem.Heap.SameBut renaming update→Mm
open PySem.Code renaming quiet_builtin→Pw
open PySem.Obj renaming data_mapFields→Qx,mapFields→NT,mapSeq→MM,putSet→Rm
open PyProof.Rows.KeyOrd renaming kle_of_klt→MJ,kle_trans→NN,kle_refl→N2
open PySem.SetTable.below renaming go→QF
open Option.some renaming inj→BY
open ForInStep renaming yield→MT
open PySem.PyData renaming depthAll→Qe
open PySem.SetTable renaming grown→OL,below→ON
open PySem.NameKind renaming cell→OE,free→P7
open List.cons renaming inj→O5
open PySem.Value renaming builtin→QJ,none→M5,type→OA,ref→Ml
open PySem.Str renaming ofString→NQ
open Prod.mk renaming inj→QA
open PySem.SeqAt renaming EqAt→P4
open Char renaming toNat→QY
open PySem.W renaming boot_drawn→Rj,boot_heap→Nv,boot_toks→Rx
open PyProof.Rows.SortSt renaming mk'→RD
open PySem.W.WData renaming bool→RE
open Or renaming elim→MN
open Ne renaming symm→Ol
open Prod renaming mk→PF
open Iff renaming rfl→RG
section
namespace Internal
noncomputable def Ld:Bool:=false
noncomputable def Ey:Bool:=true
noncomputable def t9:Bool:=false
noncomputable def DH:Bool:=true
noncomputable def DI:Bool:=true
noncomputable def K3:Bool:=false
noncomputable def K5:Bool:=false
noncomputable def Ez:Bool:=true
noncomputable def K6:Bool:=true
noncomputable def EA:Bool:=true
noncomputable def JZ:Bool:=false
noncomputable def J0:Bool:=false
noncomputable def EB:Bool:=true
noncomputable def HJ:Bool:=false
noncomputable def JO:Bool:=false
noncomputable def K7:Bool:=false
noncomputable def xO:Bool:=true
noncomputable def xP:Bool:=true
noncomputable def K8:Bool:=false
noncomputable def K9:Bool:=false
noncomputable def JP:Bool:=false
noncomputable def J1:Bool:=false
noncomputable def oV:Bool:=true
noncomputable def jm:Nat:=4000
end Internal
end
section
namespace Internal
open PySem
noncomputable abbrev str (s:List Nat):Str:=⟨s.toArray⟩
noncomputable def j0 (e:Rv):Option (Int × Str × Int):=match e.key with
 | .str k _=>match e.val with
  | .int i _=>aT (e.hash,k,i)
  | _=>iD
 | _=>iD
noncomputable def d5:List Rv->Option (List (Int × Str × Int))
 | []=>aT []
 | e::es=>match j0 e with
  | some x=>match d5 es with
   | some xs=>aT (x::xs)
   | none=>iD
  | none=>iD
noncomputable def nS (x:Str)(s:Do):Option (List (Int × Str × Int)):=match s.heap.nsMap mainGlobals x with
 | some (.ref a)=>match s.heap.get? a with
  | some o=>match o.data with
   | .dict es _=>match (a != sysModules&&o.cls==.type "dict"&&o.dict.isNone&&o.slots.size==0&&s.heap.isNs mainGlobals) with
    | true=>d5 es.toList
    | false=>iD
   | _=>iD
  | none=>iD
 | _=>iD
noncomputable def qm (es:List (List Nat × Int))(w:Ni):Option (List (Int × Str × Int)):=some (es.map λp=>(hashStr w (str p.1),str p.1,p.2))
noncomputable def eX:List Value:=[.type "ValueError",.type "Exception",.type "BaseException",.type "object"]
noncomputable def j5:List Str:=["__init__","__getattribute__","__getattr__","__class__"]
noncomputable def HK (h:LA)(n:Str):Bool:=match h.clsAt mainGlobals n with
 | some (_,_,cd)=>j5.all λx=>(h.nsMap cd.ns x).isNone
 | none=>bY
noncomputable def EC (h:LA)(chain:List Str)(n:Str):Bool:=h.ownExcOk n chain eX "ValueError.__new__"&&HK h n
noncomputable def xOk (b:Str)(r:List Str)(h:LA):Bool:=EC h [] b&&r.all (EC h [b])&&decide (((b::r).map (h.nsMap mainGlobals)).Nodup)
end Internal
end
section
namespace Internal
open PySem PySem.W
section
set_option maxRecDepth 100000
noncomputable def lu (tb:String->Option Builtin)(p:M6)(w:Ni)(n₀:Nat)(ann:Option rW):Nat->SharedT->Thread->Option SharedT
 | 0,_,_=>iD
 | n+1,s,t=>match through t with
  | true=>aT s
  | false=>match stepOk n₀ ann t with
   | false=>iD
   | true=>match stepT (denote tb) p w s t with
    | some (s',t')=>lu tb p w n₀ ann n s' t'
    | none=>iD
theorem we (h:lu tb p w n₀ ann n s t=aT s'):topRun tb p w n₀ ann n s.abs t=aT s'.abs:=by
 induction n generalizing s t with
 | zero=>cases h
 | succ n ih=>
  unfold lu at h;unfold topRun
  cases he:through t with
  | true=>rw [he] at h;cases h;rfl
  | false=>
   rw [he] at h
   cases hk:stepOk n₀ ann t with
   | false=>rw [hk] at h;cases h
   | true=>
    rw [hk] at h
    cases hs:stepT (denote tb) p w s t with
    | none=>rw [hs] at h;cases h
    | some r=>obtain ⟨s₂,t₂⟩:=r;rw [hs] at h;rw [stepT_spec hs];exact ih h
noncomputable def xQ:List OQ->Nat->BT->BT
 | [],_,t=>t
 | o::l,n,t=>xQ l (n+1) (t.ins n o)
noncomputable def HL (P:Params):BT:=xQ (Nv P).objs.toList 0 .nil
noncomputable def sT (P:Params)(os:OsState):SharedT:=⟨HL P,(Nv P).objs.size,(Nv P).life,Rz [],Rj,Rx,os⟩
theorem ED (P:Params)(os:OsState):(sT P os).abs=⟨Nv P,Rz [],Rj,Rx,os⟩:=by kernel_rfl
theorem A9 (P:Params):(Nv P).isNs mainGlobals=eQ:=by kernel_rfl
noncomputable def Ba (p:M6)(N:Nat)(w:Ni)(os:OsState):Option SharedT:=
 (lu treeTable p w (Nv w.params).objs.size ((Nv w.params).nsMap mainGlobals "__annotations__") N (sT w.params os) (topStub p)).bind λs₁=>
  match staticsOk (importedModules p.main.body) (Nv w.params) s₁.abs.heap&&namesBound p s₁.abs.heap&&gensDone s₁.abs&&laidKept (Nv w.params) s₁.abs.heap with
   | true=>aT s₁
   | false=>iD
theorem Bb {p:M6}{N:Nat}{w:Ni}{os:OsState}{s₁:SharedT}(h:Ba p N w os=aT s₁):topFrom treeTable p w N ⟨Nv w.params,Rz [],Rj,Rx,os⟩=aT s₁.abs:=by
 obtain ⟨s,h1,h2⟩:=LW.mp h;have h1:=we h1;rw [ED] at h1;unfold topFrom;show (match (Nv w.params).isNs mainGlobals&&eQ with
  | true=>(topRun treeTable p w (Nv w.params).objs.size ((Nv w.params).nsMap mainGlobals "__annotations__") N ⟨Nv w.params,Rz [],Rj,Rx,os⟩ (topStub p)).bind _
  | false=>iD)=_
 rw [A9,h1];show (match staticsOk (importedModules p.main.body) (Nv w.params) s.abs.heap&&namesBound p s.abs.heap&&gensDone s.abs&&laidKept (Nv w.params) s.abs.heap with
   | true=>aT s.abs
   | false=>iD)=_
 cases hb:(staticsOk (importedModules p.main.body) (Nv w.params) s.abs.heap&&namesBound p s.abs.heap&&gensDone s.abs&&laidKept (Nv w.params) s.abs.heap) with
 | true=>rw [hb] at h2;cases h2;rfl
 | false=>rw [hb] at h2;cases h2
theorem wf (e:opening p=plainProg p.main.scope.names)(hN:Qm 600 N=eQ)(f:∀s,fenceModules? p s=aT s)
  (h:∀(w:Ni) (os:OsState),(Ba p N w os).map (λs=>(openSeen q loose (importedModules p.main.body) Xt eQ s.abs,Yf s.abs))=aT (openGood q loose,Ya w)):LeftO p q loose Xt Yf Ya N:=λw=>by
 obtain ⟨s₀,h0,hv⟩:=LF.mp (boot_open e hN f w);obtain ⟨hp,gens,drawn,toks,os⟩:=s₀;obtain ⟨e1,hv⟩:=QA hv;obtain ⟨e2,hv⟩:=QA hv;obtain ⟨e3,e4⟩:=QA hv;dsimp only at e1 e2 e3 e4;subst e1 e2 e3 e4;obtain ⟨s₁,h1,h2⟩:=LF.mp (h w os);unfold openEnds;rw [h0];show (topFrom treeTable p w N _).map _=_;rw [Bb h1];show aT (openSeen q loose (importedModules p.main.body) Xt eQ s₁.abs,Yf s₁.abs)=aT _;rw [h2]
end
end Internal
end
section
namespace Internal
open PySem PySem.W PyProof.Rows
section
set_option maxHeartbeats 0
set_option maxRecDepth 100000
set_option Elab.async false
theorem dm {a b:Bool}(h:a=eQ)(k:b=eQ):(a&&b)=eQ:=by rw [h,k];rfl
theorem J2:Challenge.rw_uf010009_05.wellSaid=eQ:=by
 refine dm (dm (dm (dm (dm (dm (dm (dm (dm (dm (dm (dm (dm (dm (dm (dm (dm (dm ?_ ?_) ?_) ?_) ?_) ?_) ?_) ?_) ?_) ?_) ?_) ?_) ?_) ?_) ?_) ?_) ?_) ?_) ?_
 all_goals decide +kernel
noncomputable def Q05:Program:=PySem.W.view Challenge.pw_uf010009_05 [1,2,3,4,5,6,7,8,10,11,12,13,14,15,16,17,18,19,20,21,22,24,25,26,27,28,29,30,31,32,33,34,35,37,38,39,40,41,42,43,44,45,46,47,48,49,50,51,52,53,54,55,56,57,58,59,60,61,62,63]
noncomputable def HM:List (Str × WData):=[("MODULUS",WData.int 1000000)]
noncomputable def xR:List (List Nat × Int):=[([115,101,116],3),([116,101,108,108],2),([115,107,105,112],1),([105,102],4),([119,104,105,108,101],3)]
noncomputable def EE:List Str:=["NoName","Twice","NoRow","TooDeep","NoValues","NoTurns","NoLine"]
noncomputable def X05:Do->Bool:=λs=>(xlAt Q05 HM s&&xOk "HushError" EE s.heap)&&recOk (RowW.records Challenge.rw_uf010009_05.row.toRowW) s
noncomputable abbrev hsa (s:SharedT):=(seen ((recsOf Q05).map (·.name)) (ownsOf Q05) [] { s.abs with gens:=#[] },s.abs.heap.bltView)
noncomputable abbrev hga (w:Ni):=(expectedOf Q05,bltViewBooted)
noncomputable abbrev hsb (s:SharedT):=(s.abs.heap.keysOk (looseW Q05 ["MODULUS","THINGS"]) ((recsOf Q05).map (·.name)) ((litsOf Q05).map (·.1)) ((clssOf Q05 (looseW Q05 ["MODULUS","THINGS"])).map (·.name)),plainSeenD Q05 ["MODULUS","THINGS"] s.abs)
noncomputable abbrev hgb (w:Ni):=(eQ,plainGoodD Q05 ["MODULUS","THINGS"])
noncomputable abbrev hsc (s:SharedT):=(nS "THINGS" s.abs,tabsOk Q05 s.abs)
noncomputable abbrev hgc (w:Ni):=(qm xR w,eQ)
noncomputable abbrev hsd (s:SharedT):=(pinSeenD Q05 (drecsOf Q05) s.abs,plainSeenE Q05 (looseW Q05 ["MODULUS","THINGS"]) s.abs,clsSeenW Q05 ["MODULUS","THINGS"] s.abs,X05 s.abs)
noncomputable abbrev hgd (w:Ni):=(pinGoodD (drecsOf Q05),plainGoodE Q05 (looseW Q05 ["MODULUS","THINGS"]),clsGoodW Q05 ["MODULUS","THINGS"],eQ)
noncomputable abbrev hse (s:SharedT):=((s.abs.heap.accountedOkI (importedModules Challenge.pw_uf010009_05.main.body),s.abs.heap.isNs mainGlobals,s.abs.heap.isNs builtinsNs,tablesOk Q05 s.abs.heap,(if eQ then s.abs.gens.size==0 else !leftWithCleanup s.abs.gens)),wideSeen Q05 s.abs)
noncomputable abbrev hge (w:Ni):=((eQ,eQ,eQ,eQ,eQ),wideGood Q05)
noncomputable abbrev nI (b:Bool) (w:Ni) (os:OsState):=Ba Challenge.pw_uf010009_05 10000 (w.withFollow "special-get-raises" b) os
theorem EF:∀(w:Ni) (os:OsState),(nI bY w os).map hsa=aT (hga (w.withFollow "special-get-raises" bY)):=by
 intro w os;kernel_rfl
theorem EG:∀(w:Ni) (os:OsState),(nI bY w os).map hsb=aT (hgb (w.withFollow "special-get-raises" bY)):=by
 intro w os;kernel_rfl
theorem EH:∀(w:Ni) (os:OsState),(nI bY w os).map hsc=aT (hgc (w.withFollow "special-get-raises" bY)):=by
 intro w os;kernel_rfl
theorem EI:∀(w:Ni) (os:OsState),(nI bY w os).map hsd=aT (hgd (w.withFollow "special-get-raises" bY)):=by
 intro w os;kernel_rfl
theorem EJ:∀(w:Ni) (os:OsState),(nI bY w os).map hse=aT (hge (w.withFollow "special-get-raises" bY)):=by
 intro w os;kernel_rfl
theorem EK:∀(w:Ni) (os:OsState),(nI eQ w os).map hsa=aT (hga (w.withFollow "special-get-raises" eQ)):=by
 intro w os;kernel_rfl
theorem EL:∀(w:Ni) (os:OsState),(nI eQ w os).map hsb=aT (hgb (w.withFollow "special-get-raises" eQ)):=by
 intro w os;kernel_rfl
theorem EM:∀(w:Ni) (os:OsState),(nI eQ w os).map hsc=aT (hgc (w.withFollow "special-get-raises" eQ)):=by
 intro w os;kernel_rfl
theorem EN:∀(w:Ni) (os:OsState),(nI eQ w os).map hsd=aT (hgd (w.withFollow "special-get-raises" eQ)):=by
 intro w os;kernel_rfl
theorem EO:∀(w:Ni) (os:OsState),(nI eQ w os).map hse=aT (hge (w.withFollow "special-get-raises" eQ)):=by
 intro w os;kernel_rfl
theorem kF {α β γ δ:Type _}{o:Option α}{f:α->β}{g:α->γ}{b:β}{c:γ}(h:o.map f=aT b)(k:o.map g=aT c)(F:β->γ->δ):o.map (λs=>F (f s) (g s))=aT (F b c):=by
 obtain ⟨s,rfl,rfl⟩:=LF.mp h
 cases k;rfl
noncomputable abbrev xS {A1 A2 B2 C1 C2 D1 D2 D3 E1:Type _}(x:(((A1 × A2) × Bool × B2) × C1 × C2) × D1 × D2 × D3 × Bool) (y:(Bool × Bool × Bool × Bool × Bool) × E1):=((x.1.1.1.1,x.1.1.1.2,x.1.1.2.1&&y.1.1&&y.1.2.1&&y.1.2.2.1&&y.1.2.2.2.1&&x.2.2.2.2&&y.1.2.2.2.2,(x.1.2.2,x.2.1,x.2.2.1,x.1.1.2.2,y.2,x.2.2.2.1)),x.1.2.1)
theorem EP:opening Challenge.pw_uf010009_05=plainProg Challenge.pw_uf010009_05.main.scope.names:=by kernel_rfl
theorem Bc (s:Do):fenceModules? Challenge.pw_uf010009_05 s=aT s:=by kernel_rfl
theorem ER:LeftO Challenge.pw_uf010009_05 Q05 ["MODULUS","THINGS"] X05 (nS "THINGS") (qm xR) 10000:=
 wf EP rfl Bc (byRow2 "special-get-raises" (P:=λw=>∀os:OsState,(Ba Challenge.pw_uf010009_05 10000 w os).map (λs=>(openSeen Q05 ["MODULUS","THINGS"] (importedModules Challenge.pw_uf010009_05.main.body) X05 eQ s.abs,nS "THINGS" s.abs))=aT (openGood Q05 ["MODULUS","THINGS"],qm xR w))
  (λw os=>kF (kF (kF (kF (EF w os) (EG w os) PF) (EH w os) PF) (EI w os) PF) (EJ w os) xS) λw os=>kF (kF (kF (kF (EK w os) (EL w os) PF) (EM w os) PF) (EN w os) PF) (EO w os) xS)
end
end Internal
end
section
namespace Internal
theorem same (h:x=aT a)(k:x=aT b):a=b:=BY (h.symm.trans k)
theorem aK {α:Type _}{x:Option α}{a:α}{P:Prop}(h:x=iD)(k:x=aT a):P:=by cases h.symm.trans k
theorem av {α:Type _}{a:α}{P:Prop}(h:iD=aT a):P:=by cases h
theorem oW {α:Type _}{a:α}{P:Prop}(h:aT a=iD):P:=by cases h
theorem ff {P:Prop}(h:bY=eQ):P:=P1 h
theorem tf {P:Prop}(h:eQ=bY):P:=P1 h
theorem co {α:Type _}{a:α}{P:Prop}(h:a∈([]:List α)):P:=(M1 h).elim
theorem e02 {p q:Prop}{G:Prop}(h:p/\q)(k:p->q->G):G:=by
 obtain ⟨h1,h2⟩:=h;exact k h1 h2
theorem e03 {p q r:Prop}{G:Prop}(h:p/\q/\r)(k:p->q->r->G):G:=by
 obtain ⟨h1,h2,h3⟩:=h;exact k h1 h2 h3
theorem e04 {p q r s:Prop}{G:Prop}(h:p/\q/\r/\s)(k:p->q->r->s->G):G:=by
 obtain ⟨h1,h2,h3,h4⟩:=h;exact k h1 h2 h3 h4
theorem e05 {p q r s t:Prop}{G:Prop}(h:p/\q/\r/\s/\t)(k:p->q->r->s->t->G):G:=by
 obtain ⟨h1,h2,h3,h4,h5⟩:=h;exact k h1 h2 h3 h4 h5
theorem e06 {p q r s t u:Prop}{G:Prop}(h:p/\q/\r/\s/\t/\u)(k:p->q->r->s->t->u->G):G:=by
 obtain ⟨h1,h2,h3,h4,h5,h6⟩:=h;exact k h1 h2 h3 h4 h5 h6
theorem e11 {α:Type _}{p:α->Prop}{G:Prop}(h:∃a,p a)(k:∀a,p a->G):G:=by
 obtain ⟨a,h1⟩:=h;exact k a h1
theorem e12 {α:Type _}{p q:α->Prop}{G:Prop}(h:∃a,p a/\q a)(k:∀a,p a->q a->G):G:=by
 obtain ⟨a,h1,h2⟩:=h;exact k a h1 h2
theorem e13 {α:Type _}{p q r:α->Prop}{G:Prop}(h:∃a,p a/\q a/\r a)(k:∀a,p a->q a->r a->G):G:=by
 obtain ⟨a,h1,h2,h3⟩:=h;exact k a h1 h2 h3
theorem e14 {α:Type _}{p q r s:α->Prop}{G:Prop}(h:∃a,p a/\q a/\r a/\s a)(k:∀a,p a->q a->r a->s a->G):G:=by
 obtain ⟨a,h1,h2,h3,h4⟩:=h;exact k a h1 h2 h3 h4
theorem e15 {α:Type _}{p q r s t:α->Prop}{G:Prop}(h:∃a,p a/\q a/\r a/\s a/\t a)(k:∀a,p a->q a->r a->s a->t a->G):G:=by
 obtain ⟨a,h1,h2,h3,h4,h5⟩:=h;exact k a h1 h2 h3 h4 h5
theorem e16 {α:Type _}{p q r s t u:α->Prop}{G:Prop}(h:∃a,p a/\q a/\r a/\s a/\t a/\u a)(k:∀a,p a->q a->r a->s a->t a->u a->G):G:=by
 obtain ⟨a,h1,h2,h3,h4,h5,h6⟩:=h;exact k a h1 h2 h3 h4 h5 h6
theorem e21 {α:Type _}{β:Type _}{p:α->β->Prop}{G:Prop}(h:∃a b,p a b)(k:∀a b,p a b->G):G:=by
 obtain ⟨a,b,h1⟩:=h;exact k a b h1
theorem e22 {α:Type _}{β:Type _}{p q:α->β->Prop}{G:Prop}(h:∃a b,p a b/\q a b)(k:∀a b,p a b->q a b->G):G:=by
 obtain ⟨a,b,h1,h2⟩:=h;exact k a b h1 h2
theorem e23 {α:Type _}{β:Type _}{p q r:α->β->Prop}{G:Prop}(h:∃a b,p a b/\q a b/\r a b)(k:∀a b,p a b->q a b->r a b->G):G:=by
 obtain ⟨a,b,h1,h2,h3⟩:=h;exact k a b h1 h2 h3
theorem e24 {α:Type _}{β:Type _}{p q r s:α->β->Prop}{G:Prop}(h:∃a b,p a b/\q a b/\r a b/\s a b)(k:∀a b,p a b->q a b->r a b->s a b->G):G:=by
 obtain ⟨a,b,h1,h2,h3,h4⟩:=h;exact k a b h1 h2 h3 h4
theorem e25 {α:Type _}{β:Type _}{p q r s t:α->β->Prop}{G:Prop}(h:∃a b,p a b/\q a b/\r a b/\s a b/\t a b)(k:∀a b,p a b->q a b->r a b->s a b->t a b->G):G:=by
 obtain ⟨a,b,h1,h2,h3,h4,h5⟩:=h;exact k a b h1 h2 h3 h4 h5
theorem e26 {α:Type _}{β:Type _}{p q r s t u:α->β->Prop}{G:Prop}(h:∃a b,p a b/\q a b/\r a b/\s a b/\t a b/\u a b)(k:∀a b,p a b->q a b->r a b->s a b->t a b->u a b->G):G:=by
 obtain ⟨a,b,h1,h2,h3,h4,h5,h6⟩:=h;exact k a b h1 h2 h3 h4 h5 h6
theorem e31 {α:Type _}{β:Type _}{γ:Type _}{p:α->β->γ->Prop}{G:Prop}(h:∃a b c,p a b c)(k:∀a b c,p a b c->G):G:=by
 obtain ⟨a,b,c,h1⟩:=h;exact k a b c h1
theorem e32 {α:Type _}{β:Type _}{γ:Type _}{p q:α->β->γ->Prop}{G:Prop}(h:∃a b c,p a b c/\q a b c)(k:∀a b c,p a b c->q a b c->G):G:=by
 obtain ⟨a,b,c,h1,h2⟩:=h;exact k a b c h1 h2
theorem e33 {α:Type _}{β:Type _}{γ:Type _}{p q r:α->β->γ->Prop}{G:Prop}(h:∃a b c,p a b c/\q a b c/\r a b c)(k:∀a b c,p a b c->q a b c->r a b c->G):G:=by
 obtain ⟨a,b,c,h1,h2,h3⟩:=h;exact k a b c h1 h2 h3
theorem e34 {α:Type _}{β:Type _}{γ:Type _}{p q r s:α->β->γ->Prop}{G:Prop}(h:∃a b c,p a b c/\q a b c/\r a b c/\s a b c)(k:∀a b c,p a b c->q a b c->r a b c->s a b c->G):G:=by
 obtain ⟨a,b,c,h1,h2,h3,h4⟩:=h;exact k a b c h1 h2 h3 h4
theorem e35 {α:Type _}{β:Type _}{γ:Type _}{p q r s t:α->β->γ->Prop}{G:Prop}(h:∃a b c,p a b c/\q a b c/\r a b c/\s a b c/\t a b c)(k:∀a b c,p a b c->q a b c->r a b c->s a b c->t a b c->G):G:=by
 obtain ⟨a,b,c,h1,h2,h3,h4,h5⟩:=h;exact k a b c h1 h2 h3 h4 h5
theorem e41 {α:Type _}{β:Type _}{γ:Type _}{δ:Type _}{p:α->β->γ->δ->Prop}{G:Prop}(h:∃a b c d,p a b c d)(k:∀a b c d,p a b c d->G):G:=by
 obtain ⟨a,b,c,d,h1⟩:=h;exact k a b c d h1
theorem e42 {α:Type _}{β:Type _}{γ:Type _}{δ:Type _}{p q:α->β->γ->δ->Prop}{G:Prop}(h:∃a b c d,p a b c d/\q a b c d)(k:∀a b c d,p a b c d->q a b c d->G):G:=by
 obtain ⟨a,b,c,d,h1,h2⟩:=h;exact k a b c d h1 h2
theorem e43 {α:Type _}{β:Type _}{γ:Type _}{δ:Type _}{p q r:α->β->γ->δ->Prop}{G:Prop}(h:∃a b c d,p a b c d/\q a b c d/\r a b c d)(k:∀a b c d,p a b c d->q a b c d->r a b c d->G):G:=by
 obtain ⟨a,b,c,d,h1,h2,h3⟩:=h;exact k a b c d h1 h2 h3
theorem e44 {α:Type _}{β:Type _}{γ:Type _}{δ:Type _}{p q r s:α->β->γ->δ->Prop}{G:Prop}(h:∃a b c d,p a b c d/\q a b c d/\r a b c d/\s a b c d)(k:∀a b c d,p a b c d->q a b c d->r a b c d->s a b c d->G):G:=by
 obtain ⟨a,b,c,d,h1,h2,h3,h4⟩:=h;exact k a b c d h1 h2 h3 h4
theorem e51 {α:Type _}{β:Type _}{γ:Type _}{δ:Type _}{ε:Type _}{p:α->β->γ->δ->ε->Prop}{G:Prop}(h:∃a b c d e,p a b c d e)(k:∀a b c d e,p a b c d e->G):G:=by
 obtain ⟨a,b,c,d,e,h1⟩:=h;exact k a b c d e h1
theorem e52 {α:Type _}{β:Type _}{γ:Type _}{δ:Type _}{ε:Type _}{p q:α->β->γ->δ->ε->Prop}{G:Prop}(h:∃a b c d e,p a b c d e/\q a b c d e)(k:∀a b c d e,p a b c d e->q a b c d e->G):G:=by
 obtain ⟨a,b,c,d,e,h1,h2⟩:=h;exact k a b c d e h1 h2
theorem e53 {α:Type _}{β:Type _}{γ:Type _}{δ:Type _}{ε:Type _}{p q r:α->β->γ->δ->ε->Prop}{G:Prop}(h:∃a b c d e,p a b c d e/\q a b c d e/\r a b c d e)(k:∀a b c d e,p a b c d e->q a b c d e->r a b c d e->G):G:=by
 obtain ⟨a,b,c,d,e,h1,h2,h3⟩:=h;exact k a b c d e h1 h2 h3
theorem n1 {a b c d:Nat}(h:a<=b)(e:c+b<=d+a):c<=d:=Nat.le_of_add_le_add_right (iF e (Mh h d))
theorem n2 {a b a' b' c d:Nat}(h:a<=b)(h':a'<=b')(e:c+(b+b')<=d+(a+a')):c<=d:=n1 (Mt h h') e
theorem n3 {a b a' b' a2 b2 c d:Nat}(h:a<=b)(h':a'<=b')(h2:a2<=b2)(e:c+(b+(b'+b2))<=d+(a+(a'+a2))):c<=d:=n2 h (Mt h' h2) e
theorem z1 {a b c d:Int}(h:a<=b)(e:c+b<=d+a):c<=d:=Int.le_of_add_le_add_right (Pg e (Int.add_le_add_left h d))
theorem z2 {a b a' b' c d:Int}(h:a<=b)(h':a'<=b')(e:c+(b+b')<=d+(a+a')):c<=d:=z1 (Int.add_le_add h h') e
theorem z3 {a b a' b' a2 b2 c d:Int}(h:a<=b)(h':a'<=b')(h2:a2<=b2)(e:c+(b+(b'+b2))<=d+(a+(a'+a2))):c<=d:=z2 h (Int.add_le_add h' h2) e
theorem mx {a b c:Nat}(h:a<=c)(k:b<=c):max a b<=c:=P2.mpr ⟨h,k⟩
theorem mx0 {a c:Nat}(h:a<=c):max a 0<=c:=mx h (Ly _)
theorem m0x {a c:Nat}(h:a<=c):max 0 a<=c:=mx (Ly _) h
theorem lk (h:a<=b)(k:Qm b c=eQ):a<=c:=iF h (Oh k)
theorem m3l (h:3 * max a b+c<N):3 * a+c<N:=IT (MG (NC 3 (ND a b)) c) h
theorem m3r (h:3 * max a b+c<N):3 * b+c<N:=IT (MG (NC 3 (LX a b)) c) h
theorem dn {d k:Int}{n:Nat}(h:d+n<=k):¬ k<d:=Rk.mpr (Pg (Int.le_add_of_nonneg_right (L5 _)) h)
theorem dl (h:d+((max a b+1:Nat):Int)<=k):d+1+a<=k/\d+1+b<=k:=
 have h:d+((max a b:Nat)+1:Int)<=k:=h
 ⟨z2 h (NO.mpr (ND a b)) (by simp +arith only),z2 h (NO.mpr (LX a b)) (by simp +arith only)⟩
theorem JQ (h:n-i=k+1):n-(i+1)=k:=by rw [Nat.sub_succ,h];rfl
theorem nb (h:Qm a b=eQ):a<=b:=Oh h
theorem nf {P:Prop}(h:1<=0):P:=absurd h (Nat.not_succ_le_self 0)
theorem zf {P:Prop}(h:(1:Int)<=0):P:=absurd h (by decide)
theorem em0 {x k:Int}(h:decide (0<k)=eQ):0<=x % k:=Os _ (PG (of_decide_eq_true h))
theorem em2 {x k K:Int}(h:(decide (0<k)&&decide (k<=K))=eQ):x % k<K:=by
 obtain ⟨h1,h2⟩:=ID.mp h;exact Qo (Np _ (of_decide_eq_true h1)) (of_decide_eq_true h2)
theorem em {x k K:Int}(h:(decide (0<k)&&decide (k<=K))=eQ):0<=x % k/\x % k<K:=⟨em0 (ID.mp h).1,em2 h⟩
theorem emN {x k:Int}{n:Nat}(h:(decide (0<k)&&decide (k<=(n:Int)))=eQ):(x % k).toNat<n:=(Rn (em0 (ID.mp h).1)).mpr (em2 h)
theorem sb {n k:Nat}(h:k<=n):n=n-k+k:=(Nq h).symm
theorem lW {n:Nat}(h:0<n):(0:Int)<n:=Int.natCast_pos.mpr h
theorem cne {n:Nat}(h:0<n):(n:Int)≠0:=PG (lW h)
theorem tn {k:Int}{n:Nat}(h0:0<=k)(h:k<n):k.toNat<n:=(Rn h0).mpr h
set_option genCtorIdx false in
inductive MV where
 | none | bool (b:Bool) | int (i:Int) | str (s:List Nat) | tup (xs:List MV) | ref (i:Nat) | inst (c i:Nat) | scr (is:List Int) | gt (ss:List (List Nat)) | cdict (es:List (List Nat × Int))
gen_injective_theorems% MV
set_option genCtorIdx false in
inductive MO where
 | list (xs:List MV) | dict (es:List (List Nat × MV)) | attrs (es:List (List Nat × MV)) | exc (c:Nat)
gen_injective_theorems% MO
set_option genCtorIdx false in
structure MS where
 vars:List (Option MV)
 heap:List MO
set_option genCtorIdx false in
inductive Fl where
 | next | ret (v:MV)
gen_injective_theorems% Fl
noncomputable abbrev XT:=Nat->List MO->Prop
noncomputable abbrev XM:=Nat->MS->Prop
noncomputable abbrev KT:=Nat->Nat->List MV->(MV->List MO->Prop)->XT->List MO->Prop
set_option genCtorIdx false in
inductive Op where
 | add | sub | mul | fdiv | mod | pow (u:Unit:=())
gen_injective_theorems% Op
set_option genCtorIdx false in
inductive Cmp where
 | eq | ne | lt | le | gt | inn | nin (u:Unit:=())
gen_injective_theorems% Cmp
set_option genCtorIdx false in
inductive Bi where
 | len | int | str | list | tuple | sortedSet | sum | all (u:Unit:=())
gen_injective_theorems% Bi
set_option genCtorIdx false in
inductive Me where
 | append | extend | insert | pop | popAt | clear | count | index | find (u:Unit:=())
gen_injective_theorems% Me
set_option genCtorIdx false in
inductive TS where
 | int | bool | str | list | tuple | cls (c:Nat) | valueError
gen_injective_theorems% TS
set_option genCtorIdx false in
inductive IK where
 | val | range1 | enum (u:Unit:=())
gen_injective_theorems% IK
set_option genCtorIdx false in
inductive ME where
 | cst (v:MV)
 | var (i:Nat)
 | glob (g:Nat) (v:MV)
 | bin (op:Op) (a b:ME)
 | neg (a:ME)
 | not (a:ME)
 | and (es:List ME)
 | or (es:List ME)
 | cmp (op:Cmp) (a b:ME)
 | cmp2 (op op':Cmp) (a b c:ME)
 | isN (pos:Bool) (a:ME)
 | call (f:Nat) (args:List ME)
 | blt (b:Bi) (args:List ME)
 | mth (k:Me) (o:ME) (args:List ME)
 | umth (c f:Nat) (x:List Nat) (o:ME) (args:List ME)
 | new (c f:Nat) (args:List ME)
 | attr (c:Nat) (o:ME) (x:List Nat)
 | idx (o i:ME)
 | sl (o:ME) (lo hi:Option ME)
 | list (es:List ME)
 | tup (es:List ME)
 | dict0
 | comp (elt:ME) (t:List Nat) (many:Bool) (k:IK) (src:List ME) (ifs:List ME)
 | isi (a:ME) (ts:List TS)
gen_injective_theorems% ME
set_option genCtorIdx false in
inductive MSt where
 | asg (t:List Nat) (many:Bool) (e:ME)
 | setAttr (c:Nat) (o:ME) (x:List Nat) (e:ME)
 | setIdx (o i e:ME)
 | expr (e:ME)
 | ite (c:ME) (a b:List MSt)
 | for_ (t:List Nat) (many:Bool) (k:IK) (src:List ME) (body:List MSt)
 | while_ (c:ME) (body:List MSt)
 | ret (e:ME)
 | raise (c:Nat)
 | try_ (body:List MSt) (c:Nat) (v:Nat) (h:List MSt)
gen_injective_theorems% MSt
noncomputable def MS.set (m:MS)(i:Nat)(v:MV):MS:=⟨m.vars.set i (aT v),m.heap⟩
noncomputable def MS.get (m:MS)(i:Nat):Option MV:=match m.vars[i]? with
 | some (aT v)=>aT v
 | _=>iD
noncomputable def MS.unset (m:MS)(i:Nat):MS:=⟨m.vars.set i iD,m.heap⟩
noncomputable def MS.push (m:MS)(o:MO):MS:=⟨m.vars,m.heap++[o]⟩
noncomputable def MS.put (m:MS)(i:Nat)(o:MO):MS:=⟨m.vars,m.heap.set i o⟩
noncomputable def fB (x:Int):Prop:=x.natAbs<2 ^ 63
noncomputable def line:Nat:=2 ^ 24
noncomputable abbrev PQ:=MV->MS->Prop
set_option genCtorIdx false in
inductive D where
 | none | bool (b:Bool) | int (i:Int) | str (s:List Nat) | list (xs:List D) | tup (xs:List D)
gen_injective_theorems% D
mutual
noncomputable def D.deq:D->D->Bool
 | .none,.none=>eQ
 | .bool a,.bool b=>a==b
 | .bool a,.int j=>(if a then 1 else 0)==j
 | .int i,.bool b=>i==(if b then 1 else 0)
 | .int i,.int j=>i==j
 | .str x,.str y=>x==y
 | .list xs,.list ys=>D.deqs xs ys
 | .tup xs,.tup ys=>D.deqs xs ys
 | _,_=>bY
noncomputable def D.deqs:List D->List D->Bool
 | [],[]=>eQ
 | x::xs,y::ys=>D.deq x y&&D.deqs xs ys
 | _,_=>bY
end
mutual
noncomputable def D.deep:D->Nat
 | .list xs | .tup xs=>D.deeps xs+1
 | _=>0
noncomputable def D.deeps:List D->Nat
 | []=>0
 | x::xs=>max (D.deep x) (D.deeps xs)
end
mutual
noncomputable def D.ok:D->Bool
 | .list xs | .tup xs=>D.oks xs
 | .str s=>s.all (λc=>decide (c<55296))
 | _=>eQ
noncomputable def D.oks:List D->Bool
 | []=>eQ
 | x::xs=>D.ok x&&D.oks xs
end
mutual
inductive Rd (hp:List MO):MV->D->Prop
 | none:Rd hp .none .none
 | bool (b):Rd hp (.bool b) (.bool b)
 | int (i):Rd hp (.int i) (.int i)
 | str (s):Rd hp (.str s) (.str s)
 | tup {xs ds}:Rds hp xs ds->Rd hp (.tup xs) (.tup ds)
 | list {i xs ds}:hp[i]?=aT (.list xs)->Rds hp xs ds->Rd hp (.ref i) (.list ds)
inductive Rds (hp:List MO):List MV->List D->Prop
 | nil:Rds hp [] []
 | cons {x xs d ds}:Rd hp x d->Rds hp xs ds->Rds hp (x::xs) (d::ds)
end
noncomputable def aeq:MV->MV->Option Bool
 | .none,.none=>aT eQ
 | .bool a,.bool b=>aT (a==b)
 | .int i,.int j=>aT (i==j)
 | .str x,.str y=>aT (x==y)
 | .none,.int _ | .none,.str _ | .none,.bool _ | .int _,.none | .int _,.str _ | .str _,.none | .str _,.int _ | .bool _,.none | .str _,.bool _ | .bool _,.str _=>aT bY
 | _,_=>iD
inductive EqP (hp:List MO)(x y:MV)(Q:Bool->Prop):Prop
 | mk (d e:D) (hd:Rd hp x d) (he:Rd hp y e) (hk:d.deep<=1000) (h1:d.ok=eQ) (h2:e.ok=eQ) (hq:Q (d.deq e))
 | nil (i j:Nat) (xs:List MV) (hx:x=.ref i) (hy:y=.ref j) (hi:hp[i]?=aT (.list xs)) (hj:hp[j]?=aT (.list [])) (hq:Q xs.isEmpty)
inductive InP (hp:List MO)(x:MV)(ys:List MV)(Q:Bool->Prop):Prop
 | mk (d:D) (es:List D) (hd:Rd hp x d) (he:Rds hp ys es) (hk:d.deep<=1000) (h1:d.ok=eQ) (h2:D.oks es=eQ) (hq:Q (es.any (λe=>e.deq d)))
noncomputable def cK:List (List Nat × MV)->List Nat->Option MV
 | [],_=>iD
 | (k,v)::r,x=>match k==x with
  | true=>aT v
  | false=>cK r x
noncomputable def lY:List (List Nat × MV)->List Nat->MV->List (List Nat × MV)
 | [],x,v=>[(x,v)]
 | (k,w)::r,x,v=>match k==x with
  | true=>(k,v)::r
  | false=>(k,w)::lY r x v
noncomputable def onS (x:MV)(f:List Nat->Prop):Prop:=match x with
 | .str s=>f s
 | _=>False
theorem oX (h:onS x f):∃s,x=.str s/\f s:=by
 cases x with
 | str s=>exact ⟨s,rfl,h⟩
 | _=>exact h.elim
noncomputable def onL (o:Option (Nat × List MV))(f:Nat->List MV->Prop):Prop:=match o with
 | some (a,b)=>f a b
 | none=>False
noncomputable def on1 (vs:List MV)(f:MV->Prop):Prop:=match vs with
 | [v]=>f v
 | _=>False
noncomputable def onO {α:Type}(o:Option α)(f:α->Prop):Prop:=match o with
 | some a=>f a
 | none=>False
theorem dU (h:onL o f):∃r xs,o=aT (r,xs)/\f r xs:=by
 cases o with
 | none=>exact h.elim
 | some q=>cases q;exact ⟨_,_,rfl,h⟩
theorem eZ (h:on1 vs f):∃v,vs=[v]/\f v:=by
 cases vs with
 | nil=>exact h.elim
 | cons v r=>
  cases r with
  | nil=>exact ⟨v,rfl,h⟩
  | cons=>exact h.elim
theorem cj (h:onO o f):∃a,o=aT a/\f a:=by
 cases o with
 | none=>exact h.elim
 | some a=>exact ⟨a,rfl,h⟩
noncomputable def onI (x:MV)(f:Int->Prop):Prop:=match x with
 | .int s=>f s
 | _=>False
noncomputable def on2 (vs:List MV)(f:MV->MV->Prop):Prop:=match vs with
 | [v,w]=>f v w
 | _=>False
theorem jn (h:onI x f):∃s,x=.int s/\f s:=by
 cases x with
 | int s=>exact ⟨s,rfl,h⟩
 | _=>exact h.elim
theorem Bd (h:on2 vs f):∃v w,vs=[v,w]/\f v w:=by
 rcases vs with _ | ⟨v,_ | ⟨w,_ | ⟨u,r⟩⟩⟩
 ·exact h.elim
 ·exact h.elim
 ·exact ⟨v,w,rfl,h⟩
 ·exact h.elim
noncomputable def onN (y:List Nat)(f:Nat->Prop):Prop:=match y with
 | [a]=>f a
 | _=>False
theorem Be (h:onN y f):∃a,y=[a]/\f a:=by
 cases y with
 | nil=>exact h.elim
 | cons a r=>
  cases r with
  | nil=>exact ⟨a,rfl,h⟩
  | cons=>exact h.elim
noncomputable def onT (b:Bool)(P:Prop):Prop:=match b with
 | true=>P
 | false=>False
theorem jo (h:onT b P):b=eQ/\P:=by
 cases b with
 | true=>exact ⟨rfl,h⟩
 | false=>exact h.elim
noncomputable def onR (x:MV)(f:Nat->Prop):Prop:=match x with
 | .ref r=>f r
 | _=>False
theorem jq (h:onR x f):∃r,x=.ref r/\f r:=by
 cases x with
 | ref r=>exact ⟨r,rfl,h⟩
 | _=>exact h.elim
noncomputable def gK (o:Option MO)(f:List MV->Prop):Prop:=match o with
 | some (.list xs)=>f xs
 | _=>False
theorem bB (h:gK o f):∃xs,o=aT (.list xs)/\f xs:=by
 cases o with
 | none=>exact h.elim
 | some o=>
  cases o with
  | list xs=>exact ⟨xs,rfl,h⟩
  | _=>exact h.elim
noncomputable def DJ (o:Option MO)(x:MV)(Q:Bool->Prop)(hp:List MO):Prop:=gK o λys=>InP hp x ys Q
noncomputable def cds (es:List (List Nat × Int)):List (List Nat × MV):=es.map λp=>(p.1,.int p.2)
noncomputable def ES (x c:MV)(Q:Bool->Prop)(hp:List MO):Prop:=
 match c with
 | .tup ys=>InP hp x ys Q
 | .gt ss=>InP hp x (ss.map .str) Q
 | .ref i=>DJ hp[i]? x Q hp
 | .cdict es=>onS x λs=>Q (cK (cds es) s).isSome
 | .str s=>onS x λy=>onN y λa=>Q (s.contains a)
 | _=>False
noncomputable def eqB (o:Option Bool)(hp:List MO)(x y:MV)(Q:Bool->Prop):Prop:=match o with
 | some b=>Q b
 | none=>EqP hp x y Q
theorem ua (h:eqB o hp x y Q):(∃b,o=aT b/\Q b)\/EqP hp x y Q:=by
 cases o with
 | some b=>exact .inl ⟨b,rfl,h⟩
 | none=>exact .inr h
noncomputable def kG (op:Cmp)(x y:MV)(Q:Bool->MS->Prop)(m:MS):Prop:=
 match op with
 | .eq=>eqB (aeq x y) m.heap x y (λb=>Q b m)
 | .ne=>eqB (aeq x y) m.heap x y (λb=>Q (!b) m)
 | .lt=>onI x λi=>onI y λj=>Q (decide (i<j)) m
 | .le=>onI x λi=>onI y λj=>Q (decide (i<=j)) m
 | .gt=>onI x λi=>onI y λj=>Q (decide (j<i)) m
 | .inn=>ES x y (λb=>Q b m) m.heap
 | .nin=>ES x y (λb=>Q (!b) m) m.heap
noncomputable def xT (a b:MV)(Q:PQ)(m:MS):Prop:=match a with
 | .int x=>match b with
  | .int y=>Q (.int (x+y)) m
  | _=>False
 | .str x=>match b with
  | .str y=>x.length+y.length<=line/\Q (.str (x++y)) m
  | _=>False
 | .tup x=>match b with
  | .tup y=>x.length+y.length<=line/\Q (.tup (x++y)) m
  | _=>False
 | .ref i=>match b with
  | .ref j=>gK m.heap[i]? λx=>gK m.heap[j]? λy=>x.length+y.length<=line/\Q (.ref m.heap.length) (m.push (.list (x++y)))
  | _=>False
 | _=>False
noncomputable def oY (op:Op)(x y:Int)(Q:PQ)(m:MS):Prop:=match op with
 | .add=>Q (.int (x+y)) m
 | .sub=>Q (.int (x-y)) m
 | .mul=>(fB x\/fB y)/\Q (.int (x * y)) m
 | .fdiv=>onT (decide (0<y/\y<2 ^ 30)) (Q (.int (x / y)) m)
 | .mod=>onT (decide (0<y)) (Q (.int (x % y)) m)
 | .pow=>onT (decide (x=10/\(y=6\/y=9))) (Q (.int (x ^ y.toNat)) m)
noncomputable def nT (op:Op)(a b:MV)(Q:PQ)(m:MS):Prop:=onI a λx=>onI b λy=>oY op x y Q m
noncomputable def HN (a:MV)(k:Int)(Q:PQ)(m:MS):Prop:=match a with
 | .str s=>t9=eQ/\((0<=k/\k<=1000)/\s.length<=1000)/\Q (.str (L4 k.toNat s).flatten) m
 | .ref i=>gK m.heap[i]? λxs=>on1 xs λv=>Ey=eQ/\(0<=k/\k<=1000000)/\Q (.ref m.heap.length) (m.push (.list (L4 k.toNat v)))
 | _=>False
noncomputable def DK (a b:MV)(Q:PQ)(m:MS):Prop:=match b with
 | .int y=>match a with
  | .int x=>oY .mul x y Q m
  | a=>HN a y Q m
 | _=>False
noncomputable def DL (op:Op)(a b:MV)(Q:PQ)(m:MS):Prop:=match op with
 | .add=>xT a b Q m
 | .sub=>nT .sub a b Q m
 | .mul=>DK a b Q m
 | .fdiv=>nT .fdiv a b Q m
 | .mod=>nT .mod a b Q m
 | .pow=>nT .pow a b Q m
noncomputable def jc (k:Int)(n:Nat):Option Nat:=
 match decide (0<=k),decide (k<(n:Int)),decide (-(n:Int)<=k) with
 | true,eQ,_=>aT k.toNat
 | false,_,eQ=>aT (k+n).toNat
 | _,_,_=>iD
noncomputable def pend (k:Int)(n:Nat):Nat:=
 match decide (0<=k) with
 | true=>min k.toNat n
 | false=>(k+n).toNat
noncomputable def aC {α:Type}(xs:List α)(lo hi:Option Int):List α:=
 let a:=match lo with
  | none=>0
  | some k=>pend k xs.length
 let b:=match hi with
  | none=>xs.length
  | some k=>pend k xs.length
 (xs.take b).drop a
noncomputable def cS {α:Type}(xs:List α)(k:Int)(f:α->Prop):Prop:=onO (jc k xs.length) λj=>onO xs[j]? f
theorem aB (h1:jc k xs.length=aT j)(h2:xs[j]?=aT v)(h:f v):cS xs k f:=by
 unfold cS;rw [h1];show onO xs[j]? f;rw [h2];exact h
noncomputable def xU (x i:MV)(Q:PQ)(m:MS):Prop:=
 match i with
 | .int k=>match x with
  | .tup xs=>cS xs k λv=>Q v m
  | .str s=>cS s k λc=>Q (.str [c]) m
  | .ref r=>gK m.heap[r]? λxs=>cS xs k λv=>Q v m
  | .scr xs=>cS xs k λv=>Q (.int v) m
  | _=>False
 | .str s=>match x with
  | .cdict es=>onO (cK (cds es) s) λv=>Q v m
  | _=>False
 | _=>False
noncomputable def rV:Option MV->Option (Option Int)
 | none=>aT iD
 | some (.int k)=>aT (aT k)
 | some _=>iD
noncomputable def xV (x:MV)(lo hi:Option Int)(Q:PQ)(m:MS):Prop:=match x with
 | .str s=>Q (.str (aC s lo hi)) m
 | .tup xs=>onO lo λk=>(DH=eQ/\hi=iD/\1<=k/\1<=xs.length)/\Q (.tup (xs.drop k.toNat)) m
 | .scr xs=>Q (.ref m.heap.length) (m.push (.list (aC (xs.map .int) lo hi)))
 | .ref r=>gK m.heap[r]? λxs=>Q (.ref m.heap.length) (m.push (.list (aC xs lo hi)))
 | _=>False
noncomputable def HO (x:MV)(lo hi:Option MV)(Q:PQ)(m:MS):Prop:=onO (rV lo) λlo=>onO (rV hi) λhi=>xV x lo hi Q m
noncomputable def slt:List Nat->List Nat->Bool
 | [],[]=>bY
 | [],_::_=>eQ
 | _::_,[]=>bY
 | a::x,b::y=>match decide (a<b),a==b with
  | true,_=>eQ
  | false,eQ=>slt x y
  | false,bY=>bY
noncomputable def rZ (s:List Nat):List (List Nat)->List (List Nat)
 | []=>[s]
 | t::r=>match slt s t,s==t with
  | true,_=>s::t::r
  | false,eQ=>t::r
  | false,bY=>t::rZ s r
noncomputable def cM:List (List Nat)->List (List Nat)
 | []=>[]
 | s::r=>rZ s (cM r)
noncomputable def b2i:Bool->Int
 | true=>1
 | false=>0
theorem HP (h:n<64):n<jm:=Lp h (nb rfl)
inductive HQ (xs:List MV)(Q:List (List Nat)->Prop):Prop
 | mk (ss:List (List Nat)) (he:xs=ss.map .str) (hl:(cM ss).length<jm) (hz:ss.length<4000) (hq:Q (cM ss))
inductive J3 (xs:List MV)(Q:Int->Prop):Prop
 | mk (is:List Int) (he:xs=is.map .int) (hb:∀i∈is,0<=i/\i<=1000000) (hl:is.length<=1000000) (hq:Q is.sum)
noncomputable def dec (k:Int):List Nat:=(toString k).toList.map QY
noncomputable def DM (x:MV)(Q:PQ)(m:MS):Prop:=match x with
 | .tup xs=>Q (.int xs.length) m
 | .str xs=>Q (.int xs.length) m
 | .scr xs=>Q (.int xs.length) m
 | .ref r=>gK m.heap[r]? λxs=>Q (.int xs.length) m
 | _=>False
noncomputable def qo (x:MV)(Q:PQ)(m:MS):Prop:=match x with
 | .ref r=>gK m.heap[r]? λxs=>Q (.ref m.heap.length) (m.push (.list xs))
 | .tup xs=>Q (.ref m.heap.length) (m.push (.list xs))
 | _=>False
inductive se (xs:List MV)(Q:List Bool->Prop):Prop
 | mk (bs:List Bool) (he:xs=bs.map .bool) (hl:bs.length<1000000) (hq:Q bs)
noncomputable def jd (b:Bi)(x:MV)(Q:PQ)(m:MS):Prop:=match b with
 | .len=>DM x Q m
 | .int=>match x with
  | .bool b=>Q (.int (b2i b)) m
  | _=>False
 | .str=>match x with
  | .str s=>Q (.str s) m
  | .int k=>(-1<=k/\k<1000000)/\Q (.str (dec k)) m
  | _=>False
 | .list=>qo x Q m
 | .tuple=>onR x λr=>gK m.heap[r]? λxs=>Q (.tup xs) m
 | .sum=>onR x λr=>gK m.heap[r]? λxs=>J3 xs λk=>Q (.int k) m
 | .all=>onR x λr=>gK m.heap[r]? λxs=>se xs λbs=>Q (.bool (bs.all id)) m
 | .sortedSet=>onR x λr=>gK m.heap[r]? λxs=>HQ xs (λss=>Q (.ref m.heap.length) (m.push (.list (ss.map .str))))
noncomputable def qp (b:Bi)(vs:List MV)(Q:PQ)(m:MS):Prop:=on1 vs λx=>jd b x Q m
noncomputable def nJ (r:Nat)(o:Option MO):Option (Nat × List MV):=match o with
 | some (.list xs)=>aT (r,xs)
 | _=>iD
noncomputable def lst (o:MV)(hp:List MO):Option (Nat × List MV):=match o with
 | .ref r=>nJ r hp[r]?
 | _=>iD
theorem Bf (h:lst x hp=aT (r,xs)):x=.ref r/\hp[r]?=aT (.list xs):=by
 cases x with
 | ref i=>
  replace h:nJ i hp[i]?=aT (r,xs):=h
  cases e:hp[i]? with
  | none=>rw [e] at h;exact av h
  | some o=>
   rw [e] at h
   cases o with
   | list ys=>cases h;exact ⟨rfl,e⟩
   | _=>exact av h
 | _=>exact av h
noncomputable def ub:MV->Prop
 | .bool eQ=>True
 | _=>False
noncomputable def dP (k:Me)(o:MV)(vs:List MV)(Q:PQ)(m:MS):Prop:=match k with
 | .append=>onL (lst o m.heap) λr xs=>on1 vs λv=>xs.length<line/\Q .none (m.put r (.list (xs++[v])))
 | .extend=>onL (lst o m.heap) λr xs=>on1 vs λv=>onL (lst v m.heap) λ_ ys=>xs.length+ys.length<=line/\Q .none (m.put r (.list (xs++ys)))
 | .pop=>EB=eQ/\onL (lst o m.heap) λr xs=>vs=[]/\onO xs[xs.length-1]? λv=>Q v (m.put r (.list xs.dropLast))
 | .popAt=>onL (lst o m.heap) λr xs=>on1 vs λv=>onI v λk=>(0<=k/\k<xs.length)/\onO xs[k.toNat]? λv=>Q v (m.put r (.list (xs.eraseIdx k.toNat)))
 | .insert=>onL (lst o m.heap) λr xs=>on2 vs λv w=>onI v λk=>((0<=k/\k<=xs.length)/\xs.length<line)/\Q .none (m.put r (.list (xs.take k.toNat++w::xs.drop k.toNat)))
 | .clear=>onL (lst o m.heap) λr _=>vs=[]/\Q .none (m.put r (.list []))
 | .count=>xP=eQ/\onL (lst o m.heap) λ_ xs=>on1 vs λv=>ub v/\se xs λbs=>Q (.int (bs.count eQ)) m
 | .index=>onL (lst o m.heap) λ_ xs=>on1 vs λv=>ub v/\se xs λbs=>eQ∈bs/\Q (.int (bs.idxOf eQ)) m
 | .find=>on1 vs λv=>onS v λ_=>∀k:Int,-1<=k->Q (.int k) m
set_option genCtorIdx false in
inductive MK where
 | list | str (u:Unit:=())
gen_injective_theorems% MK
noncomputable def meK:Me->MK
 | .find=>.str
 | _=>.list
noncomputable def xW:MV->Bool
 | .str _=>eQ
 | _=>bY
theorem si (h:xW x=eQ):∃y,x=.str y:=by
 cases x with
 | str y=>exact ⟨y,rfl⟩
 | _=>exact ff h
noncomputable def gD (k:Me)(x:MV)(hp:List MO):Bool:=match meK k with
 | .list=>(lst x hp).isSome
 | .str=>xW x
set_option genCtorIdx false in
inductive Kd where
 | none | bool | int | str | tuple | list | dict | exc (c:Nat)
gen_injective_theorems% Kd
noncomputable def nob:TS->Option Bool
 | .cls _=>Py
 | .valueError=>Py
 | _=>aT bY
noncomputable def kX (k:Kd)(t:TS):Option Bool:=match k with
 | .none=>nob t
 | .bool=>match t with
  | .bool=>aT eQ
  | .int=>aT eQ
  | t=>nob t
 | .int=>match t with
  | .int=>aT eQ
  | t=>nob t
 | .str=>match t with
  | .str=>aT eQ
  | t=>nob t
 | .tuple=>match t with
  | .tuple=>aT eQ
  | t=>nob t
 | .list=>match t with
  | .list=>aT eQ
  | t=>nob t
 | .dict=>nob t
 | .exc c=>match t with
  | .cls d=>aT (c==d||d==0)
  | .valueError=>aT eQ
  | _=>Py
noncomputable def kdO:Option MO->Option Kd
 | some (.list _)=>aT .list
 | some (.dict _)=>aT .dict
 | some (.exc c)=>aT (.exc c)
 | _=>iD
noncomputable def Bg (hp:List MO):MV->Option Kd
 | .none=>aT .none
 | .bool _=>aT .bool
 | .int _=>aT .int
 | .str _=>aT .str
 | .tup _=>aT .tuple
 | .ref r=>kdO hp[r]?
 | _=>iD
noncomputable def kdT (o:Option Kd)(t:TS):Option Bool:=match o with
 | some k=>kX k t
 | none=>iD
theorem jr (h:kdT o t=aT b):∃k,o=aT k/\kX k t=aT b:=by
 cases o with
 | none=>exact av h
 | some k=>exact ⟨k,rfl,h⟩
noncomputable def tyO (o:Option MO)(t:TS):Option Bool:=kdT (kdO o) t
noncomputable def fk (hp:List MO)(x:MV)(t:TS):Option Bool:=kdT (Bg hp x) t
noncomputable abbrev Gd:=Option (Nat × MO)
noncomputable abbrev Its:=Option (List MV × Gd)
noncomputable def DN (hp:List MO)(x:MV):Its:=match x with
 | .ref r=>match hp[r]? with
  | some (.list xs)=>aT (xs,aT (r,.list xs))
  | _=>iD
 | .tup xs=>aT (xs,iD)
 | .str s=>match s.all (λc=>decide (c<128)) with
  | true=>aT (s.map (λc=>.str [c]),iD)
  | false=>iD
 | _=>iD
noncomputable def ET (x:MV):Its:=match x with
 | .int n=>match decide (-16777216<=n/\n<=16777216) with
  | true=>aT ((Nr n.toNat).map (λ(i:Nat)=>.int i),iD)
  | false=>iD
 | _=>iD
noncomputable def sj (hp:List MO)(x:MV):Its:=match x with
 | .ref r=>match hp[r]? with
  | some (.list xs)=>aT (xs.zipIdx.map (λp=>.tup [.int p.2,p.1]),aT (r,.list xs))
  | _=>iD
 | _=>iD
noncomputable def fW (k:IK)(vs:List MV)(hp:List MO):Its:=
 match vs with
 | [x]=>match k with
  | .val=>DN hp x
  | .range1=>ET x
  | .enum=>sj hp x
 | _=>iD
noncomputable def xY (o:Its)(f:List MV->Gd->Prop):Prop:=match o with
 | some (a,b)=>f a b
 | none=>False
theorem qq (h:xY o f):∃items g,o=aT (items,g)/\f items g:=by
 cases o with
 | none=>exact h.elim
 | some q=>cases q;exact ⟨_,_,rfl,h⟩
theorem aZ (e:o=aT (items,g))(h:f items g):xY o f:=by rw [e];exact h
theorem aw (e:b=eQ)(h:P):onT b P:=by rw [e];exact h
theorem bb (e:o=aT (r,xs))(h:f r xs):onL o f:=by rw [e];exact h
theorem af (e:o=aT (.list xs))(h:f xs):gK o f:=by rw [e];exact h
theorem aI (e:o=aT a)(h:f a):onO o f:=by rw [e];exact h
noncomputable def aN (g:Gd)(hp:List MO):Prop:=match g with
 | none=>True
 | some (r,o)=>hp[r]?=aT o
noncomputable def oZ (t:List Nat)(xs:List MV)(m:MS):MS:=match t,xs with
 | i::t,x::xs=>oZ t xs (m.set i x)
 | _,_=>m
noncomputable def asg (t:List Nat)(many:Bool)(v:MV)(Q:MS->Prop)(m:MS):Prop:=
 match many,t,v with
 | false,[i],v=>Q (m.set i v)
 | true,t,.tup xs=>t.length=xs.length/\Q (oZ t xs m)
 | _,_,_=>False
noncomputable def bt (b:Bool)(P R:Prop):Prop:=match b with
 | true=>P
 | false=>R
theorem kY (e:b=eQ)(h:P):bt b P R:=by rw [e];exact h
theorem fq (e:b=bY)(h:R):bt b P R:=by rw [e];exact h
theorem bV (h:b=eQ->P)(k:b=bY->R):bt b P R:=by
 cases b with
 | true=>exact h rfl
 | false=>exact k rfl
theorem xZ (k:b=bY->R)(h:b=eQ->P):bt b P R:=bV h k
theorem ng (h:b=eQ):(!b)=bY:=by rw [h];rfl
theorem pg (h:b=bY):(!b)=eQ:=by rw [h];rfl
noncomputable abbrev x4 (W:MS->Prop) (Q:Fl->MS->Prop):Fl->MS->Prop:=λf m=>match f with
 | .next=>W m
 | .ret r=>Q (.ret r) m
noncomputable abbrev cWh (b:(Fl->MS->Prop)->MS->Prop) (W:MS->Prop) (Q:Fl->MS->Prop):Bool->MS->Prop:=λt m=>bt t (b (x4 W Q) m) (Q .next m)
noncomputable def DP (g:Gd)(step:MV->(Fl->MS->Prop)->MS->Prop)(Q:Fl->MS->Prop):List MV->MS->Prop
 | [],m=>aN g m.heap/\Q .next m
 | v::vs,m=>aN g m.heap/\step v (x4 (DP g step Q vs) Q) m
@[irreducible] noncomputable def dJ (g:Gd) (step:MV->(Fl->MS->Prop)->MS->Prop) (Q:Fl->MS->Prop):List MV->MS->Prop:=DP g step Q
noncomputable def sk (g:Gd)(step:MV->(Option MV->MS->Prop)->MS->Prop)(Q:List MV->MS->Prop):List MV->List MV->MS->Prop
 | [],acc,m=>aN g m.heap/\Q acc m
 | v::vs,acc,m=>aN g m.heap/\step v (λr m=>match r with
  | some x=>sk g step Q vs (acc++[x]) m
  | none=>sk g step Q vs acc m) m
@[irreducible] noncomputable def cU (g:Gd) (step:MV->(Option MV->MS->Prop)->MS->Prop) (Q:List MV->MS->Prop):List MV->List MV->MS->Prop:=sk g step Q
noncomputable def uc (c:(Bool->MS->Prop)->MS->Prop)(b:(Fl->MS->Prop)->MS->Prop)(Q:Fl->MS->Prop):Nat->MS->Prop
 | 0,_=>False
 | k+1,m=>c (cWh b (uc c b Q k) Q) m
@[irreducible] noncomputable def ft (c:(Bool->MS->Prop)->MS->Prop) (b:(Fl->MS->Prop)->MS->Prop) (Q:Fl->MS->Prop):Nat->MS->Prop:=uc c b Q
theorem gL:dJ g step Q [] m=(aN g m.heap/\Q .next m):=by unfold dJ;rfl
theorem d4:dJ g step Q (v::vs) m=(aN g m.heap/\step v (x4 (dJ g step Q vs) Q) m):=by unfold dJ;rfl
theorem j6:cU g step Q [] acc m=(aN g m.heap/\Q acc m):=by unfold cU;rfl
theorem je:cU g step Q (v::vs) acc m=(aN g m.heap/\step v (λr m=>match r with
  | some x=>cU g step Q vs (acc++[x]) m
  | none=>cU g step Q vs acc m) m):=by unfold cU;rfl
theorem qr:ft c b Q 0 m=False:=by unfold ft;rfl
theorem kH:ft c b Q (k+1) m=c (cWh b (ft c b Q k) Q) m:=by unfold ft;rfl
noncomputable def noX:XM:=λ_ _=>False
noncomputable def Bh (o:Option MO)(f:List (List Nat × MV)->Prop):Prop:=match o with
 | some (.attrs es)=>f es
 | _=>False
theorem qt (h:Bh o f):∃es,o=aT (.attrs es)/\f es:=by
 cases o with
 | none=>exact h.elim
 | some o=>
  cases o with
  | attrs es=>exact ⟨es,rfl,h⟩
  | _=>exact h.elim
noncomputable def EU (c:Nat)(v:MV)(f:Nat->Prop):Prop:=match v with
 | .inst d i=>onT (d==c) (f i)
 | _=>False
theorem qu (h:EU c v f):∃i,v=.inst c i/\f i:=by
 cases v with
 | inst d i=>
  replace h:onT (d==c) (f i):=h
  cases e:d==c with
  | true=>rw [e] at h;exact ⟨i,by rw [eq_of_beq e],h⟩
  | false=>rw [e] at h;exact h.elim
 | _=>exact h.elim
theorem dE (e:o=aT (.attrs es))(h:f es):Bh o f:=by rw [e];exact h
noncomputable def x5 (c:Nat)(x:List Nat)(v:MV)(Q:PQ)(m:MS):Prop:=EU c v λi=>Bh m.heap[i]? λes=>onO (cK es x) λv=>Q v m
noncomputable def nU (c:Nat)(x:List Nat)(y v:MV)(Q:MS->Prop)(m:MS):Prop:=EU c y λi=>Bh m.heap[i]? λes=>es.length<1000/\Q (m.put i (.attrs (lY es x v)))
noncomputable def lZ (x y v:MV)(Q:MS->Prop)(m:MS):Prop:=match y with
 | .int k=>onR x λr=>gK m.heap[r]? λxs=>onO (jc k xs.length) λj=>(DI=eQ/\0<=k)/\Q (m.put r (.list (xs.set j v)))
 | _=>False
noncomputable def Bj (c:Nat)(x:List Nat)(v:MV)(hp:List MO):Bool:=match v with
 | .inst d i=>match hp[i]? with
  | some (.attrs es)=>c==d&&(cK es x).isNone
  | _=>bY
 | _=>bY
noncomputable def sq (v:MV)(P:Prop):Prop:=match v with
 | .none=>P
 | _=>False
noncomputable def x6 (p:Bool)(x:MV):Bool:=match x with
 | .none=>p
 | _=>!p
noncomputable def dK (Q:Bool->MS->Prop):PQ:=λv m=>match v with
 | .bool b=>Q b m
 | _=>False
noncomputable def HS (ts:List TS)(hp:List MO)(x:MV)(f:Bool->Prop):Prop:=match ts with
 | [t]=>onO (fk hp x t) f
 | [t,u]=>onO (fk hp x t) λb=>onO (fk hp x u) λc=>f (b||c)
 | _=>False
noncomputable abbrev WE:=PQ->XM->MS->Prop
noncomputable abbrev WL:=(List MV->MS->Prop)->XM->MS->Prop
noncomputable abbrev WO:=(Option MV->MS->Prop)->XM->MS->Prop
noncomputable abbrev WB:=(Bool->MS->Prop)->XM->MS->Prop
noncomputable abbrev WS:=(Fl->MS->Prop)->XM->MS->Prop
noncomputable abbrev cB (Q:PQ):Bool->MS->Prop:=λb m=>Q (.bool b) m
noncomputable abbrev HT (op:Op) (Q:PQ) (x:MV):PQ:=λy m=>DL op x y Q m
noncomputable abbrev J4 (w:WE) (op:Op) (Q:PQ) (X:XM):PQ:=λx m=>w (HT op Q x) X m
noncomputable abbrev J5 (Q:PQ):PQ:=λx m=>onI x λi=>Q (.int (-i)) m
noncomputable abbrev J6 (Q:PQ):PQ:=dK λb m=>Q (.bool (!b)) m
noncomputable abbrev DQ (op:Cmp) (Q:PQ) (x:MV):PQ:=λy m=>kG op x y (cB Q) m
noncomputable abbrev HU (w:WE) (op:Cmp) (Q:PQ) (X:XM):PQ:=λx m=>w (DQ op Q x) X m
noncomputable abbrev J7 (w:WE) (op:Cmp) (Q:PQ) (X:XM) (y:MV):Bool->MS->Prop:=λt m=>bt t (w (DQ op Q y) X m) (Q (.bool bY) m)
noncomputable abbrev J8 (w:WE) (op op':Cmp) (Q:PQ) (X:XM) (x:MV):PQ:=λy m=>kG op x y (J7 w op' Q X y) m
noncomputable abbrev cTw (v w:WE) (op op':Cmp) (Q:PQ) (X:XM):PQ:=λx m=>v (J8 w op op' Q X x) X m
noncomputable abbrev J9 (p:Bool) (Q:PQ):PQ:=λx m=>Q (.bool (x6 p x)) m
noncomputable abbrev cQ (Q:PQ) (l:List (Option MV)):MV->List MO->Prop:=λv h=>Q v ⟨l,h⟩
noncomputable abbrev cX (X:XM) (l:List (Option MV)):XT:=λc h=>X c ⟨l,h⟩
noncomputable abbrev HV (K:KT) (n f:Nat) (Q:PQ) (X:XM):List MV->MS->Prop:=λvs m=>K n f vs (cQ Q m.vars) (cX X m.vars) m.heap
noncomputable abbrev Ka (b:Bi) (Q:PQ):List MV->MS->Prop:=λvs m=>qp b vs Q m
noncomputable abbrev HW (k:Me) (Q:PQ) (x:MV):List MV->MS->Prop:=λvs m=>dP k x vs Q m
noncomputable abbrev Kb (w:WL) (k:Me) (Q:PQ) (X:XM):PQ:=λx m=>onT (gD k x m.heap) (w (HW k Q x) X m)
noncomputable abbrev Kc (K:KT) (n f:Nat) (Q:PQ) (X:XM) (v:MV):List MV->MS->Prop:=λvs m=>K n f (v::vs) (cQ Q m.vars) (cX X m.vars) m.heap
noncomputable abbrev cUm (K:KT) (n c f:Nat) (x:List Nat) (w:WL) (Q:PQ) (X:XM):PQ:=λv m=>onT (Bj c x v m.heap) (w (Kc K n f Q X v) X m)
noncomputable abbrev HX (c:Nat) (Q:PQ) (m:MS):MV->List MO->Prop:=λv h=>sq v (Q (.inst c m.heap.length) ⟨m.vars,h⟩)
noncomputable abbrev Ke (K:KT) (n c f:Nat) (Q:PQ) (X:XM):List MV->MS->Prop:=λvs m=>match n with
 | 0=>False
 | k+1=>K k f (.inst c m.heap.length::vs) (HX c Q m) (cX X m.vars) (m.heap++[.attrs []])
noncomputable abbrev HY (c:Nat) (x:List Nat) (Q:PQ):PQ:=λv m=>x5 c x v Q m
noncomputable abbrev DR (Q:PQ) (x:MV):PQ:=λy m=>xU x y Q m
noncomputable abbrev Kf (w:WE) (Q:PQ) (X:XM):PQ:=λx m=>w (DR Q x) X m
noncomputable abbrev Kg (Q:PQ) (x:MV) (l:Option MV):Option MV->MS->Prop:=λh m=>HO x l h Q m
noncomputable abbrev Kh (w:WO) (Q:PQ) (X:XM) (x:MV):Option MV->MS->Prop:=λl m=>w (Kg Q x l) X m
noncomputable abbrev cSl (v w:WO) (Q:PQ) (X:XM):PQ:=λx m=>v (Kh w Q X x) X m
noncomputable abbrev HZ (Q:PQ):List MV->MS->Prop:=λvs m=>Q (.ref m.heap.length) (m.push (.list vs))
noncomputable abbrev Ki (Q:PQ):List MV->MS->Prop:=λvs m=>Q (.tup vs) m
noncomputable abbrev DT (Q:Option MV->MS->Prop):PQ:=λv m=>Q (aT v) m
noncomputable abbrev EV (w:WE) (P:Option MV->MS->Prop):Bool->MS->Prop:=λb m=>bt b (w (DT P) noX m) (P iD m)
noncomputable abbrev H0 (t:List Nat) (many:Bool) (i:WB) (w:WE):MV->(Option MV->MS->Prop)->MS->Prop:=λv P m=>asg t many v (λm=>i (EV w P) noX m) m
noncomputable abbrev Kj (Q:PQ) (l:List (Option MV)):List MV->MS->Prop:=λacc m'=>Q (.ref m'.heap.length) ⟨l,m'.heap++[.list acc]⟩
noncomputable abbrev H4 (t:List Nat) (many:Bool) (k:IK) (i:WB) (w:WE) (Q:PQ):List MV->MS->Prop:=λvs m=>xY (fW k vs m.heap) λitems g=>cU g (H0 t many i w) (Kj Q m.vars) items [] m
noncomputable abbrev Kk (ts:List TS) (Q:PQ):PQ:=λx m=>HS ts m.heap x λb=>Q (.bool b) m
noncomputable abbrev H5 (Q:List MV->MS->Prop) (v:MV):List MV->MS->Prop:=λvs m=>Q (v::vs) m
noncomputable abbrev cEs (w:WL) (Q:List MV->MS->Prop) (X:XM):PQ:=λv m=>w (H5 Q v) X m
noncomputable abbrev Kl (w:WE) (Q:PQ) (X:XM):PQ:=dK λb m=>bt b (w Q X m) (Q (.bool bY) m)
noncomputable abbrev cOr (w:WE) (Q:PQ) (X:XM):PQ:=dK λb m=>bt b (Q (.bool eQ) m) (w Q X m)
noncomputable abbrev Km (w:WB) (Q:Bool->MS->Prop) (X:XM):PQ:=dK λb m=>bt b (w Q X m) (Q bY m)
mutual
noncomputable def wpE (K:KT)(n:Nat):ME->PQ->XM->MS->Prop
 | .cst v,Q,_,m=>Q v m
 | .glob _ v,Q,_,m=>Q v m
 | .var i,Q,_,m=>match m.get i with
  | some v=>Q v m
  | none=>False
 | .bin op a b,Q,X,m=>wpE K n a (J4 (wpE K n b) op Q X) X m
 | .neg a,Q,X,m=>wpE K n a (J5 Q) X m
 | .not a,Q,X,m=>wpE K n a (J6 Q) X m
 | .and es,Q,X,m=>ud K n es Q X m
 | .or es,Q,X,m=>Bk K n es Q X m
 | .cmp op a b,Q,X,m=>wpE K n a (HU (wpE K n b) op Q X) X m
 | .cmp2 op op' a b c,Q,X,m=>wpE K n a (cTw (wpE K n b) (wpE K n c) op op' Q X) X m
 | .isN p a,Q,X,m=>wpE K n a (J9 p Q) X m
 | .call f args,Q,X,m=>iO K n args (HV K n f Q X) X m
 | .blt b args,Q,X,m=>iO K n args (Ka b Q) X m
 | .mth k o args,Q,X,m=>wpE K n o (Kb (iO K n args) k Q X) X m
 | .umth c f x o args,Q,X,m=>wpE K n o (cUm K n c f x (iO K n args) Q X) X m
 | .new c f args,Q,X,m=>iO K n args (Ke K n c f Q X) X m
 | .attr c o x,Q,X,m=>wpE K n o (HY c x Q) X m
 | .idx o i,Q,X,m=>wpE K n o (Kf (wpE K n i) Q X) X m
 | .sl o lo hi,Q,X,m=>wpE K n o (cSl (wpO K n lo) (wpO K n hi) Q X) X m
 | .list es,Q,X,m=>iO K n es (HZ Q) X m
 | .tup es,Q,X,m=>iO K n es (Ki Q) X m
 | .dict0,Q,_,m=>Q (.ref m.heap.length) (m.push (.dict []))
 | .comp elt t many k src ifs,Q,X,m=>iO K n src (H4 t many k (nV K n ifs) (wpE K n elt) Q) X m
 | .isi a ts,Q,X,m=>wpE K n a (Kk ts Q) X m
noncomputable def iO (K:KT)(n:Nat):List ME->(List MV->MS->Prop)->XM->MS->Prop
 | [],Q,_,m=>Q [] m
 | e::r,Q,X,m=>wpE K n e (cEs (iO K n r) Q X) X m
noncomputable def wpO (K:KT)(n:Nat):Option ME->(Option MV->MS->Prop)->XM->MS->Prop
 | none,Q,_,m=>Q iD m
 | some e,Q,X,m=>wpE K n e (DT Q) X m
noncomputable def ud (K:KT)(n:Nat):List ME->PQ->XM->MS->Prop
 | [],_,_,_=>False
 | [e],Q,X,m=>wpE K n e Q X m
 | e::r,Q,X,m=>wpE K n e (Kl (ud K n r) Q X) X m
noncomputable def Bk (K:KT)(n:Nat):List ME->PQ->XM->MS->Prop
 | [],_,_,_=>False
 | [e],Q,X,m=>wpE K n e Q X m
 | e::r,Q,X,m=>wpE K n e (cOr (Bk K n r) Q X) X m
noncomputable def nV (K:KT)(n:Nat):List ME->(Bool->MS->Prop)->XM->MS->Prop
 | [],Q,_,m=>Q eQ m
 | e::r,Q,X,m=>wpE K n e (Km (nV K n r) Q X) X m
end
noncomputable abbrev EW (t:List Nat) (many:Bool) (Q:Fl->MS->Prop):PQ:=λv m=>asg t many v (λm=>Q .next m) m
noncomputable abbrev EX (c:Nat) (x:List Nat) (Q:Fl->MS->Prop) (v:MV):PQ:=λy m=>nU c x y v (Q .next) m
noncomputable abbrev H6 (c:Nat) (x:List Nat) (w:WE) (Q:Fl->MS->Prop) (X:XM):PQ:=λv m=>w (EX c x Q v) X m
noncomputable abbrev EY (Q:Fl->MS->Prop) (v x:MV):PQ:=λy m=>lZ x y v (Q .next) m
noncomputable abbrev EZ (w:WE) (Q:Fl->MS->Prop) (X:XM) (v:MV):PQ:=λx m=>w (EY Q v x) X m
noncomputable abbrev H7 (u w:WE) (Q:Fl->MS->Prop) (X:XM):PQ:=λv m=>u (EZ w Q X v) X m
noncomputable abbrev H8 (Q:Fl->MS->Prop):PQ:=λ_ m=>Q .next m
noncomputable abbrev Kn (a b:WS) (Q:Fl->MS->Prop) (X:XM):PQ:=dK λt m=>bt t (a Q X m) (b Q X m)
noncomputable abbrev l4 (t:List Nat) (many:Bool) (w:WS) (X:XM):MV->(Fl->MS->Prop)->MS->Prop:=λv P m=>asg t many v (λm=>w P X m) m
noncomputable abbrev Ko (t:List Nat) (many:Bool) (k:IK) (w:WS) (Q:Fl->MS->Prop) (X:XM):List MV->MS->Prop:=λvs m=>xY (fW k vs m.heap) λitems g=>dJ g (l4 t many w X) Q items m
noncomputable abbrev H9 (w:WE) (X:XM):(Bool->MS->Prop)->MS->Prop:=λP m=>w (dK P) X m
noncomputable abbrev Ia (w:WS) (X:XM):(Fl->MS->Prop)->MS->Prop:=λP m=>w P X m
noncomputable abbrev Ib (Q:Fl->MS->Prop):PQ:=λv m=>Q (.ret v) m
noncomputable abbrev Ic (w:WS) (v:Nat) (Q:Fl->MS->Prop):XM:=λc m=>w (λf m=>Q f (m.unset v)) noX ((m.push (.exc c)).set v (.ref m.heap.length))
noncomputable abbrev wg (w:WS) (Q:Fl->MS->Prop) (X:XM):Fl->MS->Prop:=λf m=>match f with
 | .next=>w Q X m
 | f=>Q f m
mutual
noncomputable def wpS (K:KT)(n:Nat):MSt->(Fl->MS->Prop)->XM->MS->Prop
 | .asg t many e,Q,X,m=>wpE K n e (EW t many Q) X m
 | .setAttr c o x e,Q,X,m=>wpE K n e (H6 c x (wpE K n o) Q X) X m
 | .setIdx o i e,Q,X,m=>wpE K n e (H7 (wpE K n o) (wpE K n i) Q X) X m
 | .expr e,Q,X,m=>wpE K n e (H8 Q) X m
 | .ite c a b,Q,X,m=>wpE K n c (Kn (aA K n a) (aA K n b) Q X) X m
 | .for_ t many k src body,Q,X,m=>iO K n src (Ko t many k (aA K n body) Q X) X m
 | .while_ c body,Q,X,m=>∃k,ft (H9 (wpE K n c) X) (Ia (aA K n body) X) Q k m
 | .ret e,Q,X,m=>wpE K n e (Ib Q) X m
 | .raise c,_,X,m=>xO=eQ/\X c m
 | .try_ body _ v h,Q,X,m=>xO=eQ/\aA K n body Q (Ic (aA K n h) v Q) m
noncomputable def aA (K:KT)(n:Nat):List MSt->(Fl->MS->Prop)->XM->MS->Prop
 | [],Q,_,m=>Q .next m
 | s::r,Q,X,m=>wpS K n s (wg (aA K n r) Q X) X m
end
noncomputable abbrev xin (X:XT):XM:=λc m=>X c m.heap
noncomputable def fin (Q:MV->List MO->Prop):Fl->MS->Prop:=λf m=>match f with
 | .ret v=>Q v m.heap
 | .next=>Q .none m.heap
set_option genCtorIdx false in
structure Fn where
 args:Nat
 slots:Nat
 body:List MSt
noncomputable def js (d:Fn)(vs:List MV)(h:List MO):MS:=⟨vs.map aT++L4 (d.slots-d.args) iD,h⟩
noncomputable def ar (P:Nat->Option Fn)(K:KT):Prop:=
 ∀n f vs Q X h d,P f=aT d->vs.length=d.args->aA K n d.body (fin Q) (xin X) (js d vs h)->K (n+1) f vs Q X h
noncomputable def Ie:Bool:=true
end Internal
end
section
namespace Internal
open PySem PyProof.Rows
noncomputable abbrev o0 (items:List rW) (n:Nat):Obj:={ cls:=.type "tuple",dict:=none,data:=.seq items.toArray n,slots:=#[] }
noncomputable abbrev dQ (items:List rW) (n:Nat):Obj:={ cls:=.type "list",dict:=none,data:=.seq items.toArray n,slots:=#[] }
noncomputable abbrev La (es:List Rv) (n:Nat):Obj:={ cls:=.type "dict",dict:=none,data:=.dict es.toArray n,slots:=#[] }
noncomputable abbrev kI (C:Lr) (d:Lr):Obj:={ cls:=.ref C,dict:=some d,data:=.plain,slots:=#[] }
set_option genCtorIdx false in
structure Glo where
 prog:M6
 w:Ni
 base:LA
 fa:Nat->Option Lr
 ca:Nat->Option Lr
 xa:Nat->Option Lr
 cm:Nat->Str->Option rW
 hf:Nat->Bool
noncomputable def E0:rW->Bool
 | .type T=>T=="tuple"
 | _=>bY
noncomputable def E2:rW->Bool
 | .ref _=>eQ
 | _=>bY
noncomputable def fX (c:rW):Data->Bool
 | .seq _ _=>E0 c
 | .plain=>E2 c
 | _=>bY
noncomputable def gE (o:OQ):Prop:=fX o.cls o.data=eQ
noncomputable def aR (h h':LA):Prop:=∀a o,h.get? a=aT o->gE o->h'.get? a=aT o
inductive CK:List (List Nat × Int)->List (Str × rW)->Prop
 | nil:CK [] []
 | cons {k i t es ds}:k.length<=line->CK es ds->CK ((k,i)::es) ((str k,.int i t)::ds)
noncomputable def IsD (o:OQ):Prop:=∃es n,o.data=.dict es n
mutual
inductive Rep (C:Glo)(ρ:List Lr)(h:LA):MV->rW->Prop
 | none:Rep C ρ h .none .none
 | bool (b):Rep C ρ h (.bool b) (.bool b)
 | int (i t):Rep C ρ h (.int i) (.int i t)
 | str (s t):s.length<=line->Rep C ρ h (.str s) (.str (str s) t)
 | tup {a n xs items}:h.get? a=aT (o0 items n)->au C ρ h xs items->xs.length<=line->Rep C ρ h (.tup xs) (.ref a)
 | ref {i a}:ρ[i]?=aT a->Rep C ρ h (.ref i) (.ref a)
 | scr {is a items n}:C.base.get? a=aT (dQ items n)->IntsAre items is->is.length<=line->Rep C ρ h (.scr is) (.ref a)
 | gt {ss a o items n}:C.base.get? a=aT o->o.cls=.type "tuple"->o.data=.seq items.toArray n->au C ρ h (ss.map .str) items->Rep C ρ h (.gt ss) (.ref a)
 | inst {c i a k d}:C.ca c=aT k->ρ[i]?=aT d->h.get? a=aT (kI k d)->Rep C ρ h (.inst c i) (.ref a)
 | cdict {es a kvs}:(a==sysModules)=bY->C.base.DictOf (strKind C.prog C.w) a kvs->CK es kvs->Rep C ρ h (.cdict es) (.ref a)
inductive au (C:Glo)(ρ:List Lr)(h:LA):List MV->List rW->Prop
 | nil:au C ρ h [] []
 | cons {x v xs vs}:Rep C ρ h x v->au C ρ h xs vs->au C ρ h (x::xs) (v::vs)
end
inductive Kq (C:Glo)(ρ:List Lr)(h:LA)(xs:List MV)(v:rW):Prop
 | mk (a:Lr) (n:Nat) (items:List rW) (e:v=.ref a) (g:h.get? a=aT (o0 items n)) (l:au C ρ h xs items) (z:xs.length<=line)
inductive Kr (C:Glo)(is:List Int)(v:rW):Prop
 | mk (a:Lr) (items:List rW) (n:Nat) (e:v=.ref a) (g:C.base.get? a=aT (dQ items n)) (l:IntsAre items is) (z:is.length<=line)
inductive RGt (C:Glo)(ρ:List Lr)(h:LA)(ss:List (List Nat))(v:rW):Prop
 | mk (a:Lr) (o:OQ) (items:List rW) (n:Nat) (e:v=.ref a) (g:C.base.get? a=aT o) (g1:o.cls=.type "tuple") (g2:o.data=.seq items.toArray n) (l:au C ρ h (ss.map .str) items)
inductive Ig (C:Glo)(ρ:List Lr)(h:LA)(c i:Nat)(v:rW):Prop
 | mk (a k d:Lr) (e:v=.ref a) (h1:C.ca c=aT k) (h2:ρ[i]?=aT d) (h3:h.get? a=aT (kI k d))
inductive RCd (C:Glo)(es:List (List Nat × Int))(v:rW):Prop
 | mk (a:Lr) (kvs:List (Str × rW)) (e:v=.ref a) (hs:(a==sysModules)=bY) (dk:C.base.DictOf (strKind C.prog C.w) a kvs) (ck:CK es kvs)
inductive Ks (s:List Nat)(v:rW):Prop
 | mk (t:Tok) (e:v=.str (str s) t) (z:s.length<=line)
inductive Kt (ρ:List Lr)(i:Nat)(v:rW):Prop
 | mk (a:Lr) (e:v=.ref a) (g:ρ[i]?=aT a)
inductive Ih (C:Glo)(ρ:List Lr)(h:LA)(x:MV)(r:List MV)(vs:List rW):Prop
 | mk (v:rW) (ws:List rW) (e:vs=v::ws) (a:Rep C ρ h x v) (b:au C ρ h r ws)
noncomputable def Ii (C:Glo)(ρ:List Lr)(h:LA)(x:MV)(v:rW):Prop:=match x with
 | .none=>v=.none
 | .bool b=>v=.bool b
 | .int i=>∃t,v=.int i t
 | .str s=>Ks s v
 | .tup xs=>Kq C ρ h xs v
 | .ref i=>Kt ρ i v
 | .scr is=>Kr C is v
 | .gt ss=>RGt C ρ h ss v
 | .inst c i=>Ig C ρ h c i v
 | .cdict es=>RCd C es v
noncomputable def DU (C:Glo)(ρ:List Lr)(h:LA)(xs:List MV)(vs:List rW):Prop:=match xs with
 | []=>vs=[]
 | x::r=>Ih C ρ h x r vs
theorem Rep.inv (r:Rep C ρ h x v):Ii C ρ h x v:=
 Rep.casesOn (motive_1:=λx v _=>Ii C ρ h x v) r rfl (λ_=>rfl) (λ_ t=>⟨t,rfl⟩) (λ_ t z=>⟨t,rfl,z⟩) (λg l z=>⟨_,_,_,rfl,g,l,z⟩) (λe=>⟨_,rfl,e⟩) (λg l z=>⟨_,_,_,rfl,g,l,z⟩) (λg g1 g2 l=>⟨_,_,_,_,rfl,g,g1,g2,l⟩) (λh1 h2 h3=>⟨_,_,_,rfl,h1,h2,h3⟩) (λs d c=>⟨_,_,rfl,s,d,c⟩)
theorem au.inv (r:au C ρ h xs vs):DU C ρ h xs vs:=
 au.casesOn (motive_2:=λxs vs _=>DU C ρ h xs vs) r rfl (λa b=>⟨_,_,rfl,a,b⟩)
theorem au.one (r:au C ρ h [x] vs):∃v,vs=[v]/\Rep C ρ h x v:=by
 obtain ⟨v,ws,rfl,a,b⟩:=r.inv;obtain rfl:=b.inv;exact ⟨v,rfl,a⟩
theorem au.two (r:au C ρ h [x,y] vs):∃v w,vs=[v,w]/\Rep C ρ h x v/\Rep C ρ h y w:=by
 obtain ⟨v,ws,rfl,a,b⟩:=r.inv;obtain ⟨w,rfl,c⟩:=b.one;exact ⟨v,w,rfl,a,c⟩
theorem ij:gE (o0 items n):=rfl
theorem l8:gE (kI C d):=rfl
theorem ik {ρ ρ':List Lr}(hp:ρ<+:ρ'){i:Nat}{a:Lr}(h:ρ[i]?=aT a):ρ'[i]?=aT a:=by
 obtain ⟨t,rfl⟩:=hp;rw [Ms (By.mp h).1];exact h
section
theorem Rep.up (hs:aR h h')(hp:ρ<+:ρ'){x:MV}{v:rW}(r:Rep C ρ h x v):Rep C ρ' h' x v:=
 Rep.rec (motive_1:=λx v _=>Rep C ρ' h' x v) (motive_2:=λx v _=>au C ρ' h' x v) .none (λb=>.bool b) (λi t=>.int i t) (λs t z=>.str s t z) (λe _ z l=>.tup (hs _ _ e ij) l z) (λe=>.ref (ik hp e)) (λe l z=>.scr e l z) (λe1 e2 e3 _ l=>.gt e1 e2 e3 l) (λe1 e2 e3=>.inst e1 (ik hp e2) (hs _ _ e3 l8)) (λq e l=>.cdict q e l) .nil (λ_ _ a b=>.cons a b) r
theorem au.up (hs:aR h h')(hp:ρ<+:ρ'){x:List MV}{v:List rW}(r:au C ρ h x v):au C ρ' h' x v:=
 au.rec (motive_1:=λx v _=>Rep C ρ' h' x v) (motive_2:=λx v _=>au C ρ' h' x v) .none (λb=>.bool b) (λi t=>.int i t) (λs t z=>.str s t z) (λe _ z l=>.tup (hs _ _ e ij) l z) (λe=>.ref (ik hp e)) (λe l z=>.scr e l z) (λe1 e2 e3 _ l=>.gt e1 e2 e3 l) (λe1 e2 e3=>.inst e1 (ik hp e2) (hs _ _ e3 l8)) (λq e l=>.cdict q e l) .nil (λ_ _ a b=>.cons a b) r
theorem l9 (r:IntsAre items is):au C ρ h (is.map .int) items:=by
 induction r with
 | nil=>exact .nil
 | cons n t r ih=>exact .cons (.int n t) ih
theorem au.length (r:au C ρ h xs vs):vs.length=xs.length:=by
 induction xs generalizing vs with
 | nil=>rw [r.inv];rfl
 | cons x xs ih=>
  obtain ⟨v,ws,rfl,a,b⟩:=r.inv;exact congrArg (·+1) (ih b)
theorem au.get {xs:List MV}{vs:List rW}(r:au C ρ h xs vs){i:Nat}{x:MV}(e:xs[i]?=aT x):∃v,vs[i]?=aT v/\Rep C ρ h x v:=by
 induction xs generalizing vs i with
 | nil=>exact av e
 | cons y xs ih=>
  obtain ⟨v,ws,rfl,a,b⟩:=r.inv
  cases i with
  | zero=>obtain rfl:=BY e;exact ⟨v,rfl,a⟩
  | succ i=>exact ih b e
theorem au.append (r:au C ρ h xs vs)(l:au C ρ h ys ws):au C ρ h (xs++ys) (vs++ws):=by
 induction xs generalizing vs with
 | nil=>rw [r.inv];exact l
 | cons x xs ih=>
  obtain ⟨v,us,rfl,a,b⟩:=r.inv;exact .cons a (ih b)
theorem au.take (k:Nat)(r:au C ρ h xs vs):au C ρ h (xs.take k) (vs.take k):=by
 induction xs generalizing vs k with
 | nil=>rw [r.inv,Rb,Rb];exact .nil
 | cons x xs ih=>
  obtain ⟨v,us,rfl,a,b⟩:=r.inv
  cases k with
  | zero=>exact .nil
  | succ k=>exact .cons a (ih k b)
theorem au.drop (k:Nat)(r:au C ρ h xs vs):au C ρ h (xs.drop k) (vs.drop k):=by
 induction xs generalizing vs k with
 | nil=>rw [r.inv,Rc,Rc];exact .nil
 | cons x xs ih=>
  obtain ⟨v,us,rfl,a,b⟩:=r.inv
  cases k with
  | zero=>exact .cons a b
  | succ k=>exact ih k b
end
inductive jt (C:Glo)(ρ:List Lr)(h:LA):List (List Nat × MV)->List (Str × rW)->Prop
 | nil:jt C ρ h [] []
 | cons {k x v es ds}:k.length<=line->Rep C ρ h x v->jt C ρ h es ds->jt C ρ h ((k,x)::es) ((str k,v)::ds)
theorem jt.up (hs:aR h h')(hp:ρ<+:ρ'){x v}(r:jt C ρ h x v):jt C ρ' h' x v:=by
 induction r with
 | nil=>exact .nil
 | cons z a _ ih=>exact .cons z (a.up hs hp) ih
theorem CK.rep {es kvs}(r:CK es kvs):jt C ρ h (cds es) kvs:=by
 induction r with
 | nil=>exact .nil
 | cons z _ ih=>exact .cons z (.int _ _) ih
inductive Ij (C:Glo)(ρ:List Lr)(h:LA)(xs:List MV)(a:Lr):Prop
 | mk (items:List rW) (n:Nat) (e:h.get? a=aT (dQ items n)) (rl:au C ρ h xs items) (z:xs.length<=line)
inductive Ik (C:Glo)(ρ:List Lr)(h:LA)(es:List (List Nat × MV))(a:Lr):Prop
 | mk (kvs:List (Str × rW)) (d:h.DictOf (strKind C.prog C.w) a kvs) (rk:jt C ρ h es kvs) (z:es.length<=line)
inductive x7 (C:Glo)(ρ:List Lr)(h:LA)(es:List (List Nat × MV))(a:Lr):Prop
 | mk (mA:Str->Option rW) (n:h.Ns1 a mA) (l:∀k v,cK es k=aT v->∃w,mA (str k)=aT w/\Rep C ρ h v w) (r:∀k,cK es k=iD->mA (str k)=iD) (z:es.length<=1000)
inductive Il (C:Glo)(h:LA)(c:Nat)(a:Lr):Prop
 | mk (K:Lr) (o:OQ) (vs:Array rW) (h1:C.xa c=aT K) (h2:h.get? a=aT o) (h3:o.cls=.ref K) (h4:o.data=.fields vs)
noncomputable def kZ (C:Glo)(ρ:List Lr)(h:LA):MO->Lr->Prop
 | .list xs,a=>Ij C ρ h xs a
 | .dict es,a=>Ik C ρ h es a
 | .attrs es,a=>x7 C ρ h es a
 | .exc c,a=>Il C h c a
structure Hp (C:Glo)(ρ:List Lr)(hp:List MO)(h:LA):Prop where
 base:C.base.StaysIn h
 len:ρ.length=hp.length
 nodup:ρ.Nodup
 fresh:∀a∈ρ,C.base.get? a=iD
 objs:∀(i:Nat) (o:MO) (a:Lr),hp[i]?=aT o->ρ[i]?=aT a->kZ C ρ h o a
set_option genCtorIdx false in
inductive Loc where
 | nm (L:Lr) (x:Str)
 | cl (c:Lr)
gen_injective_theorems% Loc
set_option genCtorIdx false in
structure Fm where
 env:RF
 A:MP
 W:List Lr
 V:List Lr
 lay:Nat->Option Loc
 frs:List Lr
inductive Im (C:Glo)(ρ:List Lr)(h:LA)(L:Lr)(x:Str)(v:MV):Prop
 | mk (f:Str->Option rW) (w:rW) (n:h.Ns L f) (e:f x=aT w) (r:Rep C ρ h v w)
inductive Io (C:Glo)(ρ:List Lr)(h:LA)(c:Lr)(v:MV):Prop
 | mk (w:rW) (n:h.IsCell c (aT w)) (r:Rep C ρ h v w)
noncomputable def Holds (C:Glo)(ρ:List Lr)(h:LA):Loc->MV->Prop
 | .nm L x,v=>Im C ρ h L x v
 | .cl c,v=>Io C ρ h c v
noncomputable def WOk (h:LA)(a:Lr):Prop:=∃o,h.get? a=aT o/\((∃es n,o.data=.dict es n)\/∃v,o.data=.cell v)
noncomputable def Ip (C:Glo)(ρ:List Lr)(h:LA)(L:Lr):Prop:=L∉ρ/\C.base.get? L=iD/\∃o,h.get? L=aT o/\IsD o
structure Rel (C:Glo)(F:Fm)(ρ:List Lr)(m:MS)(s:Do):Prop where
 hp:Hp C ρ m.heap s.heap
 ns:∃f,s.heap.Ns F.env.locals f
 w:∀a∈F.W++F.V,a∉ρ/\C.base.get? a=iD/\WOk s.heap a
 vars:∀i v,m.get i=aT v->∃l,F.lay i=aT l/\Holds C ρ s.heap l v
 cells:∀i c,F.lay i=aT (.cl c)->∃v,s.heap.IsCell c v
 out:∀L∈F.frs,Ip C ρ s.heap L
 gens:s.gens=#[]
structure ao (W:List Lr)(ρ:List Lr)(s:Do)(ρ':List Lr)(s':Do):Prop where
 pre:ρ<+:ρ'
 new:∀a∈ρ',a∈ρ\/s.heap.get? a=iD
 keep:∀a o,s.heap.get? a=aT o->a∉ρ->a∉W->s'.heap.get? a=aT o\/(IsD o/\∃sl,s'.heap.get? a=aT { o with slots:=sl })
 solid:aR s.heap s'.heap
 alive:∀a o,s.heap.get? a=aT o->∃o',s'.heap.get? a=aT o'
 gens:s'.gens=s.gens
 os:s'.os=s.os
theorem ao.refl (W ρ:List Lr)(s:Do):ao W ρ s ρ s:=⟨Lq _,λ_ h=>.inl h,λ_ _ e _ _=>.inl e,λ_ _ e _=>e,λ_ o e=>⟨o,e⟩,rfl,rfl⟩
theorem ao.trans (x:ao W ρ s ρ₁ s₁)(y:ao W ρ₁ s₁ ρ₂ s₂):ao W ρ s ρ₂ s₂ where
 pre:=x.pre.trans y.pre
 new:=λa h=>(y.new a h).elim (λh=>x.new a h) λh=>.inr (by
  cases e:s.heap.get? a with
  | none=>rfl
  | some o=>obtain ⟨o',e'⟩:=x.alive a o e;exact aK h e')
 keep:=λa o e h1 h2=>by
  have h1':a∉ρ₁:=λh=>(x.new a h).elim h1 λh=>aK h e
  rcases x.keep a o e h1 h2 with e1 | ⟨hc,sl,e1⟩
  ·exact y.keep a o e1 h1' h2
  ·rcases y.keep a _ e1 h1' h2 with e2 | ⟨_,sl2,e2⟩
   ·exact .inr ⟨hc,sl,e2⟩
   ·exact .inr ⟨hc,sl2,e2⟩
 solid:=λa o e h=>y.solid a o (x.solid a o e h) h
 alive:=λa o e=>let ⟨o',e'⟩:=x.alive a o e;y.alive a o' e'
 gens:=y.gens.trans x.gens
 os:=y.os.trans x.os
theorem Rep.step (r:Rep C ρ s.heap x v)(st:ao W ρ s ρ' s'):Rep C ρ' s'.heap x v:=r.up st.solid st.pre
theorem au.step (r:au C ρ s.heap x v)(st:ao W ρ s ρ' s'):au C ρ' s'.heap x v:=r.up st.solid st.pre
theorem ao.lack (x:ao W ρ s ρ' s')(a:Lr)(h:s'.heap.get? a=iD):s.heap.get? a=iD:=by
 cases e:s.heap.get? a with
 | none=>rfl
 | some o=>obtain ⟨o',e'⟩:=x.alive a o e;exact aK h e'
inductive Fly (b:LA)(ρ:List Lr)(h:LA)(L e K:Lr):Prop
 | new (h1:b.get? e=iD) (h2:e∉ρ) (oe:OQ) (vs:Array rW) (h3:h.get? e=aT oe) (h4:oe.cls=.ref K) (h5:oe.data=.fields vs) (h6:vs[1]?=aT .none)
 | old (h1:b.get? e=iD) (h2:e∉ρ) (oe:OQ) (vs:Array rW) (h3:h.get? e=aT oe) (h4:oe.cls=.ref K) (h5:oe.data=.fields vs) (T:Lr) (oT:OQ) (ts:Array rW) (g1:vs[1]?=aT (.ref T)) (g2:b.get? T=iD) (g3:T∉ρ) (g4:T≠e) (g5:h.get? T=aT oT) (g6:oT.data=.fields ts)
   (g7:ts[3]?=aT .none\/ts[3]?=aT (rawInt L))
theorem Fly.mono {b b':LA}{ρ:List Lr}{h:LA}{L e K:Lr}(y:Fly b ρ h L e K)(k:∀a,b.get? a=iD->b'.get? a=iD):Fly b' ρ h L e K:=by
 cases y with
 | new h1 h2 oe vs h3 h4 h5 h6=>exact .new (k _ h1) h2 oe vs h3 h4 h5 h6
 | old h1 h2 oe vs h3 h4 h5 T oT ts g1 g2 g3 g4 g5 g6 g7=>exact .old (k _ h1) h2 oe vs h3 h4 h5 T oT ts g1 (k _ g2) g3 g4 g5 g6 g7
inductive Er (C:Glo)(F:Fm)(X:XM)(ρ:List Lr)(s:Do)(e:rW)(s':Do):Prop
 | mk (ρ':List Lr) (m':MS) (k:Nat) (a K:Lr) (st:ao F.W ρ s ρ' s') (R:Rel C F ρ' m' s') (he:e=.ref a) (hk:C.xa k=aT K) (hf:Fly s.heap ρ' s'.heap F.env.locals a K) (hx:X k m'):Er C F X ρ s e s'
theorem Er.back {C:Glo}{F:Fm}{X:XM}{ρ ρ₁:List Lr}{s s₁:Do}(st:ao F.W ρ s ρ₁ s₁):∀e s',Er C F X ρ₁ s₁ e s'->Er C F X ρ s e s':=
 λ_ _ ⟨ρ',m',k,a,K,h1,h2,h3,h4,h5,h6⟩=>⟨ρ',m',k,a,K,st.trans h1,h2,h3,h4,h5.mono st.lack,h6⟩
theorem Er.mono {C:Glo}{F:Fm}{X X':XM}{ρ:List Lr}{s:Do}(h:∀k m,X k m->X' k m):∀e s',Er C F X ρ s e s'->Er C F X' ρ s e s':=
 λ_ _ ⟨ρ',m',k,a,K,h1,h2,h3,h4,h5,h6⟩=>⟨ρ',m',k,a,K,h1,h2,h3,h4,h5,h _ _ h6⟩
theorem Er.no {C:Glo}{F:Fm}{ρ:List Lr}{s s':Do}{e:rW}{P:Prop}(h:Er C F noX ρ s e s'):P:=let ⟨_,_,_,_,_,_,_,_,_,_,h⟩:=h;h.elim
noncomputable abbrev mod (C:Glo):Model:=model C.prog C.w
inductive Out (C:Glo)(F:Fm)(ρ:List Lr)(s:Do)(Q:PQ)(v:rW)(s':Do):Prop
 | mk (ρ':List Lr) (m':MS) (x:MV) (st:ao F.W ρ s ρ' s') (R:Rel C F ρ' m' s') (rx:Rep C ρ' s'.heap x v) (hq:Q x m'):Out C F ρ s Q v s'
theorem Out.back (st:ao F.W ρ s ρ₁ s₁):∀v s',Out C F ρ₁ s₁ Q v s'->Out C F ρ s Q v s':=
 λ_ _ ⟨ρ',m',x,a,b,c,d⟩=>⟨ρ',m',x,st.trans a,b,c,d⟩
noncomputable def WPv (C:Glo)(F:Fm)(X:XM)(t:Sem rW)(Q:PQ)(m:MS):Prop:=
 ∀s ρ,Rel C F ρ m s->IF (mod C) F.A t (Out C F ρ s Q) (Er C F X ρ s) s
theorem WPv.then (h:WPv C F X t Q m)(R:Rel C F ρ m s)
  (k:∀ρ₁ s₁ m₁ x v,ao F.W ρ s ρ₁ s₁->Rel C F ρ₁ m₁ s₁->Rep C ρ₁ s₁.heap x v->Q x m₁->P v s₁):IF (mod C) F.A t P (Er C F X ρ s) s:=
 Lk (h s ρ R) (λv s₁ ⟨ρ₁,m₁,x,a,b,c,d⟩=>k ρ₁ s₁ m₁ x v a b c d) λ_ _ e=>e
theorem Iq (st:ao F.W ρ s ρ₁ s₁)(h:IF (mod C) A t (Out C F ρ₁ s₁ Q) (Er C F X ρ₁ s₁) s₂) :
  IF (mod C) A t (Out C F ρ s Q) (Er C F X ρ s) s₂:=Lk h (Out.back st) (Er.back st)
noncomputable def Loc.addr:Loc->Lr
 | .nm L _=>L
 | .cl c=>c
theorem il {h:LA}{a:Lr}{f g:Str->Option rW}(x:h.Ns a f)(y:h.Ns a g):f=g:=by
 refine e34 x λo es ep ho hd _ hf=>?_;refine e34 y λo' es' ep' ho' hd' _ hg=>?_;obtain rfl:=same ho ho';obtain ⟨rfl,rfl⟩:=Data.dict.inj (hd.symm.trans hd');funext n;exact (hf n).symm.trans (hg n)
inductive NsO (h:LA)(a:Lr):Prop
 | mk (o:OQ) (es:Array Rv) (ep:Nat) (ho:h.get? a=aT o) (hd:o.data=.dict es ep)
theorem mc (x:h.Ns a f):NsO h a:=by
 refine e33 x λo es ep ho hd _=>?_;exact ⟨o,es,ep,ho,hd⟩
theorem dt {h:LA}{a:Lr}{f:Str->Option rW}{v:Option rW}{P:Prop}(x:h.Ns a f)(y:h.IsCell a v):P:=by
 obtain ⟨o,es,ep,ho,hd⟩:=mc x;refine e12 y λo' g1 g2=>?_;obtain rfl:=same ho g1;exact nomatch hd.symm.trans g2
theorem ju {h h':LA}(x:h.Ns a f)(k:∀o,h.get? a=aT o->∃o',h'.get? a=aT o'/\o'.data=o.data):h'.Ns a f:=by
 refine e33 x λo es ep ho hd r=>?_;refine e12 (k o ho) λo' ho' hd'=>?_;exact ⟨o',es,ep,ho',hd'.trans hd,r⟩
theorem j7 {h h':LA}(x:h.IsCell a v)(k:∀o,h.get? a=aT o->∃o',h'.get? a=aT o'/\o'.data=o.data):h'.IsCell a v:=by
 refine e12 x λo ho hd=>?_;refine e12 (k o ho) λo' ho' hd'=>?_;exact ⟨o',ho',hd'.trans hd⟩
section
variable {h h':LA}{m:MS}{s s':Do}
noncomputable def jv (h h':LA)(a:Lr):Prop:=∀o,h.get? a=aT o->∃o',h'.get? a=aT o'/\o'.data=o.data/\o'.cls=o.cls
noncomputable def nW (h h':LA)(a:Lr):Prop:=∀o,h.get? a=aT o->h'.get? a=aT o
theorem nW.d (k:nW h h' a):jv h h' a:=λo e=>⟨o,k o e,rfl,rfl⟩
theorem jv.e (k:jv h h' a):∀o,h.get? a=aT o->∃o',h'.get? a=aT o'/\o'.data=o.data:=λo e=>let ⟨o',x,y,_⟩:=k o e;⟨o',x,y⟩
theorem Holds.up {l:Loc}(x:Holds C ρ h l v)(hs:aR h h')(hp:ρ<+:ρ')(k:jv h h' l.addr):Holds C ρ' h' l v:=by
 cases l with
 | nm L x'=>obtain ⟨f,w,hn,e,r⟩:=x;exact ⟨f,w,ju hn k.e,e,r.up hs hp⟩
 | cl c=>obtain ⟨w,hc,r⟩:=x;exact ⟨w,j7 hc k.e,r.up hs hp⟩
theorem kZ.up (x:kZ C ρ h o a)(hs:aR h h')(hp:ρ<+:ρ')(k:nW h h' a):kZ C ρ' h' o a:=by
 cases o with
 | list xs=>obtain ⟨items,n,e,l,z⟩:=x;exact ⟨items,n,k _ e,l.up hs hp,z⟩
 | dict es=>
  obtain ⟨kvs,⟨o,ds,ep,e,r⟩,l,z⟩:=x;exact ⟨kvs,⟨o,ds,ep,k _ e,r⟩,l.up hs hp,z⟩
 | attrs es=>
  obtain ⟨mA,n,l,r,z⟩:=x;exact ⟨mA,n.at λo e=>k o e,λkey v e=>let ⟨w,h1,h2⟩:=l key v e;⟨w,h1,h2.up hs hp⟩,r,z⟩
 | exc c=>obtain ⟨K,o,vs,h1,h2,h3,h4⟩:=x;exact ⟨K,o,vs,h1,k _ h2,h3,h4⟩
theorem Hp.up (x:Hp C ρ hp h)(hs:aR h h')(k:∀a∈ρ,nW h h' a)(hb:C.base.StaysIn h'):Hp C ρ hp h':=
 ⟨hb,x.len,x.nodup,x.fresh,λi o a e1 e2=>(x.objs i o a e1 e2).up hs (Lq _) (k a (Lo e2))⟩
theorem Hp.alloc (x:Hp C ρ hp h)(hs:aR h h')(k:∀a∈ρ,nW h h' a)(hb:C.base.StaysIn h')(ha:a∉ρ)(hf:C.base.get? a=iD)
  (hr:kZ C (ρ++[a]) h' o a):Hp C (ρ++[a]) (hp++[o]) h':=by
 refine ⟨hb,by simp [x.len],?_,?_,?_⟩
 ·exact M7.mpr ⟨x.nodup,by simp,λb hb c hc=>by simp at hc;subst hc;exact λe=>ha (e▸hb)⟩
 ·intro b hb;refine MN (Lg.mp hb) (λhb=>?_) λhb=>?_
  ·exact x.fresh b hb
  ·simp at hb;subst hb;exact hf
 ·intro i o' b e1 e2
  rcases QB i hp.length with hi | hi | hi
  ·rw [Ms hi] at e1;rw [Ms (by rw [x.len];exact hi)] at e2;exact (x.objs i o' b e1 e2).up hs (Mx _ _) (k b (Lo e2))
  ·subst hi;rw [LU (nO _)] at e1;rw [<-x.len,LU (nO _)] at e2;simp at e1 e2;subst e1;subst e2;exact hr
  ·rw [M4 (by simp;exact hi)] at e1;exact av e1
theorem Hp.put (x:Hp C ρ hp h)(hs:aR h h')(hi:ρ[i]?=aT a)(k:∀b∈ρ,b≠a->nW h h' b)(hb:C.base.StaysIn h')
  (hr:kZ C ρ h' o a):Hp C ρ (hp.set i o) h':=by
 refine ⟨hb,by simp [x.len],x.nodup,x.fresh,λj o' b e1 e2=>?_⟩;by_cases e:i=j
 ·subst e;obtain rfl:=same hi e2;have hlt:i<hp.length:=by rw [<-x.len];exact (By.mp hi).1
  obtain rfl:=BY ((OS hlt).symm.trans e1);exact hr
 ·rw [Ov e] at e1;refine (x.objs j o' b e1 e2).up hs (Lq _) (k b (Lo e2) λq=>?_);subst q;have h1:=(By.mp hi)
  have h2:=(By.mp e2)
  exact e ((P3 x.nodup).mp (h1.2.trans h2.2.symm))
structure aJ (F:Fm):Prop where
 loc:F.env.locals∈F.W
 lay:∀i l,F.lay i=aT l->l.addr∈F.W++F.V
 inj:∀i j l,F.lay i=aT l->F.lay j=aT l->i=j
 kind:F.env.scope.kind=.function
 frs:∃es,F.A.frames=aT es/\∀e∈es,e.scope.kind≠.module/\∃L∈F.frs,e.frame=aT L
theorem Rel.up {hpN:List MO}(x:Rel C F ρ m s)(ok:aJ F)(hs:aR s.heap s'.heap)(hpre:ρ<+:ρ')(hH:Hp C ρ' hpN s'.heap)(hnew:∀a∈ρ',a∈ρ\/s.heap.get? a=iD)
  (hW:∀a∈F.W++F.V,jv s.heap s'.heap a) (ho:∀L∈F.frs,jv s.heap s'.heap L) (hg:s'.gens=s.gens):Rel C F ρ' ⟨m.vars,hpN⟩ s' where
 hp:=hH
 ns:=let ⟨f,hf⟩:=x.ns;⟨f,ju hf (hW _ (LC _ ok.loc)).e⟩
 w:=λa ha=>by
  obtain ⟨h1,h2,o,h3,h4⟩:=x.w a ha;refine e13 (hW a ha o h3) λo' e' d' _=>?_;refine ⟨λhm=>(hnew a hm).elim h1 λq=>aK q h3,h2,o',e',by rw [d'];exact h4⟩
 vars:=λi v e=>let ⟨l,h1,h2⟩:=x.vars i v e;⟨l,h1,h2.up hs hpre (hW _ (ok.lay i l h1))⟩
 cells:=λi c e=>let ⟨v,h1⟩:=x.cells i c e;⟨v,j7 h1 (hW c (ok.lay i _ e)).e⟩
 out:=λL hL=>by
  obtain ⟨h1,h2,o,h3,es,n,h4⟩:=x.out L hL;refine e13 (ho L hL o h3) λo' e' d' _=>?_;exact ⟨λhm=>(hnew L hm).elim h1 λq=>aK q h3,h2,o',e',es,n,d'.trans h4⟩
 gens:=hg.trans x.gens
theorem Rel.grow (x:Rel C F ρ m s)(ok:aJ F)(hk:∀a o,s.heap.get? a=aT o->s'.heap.get? a=aT o)(hg:s'.gens=s.gens)(hos:s'.os=s.os) :
  Rel C F ρ m s'/\ao F.W ρ s ρ s':=
 ⟨x.up ok (λa o e _=>hk a o e) (Lq _) (x.hp.up (λa o e _=>hk a o e) (λa _ o e=>hk a o e) λb o e=>hk b o (x.hp.base b o e)) (λa h=>.inl h) (λa _ o e=>⟨o,hk a o e,rfl,rfl⟩)
  (λL _ o e=>⟨o,hk L o e,rfl,rfl⟩) hg,
  ⟨Lq _,λ_ h=>.inl h,λa o e _ _=>.inl (hk a o e),λa o e _=>hk a o e,λa o e=>⟨o,hk a o e⟩,hg,hos⟩⟩
theorem Rel.tok (x:Rel C F ρ m s)(ok:aJ F)(t:Nat):Rel C F ρ m { s with toks:=t }/\ao F.W ρ s ρ { s with toks:=t }:=x.grow ok (λ_ _ e=>e) rfl rfl
theorem bC (ha:h.objs.size<=a):h.get? a=iD:=by
 cases e:h.get? a with
 | none=>rfl
 | some o=>exact absurd (Mu e) (Oz.mpr ha)
theorem bW (x:Hp C ρ m.heap s.heap)(ha:s.heap.get? a=iD):C.base.get? a=iD:=by
 cases e:C.base.get? a with
 | none=>rfl
 | some o=>exact aK ha (x.base a o e)
theorem Hp.there (x:Hp C ρ m.heap s.heap)(ha:a∈ρ):∃o,s.heap.get? a=aT o:=by
 obtain ⟨i,hi,rfl⟩:=Po ha;have hi':i<m.heap.length:=by rw [<-x.len];exact hi
 have:=x.objs i m.heap[i] ρ[i] (Ls hi') (Ls hi)
 cases hm:m.heap[i] with
 | list xs=>rw [hm] at this;obtain ⟨_,_,e,_⟩:=this;exact ⟨_,e⟩
 | dict es=>rw [hm] at this;obtain ⟨_,⟨_,_,_,e,_⟩,_⟩:=this;exact ⟨_,e⟩
 | attrs es=>rw [hm] at this;obtain ⟨_,⟨_,_,_,e,_⟩,_⟩:=this;exact ⟨_,e⟩
 | exc c=>rw [hm] at this;obtain ⟨_,_,_,_,e,_⟩:=this;exact ⟨_,e⟩
theorem Rel.alloc (x:Rel C F ρ m s)(ok:aJ F)(hk:∀a o,s.heap.get? a=aT o->s'.heap.get? a=aT o)(hg:s'.gens=s.gens)(hos:s'.os=s.os)
  (ha:s.heap.get? a=iD) (hr:kZ C (ρ++[a]) s'.heap o a):Rel C F (ρ++[a]) (m.push o) s'/\ao F.W ρ s (ρ++[a]) s':=by
 have hn:∀b∈ρ++[a],b∈ρ\/s.heap.get? b=iD:=λb hb=>by
  refine MN (Lg.mp hb) (λhb=>?_) λhb=>?_
  ·exact .inl hb
  ·simp at hb;subst hb;exact .inr ha
 refine ⟨x.up ok (λa o e _=>hk a o e) (Mx _ _) (x.hp.alloc (λa o e _=>hk a o e) (λa _ o e=>hk a o e) (λb o e=>hk b o (x.hp.base b o e)) (λhm=>?_) (bW x.hp ha) hr) hn
  (λa _ o e=>⟨o,hk a o e,rfl,rfl⟩) (λL _ o e=>⟨o,hk L o e,rfl,rfl⟩) hg,⟨Mx _ _,hn,λa o e _ _=>.inl (hk a o e),λa o e _=>hk a o e,λa o e=>⟨o,hk a o e⟩,hg,hos⟩⟩
 obtain ⟨o',e⟩:=x.hp.there hm;exact aK ha e
theorem dv (hk:∀b o,b≠a->h.get? b=aT o->h'.get? b=aT o)(ha:∀o,h.get? a=aT o->¬ gE o):aR h h':=λb o e hs=>by
 by_cases q:b=a
 ·subst q;exact absurd hs (ha o e)
 ·exact hk b o q e
theorem cV (x:kZ C ρ h o a):∀ob,h.get? a=aT ob->¬ gE ob:=λob e hs=>by
 cases o with
 | list xs=>
  obtain ⟨items,n,e',_⟩:=x;obtain rfl:=same e' e;exact ff hs
 | dict es=>
  obtain ⟨kvs,⟨o',ds,ep,e',_,hd,_⟩,_⟩:=x;obtain rfl:=same e' e;exact ff ((congrArg (fX o'.cls) hd).symm.trans hs)
 | attrs es=>
  obtain ⟨_,⟨o',ds,ep,e',hd,_⟩,_⟩:=x;obtain rfl:=same e' e;exact ff ((congrArg (fX o'.cls) hd).symm.trans hs)
 | exc c=>
  obtain ⟨_,o',vs,_,e',_,hd⟩:=x;obtain rfl:=same e' e;exact ff ((congrArg (fX o'.cls) hd).symm.trans hs)
theorem iR (x:WOk h a):∀ob,h.get? a=aT ob->¬ gE ob:=λob e hs=>by
 refine e12 x λo e' d=>?_;obtain rfl:=same e' e
 rcases d with ⟨es,k,d⟩ | ⟨v,d⟩
 ·exact ff ((congrArg (fX o.cls) d).symm.trans hs)
 ·exact ff ((congrArg (fX o.cls) d).symm.trans hs)
theorem kZ.there (x:kZ C ρ h o a):∃ob,h.get? a=aT ob:=by
 cases o with
 | list xs=>obtain ⟨_,_,e,_⟩:=x;exact ⟨_,e⟩
 | dict es=>obtain ⟨_,⟨_,_,_,e,_⟩,_⟩:=x;exact ⟨_,e⟩
 | attrs es=>obtain ⟨_,⟨_,_,_,e,_⟩,_⟩:=x;exact ⟨_,e⟩
 | exc c=>obtain ⟨_,_,_,_,e,_⟩:=x;exact ⟨_,e⟩
theorem Rel.put (x:Rel C F ρ m s)(ok:aJ F)(hi:ρ[i]?=aT a)(h0:m.heap[i]?=aT o₀)(hk:∀b ob,b≠a->s.heap.get? b=aT ob->s'.heap.get? b=aT ob)(hg:s'.gens=s.gens)(hos:s'.os=s.os)
  (hr:kZ C ρ s'.heap o a):Rel C F ρ (m.put i o) s'/\ao F.W ρ s ρ s':=by
 have ham:a∈ρ:=Lo hi;have hs:aR s.heap s'.heap:=dv hk (cV (x.hp.objs i o₀ a h0 hi));have hb:C.base.StaysIn s'.heap:=λb ob e=>hk b ob (λq=>aK (x.hp.fresh a ham) (q▸e)) (x.hp.base b ob e);refine ⟨x.up ok hs (Lq _) (x.hp.put hs hi (λb hb hne ob e=>hk b ob hne e) hb hr) (λb h=>.inl h) (λb hb ob e=>⟨ob,hk b ob (λq=>(x.w b hb).1 (q▸ham)) e,rfl,rfl⟩)
  (λL hL ob eb=>⟨ob,hk L ob (λq=>(x.out L hL).1 (q▸ham)) eb,rfl,rfl⟩) hg,⟨Lq _,λb h=>.inl h,λb ob e h1 _=>.inl (hk b ob (λq=>h1 (q▸ham)) e),hs,λb ob e=>?_,hg,hos⟩⟩
 by_cases q:b=a
 ·subst q;exact hr.there
 ·exact ⟨ob,hk b ob q e⟩
theorem MS.get_at (h:m.get i=aT v):m.vars[i]?=aT (aT v):=by
 unfold MS.get at h
 cases e:m.vars[i]? with
 | none=>rw [e] at h;exact av h
 | some o=>
  rw [e] at h
  cases o with
  | none=>exact av h
  | some w=>exact congrArg (λz=>aT z) h
theorem MS.get_of (h:m.vars[i]?=aT (aT v)):m.get i=aT v:=by
 unfold MS.get;rw [h]
theorem MS.get_set (m:MS)(i j:Nat)(v w:MV)(h:(m.set i v).get j=aT w):(j=i/\w=v)\/(j≠i/\m.get j=aT w):=by
 have h:(m.vars.set i (aT v))[j]?=aT (aT w):=MS.get_at h;by_cases e:i=j
 ·subst e;have hlt:i<m.vars.length:=by
   have:=(By.mp h).1;rw [Pu] at this;exact this
  rw [OS hlt] at h;exact .inl ⟨rfl,(BY (BY h)).symm⟩
 ·rw [Ov e] at h;exact .inr ⟨λq=>e q.symm,MS.get_of h⟩
theorem Rel.own (x:Rel C F ρ m s)(ok:aJ F)(ha:a∈F.W)(hsb:L6 a s.heap s'.heap)(hg:s'.gens=s.gens)(hos:s'.os=s.os)(hm:m'.heap=m.heap)
  (hw:WOk s'.heap a) (hfr:∀o,s.heap.get? a=aT o->IsD o->∃o',s'.heap.get? a=aT o'/\IsD o') (hns:∃f,s'.heap.Ns F.env.locals f) (hcell:∀v,s.heap.IsCell a v->∃w,s'.heap.IsCell a w)
  (hv:aR s.heap s'.heap->∀i v,m'.get i=aT v->∃l,F.lay i=aT l/\Holds C ρ s'.heap l v):Rel C F ρ m' s'/\ao F.W ρ s ρ s':=by
 have hk:∀b ob,b≠a->s.heap.get? b=aT ob->s'.heap.get? b=aT ob:=λb ob q e=>(hsb.2 b q).trans e;have hL:=x.w _ (LC _ ha);have hs:aR s.heap s'.heap:=dv hk (iR hL.2.2);refine ⟨⟨?_,hns,λb hb=>?_,hv hs,λi c e=>?_,λe he=>?_,hg.trans x.gens⟩,⟨Lq _,λb h=>.inl h,λb ob e h1 h2=>.inl (hk b ob (λq=>h2 (q▸ha)) e),hs,λb ob e=>?_,hg,hos⟩⟩
 ·rw [hm];exact x.hp.up hs (λb hb ob e=>hk b ob (λq=>hL.1 (q▸hb)) e) λb ob e=>hk b ob (λq=>aK hL.2.1 (q▸e)) (x.hp.base b ob e)
 ·obtain ⟨h1,h2,o,h3,h4⟩:=x.w b hb;refine ⟨h1,h2,?_⟩;by_cases q:b=a
  ·subst q;exact hw
  ·exact ⟨o,hk b o q h3,h4⟩
 ·refine e22 (x.cells i c e) λv o h1 h2=>?_;by_cases q:c=a
  ·subst q;exact hcell v ⟨o,h1,h2⟩
  ·exact ⟨v,o,hk c o q h1,h2⟩
 ·obtain ⟨h1,h2,o,h3,h4⟩:=x.out e he;refine ⟨h1,h2,?_⟩;by_cases q:e=a
  ·subst q;exact hfr o h3 h4
  ·exact ⟨o,hk e o q h3,h4⟩
 ·by_cases q:b=a
  ·subst q;obtain ⟨o,e,_⟩:=hw;exact ⟨o,e⟩
  ·exact ⟨ob,hk b ob q e⟩
theorem Rel.setName (x:Rel C F ρ m s)(ok:aJ F){i:Nat}{n:Str}(hi:F.lay i=aT (.nm F.env.locals n)){f:Str->Option rW}{v:rW}{w:MV}(hf:s.heap.Ns F.env.locals f)
  (hn:s'.heap.Ns F.env.locals (λy=>if y=n then aT v else f y)) (hsb:L6 F.env.locals s.heap s'.heap) (hg:s'.gens=s.gens) (hos:s'.os=s.os) (hr:Rep C ρ s.heap w v) :
  Rel C F ρ (m.set i w) s'/\ao F.W ρ s ρ s':=by
 refine x.own ok ok.loc hsb hg hos rfl ?_ (λ_ _ _=>?_) ⟨_,hn⟩ (λv hc=>?_) λhs j u e=>?_
 ·obtain ⟨o,es,ep,ho,hd⟩:=mc hn;exact ⟨o,ho,.inl ⟨es,ep,hd⟩⟩
 ·obtain ⟨o,es,ep,ho,hd⟩:=mc hn;exact ⟨o,ho,es,ep,hd⟩
 ·exact dt hf hc
 ·rcases MS.get_set m i j w u e with ⟨rfl,rfl⟩ | ⟨hne,e⟩
  ·exact ⟨_,hi,_,v,hn,if_pos rfl,hr.up hs (Lq _)⟩
  ·refine e12 (x.vars j u e) λl h1 h2=>?_;refine ⟨l,h1,?_⟩;by_cases q:l.addr=F.env.locals
   ·cases l with
    | nm L y=>
     obtain rfl:L=F.env.locals:=q;obtain ⟨g,z,g1,g2,g3⟩:=h2;obtain rfl:=il g1 hf;exact ⟨_,z,hn,(if_neg λq:y=n=>hne (ok.inj j i _ h1 (by rw [q];exact hi))).trans g2,g3.up hs (Lq _)⟩
    | cl c=>
     obtain rfl:c=F.env.locals:=q;obtain ⟨z,hc,_⟩:=h2;exact dt hf hc
   ·exact h2.up hs (Lq _) λo e=>⟨o,(hsb.2 _ q).trans e,rfl,rfl⟩
theorem Rel.setCell (x:Rel C F ρ m s)(ok:aJ F){i:Nat}{c:Lr}(hi:F.lay i=aT (.cl c))(hcm:c∈F.W){v₀:Option rW}{v:rW}{w:MV}(h0:s.heap.IsCell c v₀)
  (hn:s'.heap.IsCell c (aT v)) (hsb:L6 c s.heap s'.heap) (hg:s'.gens=s.gens) (hos:s'.os=s.os) (hr:Rep C ρ s.heap w v) :
  Rel C F ρ (m.set i w) s'/\ao F.W ρ s ρ s':=by
 refine x.own ok hcm hsb hg hos rfl ?_ (λo e he=>?_) ?_ (λ_ _=>⟨_,hn⟩) λhs j u e=>?_
 ·refine e12 hn λo ho hd=>?_;exact ⟨o,ho,.inr ⟨_,hd⟩⟩
 ·refine e12 h0 λo' g1 g2=>?_;refine e21 he λ_ _ he=>?_;obtain rfl:=same e g1;exact nomatch g2.symm.trans he
 ·obtain ⟨f,hf⟩:=x.ns;exact ⟨f,hf.sameBut hsb λq=>dt hf (q▸h0)⟩
 ·rcases MS.get_set m i j w u e with ⟨rfl,rfl⟩ | ⟨hne,e⟩
  ·exact ⟨_,hi,v,hn,hr.up hs (Lq _)⟩
  ·refine e12 (x.vars j u e) λl h1 h2=>?_;refine ⟨l,h1,?_⟩;by_cases q:l.addr=c
   ·cases l with
    | nm L y=>
     obtain rfl:L=c:=q;obtain ⟨g,z,hg,_⟩:=h2;exact dt hg h0
    | cl c'=>
     obtain rfl:c'=c:=q;exact absurd (ok.inj j i _ h1 hi) hne
   ·exact h2.up hs (Lq _) λo e=>⟨o,(hsb.2 _ q).trans e,rfl,rfl⟩
end
section
variable {s:Do}
theorem mf (h:fB x):Builtin.Int.intBits x<=64:=by
 unfold fB at h;have f:∀y:Int,y.natAbs<2 ^ 63->y<2 ^ 64:=λy h=>Int.lt_of_le_of_lt Int.le_natAbs (M8.mpr (Pi h (show 2 ^ 63<2 ^ 64 by decide)));exact intBits_le_64 (Int.neg_lt_of_neg_lt (f (-x) (by rw [Int.natAbs_neg];exact h))) (f x h)
theorem wi {x y:Int}(h:0<y):x.fdiv y=x / y:=Int.fdiv_eq_ediv_of_nonneg x (PH h)
theorem wj {x y:Int}(h:0<y):x.fmod y=x % y:=Int.fmod_eq_emod_of_nonneg x (PH h)
theorem JR:line=sizeLine:=rfl
theorem bp (R:Rel C F ρ m s)(ok:aJ F)(hr:Rep C ρ s.heap x v)(h:Q x m):Out C F ρ s Q v { s with toks:=t }:=
 let ⟨R',st⟩:=R.tok ok t;⟨ρ,m,x,st,R',hr,h⟩
theorem bP (R:Rel C F ρ m s)(hr:Rep C ρ s.heap x v)(h:Q x m):Out C F ρ s Q v s:=⟨ρ,m,x,.refl _ _ _,R,hr,h⟩
theorem o4 (R:Rel C F ρ m s)(ok:aJ F)(hr:au C ρ s.heap xs vs)(hz:xs.length<=line)(h:Q (.tup xs) m) :
  Out C F ρ s Q (.ref s.heap.objs.size) { s with heap:=s.heap.push (o0 vs 0),toks:=t }:=by
 refine e02 (R.grow (s':={ s with heap:=s.heap.push (o0 vs 0),toks:=t }) ok (λa o e=>Lj _ e) rfl rfl) λR' st=>?_;exact ⟨ρ,m,_,st,R',.tup (LI _ rfl) (hr.step st) hz,h⟩
theorem lB (R:Rel C F ρ m s)(ok:aJ F)(hr:au C ρ s.heap xs vs)(hz:xs.length<=line)(h:Q (.ref m.heap.length) (m.push (.list xs))) :
  Out C F ρ s Q (.ref s.heap.objs.size) { s with heap:=s.heap.push (dQ vs 0),toks:=t }:=by
 have hk:∀a o,s.heap.get? a=aT o->(s.heap.push (dQ vs 0)).get? a=aT o:=λa o e=>Lj _ e;obtain ⟨R',st⟩:=R.alloc (s':={ s with heap:=s.heap.push (dQ vs 0),toks:=t }) ok hk rfl rfl (o:=.list xs) (a:=s.heap.objs.size) (bC (nO _))
  ⟨vs,0,LI _ rfl,hr.up (λa o e _=>hk a o e) (Mx _ _),hz⟩
 refine ⟨_,_,_,st,R',.ref (i:=m.heap.length) ?_,h⟩;rw [<-R.hp.len,LU (nO _)];simp
theorem su (x y:List Nat):str x++str y=str (x++y):=by
 show (⟨x.toArray++y.toArray⟩:Str)=⟨(x++y).toArray⟩;simp
theorem cO (x:List Nat):(str x).length=x.length:=by simp [Str.length]
theorem JS (x:List Nat):(str x).cps.toList=x:=by simp
noncomputable def wm:Op->Operator
 | .add=>.Add | .sub=>.Sub | .mul=>.Mult | .fdiv=>.FloorDiv | .mod=>.Mod | .pow=>.Pow
theorem sv (R:Rel C F ρ m s)(ok:aJ F)(hx:Rep C ρ s.heap (.tup x) v)(hy:Rep C ρ s.heap (.tup y) w)(h:x.length+y.length<=line/\Q (.tup (x++y)) m) :
  IF (mod C) A (binaryOp .Add v w) (Out C F ρ s Q) E s:=by
 obtain ⟨hl,hq⟩:=h;obtain ⟨t,n,vs,rfl,gx,lx,zx⟩:=hx.inv;obtain ⟨b,n2,ws,rfl,gy,ly,zy⟩:=hy.inv;have e:vs.toArray++ws.toArray=(vs++ws).toArray:=by simp
 by_cases hv:vs=[]
 ·subst hv;obtain rfl:=Nc.mp lx.length.symm;exact Ro ⟨_,gx,rfl⟩ ⟨_,gy,rfl⟩ QN Re PJ Pz (Pq _ _)
   (PyProof.Rows.tuple_addW0 t b ([]:List rW).toArray ws.toArray n n2 iD iD #[] #[] (by simp)) ⟨gx,gy,bP R hy hq⟩
 ·by_cases hw:ws=[]
  ·subst hw;obtain rfl:=Nc.mp ly.length.symm;exact Ro ⟨_,gx,rfl⟩ ⟨_,gy,rfl⟩ QN Re PJ Pz (Pq _ _)
    (PyProof.Rows.tuple_addW1 t b vs.toArray ([]:List rW).toArray n n2 iD iD #[] #[] (by simpa using hv) (by simp)) ⟨gx,gy,bP R hx (by rw [LJ] at hq;exact hq)⟩
  ·refine Ro ⟨_,gx,rfl⟩ ⟨_,gy,rfl⟩ QN Re PJ Pz (Pq _ _)
    (PyProof.Rows.tuple_addW2 t b vs.toArray ws.toArray n n2 iD iD #[] #[] (by simpa using hv) (by simpa using hw) (by rw [Lv,Lv,lx.length,ly.length];exact hl)) ⟨gx,gy,?_⟩
   rw [e];exact o4 R ok (lx.append ly) (by simpa using hl) hq
theorem ya (R:Rel C F ρ m s)(ok:aJ F){op:Op}(hop:op≠.add){x y:Int}{t u:Tok}(h:oY op x y Q m):IF (mod C) A (binaryOp (wm op) (.int x t) (.int y u)) (Out C F ρ s Q) E s:=by
 cases op with
 | add=>exact absurd rfl hop
 | sub=>exact PyProof.Rows.sub_int' (bp R ok (.int _ _) h)
 | mul=>exact PyProof.Rows.mul_int (bp R ok (.int _ _) h.2) (h.1.elim (λh=>.of_left (mf h)) λh=>.of_right (mf h))
 | fdiv=>
  refine e02 (jo h) λh1 h=>?_;have h1:=of_decide_eq_true h1;refine PyProof.Rows.floordiv_int (PG h1.1) ?_ (.inl (PyProof.noPylong_small (M8.mp (by rw [Int.natAbs_of_nonneg (PH h1.1)];exact h1.2))));rw [wi h1.1];exact bp R ok (.int _ _) h
 | mod=>
  refine e02 (jo h) λh1 h=>?_;have h1:=of_decide_eq_true h1;refine PyProof.Rows.mod_int' (PG h1) ?_;rw [wj h1];exact bp R ok (.int _ _) h
 | pow=>
  refine e02 (jo h) λh1 hq=>?_;obtain ⟨rfl,hy⟩:=of_decide_eq_true h1;exact PyProof.Rows.pow_int_small (by rcases hy with rfl | rfl<;>decide) (by rcases hy with rfl | rfl<;>decide) (by decide) (bp R ok (.int _ _) hq)
theorem lD {f:Int->Int->Prop}{x y:MV}{v w:rW}(hx:Rep C ρ s.heap x v)(hy:Rep C ρ s.heap y w)(h:onI x λa=>onI y λb=>f a b):∃a b t u,v=.int a t/\w=.int b u/\f a b:=by
 obtain ⟨a,rfl,h1⟩:=jn h;obtain ⟨b,rfl,h2⟩:=jn h1;obtain ⟨t,rfl⟩:=hx.inv;obtain ⟨u,rfl⟩:=hy.inv;exact ⟨a,b,t,u,rfl,rfl,h2⟩
theorem E3 (hx:Rep C ρ s.heap x v)(hy:Rep C ρ s.heap y w)(h:nT op x y Q m):∃a b t u,v=.int a t/\w=.int b u/\oY op a b Q m:=lD hx hy h
theorem sx (R:Rel C F ρ m s)(ok:aJ F)(zx:a.length<=line)(zy:b.length<=line)(h:a.length+b.length<=line/\Q (.str (a++b)) m):IF (mod C) A (binaryOp .Add (.str (str a) t) (.str (str b) u)) (Out C F ρ s Q) E s:=by
 refine P.add_str ?_;rw [cO,cO];by_cases ea:a=[]
 ·subst ea;exact bP R (.str b u zy) h.2
 ·by_cases eb:b=[]
  ·subst eb;rw [if_neg (by simpa using ea)];exact bP R (.str a t zx) (by rw [LJ] at h;exact h.2)
  ·rw [if_neg (by simpa using ea),if_neg (by simpa using eb),su];refine ⟨by rw [cO,iN];exact h.1,bp R ok (.str _ _ (by rw [iN];exact h.1)) h.2⟩
theorem qw (R:Rel C F ρ m s)(ok:aJ F)(hx:Rep C ρ s.heap (.ref i) v)(hy:Rep C ρ s.heap (.ref j) w)(h:xT (.ref i) (.ref j) Q m):IF (mod C) A (binaryOp .Add v w) (Out C F ρ s Q) E s:=by
 obtain ⟨a,rfl,ea⟩:=hx.inv;obtain ⟨b,rfl,eb⟩:=hy.inv;refine e12 (bB h) λx e1 h=>?_;refine e13 (bB h) λy e2 h1 h2=>?_;obtain ⟨ix,nx,gx,lx,zx⟩:=R.hp.objs _ _ _ e1 ea;obtain ⟨iy,ny,gy,ly,zy⟩:=R.hp.objs _ _ _ e2 eb;have e:ix.toArray++iy.toArray=(ix++iy).toArray:=Qj ..;refine P.add_list gx gy ?_ (by rw [Lv,Lv,lx.length,ly.length];exact h1);rw [e];exact lB R ok (lx.append ly) (by rw [iN];exact h1) h2
theorem E4 (R:Rel C F ρ m s)(ok:aJ F)(hx:Rep C ρ s.heap x v)(hy:Rep C ρ s.heap y w)(h:xT x y Q m):IF (mod C) A (binaryOp (wm .add) v w) (Out C F ρ s Q) E s:=by
 refine LL λhn=>?_
 cases x with
 | int a=>
  cases y with
  | int b=>
   obtain ⟨t,rfl⟩:=hx.inv;obtain ⟨u,rfl⟩:=hy.inv;exact hn (wpAny_add_int (bp R ok (.int _ _) h))
  | _=>exact h
 | str a=>
  cases y with
  | str b=>
   obtain ⟨t,rfl,zx⟩:=hx.inv;obtain ⟨u,rfl,zy⟩:=hy.inv;exact hn (sx R ok zx zy h)
  | _=>exact h
 | tup a=>
  cases y with
  | tup b=>exact hn (sv R ok hx hy h)
  | _=>exact h
 | ref i=>
  cases y with
  | ref j=>exact hn (qw R ok hx hy h)
  | _=>exact h
 | _=>exact h
end
section
variable {C:Glo}{F:Fm}{ρ:List Lr}{m:MS}{s:Do}{Q:PQ}{E:rW->Do->Prop}{A:MP}
theorem qx (v:rW):∀(n:Nat) (a:Array rW),(L4 n #[v]).foldl (λx y=>x++y) a=a++(L4 n v).toArray
 | 0,a=>by simp
 | n+1,a=>by
  show (L4 n #[v]).foldl (λx y=>x++y) (a++#[v])=_;rw [qx v n,Array.append_assoc,List.replicate_succ];exact congrArg (a++·) (Qj [v] (L4 n v))
theorem qy {x:MV}{v:rW}{h:LA}(r:Rep C ρ h x v):∀n,au C ρ h (L4 n x) (L4 n v)
 | 0=>.nil
 | n+1=>.cons r (qy r n)
theorem yb (R:Rel C F ρ m s)(ok:aJ F){i:Nat}{x:MV}{v:rW}{k:Int}{u:Tok}(hx:Rep C ρ s.heap (.ref i) v)(hi:m.heap[i]?=aT (.list [x]))(hk:0<=k/\k<=1000000)(hq:Q (.ref m.heap.length) (m.push (.list (L4 k.toNat x)))):IF (mod C) A (binaryOp .Mult v (.int k u)) (Out C F ρ s Q) E s:=by
 obtain ⟨a,rfl,ea⟩:=hx.inv;obtain ⟨items,n,g,rl,_⟩:=R.hp.objs _ _ _ hi ea;obtain ⟨w,rfl,rw'⟩:=rl.one;have hn:k.toNat<=1000000:=Rp.mpr hk.2;have e:(L4 (if ([w].toArray).isEmpty=eQ then 0 else k.toNat) [w].toArray).foldl (λx y=>x++y) #[]=(L4 k.toNat w).toArray:=(qx w k.toNat #[]).trans (Array.empty_append ..);refine wpAny_binaryOp_repeat_ref (T:="list") (U:="int") (by decide) ⟨_,g,rfl⟩ (λs'=>typeIs_int s' k u) noFill_list_mul PySem.F.fills_int_mul PySem.F.slot_int_rmul repeat_list PySem.F.slot_int_index.lookup (Pa PySem.F.slot_int_rmul (typeIs_int s k u) PySem.F.entry_int_rmul (PySem.F.args_int_rmul_2 _ _) (int___rmul___int_list k u a _ n) ⟨g,rfl,⟨_,g,rfl⟩,Pa PySem.F.slot_list_mul ⟨_,g,rfl⟩ PySem.F.entry_list_mul (PySem.F.args_list_mul_2 _ _) (AutoListH.list___mul___list_int_3 a _ n k u ?_ ?_ ?_) ⟨g,?_⟩⟩)
 ·simp [Ny];lia
 ·show ¬ 1 * k.toNat > _;lia
 ·show ¬ NP (1 * k.toNat)=eQ;simp [NP,sizeLine];lia
 ·rw [e];exact lB R ok (qy rw' _) (by rw [NH];exact iF hn (by decide)) hq
theorem E5 (R:Rel C F ρ m s)(ok:aJ F){x y:MV}{v w:rW}(hx:Rep C ρ s.heap x v)(hy:Rep C ρ s.heap y w)(h:DK x y Q m):IF (mod C) A (binaryOp (wm .mul) v w) (Out C F ρ s Q) E s:=by
 cases y with
 | int j=>
  obtain ⟨u,rfl⟩:=hy.inv
  cases x with
  | int i=>
   obtain ⟨t,rfl⟩:=hx.inv;exact ya R ok (by intro q;cases q) h
  | str s=>
   obtain ⟨t,rfl,_⟩:=hx.inv;exact ff (show t9=eQ from h.1)
  | ref i=>
   refine e12 (bB h) λxs hi h=>?_;obtain ⟨v,rfl,_,hk,hq⟩:=eZ h;exact yb R ok hx hi hk hq
  | _=>exact h.elim
 | _=>exact h.elim
end
section
theorem E6 (R:Rel C F ρ m s)(ok:aJ F)(hx:Rep C ρ s.heap x v)(hy:Rep C ρ s.heap y w)(h:DL op x y Q m) :
  IF (mod C) A (binaryOp (wm op) v w) (Out C F ρ s Q) E s:=by
 have key:op≠.add->nT op x y Q m->IF (mod C) A (binaryOp (wm op) v w) (Out C F ρ s Q) E s:=λhop h=>by
  obtain ⟨a,b,t,u,rfl,rfl,h⟩:=E3 hx hy h;exact ya R ok hop h
 cases op with
 | add=>exact E4 R ok hx hy h
 | mul=>exact E5 R ok hx hy h
 | sub=>exact key (by intro q;cases q) h
 | fdiv=>exact key (by intro q;cases q) h
 | mod=>exact key (by intro q;cases q) h
 | pow=>exact key (by intro q;cases q) h
end
section
set_option maxRecDepth 100000
theorem ue (n:Nat):dec n=(Nat.toDigits 10 n).map Char.toNat:=by
 show (Nat.repr n).toList.map QY=_;rw [Nat.toList_repr]
theorem JT (n:Nat):dec n≠[]:=λe=>by
 have h:=toDigits_len_ge 10 n;rw [<-tO (f:=QY),<-ue,e] at h;exact absurd h (by decide)
theorem o5 (h:0<=i/\i<1000000):1<=(dec i).length/\(dec i).length<=6:=by
 obtain ⟨n,rfl⟩:=My h.1;have e:(dec n).length=(Nat.repr n).length:=by
  show ((Nat.repr n).toList.map QY).length=_;rw [tO,String.length_toList]
 refine ⟨?_,?_⟩
 ·rw [ue,tO];exact toDigits_len_ge 10 n
 ·rw [e];exact (Nat.length_repr_le_iff (by decide)).mpr (by lia)
theorem Bl (h:-1<=i/\i<1000000):(dec i).length<=6:=by
 rcases Int.lt_or_le i 0 with q | q
 ·obtain rfl:i=-1:=by lia
  decide
 ·exact (o5 ⟨q,h.2⟩).2
end
mutual
noncomputable def D.py:D->PyData
 | .none=>.none
 | .bool b=>.bool b
 | .int i=>.int i
 | .str s=>.str (Internal.str s)
 | .list xs=>.list (D.pys xs)
 | .tup xs=>.tuple (D.pys xs)
noncomputable def D.pys:List D->List PyData
 | []=>[]
 | x::xs=>D.py x::D.pys xs
end
theorem mi:(Internal.str x==Internal.str y)=(x==y):=by
 rw [O3];simp
mutual
theorem D.eqv_py:∀(d e:D),PyData.eqv d.py e.py=d.deq e
 | .none,e=>by cases e<;>rfl
 | .bool b,e=>by cases e<;>rfl
 | .int b,e=>by cases e<;>rfl
 | .str b,e=>by
  cases e with
  | str c=>exact mi
  | _=>rfl
 | .list xs,e=>by
  cases e with
  | list ys=>exact D.eqvs_py xs ys
  | _=>rfl
 | .tup xs,e=>by
  cases e with
  | tup ys=>exact D.eqvs_py xs ys
  | _=>rfl
theorem D.eqvs_py:∀(d e:List D),PyData.eqvAll (D.pys d) (D.pys e)=D.deqs d e
 | [],[]=>rfl
 | [],_::_=>rfl
 | _::_,[]=>rfl
 | x::xs,y::ys=>by show (PyData.eqv x.py y.py&&PyData.eqvAll (D.pys xs) (D.pys ys))=(x.deq y&&D.deqs xs ys);rw [D.eqv_py x y,D.eqvs_py xs ys]
end
mutual
theorem D.lay_py:∀(d:D),d.ok=eQ->d.py.canLay0=eQ
 | .none,_=>rfl
 | .bool b,_=>rfl
 | .int b,_=>rfl
 | .str b,h=>by
  show PyData.strOk (Internal.str b)=eQ;simp only [PyData.strOk,List.all_toArray,LN,decide_eq_true_eq];intro c hc;have:=of_decide_eq_true (LN.mp h c hc);exact iF this (nb rfl)
 | .list xs,h=>D.lays_py xs h
 | .tup xs,h=>D.lays_py xs h
theorem D.lays_py:∀(d:List D),D.oks d=eQ->PyData.canLayAll0 (D.pys d)=eQ
 | [],_=>rfl
 | x::xs,h=>by
  have h:x.ok=eQ/\D.oks xs=eQ:=(ID ..).mp h;exact (ID ..).mpr ⟨D.lay_py x h.1,D.lays_py xs h.2⟩
end
mutual
theorem D.depth_py:∀(d:D),d.py.depth=d.deep
 | .none=>rfl
 | .bool b=>rfl
 | .int b=>rfl
 | .str b=>rfl
 | .list xs=>by show Qe (D.pys xs)+1=D.deeps xs+1;rw [D.depths_py xs]
 | .tup xs=>by show Qe (D.pys xs)+1=D.deeps xs+1;rw [D.depths_py xs]
theorem D.depths_py:∀(d:List D),Qe (D.pys d)=D.deeps d
 | []=>rfl
 | x::xs=>by show max x.py.depth (Qe (D.pys xs))=max x.deep (D.deeps xs);rw [D.depth_py x,D.depths_py xs]
end
section
theorem Rd.both (H:Hp C ρ hp h):(∀{x:MV}{d:D},Rd hp x d->∀v,Rep C ρ h x v->∃as,Reads h v d.py as)/\(∀{x:List MV}{d:List D},Rds hp x d->∀v,au C ρ h x v->∃as,ReadsAll h v (D.pys d) as):=by
 have k1:∀v,Rep C ρ h .none v->∃as,Reads h v D.none.py as:=λv r=>by obtain rfl:=r.inv;exact ⟨_,.none⟩
 have k2:∀b v,Rep C ρ h (.bool b) v->∃as,Reads h v (D.bool b).py as:=λb v r=>by obtain rfl:=r.inv;exact ⟨_,.bool b⟩
 have k3:∀i v,Rep C ρ h (.int i) v->∃as,Reads h v (D.int i).py as:=λi v r=>by obtain ⟨t,rfl⟩:=r.inv;exact ⟨_,.int i t⟩
 have k4:∀s v,Rep C ρ h (.str s) v->∃as,Reads h v (D.str s).py as:=λs v r=>by obtain ⟨t,rfl,_⟩:=r.inv;exact ⟨_,.str _ t⟩
 have k5:∀{xs ds},Rds hp xs ds->(∀v,au C ρ h xs v->∃as,ReadsAll h v (D.pys ds) as)->∀v,Rep C ρ h (.tup xs) v->∃as,Reads h v (D.tup ds).py as:=λ_ ih v r=>by
  obtain ⟨a,n,items,rfl,g,l,_⟩:=r.inv;obtain ⟨as,q⟩:=ih _ l;exact ⟨_,.tuple g rfl rfl q⟩
 have k6:∀{i xs ds},hp[i]?=aT (.list xs)->Rds hp xs ds->(∀v,au C ρ h xs v->∃as,ReadsAll h v (D.pys ds) as)->∀v,Rep C ρ h (.ref i) v->∃as,Reads h v (D.list ds).py as:=λhi _ ih v r=>by
  obtain ⟨a,rfl,e⟩:=r.inv;obtain ⟨items,n,g,r,_⟩:=H.objs _ _ _ hi e;obtain ⟨as,q⟩:=ih _ r;exact ⟨_,.list g rfl rfl q⟩
 have k7:∀v,au C ρ h [] v->∃as,ReadsAll h v (D.pys []) as:=λv r=>by obtain rfl:=r.inv;exact ⟨_,.nil⟩
 have k8:∀{x xs d ds},Rd hp x d->Rds hp xs ds->(∀v,Rep C ρ h x v->∃as,Reads h v d.py as)->(∀v,au C ρ h xs v->∃as,ReadsAll h v (D.pys ds) as)->∀v,au C ρ h (x::xs) v->∃as,ReadsAll h v (D.pys (d::ds)) as:=λ_ _ i1 i2 v r=>by
  obtain ⟨w,ws,rfl,a,b⟩:=r.inv;obtain ⟨as,q⟩:=i1 _ a;obtain ⟨bs,q'⟩:=i2 _ b;exact ⟨_,.cons q q'⟩
 exact ⟨λr=>Rd.rec (motive_1:=λx d _=>∀v,Rep C ρ h x v->∃as,Reads h v d.py as) (motive_2:=λx d _=>∀v,au C ρ h x v->∃as,ReadsAll h v (D.pys d) as) k1 k2 k3 k4 k5 k6 k7 k8 r,
  λr=>Rds.rec (motive_1:=λx d _=>∀v,Rep C ρ h x v->∃as,Reads h v d.py as) (motive_2:=λx d _=>∀v,au C ρ h x v->∃as,ReadsAll h v (D.pys d) as) k1 k2 k3 k4 k5 k6 k7 k8 r⟩
theorem Rd.reads (H:Hp C ρ hp h)(r:Rd hp x d)(q:Rep C ρ h x v):∃as,Reads h v d.py as:=(Rd.both H).1 r v q
inductive gM (s:Do)(P:Bool->Prop)(r:rW)(s':Do):Prop
 | mk (b:Bool) (t:Nat) (hr:r=.bool b) (hs:s'={ s with toks:=t }) (hp:P b):gM s P r s'
theorem E7 (R:Hp C ρ hp s.heap)(hx:Rep C ρ s.heap x v)(hy:Rep C ρ s.heap y w)(hd:Rd hp x d)(he:Rd hp y e)(hk:d.deep<=1000)(h1:d.ok=eQ)(h2:e.ok=eQ)
  (hu:A.units+1000<cLine) (h:P (d.deq e)):IF (mod C) A (compareOp .Eq v w) (gM s P) E s:=by
 obtain ⟨as,ra⟩:=hd.reads R hx;obtain ⟨bs,rb⟩:=he.reads R hy;refine SeqAt.compareEq_reads ra rb (d.lay_py h1) (e.lay_py h2) ?_ ⟨_,s.toks,rfl,rfl,?_⟩
 ·rw [D.depth_py,D.depth_py];exact IT (Mh (iF (NE ..) hk) _) hu
 ·rw [D.eqv_py];exact h
theorem E8 (R:Hp C ρ hp s.heap)(hx:Rep C ρ s.heap x v)(hy:Rep C ρ s.heap y w)(hd:Rd hp x d)(he:Rd hp y e)(hk:d.deep<=1000)(h1:d.ok=eQ)(h2:e.ok=eQ)
  (hu:A.units+1000<cLine) (h:P (!d.deq e)):IF (mod C) A (compareOp .NotEq v w) (gM s P) E s:=by
 obtain ⟨as,ra⟩:=hd.reads R hx;obtain ⟨bs,rb⟩:=he.reads R hy;refine SeqAt.compareNe_reads ra rb (d.lay_py h1) (e.lay_py h2) ?_ ⟨_,s.toks,rfl,rfl,?_⟩
 ·rw [D.depth_py,D.depth_py];exact IT (Mh (iF (NE ..) hk) _) hu
 ·rw [D.eqv_py];exact h
open SeqAt in
theorem yc (hx:Rep C ρ s.heap x v)(hy:Rep C ρ s.heap y w)(h:aeq x y=aT b):RcAt A s v w b/\RcNeAt A s v w (!b):=by
 refine LL λhn=>?_;have key:∀{c:Bool},RcAt A s v w c/\RcNeAt A s v w (!c)->aT c=aT b->False:=λ{c} q e=>by obtain rfl:=BY e;exact hn q
 clear hn
 cases x with
 | none=>
  cases hx.inv
  cases y with
  | none=>cases hy.inv;exact key ⟨RcAt.none_none,RcNeAt.none_none⟩ h
  | bool q=>cases hy.inv;exact key ⟨RcAt.none_bool q,RcNeAt.none_bool q⟩ h
  | int q=>obtain ⟨t,rfl⟩:=hy.inv;exact key ⟨RcAt.none_int q t,RcNeAt.none_int q t⟩ h
  | str q=>obtain ⟨t,rfl,_⟩:=hy.inv;exact key ⟨RcAt.none_str (Internal.str q) t,RcNeAt.none_str (Internal.str q) t⟩ h
  | _=>exact av h
 | bool p=>
  cases hx.inv
  cases y with
  | none=>cases hy.inv;exact key ⟨RcAt.bool_none p,RcNeAt.bool_none p⟩ h
  | bool q=>cases hy.inv;exact key ⟨RcAt.bool_bool p q,RcNeAt.bool_bool p q⟩ h
  | str q=>obtain ⟨t,rfl,_⟩:=hy.inv;exact key ⟨RcAt.bool_str p (Internal.str q) t,RcNeAt.bool_str p (Internal.str q) t⟩ h
  | _=>exact av h
 | int p=>
  obtain ⟨u,rfl⟩:=hx.inv
  cases y with
  | none=>cases hy.inv;exact key ⟨RcAt.int_none p u,RcNeAt.int_none p u⟩ h
  | int q=>obtain ⟨t,rfl⟩:=hy.inv;exact key ⟨RcAt.int_int p u q t,RcNeAt.int_int p u q t⟩ h
  | str q=>obtain ⟨t,rfl,_⟩:=hy.inv;exact key ⟨RcAt.int_str p u (Internal.str q) t,RcNeAt.int_str p u (Internal.str q) t⟩ h
  | _=>exact av h
 | str p=>
  obtain ⟨u,rfl,_⟩:=hx.inv
  cases y with
  | none=>cases hy.inv;exact key ⟨RcAt.str_none (Internal.str p) u,RcNeAt.str_none (Internal.str p) u⟩ h
  | bool q=>cases hy.inv;exact key ⟨RcAt.str_bool (Internal.str p) u q,RcNeAt.str_bool (Internal.str p) u q⟩ h
  | int q=>obtain ⟨t,rfl⟩:=hy.inv;exact key ⟨RcAt.str_int (Internal.str p) u q t,RcNeAt.str_int (Internal.str p) u q t⟩ h
  | str q=>obtain ⟨t,rfl,_⟩:=hy.inv;exact key ⟨RcAt.str_str (Internal.str p) u (Internal.str q) t,RcNeAt.str_str (Internal.str p) u (Internal.str q) t⟩ ((congrArg aT mi).trans h)
  | _=>exact av h
 | _=>exact av h
end
inductive XAt (h:LA)(K:Lr)(bm:List rW):Prop
 | mk (N:Lr) (nm q:Str) (bs:List rW) (hdct:Bool) (sn:List Str) (sub:List rW) (ab:Bool) (col:Option Bool) (dd:Option Lr) (k0 k1 k2 k3 k5:Option rW) (mN:Str->Option rW)
   (obj:h.get? K=aT (excClassObj nm q K N bs bm hdct sn sub ab col dd k0 k1 k2 k3 k5 "ValueError.__new__")) (ns:h.Ns N mN) (quiet:∀n∈j5,mN n=iD)
noncomputable def XCl (h:LA)(K:Lr)(bm:List rW):Prop:=XAt h K bm/\(bm=eX\/∃K0,bm=.ref K0::eX/\XAt h K0 eX)
structure GX (C:Glo):Prop where
 exc:∀k K,C.xa k=aT K->∃K0,C.xa 0=aT K0/\∃bm,XCl C.base K bm/\bm=(match k with
  | 0=>eX
  | _=>.ref K0::eX)
 xinj:∀j k K,C.xa j=aT K->C.xa k=aT K->j=k
structure GOk (C:Glo):Prop where
 sys:(C.base.get? sysModules).isSome=eQ
 nolimit:C.base.NoLimit
 fns:∀f a,C.fa f=aT a->∃o fd,C.base.get? a=aT o/\o.data=.func fd
 cls:∀k K,C.ca k=aT K->∃N,PyProof.Rows.ClsAt C.base K N (C.cm k)
 quiet:∀k K,C.ca k=aT K->C.cm k "__setattr__"=iD/\C.cm k "__getattribute__"=iD/\C.cm k "__getattr__"=iD
 x:GX C
section
theorem JU (G:GOk C)(H:Hp C ρ hp h)(ha:a∈ρ):(a==sysModules)=bY:=by
 have:=H.fresh a ha
 cases e:a==sysModules with
 | false=>rfl
 | true=>
  have:a=sysModules:=by simpa using e
  subst this;have g:=G.sys;rw [H.fresh _ ha] at g;exact ff g
theorem jt.length (r:jt C ρ h es kvs):kvs.length=es.length:=by
 induction r with
 | nil=>rfl
 | cons _ _ _ ih=>exact congrArg (·+1) ih
theorem o6 (e:str x=str y):x=y:=by
 have:(str x).cps.toList=(str y).cps.toList:=by rw [e]
 simpa using this
theorem jt.get (r:jt C ρ h es kvs)(k:List Nat):match cK es k with
  | some x=>∃v,valueAt kvs (str k)=aT v/\Rep C ρ h x v
  | none=>valueAt kvs (str k)=iD:=by
 induction r with
 | nil=>rfl
 | @cons k' x v es ds z a b ih=>
  show match (match k'==k with
   | true=>aT x
   | false=>cK es k) with
  | some x=>∃v',valueAt ((str k',v)::ds) (str k)=aT v'/\Rep C ρ h x v'
  | none=>valueAt ((str k',v)::ds) (str k)=iD
  by_cases e:k'=k
  ·subst e;rw [beq_self_eq_true];exact ⟨v,by simp [valueAt],a⟩
  ·have e2:¬ str k'=str k:=λq=>e (o6 q);have e1:(k'==k)=bY:=by simpa using e
   have ev:valueAt ((str k',v)::ds) (str k)=valueAt ds (str k):=by simp [valueAt,e2]
   rw [e1,ev];exact ih
end
section
set_option maxRecDepth 100000
section
variable {prog:M6}{w:Ni}{A:MP}{E:rW->Do->Prop}{h:LA}{g:Array GenState}{d:Drawn}{t:Nat}{os:OsState}{a:Lr}{o:OQ}
variable {nm q:Str}{C N:Lr}{bs bm bmB:List rW}{hdct:Bool}{sn:List Str}{sub:List rW}{ab:Bool}{col:Option Bool}{dd:Option Lr}{k0 k1 k2 k3 k5:Option rW}{mN:Str->Option rW}
theorem XAt.keeps {h h':LA}{K:Lr}{bm:List rW}(x:XAt h K bm)(k:∀b o,h.get? b=aT o->h'.get? b=aT o):XAt h' K bm:=by
 obtain ⟨N,nm,q,bs,hdct,sn,sub,ab,col,dd,k0,k1,k2,k3,k5,mN,e,n,r⟩:=x;exact ⟨N,nm,q,bs,hdct,sn,sub,ab,col,dd,k0,k1,k2,k3,k5,mN,k _ _ e,n.keeps k,r⟩
theorem XCl.keeps {h h':LA}{K:Lr}{bm:List rW}(x:XCl h K bm)(k:∀b o,h.get? b=aT o->h'.get? b=aT o):XCl h' K bm:=
 ⟨x.1.keeps k,x.2.imp id λ⟨K0,e,y⟩=>⟨K0,e,y.keeps k⟩⟩
theorem XCl.tail {K:Lr}(x:XCl h K bm):OwnTail h eX bm:=by
 rcases x.2 with rfl | ⟨K0,rfl,y⟩
 ·exact .base
 ·obtain ⟨N,nm,q,bs,hdct,sn,sub,ab,col,dd,k0,k1,k2,k3,k5,mN,e,n,r⟩:=y;exact .own e n (r _ (.head _)) .base
theorem XCl.lookup {M:Qi}{K:Lr}{n:Str}{y:Option rW}{Q:Option rW->Do->Prop}(x:XCl h K bm)(hn:n∈j5)(hB:typeLookup (.type "ValueError") n=pure y)(hq:Q y ⟨h,g,d,t,os⟩) :
  IF M A (typeLookup (.ref K) n) Q E ⟨h,g,d,t,os⟩:=by
 have hrest:lookupAlong eX n=pure y:=by rw [typeLookup_eq,Oi.mro] at hB;exact hB
 obtain ⟨N,nm,q,bs,hdct,sn,sub,ab,col,dd,k0,k1,k2,k3,k5,mN,e,hN,r⟩:=x.1;rw [typeLookup_eq];refine iS (wpAny_mroOf_exc e ?_);rw [lookupAlong_cons];refine iS (wpAny_classOwn_exc e hN ?_);rw [r n hn]
 rcases x.2 with rfl | ⟨K0,rfl,y0⟩
 ·rw [hrest];exact EQ hq
 ·obtain ⟨N',nm',q',bs',hdct',sn',sub',ab',col',dd',l0,l1,l2,l3,l5,mN',e',hN',r'⟩:=y0;show IF M A (lookupAlong (.ref K0::eX) n) Q E _;rw [lookupAlong_cons];refine iS (wpAny_classOwn_exc e' hN' ?_);rw [r' n hn];show IF M A (lookupAlong eX n) Q E _;rw [hrest];exact EQ hq
theorem XCl.has {K:Lr}(x:XCl h K bm)(T:String)(e:eX.contains (.type T)=eQ):(Ml K::bm).contains (.type T)=eQ:=by
 rw [Pv,x.tail.hasType e,Rq]
theorem qA:typeLookup (.type "ValueError") "__class__"=pure (aT (.builtin "object.__class__")):=by rw [O4,NJ];kernel_rfl
theorem sy {K:Lr}{R:Result->Do->Prop}(x:XCl h K bm)(hx:h.get? a=aT o)(hc:o.cls=.ref K)(hq:R (.ok (.ret (.ref K))) ⟨h,g,d,t,os⟩) :
  Ra (model prog w) A (.call (.builtin "getset_descriptor.__get__") ⟨[.builtin "object.__class__",.ref a,.ref K],[]⟩) R ⟨h,g,d,t,os⟩:=by
 obtain ⟨N,nm,q,bs,hdct,sn,sub,ab,col,dd,k0,k1,k2,k3,k5,mN,hC,hN,_⟩:=x.1;have hT5:(⟨h,g,d,t,os⟩:Do).TypeIs (.builtin "object.__class__") "getset_descriptor":=PW;have hcB:(Ml K::bm).contains (.type (".".intercalate ("object.__class__".cutAt '.').dropLast))=eQ:=by
  rw [F.owner_object_class];exact x.has "object" (by decide +kernel)
 refine P8 Rg.plain F.entry_gs_get (Rg.check _ _ _ _ _ _ _ _ hT5 (F.args_gs_get _ _ _) ?_)
 repeat (any_goals (first | assumption | (with_reducible refine L8 hx ?_;rw [hc]) | (with_reducible refine Nj hC ?_;rw [hcB]) | wp_step))
 refine ⟨Pw _ (by decide +kernel),Ot F.entry_object_class ?_⟩
 repeat (any_goals (first | assumption | (with_reducible refine L8 hx ?_;rw [hc]) | wp_step))
theorem wn {M:Qi}{nameV:rW}{K:Lr}{Q:Unit->Do->Prop}(x:XCl h K bm)(hx:h.get? a=aT o)(hc:o.cls=.ref K)(hq:Q () ⟨h,g,d,t,os⟩):IF M A (checkBuiltinCall "BaseException.__getattribute__" ⟨[.ref a,nameV],[]⟩) Q E ⟨h,g,d,t,os⟩:=by
 obtain ⟨N,nm,q,bs,hdct,sn,sub,ab,col,dd,k0,k1,k2,k3,k5,mN,hC,hN,_⟩:=x.1;have hk:builtinKind "BaseException.__getattribute__"=aT .slot:=by decide +kernel
 have hsplit:splitId "BaseException.__getattribute__"=aT ("BaseException","__getattribute__"):=by decide +kernel
 have hcB:(Ml K::bm).contains (.type "BaseException")=eQ:=x.has "BaseException" (by decide +kernel);have ha:=F.args_bexc_ga (.ref a) nameV;simp only [checkBuiltinCall,hk,hsplit];refine iS ?_
 ·unfold isInstance
  repeat (first | (with_reducible refine L8 hx ?_;rw [hc]) | (with_reducible refine Nj hC ?_;rw [hcB]) | wp_step)
  exact hq
theorem o7 {tk:Tok}{K:Lr}{Q:Fin->Do->Prop}(x:XCl h K bm)(hx:h.get? a=aT o)(hc:o.cls=.ref K)(hq:Q (.done (.ret (.ref K))) ⟨h,g,d,t,os⟩) :
  IF (model prog w) A (Builtin.«object.__getattribute__» ⟨[.ref a,.str "__class__" tk],[]⟩) Q E ⟨h,g,d,t,os⟩:=by
 have hT5:(⟨h,g,d,t,os⟩:Do).TypeIs (.builtin "object.__class__") "getset_descriptor":=PW;have f5:=PW;have f6:=Rg.lookup;have f7:=F.slot_gs_set.lookup;have hm:("__class__":Str)∈j5:=.tail _ (.tail _ (.tail _ (.head _)))
 repeat (any_goals (first | assumption | (with_reducible refine L8 hx ?_;rw [hc]) | with_reducible refine x.lookup hm qA ?_ | wp_step))
 refine sy x hx hc ?_
 repeat (any_goals (first | assumption | wp_step))
theorem wo {tk:Tok}{K:Lr}{Q:rW->Do->Prop}(x:XCl h K bm)(hx:h.get? a=aT o)(hc:o.cls=.ref K)(hq:Q (.ref K) ⟨h,g,d,t,os⟩) :
  IF (model prog w) A (getAttrBy (.ref a) (.str "__class__" tk) bY) Q E ⟨h,g,d,t,os⟩:=by
 have f3:=Oi.ga.bind (.ref a);have hm1:("__getattribute__":Str)∈j5:=.tail _ (.head _);have hm2:("__getattr__":Str)∈j5:=.tail _ (.tail _ (.head _));have hx2:(QJ "BaseException.__getattribute__"==QJ "object.__getattribute__")=bY:=by decide +kernel
 have hx1:(onTheHeap (Ml K)&&QJ "BaseException.__getattribute__"==QJ "object.__getattribute__")=bY:=by rw [hx2];rfl
 repeat (any_goals (first | assumption | (with_reducible refine L8 hx ?_;rw [hc]) | with_reducible refine x.lookup hm1 Oi.ga.lookup ?_ | with_reducible refine x.lookup hm2 Oi.noGetattr ?_ | wp_step))
 refine P8 Oi.ga.plain F.entry_bexc_ga (wn x hx hc (o7 x hx hc ?_))
 repeat (any_goals (first | assumption | wp_step))
theorem qB {K:Lr}{Q:Option rW->Do->Prop}(x:XCl h K bm)(hx:h.get? a=aT o)(hc:o.cls=.ref K)(hq:Q (aT (.ref K)) ⟨h,g,d,t+1,os⟩):IF (model prog w) A (getAttr? (.ref a) "__class__") Q E ⟨h,g,d,t,os⟩:=by
 unfold getAttr? getAttrBy?
 repeat (any_goals (first | assumption | with_reducible apply wo x hx hc | wp_step))
end
end
section
set_option maxRecDepth 100000
section
variable {prog:M6}{w:Ni}{A:MP}{E:rW->Do->Prop}{h:LA}{g:Array GenState}{d:Drawn}{t:Nat}{os:OsState}{a:Lr}{o:OQ}{bm bmD:List rW}
theorem wq {K D:Lr}{dep:Int}{tk:Tok}{Q:Fin->Do->Prop}(x:XCl h K bm)(y:XCl h D bmD)(hx:h.get? a=aT o)(hc:o.cls=.ref K)(hb:(Ml K::bm).contains (.ref D)=eQ)(hq:Q (.done (.ret (.bool eQ))) ⟨h,g,d,t,os⟩) :
  IF (model prog w) A (Builtin.«isinstance.nested» ⟨[.ref a,.ref D,.int dep tk],[]⟩) Q E ⟨h,g,d,t,os⟩:=by
 obtain ⟨N,nm,q,bs,hdct,sn,sub,ab,col,dd,k0,k1,k2,k3,k5,mN,hC,hN,_⟩:=x.1;obtain ⟨N',nm',q',bs',hdct',sn',sub',ab',col',dd',l0,l1,l2,l3,l5,mN',hD,hN',r'⟩:=y.1;have hTD:(⟨h,g,d,t,os⟩:Do).TypeIs (.ref D) "type":=⟨_,hD,rfl⟩
 by_cases he:(Ml K==Ml D)=eQ
 ·repeat (any_goals (first | assumption | (with_reducible refine L8 hx ?_;rw [hc]) | wp_step))
 ·have he':(Ml K==Ml D)=bY:=by simpa using he
  repeat (any_goals (first | assumption | (with_reducible refine L8 hx ?_;rw [hc]) | with_reducible refine L8 hD ?_ | (with_reducible refine Nj hC ?_;rw [hb]) | wp_step))
theorem sB {K D:Lr}{dep:Int}{tk:Tok}{Q:Fin->Do->Prop}(x:XCl h K bm)(y:XCl h D bmD)(hx:h.get? a=aT o)(hc:o.cls=.ref K)(hb:(Ml K::bm).contains (.ref D)=bY)(hq:Q (.done (.ret (.bool bY))) ⟨h,g,d,t+1,os⟩) :
  IF (model prog w) A (Builtin.«isinstance.nested» ⟨[.ref a,.ref D,.int dep tk],[]⟩) Q E ⟨h,g,d,t,os⟩:=by
 obtain ⟨N,nm,q,bs,hdct,sn,sub,ab,col,dd,k0,k1,k2,k3,k5,mN,hC,hN,_⟩:=x.1;obtain ⟨N',nm',q',bs',hdct',sn',sub',ab',col',dd',l0,l1,l2,l3,l5,mN',hD,hN',r'⟩:=y.1;have hTD:(⟨h,g,d,t,os⟩:Do).TypeIs (.ref D) "type":=⟨_,hD,rfl⟩
 have hTK:(⟨h,g,d,t+1,os⟩:Do).TypeIs (.ref K) "type":=⟨_,hC,rfl⟩
 have he':(Ml K==Ml D)=bY:=by
  rw [Pv,NV] at hb;rw [<-hb.1];exact O3.mpr ⟨λq=>by rw [eq_of_beq q];exact beq_self_eq_true _,λq=>by rw [eq_of_beq q];exact beq_self_eq_true _⟩
 repeat (any_goals (first | assumption | (with_reducible refine L8 hx ?_;rw [hc]) | with_reducible refine L8 hD ?_ | with_reducible refine L8 hC ?_ | (with_reducible refine Nj hC ?_;rw [hb]) | with_reducible apply qB x hx hc | wp_step))
theorem Bm {K:Lr}{dep:Int}{tk:Tok}{Q:Fin->Do->Prop}(x:XCl h K bm)(hx:h.get? a=aT o)(hc:o.cls=.ref K)(hq:Q (.done (.ret (.bool eQ))) ⟨h,g,d,t,os⟩) :
  IF (model prog w) A (Builtin.«isinstance.nested» ⟨[.ref a,.type "ValueError",.int dep tk],[]⟩) Q E ⟨h,g,d,t,os⟩:=by
 obtain ⟨N,nm,q,bs,hdct,sn,sub,ab,col,dd,k0,k1,k2,k3,k5,mN,hC,hN,_⟩:=x.1;have hty:typeOf (.type "ValueError")=pure (.type "type"):=by kernel_rfl
 have hb:=x.has "ValueError" (by decide +kernel);have he':(Ml K==OA "ValueError")=bY:=rfl
 repeat (any_goals (first | assumption | (with_reducible refine L8 hx ?_;rw [hc]) | (with_reducible refine Nj hC ?_;rw [hb]) | wp_step))
theorem wu {s:Do}{K D:Lr}{Q:rW->Do->Prop}(x:XCl s.heap K bm)(y:XCl s.heap D bmD)(hx:s.heap.get? a=aT o)(hc:o.cls=.ref K)(hq:∀tk,Q (.bool ((Ml K::bm).contains (.ref D))) { s with toks:=tk }) :
  IF (model prog w) A (call (.builtin "isinstance") [.ref a,.ref D]) Q E s:=by
 refine Q1 (S:=λ_ R s'=>s'=s/\∀tk,R (.ok (.ret (.bool ((Ml K::bm).contains (.ref D))))) { s with toks:=tk }) (λ_ _ _ _ s' hs=>?_) ⟨rfl,hq⟩;obtain ⟨rfl,hs⟩:=hs;refine QO ?_;obtain ⟨h,g,d,t,os⟩:=s'
 cases hb:(Ml K::bm).contains (.ref D) with
 | true=>rw [hb] at hs;exact wq x y hx hc hb (hs t)
 | false=>rw [hb] at hs;exact sB x y hx hc hb (hs (t+1))
theorem o9 {s:Do}{K:Lr}{Q:rW->Do->Prop}(x:XCl s.heap K bm)(hx:s.heap.get? a=aT o)(hc:o.cls=.ref K)(hq:Q (.bool eQ) s) :
  IF (model prog w) A (call (.builtin "isinstance") [.ref a,.type "ValueError"]) Q E s:=by
 refine Q1 (S:=λ_ R s'=>s'=s/\R (.ok (.ret (.bool eQ))) s) (λ_ _ _ _ s' hs=>?_) ⟨rfl,hq⟩;obtain ⟨rfl,hs⟩:=hs;refine QO ?_;obtain ⟨h,g,d,t,os⟩:=s';exact Bm x hx hc hs
end
end
section
noncomputable def Ir (hp:List MO)(xs:List MV)(ds:List D):Prop:=match xs with
 | []=>ds=[]
 | x::r=>∃d es,ds=d::es/\Rd hp x d/\Rds hp r es
theorem Rds.inv (r:Rds hp xs ds):Ir hp xs ds:=Rds.casesOn (motive_2:=λxs ds _=>Ir hp xs ds) r rfl (λa b=>⟨_,_,rfl,a,b⟩)
theorem Rds.get {xs:List MV}{ds:List D}(r:Rds hp xs ds){j:Nat}{x:MV}(e:xs[j]?=aT x):∃d,ds[j]?=aT d/\Rd hp x d:=by
 induction xs generalizing ds j with
 | nil=>exact av e
 | cons y xs ih=>
  obtain ⟨d,es,rfl,a,b⟩:=r.inv
  cases j with
  | zero=>obtain rfl:=BY e;exact ⟨_,rfl,a⟩
  | succ j=>exact ih b e
theorem Rds.length (r:Rds hp xs ds):ds.length=xs.length:=by
 induction xs generalizing ds with
 | nil=>rw [r.inv];rfl
 | cons y xs ih=>
  obtain ⟨d,es,rfl,a,b⟩:=r.inv;exact congrArg (·+1) (ih b)
theorem ug:∀{ds:List D},D.oks ds=eQ->∀{j:Nat}{d:D},ds[j]?=aT d->d.ok=eQ
 | [],_,_,_,e=>by exact av e
 | d::ds,h,0,_,e=>by obtain rfl:=BY e;exact ((ID ..).mp h).1
 | d::ds,h,i+1,_,e=>ug ((ID ..).mp h).2 e
theorem E9 (H:Hp C ρ hp s.heap)(hx:Rep C ρ s.heap x v)(hy:Rep C ρ s.heap y w)(hd:Rd hp x d)(he:Rd hp y e)(hk:e.deep<=1000)(h1:d.ok=eQ)(h2:e.ok=eQ)
  (hu:A.units+1000<cLine):P4 A s v w (d.deq e):=by
 refine e11 (hd.reads H hx) λas ra=>?_;refine e11 (he.reads H hy) λbs rb=>?_;rw [<-D.eqv_py];exact SeqAt.eqAt_reads _ _ A s v w _ _ ra rb (d.lay_py h1) (e.lay_py h2) (by rw [D.depth_py,D.depth_py];exact IT (Mh (iF (P5 ..) hk) _) hu)
open Classical in
theorem wv (H:Hp C ρ hp s.heap){x:MV}{v:rW}{ys:List MV}{ws:List rW}(hx:Rep C ρ s.heap x v)(hy:au C ρ s.heap ys ws){d:D}{es:List D}(hd:Rd hp x d)(he:Rds hp ys es)(hk:d.deep<=1000)
  (h1:d.ok=eQ) (h2:D.oks es=eQ) (hu:A.units+1000<cLine) :
  ∃e:rW->Bool,(∀y,y∈ws.toArray->P4 A s y v (e y))/\ws.toArray.any e=es.any (λe=>e.deq d):=by
 have item:∀j y,ws[j]?=aT y->∃e:D,es[j]?=aT e/\P4 A s y v (e.deq d):=λj y hj=>by
  have hlt:j<ys.length:=by rw [<-hy.length];exact (By.mp hj).1
  refine e12 (he.get (Ls hlt)) λe e1 e2=>?_;refine e12 (hy.get (Ls hlt)) λw w1 w2=>?_;obtain rfl:=same hj w1;exact ⟨e,e1,E9 H w2 hx e2 hd hk (ug h2 e1) h1 hu⟩
 refine ⟨λy=>decide (∃(j:Nat) (e:D),ws[j]?=aT y/\es[j]?=aT e/\e.deq d=eQ),λy hy'=>?_,?_⟩
 ·refine e11 (O6.mp (by simpa using hy':y∈ws)) λj hj=>?_;refine e12 (item j y hj) λe e1 e2=>?_;show P4 A s y v (decide (∃(j:Nat) (e:D),ws[j]?=aT y/\es[j]?=aT e/\e.deq d=eQ));by_cases q:∃(j:Nat) (e:D),ws[j]?=aT y/\es[j]?=aT e/\e.deq d=eQ
  ·rw [decide_eq_true q];refine e23 q λk e' k1 k2 k3=>?_;refine e12 (item k y k1) λe'' e3 e4=>?_;obtain rfl:=same k2 e3;rw [k3] at e4;exact e4
  ·rw [decide_eq_false q]
   cases b:e.deq d with
   | false=>rw [b] at e2;exact e2
   | true=>exact absurd ⟨j,e,hj,e1,b⟩ q
 ·rw [O3];simp only [List.any_toArray,Ob,decide_eq_true_eq];constructor
  ·rintro ⟨y,_,j,e,_,h4,h5⟩
   exact ⟨e,Lo h4,h5⟩
  ·rintro ⟨e,he',h5⟩
   obtain ⟨j,hj⟩:=O6.mp he';have hlt:j<ws.length:=by rw [hy.length,<-he.length];exact (By.mp hj).1
   exact ⟨ws[j],MC hlt,j,e,Ls hlt,hj,h5⟩
theorem sD (H:Hp C ρ hp s.heap)(hx:Rep C ρ s.heap x v)(l:au C ρ s.heap ys ws)(hu:A.units+1001<cLine)(h:InP hp x ys P)
  (k:∀e:rW->Bool,(∀y,y∈ws.toArray->P4 A.in1 s y v (e y))->gM s P (.bool (ws.toArray.any e)) s->IF (mod C) A (compareOp .In v (.ref a)) (gM s P) E s):IF (mod C) A (compareOp .In v (.ref a)) (gM s P) E s:=by
 obtain ⟨d,es,hd,he,hk,h1,h2,hq⟩:=h;obtain ⟨e,e1,e2⟩:=wv (A:=A.in1) H hx l hd he hk h1 h2 (by simp;exact hu);exact k e e1 ⟨_,s.toks,rfl,rfl,by rw [e2];exact hq⟩
theorem kJ (prog:M6)(w:Ni)(x:Str)(t:Tok):(strKind prog w).is x (.str x t)=eQ:=by simp [Mz,rW.isStrOf]
theorem Bn (H:Hp C ρ hp s.heap)(hx:Rep C ρ s.heap x v)(hs:(a==sysModules)=bY)(dk:s.heap.DictOf (strKind C.prog C.w) a kvs)(rk:jt C ρ s.heap es kvs)(h:onS x λs=>P (cK es s).isSome) :
  IF (mod C) A (compareOp .In v (.ref a)) (gM s P) E s:=by
 obtain ⟨k,rfl,hq⟩:=oX h;obtain ⟨t,rfl,_⟩:=hx.inv;refine wpAny_in_of (kJ C.prog C.w (str k) t) hs dk.mapOf ⟨_,s.toks+1,rfl,rfl,?_⟩;have:=rk.get k
 cases e:cK es k with
 | none=>rw [e] at this hq;rw [this];exact hq
 | some x=>rw [e] at this hq;obtain ⟨v,e',_⟩:=this;rw [e'];exact hq
theorem Fa (G:GOk C)(H:Hp C ρ hp s.heap)(hx:Rep C ρ s.heap x v)(hc:Rep C ρ s.heap (.ref i) w)(hu:A.units+1001<cLine)(h:DJ hp[i]? x P hp) :
  IF (mod C) A (compareOp .In v w) (gM s P) E s:=by
 obtain ⟨a,rfl,g⟩:=hc.inv;refine e12 (bB h) λys hi h=>?_;obtain ⟨items,n,gi,l,_⟩:=H.objs _ _ _ hi g;exact sD H hx l hu h λe e1 e2=>SeqAt.in_listAt e ⟨_,gi,rfl,_,rfl⟩ e1 e2
theorem DV (G:GOk C)(H:Hp C ρ hp s.heap)(hx:Rep C ρ s.heap x v)(hc:Rep C ρ s.heap c w)(hu:A.units+1001<cLine)(h:ES x c P hp) :
  IF (mod C) A (compareOp .In v w) (gM s P) E s:=by
 refine LL λhn=>?_
 cases c with
 | tup ys=>
  obtain ⟨a,n,items,rfl,g,l,_⟩:=hc.inv;exact hn (sD H hx l hu h λe e1 e2=>SeqAt.in_tupleAt e ⟨_,g,rfl,_,rfl⟩ e1 e2)
 | gt ss=>
  obtain ⟨a,o,items,n,rfl,g,g1,g2,l⟩:=hc.inv;exact hn (sD H hx l hu h λe e1 e2=>SeqAt.in_tupleAt e ⟨_,H.base _ _ g,g1,_,g2⟩ e1 e2)
 | ref i=>exact hn (Fa G H hx hc hu h)
 | cdict es=>
  obtain ⟨a,kvs,rfl,hs,⟨o,ds,ep,e,r⟩,ck⟩:=hc.inv;exact hn (Bn H hx hs ⟨o,ds,ep,H.base _ _ e,r⟩ ck.rep h)
 | str s'=>
  obtain ⟨t,rfl,_⟩:=hc.inv;obtain ⟨y,rfl,h1⟩:=oX h;obtain ⟨a,rfl,h2⟩:=Be h1;obtain ⟨u,rfl,_⟩:=hx.inv;refine hn (PySem.P.in_str ⟨_,s.toks,rfl,rfl,?_⟩);rw [show _=_ from StrLaws.found_one (str s') a]
  simpa using h2
 | _=>exact h
theorem yd (h:IF (mod C) A (compareOp .In v w) (gM s (λb=>P (!b))) E s):IF (mod C) A (compareOp .NotIn v w) (gM s P) E s:=λΓ p hΓ=>by
 have this:Sem.wp _ Γ (contains w v >>= λb=>pure (rW.bool b)) _ _ p s:=h Γ p hΓ;show Sem.wp _ Γ (contains w v >>= λb=>pure (rW.bool (!b))) _ _ p s;rw [Sem.wp_bind'] at this ⊢;refine Sem.wp_mono _ Γ _ (λb p' s' h'=>?_) (λ_ _ _ h'=>h') _ _ this;obtain ⟨b',t,e1,e2,e3⟩:=h'
 cases e1
 exact ⟨_,t,rfl,e2,e3⟩
noncomputable def iU:Cmp->CmpOp
 | .eq=>.Eq | .ne=>.NotEq | .lt=>.Lt | .le=>.LtE | .gt=>.Gt | .inn=>.In | .nin=>.NotIn
open SeqAt in
theorem ye (H:Hp C ρ hp s.heap)(hx:Rep C ρ s.heap (.ref i) v)(hy:Rep C ρ s.heap (.ref j) w)(hi:hp[i]?=aT (.list xs))(hj:hp[j]?=aT (.list []))(hu:A.units<cLine) :
  (P (.bool xs.isEmpty) s->IF (mod C) A (compareOp .Eq v w) P E s)/\(P (.bool (!xs.isEmpty)) s->IF (mod C) A (compareOp .NotEq v w) P E s):=by
 obtain ⟨a,rfl,g⟩:=hx.inv;obtain ⟨b,rfl,g'⟩:=hy.inv;obtain ⟨items,n,gi,l,_⟩:=H.objs _ _ _ hi g;obtain ⟨items',n',gi',l',_⟩:=H.objs _ _ _ hj g';obtain rfl:=l'.inv;have hl:s.heap.IsList _ items.toArray:=⟨_,gi,rfl,_,rfl⟩
 have hl':s.heap.IsList _ ([]:List rW).toArray:=⟨_,gi',rfl,_,rfl⟩
 cases xs with
 | nil=>
  obtain rfl:=l.inv;exact ⟨RcAt.lists (e:=λ_=>eQ) hl hl' rfl hu (λj h=>absurd h (N0 j)) _ _ _ _,RcNeAt.lists (e:=λ_=>eQ) hl hl' rfl hu (λj h=>absurd h (N0 j)) _ _ _ _⟩
 | cons x xs=>
  obtain ⟨v,ws,rfl,_⟩:=l.inv;exact ⟨RcAt.lists_lengths hl hl' rfl hu _ _ _ _,RcNeAt.lists_lengths hl hl' rfl hu _ _ _ _⟩
theorem Fb (G:GOk C)(H:Hp C ρ m.heap s.heap)(hx:Rep C ρ s.heap x v)(hy:Rep C ρ s.heap y w)(hu:A.units+1001<cLine)(h:kG op x y P m) :
  IF (mod C) A (compareOp (iU op) v w) (gM s (λb=>P b m)) E s:=by
 have hu':A.units<cLine:=IT (LQ ..) hu;have hu2:A.units+1000<cLine:=Mf hu;have out:∀{b:Bool},P b m->gM s (λb=>P b m) (.bool b) s:=λh=>⟨_,s.toks,rfl,rfl,h⟩
 cases op with
 | eq=>
  obtain ⟨b,e,h⟩ | h:=ua h
  ·exact (yc (A:=A) hx hy e).1 _ _ _ _ (out h)
  ·obtain ⟨d,e,hd,he,hk,h1,h2,hq⟩ | ⟨i,j,xs,rfl,rfl,hi,hj,hq⟩:=h
   ·exact E7 H hx hy hd he hk h1 h2 hu2 hq
   ·exact (ye H hx hy hi hj hu').1 (out hq)
 | ne=>
  obtain ⟨b,e,h⟩ | h:=ua h
  ·exact (yc (A:=A) hx hy e).2 _ _ _ _ (out h)
  ·obtain ⟨d,e,hd,he,hk,h1,h2,hq⟩ | ⟨i,j,xs,rfl,rfl,hi,hj,hq⟩:=h
   ·exact E8 H hx hy hd he hk h1 h2 hu2 hq
   ·exact (ye H hx hy hi hj hu').2 (out hq)
 | lt=>obtain ⟨a,b,t,u,rfl,rfl,h⟩:=lD hx hy h;exact wpAny_lt_int (out h)
 | le=>obtain ⟨a,b,t,u,rfl,rfl,h⟩:=lD hx hy h;exact PyProof.Rows.le_int (out h)
 | gt=>obtain ⟨a,b,t,u,rfl,rfl,h⟩:=lD hx hy h;exact PyProof.Rows.gt_int (out h)
 | inn=>exact DV G H hx hy hu h
 | nin=>exact yd (DV G H hx hy hu h)
end
noncomputable def yf:Pos:=⟨0,0,0,0⟩
noncomputable def noE:Expr:=.Constant .none 0 yf
set_option genCtorIdx false in
structure V where
 tag:Nat
 p:Pos:=yf
 e1:Expr:=noE
 e2:Expr:=noE
 xs:List Expr:=[]
 s:Str:=⟨#[]⟩
 n:Nat:=0
 k:Const:=.none
 o:Operator:=.Add
 u:UnaryOp:=.Not
 b:BoolOp:=.And
 cs:List CmpOp:=[]
 ks:List Keyword:=[]
 o1:Option Expr:=none
 o2:Option Expr:=none
 o3:Option Expr:=none
 os:List (Option L7):=[]
 gs:List Comprehension:=[]
 sc:Scope:=⟨.function,[],bY,bY,[]⟩
noncomputable def view:L7->V
 | .Constant k n p=>{ tag:=0,k,n,p }
 | .Name s p=>{ tag:=1,s,p }
 | .BinOp e1 o e2 p=>{ tag:=2,e1,o,e2,p }
 | .UnaryOp u e1 p=>{ tag:=3,u,e1,p }
 | .BoolOp b xs p=>{ tag:=4,b,xs,p }
 | .Compare e1 cs xs p=>{ tag:=5,e1,cs,xs,p }
 | .Call e1 xs ks p=>{ tag:=6,e1,xs,ks,p }
 | .Attribute e1 s p=>{ tag:=7,e1,s,p }
 | .Subscript e1 e2 p=>{ tag:=8,e1,e2,p }
 | .Slice o1 o2 o3 p=>{ tag:=9,o1,o2,o3,p }
 | .List xs p=>{ tag:=10,xs,p }
 | .Tuple xs n p=>{ tag:=11,xs,n,p }
 | .Dict os xs p=>{ tag:=12,os,xs,p }
 | .ListComp e1 gs sc p=>{ tag:=13,e1,gs,sc,p }
 | _=>{ tag:=14 }
noncomputable def back (v:V):Nat->Option L7
 | 0=>aT (.Constant v.k v.n v.p)
 | 1=>aT (.Name v.s v.p)
 | 2=>aT (.BinOp v.e1 v.o v.e2 v.p)
 | 3=>aT (.UnaryOp v.u v.e1 v.p)
 | 4=>aT (.BoolOp v.b v.xs v.p)
 | 5=>aT (.Compare v.e1 v.cs v.xs v.p)
 | 6=>aT (.Call v.e1 v.xs v.ks v.p)
 | 7=>aT (.Attribute v.e1 v.s v.p)
 | 8=>aT (.Subscript v.e1 v.e2 v.p)
 | 9=>aT (.Slice v.o1 v.o2 v.o3 v.p)
 | 10=>aT (.List v.xs v.p)
 | 11=>aT (.Tuple v.xs v.n v.p)
 | 12=>aT (.Dict v.os v.xs v.p)
 | 13=>aT (.ListComp v.e1 v.gs v.sc v.p)
 | _=>iD
theorem Bo (e:L7):∀x,back (view e) (view e).tag=aT x->e=x:=by
 cases e<;>first | exact λx h=>BY h | exact λx h=>nomatch h
theorem ba (h:(view e).tag=n)(hx:back (view e) n=aT x):e=x:=Bo e x (h▸hx)
set_option tactic.hygienic true in
theorem bi {α:Type}{n m:Nat}{a b:α}(h:(if n=m then aT a else iD)=aT b):n=m/\a=b:=by
 split at h
 ·rename_i q;exact ⟨q,BY h⟩
 ·exact av h
noncomputable def am {α:Type}(o:Option α)(f:α->Bool):Bool:=match o with
 | some a=>f a
 | none=>bY
theorem ah (h:am o f=eQ):∃a,o=aT a/\f a=eQ:=by
 cases o with
 | none=>exact ff h
 | some a=>exact ⟨a,rfl,h⟩
noncomputable def one {α:Type}(xs:List α):Option α:=match xs with
 | [x]=>aT x
 | _=>iD
theorem bX (h:one xs=aT x):xs=[x]:=by
 rcases xs with _ | ⟨a,_ | ⟨b,r⟩⟩
 ·exact av h
 ·exact congrArg (·::[]) (BY h)
 ·exact av h
noncomputable def two {α:Type}(xs:List α):Option (α × α):=match xs with
 | [x,y]=>aT (x,y)
 | _=>iD
theorem pc (h:two xs=aT (x,y)):xs=[x,y]:=by
 rcases xs with _ | ⟨a,_ | ⟨b,_ | ⟨c,r⟩⟩⟩
 ·exact av h
 ·exact av h
 ·obtain ⟨rfl,rfl⟩:=QA (BY h);rfl
 ·exact av h
noncomputable def pd (e:L7):Option Const:=if (view e).tag=0 then aT (view e).k else iD
noncomputable def e8 (e:L7):Option Str:=if (view e).tag=1 then aT (view e).s else iD
noncomputable def Iu (e:L7):Option (L7 × Operator × L7):=if (view e).tag=2 then aT ((view e).e1,(view e).o,(view e).e2) else iD
noncomputable def xUn (e:L7):Option (UnaryOp × L7):=if (view e).tag=3 then aT ((view e).u,(view e).e1) else iD
noncomputable def yg (e:L7):Option (BoolOp × List L7):=if (view e).tag=4 then aT ((view e).b,(view e).xs) else iD
noncomputable def Bp (e:L7):Option (L7 × List CmpOp × List L7):=if (view e).tag=5 then aT ((view e).e1,(view e).cs,(view e).xs) else iD
noncomputable def yh (e:L7):Option (L7 × List L7 × List Keyword × Pos):=if (view e).tag=6 then aT ((view e).e1,(view e).xs,(view e).ks,(view e).p) else iD
noncomputable def uh (e:L7):Option (L7 × Str × Pos):=if (view e).tag=7 then aT ((view e).e1,(view e).s,(view e).p) else iD
noncomputable def Bq (e:L7):Option (L7 × L7):=if (view e).tag=8 then aT ((view e).e1,(view e).e2) else iD
noncomputable def yi (e:L7):Option (Option L7 × Option L7 × Option L7):=if (view e).tag=9 then aT ((view e).o1,(view e).o2,(view e).o3) else iD
noncomputable def DW (e:L7):Option (List L7):=if (view e).tag=10 then aT (view e).xs else iD
noncomputable def sF (e:L7):Option (List L7):=if (view e).tag=11 then aT (view e).xs else iD
noncomputable def DX (e:L7):Option (List (Option L7) × List L7):=if (view e).tag=12 then aT ((view e).os,(view e).xs) else iD
noncomputable def xLC (e:L7):Option (L7 × List Comprehension × Scope):=if (view e).tag=13 then aT ((view e).e1,(view e).gs,(view e).sc) else iD
section
theorem im {k:Const}(h:pd e=aT k):∃a b,e=.Constant k a b:=by
 refine e02 (bi h) λh1 h2=>?_
 cases h2
 exact ⟨_,_,ba h1 rfl⟩
theorem bZ {x:Str}(h:e8 e=aT x):∃p,e=.Name x p:=by
 refine e02 (bi h) λh1 h2=>?_
 cases h2
 exact ⟨_,ba h1 rfl⟩
theorem Br {l r:L7}{o:Operator}(h:Iu e=aT (l,o,r)):∃p,e=.BinOp l o r p:=by
 refine e02 (bi h) λh1 h2=>?_
 cases h2
 exact ⟨_,ba h1 rfl⟩
theorem pe {o:UnaryOp}{x:L7}(h:xUn e=aT (o,x)):∃p,e=.UnaryOp o x p:=by
 refine e02 (bi h) λh1 h2=>?_
 cases h2
 exact ⟨_,ba h1 rfl⟩
theorem jw {o:BoolOp}{xs:List L7}(h:yg e=aT (o,xs)):∃p,e=.BoolOp o xs p:=by
 refine e02 (bi h) λh1 h2=>?_
 cases h2
 exact ⟨_,ba h1 rfl⟩
theorem jx {l:L7}{os:List CmpOp}{rs:List L7}(h:Bp e=aT (l,os,rs)):∃p,e=.Compare l os rs p:=by
 refine e02 (bi h) λh1 h2=>?_
 cases h2
 exact ⟨_,ba h1 rfl⟩
theorem qC {f:L7}{xs:List L7}{ks:List Keyword}{p:Pos}(h:yh e=aT (f,xs,ks,p)):e=.Call f xs ks p:=by
 refine e02 (bi h) λh1 h2=>?_
 cases h2
 exact ba h1 rfl
theorem mj {v:L7}{n:Str}{p:Pos}(h:uh e=aT (v,n,p)):e=.Attribute v n p:=by
 refine e02 (bi h) λh1 h2=>?_
 cases h2
 exact ba h1 rfl
theorem ph {v i:L7}(h:Bq e=aT (v,i)):∃p,e=.Subscript v i p:=by
 refine e02 (bi h) λh1 h2=>?_
 cases h2
 exact ⟨_,ba h1 rfl⟩
theorem ww {l u st:Option L7}(h:yi e=aT (l,u,st)):∃p,e=.Slice l u st p:=by
 refine e02 (bi h) λh1 h2=>?_
 cases h2
 exact ⟨_,ba h1 rfl⟩
theorem yj {xs:List L7}(h:DW e=aT xs):∃p,e=.List xs p:=by
 refine e02 (bi h) λh1 h2=>?_
 cases h2
 exact ⟨_,ba h1 rfl⟩
theorem jy {xs:List L7}(h:sF e=aT xs):∃k p,e=.Tuple xs k p:=by
 refine e02 (bi h) λh1 h2=>?_
 cases h2
 exact ⟨_,_,ba h1 rfl⟩
theorem yk {ks:List (Option L7)}{vs:List L7}(h:DX e=aT (ks,vs)):∃p,e=.Dict ks vs p:=by
 refine e02 (bi h) λh1 h2=>?_
 cases h2
 exact ⟨_,ba h1 rfl⟩
theorem pj {x:L7}{gs:List Comprehension}{sc:Scope}(h:xLC e=aT (x,gs,sc)):∃p,e=.ListComp x gs sc p:=by
 refine e02 (bi h) λh1 h2=>?_
 cases h2
 exact ⟨_,ba h1 rfl⟩
end
noncomputable def xFn (e:L7):Option (Str × List L7 × Pos):=(yh e).bind λq=>match q.2.2.1 with
 | []=>(e8 q.1).map λx=>(x,q.2.1,q.2.2.2)
 | _=>iD
theorem gN (h:xFn e=aT (x,xs,p)):∃px,e=.Call (.Name x px) xs [] p:=by
 unfold xFn at h;obtain ⟨⟨f,ys,ks,q⟩,h1,h2⟩:=LW.mp h
 cases ks with
 | nil=>
  refine e12 (LF.mp h2) λy h3 h4=>?_;obtain ⟨px,rfl⟩:=bZ h3
  cases h4
  exact ⟨px,qC h1⟩
 | cons=>exact av h2
noncomputable def nZ (e:L7):Option ((L7 × Str × Pos) × List L7 × Pos):=(yh e).bind λq=>match q.2.2.1 with
 | []=>(uh q.1).map λx=>(x,q.2.1,q.2.2.2)
 | _=>iD
theorem qD (h:nZ e=aT ((v,n,p),xs,q)):e=.Call (.Attribute v n p) xs [] q:=by
 unfold nZ at h;obtain ⟨⟨f,ys,ks,q⟩,h1,h2⟩:=LW.mp h
 cases ks with
 | nil=>
  refine e12 (LF.mp h2) λy h3 h4=>?_
  cases h4
  have:=mj h3;subst this;exact qC h1
 | cons=>exact av h2
noncomputable def okX (e:L7):Bool:=(view e).tag != 9&&(view e).tag != 14
theorem dw {e:L7}{P:L7->Prop}(h:okX e=eQ)(h1:∀k a p,P (.Constant k a p))(h2:∀x p,P (.Name x p))(h3:∀l o r p,P (.BinOp l o r p))(h4:∀o x p,P (.UnaryOp o x p))(h5:∀o xs p,P (.BoolOp o xs p))
  (h6:∀l os rs p,P (.Compare l os rs p)) (h7:∀f xs ks p,P (.Call f xs ks p)) (h8:∀v n p,P (.Attribute v n p)) (h9:∀v i p,P (.Subscript v i p)) (h10:∀xs p,P (.List xs p)) (h11:∀xs k p,P (.Tuple xs k p)) (h12:∀ks vs p,P (.Dict ks vs p))
  (h13:∀x gs sc p,P (.ListComp x gs sc p)):P e:=by
 cases e<;>first | exact h1 _ _ _ | exact h2 _ _ | exact h3 _ _ _ _ | exact h4 _ _ _ | exact h5 _ _ _ | exact h6 _ _ _ _ | exact h7 _ _ _ _ | exact h8 _ _ _ | exact h9 _ _ _ | exact h10 _ _ | exact h11 _ _ _ | exact h12 _ _ _ | exact h13 _ _ _ _ | exact ff h
theorem bj {e:L7}(h:okX e=eQ)(rest:List L7)(env:RF):starEach (e::rest) env=(bY,eval e env)::starEach rest env:=
 dw (P:=λe=>starEach (e::rest) env=(bY,eval e env)::starEach rest env) h (λ_ _ _=>rfl) (λ_ _=>rfl) (λ_ _ _ _=>rfl) (λ_ _ _=>rfl) (λ_ _ _=>rfl) (λ_ _ _ _=>rfl) (λ_ _ _ _=>rfl) (λ_ _ _=>rfl) (λ_ _ _=>rfl) (λ_ _=>rfl) (λ_ _ _=>rfl) (λ_ _ _=>rfl) (λ_ _ _ _=>rfl)
theorem ir {e:L7}(h:okX e=eQ)(op:CmpOp):behindInMarks op e=bY:=
 dw (P:=λe=>behindInMarks op e=bY) h (λ_ _ _=>rfl) (λ_ _=>rfl) (λ_ _ _ _=>rfl) (λ_ _ _=>rfl) (λ_ _ _=>rfl) (λ_ _ _ _=>rfl) (λ_ _ _ _=>rfl) (λ_ _ _=>rfl) (λ_ _ _=>rfl) (λ_ _=>rfl) (λ_ _ _=>rfl) (λ_ _ _=>rfl) (λ_ _ _ _=>rfl)
theorem ml {e:L7}(h:okX e=eQ)(env:RF)(x:rW):foldedSetIterable e env x=pure x:=
 dw (P:=λe=>foldedSetIterable e env x=pure x) h (λ_ _ _=>rfl) (λ_ _=>rfl) (λ_ _ _ _=>rfl) (λ_ _ _=>rfl) (λ_ _ _=>rfl) (λ_ _ _ _=>rfl) (λ_ _ _ _=>rfl) (λ_ _ _=>rfl) (λ_ _ _=>rfl) (λ_ _=>rfl) (λ_ _ _=>rfl) (λ_ _ _=>rfl) (λ_ _ _ _=>rfl)
noncomputable def dy (e:L7):Bool:=(xLC e).isSome
theorem fC {e:L7}(h:dy e=bY)(h':okX e=eQ)(t:Option L7)(l:Nat)(env:RF):swapsWith e t l env=pure bY:=
 dw (P:=λe=>dy e=bY->swapsWith e t l env=pure bY) h' (λ_ _ _ _=>rfl) (λ_ _ _=>rfl) (λ_ _ _ _ _=>rfl) (λ_ _ _ _=>rfl) (λ_ _ _ _=>rfl) (λ_ _ _ _ _=>rfl) (λ_ _ _ _ _=>rfl) (λ_ _ _ _=>rfl) (λ_ _ _ _=>rfl) (λ_ _ _=>rfl) (λ_ _ _ _=>rfl) (λ_ _ _ _=>rfl) (λ_ _ _ _ h=>by exact tf h) h
noncomputable def mq (e:L7):Bool:=(view e).tag==1||(view e).tag==8||(view e).tag==0||(view e).tag==7||(view e).tag==2
theorem nK (h:mq o=eQ)(name:Str)(env:RF):attributeBase o name env (eval o env)=eval o env:=by
 simp only [mq,Bool.or_eq_true,beq_iff_eq] at h
 rcases h with (((h | h) | h) | h) | h
 ·have e:=ba h rfl;rw [e];rfl
 ·have e:=ba h rfl;rw [e];rfl
 ·have e:=ba h rfl;rw [e];rfl
 ·have e:=ba h rfl;rw [e];rfl
 ·have e:=ba h rfl;rw [e];rfl
theorem iu (h:okX slice=eQ):subscripted slice bY o i=operate [o,i] (getItem o i):=
 dw (P:=λe=>subscripted e bY o i=operate [o,i] (getItem o i)) h (λ_ _ _=>rfl) (λ_ _=>rfl) (λ_ _ _ _=>rfl) (λ_ _ _=>rfl) (λ_ _ _=>rfl) (λ_ _ _ _=>rfl) (λ_ _ _ _=>rfl) (λ_ _ _=>rfl) (λ_ _ _=>rfl) (λ_ _=>rfl) (λ_ _ _=>rfl) (λ_ _ _=>rfl) (λ_ _ _ _=>rfl)
theorem iw:subscripted (.Slice l u iD p) bY o i=operate [i,o] (getItem o i):=rfl
theorem mr (h:jc k n=aT j):seqIndex? k n=aT j/\-(n:Int)<=k/\k<n/\(0<=k->j=k.toNat)/\(k<0->j=(k+n).toNat):=by
 unfold jc at h;by_cases h0:0<=k
 ·by_cases h1:k<n
  ·simp only [h0,h1,decide_true] at h;obtain rfl:=BY h;exact ⟨seqIndex_of h0 h1,by lia,h1,λ_=>rfl,λq=>by lia⟩
  ·simp [h0,h1] at h
 ·by_cases h1:-(n:Int)<=k
  ·simp only [h0,h1,decide_true,decide_false] at h;obtain rfl:=BY h;exact ⟨seqIndex_neg (z1 (RA.mp h0) (by simp +arith only)) h1,h1,by lia,λq=>absurd q h0,λ_=>rfl⟩
  ·simp [h0,h1] at h
set_option tactic.hygienic true in
theorem wx (k:Int)(n:Nat):pend k n=clipAt n k:=by
 unfold pend clipAt
 split
 ·rename_i h;replace h:=of_decide_eq_true h;rw [if_neg (Rk.mpr h),Int.max_eq_right (Int.le_min.mpr ⟨h,L5 n⟩)];refine MN (Int.le_total k n) (λq=>?_) λq=>?_
  ·rw [Int.min_eq_left q,Nf (Rp.mpr q)]
  ·rw [Int.min_eq_right q,OJ ((Int.le_toNat h).mpr q)];rfl
 ·rename_i h;replace h:=RA.mp (of_decide_eq_false h);rw [if_pos h,Int.min_eq_left (show k+n<=n from Pg (Int.add_le_add_right (PH h) n) (Int.le_of_eq (Int.zero_add _)))];refine MN (Int.le_total 0 (k+n)) (λq=>?_) λq=>?_
  ·rw [Int.max_eq_right q]
  ·rw [Int.max_eq_left q];exact Int.toNat_of_nonpos q
theorem Bs (k:Int)(n:Nat):clipAt n k<=n:=by unfold clipAt;split<;>exact Rp.mpr (Int.max_le.mpr ⟨L5 _,Int.min_le_right _ _⟩)
theorem fD (xs:List α)(lo hi:Option Int):aC xs lo hi=(xs.drop (lo.elim 0 (clipAt xs.length))).take (hi.elim xs.length (clipAt xs.length)-lo.elim 0 (clipAt xs.length)):=by
 unfold aC;simp only;rw [List.drop_take]
 cases lo<;>cases hi<;>simp only [Option.elim,wx]
section
theorem au.slice (l:au C ρ h xs vs)(lo hi:Option Int):au C ρ h (aC xs lo hi) (aC vs lo hi):=by
 unfold aC;have e:=l.length
 cases lo<;>cases hi<;>simp only [e]<;>exact (l.take _).drop _
theorem ms (xs:List α)(lo hi:Option Int):(aC xs lo hi).length<=xs.length:=by
 rw [fD,Mq,Mv];exact iF (P5 _ _) (N1 _ _)
theorem fY (h:n<=line):(n:Int)<2 ^ 63:=by unfold line at h;lia
theorem pk (h:cS xs k f):∃j v,jc k xs.length=aT j/\xs[j]?=aT v/\f v:=by
 refine e12 (cj h) λj hj h=>?_;refine e12 (cj h) λv hv h=>?_;exact ⟨j,v,hj,hv,h⟩
inductive ym (C:Glo)(ρ:List Lr)(s:Do)(m:MS)(Q:PQ)(v:rW)(s':Do):Prop
 | mk (y:MV) (tk:Nat) (e:s'={ s with toks:=tk }) (r:Rep C ρ s.heap y v) (h:Q y m)
theorem ym.out (o:ym C ρ s m Q v s')(R:Rel C F ρ m s)(ok:aJ F):Out C F ρ s Q v s':=by
 obtain ⟨y,tk,rfl,r,h⟩:=o;exact bp R ok r h
theorem qE (hns:okX slice=eQ)(hl:s.heap.IsList a items.toArray)(l:au C ρ s.heap xs items)(zl:xs.length<=line)(h:cS xs k λv=>Q v m) :
  IF (mod C) A (subscriptTail value slice (.ref a) (.int k u)) (ym C ρ s m Q) E s:=by
 refine e23 (pk h) λj z hj hz h=>?_;refine e05 (mr hj) λe1 e2 e3 e4 e5=>?_;refine e12 (l.get hz) λr r1 r2=>?_;have:=fY zl;refine Qp hl.typeIs slot_list_getitem.lookup ?_ (iu hns);by_cases h0:0<=k
 ·exact wpAny_getItem_list hl h0 (Int.lt_trans e3 this) (by rw [<-e4 h0];exact (MQ ..).trans r1) ⟨_,s.toks,rfl,r2,h⟩
 ·have h0:k<0:=RA.mp h0;exact wpAny_getItem_list_neg hl h0 (by rw [Lv,l.length];exact e2) (by lia) (by rw [Lv,l.length,<-e5 h0];exact (MQ ..).trans r1) ⟨_,s.toks,rfl,r2,h⟩
theorem yn (hns:okX slice=eQ)(dk:s.heap.DictOf (strKind C.prog C.w) a kvs)(rk:jt C ρ s.heap es kvs)(h:onO (cK es k) λv=>Q v m) :
  IF (mod C) A (subscriptTail value slice (.ref a) (.str (Internal.str k) t)) (ym C ρ s m Q) E s:=by
 refine e12 (cj h) λz hz h=>?_;have:=rk.get k;rw [hz] at this;refine e12 this λv e r=>?_;exact Qp dk.typeIs slot_dict_getitem.lookup (wpAny_getItem_of (kJ C.prog C.w (Internal.str k) t) dk.mapOf e ⟨_,_,rfl,r,h⟩) (iu hns)
theorem Fc (G:GOk C)(R:Rel C F ρ m s)(hx:Rep C ρ s.heap x v)(hy:Rep C ρ s.heap y w)(hns:okX slice=eQ)(h:xU x y Q m) :
  IF (mod C) A (subscriptTail value slice v w) (ym C ρ s m Q) E s:=by
 refine LL λhn=>?_
 cases y with
 | int k=>
  obtain ⟨u,rfl⟩:=hy.inv
  cases x with
  | tup xs=>
   obtain ⟨a,n,items,rfl,g,l,zl⟩:=hx.inv;refine e23 (pk h) λj z hj hz h=>?_;refine e04 (mr hj) λe1 e2 e3 _=>?_;refine e12 (l.get hz) λr r1 r2=>?_;have:=fY zl;refine hn (Qp ⟨_,g,rfl⟩ OT.lookup (PySem.P.getItem_tuple g (by lia) (by lia) ?_ ((MQ ..).trans r1) ⟨_,s.toks,rfl,r2,h⟩) (iu hns));rw [Lv,l.length];exact e1
  | str xs=>
   obtain ⟨t,rfl,zl⟩:=hx.inv;refine e23 (pk h) λj z hj hz h=>?_;refine e04 (mr hj) λe1 e2 e3 _=>?_;have:=fY zl;refine hn (Qp (T:="str") (typeIs_str s (Internal.str xs) t) slot_str_getitem.lookup (PySem.P.getItem_str ?_ ?_ ⟨_,_,rfl,.str _ _ (by simp [line]),h⟩) (iu hns))
   ·simp only [NV,decide_eq_false_iff_not];lia
   ·rw [cO,e1];exact (MQ ..).trans hz
  | ref i=>
   obtain ⟨a,rfl,g⟩:=hx.inv;refine e12 (bB h) λxs hi h=>?_;obtain ⟨items,n,gi,l,zl⟩:=R.hp.objs _ _ _ hi g;exact hn (qE hns ⟨_,gi,rfl,_,rfl⟩ l zl h)
  | scr xs=>
   obtain ⟨la,items,n,rfl,g,l,zl⟩:=hx.inv;refine hn (qE (xs:=xs.map .int) hns ⟨_,R.hp.base _ _ g,rfl,_,rfl⟩ (l9 l) (by rw [tO];exact zl) ?_);refine e23 (pk h) λj z hj hz h=>?_;show onO (jc k (xs.map MV.int).length) _;rw [tO,hj];show onO (xs.map MV.int)[j]? _;rw [LG,hz];exact h
  | _=>exact h
 | str k=>
  obtain ⟨t,rfl,_⟩:=hy.inv
  cases x with
  | cdict es=>
   obtain ⟨a,kvs,rfl,hs,⟨o,ds,ep,e,r⟩,ck⟩:=hx.inv;exact hn (yn hns ⟨o,ds,ep,R.hp.base _ _ e,r⟩ ck.rep h)
  | _=>exact h
 | _=>exact h
end
section
theorem qF {a n:Nat}(ha:n<a):Pl (aT (a:Int)) iD 1 (n:Int)=((n:Int),(n:Int)):=by
 unfold Pl;have h1:¬ ((1:Int)<0):=by lia
 have h2:¬ ((a:Int)<0):=by lia
 simp only [h1,h2,if_false];congr 1;lia
theorem qG (n:Nat):On (n:Int) (n:Int) 1=0:=by
 unfold On;have h1:(1:Int) > 0:=by lia
 simp only [h1,if_true,Int.ediv_one]
 split<;>lia
theorem pn {sl:Lr}{a n:Nat}{u:Tok}{Q:Int × Int × Nat->Do->Prop}(hs:s.heap.IsSliceOf sl (.int a u) .none .none)(ha:n<a)(h:Q ((n:Int),1,0) s) :
  IF (model prog w) A (Builtin.Slice.sliceApplied (.ref sl) (pure (n:Int))) Q E s:=by
 refine e13 hs λos hos hcs hds=>?_;unfold Builtin.Slice.sliceApplied Builtin.Slice.sliceFields;refine iS (iS (OR hos hds (x:=.int a u) rfl (iS (OR hos hds (x:=.none) rfl (iS (OR hos hds (x:=.none) rfl (EQ ?_)))))));refine iS (slicePart_none ?_);rw [if_neg (by decide)];refine iS (slicePart_int (iS (slicePart_none (iS (EQ ?_)))));show IF _ _ (match Pl (aT (a:Int)) iD 1 (n:Int) with | (lo,hi)=>pure (lo,(1:Int),On lo hi 1)) _ _ s;rw [qF ha];show IF _ _ (pure ((n:Int),(1:Int),On (n:Int) (n:Int) 1)) _ _ s;rw [qG];exact EQ h
theorem wy {t sl:Lr}{items:Array rW}{a:Nat}{u:Tok}{Q:rW->Do->Prop}(ht:IsTup s.heap t items)(hs:s.heap.IsSliceOf sl (.int a u) .none .none)(h1:1<=items.size)(ha:items.size<a)
  (h:Q (.ref s.heap.objs.size) { s with heap:=s.heap.push { cls:=.type "tuple",data:=.seq #[] } }):IF (model prog w) A (getItem (.ref t) (.ref sl)) Q E s:=by
 refine e13 hs λos hos hcs hds=>?_;have hTs:s.TypeIs (.ref sl) "slice":=⟨os,hos,hcs⟩
 unfold getItem
 try with_reducible refine Md ?_
 first | refine iS (EQ ?_) | skip
 refine iS (wpAny_sequenceKey ht.typeIs (by decide) ?_);refine iS (NX (name:=NQ "__getitem__") ht.typeIs OT
  (NL OT ht.typeIs entry_tuple_getitem ?_ (args_tuple_getitem _ _)))
 show IF _ _ (Builtin.Tuple.tupleItemsOf (.ref t) >>= _) _ _ s;refine iS (tupleItemsOf_ ht ?_);refine iS (QZ hTs ?_);rw [if_pos (by decide)];refine iS (pn hs ha ?_);have hno:¬ (((items.size:Int)==0&&(1:Int)==1&&0==items.size)=eQ):=by
  have:((items.size:Int)==0)=bY:=by rw [beq_eq_false_iff_ne];lia
  rw [this];simp
 show IF _ _ (if ((items.size:Int)==0&&(1:Int)==1&&0==items.size)=eQ then _ else _) _ _ s;rw [if_neg hno]
 first
  | exact iS (m:=OB _) (MW (EQ ⟨_,rfl,EQ h⟩) (Ly _))
  | exact iS (m:=OB _) (MW (iS (EQ (EQ ⟨_,rfl,EQ h⟩))) (Ly _))
  | exact iS (iS (m:=OB _) (MW (EQ (EQ ⟨_,rfl,EQ h⟩)) (Ly _)))
  | exact iS (iS (m:=OB _) (MW (EQ ⟨_,rfl,EQ h⟩) (Ly _)))
end
section
theorem Fd (R:Rel C F ρ m s)(ok:aJ F){b a:Lr}{n:Nat}{xs:List MV}{items:List rW}{value:L7}{l u:Option L7}{p:Pos}{k:Int}{t:Tok}(g:s.heap.get? b=aT (o0 items n))(rl:au C ρ s.heap xs items)(z:xs.length<=line)(hs:s.heap.IsSliceOf a (.int k t) .none .none)
  (hk:DH=eQ/\1<=k/\1<=xs.length) (hq:Q (.tup (xs.drop k.toNat)) m):IF (mod C) A (subscriptTail value (.Slice l u iD p) (.ref b) (.ref a)) (Out C F ρ s Q) E s:=by
 refine e03 hk λ_ k1 k2=>?_;obtain ⟨j,rfl⟩:=My (show 0<=k from z1 k1 (by simp +arith only));have e:=rl.length;refine MN (OU xs.length j) (λhp=>?_) λhp=>?_
 ·refine Qp (T:="tuple") ⟨_,g,rfl⟩ OT.lookup (wy ⟨_,g,rfl,_,rfl⟩ hs (by rw [Lv,e];exact k2) (by rw [Lv,e];exact hp) ?_) iw;have e0:xs.drop ((j:Int)).toNat=[]:=List.drop_eq_nil_of_le (LM hp);rw [e0] at hq;exact o4 R ok .nil (Ly _) hq
 refine Qp (T:="tuple") ⟨_,g,rfl⟩ OT.lookup (getItem_tuple_from ⟨_,g,rfl,_,rfl⟩ hs (by lia) (by rw [Lv];lia) ?_ (by rw [Lv,e];exact z)) iw;exact o4 R ok (rl.drop j) (iF (by rw [Mv];exact N1 ..) z) hq
end
section
variable {s:Do}
noncomputable def jz (C:Glo)(ρ:List Lr)(h:LA):Option MV->rW->Prop
 | none,v=>v=.none
 | some x,v=>Rep C ρ h x v
theorem ui {lo:Option MV}{v:rW}(h:jz C ρ s.heap lo v){k:Option Int}(e:rV lo=aT k):IsPart v k/\∃l:Option (Int × Tok),v=partValue l/\l.map (·.1)=k:=by
 cases lo with
 | none=>
  obtain rfl:=BY e;obtain rfl:v=.none:=h;exact ⟨.none,iD,rfl,rfl⟩
 | some x=>
  cases x with
  | int i=>
   obtain ⟨t,rfl⟩:=Rep.inv h;obtain rfl:=BY e;exact ⟨.int i t,aT (i,t),rfl,rfl⟩
  | _=>exact av e
theorem yo (h:IsPart v (aT k)):∃t,v=.int k t:=by cases h;exact ⟨_,rfl⟩
theorem wz (h:IsPart v iD):v=.none:=by cases h;rfl
theorem qH (x:List Nat)(lo hi:Option Int):((M9 lo hi 1 x.length).filterMap (x.toArray[·]?))=aC x lo hi/\(M9 lo hi 1 x.length).length=(aC x lo hi).length:=by
 have e:M9 lo hi 1 x.length=(Nr (hi.elim x.length (clipAt x.length)-lo.elim 0 (clipAt x.length))).map (lo.elim 0 (clipAt x.length) + ·):=by
  have h1:M9 lo hi 1 x.length=sliceRange (sliceBounds lo hi iD x.length).1 (sliceBounds lo hi iD x.length).2.1 (sliceBounds lo hi iD x.length).2.2:=rfl;rw [h1,sliceBounds_plain,sliceRange_one]
 rw [e];constructor
 ·rw [pick_run,fD]
 ·rw [fD,tO,List.length_range,Mq,Mv];have:hi.elim x.length (clipAt x.length)<=x.length:=by cases hi<;>simp [Bs]
  exact (Nf (Nat.sub_le_sub_right this _)).symm
theorem sG {y:List Nat}{lo hi:Option Int}(h:(aC y lo hi).length=y.length):aC y lo hi=y:=by
 rw [fD] at h ⊢;rw [Mq,Mv] at h
 cases y with
 | nil=>simp
 | cons a b=>
  have h3:lo.elim 0 (clipAt (a::b).length)=0:=QC.mp (Nat.le_of_not_lt λq=>N7 _ (Lp (Oc (N6 _) q) (iF (Lw h.symm) (P5 _ _))));rw [h3] at h ⊢;rw [List.drop_zero,Nat.sub_zero];exact M0 (iF (Lw h.symm) (NE _ _))
section
variable {lo hi:Option Int}
set_option tactic.hygienic true in
theorem Fe (R:Rel C F ρ m s)(ok:aJ F)(z:y.length<=line)(hsl:s.heap.IsSlice a l1 l2 iD)(ml1:l1.map (·.1)=lo)(ml2:l2.map (·.1)=hi)(hq:Q (.str (aC y lo hi)) m) :
  IF (mod C) A (subscriptTail value (.Slice l u iD p) (.str (Internal.str y) t) (.ref a)) (Out C F ρ s Q) E s:=by
 refine Qp (T:="str") (typeIs_str _ (Internal.str y) t) slot_str_getitem.lookup (wpAny_getItem_str_slice hsl rfl ?_) iw;unfold sliceMade slicePicked;rw [ml1,ml2,cO];refine e02 (qH y lo hi) λf1 f2=>?_;have hz:=ms y lo hi
 split
 ·rename_i hc;simp only [Option.map_none,Option.getD_none,Ll,beq_iff_eq] at hc;rw [sG (f2.symm.trans hc.2)] at hq;exact bP R (.str y t z) hq
 ·refine ⟨?_,?_⟩
  ·show ((M9 lo hi 1 y.length).filterMap (y.toArray[·]?)).toArray.size<=sizeLine;rw [f1,Lv];exact iF hz z
  ·show Out C F ρ s Q (.str ⟨((M9 lo hi 1 y.length).filterMap (y.toArray[·]?)).toArray⟩ _) _;rw [f1];exact bp R ok (.str _ _ (iF hz z)) hq
theorem uj (R:Rel C F ρ m s)(ok:aJ F)(g:s.heap.IsList b items.toArray)(rl:au C ρ s.heap xs items)(z:xs.length<=line)(hs:s.heap.IsSliceOf a vl vu .none)(p1:IsPart vl lo)(p2:IsPart vu hi)
  (hq:Q (.ref m.heap.length) (m.push (.list (aC xs lo hi)))):IF (mod C) A (subscriptTail value (.Slice l u iD p) (.ref b) (.ref a)) (Out C F ρ s Q) E s:=by
 refine Qp (T:="list") g.typeIs slot_list_getitem.lookup (wpAny_getItem_list_slice g hs p1 p2 .none (by simp) ?_ (by rw [Lv,rl.length];exact z)) iw;have e:slicePick items.toArray lo hi iD=(aC items lo hi).toArray:=by
  rw [slicePick_plain,fD];simp
 rw [e];exact lB R ok (rl.slice _ _) (iF (ms _ _ _) z) hq
theorem Ff (R:Rel C F ρ m s)(ok:aJ F)(hx:Rep C ρ s.heap x v)(hsl:s.heap.IsSlice a l1 l2 iD)(ml1:l1.map (·.1)=lo)(ml2:l2.map (·.1)=hi)(hs:s.heap.IsSliceOf a vl vu .none)(p1:IsPart vl lo)(p2:IsPart vu hi)
  (hq:xV x lo hi Q m):IF (mod C) A (subscriptTail value (.Slice l u iD p) v (.ref a)) (Out C F ρ s Q) E s:=by
 refine LL λhn=>?_
 cases x with
 | str y=>
  obtain ⟨t,rfl,z⟩:=hx.inv;exact hn (Fe R ok z hsl ml1 ml2 hq)
 | tup xs=>
  obtain ⟨b,n,items,rfl,g,l,z⟩:=hx.inv;obtain ⟨k,rfl,⟨j1,rfl,j2⟩,hk⟩:=cj hq;obtain ⟨t,rfl⟩:=yo p1;obtain rfl:=wz p2;exact hn (Fd R ok g l z hs ⟨j1,j2⟩ hk)
 | scr xs=>
  obtain ⟨b,items,n,rfl,g,l,z⟩:=hx.inv;exact hn (uj R ok ⟨_,R.hp.base _ _ g,rfl,_,rfl⟩ (l9 l) (by rw [tO];exact z) hs p1 p2 hq)
 | ref i=>
  obtain ⟨b,rfl,g⟩:=hx.inv;refine e12 (bB hq) λxs hi hq=>?_;obtain ⟨items,n,gi,l,z⟩:=R.hp.objs _ _ _ hi g;exact hn (uj R ok ⟨_,gi,rfl,_,rfl⟩ l z hs p1 p2 hq)
 | _=>exact hq
end
theorem Iv (R:Rel C F ρ m s)(ok:aJ F){x:MV}{v:rW}(hx:Rep C ρ s.heap x v){lo hi:Option MV}{vl vu:rW}(hl:jz C ρ s.heap lo vl)(hu:jz C ρ s.heap hi vu){value:L7}{l u:Option L7}{p:Pos}
  (hq:HO x lo hi Q m):IF (mod C) A (subscriptTail value (.Slice l u iD p) v (.ref s.heap.objs.size)) (Out C F ρ s Q) E { s with heap:=s.heap.push { cls:=.type "slice",data:=.fields #[vl,vu,.none] } }:=by
 refine e02 (R.grow (s':={ s with heap:=s.heap.push { cls:=.type "slice",data:=.fields #[vl,vu,.none] } }) ok (λa o e=>Lj _ e) rfl rfl) λR' st=>?_;refine e12 (cj hq) λlo' e1 hq=>?_;refine e12 (cj hq) λhi' e2 hq=>?_;obtain ⟨p1,l1,rfl,ml1⟩:=ui hl e1;obtain ⟨p2,l2,rfl,ml2⟩:=ui hu e2;exact Lk (Ff R' ok (hx.step st) ⟨_,LI _ rfl,rfl,rfl⟩ ml1 ml2 (LA.IsSliceOf.new _ _ _ _) p1 p2 hq) (Out.back st) λ_ _ e=>e
noncomputable def lg:TS->Option String
 | .int=>aT "int" | .bool=>aT "bool" | .str=>aT "str" | .list=>aT "list" | .tuple=>aT "tuple" | _=>iD
noncomputable def Iw:TS->String
 | .int=>"int" | .bool=>"bool" | .str=>"str" | .list=>"list" | .tuple=>"tuple" | _=>""
theorem Bt (e:lg t=aT T):T=Iw t:=by
 cases t<;>first | exact (BY e).symm | exact av e
noncomputable def wA:Kd->String
 | .none=>"NoneType" | .bool=>"bool" | .int=>"int" | .str=>"str" | .tuple=>"tuple" | .list=>"list" | .dict=>"dict" | .exc _=>""
noncomputable def Iy (t:TS):Prop:=lg t≠iD->typeOf (.type (Iw t))=pure (.type "type")
theorem Bu (t:TS):Iy t:=TS.casesOn (motive:=Iy) t (λ_=>F.isi_meta_int) (λ_=>F.isi_meta_bool) (λ_=>F.isi_meta_str) (λ_=>F.isi_meta_list) (λ_=>F.isi_meta_tuple) (λ_ e=>(e rfl).elim) (λe=>(e rfl).elim)
noncomputable def nL (k:Kd)(t:TS):Prop:=match lg t with
 | some T=>isSubtype (.type (wA k)) (.type T)=pure ((kX k t).getD eQ)
 | none=>True
theorem Bv (k:Kd)(t:TS)(he:∀c,k≠.exc c):nL k t:=by
 revert he;exact Kd.casesOn (motive:=λk=>(∀c,k≠.exc c)->nL k t) k (λ_=>TS.casesOn (motive:=nL .none) t F.sub_NoneType_int F.sub_NoneType_bool F.sub_NoneType_str F.sub_NoneType_list F.sub_NoneType_tuple (λ_=>trivial) trivial) (λ_=>TS.casesOn (motive:=nL .bool) t F.sub_bool_int F.sub_bool_bool F.sub_bool_str F.sub_bool_list F.sub_bool_tuple (λ_=>trivial) trivial) (λ_=>TS.casesOn (motive:=nL .int) t F.sub_int_int F.sub_int_bool F.sub_int_str F.sub_int_list F.sub_int_tuple (λ_=>trivial) trivial) (λ_=>TS.casesOn (motive:=nL .str) t F.sub_str_int F.sub_str_bool F.sub_str_str F.sub_str_list F.sub_str_tuple (λ_=>trivial) trivial) (λ_=>TS.casesOn (motive:=nL .tuple) t F.sub_tuple_int F.sub_tuple_bool F.sub_tuple_str F.sub_tuple_list F.sub_tuple_tuple (λ_=>trivial) trivial) (λ_=>TS.casesOn (motive:=nL .list) t F.sub_list_int F.sub_list_bool F.sub_list_str F.sub_list_list F.sub_list_tuple (λ_=>trivial) trivial) (λ_=>TS.casesOn (motive:=nL .dict) t F.sub_dict_int F.sub_dict_bool F.sub_dict_str F.sub_dict_list F.sub_dict_tuple (λ_=>trivial) trivial) (λc h=>(h c rfl).elim)
noncomputable def NeP (k:Kd)(t:TS):Prop:=match lg t with
 | some T=>(kX k t).getD eQ=bY->(OA (wA k)==OA T)=bY
 | none=>True
theorem Fg (k:Kd)(t:TS)(he:∀c,k≠.exc c):NeP k t:=by
 revert he;exact Kd.casesOn (motive:=λk=>(∀c,k≠.exc c)->NeP k t) k (λ_=>TS.casesOn (motive:=NeP .none) t (λ_=>rfl) (λ_=>rfl) (λ_=>rfl) (λ_=>rfl) (λ_=>rfl) (λ_=>trivial) trivial) (λ_=>TS.casesOn (motive:=NeP .bool) t tf tf (λ_=>rfl) (λ_=>rfl) (λ_=>rfl) (λ_=>trivial) trivial) (λ_=>TS.casesOn (motive:=NeP .int) t tf (λ_=>rfl) (λ_=>rfl) (λ_=>rfl) (λ_=>rfl) (λ_=>trivial) trivial) (λ_=>TS.casesOn (motive:=NeP .str) t (λ_=>rfl) (λ_=>rfl) tf (λ_=>rfl) (λ_=>rfl) (λ_=>trivial) trivial) (λ_=>TS.casesOn (motive:=NeP .tuple) t (λ_=>rfl) (λ_=>rfl) (λ_=>rfl) (λ_=>rfl) tf (λ_=>trivial) trivial) (λ_=>TS.casesOn (motive:=NeP .list) t (λ_=>rfl) (λ_=>rfl) (λ_=>rfl) tf (λ_=>rfl) (λ_=>trivial) trivial) (λ_=>TS.casesOn (motive:=NeP .dict) t (λ_=>rfl) (λ_=>rfl) (λ_=>rfl) (λ_=>rfl) (λ_=>rfl) (λ_=>trivial) trivial) (λc h=>(h c rfl).elim)
noncomputable def Ku (v:rW)(Tx:String):Prop:=∀T,(OA Tx==OA T)=bY->typeOf (.type T)=pure (.type "type")->isSubtype (.type Tx) (.type T)=pure bY->Answers (λs=>s.TypeIs v Tx) v (.type T) bY
theorem Fh (H:Hp C ρ hp s.heap)(hx:Rep C ρ s.heap x v)(hk:Bg hp x=aT k)(he:∀c,k≠.exc c):s.TypeIs v (wA k)/\Ku v (wA k):=by
 refine LL λhn=>?_
 cases x with
 | none=>obtain rfl:=hx.inv;obtain rfl:=BY hk;exact hn ⟨rfl,λ_=>.of_false_none⟩
 | bool _=>obtain rfl:=hx.inv;obtain rfl:=BY hk;exact hn ⟨rfl,λ_=>.of_false_bool⟩
 | int _=>obtain ⟨_,rfl⟩:=hx.inv;obtain rfl:=BY hk;exact hn ⟨rfl,λ_=>.of_false_int⟩
 | str _=>obtain ⟨_,rfl,_⟩:=hx.inv;obtain rfl:=BY hk;exact hn ⟨rfl,λ_=>.of_false_str⟩
 | tup _=>
  obtain ⟨a,n,items,rfl,g,_⟩:=hx.inv;obtain rfl:=BY hk;exact hn ⟨⟨_,g,rfl⟩,λ_=>.of_false_tuple⟩
 | ref i=>
  obtain ⟨a,rfl,g⟩:=hx.inv;replace hk:kdO hp[i]?=aT k:=hk
  cases hi:hp[i]? with
  | none=>rw [hi] at hk;exact av hk
  | some o=>
   rw [hi] at hk
   cases o with
   | list xs=>
    obtain ⟨items,n,gi,_⟩:=H.objs _ _ _ hi g;obtain rfl:=BY hk;exact hn ⟨⟨_,gi,rfl⟩,λ_=>.of_false_list⟩
   | dict es=>
    obtain ⟨kvs,dk,_⟩:=H.objs _ _ _ hi g;obtain rfl:=BY hk;exact hn ⟨dk.typeIs,λ_=>.of_false_dict⟩
   | exc c=>exact he c (BY hk).symm
   | _=>exact av hk
 | _=>exact av hk
theorem yq (e:lg t=aT T)(h:kX k t=aT b)(c:Nat):k≠.exc c:=λq=>by
 subst q;cases t<;>first | exact av e | exact av h
theorem j8 (H:Hp C ρ hp s.heap)(hx:Rep C ρ s.heap x v)(hk:Bg hp x=aT k)(eT:lg t=aT T)(h:kX k t=aT b):s.TypeIs v (wA k)/\Answers (λs=>s.TypeIs v (wA k)) v (.type T) b:=by
 have he:=yq eT h;refine e02 (Fh H hx hk he) λh1 h2=>?_;refine ⟨h1,?_⟩;have hm:=Bu t (by rw [eT];exact λq=>oW q);rw [<-Bt eT] at hm;have h3:=Bv k t he;have h4:=Fg k t he;unfold nL at h3;unfold NeP at h4;rw [eT,h] at h3 h4
 cases b with
 | true=>exact .of_true hm h3
 | false=>exact h2 T (h4 rfl) hm h3
theorem yr {prog:M6}{w:Ni}{v:rW}{Tx T:String}{b:Bool}{Q:rW->Do->Prop}(ha:Answers (λs=>s.TypeIs v Tx) v (.type T) b)(hT:s.TypeIs v Tx)(h:∀tk,Q (.bool b) { s with toks:=tk }):IF (model prog w) A (call (.builtin "isinstance") [v,.type T]) Q E s:=by
 refine Q1 (S:=λ_ R s'=>s'=s/\∀tk,R (.ok (.ret (.bool b))) { s with toks:=tk }) (λ_ _ _ _ s' hs=>?_) ⟨rfl,h⟩;obtain ⟨rfl,hs⟩:=hs;exact QO (ha _ _ _ _ _ _ _ ⟨hT,hs⟩) (Do.TypeIs.not_mainsLoader hT)
theorem Fi (H:Hp C ρ hp s.heap){x:MV}{v:rW}(hx:Rep C ρ s.heap x v){t:TS}{b:Bool}(h:fk hp x t=aT b){P:Bool->Prop}(hq:P b) :
  ∀T,lg t=aT T->IF (mod C) A (call (.builtin "isinstance") [v,.type T]) (gM s P) E s:=by
 intro T eT;refine e12 (jr h) λk hk h=>?_;obtain ⟨h1,h2⟩:=j8 H hx hk eT h;exact yr h2 h1 λtk=>⟨_,tk,rfl,rfl,hq⟩
theorem Bw (H:Hp C ρ hp s.heap)(hx:Rep C ρ s.heap x v)(eT:lg t=aT T)(eU:lg u=aT U)(h:fk hp x t=aT b)(h':fk hp x u=aT b')(hq:P (b||b'))
  (ht:s.heap.get? tp=aT { cls:=.type "tuple",data:=.seq #[.type T,.type U] }):IF (mod C) A (call (.builtin "isinstance") [v,.ref tp]) (gM s P) E s:=by
 refine e12 (jr h) λk hk h=>?_;refine e12 (jr h') λk' hk' h'=>?_;obtain rfl:=same hk hk';obtain ⟨h1,h2⟩:=j8 H hx hk eT h;refine e02 (j8 H hx hk eU h') λ_ h3=>?_;refine IsiPair.tupleOfB (vs:=[b,b']) (b:=b||b') (.cons h2 (.cons h3 .nil)) h1 ht ?_ λtk=>⟨_,tk,rfl,rfl,hq⟩
 show (b||(b'||false))=_;rw [Rh]
noncomputable def sH:Bi->Option (Str × rW)
 | .len=>aT ("len",.builtin "len")
 | .int=>aT ("int",.type "int")
 | .str=>aT ("str",.type "str")
 | .list=>aT ("list",.type "list")
 | .tuple=>aT ("tuple",.type "tuple")
 | .all=>if Ez then aT ("all",.builtin "all") else iD
 | .sum=>if EA then aT ("sum",.builtin "sum") else iD
 | _=>iD
noncomputable def lE:Bi->Bool
 | .len=>eQ
 | .int=>eQ
 | .str=>eQ
 | _=>bY
theorem pq (R:Rel C F ρ m s)(ok:aJ F)(hk:∀b o,s.heap.get? b=aT o->h'.get? b=aT o)(hr:Rep C ρ h' x v)(h:Q x m):Out C F ρ s Q v { s with heap:=h',toks:=t }:=by
 refine e02 (R.grow (s':={ s with heap:=h',toks:=t }) ok hk rfl rfl) λR' st=>?_;exact ⟨ρ,m,x,st,R',hr,h⟩
theorem Fj (G:GOk C)(R:Rel C F ρ m s)(ok:aJ F)(hx:Rep C ρ s.heap x v)(h:DM x Q m):IF (mod C) A (call (.builtin "len") [v]) (Out C F ρ s Q) E s:=by
 refine LL λhn=>?_
 cases x with
 | tup xs=>
  obtain ⟨a,n,items,rfl,g,l,z⟩:=hx.inv;refine hn (PySem.P.len_tuple g ?_ ?_)
  ·rw [Lv,l.length];have:=fY z;lia
  ·rw [Lv,l.length];exact bp R ok (.int _ _) h
 | str xs=>
  obtain ⟨t,rfl,z⟩:=hx.inv;refine hn (PySem.P.len_str ?_ ?_)
  ·rw [cO];have:=fY z;lia
  ·rw [cO];exact bp R ok (.int _ _) h
 | scr is=>
  obtain ⟨a,items,n,rfl,g,l,z⟩:=hx.inv;have hlen:=(l9 (C:=C) (ρ:=ρ) (h:=s.heap) l).length;rw [tO] at hlen;refine hn (PySem.Calls.call_len_list ⟨_,R.hp.base _ _ g,rfl,_,rfl⟩ ?_ ?_)
  ·rw [Lv,hlen];exact fY z
  ·rw [Lv,hlen];exact bp R ok (.int _ _) h
 | ref i=>
  obtain ⟨a,rfl,g⟩:=hx.inv;refine e12 (bB h) λys hi h=>?_;obtain ⟨items,n,gi,l,z⟩:=R.hp.objs _ _ _ hi g;refine hn (PySem.Calls.call_len_list ⟨_,gi,rfl,_,rfl⟩ ?_ ?_)
  ·rw [Lv,l.length];exact fY z
  ·rw [Lv,l.length];exact bp R ok (.int _ _) h
 | _=>exact h
theorem Fk (R:Rel C F ρ m s):(ρ++[a])[m.heap.length]?=aT a:=by rw [<-R.hp.len,LU (nO _)];simp
theorem sI (R:Rel C F ρ m s)(ok:aJ F)(hx:Rep C ρ s.heap (.ref i) v)(hi:m.heap[i]?=aT (.list ys))(h:Q (.tup ys) m):IF (mod C) A (call (.type "tuple") [v]) (Out C F ρ s Q) E s:=by
 obtain ⟨a,rfl,g⟩:=hx.inv;obtain ⟨items,n,gi,l,z⟩:=R.hp.objs _ _ _ hi g;refine call_tuple_list ⟨_,gi,rfl,_,rfl⟩ (λh' hk=>?_) (by rw [Lv,l.length];exact z);have hk':∀b o,s.heap.get? b=aT o->(h'.push (o0 items 0)).get? b=aT o:=λb o e=>Lj _ (hk b o e);exact pq R ok hk' (.tup (LI _ rfl) (l.up (λa o e _=>hk' a o e) (Lq _)) z) h
theorem Iz:∀{i:Int},-1<=i/\i<1000000->i.natAbs<1000000
 | .ofNat n,h=>M8.mp h.2
 | .negSucc 0,_=>by decide
 | .negSucc (n+1),h=>absurd (show Int.NonNeg (.negSucc n) from h.1) nofun
theorem Bx (h:-1<=i/\i<1000000):i.natAbs.log2<1920:=by
 have:i.natAbs<1000000:=Iz h
 rcases Nat.eq_zero_or_pos i.natAbs with q | q
 ·rw [q];decide
 ·have:=(Nat.log2_lt (n:=i.natAbs) (k:=20) (LY q)).mpr (iF this (nb rfl));exact iF this (nb rfl)
end
section
theorem iz {bs:List Bool}{items:List rW}{h:LA}(l:au C ρ h (bs.map .bool) items){j:Nat}{v:rW}(e:items[j]?=aT v):∃b,bs[j]?=aT b/\v=.bool b:=by
 have hj:j<bs.length:=by have:=(By.mp e).1;rw [l.length,tO] at this;exact this
 obtain ⟨v',e',r⟩:=l.get (i:=j) (x:=.bool bs[j]) (by rw [LG,Ls hj];rfl);obtain rfl:=same e e';exact ⟨_,Ls hj,r.inv⟩
theorem wB (bs:List Bool):(Nr bs.length).all (λj=>(bs[j]?).getD bY)=bs.all id:=by
 rw [O3,LN,LN];constructor
 ·intro h b hb;obtain ⟨j,hj,e⟩:=Po hb;have:=h j (Qq.mpr hj);rw [Ls hj,e] at this;exact this
 ·intro h j hj;have hj:=Qq.mp hj;rw [Ls hj];exact h _ (MC hj)
theorem Fo (hn:A.handled=iD)(R:Rel C F ρ m s)(ok:aJ F){i:Nat}{v:rW}(hx:Rep C ρ s.heap (.ref i) v){n:Str}{f:rW}(hb:sH .all=aT (n,f))(h:jd .all (.ref i) Q m):IF (mod C) A (call f [v]) (Out C F ρ s Q) E s:=by
 have hb:(aT ("all",.builtin "all"):Option (Str × rW))=aT (n,f):=hb
 cases hb
 obtain ⟨a,rfl,g⟩:=hx.inv;obtain ⟨xs,hi,bs,rfl,_,hq⟩:=bB h;obtain ⟨items,k,gi,l,z⟩:=R.hp.objs _ _ _ hi g;have hl:s.heap.IsList _ items.toArray:=⟨_,gi,rfl,_,rfl⟩
 refine call_all_walk (QD hl ?_);have hne:=Mn (Mu gi);refine ⟨_,_,_,_,_,_,λj=>(bs[j]?).getD bY,rfl,Walks.list (A:=A.in1) hn _ _ hne items.toArray,⟨⟨_,LI _ rfl,rfl,rfl⟩,hl.push _⟩,λj v s Q E hP hQ=>?_,λh' tk hk=>?_⟩
 ·obtain ⟨b,e1,rfl⟩:=iz l (j:=j) (v:=v) ((MQ ..).symm.trans hP);have hQ:Q ((bs[j]?).getD bY) s:=hQ;rw [e1] at hQ;exact Na hQ
 ·rw [Lv,l.length,tO,wB];exact pq R ok (λb o e=>hk b o (λhm=>Mn (Mu e) (oF.mp hm)) (Lj _ e)) (.bool _) hq
end
section
variable {C:Glo}{F:Fm}{X:XM}{ρ:List Lr}{m:MS}{s:Do}{Q:PQ}{E:rW->Do->Prop}{A:MP}{h:LA}{hp:List MO}
theorem mw:∀{is:List Int}{items:List rW},au C ρ h (is.map .int) items->∃ps:List (Int × Tok),items=ps.map (λp=>.int p.1 p.2)/\ps.map (·.1)=is
 | [],items,r=>⟨[],r.inv,rfl⟩
 | i::is,items,r=>by
  obtain ⟨v,ws,rfl,a,b⟩:=r.inv;obtain ⟨t,rfl⟩:=a.inv;obtain ⟨ps,h1,h2⟩:=mw b;exact ⟨(i,t)::ps,by rw [h1];rfl,by rw [<-h2];rfl⟩
theorem Fp (hn:A.handled=iD)(R:Rel C F ρ m s)(ok:aJ F){i:Nat}{v:rW}(hx:Rep C ρ s.heap (.ref i) v){n:Str}{f:rW}(hb:sH .sum=aT (n,f))(h:jd .sum (.ref i) Q m):IF (mod C) A (call f [v]) (Out C F ρ s Q) E s:=by
 have hb:(aT ("sum",.builtin "sum"):Option (Str × rW))=aT (n,f):=hb
 cases hb
 obtain ⟨a,rfl,g⟩:=hx.inv;obtain ⟨xs,hi,is,rfl,_,_,hq⟩:=bB h;obtain ⟨items,k,gi,l,z⟩:=R.hp.objs _ _ _ hi g;obtain ⟨ps,rfl,rfl⟩:=mw l;have e:(ps.map λp=>rW.int p.1 p.2).toArray=intItems ps.toArray:=by unfold intItems;rw [List.map_toArray]
 have hl:s.heap.IsList a (intItems ps.toArray):=e▸⟨_,gi,rfl,_,rfl⟩;refine sum_intListG hn hl λh' tk t' hk=>?_;rw [preSum_eq,M0 (by simp)];exact pq R ok hk (.int _ _) hq
end
section
theorem wC (G:GOk C)(hn:A.handled=iD)(R:Rel C F ρ m s)(ok:aJ F)(hx:Rep C ρ s.heap x v)(h:qo x Q m):IF (mod C) A (call (.type "list") [v]) (Out C F ρ s Q) E s:=by
 have key:∀{a:Lr} {ys:List MV} {items:List rW} {k:Nat} {T:String},(T="list"\/T="tuple")->s.heap.get? a=aT { cls:=.type T,dict:=none,data:=.seq items.toArray k,slots:=#[] }->au C ρ s.heap ys items->ys.length<=line->Q (.ref m.heap.length) (m.push (.list ys))->IF (mod C) A (call (.type "list") [.ref a]) (Out C F ρ s Q) E s:=λ{a ys items k T} hT gi l z h=>by
  refine call_list_seq _ hT gi rfl rfl (λh' c' hk hn=>?_) (by rw [Lv,l.length];exact z);obtain ⟨R',st⟩:=R.alloc (s':={ s with heap:=h' }) ok hk rfl rfl (o:=.list ys) (a:=s.heap.objs.size) (bC (nO _))
   ⟨items,c',hn,l.up (λa o e _=>hk a o e) (Mx _ _),z⟩
  exact ⟨_,_,_,st,R',.ref (Fk R),h⟩
 refine LL λhc=>?_
 cases x with
 | ref i=>
  refine e12 (bB h) λys hi h=>?_;obtain ⟨a,rfl,g⟩:=hx.inv;obtain ⟨items,n,gi,l,z⟩:=R.hp.objs _ _ _ hi g;exact hc (key (.inl rfl) gi l z h)
 | tup ys=>
  obtain ⟨a,n,items,rfl,gi,l,z⟩:=hx.inv;exact hc (key (.inr rfl) gi l z h)
 | _=>exact h
theorem yt (R:Rel C F ρ m s)(ok:aJ F)(hx:Rep C ρ s.heap x v)(h:jd .int x Q m):IF (mod C) A (call (.type "int") [v]) (Out C F ρ s Q) E s:=by
 refine LL λhn=>?_
 cases x with
 | bool c=>obtain rfl:=hx.inv;exact hn (call_int_bool (bp R ok (.int _ _) (by cases c<;>exact h)))
 | _=>exact h
theorem yu (R:Rel C F ρ m s)(ok:aJ F)(hx:Rep C ρ s.heap x v)(h:jd .str x Q m):IF (mod C) A (call (.type "str") [v]) (Out C F ρ s Q) E s:=by
 refine LL λhn=>?_
 cases x with
 | str z=>obtain ⟨t,rfl,_⟩:=hx.inv;exact hn (PySem.P.str_of_str (bP R hx h))
 | int i=>
  obtain ⟨t,rfl⟩:=hx.inv;refine hn (PySem.P.str_of_int (Bx h.1) ?_);have e:(NQ (toString i):Str)=str (dec i):=by rw [Str.ofString_eq_toList];rfl
  rw [e];exact bp R ok (.str _ _ (iF (Bl h.1) (by decide))) h.2
 | _=>exact h
theorem Fq (G:GOk C)(R:Rel C F ρ m s)(ok:aJ F)(hh:lE b=eQ\/A.handled=iD)(hl:au C ρ s.heap xs vs)(hb:sH b=aT (n,f))(h:qp b xs Q m) :
  IF (mod C) A (call f vs) (Out C F ρ s Q) E s:=by
 have hf:∀{f':rW} {n':Str},aT (n',f')=aT (n,f)->IF (mod C) A (call f' vs) (Out C F ρ s Q) E s->IF (mod C) A (call f vs) (Out C F ρ s Q) E s:=λe k=>by
  obtain rfl:_=f:=congrArg Prod.snd (BY e);exact k
 obtain ⟨x,rfl,h⟩:=eZ h;obtain ⟨v,rfl,hx⟩:=hl.one;refine LL λhn=>?_
 cases b with
 | len=>exact hn (hf hb (Fj G R ok hx h))
 | list=>exact hn (hf hb (wC G (hh.resolve_left (by decide)) R ok hx h))
 | all=>
  obtain ⟨i,rfl,h1⟩:=jq h;exact hn (Fo (hh.resolve_left λq=>ff q) R ok hx hb h)
 | sum=>
  obtain ⟨i,rfl,h1⟩:=jq h;exact hn (Fp (hh.resolve_left (by decide)) R ok hx hb h)
 | int=>exact hn (hf hb (yt R ok hx h))
 | str=>exact hn (hf hb (yu R ok hx h))
 | tuple=>
  obtain ⟨i,rfl,h1⟩:=jq h;refine e12 (bB h1) λys hi h1=>?_;exact hn (hf hb (sI R ok hx hi h1))
 | _=>exact av hb
end
set_option genCtorIdx false in
structure Cx where
 kind:Str->Option NameKind
 nm:Nat->Option Str
 fn:Nat->Option Str
 gl:Nat->Option (Str × MV)
 wr:Nat->Bool
 fr:Nat->Bool
 nh:Bool
 hf:Nat->Bool
 cn:Nat->Option Str
 xn:Nat->Option Str
 mt:Nat->Option (Nat × Str)
 at_:Nat->Str->Bool
noncomputable def dbg (x:Str):Bool:=x==("__debug__":Str)
noncomputable def cdc (x:Str):Bool:=x==("__classdict__":Str)
noncomputable def cv:List (Str × rW):=[("len",.builtin "len"),("int",.type "int"),("str",.type "str"),("list",.type "list"),("tuple",.type "tuple"),("dict",.type "dict"),
 ("bool",.type "bool"),("isinstance",.builtin "isinstance"),("range",.type "range"),("enumerate",.type "enumerate"),("sorted",.builtin "sorted"),("set",.type "set"),("all",.builtin "all"),("min",.builtin "min"),("max",.builtin "max"),("ValueError",.type "ValueError"),("sum",.builtin "sum"),("reversed",.type "reversed")]
inductive yw (C:Glo)(g b:Lr)(fn:Nat->Option Str)(gl:Nat->Option (Str × MV))(cn xn:Nat->Option Str):Prop
 | mk (mg mb:Str->Option rW) (h1:C.base.Ns g mg) (h2:C.base.Ns b mb) (hf:∀f x,fn f=aT x->∃a,C.fa f=aT a/\mg x=aT (.ref a)) (hg:∀g x v,gl g=aT (x,v)->∃w,mg x=aT w/\∀ρ h,C.base.StaysIn h->Rep C ρ h v w)
   (hb:∀x v,(x,v)∈cv->mg x=iD/\mb x=aT v) (hc:∀k x,cn k=aT x->∃K,C.ca k=aT K/\mg x=aT (.ref K)) (hx:∀k x,xn k=aT x->∃K,C.xa k=aT K/\mg x=aT (.ref K))
structure aq (C:Glo)(c:Cx)(F:Fm)(n:Nat):Prop where
 fm:aJ F
 kind:∀x,F.env.kindOf x=c.kind x
 nm:∀i x,c.nm i=aT x->(F.env.kindOf x=aT .local/\F.lay i=aT (.nm F.env.locals x))\/
  (∃a,(F.env.kindOf x=aT .cell\/(F.env.kindOf x=aT .free/\cdc x=bY))/\F.env.cells.lookup x=aT a/\F.lay i=aT (.cl a))
 glob:yw C F.env.globals F.env.builtins c.fn c.gl c.cn c.xn
 meth:∀f k x,c.mt f=aT (k,x)->∃a,C.fa f=aT a/\C.cm k x=aT (.ref a)/\∃o,C.base.get? a=aT o/\o.cls=.type "function"
 attr:∀k x,c.at_ k x=eQ->C.cm k x=iD
 hn:c.nh=eQ->F.A.handled=iD
 hf:c.hf=C.hf
 units:F.A.units<=3 * F.A.depth+4
 room:F.A.depth+n<=999
 inter:interactive F.env=bY
 wr:∀i a,F.lay i=aT (.cl a)->c.wr i=eQ->a∈F.W
 fr:∀i,c.fr i=eQ->F.lay i=iD
theorem aq.u (x:aq C c F n):F.A.units+1001<cLine:=by
 exact IT (MG (iF x.units (MG (NC 3 (iF (LQ _ n) x.room)) 4)) 1001) (show 3 * 999+4+1001<9900 by decide)
section
variable {m:MS}{s:Do}
theorem iA (H:Hp C ρ m.heap s.heap)(h:C.base.Ns a f):s.heap.Ns a f:=ju h λo e=>⟨o,H.base a o e,rfl⟩
theorem Bz (cx:aq C c F n)(R:Rel C F ρ m s)(hx:c.nm i=aT x)(hv:m.get i=aT v)(hd:dbg x=bY)(hq:∀w,Rep C ρ s.heap v w->P w s) :
  IF (mod C) A (eval (.Name x p) F.env) P E s:=by
 refine e12 (R.vars i v hv) λl h1 h2=>?_;refine wpAny_Name ?_ hd
 rcases cx.nm i x hx with ⟨k,e⟩ | ⟨a,k,e1,e⟩
 ·obtain rfl:=same e h1;obtain ⟨f,w,hn,hw,r⟩:=h2;exact wpAny_loadName_local cx.fm.kind k hn hw (hq _ r)
 ·obtain rfl:=same e h1;obtain ⟨w,hc,r⟩:=h2
  rcases k with k | ⟨k,kd⟩
  ·exact wpAny_loadName_cell cx.fm.kind k e1 hc (hq _ r)
  ·exact wpAny_loadName_free cx.fm.kind k e1 hc (hq _ r) kd
theorem yx (cx:aq C c F n)(R:Rel C F ρ m s)(hx:c.nm i=aT x)(hv:m.get i=aT v)(hd:dbg x=bY)(hq:Q v m) :
  IF (mod C) A (eval (.Name x p) F.env) (Out C F ρ s Q) E s:=Bz cx R hx hv hd λ_ r=>bP R r hq
theorem cW (cx:aq C c F n)(R:Rel C F ρ m s)(hm:(x,v)∈cv)(hk:c.kind x=aT .globalImplicit)(hd:dbg x=bY)(h:P v s) :
  IF (mod C) A (eval (.Name x p) F.env) P E s:=by
 obtain ⟨mg,mb,h1,h2,_,_,h3,_⟩:=cx.glob;exact Nz cx.fm.kind ((cx.kind x).trans hk) (Calls.loadGlobal_builtin (iA R.hp h1) (h3 x v hm).1 (iA R.hp h2) (h3 x v hm).2 h) hd
theorem BA (cx:aq C c F n)(R:Rel C F ρ m s)(hm:c.fn f=aT x)(hk:c.kind x=aT .globalImplicit)(hd:dbg x=bY)(h:∀a,C.fa f=aT a->P (.ref a) s) :
  IF (mod C) A (eval (.Name x p) F.env) P E s:=by
 obtain ⟨mg,mb,h1,h2,h3,_⟩:=cx.glob;obtain ⟨a,e1,e2⟩:=h3 f x hm;exact Nz cx.fm.kind ((cx.kind x).trans hk) (OK (iA R.hp h1) e2 (h a e1)) hd
theorem BB (cx:aq C c F n)(R:Rel C F ρ m s)(hm:c.gl g=aT (x,v))(hk:c.kind x=aT .globalImplicit)(hd:dbg x=bY)(hq:Q v m) :
  IF (mod C) A (eval (.Name x p) F.env) (Out C F ρ s Q) E s:=by
 obtain ⟨mg,mb,h1,h2,_,h3,_⟩:=cx.glob;refine e12 (h3 g x v hm) λw e1 e2=>?_;exact Nz cx.fm.kind ((cx.kind x).trans hk) (OK (iA R.hp h1) e1 (bP R (e2 ρ s.heap R.hp.base) hq)) hd
theorem yy (cx:aq C c F n)(R:Rel C F ρ m s)(hm:c.cn k=aT x)(hk:c.kind x=aT .globalImplicit)(hd:dbg x=bY)(h:∀a,C.ca k=aT a->P (.ref a) s) :
  IF (mod C) A (eval (.Name x p) F.env) P E s:=by
 obtain ⟨mg,mb,h1,h2,_,_,_,h3,_⟩:=cx.glob;obtain ⟨a,e1,e2⟩:=h3 k x hm;exact Nz cx.fm.kind ((cx.kind x).trans hk) (OK (iA R.hp h1) e2 (h a e1)) hd
theorem my (cx:aq C c F n)(R:Rel C F ρ m s)(hm:c.xn k=aT x)(hk:c.kind x=aT .globalImplicit)(hd:dbg x=bY)(h:∀a,C.xa k=aT a->P (.ref a) s) :
  IF (mod C) A (eval (.Name x p) F.env) P E s:=by
 obtain ⟨mg,mb,h1,h2,_,_,_,_,h3⟩:=cx.glob;obtain ⟨a,e1,e2⟩:=h3 k x hm;exact Nz cx.fm.kind ((cx.kind x).trans hk) (OK (iA R.hp h1) e2 (h a e1)) hd
theorem fE (cx:aq C c F n)(R:Rel C F ρ m s)(hx:c.nm i=aT x)(hk:c.kind x=aT .local\/(c.wr i=eQ/\c.kind x≠aT .free))(hr:Rep C ρ s.heap v w)
  (h:∀s',ao F.W ρ s ρ s'->Rel C F ρ (m.set i v) s'->(∀a∈ρ,∀o,s.heap.get? a=aT o->s'.heap.get? a=aT o)->P () s'):IF (mod C) A (storeName F.env x w) P E s:=by
 rcases cx.nm i x hx with ⟨k,e⟩ | ⟨a,k,e1,e⟩
 ·obtain ⟨f,hf⟩:=R.ns;refine wpAny_storeName_local k hf (λh' hn hs=>?_) (by rw [cx.fm.kind];rfl);refine e02 (R.setName (s':={ s with heap:=h',toks:=s.toks+1 }) cx.fm e hf hn hs rfl rfl hr) λR' st=>?_;exact h _ st R' λb hb o e=>(hs.2 b λq=>(R.w _ (LC _ cx.fm.loc)).1 (q▸hb)).trans e
 ·rcases k with k | ⟨k,_⟩
  ·obtain ⟨v₀,hc⟩:=R.cells i a e;refine wpAny_storeName_cell cx.fm.kind k e1 hc λh' hn hs=>?_;have hwr:c.wr i=eQ:=hk.elim (λq=>absurd ((cx.kind x).symm.trans k) (by rw [q];decide)) (·.1);refine e02 (R.setCell (s':={ s with heap:=h' }) cx.fm e (cx.wr i a e hwr) hc hn hs rfl rfl hr) λR' st=>?_;exact h _ st R' λb hb o eb=>(hs.2 b λq=>(R.w _ (LC _ (cx.wr i a e hwr))).1 (q▸hb)).trans eb
  ·exact hk.elim (λq=>absurd ((cx.kind x).symm.trans k) (by rw [q];decide)) λq=>absurd ((cx.kind x).symm.trans k) q.2
noncomputable def pt:Me->Option Str
 | .append=>aT "append"
 | .find=>aT "find"
 | .extend=>aT "extend"
 | .pop=>aT "pop"
 | .count=>aT "count"
 | .insert=>if oV then aT "insert" else iD
 | .popAt=>if oV then aT "pop" else iD
 | .clear=>if oV then aT "clear" else iD
 | .index=>if oV then aT "index" else iD
inductive Kv (C:Glo)(ρ:List Lr)(hp:List MO)(h:LA)(x:MV)(v:rW)(r:Nat)(xs:List MV):Prop
 | mk (a:Lr) (items:List rW) (k:Nat) (hv:v=.ref a) (hx:x=.ref r) (g:ρ[r]?=aT a) (hi:hp[r]?=aT (.list xs)) (gi:h.get? a=aT (dQ items k)) (rl:au C ρ h xs items) (z:xs.length<=line)
theorem dF (H:Hp C ρ m.heap s.heap)(hx:Rep C ρ s.heap x v)(h:lst x m.heap=aT (r,xs)):Kv C ρ m.heap s.heap x v r xs:=by
 obtain ⟨rfl,hi⟩:=Bf h;obtain ⟨a,rfl,g⟩:=hx.inv;obtain ⟨items,k,gi,rl,z⟩:=H.objs _ _ _ hi g;exact ⟨a,items,k,rfl,rfl,g,hi,gi,rl,z⟩
theorem yz (h:(lst x hp).isSome=eQ):∃r xs,lst x hp=aT (r,xs):=by
 obtain ⟨⟨r,xs⟩,h⟩:=ML.mp h;exact ⟨r,xs,h⟩
theorem fF (ok:aJ F)(st₀:ao F.W ρ₀ s₀ ρ s)(R:Rel C F ρ m s)(g:ρ[r]?=aT a)(hi:m.heap[r]?=aT (.list xs))
  (hk:∀b ob,b≠a->s.heap.get? b=aT ob->h'.get? b=aT ob) (e:h'.get? a=aT (dQ items k)) (hr:au C ρ s.heap ys items) (hz:ys.length<=line) (hw:Rep C ρ s.heap z w) (hq:Q z (m.put r (.list ys))) :
  Out C F ρ₀ s₀ Q w { s with heap:=h',toks:=t }:=by
 have hsol:aR s.heap h':=dv hk (cV (R.hp.objs _ _ _ hi g));refine e02 (R.put (s':={ s with heap:=h',toks:=t }) ok g hi (o:=.list ys) hk rfl rfl ⟨items,k,e,hr.up hsol (Lq _),hz⟩) λR₂ st₂=>?_;exact ⟨_,_,z,st₀.trans st₂,R₂,hw.up hsol (Lq _),hq⟩
theorem cT (e:f items.toArray=ys.toArray):∃k',MM f (dQ items k)=dQ ys k':=
 ⟨if (f items.toArray).size==items.toArray.size then k else k+1,congrArg (λz=>({ cls:=.type "list",data:=.seq z (if (f items.toArray).size==items.toArray.size then k else k+1) }:OQ)) e⟩
theorem yA {id:String}{v:rW}{trees:List (Bool × Sem rW)}{pos:Pos}{P:rW->Do->Prop}(hp:trees.any (·.1)=bY)
  (h:IF (mod C) A (spliced trees) (λvs s₁=>IF (mod C) A (call (.builtin id) (v::vs)) P E s₁) E s):IF (mod C) A (callWith pos (.builtin id) [v] trees []) P E s:=by
 refine Calls.callWith_builtin hp ?_
 cases trees with
 | nil=>exact iS (Lk h (λvs s' h'=>Md (iS (EQ (iS (EQ (EQ h')))))) λ_ _ x=>x)
 | cons q trees=>
  obtain ⟨b,t⟩:=q;simp only [QK,NV] at hp;obtain ⟨rfl,_⟩:=hp;exact NW h
end
section
set_option tactic.hygienic true in
theorem sJ (xs:List α):(xs.toArray.eraseIdxIfInBounds (xs.toArray.size-1))=xs.dropLast.toArray:=by
 rw [Lv];apply RB;simp [Array.eraseIdxIfInBounds]
 split
 ·simp [PY]
 ·rename_i h;have:xs=[]:=by
   cases xs with
   | nil=>rfl
   | cons a r=>simp at h
  subst this;rfl
theorem Fs (ok:aJ F)(st₀:ao F.W ρ₀ s₀ ρ s)(R:Rel C F ρ m s)(hx:Rep C ρ s.heap x v)(rl:au C ρ s.heap xs vs)(h:dP .pop x xs Q m) :
  IF (mod C) A (call (.builtin "list.pop") (v::vs)) (Out C F ρ₀ s₀ Q) E s:=by
 replace h:=h.2;obtain ⟨r,ys,hl,rfl,j1⟩:=dU h;refine e12 (cj j1) λy hy j2=>?_;obtain ⟨a,items,k,rfl,rfl,g,hi,gi,ri,z⟩:=dF R.hp hx hl
 cases rl with | nil=>
 refine e12 (ri.get hy) λw hw rw'=>?_;have hsz:items.toArray.size=ys.length:=by rw [Lv,ri.length]
 refine Pa O7 ⟨_,gi,rfl⟩ PySem.F.entry_list_pop (PySem.F.args_list_pop_1 _) (PySem.MeetsSeq.list_pop_last a items.toArray k w (by rw [hsz];simpa using hw) (by rw [hsz];exact z)) ⟨gi,?_⟩;have hs:=Mm s.heap a (MM λxs=>xs.eraseIdxIfInBounds (items.toArray.size-1));have hg:=LZ (MM λxs=>xs.eraseIdxIfInBounds (items.toArray.size-1)) gi rfl;obtain ⟨k₂,e₂⟩:=cT (k:=k) (f:=λxs=>xs.eraseIdxIfInBounds (items.toArray.size-1)) (sJ items);refine fF ok st₀ R g hi (t:=s.toks) (λb ob q e=>(hs.2 b q).trans e) (items:=items.dropLast) (k:=k₂) (hg.trans (congrArg aT e₂)) ?_ (iF (by rw [List.length_dropLast];exact N1 ..) z) rw' j2;rw [PY,PY,ri.length];exact ri.take _
end
section
variable {m:MS}{s:Do}
noncomputable def BC:Me->String
 | .append=>"list.append"
 | .extend=>"list.extend"
 | .pop=>"list.pop"
 | .find=>"str.find"
 | .count=>"list.count"
 | .insert=>"list.insert"
 | .popAt=>"list.pop"
 | .clear=>"list.clear"
 | .index=>"list.index"
noncomputable def BE:Me->String
 | .find=>"str"
 | _=>"list"
inductive MeF (T:String)(name:Str)(id:String):Prop
 | mk (pa:PlainAttrs T) (sl:Slot T name id) (ty:typeOf (.builtin id)=pure (.type "method_descriptor"))
noncomputable def MeP (k:Me):Prop:=match pt k with
 | some name=>MeF (BE k) name (BC k)
 | none=>True
theorem Kw (k:Me):MeP k:=by
 cases k with
 | append=>exact ⟨MU,slot_list_append,rfl⟩
 | extend=>exact ⟨MU,PySem.F.slot_list_extend,rfl⟩
 | pop=>exact ⟨MU,O7,rfl⟩
 | count=>exact ⟨MU,PySem.F.slot_list_count,PySem.F.type_list_count⟩
 | find=>exact ⟨PySem.F.plainAttrs_str,PySem.F.slot_str_find,PySem.F.type_str_find⟩
 | insert=>first | exact trivial | exact ⟨MU,PySem.F.slot_list_insert,PySem.F.type_list_insert⟩
 | popAt=>first | exact trivial | exact ⟨MU,O7,rfl⟩
 | clear=>first | exact trivial | exact ⟨MU,PySem.F.slot_list_clear,PySem.F.type_list_clear⟩
 | index=>first | exact trivial | exact ⟨MU,PySem.F.slot_list_index,PySem.F.type_list_index⟩
theorem Ft (ok:aJ F)(st₀:ao F.W ρ₀ s₀ ρ s)(R:Rel C F ρ m s)(hx:Rep C ρ s.heap x v)(rl:au C ρ s.heap xs vs)(h:dP .append x xs Q m) :
  IF (mod C) A (call (.builtin "list.append") (v::vs)) (Out C F ρ₀ s₀ Q) E s:=by
 dsimp only [dP] at h;refine e22 (dU h) λr ys hl j1=>?_;obtain ⟨y,rfl,h1,h2⟩:=eZ j1;obtain ⟨a,items,k,rfl,rfl,g,hi,gi,ri,z⟩:=dF R.hp hx hl;obtain ⟨w1,rfl,ra⟩:=rl.one;refine PySem.wpAny_list_append_plain ⟨_,gi⟩ (λh' hl hs=>?_) (by rw [Lv,ri.length];exact z);obtain ⟨n,hl⟩:=hl;exact fF ok st₀ R g hi (t:=s.toks) (λb ob q e=>(hs.2 b q).trans e) (items:=items++[_]) (k:=n) (by rw [hl];simp) (ri.append (.cons ra .nil)) (by rw [iN];exact h1) .none h2
theorem Fu (ok:aJ F)(st₀:ao F.W ρ₀ s₀ ρ s)(R:Rel C F ρ m s)(hx:Rep C ρ s.heap x v)(rl:au C ρ s.heap xs vs)(h:dP .extend x xs Q m) :
  IF (mod C) A (call (.builtin "list.extend") (v::vs)) (Out C F ρ₀ s₀ Q) E s:=by
 dsimp only [dP] at h;refine e22 (dU h) λr ys hl j1=>?_;obtain ⟨y,rfl,j2⟩:=eZ j1;refine e23 (dU j2) λr' zs hl' h1 h2=>?_;obtain ⟨a,items,k,rfl,rfl,g,hi,gi,ri,z⟩:=dF R.hp hx hl;obtain ⟨w1,rfl,ra⟩:=rl.one;obtain ⟨a',items',k',rfl,rfl,g',hi',gi',ri',z'⟩:=dF R.hp ra hl';have hlen:items.toArray.size+items'.toArray.size<=sizeLine:=by rw [Lv,Lv,ri.length,ri'.length];exact h1
 have hlong:¬(!items.toArray.isEmpty&&NP (items.toArray.size+items'.toArray.size))=eQ:=by
  have:NP (items.toArray.size+items'.toArray.size)=bY:=by
   unfold NP
   simpa using hlen
  rw [this,Bool.and_false];decide
 refine Pa PySem.F.slot_list_extend ⟨_,gi,rfl⟩ PySem.F.entry_list_extend (PySem.F.args_list_extend_2 _ _) (PySem.AutoSeq1.list_extend_list_list_0 a items.toArray k a' items'.toArray k' hlong (iF (LQ ..) hlen) (Mw hlen)) ⟨gi,gi',?_⟩;have hs:=Mm s.heap a (MM λx=>x++items'.toArray);have hg:=LZ (MM λx=>x++items'.toArray) gi rfl;have e:items.toArray++items'.toArray=(items++items').toArray:=Qj ..;obtain ⟨k₂,e₂⟩:=cT (k:=k) (f:=λx=>x++items'.toArray) e;exact fF ok st₀ R g hi (t:=s.toks) (λb ob q e=>(hs.2 b q).trans e) (items:=items++items') (k:=k₂) (hg.trans (congrArg aT e₂)) (ri.append ri') (by rw [iN];exact h1) .none h2
theorem BF (ok:aJ F)(st₀:ao F.W ρ₀ s₀ ρ s)(R:Rel C F ρ m s)(rl:au C ρ s.heap xs vs)(h:dP .find (.str x) xs Q m) :
  IF (mod C) A (call (.builtin "str.find") (.str (str x) t::vs)) (Out C F ρ₀ s₀ Q) E s:=by
 dsimp only [dP] at h;obtain ⟨y,rfl,j1⟩:=eZ h;obtain ⟨z,rfl,j2⟩:=oX j1;obtain ⟨_,rfl,ra⟩:=rl.one;obtain ⟨u,rfl,zu⟩:=ra.inv;refine PySem.SC.find ?_;refine e02 (R.tok ok (s.toks+1)) λR₂ st₂=>?_;refine ⟨_,_,_,st₀.trans st₂,R₂,.int _ _,j2 _ ?_⟩;unfold Txt.find
 split<;>exact L5 _
end
section
variable {C:Glo}{F:Fm}{X:XM}{ρ:List Lr}{m:MS}{s:Do}{Q:PQ}{E:rW->Do->Prop}{A:MP}{c:Cx}{n:Nat}
noncomputable def Fw:rW->Bool
 | .bool b=>b
 | _=>bY
theorem qI {h:LA}{bs:List Bool}{items:List rW}(ri:au C ρ h (bs.map .bool) items):items.countP Fw=bs.count eQ:=by
 induction bs generalizing items with
 | nil=>rw [ri.inv];rfl
 | cons b bs ih=>
  obtain ⟨v,ws,rfl,rb,rr⟩:=ri.inv;rw [rb.inv,List.countP_cons,List.count_cons,ih rr]
  cases b<;>rfl
theorem yB (ok:aJ F){x:MV}{v:rW}{ρ₀:List Lr}{s₀:Do}(st₀:ao F.W ρ₀ s₀ ρ s)(R:Rel C F ρ m s)(hx:Rep C ρ s.heap x v){xs:List MV}{vs:List rW}(rl:au C ρ s.heap xs vs)(h:dP .count x xs Q m) :
  IF (mod C) A (call (.builtin "list.count") (v::vs)) (Out C F ρ₀ s₀ Q) E s:=by
 replace h:=(show xP=eQ/\_ from h).2;obtain ⟨r,ys,hl,j1⟩:=dU h;obtain ⟨y,rfl,j2,bs,rfl,hbl,j3⟩:=eZ j1;clear hbl;obtain ⟨a,items,k,rfl,rfl,g,hi,gi,ri,z⟩:=dF R.hp hx hl;obtain ⟨w1,rfl,ra⟩:=rl.one;have hy:y=.bool eQ:=by
  cases y with
  | bool b=>cases b with
   | true=>rfl
   | false=>exact j2.elim
  | _=>exact j2.elim
 subst hy;obtain rfl:=ra.inv;have hc:=qI ri;refine Pa PySem.F.slot_list_count ⟨_,gi,rfl⟩ PySem.F.entry_list_count (PySem.F.args_list_count_2 _ _) (SeqAt.list_countAt a items.toArray k iD #[] (.bool eQ) Fw) ⟨gi,λw hw=>?_,?_⟩
 ·obtain ⟨j,hj,e⟩:=Po (show w∈items by simpa using hw);obtain ⟨b,_,rfl⟩:=iz ri (j:=j) (v:=w) (by rw [Ls hj,e]);have:=P4.bool_bool (A:=A.in1) (s:=s) b eQ
  cases b<;>exact this
 ·rw [show items.toArray.toList=items from rfl,hc];exact Out.back st₀ _ _ (bp R ok (.int _ _) j3)
end
section
theorem yC (ok:aJ F)(st₀:ao F.W ρ₀ s₀ ρ s)(R:Rel C F ρ m s)(hx:Rep C ρ s.heap x v)(rl:au C ρ s.heap xs vs)(hk:(pt .clear).isSome=eQ)(h:dP .clear x xs Q m) :
  IF (mod C) A (call (.builtin "list.clear") (v::vs)) (Out C F ρ₀ s₀ Q) E s:=by
 obtain ⟨r,ys,hl,rfl,j1⟩:=dU h;obtain ⟨a,items,k,rfl,rfl,g,hi,gi,ri,z⟩:=dF R.hp hx hl;obtain rfl:=rl.inv;refine Pa PySem.F.slot_list_clear ⟨_,gi,rfl⟩ PySem.F.entry_list_clear (PySem.F.args_list_clear_1 _) (PySem.AutoSeq1.list_clear_list_0 a items.toArray k (by rw [Lv,ri.length];exact z)) ⟨gi,?_⟩;have hs:=Mm s.heap a (MM λ_=>#[]);have hg:=LZ (MM λ_=>#[]) gi rfl;obtain ⟨k₂,e₂⟩:=cT (items:=items) (k:=k) (f:=λ_=>#[]) (ys:=[]) rfl;exact fF ok st₀ R g hi (t:=s.toks) (λb ob q e=>(hs.2 b q).trans e) (items:=[]) (k:=k₂) (hg.trans (congrArg aT e₂)) .nil (Ly _) .none j1
theorem wD (ok:aJ F)(st₀:ao F.W ρ₀ s₀ ρ s)(R:Rel C F ρ m s)(hx:Rep C ρ s.heap x v)(rl:au C ρ s.heap xs vs)(hk:(pt .insert).isSome=eQ)(h:dP .insert x xs Q m) :
  IF (mod C) A (call (.builtin "list.insert") (v::vs)) (Out C F ρ₀ s₀ Q) E s:=by
 obtain ⟨r,ys,hl,j1⟩:=dU h;obtain ⟨y,w,rfl,j2⟩:=Bd j1;obtain ⟨i,rfl,⟨⟨i0,i1⟩,i2⟩,j3⟩:=jn j2;obtain ⟨a,items,k,rfl,rfl,g,hi,gi,ri,z⟩:=dF R.hp hx hl;obtain ⟨u1,u2,rfl,ra,rb⟩:=rl.two;obtain ⟨t,rfl⟩:=ra.inv;have hsz:items.toArray.size=ys.length:=by rw [Lv,ri.length]
 have hfit:¬ (!Ny i)=eQ:=by
  have:(ys.length:Int)<2 ^ 63:=by have:=i2;unfold line at this;lia
  unfold Ny;simp;lia
 refine Pa PySem.F.slot_list_insert ⟨_,gi,rfl⟩ PySem.F.entry_list_insert (PySem.F.args_list_insert_3 _ _ _) (PySem.AutoSeq1.list_insert_list_int_val_1 a items.toArray k i t u2 hfit (by rw [hsz];exact z)) ⟨gi,?_⟩;generalize hf:(λxs:Array rW=>have k:=if i<0 then (i+((xs.size:Nat):Int)).toNat else min i.toNat xs.size;(xs.extract 0 k).push u2++xs.extract k)=f;have hs:=Mm s.heap a (MM f);have hg:=LZ (MM f) gi rfl;have ef:f items.toArray=(items.take i.toNat++u2::items.drop i.toNat).toArray:=by
  have hm:min i.toNat items.toArray.size=i.toNat:=Nf (by rw [hsz];lia);rw [<-hf];show (items.toArray.extract 0 (if i<0 then _ else min i.toNat items.toArray.size)).push u2++_=_;rw [if_neg (by lia),hm];apply RB;simp;exact M0 (by simp)
 obtain ⟨k₂,e₂⟩:=cT (k:=k) (f:=f) ef;exact fF ok st₀ R g hi (t:=s.toks) (λb ob q e=>(hs.2 b q).trans e) (k:=k₂) (hg.trans (congrArg aT e₂)) ((ri.take _).append (.cons rb (ri.drop _))) (by simp;unfold line at *;lia) .none j3
theorem yD (ok:aJ F)(st₀:ao F.W ρ₀ s₀ ρ s)(R:Rel C F ρ m s)(hx:Rep C ρ s.heap x v)(rl:au C ρ s.heap xs vs)(hk:(pt .popAt).isSome=eQ)(h:dP .popAt x xs Q m) :
  IF (mod C) A (call (.builtin "list.pop") (v::vs)) (Out C F ρ₀ s₀ Q) E s:=by
 obtain ⟨r,ys,hl,j1⟩:=dU h;obtain ⟨y,rfl,j2⟩:=eZ j1;obtain ⟨i,rfl,⟨i0,i1⟩,j3⟩:=jn j2;refine e12 (cj j3) λw hw j4=>?_;obtain ⟨a,items,k,rfl,rfl,g,hi,gi,ri,z⟩:=dF R.hp hx hl;obtain ⟨w1,rfl,ra⟩:=rl.one;obtain ⟨t,rfl⟩:=ra.inv;refine e12 (ri.get hw) λu hu ru=>?_;have hsz:items.toArray.size=ys.length:=by rw [Lv,ri.length]
 have hfit:Ny i=eQ:=by
  have:(ys.length:Int)<2 ^ 63:=by have:=z;unfold line at this;lia
  unfold Ny;simp;lia
 have hidx:seqIndex? i items.toArray.size=aT i.toNat:=by
  unfold seqIndex?;rw [hsz];simp only [if_neg (show ¬ i<0 by lia)];rw [if_pos];simp;lia
 refine Pa O7 ⟨_,gi,rfl⟩ PySem.F.entry_list_pop (PySem.F.args_list_pop_2 _ _) (PySem.MeetsSeq.list_pop_at a items.toArray k i t i.toNat u hfit hidx (by simpa using hu) (by rw [hsz];exact z)) ⟨gi,?_⟩;have hs:=Mm s.heap a (MM λxs=>xs.eraseIdxIfInBounds i.toNat);have hg:=LZ (MM λxs=>xs.eraseIdxIfInBounds i.toNat) gi rfl;have ef:items.toArray.eraseIdxIfInBounds i.toNat=(items.eraseIdx i.toNat).toArray:=by
  have hlt:i.toNat<items.toArray.size:=by rw [hsz];lia
  unfold Array.eraseIdxIfInBounds;rw [dif_pos hlt];simp
 obtain ⟨k₂,e₂⟩:=cT (k:=k) (f:=λxs=>xs.eraseIdxIfInBounds i.toNat) ef;refine fF ok st₀ R g hi (t:=s.toks) (λb ob q e=>(hs.2 b q).trans e) (k:=k₂) (hg.trans (congrArg aT e₂)) ?_ (iF (List.length_eraseIdx_le ..) z) ru j4;rw [NG,NG];exact (ri.take _).append (ri.drop _)
theorem yE (ok:aJ F)(st₀:ao F.W ρ₀ s₀ ρ s)(R:Rel C F ρ m s)(hx:Rep C ρ s.heap x v)(rl:au C ρ s.heap xs vs)(hk:(pt .index).isSome=eQ)(h:dP .index x xs Q m) :
  IF (mod C) A (call (.builtin "list.index") (v::vs)) (Out C F ρ₀ s₀ Q) E s:=by
 obtain ⟨r,ys,hl,j1⟩:=dU h;obtain ⟨y,rfl,j2,bs,rfl,hbl,j3,j4⟩:=eZ j1;obtain ⟨a,items,k,rfl,rfl,g,hi,gi,ri,z⟩:=dF R.hp hx hl;obtain ⟨w1,rfl,ra⟩:=rl.one;have hy:y=.bool eQ:=by
  cases y with
  | bool b=>cases b with
   | true=>rfl
   | false=>exact j2.elim
  | _=>exact j2.elim
 subst hy;obtain rfl:=ra.inv;have hsz:items.toArray.size=bs.length:=by rw [Lv,ri.length,tO]
 have hj:bs.idxOf eQ<bs.length:=List.idxOf_lt_length_of_mem j3;have at_:∀n (hn:n<items.toArray.size),items.toArray[n]=.bool (bs[n]'(hsz▸hn)):=λn hn=>by
  obtain ⟨b,hb,e⟩:=iz ri (j:=n) (v:=items.toArray[n]) (by simp);rw [e,(By.mp hb).2]
 refine Pa PySem.F.slot_list_index ⟨_,gi,rfl⟩ PySem.F.entry_list_index (PySem.F.args_list_index_2 _ _) (SeqAt.list_indexAt a items.toArray k iD #[] (.bool eQ) Fw (bs.idxOf eQ) (by rw [hsz];exact hj) (by lia) ?_ ?_) ⟨gi,λw hw=>?_,?_⟩
 ·rw [at_];show bs[bs.idxOf eQ]=eQ;exact List.getElem_idxOf hj
 ·intro n hn hlt;rw [at_];show bs[n]'(hsz▸hn)=bY;have:=List.not_of_lt_findIdx (p:=(·==eQ)) (xs:=bs) hlt
  simpa using this
 ·obtain ⟨j,hj,e⟩:=Po (show w∈items by simpa using hw);obtain ⟨b,_,rfl⟩:=iz ri (j:=j) (v:=w) (by rw [Ls hj,e]);have:=P4.bool_bool (A:=A.in1) (s:=s) b eQ
  cases b<;>exact this
 ·exact Out.back st₀ _ _ (bp R ok (.int _ _) j4)
end
section
theorem yF (G:GOk C)(ok:aJ F)(st₀:ao F.W ρ₀ s₀ ρ s)(R:Rel C F ρ m s)(hx:Rep C ρ s.heap x v)(rl:au C ρ s.heap xs vs)(h:dP k x xs Q m)(hk:(pt k).isSome=eQ)
  (hs:meK k=.str->∃y,x=.str y) :
  IF (mod C) A (call (.builtin (BC k)) (v::vs)) (Out C F ρ₀ s₀ Q) E s:=by
 refine LL λhn=>?_
 cases k with
 | append=>exact hn (Ft ok st₀ R hx rl h)
 | extend=>exact hn (Fu ok st₀ R hx rl h)
 | pop=>exact hn (Fs ok st₀ R hx rl h)
 | count=>exact hn (yB ok st₀ R hx rl h)
 | find=>
  obtain ⟨y,rfl⟩:=hs rfl;obtain ⟨t,rfl,_⟩:=hx.inv;exact hn (BF ok st₀ R rl h)
 | insert=>exact hn (wD ok st₀ R hx rl hk h)
 | popAt=>exact hn (yD ok st₀ R hx rl hk h)
 | clear=>exact hn (yC ok st₀ R hx rl hk h)
 | index=>exact hn (yE ok st₀ R hx rl hk h)
theorem BG (k:Me):BE k=match meK k with
  | .list=>"list"
  | .str=>"str":=by cases k<;>rfl
theorem Fx (G:GOk C)(ok:aJ F)(hn:pt k=aT name)(st₀:ao F.W ρ₀ s₀ ρ s)(R:Rel C F ρ m s)(hx:Rep C ρ s.heap x v)(hm:gD k x m.heap=eQ)
  (hp:trees.any (·.1)=bY)
  (h:IF (mod C) F.A (spliced trees) (λvs s₁=>∃ρ₁ m₁ xs,ao F.W ρ s ρ₁ s₁/\Rel C F ρ₁ m₁ s₁/\au C ρ₁ s₁.heap xs vs/\dP k x xs Q m₁) E s) :
  MethodOn C.prog C.w F.A name pos v trees (Out C F ρ₀ s₀ Q) E s:=by
 have hk:(pt k).isSome=eQ:=by rw [hn];rfl
 have hf:=Kw k;unfold MeP at hf;rw [hn] at hf;obtain ⟨pa,sl,ty⟩:=hf;have go:(meK k=.str->∃y,x=.str y)->IF (mod C) F.A (callWith pos (.builtin (BC k)) [v] trees []) (Out C F ρ₀ s₀ Q) E s:=λhs=>yA hp (Lk h (λvs s₁ hr=>by obtain ⟨ρ₁,m₁,xs,st,R₁,rl,hw⟩:=hr;exact yF G ok (st₀.trans st) R₁ (hx.step st) rl hw hk hs) λ_ _ e=>e);have key:s.TypeIs v (BE k)/\(∀a,v=.ref a->∃o,s.heap.get? a=aT o/\o.dict=iD)/\(meK k=.str->∃y,x=.str y):=by
  have ht:=BG k;unfold gD at hm
  cases q:meK k with
  | list=>
   rw [q] at hm ht;refine e21 (yz hm) λr ys e=>?_;obtain ⟨a,items,k,rfl,_,_,_,gi,_⟩:=dF R.hp hx e;exact ⟨by rw [ht];exact ⟨_,gi,rfl⟩,λb e=>(by cases e;exact ⟨_,gi,rfl⟩),λq=>nomatch q⟩
  | str=>
   rw [q] at hm ht;obtain ⟨y,rfl⟩:=si hm;obtain ⟨t,rfl,_⟩:=hx.inv;exact ⟨by rw [ht];exact typeIs_str _ _ _,λa e=>(nomatch e),λ_=>⟨y,rfl⟩⟩
 exact ⟨BE k,BC k,pa,sl,ty,key.1,key.2.1,go key.2.2⟩
end
noncomputable def IA (v:MV)(k:Const):Bool:=match v with
 | .none=>match k with
  | .none=>eQ
  | _=>bY
 | .bool b=>match k with
  | .bool c=>b==c
  | _=>bY
 | .int i=>match k with
  | .int j=>i==j
  | _=>bY
 | .str s=>match k with
  | .str x=>x.cps.toList==s&&decide (s.length<=1000)
  | _=>bY
 | _=>bY
theorem al (h:(a&&b)=eQ):a=eQ/\b=eQ:=by rwa [Ll] at h
theorem Fy (h:(!a||b)=eQ):¬ a=eQ\/b=eQ:=by
 cases a with
 | true=>exact .inr h
 | false=>exact .inl (by decide)
theorem mz (h:(!a)=eQ):a=bY:=by cases a with
 | true=>exact ff h
 | false=>rfl
noncomputable def cP (c:Cx)(x:Str):Bool:=c.kind x==aT .globalImplicit&&!dbg x
noncomputable def mB (c:Cx)(t:TS)(e:L7):Bool:=am (e8 e) λx=>am (lg t) λT=>x==NQ T&&c.kind x==aT .globalImplicit&&!dbg x
noncomputable def n4 (c:Cx)(i:Nat)(x:Str):Bool:=c.kind x==aT .local||(c.wr i&&!(c.kind x==aT .free))
theorem jA (h:n4 c i x=eQ):c.kind x=aT .local\/(c.wr i=eQ/\c.kind x≠aT .free):=by
 simpa [n4] using h
noncomputable def d6 (c:Cx):List Nat->List L7->Bool
 | [],xs=>xs.isEmpty
 | i::t,xs=>match xs with
  | []=>bY
  | e::r=>am (e8 e) (λx=>c.nm i==aT x&&n4 c i x)&&d6 c t r
noncomputable def pu (c:Cx)(t:List Nat)(many:Bool)(e:L7):Bool:=match many with
 | false=>am (e8 e) λx=>am (one t) λi=>c.nm i==aT x&&n4 c i x
 | true=>am (sF e) (d6 c t)
noncomputable def bH (e:L7):List Str:=match sF e with
 | some elts=>elts.filterMap e8
 | none=>(e8 e).toList
noncomputable def mC (kind:Str->Option NameKind)(names:List (Str × NameKind)):List (Str × NameKind):=names.map λ(n,k)=>if (k==.free&&kind n==aT .cell) then (n,.cell) else (n,k)
noncomputable def DY (c:Cx)(sc:Scope)(i:Nat):Option Str:=match c.nm i with
 | some x=>if sc.names.lookup x==aT .free then aT x else iD
 | none=>iD
noncomputable def bQ (sc:Scope):List Str:=(sc.names.filter λp=>p.2==.cell).map (·.1)
noncomputable def uk (sc:Scope):NameKind:=if (bQ sc).isEmpty then .local else .cell
noncomputable def fG (c:Cx)(sc:Scope)(t:List Nat)(tn:List Str):Cx where
 kind x:=(mC c.kind sc.names).lookup x
 nm i:=match (t.zip tn).lookup i with
  | some x=>aT x
  | none=>DY c sc i
 fn:=c.fn
 gl:=c.gl
 wr i:=!(bQ sc).isEmpty&&t.contains i
 fr i:=c.fr i&&!t.contains i
 nh:=c.nh
 hf:=c.hf
 cn:=c.cn
 xn:=c.xn
 mt:=c.mt
 at_:=c.at_
noncomputable def yG (c:Cx)(x:Str):Bool:=(Nr 64).any (λi=>c.nm i==aT x)&&c.kind x != aT .local&&!cdc x
noncomputable def pv (c:Cx)(sc:Scope)(t:List Nat)(tn:List Str):Bool:=
 sc.kind==.function&&sc.names.all (λp=>(p.2 != .local||sc.names.lookup p.1==aT .local)&&(p.2 != .free||yG c p.1))&&((bQ sc).isEmpty||(bQ sc==tn&&decide (t.length=1)))&&
  decide (t.length=tn.length)&&decide t.Nodup&&decide tn.Nodup&&t.all c.fr&&tn.all (λx=>sc.names.lookup x==aT (uk sc))
noncomputable def yH:IK->Str
 | .enum=>"enumerate"
 | _=>"range"
noncomputable def ul:IK->Bool
 | .val=>eQ
 | _=>bY
noncomputable def mD (c:Cx)(k:IK)(e:L7):Option (List L7):=if ul k then aT [e] else (xFn e).bind λq=>if cP c q.1&&q.1==yH k&&!q.2.1.isEmpty then aT q.2.1 else iD
noncomputable def Fz:Bi->Str->Str->Bool
 | .sortedSet,x,y=>Ie&&x==("sorted":Str)&&y==("set":Str)
 | _,_,_=>bY
noncomputable def xSS (c:Cx)(b:Bi)(e:L7):Option Expr:=(xFn e).bind λq=>(one q.2.1).bind λy=>(xFn y).bind λr=>if Fz b q.1 r.1&&cP c q.1&&cP c r.1 then one r.2.1 else iD
noncomputable def BH:Bi->Bool
 | .sortedSet=>eQ
 | _=>bY
noncomputable def mE:IK->Bool
 | .enum=>eQ
 | _=>bY
noncomputable abbrev GV:=Nat × Int × List (List Nat) × List (List Nat × Int)
noncomputable def mvC (v:MV):Option GV:=match v with
 | .int i=>aT (0,i,[],[])
 | .str s=>aT (1,0,[s],[])
 | .gt ss=>aT (2,0,ss,[])
 | .cdict es=>aT (3,0,[],es)
 | _=>iD
noncomputable def mvB (q:GV):MV:=match q.1 with
 | 0=>.int q.2.1
 | 1=>.str (q.2.2.1.headD [])
 | 2=>.gt q.2.2.1
 | _=>.cdict q.2.2.2
theorem qJ (h:mvC v=aT q):v=mvB q:=by
 cases v with
 | int i=>obtain rfl:=BY h;rfl
 | str s=>obtain rfl:=BY h;rfl
 | gt ss=>obtain rfl:=BY h;rfl
 | cdict es=>obtain rfl:=BY h;rfl
 | _=>exact av h
noncomputable def IB (c:Cx)(g:Nat)(v:MV)(x:Str):Bool:=am (c.gl g) λq=>q.1==x&&am (mvC q.2) λa=>mvC v==aT a
noncomputable def dz:List Str:=["opens","secrets","rows","numbers","turns","said"]
noncomputable def fH:List Str:=["names","kind","told","block","many","do_rows","do_row","do_loop"]
noncomputable def DZ (c:Cx)(t:TS)(e:L7):Bool:=match t with
 | .cls k=>am (e8 e) λx=>cP c x&&c.xn k==aT x
 | .valueError=>am (e8 e) λx=>cP c x&&x==("ValueError":Str)
 | t=>mB c t e
noncomputable def Kx:TS->Bool
 | .cls _=>eQ
 | .valueError=>eQ
 | _=>bY
noncomputable def yI (c:Cx)(ts:List TS)(e:L7):Bool:=match ts with
 | [t]=>DZ c t e
 | [t,u]=>am (sF e) λus=>am (two us) λw=>mB c t w.1&&mB c u w.2
 | _=>bY
mutual
noncomputable def aD:Cx->ME->L7->Bool
 | c,.cst v,e=>am (pd e) (IA v)
 | c,.var i,e=>am (e8 e) λx=>c.nm i==aT x&&!dbg x
 | c,.glob g v,e=>am (e8 e) λx=>cP c x&&IB c g v x
 | c,.bin op a b,e=>am (Iu e) λp=>p.2.1==wm op&&aD c a p.1&&aD c b p.2.2
 | c,.neg a,e=>am (xUn e) λp=>p.1==.USub&&aD c a p.2
 | c,.not a,e=>am (xUn e) λp=>p.1==.Not&&aD c a p.2
 | c,.and es,e=>am (yg e) λp=>p.1==.And&&be c es p.2
 | c,.or es,e=>am (yg e) λp=>p.1==.Or&&be c es p.2
 | c,.cmp op a b,e=>am (Bp e) λp=>am (one p.2.1) λo=>am (one p.2.2) λr=>o==iU op&&okX r&&aD c a p.1&&aD c b r
 | c,.cmp2 op op' a b d,e=>am (Bp e) λp=>am (two p.2.1) λo=>am (two p.2.2) λr=>o.1==iU op&&o.2==iU op'&&okX r.1&&okX r.2&&aD c a p.1&&aD c b r.1&&aD c d r.2
 | c,.isN q a,e=>am (Bp e) λp=>am (one p.2.1) λo=>am (one p.2.2) λr=>o==(if q then .Is else .IsNot)&&pd r==aT .none&&aD c a p.1
 | c,.call f args,e=>am (xFn e) λq=>cP c q.1&&c.fn f==aT q.1&&!q.2.1.isEmpty&&(c.nh||c.hf f)&&be c args q.2.1
 | c,.blt b args,e=>if BH b then am (xSS c b e) λz=>c.nh&&be c args [z] else am (xFn e) λq=>(c.nh||lE b)&&cP c q.1&&am (sH b) (λp=>q.1==p.1)&&!q.2.1.isEmpty&&be c args q.2.1
 | c,.mth k o args,e=>am (nZ e) λq=>pt k==aT q.1.2.1&&mq q.1.1&&(q.1.2.2.endLine==q.2.2.line)&&decide (q.2.1.length<20)&&aD c o q.1.1&&be c args q.2.1
 | c,.umth k f x o args,e=>am (nZ e) λq=>q.1.2.1.cps.toList==x&&fH.contains q.1.2.1&&c.mt f==aT (k,q.1.2.1)&&(view q.1.1).tag==1&&(q.1.2.2.endLine==q.2.2.line)&&decide (q.2.1.length<20)&&(c.nh||c.hf f)&&aD c o q.1.1&&be c args q.2.1
 | c,.new k f args,e=>am (xFn e) λq=>cP c q.1&&c.cn k==aT q.1&&c.mt f==aT (k,("__init__":Str))&&!q.2.1.isEmpty&&c.nh&&be c args q.2.1
 | c,.attr k o x,e=>am (uh e) λq=>q.2.1.cps.toList==x&&dz.contains q.2.1&&c.at_ k q.2.1&&(view q.1).tag==1&&aD c o q.1
 | c,.idx o i,e=>am (Bq e) λp=>okX p.2&&aD c o p.1&&aD c i p.2
 | c,.sl o lo hi,e=>am (Bq e) λp=>am (yi p.2) λq=>q.2.2.isNone&&aD c o p.1&&FA c lo q.1&&FA c hi q.2.1
 | c,.list es,e=>am (DW e) λxs=>decide (es.length<=1000)&&be c es xs
 | c,.tup es,e=>am (sF e) λxs=>decide (es.length<=1000)&&be c es xs
 | c,.dict0,e=>am (DX e) λp=>p.1.isEmpty&&p.2.isEmpty
 | c,.comp elt t many k src ifs,e=>am (xLC e) λp=>am (one p.2.1) λg=>c.nh&&g.is_async==0&&okX g.iter&&(!mE k||many)&&pv c p.2.2 t (bH g.target)&&am (mD c k g.iter) (λxs=>be c src xs)&&
   pu (fG c p.2.2 t (bH g.target)) t many g.target&&be (fG c p.2.2 t (bH g.target)) ifs g.ifs&&aD (fG c p.2.2 t (bH g.target)) elt p.1
 | c,.isi a ts,e=>am (xFn e) λq=>am (two q.2.1) λv=>cP c q.1&&q.1==("isinstance":Str)&&okX v.1&&aD c a v.1&&yI c ts v.2
noncomputable def be:Cx->List ME->List L7->Bool
 | c,[],xs=>xs.isEmpty
 | c,e::es,xs=>match xs with
  | []=>bY
  | x::xs=>okX x&&aD c e x&&be c es xs
noncomputable def FA:Cx->Option ME->Option L7->Bool
 | c,iD,x=>x.isNone
 | c,aT e,x=>match x with
  | some x=>aD c e x
  | none=>bY
end
noncomputable def Call (C:Glo):KT:=λn f vs Q X h=>∀(F:Fm) (m:MS) (s:Do) (ρ:List Lr) (ws:List rW) (a:Lr),aJ F->(F.A.handled=iD\/C.hf f=eQ)->m.heap=h->Rel C F ρ m s->au C ρ s.heap vs ws->
 F.A.depth+n<=999->F.A.units<=3 * F.A.depth+4->C.fa f=aT a->
  IF (mod C) F.A (call (.ref a) ws) (Out C F ρ s (λv m'=>m'.vars=m.vars/\Q v m'.heap)) (Er C F (λc m'=>m'.vars=m.vars/\X c m'.heap) ρ s) s
section
theorem WPv.go (h:WPv C F X t Q m)(R:Rel C F ρ m s)(st₀:ao F.W ρ₀ s₀ ρ s)
  (k:∀ρ₁ s₁ m₁ x v,ao F.W ρ s ρ₁ s₁->ao F.W ρ₀ s₀ ρ₁ s₁->Rel C F ρ₁ m₁ s₁->Rep C ρ₁ s₁.heap x v->Q x m₁->P v s₁):IF (mod C) F.A t P (Er C F X ρ₀ s₀) s:=
 Lk (h s ρ R) (λv s₁ ⟨ρ₁,m₁,x,a,b,c,d⟩=>k ρ₁ s₁ m₁ x v a (st₀.trans a) b c d) (Er.back st₀)
inductive IC (C:Glo)(F:Fm)(k:Nat)(ρ:List Lr)(s:Do)(Q:List MV->MS->Prop)(vs:List rW)(s':Do):Prop
 | mk (ρ':List Lr) (m':MS) (xs:List MV) (st:ao F.W ρ s ρ' s') (R:Rel C F ρ' m' s') (rl:au C ρ' s'.heap xs vs) (hl:xs.length=k) (hq:Q xs m'):IC C F k ρ s Q vs s'
noncomputable def WPl (C:Glo)(F:Fm)(X:XM)(k:Nat)(t:Sem (List rW))(Q:List MV->MS->Prop)(m:MS):Prop:=
 ∀s ρ,Rel C F ρ m s->IF (mod C) F.A t (IC C F k ρ s Q) (Er C F X ρ s) s
theorem WPl.go {t:Sem (List rW)}{P:List rW->Do->Prop}{Q:List MV->MS->Prop}{l:Nat}(h:WPl C F X l t Q m)(R:Rel C F ρ m s)(st₀:ao F.W ρ₀ s₀ ρ s)
  (k:∀ρ₁ s₁ m₁ xs vs,ao F.W ρ s ρ₁ s₁->ao F.W ρ₀ s₀ ρ₁ s₁->Rel C F ρ₁ m₁ s₁->au C ρ₁ s₁.heap xs vs->xs.length=l->Q xs m₁->P vs s₁):IF (mod C) F.A t P (Er C F X ρ₀ s₀) s:=
 Lk (h s ρ R) (λv s₁ ⟨ρ₁,m₁,x,a,b,c,e,d⟩=>k ρ₁ s₁ m₁ x v a (st₀.trans a) b c e d) (Er.back st₀)
inductive FB (C:Glo)(F:Fm)(ρ:List Lr)(s:Do)(Q:Bool->MS->Prop)(b:Bool)(s':Do):Prop
 | mk (ρ':List Lr) (m':MS) (st:ao F.W ρ s ρ' s') (R:Rel C F ρ' m' s') (hq:Q b m'):FB C F ρ s Q b s'
noncomputable def WPt (C:Glo)(F:Fm)(X:XM)(t:Sem Bool)(Q:Bool->MS->Prop)(m:MS):Prop:=
 ∀s ρ,Rel C F ρ m s->IF (mod C) F.A t (FB C F ρ s Q) (Er C F X ρ s) s
theorem WPt.go {t:Sem Bool}{P:Bool->Do->Prop}{Q:Bool->MS->Prop}(h:WPt C F X t Q m)(R:Rel C F ρ m s)(st₀:ao F.W ρ₀ s₀ ρ s)
  (k:∀ρ₁ s₁ m₁ b,ao F.W ρ s ρ₁ s₁->ao F.W ρ₀ s₀ ρ₁ s₁->Rel C F ρ₁ m₁ s₁->Q b m₁->P b s₁):IF (mod C) F.A t P (Er C F X ρ₀ s₀) s:=
 Lk (h s ρ R) (λv s₁ ⟨ρ₁,m₁,a,b,d⟩=>k ρ₁ s₁ m₁ v a (st₀.trans a) b d) (Er.back st₀)
theorem yJ (R:Rel C F ρ m s)(ok:aJ F){P:Bool->MS->Prop}{v:rW}{s':Do}(h:gM s (λb=>P b m) v s'):∃b,v=.bool b/\∃m',ao F.W ρ s ρ s'/\Rel C F ρ m' s'/\P b m':=by
 obtain ⟨b,t,rfl,rfl,h⟩:=h;obtain ⟨R',st⟩:=R.tok ok t;exact ⟨b,rfl,m,st,R',h⟩
theorem yK (R:Rel C F ρ m s)(ok:aJ F)(hc:IA v k=eQ)(hq:Q v m):IF (mod C) A (eval (.Constant k kd p) env) (Out C F ρ s Q) E s:=by
 refine LL λhn=>?_
 cases v with
 | none=>
  cases k with
  | none=>exact hn (wpAny_Constant_none (bP R .none hq))
  | _=>exact ff hc
 | bool b=>
  cases k with
  | bool c=>obtain rfl:=eq_of_beq hc;exact hn (wpAny_Constant_bool (bP R (.bool _) hq))
  | _=>exact ff hc
 | int i=>
  cases k with
  | int j=>obtain rfl:=eq_of_beq hc;exact hn (wpAny_Constant_int (bp R ok (.int _ _) hq))
  | _=>exact ff hc
 | str s'=>
  cases k with
  | str x=>
   refine e02 (al hc) λe hl=>?_;obtain rfl:x=str s':=by rw [<-eq_of_beq e]
   exact hn (wpAny_Constant_str (bp R ok (.str _ _ (iF (of_decide_eq_true hl) (by decide))) hq))
  | _=>exact ff hc
 | _=>exact ff hc
theorem bk (i:Nat)(h:cv[i]?=aT p):p∈cv:=Lo h
theorem FC (h:sH b=aT (x,f)):(x,f)∈cv:=by
 cases b<;>cases h<;>first | exact bk 0 rfl | exact bk 1 rfl | exact bk 2 rfl | exact bk 3 rfl | exact bk 4 rfl | exact bk 5 rfl | exact bk 12 rfl | exact bk 13 rfl | exact bk 14 rfl | exact bk 16 rfl | exact bk 10 rfl
theorem sK (h:lg t=aT T):(NQ T,OA T)∈cv:=by
 cases t<;>(first | exact av h | obtain rfl:=BY h)<;>first | exact bk 1 rfl | exact bk 2 rfl | exact bk 3 rfl | exact bk 4 rfl | exact bk 5 rfl | exact bk 6 rfl
theorem az (h:cP c x=eQ):c.kind x=aT .globalImplicit/\dbg x=bY:=by
 refine e02 (al h) λh1 h2=>?_;exact ⟨eq_of_beq h1,by cases e:dbg x with
  | true=>rw [e] at h2;exact ff h2
  | false=>rfl⟩
theorem FD (h:sH b=aT (x,f)):(∃id,f=.builtin id)\/∃T,f=.type T:=by
 cases b<;>cases h<;>first | exact .inl ⟨_,rfl⟩ | exact .inr ⟨_,rfl⟩
theorem cf (h:be c es xs=eQ)(pos:Pos)(env:RF):(backTo pos (starEach xs env)).any (·.1)=bY:=by
 induction es generalizing xs with
 | nil=>cases xs with
  | nil=>rfl
  | cons=>exact ff h
 | cons e es ih=>
  cases xs with
  | nil=>exact ff h
  | cons x xs=>
   refine e02 (ID.mp h) λh1 h2=>?_;rw [bj (ID.mp h1).1];show (bY||(backTo pos (starEach xs env)).any (·.1))=bY;rw [ih h2];rfl
theorem fJ (hf:(∃id,f=.builtin id)\/∃T,f=.type T)(hp:trees.any (·.1)=bY)(hne:trees≠[])
  (h:IF (mod C) A (spliced trees) (λvs s₁=>IF (mod C) A (call f vs) P E s₁) E s):IF (mod C) A (callWith pos f [] trees []) P E s:=by
 obtain ⟨⟨b,t⟩,trees,rfl⟩:=Pb hne;simp only [QK,NV] at hp;obtain ⟨rfl,hp⟩:=hp
 rcases hf with ⟨id,rfl⟩ | ⟨T,rfl⟩
 ·exact Calls.callWith_builtin (by simp [hp]) (NW h)
 ·exact PyProof.Rows.callWith_type (by simp [hp]) (NW h)
theorem IE (h:∃b,v=.bool b/\P b s):IF (mod C) A (truthy v) P E s:=by
 obtain ⟨b,rfl,h⟩:=h;exact Na h
end
noncomputable def Shp (h:LA)(a:Lr):Prop:=∃o,h.get? a=aT o/\¬ gE o/\¬ IsD o
noncomputable def dp (C:Glo)(F:Fm)(ρ:List Lr)(h:LA)(S:List Lr):Prop:=
 ∀a∈S,a∉ρ/\a∉F.W++F.V/\C.base.get? a=iD/\Shp h a
noncomputable def fu (S:List Lr)(s s':Do):Prop:=(∀b o,b∉S->s.heap.get? b=aT o->s'.heap.get? b=aT o)/\s'.gens=s.gens/\s'.os=s.os
section
variable {S:List Lr}
theorem fu.trans (x:fu S s s')(y:fu S s' s''):fu S s s'':=
 ⟨λb o hb e=>y.1 b o hb (x.1 b o hb e),y.2.1.trans x.2.1,y.2.2.trans x.2.2⟩
theorem ao.side (x:ao W ρ₀ s₀ ρ s)(y:fu S s s')(hS:∀a∈S,s₀.heap.get? a=iD):ao W ρ₀ s₀ ρ s' where
 pre:=x.pre
 new:=x.new
 keep:=λa o e h1 h2=>by
  have ha:a∉S:=λh=>by rw [hS a h] at e;exact av e
  rcases x.keep a o e h1 h2 with e1 | ⟨hc,sl,e1⟩
  ·exact .inl (y.1 a _ ha e1)
  ·exact .inr ⟨hc,sl,y.1 a _ ha e1⟩
 solid:=λa o e h=>y.1 a o (λq=>by rw [hS a q] at e;exact av e) (x.solid a o e h)
 alive:=λa o e=>let ⟨o',e'⟩:=x.alive a o e;⟨o',y.1 a o' (λq=>by rw [hS a q] at e;exact av e) e'⟩
 gens:=y.2.1.trans x.gens
 os:=y.2.2.trans x.os
theorem d7 (x:∀a∈S,Shp s.heap a)(y:fu S s s'):aR s.heap s'.heap:=λa o e h=>y.1 a o (λq=>by
 refine e13 (x a q) λo' e' h' _=>?_;obtain rfl:=same e e';exact h' h) e
theorem dp.solids (x:dp C F ρ s.heap S)(y:fu S s s'):aR s.heap s'.heap:=d7 (λa ha=>(x a ha).2.2.2) y
theorem Rel.side0 (R:Rel C F ρ m s)(ok:aJ F)(hs:aR s.heap s'.heap)(x:∀a∈S,a∉ρ/\a∉F.W++F.V/\C.base.get? a=iD)(hout:∀L∈F.frs,L∉S)(y:fu S s s'):Rel C F ρ m s':=
 R.up ok hs (Lq _) (R.hp.up hs (λa ha o e=>y.1 a o (λq=>(x a q).1 ha) e) λb o e=>y.1 b o (λq=>by rw [(x b q).2.2] at e;exact av e) (R.hp.base b o e)) (λa h=>.inl h)
  (λa ha o e=>⟨o,y.1 a o (λq=>(x a q).2.1 ha) e,rfl,rfl⟩) (λL hL o eo=>⟨o,y.1 L o (hout L hL) eo,rfl,rfl⟩) y.2.1
theorem wF (R:Rel C F ρ m s)(x:∀a∈S,Shp s.heap a):∀L∈F.frs,L∉S:=λL hL q=>by
 obtain ⟨_,_,o,h1,h2⟩:=R.out L hL;refine e13 (x L q) λo2 g1 _ g2=>?_;obtain rfl:=same h1 g1;exact g2 h2
theorem Rel.side (R:Rel C F ρ m s)(ok:aJ F)(x:dp C F ρ s.heap S)(y:fu S s s'):Rel C F ρ m s':=
 R.side0 ok (x.solids y) (λa ha=>⟨(x a ha).1,(x a ha).2.1,(x a ha).2.2.1⟩) (wF R λa ha=>(x a ha).2.2.2) y
theorem dp.step (x:dp C F ρ s.heap S)(st:ao F.W ρ s ρ' s'):dp C F ρ' s'.heap S/\∀a∈S,∀o,s.heap.get? a=aT o->s'.heap.get? a=aT o:=by
 have keep:∀a∈S,∀o,s.heap.get? a=aT o->s'.heap.get? a=aT o:=λa ha o e=>by
  obtain ⟨h1,h2,h3,o',e',h4,h6⟩:=x a ha;obtain rfl:=same e e'
  rcases st.keep a o e h1 (λq=>h2 (LC _ q)) with q | ⟨q,_⟩
  ·exact q
  ·exact absurd q h6
 refine ⟨λa ha=>?_,keep⟩;obtain ⟨h1,h2,h3,o',e',h4,h6⟩:=x a ha;refine ⟨λq=>(st.new a q).elim h1 λq=>?_,h2,h3,o',keep a ha _ e',h4,h6⟩;exact aK q e'
theorem dp.shape (x:dp C F ρ h S)(y:∀a∈S,Shp h' a):dp C F ρ h' S:=λa ha=>⟨(x a ha).1,(x a ha).2.1,(x a ha).2.2.1,y a ha⟩
structure pz (C:Glo)(A:MP)(target:L7)(itv:rW)(items:List MV)(g:Gd)(S U:List Lr)(It:Nat->List Lr->Do->Prop):Prop where
 shape:∀i ρ s,It i ρ s->∀a∈S,Shp s.heap a
 keep:∀i ρ ρ' s s',It i ρ s->ρ<+:ρ'->aR s.heap s'.heap->(∀a∈S++U,∀o,s.heap.get? a=aT o->s'.heap.get? a=aT o)->It i ρ' s'
 item:∀i ρ hp s x,Hp C ρ hp s.heap->aN g hp->It i ρ s->items[i]?=aT x->∀(E:rW->Do->Prop) (N:Do->Prop) (P:rW->Do->Prop),
  (∀v s₂,fu S s s₂->It (i+1) ρ s₂->Rep C ρ s₂.heap x v->P v s₂)->
   IF (mod C) A (pyNext itv) (λr s₁=>match r with
    | none=>N s₁
    | some v=>IF (mod C) A (letOwnedTupleGo target itv v) (λ_ s₂=>P v s₂) E s₁) E s
 done:∀i ρ hp s,Hp C ρ hp s.heap->aN g hp->It i ρ s->items[i]?=iD->∀(E:rW->Do->Prop) (P:Do->Prop),
  (∀s₂,fu S s s₂->P s₂)->IF (mod C) A (pyNext itv) (λr s₁=>r=iD/\P s₁) E s
 self:∀i ρ s,It i ρ s->∀(E:rW->Do->Prop) (P:rW->Do->Prop),P itv s->IF (mod C) A (pyIter itv) P E s
theorem n8 (R:Rel C F ρ m s)(ha:s.heap.get? a=iD)(e:h.get? a=aT o)(h1:¬ gE o)(h3:¬ IsD o) :
  a∉ρ/\a∉F.W++F.V/\C.base.get? a=iD/\Shp h a:=by
 refine ⟨λq=>?_,λq=>?_,bW R.hp ha,o,e,h1,h3⟩
 ·obtain ⟨o',e'⟩:=R.hp.there q;exact aK ha e'
 ·obtain ⟨_,_,o',e',_⟩:=R.w a q;exact aK ha e'
theorem fK (hc:o.cls=.type T)(hT:T≠"tuple"):¬ gE o:=λh=>by
 unfold gE at h;rw [hc] at h;have hs:∀d,fX (.type T) d=eQ->T="tuple":=λd h=>by
  cases d with
  | seq=>exact eq_of_beq h
  | _=>exact ff h
 exact hT (hs _ h)
theorem cY (e:h.get? a=aT o)(hc:o.cls=.type T)(hT:T≠"tuple")(hF:¬ IsD o):∀b∈[a],Shp h b:=by
 intro b hb;have:b=a:=by exact oF.mp hb
 subst this;exact ⟨o,e,fK hc hT,hF⟩
noncomputable def FE (it l:Lr)(r:Nat):Nat->List Lr->Do->Prop:=λi ρ s=>s.heap.IsListIter it l i/\ρ[r]?=aT l
theorem iB (hs:L6 a s.heap h'):fu [a] s { s with heap:=h',toks:=t }:=⟨λb o hb e=>(hs.2 b (by exact λq=>hb (oF.mpr q))).trans e,rfl,rfl⟩
theorem jB (hs:QE a s.heap h'):fu [a] s { s with heap:=h',toks:=t }:=⟨λb o hb e=>hs b o (by exact λq=>hb (oF.mpr q)) e,rfl,rfl⟩
noncomputable def bE (e:L7):Bool:=(e8 e).isSome||(sF e).isSome
theorem e9 (ht:bE target=eQ)(e:s.heap.get? it=aT o)(hc:o.cls=.type T)
  (hT:(["enumerate","zip","dict_itemiterator","dict_reverseitemiterator","odict_iterator","itertools.zip_longest","itertools.pairwise"].contains T)=bY) (h:P () s):IF (mod C) A (letOwnedTupleGo target (.ref it) v) P E s:=by
 unfold bE at ht;rw [Bool.or_eq_true,ML,ML] at ht
 rcases ht with ⟨x,hx⟩ | ⟨xs,hx⟩
 ·obtain ⟨p,rfl⟩:=bZ hx;exact EQ h
 ·obtain ⟨k,p,rfl⟩:=jy hx;unfold letOwnedTupleGo
  cases v with
  | ref a=>
   refine iS (wpAny_load e ?_);rw [hc]
   cases o.data with
   | fields vs=>
    simp only [hT,Bool.false_and,Qr,if_false];exact EQ h
   | _=>exact EQ h
  | _=>exact EQ h
theorem wG (hn:A.handled=iD)(ht:bE target=eQ):pz C A target (.ref it) xs (aT (r,.list xs)) [it] [] (FE it l r) where
 shape:=λi ρ s h=>by obtain ⟨⟨o,e,hc,hd⟩,_⟩:=h;exact cY e hc (by decide) (λ⟨_,_,q⟩=>by rw [hd] at q;cases q)
 keep:=λi ρ ρ' s s' h hp hs k=>by
  obtain ⟨⟨o,e,r1,r2⟩,e2⟩:=h;exact ⟨⟨o,k it (by exact oF.mpr rfl) o e,r1,r2⟩,ik hp e2⟩
 item:=λi ρ hp s x R hg h hx E N P k=>by
  refine e02 h λhit e2=>?_;obtain ⟨items,c,gi,rl,z⟩:=R.objs _ _ _ hg e2;refine e12 (rl.get hx) λv hv rv=>?_;have sh:∀a∈[it],Shp s.heap a:=by obtain ⟨o,e,hc,hd⟩:=id hit;exact cY e hc (by decide) (λ⟨_,_,q⟩=>by rw [hd] at q;cases q)
  refine wpAny_pyNext_list_item hit ⟨_,gi,rfl,_,rfl⟩ (by exact (MQ ..).trans hv) λh' hit' hs=>?_;have sd:=iB (t:=s.toks) hs;refine e13 hit' λo eo hc hd=>?_;refine e9 ht (s:={ s with heap:=h' }) eo hc (by decide) (k v _ sd ⟨hit',e2⟩ (rv.up (d7 sh sd) (Lq _)))
 done:=λi ρ hp s R hg h hx E P k=>by
  refine e02 h λhit e2=>?_;obtain ⟨items,c,gi,rl,z⟩:=R.objs _ _ _ hg e2;refine wpAny_pyNext_list_end hn hit ⟨_,gi,rfl,_,rfl⟩ (i:=i) ?_ λh' he=>⟨rfl,k _ (jB (t:=s.toks) he)⟩
  rw [MY] at hx;simp [rl.length,hx]
 self:=λi ρ s h E P hp=>wpAny_pyIter_listiter h.1 hp
noncomputable def IG (C:Glo)(it t:Lr)(xs:List MV):Nat->List Lr->Do->Prop:=
 λi ρ s=>s.heap.IsTupleIter it t i/\∃items n,s.heap.get? t=aT (o0 items n)/\au C ρ s.heap xs items
theorem yL (hn:A.handled=iD)(ht:bE target=eQ):pz C A target (.ref it) xs iD [it] [] (IG C it t xs) where
 shape:=λi ρ s h=>by obtain ⟨⟨o,e,hc,hd⟩,_⟩:=h;exact cY e hc (by decide) (λ⟨_,_,q⟩=>by rw [hd] at q;cases q)
 keep:=λi ρ ρ' s s' h hp hs k=>by
  obtain ⟨⟨o,e,r1,r2⟩,items,n,e2,rl⟩:=h;exact ⟨⟨o,k it (by exact oF.mpr rfl) o e,r1,r2⟩,items,n,hs _ _ e2 ij,rl.up hs hp⟩
 item:=λi ρ hp s x R hg h hx E N P k=>by
  obtain ⟨hit,items,n,e2,rl⟩:=h;refine e12 (rl.get hx) λv hv rv=>?_;have sh:∀a∈[it],Shp s.heap a:=by obtain ⟨o,e,hc,hd⟩:=id hit;exact cY e hc (by decide) (λ⟨_,_,q⟩=>by rw [hd] at q;cases q)
  refine wpAny_pyNext_tuple_item hit ⟨_,e2,rfl,_,rfl⟩ (by exact (MQ ..).trans hv) λh' hit' hs=>?_;have sd:=iB (t:=s.toks) hs;have hsol:=d7 sh sd;refine e13 hit' λo eo hc hd=>?_;refine e9 ht (s:={ s with heap:=h' }) eo hc (by decide) (k v _ sd ⟨hit',items,n,hsol _ _ e2 ij,rl.up hsol (Lq _)⟩ (rv.up hsol (Lq _)))
 done:=λi ρ hp s R hg h hx E P k=>by
  obtain ⟨hit,items,n,e2,rl⟩:=h;refine wpAny_pyNext_tuple_end hn hit ⟨_,e2,rfl,_,rfl⟩ (i:=i) ?_ λh' he=>⟨rfl,k _ (jB (t:=s.toks) he)⟩
  rw [MY] at hx;simp [rl.length,hx]
 self:=λi ρ s h E P hp=>wpAny_pyIter_tupleiter h.1 hp
noncomputable def BI (it:Lr)(a:Int)(k:Nat):Nat->List Lr->Do->Prop:=λi ρ s=>IsRangeIter s.heap it (a+i) ((k:Int)-i) 1
theorem sL (hn:A.handled=iD)(ht:bE target=eQ):pz C A target (.ref it) ((Nr k).map (λ(i:Nat)=>.int (a+i))) iD [it] [] (BI it a k) where
 shape:=λi ρ s h=>cY h rfl (by decide) (λ⟨_,_,q⟩=>by cases q)
 keep:=λi ρ ρ' s s' h hp hs k=>k it (by exact oF.mpr rfl) _ h
 item:=λi ρ hp s x R hg hit hx E N P kk=>by
  simp only [LG,LF] at hx;obtain ⟨j,hj,rfl⟩:=hx;obtain ⟨hlt,hj⟩:=By.mp hj;simp at hj hlt;subst hj;refine wpAny_pyNext_range_item hit (by lia) λh' hit' hs=>?_;have sd:=iB (t:=s.toks+1) hs;have hit'':IsRangeIter h' it (a+((i+1:Nat):Int)) ((k:Int)-((i+1:Nat):Int)) 1:=by
   have e1:a+((i+1:Nat):Int)=a+i+1:=by lia
   have e2:(k:Int)-((i+1:Nat):Int)=k-i-1:=by lia
   rw [e1,e2];exact hit'
  exact e9 ht (s:={ s with heap:=h',toks:=s.toks+1 }) hit' rfl (by decide) (kk _ _ sd hit'' (.int _ _))
 done:=λi ρ hp s R hg hit hx E P kk=>by
  have hit:IsRangeIter s.heap it (a+i) ((k:Int)-i) 1:=hit;rw [MY] at hx;simp at hx;exact wpAny_pyNext_range_end hn hit (by lia) λh' he=>⟨rfl,kk _ (jB (t:=s.toks) he)⟩
 self:=λi ρ s h E P hp=>wpAny_pyIter_rangeiter h hp
noncomputable def FF (e it l:Lr)(r:Nat):Nat->List Lr->Do->Prop:=
 λi ρ s=>(∃old,IsEnum s.heap e it i old)/\s.heap.IsListIter it l i/\ρ[r]?=aT l
theorem pA (h1:IsEnum h' e it j old)(h2:h'.IsListIter it l i):∀a∈[e,it],Shp h' a:=by
 intro a ha;have:a=e\/a=it:=by simpa using ha
 rcases this with rfl | rfl
 ·exact cY h1 rfl (by decide) (λ⟨_,_,q⟩=>by cases q) a (by exact oF.mpr rfl)
 ·refine e13 h2 λo e1 e2 e3=>?_;exact cY e1 e2 (by decide) (λ⟨_,_,q⟩=>by rw [e3] at q;cases q) a (by exact oF.mpr rfl)
theorem wH (hn:A.handled=iD){x1}(hne:e≠it):pz C A (.Tuple elts x1 pos) (.ref e) (xs.zipIdx.map (λp=>.tup [.int p.2,p.1])) (aT (r,.list xs)) [e,it] [] (FF e it l r) where
 shape:=λi ρ s h=>by obtain ⟨⟨old,h1⟩,h2,_⟩:=h;exact pA h1 h2
 keep:=λi ρ ρ' s s' h hp hs k=>by
  obtain ⟨⟨old,h1⟩,⟨o,e',r1,r2⟩,e2⟩:=h;exact ⟨⟨old,k e (by exact IS ..) _ h1⟩,⟨o,k it (by exact Lm _ (IS ..)) o e',r1,r2⟩,ik hp e2⟩
 item:=λi ρ hp s x R hg h hx E N P kk=>by
  obtain ⟨⟨old,h1⟩,hit,e2⟩:=h;have sh:=pA h1 hit;obtain ⟨items,c,gi,rl,z⟩:=R.objs _ _ _ hg e2;simp only [LG,LF] at hx;obtain ⟨⟨y,j⟩,hj,rfl⟩:=hx;rw [List.getElem?_zipIdx] at hj;simp only [LF,Nb] at hj;obtain ⟨y',hy,hj⟩:=hj
  cases hj
  refine e12 (rl.get hy) λv hv rv=>?_;refine wpAny_pyNext_enum_item h1 hit ⟨_,gi,rfl,_,rfl⟩ (by exact (MQ ..).trans hv) hne λh' he hit' ht hsz hk=>?_;refine wpAny_letOwnedTupleGo_enum (s:={ s with heap:=h',toks:=s.toks+1 }) he λh2 he2 hs2=>?_;have hlt:s.heap.objs.size≠e:=λq=>absurd (Mu h1) (by rw [<-q];exact N7 _);have ht2:h2.get? s.heap.objs.size=aT (o0 [.int i s.toks,v] 0):=(hs2.2 _ hlt).trans ht;have hit2:h2.IsListIter it l (i+1):=by
   refine e12 hit' λo e1 r=>?_;exact ⟨o,(hs2.2 it (λq=>hne q.symm)).trans e1,r⟩
  have sd:fu [e,it] s { s with heap:=h2,toks:=s.toks+1 }:=⟨λb o hb eb=>by
   simp at hb;exact (hs2.2 b hb.1).trans (hk b o hb.1 hb.2 eb),rfl,rfl⟩
  refine kk _ _ sd ⟨⟨v,?_⟩,hit2,e2⟩ (.tup ht2 (.cons (.int _ _) (.cons (rv.up (d7 sh sd) (Lq _)) .nil)) (by unfold line;simp));have:(((i+1:Nat)):Int)=(i:Int)+1:=rfl;rw [this];exact he2
 done:=λi ρ hp s R hg h hx E P kk=>by
  obtain ⟨⟨old,h1⟩,hit,e2⟩:=h;obtain ⟨items,c,gi,rl,z⟩:=R.objs _ _ _ hg e2;rw [MY] at hx;simp at hx;refine wpAny_pyNext_enum_end hn h1 hit ⟨_,gi,rfl,_,rfl⟩ (by simp [rl.length,hx]) λh' he=>⟨rfl,kk _ ⟨λb o hb eb=>he b o (by simp at hb;exact hb.2) eb,rfl,rfl⟩⟩
 self:=λi ρ s h E P hp=>by obtain ⟨⟨old,h1⟩,_⟩:=h;exact wpAny_pyIter_enum h1 hp
noncomputable def IH (it:Lr)(x:List Nat)(t:Tok):Nat->List Lr->Do->Prop:=λi ρ s=>s.heap.IsStrIter it "str_ascii_iterator" (str x) t i
theorem yM (hn:A.handled=iD)(ht:bE target=eQ):pz C A target (.ref it) (x.map (λc=>.str [c])) iD [it] [] (IH it x t) where
 shape:=λi ρ s h=>by obtain ⟨o,e,hc,hd⟩:=h;exact cY e hc (by decide) (λ⟨_,_,q⟩=>by rw [hd] at q;cases q)
 keep:=λi ρ ρ' s s' h hp hs k=>by
  refine e12 h λo e r=>?_;exact ⟨o,k it (by exact oF.mpr rfl) _ e,r⟩
 item:=λi ρ hp s y R hg hit hx E N P kk=>by
  simp only [LG,LF] at hx;obtain ⟨j,hj,rfl⟩:=hx;refine wpAny_pyNext_ascii_item hit (c:=j) (by exact (MQ ..).trans hj) λh' hit' hs=>?_;have sd:=iB (t:=s.toks+1) hs;refine e13 hit' λo eo hc hd=>?_;exact e9 ht (s:={ s with heap:=h',toks:=s.toks+1 }) eo hc (by decide) (kk _ _ sd hit' (.str [j] _ (by unfold line;simp)))
 done:=λi ρ hp s R hg hit hx E P kk=>by
  rw [MY] at hx;simp at hx;exact wpAny_pyNext_ascii_end hn hit (by simp [hx]) λh' he=>⟨rfl,kk _ (jB (t:=s.toks) he)⟩
 self:=λi ρ s h E P hp=>wpAny_pyIter_striter_ascii h hp
end
noncomputable def SV (C:Glo)(X:XM)(n:Nat)(c:Cx)(F:Fm)(me:ME):Prop:=
 ∀(e:L7),aD c me e=eQ->∀(Q:PQ) (m:MS),wpE (Call C) n me Q X m->WPv C F X (eval e F.env) Q m
section
theorem kK (h:pu c t many e=eQ):bE e=eQ:=by
 unfold bE
 cases many with
 | false=>obtain ⟨x,hx,_⟩:=ah h;rw [hx];rfl
 | true=>obtain ⟨x,hx,_⟩:=ah h;rw [hx];exact Rq _
theorem iC (h:pu c t eQ e=eQ):∃elts k p,e=.Tuple elts k p/\d6 c t elts=eQ:=by
 refine e12 (ah h) λelts hx h=>?_;refine e21 (jy hx) λk p e=>?_;exact ⟨elts,k,p,e,h⟩
theorem qK (h:pu c t bY e=eQ):∃i x p,t=[i]/\e=.Name x p/\c.nm i=aT x/\n4 c i x=eQ:=by
 refine e12 (ah h) λx hx h=>?_;refine e12 (ah h) λi hi h=>?_;obtain ⟨p,e⟩:=bZ hx;rw [Ll,beq_iff_eq] at h;exact ⟨i,x,p,bX hi,e,h.1,h.2⟩
inductive qL (C:Glo)(F:Fm)(target:L7)(ρ:List Lr)(s:Do)(P:List MV->Gd->MS->Prop)(itv:rW)(s₂:Do):Prop
 | mk (ρ₂:List Lr) (m₂:MS) (items:List MV) (g:Gd) (S:List Lr) (It:Nat->List Lr->Do->Prop) (st:ao F.W ρ s ρ₂ s₂) (R:Rel C F ρ₂ m₂ s₂) (wk:pz C F.A target itv items g S [] It) (h0:It 0 ρ₂ s₂) (as:dp C F ρ₂ s₂.heap S) (hS:∀a∈S,s.heap.get? a=iD) (hl:items.length<=line) (hp:P items g m₂):qL C F target ρ s P itv s₂
theorem dA (st:ao W ρ s ρ' s')(h:s'.heap.get? a=iD):s.heap.get? a=iD:=by
 cases e:s.heap.get? a with
 | none=>rfl
 | some o=>obtain ⟨o',e'⟩:=st.alive a o e;exact aK h e'
theorem BJ (cx:aq C c F n)(R:Rel C F ρ m s)(st₀:ao F.W ρ₀ s₀ ρ s)
  (hc:o.cls=.type T) (hT:T≠"tuple") (hF:¬ IsD o) (hf:o.isFreed=bY) (wk:pz C F.A target (.ref s.heap.objs.size) items g [s.heap.objs.size] [] It) (h0:∀s₂:Do,s₂.heap=s.heap.push o->It 0 ρ s₂) (hl:items.length<=line) (hp:P items g m) :
  qL C F target ρ₀ s₀ P (.ref s.heap.objs.size) { s with heap:=s.heap.push o,toks:=tk }:=by
 have hk:∀q ob,s.heap.get? q=aT ob->(s.heap.push o).get? q=aT ob:=λq ob e=>Lj _ e;refine e02 (R.grow (s':={ s with heap:=s.heap.push o,toks:=tk }) cx.fm hk rfl rfl) λR' st=>?_;have hnew:s.heap.get? s.heap.objs.size=iD:=bC (nO _);refine ⟨ρ,m,items,g,_,It,st₀.trans st,R',wk,h0 _ rfl,?_,λq hq=>?_,hl,hp⟩
 ·intro q hq;have:q=s.heap.objs.size:=by exact oF.mp hq
  subst this;exact n8 R hnew (LI _ hf) (fK hc hT) hF
 ·have:q=s.heap.objs.size:=by exact oF.mp hq
  subst this;exact dA st₀ hnew
theorem yN (cx:aq C c F n)(hnh:c.nh=eQ)(R:Rel C F ρ m s)(st₀:ao F.W ρ₀ s₀ ρ s)(ht:bE target=eQ)(hr:IsRange s.heap r a b 1 t u v)
  (h1:-16777216<=a) (h2:a<=16777216) (h3:-16777216<=b) (h4:b<=16777216) (h5:(b-a).toNat<=line) (h:P ((Nr (b-a).toNat).map (λ(i:Nat)=>.int (a+i))) iD m) :
  IF (mod C) A (pyIter (.ref r)) (qL C F target ρ₀ s₀ P) E s:=by
 refine wpAny_pyIter_range hr (small_one (by lia) (by lia) (by lia) (by lia)) ?_;refine BJ cx R st₀ (T:="range_iterator") rfl (by decide) (λ⟨_,_,q⟩=>by cases q) rfl (sL (a:=a) (k:=(b-a).toNat) (cx.hn hnh) ht) (λs₂ e=>?_) (by simpa using h5) h;have e1:a+((0:Nat):Int)=a:=Int.add_zero a;have e2:(((b-a).toNat:Nat):Int)-((0:Nat):Int)=Builtin.Range.rangeSize a b 1:=by
  rw [rangeSize_one];split
  ·rw [Pp (Int.sub_nonneg_of_le (PH ‹_›))];exact Int.sub_zero _
  ·rw [Int.toNat_eq_zero.mpr (Int.sub_nonpos_of_le (Rk.mp ‹_›))];rfl
 show IsRangeIter _ _ _ _ _;rw [e1,e2,e];exact LI _ rfl
theorem aM (h:be c (e::es) (x::xs)=eQ):(okX x=eQ/\aD c e x=eQ)/\be c es xs=eQ:=by
 have h:(okX x&&aD c e x&&be c es xs)=eQ:=h
 rwa [Ll,Ll] at h
theorem sM (h:be c src [y]=eQ):∃a,src=[a]/\okX y=eQ/\aD c a y=eQ:=by
 cases src with
 | nil=>exact ff h
 | cons a r=>
  have h:=aM h
  cases r with
  | nil=>exact ⟨a,rfl,h.1⟩
  | cons=>cases h.2
theorem Ky (h:be c src [y,z]=eQ):∃a b,src=[a,b]/\(okX y=eQ/\aD c a y=eQ)/\okX z=eQ/\aD c b z=eQ:=by
 cases src with
 | nil=>exact ff h
 | cons a r=>
  have h:=aM h;obtain ⟨b,rfl,hb⟩:=sM h.2;exact ⟨a,b,rfl,h.1,hb⟩
theorem pB (G:GOk C)(cx:aq C c F n):∀{es:List ME},(∀a∈es,SV C X n c F a)->∀(xs:List L7),be c es xs=eQ->∀(Q:List MV->MS->Prop) (m:MS),iO (Call C) n es Q X m->∀pos,WPl C F X es.length (spliced (backTo pos (starEach xs F.env))) Q m
 | [],ih,xs,hc,Q,m,h,pos=>by
  cases xs with
  | nil=>intro s ρ R;exact wpAny_items_nil ⟨_,_,_,.refl _ _ _,R,.nil,rfl,h⟩
  | cons=>exact ff hc
 | e::es,ih,xs,hc,Q,m,h,pos=>by
  cases xs with
  | nil=>exact ff hc
  | cons x xs=>
   obtain ⟨⟨hx,he⟩,hes⟩:=aM hc;intro s ρ R;refine QP ((ih e (by exact IS ..) x he _ m h).go R (.refl _ _ _) λρ₁ s₁ m₁ x v st t1 R₁ rx h₁=>?_) (bj hx _ _);refine (pB G cx (λa ha=>ih a (Lm _ ha)) xs hes _ m₁ h₁ pos).go R₁ t1 λρ₂ s₂ m₂ ys vs st2 t2 R₂ rl el h₂=>?_;exact ⟨_,_,_,t2,R₂,.cons (rx.step st2) rl,by simp [el],h₂⟩
theorem iE (h:be c es xs=eQ)(hn:xs.isEmpty=bY)(pos:Pos)(env:RF):backTo pos (starEach xs env)≠[]:=by
 cases xs with
 | nil=>exact tf hn
 | cons x xs=>
  cases es with
  | nil=>exact ff h
  | cons e es=>
   rw [bj (aM h).1.1];exact M2 _ _
theorem n9 {hp:List MO}{r:Nat}{f:List MV->Its}{q:List MV × Gd}(h:(match hp[r]? with
  | some (.list xs)=>f xs
  | _=>iD)=aT q):∃xs,hp[r]?=aT (.list xs)/\f xs=aT q:=by
 cases e:hp[r]? with
 | none=>rw [e] at h;exact av h
 | some o=>
  rw [e] at h
  cases o with
  | list xs=>exact ⟨xs,rfl,h⟩
  | _=>exact av h
theorem oa (h:(match b with
  | true=>aT x
  | false=>iD)=aT y):b=eQ/\x=y:=by
 cases b with
 | true=>exact ⟨rfl,BY h⟩
 | false=>exact av h
theorem yO (cx:aq C c F n)(hnh:c.nh=eQ)(R:Rel C F ρ m s)(st₀:ao F.W ρ₀ s₀ ρ s){target:L7}(ht:bE target=eQ){x:MV}{v:rW}(rx:Rep C ρ s.heap x v){items:List MV}{g:Gd}(hi:DN m.heap x=aT (items,g))
  {P:List MV->Gd->MS->Prop}(h:P items g m):IF (mod C) A (pyIter v) (qL C F target ρ₀ s₀ P) E s:=by
 have noD:∀{o:OQ} {vs:Array rW},o.data=.fields vs->¬ IsD o:=λe ⟨_,_,q⟩=>nomatch e.symm.trans q;refine LL λhn=>?_
 cases x with
 | ref r=>
  obtain ⟨la,rfl,gr⟩:=rx.inv;refine e12 (n9 (r:=r) (f:=λxs=>aT (xs,aT (r,.list xs))) hi) λxs hj e=>?_
  cases e
  obtain ⟨items,n',gi,rl,z⟩:=R.hp.objs _ _ _ hj gr;refine hn (QD ⟨_,gi,rfl,_,rfl⟩ ?_);exact BJ cx R st₀ (T:="list_iterator") rfl (by decide) (noD rfl) rfl (wG (cx.hn hnh) ht) (λs₂ e=>⟨⟨_,by rw [e];exact LI _ rfl,rfl,rfl⟩,gr⟩) z h
 | tup xs=>
  obtain ⟨ta,k,its,rfl,gi,rl,z⟩:=rx.inv
  cases hi
  refine hn (wpAny_pyIter_tuple ⟨_,gi,rfl,_,rfl⟩ ?_);have hk:∀q ob,s.heap.get? q=aT ob->(s.heap.push { cls:=.type "tuple_iterator",data:=.fields #[.ref ta,.int 0 0] }).get? q=aT ob:=λq o e=>Lj _ e;exact BJ cx R st₀ (T:="tuple_iterator") rfl (by decide) (noD rfl) rfl (yL (cx.hn hnh) ht) (λs₂ e=>⟨⟨_,by rw [e];exact LI _ rfl,rfl,rfl⟩,_,_,by rw [e];exact hk _ _ gi,by rw [e];exact rl.up (λa o e _=>hk a o e) (Lq _)⟩) z h
 | str y=>
  obtain ⟨u,rfl,z⟩:=rx.inv;refine e02 (oa hi) λha e=>?_
  cases e
  refine hn (wpAny_pyIter_ascii (by rw [<-ha];simp) ?_);exact BJ cx R st₀ (T:="str_ascii_iterator") rfl (by decide) (noD rfl) rfl (yM (cx.hn hnh) ht) (λs₂ e=>⟨_,by rw [e];exact LI _ rfl,rfl,rfl⟩) (by rw [tO];exact z) h
 | _=>exact av hi
noncomputable def sN:IK->rW
 | .enum=>.type "enumerate"
 | _=>.type "range"
theorem yP (h:ET x=aT q):∃i,x=.int i:=by
 cases x with
 | int i=>exact ⟨i,rfl⟩
 | _=>exact av h
theorem BK (cx:aq C c F n)(hnh:c.nh=eQ)(R:Rel C F ρ m s)(st₀:ao F.W ρ₀ s₀ ρ s)(ht:bE target=eQ)(rx:Rep C ρ s.heap x v)(hi:ET x=aT (items,g))
  (h:P items g m):IF (mod C) A (call (.type "range") [v]) (λxv s₁=>IF (mod C) A (pyIter xv) (qL C F target ρ₀ s₀ P) E s₁) E s:=by
 obtain ⟨i,rfl⟩:=yP hi;obtain ⟨t,rfl⟩:=rx.inv;obtain ⟨hd,e⟩:=oa hi
 cases e
 have hd:=of_decide_eq_true hd;refine call_range_1 ?_;have hk:∀q o,s.heap.get? q=aT o->(s.heap.push { cls:=.type "range",data:=.fields #[.int 0 s.toks,.int i t,.int 1 (s.toks+1)] }).get? q=aT o:=λq o e=>Lj _ e;obtain ⟨R',st'⟩:=R.grow (s':={ s with heap:=s.heap.push { cls:=.type "range",data:=.fields #[.int 0 s.toks,.int i t,.int 1 (s.toks+1)] },toks:=s.toks+1+1 }) cx.fm hk rfl rfl;refine yN cx hnh R' (st₀.trans st') ht (IsRange.new _ _ _ _ _ _ _) (by decide) (by decide) hd.1 hd.2 (by unfold line;lia) ?_
 simpa using h
theorem sP (h:sj hp x=aT q):∃i,x=.ref i:=by
 cases x with
 | ref i=>exact ⟨i,rfl⟩
 | _=>exact av h
theorem wI (cx:aq C c F n)(hnh:c.nh=eQ)(R:Rel C F ρ m s)(st₀:ao F.W ρ₀ s₀ ρ s){elts:List L7}{k':Nat}{p':Pos}{x:MV}{v:rW}(rx:Rep C ρ s.heap x v){items:List MV}{g:Gd}(hi:sj m.heap x=aT (items,g))
  {P:List MV->Gd->MS->Prop}(h:P items g m):IF (mod C) A (call (.type "enumerate") [v]) (λxv s₁=>IF (mod C) A (pyIter xv) (qL C F (.Tuple elts k' p') ρ₀ s₀ P) E s₁) E s:=by
 have hnew:s.heap.get? s.heap.objs.size=iD:=bC (nO _);have hnew':s.heap.get? (s.heap.objs.size+1)=iD:=bC (N8 _);obtain ⟨r,rfl⟩:=sP hi;obtain ⟨la,rfl,gr⟩:=rx.inv;refine e12 (n9 (r:=r) (f:=λxs=>aT (xs.zipIdx.map (λ(p:MV × Nat)=>.tup [.int p.2,p.1]),aT (r,.list xs))) hi) λxs hj e=>?_
 cases e
 obtain ⟨items,n',gi,rl,z⟩:=R.hp.objs _ _ _ hj gr;refine call_enumerate_1 gi λh' he hit hsz hk=>?_;refine e02 (R.grow (s':={ s with heap:=h' }) cx.fm hk rfl rfl) λR' st'=>?_;refine wpAny_pyIter_enum he ?_;have hne:s.heap.objs.size+1≠s.heap.objs.size:=QR _;have hmem:∀q∈[s.heap.objs.size+1,s.heap.objs.size],s.heap.get? q=iD:=λq hq=>by
  rcases Lu.mp hq with rfl | hq
  ·exact hnew'
  ·rw [oF.mp hq];exact hnew
 refine ⟨ρ,m,_,_,_,_,st₀.trans st',R',wH (e:=s.heap.objs.size+1) (it:=s.heap.objs.size) (cx.hn hnh) hne,⟨⟨_,he⟩,hit,gr⟩,λq hq=>?_,λq hq=>dA st₀ (hmem q hq),by rw [tO,List.length_zipIdx];exact z,h⟩;refine e13 (pA he hit q hq) λo e1 e2 e3=>?_;exact n8 R (hmem q hq) e1 e2 e3
end
section
theorem wJ (cx:aq C c F n)(hnh:c.nh=eQ)(R:Rel C F ρ m s)(st₀:ao F.W ρ₀ s₀ ρ s)(hk:ul k=bY)(ht:bE target=eQ)(hm:mE k=eQ->∃elts k p,target=.Tuple elts k p/\True)(rl:au C ρ s.heap xs vs)
  (hi:fW k xs m.heap=aT (items,g)) (h:P items g m):IF (mod C) A (call (sN k) vs) (λxv s₁=>IF (mod C) A (pyIter xv) (qL C F target ρ₀ s₀ P) E s₁) E s:=by
 refine LL λhn=>?_
 rcases xs with _ | ⟨x,_ | ⟨y,_ | ⟨z,r⟩⟩⟩
 ·exact av hi
 ·obtain ⟨v,rfl,rx⟩:=rl.one
  cases k with
  | val=>exact tf hk
  | range1=>exact hn (BK cx hnh R st₀ ht rx hi h)
  | enum=>obtain ⟨_,_,_,rfl,_⟩:=hm rfl;exact hn (wI cx hnh R st₀ rx hi h)
 ·exact av hi
 ·exact av hi
theorem FG (hk:ul k=bY):(yH k,sN k)∈cv:=by
 cases k with
 | val=>exact tf hk
 | range1=>exact bk 8 rfl
 | enum=>exact bk 9 rfl
theorem BL (k:IK):∃T,sN k=.type T:=by
 cases k<;>exact ⟨_,rfl⟩
set_option tactic.hygienic true in
theorem um (G:GOk C)(cx:aq C c F n)(hnh:c.nh=eQ)(hsrc:∀a∈src,SV C X n c F a)(hxs:mD c k e=aT xs)(hc:be c src xs=eQ)(htt:bE target=eQ)
  (hm:mE k=eQ->∃elts k p,target=.Tuple elts k p/\True)
  (h:iO (Call C) n src (λvs m=>xY (fW k vs m.heap) λitems g=>P items g m) X m) (R:Rel C F ρ m s) :
  IF (mod C) F.A (eval e F.env) (λxv s₁=>IF (mod C) F.A (pyIter xv) (qL C F target ρ s P) (Er C F X ρ s) s₁) (Er C F X ρ s) s:=by
 unfold mD at hxs
 cases hv:ul k with
 | true=>
  rw [hv] at hxs;obtain rfl:=BY hxs;obtain ⟨a,rfl,hx,hc⟩:=sM hc;refine (hsrc a (.head _) e hc _ m h).go R (.refl _ _ _) λρ₁ s₁ m₁ x v st t1 R₁ rx h₁=>?_;refine e22 (qq h₁) λitems g hi hp=>?_
  cases k with
  | val=>exact yO cx hnh R₁ t1 htt rx hi hp
  | _=>exact ff hv
 | false=>
  rw [hv] at hxs;obtain ⟨⟨x,ys,pos⟩,hx,hq⟩:=LW.mp hxs;obtain ⟨px,rfl⟩:=gN hx
  split at hq
  ·rename_i hg;obtain rfl:=BY hq;simp only [Ll,beq_iff_eq,Nk] at hg;obtain ⟨⟨hg,rfl⟩,hne⟩:=hg;refine Ng rfl (cW cx R (FG hv) (az hg).1 (az hg).2 ?_);refine fJ (.inr (BL k)) (cf hc _ _) (iE hc hne _ _) ?_;refine (pB G cx hsrc _ hc _ m h pos).go R (.refl _ _ _) λρ₁ s₁ m₁ xs vs st t1 R₁ rl el h₁=>?_;refine e22 (qq h₁) λitems g hi hp=>?_;exact wJ cx hnh R₁ t1 hv htt hm rl hi hp
  ·exact av hq
end
section
set_option backward.match.sparseCases true
section
theorem fZ (h:dK Q x m):∃b,x=.bool b/\Q b m:=by
 cases x with
 | bool b=>exact ⟨b,rfl,h⟩
 | _=>exact h.elim
theorem BM {K:KT}{i:Nat}{Q:PQ}{m:MS}(h:wpE K n (.var i) Q X m):∃v,m.get i=aT v/\Q v m:=by
 have h:(match m.get i with | some v=>Q v m | none=>False):=h
 cases hv:m.get i with
 | some v=>rw [hv] at h;exact ⟨v,rfl,h⟩
 | none=>rw [hv] at h;exact h.elim
theorem svO (G:GOk C)(cx:aq C c F n):∀{o:Option ME},(∀a,o=aT a->SV C X n c F a)->∀(x:Option L7),FA c o x=eQ->∀(Q:Option MV->MS->Prop) (m:MS),wpO (Call C) n o Q X m->∀(s:Do) (ρ:List Lr),Rel C F ρ m s->
  ∀(s₀:Do) (ρ₀:List Lr) (P:rW->Do->Prop),ao F.W ρ₀ s₀ ρ s->(∀ρ₁ s₁ m₁ x v,ao F.W ρ s ρ₁ s₁->ao F.W ρ₀ s₀ ρ₁ s₁->Rel C F ρ₁ m₁ s₁->jz C ρ₁ s₁.heap x v->Q x m₁->P v s₁)->
   IF (mod C) F.A (evalPart x F.env) P (Er C F X ρ₀ s₀) s
 | none,ih,x,hc,Q,m,h,s,ρ,R,s₀,ρ₀,P,st,k=>by
  cases x with
  | none=>rw [evalPart_none];exact EQ (k ρ s m iD .none (.refl _ _ _) st R rfl h)
  | some=>exact ff hc
 | some e,ih,x,hc,Q,m,h,s,ρ,R,s₀,ρ₀,P,st,k=>by
  cases x with
  | some x=>
   rw [evalPart_some];exact (ih e rfl _ hc _ m h).go R st λρ₁ s₁ m₁ x v st1 t1 R₁ rx h₁=>k ρ₁ s₁ m₁ (aT x) v st1 t1 R₁ rx h₁
  | none=>exact ff hc
theorem D0 (G:GOk C)(cx:aq C c F n):∀{es:List ME},(∀a∈es,SV C X n c F a)->∀(xs:List L7),be c es xs=eQ->∀(Q:PQ) (m:MS),ud (Call C) n es Q X m->∀pos,WPv C F X (boolOp pos .And (evalEach xs F.env)) Q m
 | [],ih,xs,hc,Q,m,h,pos=>h.elim
 | [e],ih,xs,hc,Q,m,h,pos=>by
  cases xs with
  | nil=>exact ff hc
  | cons x xs=>
   replace hc:=aM hc
   cases xs with
   | nil=>exact ih e (by simp) x hc.1.2 Q m h
   | cons=>cases hc.2
 | e::e'::es,ih,xs,hc,Q,m,h,pos=>by
  cases xs with
  | nil=>exact ff hc
  | cons x xs=>
   replace hc:=aM hc
   cases xs with
   | nil=>cases hc.2
   | cons x' xs=>
    intro s ρ R;show IF (mod C) F.A (do let v <-eval x F.env;standAt pos;let t <-holding [v] (truthy v);match BoolOp.And,t with | .And,bY | .Or,eQ=>pure v | _,_=>boolOp pos .And (evalEach (x'::xs) F.env)) _ _ s;refine iS ((ih e (by simp) x hc.1.2 _ m h).go R (.refl _ _ _) λρ₁ s₁ m₁ y v st t1 R₁ rx h₁=>?_);obtain ⟨b,rfl,h₁⟩:=fZ h₁
    ·obtain rfl:=rx.inv;refine iS (N9 (iS (Md (Na ?_))))
     cases b with
     | true=>exact Lk (D0 G cx (λa ha=>ih a (Lm _ ha)) (x'::xs) hc.2 Q m₁ h₁ pos s₁ ρ₁ R₁) (Out.back t1) (Er.back t1)
     | false=>exact EQ (Out.back t1 _ _ (bP R₁ (.bool _) h₁))
theorem II (G:GOk C)(cx:aq C c F n):∀{es:List ME},(∀a∈es,SV C X n c F a)->∀(xs:List L7),be c es xs=eQ->∀(Q:PQ) (m:MS),Bk (Call C) n es Q X m->∀pos,WPv C F X (boolOp pos .Or (evalEach xs F.env)) Q m
 | [],ih,xs,hc,Q,m,h,pos=>h.elim
 | [e],ih,xs,hc,Q,m,h,pos=>by
  cases xs with
  | nil=>exact ff hc
  | cons x xs=>
   replace hc:=aM hc
   cases xs with
   | nil=>exact ih e (by simp) x hc.1.2 Q m h
   | cons=>cases hc.2
 | e::e'::es,ih,xs,hc,Q,m,h,pos=>by
  cases xs with
  | nil=>exact ff hc
  | cons x xs=>
   replace hc:=aM hc
   cases xs with
   | nil=>cases hc.2
   | cons x' xs=>
    intro s ρ R;show IF (mod C) F.A (do let v <-eval x F.env;standAt pos;let t <-holding [v] (truthy v);match BoolOp.Or,t with | .And,bY | .Or,eQ=>pure v | _,_=>boolOp pos .Or (evalEach (x'::xs) F.env)) _ _ s;refine iS ((ih e (by simp) x hc.1.2 _ m h).go R (.refl _ _ _) λρ₁ s₁ m₁ y v st t1 R₁ rx h₁=>?_);obtain ⟨b,rfl,h₁⟩:=fZ h₁
    ·obtain rfl:=rx.inv;refine iS (N9 (iS (Md (Na ?_))))
     cases b with
     | false=>exact Lk (II G cx (λa ha=>ih a (Lm _ ha)) (x'::xs) hc.2 Q m₁ h₁ pos s₁ ρ₁ R₁) (Out.back t1) (Er.back t1)
     | true=>exact EQ (Out.back t1 _ _ (bP R₁ (.bool _) h₁))
theorem FH (G:GOk C)(cx:aq C c F n) :SV C X n c F (.cst v):=by
 intro e hc Q m h;replace hc:=ah hc;obtain ⟨k,hx,hc⟩:=hc;obtain ⟨_,_,rfl⟩:=im hx;intro s ρ R;exact yK R cx.fm hc h
theorem FI (G:GOk C)(cx:aq C c F n){i:Nat} :SV C X n c F (.var i):=by
 intro e hc Q m h;replace hc:=ah hc;obtain ⟨x,hx,hc⟩:=hc;obtain ⟨_,rfl⟩:=bZ hx;simp only [Ll,beq_iff_eq,Nk] at hc;refine e12 (BM h) λv hv h=>?_;intro s ρ R;exact yx cx R hc.1 hv hc.2 h
theorem BN (G:GOk C)(cx:aq C c F n) :SV C X n c F (.glob g v):=by
 intro e hc Q m h;replace hc:=ah hc;obtain ⟨x,hx,hc⟩:=hc;obtain ⟨_,rfl⟩:=bZ hx;simp only [Ll] at hc;obtain ⟨h1,h2⟩:=hc;unfold IB at h2;replace h2:=ah h2;obtain ⟨⟨y,w⟩,hg,h2⟩:=h2;rw [Ll] at h2;obtain ⟨h3,h4⟩:=h2;refine e12 (ah h4) λa ha h4=>?_
 cases eq_of_beq h3
 have e:v=w:=(qJ (eq_of_beq h4)).trans (qJ ha).symm;subst e;intro s ρ R;exact BB cx R hg (az h1).1 (az h1).2 h
theorem FJ (G:GOk C)(cx:aq C c F n)(ia:SV C X n c F a)(ib:SV C X n c F b):SV C X n c F (.bin op a b):=by
 intro e hc Q m h;replace hc:=ah hc;obtain ⟨⟨l,o,r⟩,hx,hc⟩:=hc;obtain ⟨p,rfl⟩:=Br hx;simp only [Ll,beq_iff_eq] at hc;obtain ⟨⟨rfl,ha⟩,hb⟩:=hc;intro s ρ R;refine wpAny_BinOp ((ia l ha _ m h).go R (.refl _ _ _) λρ₁ s₁ m₁ x v st t1 R₁ rx h₁=>?_);refine (ib r hb _ m₁ h₁).go R₁ t1 λρ₂ s₂ m₂ y w st' t2 R₂ ry h₂=>?_;exact Lk (E6 R₂ cx.fm (rx.step st') ry h₂) (Out.back t2) λ_ _ x=>x
theorem FK (G:GOk C)(cx:aq C c F n)(ia:SV C X n c F a):SV C X n c F (.neg a):=by
 intro e hc Q m h;replace hc:=ah hc;obtain ⟨⟨o,x⟩,hx,hc⟩:=hc;obtain ⟨p,rfl⟩:=pe hx;simp only [Ll,beq_iff_eq] at hc;obtain ⟨rfl,hc⟩:=hc;intro s ρ R;refine wpAny_UnaryOp ((ia _ hc _ m h).go R (.refl _ _ _) λρ₁ s₁ m₁ x v st t1 R₁ rx h₁=>?_);obtain ⟨i,rfl,h₁⟩:=jn h₁;obtain ⟨t,rfl⟩:=rx.inv;exact PyProof.Rows.neg_int (Out.back t1 _ _ (bp R₁ cx.fm (.int _ _) h₁))
theorem FL (G:GOk C)(cx:aq C c F n)(ia:SV C X n c F a):SV C X n c F (.not a):=by
 intro e hc Q m h;replace hc:=ah hc;obtain ⟨⟨o,x⟩,hx,hc⟩:=hc;obtain ⟨p,rfl⟩:=pe hx;simp only [Ll,beq_iff_eq] at hc;obtain ⟨rfl,hc⟩:=hc;intro s ρ R;refine wpAny_UnaryOp ((ia _ hc _ m h).go R (.refl _ _ _) λρ₁ s₁ m₁ x v st t1 R₁ rx h₁=>?_);obtain ⟨b,rfl,h₁⟩:=fZ h₁;obtain rfl:=rx.inv;exact not_value (Na (Out.back t1 _ _ (bP R₁ (.bool _) h₁)))
theorem FM (G:GOk C)(cx:aq C c F n)(ies:∀a∈es,SV C X n c F a):SV C X n c F (.and es):=by
 intro e hc Q m h;replace hc:=ah hc;obtain ⟨⟨o,xs⟩,hx,hc⟩:=hc;obtain ⟨p,rfl⟩:=jw hx;simp only [Ll,beq_iff_eq] at hc;obtain ⟨rfl,hc⟩:=hc;exact D0 G cx ies _ hc Q m h _
theorem IJ (G:GOk C)(cx:aq C c F n)(ies:∀a∈es,SV C X n c F a):SV C X n c F (.or es):=by
 intro e hc Q m h;replace hc:=ah hc;obtain ⟨⟨o,xs⟩,hx,hc⟩:=hc;obtain ⟨p,rfl⟩:=jw hx;simp only [Ll,beq_iff_eq] at hc;obtain ⟨rfl,hc⟩:=hc;exact II G cx ies _ hc Q m h _
theorem pC (G:GOk C)(cx:aq C c F n)(hA:A.units+1001<cLine)(R:Rel C F ρ m s)(t:ao F.W ρ₀ s₀ ρ s)(rx:Rep C ρ s.heap x v)(ry:Rep C ρ s.heap y w)(h:kG op x y P m)
  (k:∀b ρ' m' s',ao F.W ρ s ρ' s'->ao F.W ρ₀ s₀ ρ' s'->Rel C F ρ' m' s'->P b m'->Q (.bool b) s'):IF (mod C) A (compareOp (iU op) v w) Q E s:=
 Lk (Fb G R.hp rx ry hA h) (λv s' hv=>by
  obtain ⟨b,rfl,m',st,R',hq⟩:=yJ R cx.fm hv;exact k b _ m' s' st (t.trans st) R' hq) λ_ _ x=>x
theorem og (G:GOk C)(cx:aq C c F n)(ia:SV C X n c F a)(ib:SV C X n c F b)(ha:aD c a l=eQ)(hb:aD c b r=eQ)(R:Rel C F ρ m s)
  (h:wpE (Call C) n a (λx m=>wpE (Call C) n b (λy m=>kG op x y P m) X m) X m) (k:∀b ρ' m' s',ao F.W ρ s ρ' s'->Rel C F ρ' m' s'->P b m'->Q (.bool b) s') :
  IF (mod C) F.A (eval l F.env) (λv s₁=>IF (mod C) F.A (eval r F.env) (λw s₂=>IF (mod C) F.A (compareOp (iU op) v w) Q (Er C F X ρ s) s₂) (Er C F X ρ s) s₁) (Er C F X ρ s) s:=by
 refine (ia l ha _ m h).go R (.refl _ _ _) λρ₁ s₁ m₁ x v st t1 R₁ rx h₁=>?_;refine (ib r hb _ m₁ h₁).go R₁ t1 λρ₂ s₂ m₂ y w st' t2 R₂ ry h₂=>?_;exact pC G cx cx.u R₂ t2 (rx.step st') ry h₂ λb ρ' m' s' _ st R' hq=>k b ρ' m' s' st R' hq
theorem FN (G:GOk C)(cx:aq C c F n)(ia:SV C X n c F a)(ib:SV C X n c F b):SV C X n c F (.cmp op a b):=by
 intro e hc Q m h;replace hc:=ah hc;obtain ⟨⟨l,os,rs⟩,hxx,hc⟩:=hc;replace hc:=ah hc;obtain ⟨o,ho,hc⟩:=hc;replace hc:=ah hc;obtain ⟨r,hr,hc⟩:=hc
 cases bX ho
 cases bX hr
 obtain ⟨p,rfl⟩:=jx hxx;simp only [Ll,beq_iff_eq] at hc;obtain ⟨⟨⟨rfl,hx⟩,ha⟩,hb⟩:=hc;intro s ρ R;exact wpAny_Compare1 (og G cx ia ib ha hb R h λb ρ' m' s' st R' hq=>⟨_,_,_,st,R',.bool b,hq⟩) (ir hx _)
theorem BO (rx:Rep C ρ h x v):x6 p x=(if p then (v==M5) else !(v==M5)):=by
 cases p with
 | true=>exact Rep.casesOn (motive_1:=λx v _=>x6 eQ x=(v==M5)) rx rfl (λ_=>rfl) (λ_ _=>rfl) (λ_ _ _=>rfl) (λ_ _ _=>rfl) (λ_=>rfl) (λ_ _ _=>rfl) (λ_ _ _ _=>rfl) (λ_ _ _=>rfl) (λ_ _ _=>rfl)
 | false=>exact Rep.casesOn (motive_1:=λx v _=>x6 bY x=!(v==M5)) rx rfl (λ_=>rfl) (λ_ _=>rfl) (λ_ _ _=>rfl) (λ_ _ _=>rfl) (λ_=>rfl) (λ_ _ _=>rfl) (λ_ _ _ _=>rfl) (λ_ _ _=>rfl) (λ_ _ _=>rfl)
theorem qM (G:GOk C)(cx:aq C c F n){p:Bool}{a:ME}(ia:SV C X n c F a){l:L7}(ha:aD c a l=eQ){P:Bool->MS->Prop}{m:MS}{s:Do}{ρ:List Lr}(R:Rel C F ρ m s)(h:wpE (Call C) n a (λx m=>P (x6 p x) m) X m){Q:rW->Do->Prop}
  (k:∀b ρ' m' s',ao F.W ρ s ρ' s'->Rel C F ρ' m' s'->P b m'->Q (.bool b) s') {j:Nat}{q:Pos} :
  IF (mod C) F.A (eval l F.env) (λv s₁=>IF (mod C) F.A (eval (.Constant .none j q) F.env) (λw s₂=>IF (mod C) F.A (compareOp (if p then .Is else .IsNot) v w) Q (Er C F X ρ s) s₂) (Er C F X ρ s) s₁) (Er C F X ρ s) s:=by
 refine (ia l ha _ m h).go R (.refl _ _ _) λρ₁ s₁ m₁ x v st t1 R₁ rx h₁=>wpAny_Constant_none ?_;rw [BO rx] at h₁;have h₂:=k _ ρ₁ m₁ s₁ t1 R₁ h₁
 cases p with
 | true=>exact is_none h₂
 | false=>exact isNot_none h₂
theorem FP (G:GOk C)(cx:aq C c F n){p:Bool}{a:ME}(ia:SV C X n c F a):SV C X n c F (.isN p a):=by
 intro e hc Q m h;replace hc:=ah hc;obtain ⟨⟨l,os,rs⟩,hxx,hc⟩:=hc;replace hc:=ah hc;obtain ⟨o,ho,hc⟩:=hc;replace hc:=ah hc;obtain ⟨r,hr,hc⟩:=hc
 cases bX ho
 cases bX hr
 obtain ⟨p2,rfl⟩:=jx hxx;simp only [Ll,beq_iff_eq] at hc;obtain ⟨⟨rfl,hn⟩,ha⟩:=hc;obtain ⟨_,_,rfl⟩:=im hn;intro s ρ R;exact wpAny_Compare1 (qM (P:=λb m=>Q (.bool b) m) G cx ia ha R h λb ρ' m' s' st R' hq=>⟨_,_,_,st,R',.bool b,hq⟩) rfl
theorem BP (G:GOk C)(cx:aq C c F n)(iargs:∀a∈args,SV C X n c F a):SV C X n c F (.call f args):=by
 intro e hc Q m h;replace hc:=ah hc;obtain ⟨⟨x,ys,pos⟩,hx,hc⟩:=hc;obtain ⟨px,rfl⟩:=gN hx;simp only [Ll,beq_iff_eq,Nk] at hc;obtain ⟨⟨⟨⟨hg,hf⟩,hne⟩,hnh⟩,ha⟩:=hc;have hh:F.A.handled=iD\/C.hf f=eQ:=by
  refine MN (OF.mp hnh) (λq=>?_) λq=>?_
  ·exact .inl (cx.hn q)
  ·exact .inr (cx.hf▸q)
 intro s ρ R;refine Ng rfl (BA cx R hf (az hg).1 (az hg).2 λa hfa=>?_);have ha':=pB G cx iargs ys ha _ m h pos;have hp:=cf ha pos F.env;have hn:=iE ha hne pos F.env;obtain ⟨⟨b,t⟩,trees,et⟩:=Pb hn;rw [et] at ha' hp ⊢;simp only [QK,NV] at hp;obtain ⟨rfl,hp⟩:=hp;refine e22 (G.fns f a hfa) λo fd ho hd=>?_;refine Calls.callWith_function (o:=o) (fd:=fd) (NW (ha'.go R (.refl _ _ _) λρ₁ s₁ m₁ xs vs st t1 R₁ rl el h₁=>⟨⟨R₁.hp.base _ _ ho,hd⟩,?_⟩));refine Lk (h₁ F m₁ s₁ ρ₁ vs a cx.fm hh rfl R₁ rl cx.room cx.units hfa) (λv s₂ hv=>?_) λe s' x=>Er.back t1 e s' (Er.mono (λk m' ⟨q1,q2⟩=>by rw [<-q1] at q2;exact q2) e s' x);obtain ⟨ρ₂,m₂,x,st2,R₂,rx,e,hq⟩:=hv;refine ⟨ρ₂,m₂,x,t1.trans st2,R₂,rx,?_⟩;rw [<-e] at hq;exact hq
theorem FQ (G:GOk C)(cx:aq C c F n)(io:SV C X n c F o)(iargs:∀a∈args,SV C X n c F a):SV C X n c F (.mth k o args):=by
 intro e hc Q m h;replace hc:=ah hc;obtain ⟨⟨⟨ov,name,apos⟩,ys,pos⟩,hx,hc⟩:=hc;have ee:=qD hx;subst ee;simp only [Ll,beq_iff_eq,decide_eq_true_eq] at hc;obtain ⟨⟨⟨⟨⟨hn,h0⟩,hl⟩,hz⟩,ho⟩,ha⟩:=hc;intro s ρ R;have hp:=cf ha pos F.env;refine wpAny_Call_method_late (nK h0 _ _) ?_ (by simp [hl]) rfl ((io ov ho _ m h).go R (.refl _ _ _) λρ₁ s₁ m₁ x v st t1 R₁ rx h₁=>?_)
 ·rw [Ll,Ll];refine ⟨⟨?_,rfl⟩,?_⟩
  ·rw [LN];intro q hq;rw [List.any_eq_false] at hp
   simpa using hp q hq
  ·simp;exact iF hz (nb rfl)
 ·refine e02 (jo h₁) λhm h₁=>?_;refine Fx G cx.fm hn t1 R₁ rx hm hp ?_;exact (pB G cx iargs ys ha _ m₁ h₁ pos).go R₁ t1 λρ₂ s₂ m₂ xs vs st2 t2 R₂ rl _ h₂=>⟨ρ₂,m₂,xs,st2,R₂,rl,h₂⟩
theorem FR (G:GOk C)(cx:aq C c F n)(io:SV C X n c F o)(ii:SV C X n c F i):SV C X n c F (.idx o i):=by
 intro e hc Q m h;replace hc:=ah hc;obtain ⟨⟨v,sl⟩,hxx,hc⟩:=hc;obtain ⟨p,rfl⟩:=ph hxx;simp only [Ll] at hc;obtain ⟨⟨hx,ho⟩,hi⟩:=hc;intro s ρ R;refine PyProof.Rows.Subscript_ ((io v ho _ m h).go R (.refl _ _ _) λρ₁ s₁ m₁ x v st t1 R₁ rx h₁=>?_);refine (ii sl hi _ m₁ h₁).go R₁ t1 λρ₂ s₂ m₂ y w st' t2 R₂ ry h₂=>?_;exact Lk (Fc G R₂ (rx.step st') ry hx h₂) (λv s' o=>Out.back t2 v s' (o.out R₂ cx.fm)) λ_ _ x=>x
theorem IL (G:GOk C)(cx:aq C c F n){o:ME}{lo:Option ME}{hi:Option ME}(io:SV C X n c F o)(ilo:∀a,lo=aT a->SV C X n c F a)(ihi:∀a,hi=aT a->SV C X n c F a):SV C X n c F (.sl o lo hi):=by
 intro e hc Q m h;replace hc:=ah hc;obtain ⟨⟨v,sl⟩,hxx,hc⟩:=hc;replace hc:=ah hc;obtain ⟨⟨l,u,stp⟩,hx,hc⟩:=hc;obtain ⟨p1,rfl⟩:=ww hx;obtain ⟨p2,rfl⟩:=ph hxx;simp only [Ll] at hc;obtain ⟨⟨⟨hs,ho⟩,hlo⟩,hhi⟩:=hc
 cases stp with
 | some=>exact ff hs
 | none=>
 intro s ρ R;refine PyProof.Rows.Subscript_ ((io v ho _ m h).go R (.refl _ _ _) λρ₁ s₁ m₁ x v st t1 R₁ rx h₁=>?_);refine wpAny_Slice ?_;refine (svO G cx ilo l hlo _ m₁ h₁) s₁ ρ₁ R₁ _ _ _ t1 λρ₂ s₂ m₂ a va st2 t2 R₂ ra h₂=>?_;refine (svO G cx ihi u hhi _ m₂ h₂) s₂ ρ₂ R₂ _ _ _ t2 λρ₃ s₃ m₃ b vb st3 t3 R₃ rb h₃=>?_;rw [evalPart_none];refine EQ ?_;have ra':jz C ρ₃ s₃.heap a va:=by
  cases a with
  | none=>exact ra
  | some a=>exact ra.step st3
 exact Lk (Iv R₃ cx.fm ((rx.step st2).step st3) ra' rb h₃) (Out.back t3) λ_ _ x=>x
theorem BQ (G:GOk C)(cx:aq C c F n)(ies:∀a∈es,SV C X n c F a):SV C X n c F (.list es):=by
 intro e hc Q m h;replace hc:=ah hc;obtain ⟨xs,hxx,hc⟩:=hc;obtain ⟨p,rfl⟩:=yj hxx;simp only [Ll,decide_eq_true_eq] at hc;intro s ρ R;refine wpAny_List ((pB G cx ies xs hc.2 _ m h _).go R (.refl _ _ _) λρ₁ s₁ m₁ xs vs st t1 R₁ rl el h₁=>?_);have hz:xs.length<=line:=el▸iF hc.1 (by decide);exact ⟨by rw [rl.length];exact hz,Out.back t1 _ _ (lB R₁ cx.fm rl hz h₁)⟩
theorem FS (G:GOk C)(cx:aq C c F n)(ies:∀a∈es,SV C X n c F a):SV C X n c F (.tup es):=by
 intro e hc Q m h;replace hc:=ah hc;obtain ⟨xs,hxx,hc⟩:=hc;obtain ⟨k,p,rfl⟩:=jy hxx;simp only [Ll,decide_eq_true_eq] at hc;intro s ρ R;refine wpAny_Tuple ((pB G cx ies xs hc.2 _ m h _).go R (.refl _ _ _) λρ₁ s₁ m₁ xs vs st t1 R₁ rl el h₁=>?_);have hz:xs.length<=line:=el▸iF hc.1 (by decide);exact ⟨by rw [rl.length];exact hz,Out.back t1 _ _ (o4 R₁ cx.fm rl hz h₁)⟩
theorem yQ (G:GOk C)(cx:aq C c F n)  :SV C X n c F (.dict0):=by
 intro e hc Q m h;replace hc:=ah hc;obtain ⟨⟨ks,vs⟩,hxx,hc⟩:=hc;obtain ⟨p,rfl⟩:=yk hxx;simp only [Ll,NM] at hc;obtain ⟨rfl,rfl⟩:=hc;intro s ρ R;refine wpAny_Dict_empty ?_;have hk:∀a o,s.heap.get? a=aT o->(s.heap.push { cls:=.type "dict",data:=.dict #[] }).get? a=aT o:=λa o e=>Lj _ e;obtain ⟨R',st⟩:=R.alloc (s':={ s with heap:=s.heap.push { cls:=.type "dict",data:=.dict #[] } }) cx.fm hk rfl rfl (o:=.dict []) (a:=s.heap.objs.size) (bC (nO _))
  ⟨[],LA.DictOf.new _,.nil,Ly _⟩
 exact ⟨_,_,_,st,R',.ref (i:=m.heap.length) (by rw [<-R.hp.len,LU (nO _)];simp),h⟩
end
end
end Internal
end
section
namespace Internal
theorem lG:∀(a b:List Nat),slt a b=eQ↔a<b
 | [],[]=>⟨λh=>ff h,λh=>absurd h (Pc _)⟩
 | [],_::_=>⟨λ_=>List.nil_lt_cons ..,λ_=>rfl⟩
 | _::_,[]=>⟨λh=>ff h,λh=>absurd h (List.not_lt_nil _)⟩
 | a::x,b::y=>by
  rw [List.cons_lt_cons_iff];show (match decide (a<b),a==b with
   | true,_=>eQ
   | false,eQ=>slt x y
   | false,bY=>bY)=eQ↔_
  by_cases h:a<b
  ·rw [decide_eq_true h];exact ⟨λ_=>.inl h,λ_=>rfl⟩
  ·rw [decide_eq_false h];by_cases e:a=b
   ·subst e;rw [beq_self_eq_true];exact ⟨λq=>.inr ⟨rfl,(lG x y).mp q⟩,λq=>q.elim (λq=>absurd q h) λq=>(lG x y).mpr q.2⟩
   ·rw [beq_false_of_ne e];exact ⟨λq=>ff q,λq=>q.elim (λq=>absurd q h) λq=>absurd q.1 e⟩
theorem mF:∀{l:List (List Nat)},x∈rZ s l↔x=s\/x∈l
 | []=>⟨λh=>.inl (oF.mp h),λh=>h.elim (λh=>oF.mpr h) λh=>co h⟩
 | t::r=>by
  show x∈(match slt s t,s==t with
   | true,_=>s::t::r
   | false,eQ=>t::r
   | false,bY=>t::rZ s r)↔_
  cases h1:slt s t with
  | true=>simp
  | false=>
   cases h2:s==t with
   | true=>
    have:s=t:=by simpa using h2
    subst this;simp
   | false=>
    simp only [Lu,mF (l:=r)];constructor
    ·rintro (h | h | h)
     ·exact .inr (.inl h)
     ·exact .inl h
     ·exact .inr (.inr h)
    ·rintro (h | h | h)
     ·exact .inr (.inl h)
     ·exact .inl h
     ·exact .inr (.inr h)
theorem cZ:∀{l:List (List Nat)},x∈cM l↔x∈l
 | []=>RG
 | s::r=>by show x∈rZ s (cM r)↔_;rw [mF,cZ,Lu]
theorem uo:∀{l:List (List Nat)},l.Pairwise (· < ·)->(rZ s l).Pairwise (· < ·)
 | [],_=>Nw _ _
 | t::r,h=>by
  obtain ⟨h1,h2⟩:=Nd.mp h;show (match slt s t,s==t with
   | true,_=>s::t::r
   | false,eQ=>t::r
   | false,bY=>t::rZ s r).Pairwise (· < ·)
  cases e1:slt s t with
  | true=>
   have hst:=(lG s t).mp e1;exact Nd.mpr ⟨λx hx=>by
    rcases Lu.mp hx with rfl | hx
    ·exact hst
    ·exact Ri hst (h1 x hx),h⟩
  | false=>
   cases e2:s==t with
   | true=>exact h
   | false=>
    have hne:s≠t:=by simpa using e2
    have hle:¬ s<t:=λq=>by rw [(lG s t).mpr q] at e1;exact tf e1
    have hts:t<s:=by
     refine MN (Classical.em (t<s)) (λq=>?_) λq=>?_
     ·exact q
     ·exact absurd (List.le_antisymm (Q6.mp q) (Q6.mp hle)) hne
    refine Nd.mpr ⟨λx hx=>?_,uo h2⟩
    rcases mF.mp hx with rfl | hx
    ·exact hts
    ·exact h1 x hx
theorem iG:∀(l:List (List Nat)),(cM l).Pairwise (· < ·)
 | []=>.nil
 | s::r=>uo (iG r)
theorem yR:∀{l m:List (List Nat)},l.Pairwise (· < ·)->m.Pairwise (· < ·)->(∀x,x∈l↔x∈m)->l=m
 | [],[],_,_,_=>rfl
 | [],b::m,_,_,h=>by have:=(h b).mpr (IS ..);exact co this
 | a::l,[],_,_,h=>by have:=(h a).mp (IS ..);exact co this
 | a::l,b::m,hl,hm,h=>by
  obtain ⟨l1,l2⟩:=Nd.mp hl;obtain ⟨m1,m2⟩:=Nd.mp hm;have hab:a=b:=by
   refine MN (Lu.mp ((h a).mp (IS ..))) (λq=>?_) λq=>?_
   ·exact q
   ·rcases Lu.mp ((h b).mpr (IS ..)) with q' | q'
    ·exact q'.symm
    ·exact absurd (Ri (m1 a q) (l1 b q')) (Pc _)
  subst hab;congr 1;refine yR l2 m2 λx=>⟨λhx=>?_,λhx=>?_⟩
  ·refine MN (Lu.mp ((h x).mp (Lm _ hx))) (λq=>?_) λq=>?_
   ·subst q;exact absurd (l1 _ hx) (Pc _)
   ·exact q
  ·refine MN (Lu.mp ((h x).mpr (Lm _ hx))) (λq=>?_) λq=>?_
   ·subst q;exact absurd (m1 _ hx) (Pc _)
   ·exact q
end Internal
end
section
namespace Internal
open PySem PyProof.Rows
section
set_option maxRecDepth 100000
noncomputable abbrev gO (es:Array (Int × rW)) (ep:Nat) (t:SetTable):Obj:={ cls:=.type "set",dict:=none,data:=.set es ep t,slots:=#[] }
noncomputable abbrev cp (w:Ni):Bool:=w.params.followText "set-order"
theorem wK (t:SetTable)(j:Nat):(t.put j).1.led=t.led/\(t.put j).1.plain=t.plain:=by cases t;exact ⟨rfl,rfl⟩
theorem bv (t:SetTable)(n:Nat):(t.standIn n).led=t.led/\(t.standIn n).plain=bY:=by cases t;exact ⟨rfl,rfl⟩
theorem ll (t:SetTable)(n:Nat):(t.orStandIn n).led=t.led/\((t.orStandIn n).plain=eQ->t.plain=eQ):=by
 unfold SetTable.orStandIn
 split
 ·exact ⟨rfl,id⟩
 ·exact ⟨(bv t n).1,λh=>by rw [(bv t n).2] at h;exact ff h⟩
set_option tactic.hygienic true in
theorem sQ (t:SetTable)(es:Array (Int × rW))(h:Int)(x:rW):(layNew t es h x).2.1.led=t.led:=by
 unfold layNew
 split
 ·rename_i slot wd _;rw [(ll _ _).1,(wK t slot).1]
 ·exact (bv t _).1
theorem pE {t t':SetTable}(h:t.relaid hs w=aT (t',o)):t'.led=t.led/\t'.plain=t.plain:=by
 unfold SetTable.relaid SetTable.laid at h;simp only [Option.bind_eq_bind,LW,Option.pure_def,Option.some.injEq,PF.injEq] at h;obtain ⟨_,_,rfl,_⟩:=h;exact ⟨rfl,rfl⟩
set_option tactic.hygienic true in
theorem mG (t:SetTable)(es:Array (Int × rW))(n:Nat):(relayAll t es n).2.1.led=t.led/\((relayAll t es n).2.1.plain=eQ->t.plain=eQ):=by
 unfold relayAll
 split
 ·rename_i t' order h;obtain ⟨h1,h2⟩:=pE h;dsimp only
  split
  ·exact ⟨h1,λh=>by rw [<-h2];exact h⟩
  ·exact ⟨(bv t _).1,λh=>by rw [show _=bY from (bv t _).2] at h;exact ff h⟩
 ·exact ⟨(bv t _).1,λh=>by rw [show _=bY from (bv t _).2] at h;exact ff h⟩
noncomputable def gP (prog:M6)(w:Ni)(h:LA)(a:Lr)(ks:List Str):Prop:=
 ∃es ep t,h.get? a=aT (gO es ep t)/\t.fits es.size=eQ/\t.led=!cp w/\(es.size=0\/t.plain=bY)/\ElemsOf (Mz prog w) es.toList/\(es.toList.map (λe=>strOf e.2)).Perm ks/\ks.Nodup
noncomputable def jC (ks:List Str)(k:Str):List Str:=if k∈ks then ks else ks++[k]
theorem yS (ks:List Str)(k:Str):(jC ks k).length<=ks.length+1:=by unfold jC;split<;>simp
section
variable {s:Do}
theorem qN (h:ElemsOf (Mz prog w) l):∀e∈l,∃k t,e.2=.str k t:=λe he=>by
 obtain ⟨⟨k,hk,_⟩,_⟩:=h e he;obtain ⟨t,ht⟩:=rW.isStrOf_shape hk;exact ⟨k,t,ht⟩
theorem qO (h:ElemsOf (Mz prog w) l)(k:Str):(∃e∈l,(Mz prog w).is k e.2=eQ)↔k∈l.map (λe=>strOf e.2):=by
 constructor
 ·rintro ⟨e,he,hk⟩
  obtain ⟨t,ht⟩:=rW.isStrOf_shape hk;exact Mi.mpr ⟨e,he,by rw [ht];rfl⟩
 ·intro hk;refine e12 (Mi.mp hk) λe he hk=>?_;refine e21 (qN h e he) λx t ht=>?_;refine ⟨e,he,?_⟩;rw [ht] at hk ⊢;subst hk;exact strKind_is _ _ _ _
theorem uq (ho:s.heap.get? a=aT (gO es ep t)) :
  (s.heap.update a (Rm es' t')).get? a=aT (gO es' (ep+1) t'):=by
 have:=LZ (Rm es' t') ho (by rw [putSet_of es' t' rfl];rfl);rw [putSet_of es' t' rfl] at this;exact this
theorem oh {g:Bool->Sem Unit}(hg:∀(b:Bool) (s₁:Do) (Q':Unit->Do->Prop),Q' () s₁->IF (model prog w) A (g b) Q' E s₁)
  {es:Array (Int × rW)}{ep:Nat}{t:SetTable}(ho:s.heap.get? a=aT (gO es ep t)) {es1:Array (Int × rW)}{t2:SetTable}{ks:List Str}(hel1:ElemsOf (Mz prog w) es1.toList) (hb1:es1.size<scanBound) (hf2:t2.fits es1.size=eQ)
  (hled:t2.led=!cp w) (hpl:t2.plain=bY) (hp1:(es1.toList.map (λe=>strOf e.2)).Perm ks) (hn:ks.Nodup) {wasDummy:Bool}{R:Option Bool->Do->Prop}
  (h:∀h',L6 a s.heap h'->gP prog w h' a ks->R (aT eQ) { s with heap:=h' }) :
  IF (model prog w) A (do
    storeSet a es1 t2
    if (!wasDummy&&t2.tooFull)=eQ then do
      g (relayAll t2 es1 (OL es1.size)).2.2
      storeSet a (relayAll t2 es1 (OL es1.size)).1 (relayAll t2 es1 (OL es1.size)).2.1
      pure (aT eQ)
     else pure (aT eQ)) R E s:=by
 refine iS (wpAny_storeSet_of ho rfl ?_ (PK hb1));have ho1:=uq (s:=s) (es':=es1) (t':=t2) ho;have hsb1:=Mm s.heap a (Rm es1 t2)
 split
 ·have hp:=relayAll_perm t2 es1 (OL es1.size);have hfr:=relayAll_fits t2 es1 (OL es1.size);have hmk:=mG t2 es1 (OL es1.size);generalize relayAll t2 es1 (OL es1.size)=Rl at hp hfr hmk ⊢;obtain ⟨es2,t3,gave2⟩:=Rl;dsimp only at hp hfr hmk ⊢;have hsz:es2.size=es1.size:=by rw [<-LP,hp.length_eq,LP]
  refine iS (hg _ _ _ (iS (wpAny_storeSet_of ho1 rfl ?_ (PK (by rw [hsz];exact hb1)))));have ho2:=uq (s:={ s with heap:=s.heap.update a (Rm es1 t2) }) (es':=es2) (t':=t3) ho1;refine EQ (h _ (hsb1.trans (Mm _ a _)) ⟨es2,_,t3,ho2,hfr,hmk.1.trans hled,.inr ?_,hel1.perm hp,(hp.map _).trans hp1,hn⟩)
  cases q:t3.plain with
  | false=>rfl
  | true=>rw [hpl] at hmk;exact absurd (hmk.2 q) (by decide)
 ·exact EQ (h _ hsb1 ⟨es1,_,t2,ho1,hf2,hled,.inr hpl,hel1,hp1,hn⟩)
set_option tactic.hygienic true in
theorem IM (hS:gP prog w s.heap a ks)(hroom:ks.length+1<scanBound)
  (h:∀b h',L6 a s.heap h'->gP prog w h' a (jC ks k)->Q b { s with heap:=h' }):IF (model prog w) A (setAddHashed a (.str k tk) ((Mz prog w).hash k)) Q E s:=by
 obtain ⟨es,ep,t,ho,hf,hled,hpl,hel,hp,hn⟩:=hS;have hlen:es.size=ks.length:=by rw [<-hp.length_eq,tO,LP]
 have hb:es.size<scanBound:=by rw [hlen];exact n1 hroom (by simp +arith only)
 have hkey:(Mz prog w).is k (.str k tk)=eQ:=strKind_is _ _ _ _;unfold setAddHashed setAddHashedIn;refine Md (iS (Ow ho rfl hf ?_));dsimp only;rw [byScan_of (knd:=Mz prog w) (x:=.str k tk) rfl hb hel];simp only [↓reduceIte];unfold setAddByScan;refine iS (iS (OC (iS (wpAny_setScan_of hkey ho rfl hf hel ?_))))
 cases hr:List.findIdx? (λe=>(Mz prog w).is k e.2) es.toList with
 | some j=>
  dsimp only;obtain ⟨hj,hpj,_⟩:=List.findIdx?_eq_some_iff_getElem.mp hr;have hk:k∈ks:=hp.mem_iff.mp ((qO hel k).mp ⟨_,MC hj,hpj⟩);refine EQ (EQ ?_);have:=h bY s.heap (L6.refl a s.heap) (by rw [jC,if_pos hk];exact ⟨es,ep,t,ho,hf,hled,hpl,hel,hp,hn⟩)
  cases s;exact this
 | none=>
  have hk:k∉ks:=λq=>by
   refine e12 ((qO hel k).mpr (hp.mem_iff.mpr q)) λe he hpe=>?_;have:=List.findIdx?_eq_none_iff.mp hr e he;rw [hpe] at this;cases this
  have hgw:∀(b:Bool) {s₁:Do} {Q':Unit->Do->Prop},Q' () s₁->IF (model prog w) A (match b with | true=>rule "set.scan.the-table-gave-way" | false=>pure ()) Q' E s₁:=
   λb s₁ Q' hq=>by cases b<;>first | exact EQ hq | exact OC hq
  have hperm:=layNew_perm t es ((Mz prog w).hash k) (.str k tk);have hfits:=layNew_fits t es ((Mz prog w).hash k) (.str k tk);have hll:=sQ t es ((Mz prog w).hash k) (.str k tk);generalize layNew t es ((Mz prog w).hash k) (.str k tk)=L at hperm hfits hll ⊢;obtain ⟨es1,t1,wasDummy,gave⟩:=L;dsimp only at hperm hfits hll ⊢;rw [O8] at hperm;have hel1:ElemsOf (Mz prog w) es1.toList:=(hel.push hkey rfl).perm hperm;have hb1':es1.size<scanBound:=by rw [<-LP,hperm.length_eq,iN,LP,hlen];exact hroom
  have hp1:(es1.toList.map (λe=>strOf e.2)).Perm (ks++[k]):=(hperm.map _).trans (by rw [LK];exact hp.append_right _);have hn1:(ks++[k]).Nodup:=by
   rw [M7];exact ⟨hn,by simp,λx hx y hy=>by
    have:y=k:=by exact oF.mp hy
    subst this;intro q;subst q;exact hk hx⟩
  have hend:∀h',L6 a s.heap h'->gP prog w h' a (ks++[k])->Q eQ { s with heap:=h' }:=λh' hsb hS'=>h eQ h' hsb (by rw [jC,if_neg hk];exact hS');refine iS (hgw _ ?_)
  split
  ·refine iS ?_;rw [hashByValue_scannable 8 rfl];refine EQ ?_;refine oh (t2:={ t1 with plain:=false }) ?_ ho hel1 hb1' (SetTable.fits_plain_off hfits) (hll.trans hled) rfl hp1 hn1 ?_
   ·intro b s₁ Q' hq;cases b<;>first | exact EQ hq | exact OC hq
   ·intro h' hsb hS';dsimp only;exact EQ (hend h' hsb hS')
  ·rename_i hpf;refine iS (EQ ?_);simp only [↓reduceIte];refine oh ?_ ho hel1 hb1' hfits (hll.trans hled) (by simpa using hpf) hp1 hn1 ?_
   ·intro b s₁ Q' hq;cases b<;>first | exact EQ hq | exact OC hq
   ·intro h' hsb hS';dsimp only;exact EQ (hend h' hsb hS')
end
end
section
set_option maxRecDepth 100000
noncomputable def cu (ss:List Str):List Str:=ss.foldl jC []
set_option tactic.hygienic true in
theorem yT:x∈jC ks k↔x∈ks\/x=k:=by
 unfold jC
 split
 ·rename_i h;exact ⟨.inl,λq=>q.elim id λe=>e▸h⟩
 ·simp
theorem oi:∀{ss ks:List Str},x∈ss.foldl jC ks↔x∈ks\/x∈ss
 | [],ks=>by simp
 | s::r,ks=>by
  rw [List.foldl_cons,oi,yT,Lu,or_assoc]
theorem d8:x∈cu ss↔x∈ss:=by unfold cu;rw [oi];simp
theorem oj:∀(ss ks:List Str),(ss.foldl jC ks).length<=ks.length+ss.length
 | [],ks=>by simp
 | s::r,ks=>by
  rw [List.foldl_cons];have:=oj r (jC ks s);have:=yS ks s;simp only [MD];lia
section
theorem mH (x:gP prog w h S ks)(k:∀o,h.get? S=aT o->h'.get? S=aT o):gP prog w h' S ks:=by
 refine e32 x λes ep t ho r=>?_;exact ⟨es,ep,t,k _ ho,r⟩
theorem qP (W:WalksS prog w A.in1 I fp wr G n P Su)(S:Lr)(hSf:S∉fp)
  (ss:List Str) (hlen:ss.length=n) (hval:∀i v,P i v->∃x t,ss[i]?=aT x/\v=.str x t) (hb:n+1<scanBound) :
  ∀(k i:Nat) (s:Do),n-i=k->i<=n->Su i s->gP prog w s.heap S (cu (ss.take i))->
   (∀s',Moved (S::wr) G s s'->gP prog w s'.heap S (cu ss)->R (.ok (.ret .none)) s')->
   Ra (model prog w) A (.builtin "set.update.loop" ⟨[.ref S,.ref I],[]⟩) R s:=by
 have hSw:S∉wr:=λh=>hSf (W.sub _ h);have hsub:∀b∈wr,b∈S::wr:=λb hb=>Lm _ hb;intro k
 induction k with
 | zero=>
  intro i s hk hi hst hS hR;have hin:i=n:=Ou hi (Oj hk);subst hin;refine Ot PyProof.Rows.F.entry_set_update_loop ?_;rw [Ox N3 _];refine iS (W.done s _ _ hst λs' hm=>?_);rw [M0 (n1 (Lw hlen) (by simp +arith only))] at hS;exact EQ (hR s' (hm.mono hsub) (mH hS λo e=>hm.heap S _ hSw e))
 | succ k ih=>
  intro i s hk hi hst hS hR;have hlt:i<n:=Nat.lt_of_sub_eq_succ hk;refine Ot PyProof.Rows.F.entry_set_update_loop ?_;rw [Ox N3 _];refine iS (W.item i s _ _ hlt hst λv s' hP hst' hm=>?_);obtain ⟨x,t,hx,rfl⟩:=hval i v hP;have hS':=mH (h':=s'.heap) hS λo e=>hm.heap S _ hSw e;refine iS (Md ?_);unfold setAdd;refine Md (iS ((Mz prog w).pyHash (k:=x) (strKind_is _ _ _ _) ?_));have hroom:(cu (ss.take i)).length+1<scanBound:=IT (Ln (iF (oj (ss.take i) []) (iF (Lw (Nb _)) (iF (P9 i ss) (Lw hlen))))) hb;refine IM (s:={ s' with toks:=s'.toks+1 }) hS' hroom λb h' hsb hS2=>?_;have e:jC (cu (ss.take i)) x=cu (ss.take (i+1)):=by
   obtain ⟨hl,hx⟩:=By.mp hx;unfold cu;rw [List.take_succ_eq_append_getElem hl,List.foldl_append,hx];rfl
  rw [e] at hS2;refine EQ ⟨QL N3 _,ih (i+1) _ (by rw [Nat.sub_succ,hk];rfl) hlt (W.frame _ s' _ _ hst' (N8 _) λb hb o e=>?_) hS2 λs'' hm'' hS''=>?_⟩
  ·rw [hsb.2 b (λh:b=S=>hSf (by rw [<-h];exact hb))];exact e
  ·refine hR s'' (Moved.trans W.gtrans ((hm.mono hsub).then_heap (N8 _) λb o hb e=>?_) hm'') hS'';rw [hsb.2 b (λh:b=S=>hb (by rw [h];exact IS))];exact e
theorem IO (a:rW)
  (h:Q₁ (.ref s.heap.objs.size) { s with heap:=s.heap.push { cls:=.type "set",dict:=none,data:=.set #[] 0 (.fresh 0 0 (!cp w)) } }) :
  Ra (model prog w) A (.call (.builtin "set.__new__") ⟨[.type "set",a],[]⟩) (wants Q₁ E) s:=by
 refine Q2 ?_;show IF _ A.in1 (do checkBuiltinCall "set.__new__" ⟨[.type "set",a],[]⟩;again (.builtin "set.__new__" ⟨[.type "set",a],[]⟩)) _ _ s;refine iS (wpAny_of_eq (PySem.F.newCall_set_1 a) (EQ ⟨QL PySem.F.plain_set_new _,Ot PySem.F.entry_set_new ?_⟩));rw [Ox PySem.F.plain_set_new _];unfold Builtin.«set.__new__» Builtin.Frozenset.newClass;have hsub:=sub_set_self;obtain ⟨hp,g,d,tk,os⟩:=s
 wp_walk
 refine OM (EQ ?_);dsimp only;simp only [newObj];refine iS (wpAny_alloc (EQ ?_));exact EQ h
end
end
section
variable {A:MP}
theorem BR (r:StrsAre vs ss)(i:Nat)(v:rW)(h:vs[i]?=aT v):∃x t,ss[i]?=aT x/\v=.str x t:=by
 induction r generalizing i with
 | nil=>exact av h
 | cons x t r ih=>
  cases i with
  | zero=>exact ⟨x,t,rfl,(BY h).symm⟩
  | succ i=>exact ih i h
theorem mI (r:StrsAre vs ss):ss.length=vs.length:=by
 induction r with
 | nil=>rfl
 | cons x t r ih=>exact congrArg (·+1) ih
theorem sR (hh:A.handled=iD)(hl:s.heap.IsList l items)(hi:StrsAre items.toList ss)(hb:items.size+1<scanBound)(hSe:s.heap.get? S=aT (gO #[] 0 (.fresh 0 0 (!cp w))))
  (h:∀h' tk,gP prog w h' S (cu ss)->(∀b o,b≠S->s.heap.get? b=aT o->h'.get? b=aT o)->Q (.done (.ret .none)) { s with heap:=h',toks:=tk }) :
  IF (model prog w) A.in1 (Builtin.«set.__init__» ⟨[.ref S,.ref l],[]⟩) Q E s:=by
 obtain ⟨ol,hol,hcl,nl,hdl⟩:=id hl;obtain ⟨ocls,odict,odata,oslots⟩:=ol;simp only at hcl hdl;subst hcl;subst hdl;have hsls:=PySem.F.sub_list_set;have hslf:=PySem.F.sub_list_frozenset;have hne:(OA "list"==OA "dict")=bY:=by decide
 have hT:s.TypeIs (.ref S) "set":=⟨_,hSe,rfl⟩
 unfold Builtin.«set.__init__» noKeywords Builtin.Frozenset.updateFrom;generalize hPI:pyIter=PI
 wp_walk
 subst hPI;refine QD hl ?_;refine iS (wpAny_runValue ?_);have hlS:l<s.heap.objs.size:=Mu hol;have hSS:S<s.heap.objs.size:=Mu hSe;have hlneS:l≠S:=λq=>by
  rw [q,hSe] at hol;have:=congrArg OQ.cls (BY hol);simp at this
 have hh3:A.in1.in1.handled=iD:=by simp [hh]
 have hSf:S∉[s.heap.objs.size,l]:=by
  simp only [Lu,M1,or_false,not_or];exact ⟨Mn hSS,λq=>hlneS q.symm⟩
 have hk:∀b o,s.heap.get? b=aT o->(s.heap.push { cls:=.type "list_iterator",data:=.fields #[.ref l,.int 0 0] }).get? b=aT o:=λb o e=>Lj _ e;refine qP ((Walks.list hh3 _ l (Mn hlS) items).toS) S hSf ss (by rw [mI hi,LP]) (λi v hv=>BR hi i v (by rw [Mb];exact hv)) hb (items.size-0) 0 { s with heap:=s.heap.push { cls:=.type "list_iterator",data:=.fields #[.ref l,.int 0 0] } } (rfl) (Ly _)
  ⟨⟨_,LI _ rfl,rfl,rfl⟩,hl.push _⟩ ?hS0 ?hR
 case hS0=>exact ⟨#[],0,_,hk _ _ hSe,rfl,rfl,.inl rfl,λe he=>(by simp at he),QS.refl _,PL⟩
 case hR=>
  intro s' hm hS';obtain ⟨h',g',d',tk',os'⟩:=s';have eg:g'=s.gens:=hm.gens;have ed:d'=s.drawn:=hm.drawn;have eo:os'=s.os:=hm.os;subst eg;subst ed;subst eo;refine EQ ?_;refine EQ (h h' tk' hS' λb o hb e=>hm.heap b o ?_ (hk b o e));simp only [Lu,M1,or_false,not_or];exact ⟨hb,Mn (Mu e)⟩
set_option maxRecDepth 100000 in
set_option maxHeartbeats 3200000 in
theorem sS (hh:A.handled=iD)(hl:s.heap.IsList l items)(hi:StrsAre items.toList ss)(hb:items.size+1<scanBound)
  (h:∀h' tk,gP prog w h' s.heap.objs.size (cu ss)->(∀b o,s.heap.get? b=aT o->h'.get? b=aT o)->Q (.ref s.heap.objs.size) { s with heap:=h',toks:=tk }) :
  IF (model prog w) A (call (.type "set") [.ref l]) Q E s:=by
 refine e21 Nt.mro λc tl hmro=>?_;have hmade:=Nt.made;have hsub:=Nt.sub;refine wpAny_call (Q2 ?_);refine EQ ⟨Pw _ (by decide +kernel),Ot PySem.F.entry_type_call ?_⟩;rw [MP.under_plain (weight_type_call_type "set" [.ref l] []) rfl];have h1:=Nt.notType;have h2:=Nt.canCreate;have hct:=PySem.F.typeCall_set_1 (.ref l)
 repeat (any_goals (first | assumption | wp_step))
 refine codeAny_mono (IO (w:=w) (.ref l) (E:=E) (Q₁:=λobj s₁=>obj=.ref s.heap.objs.size/\s₁={ s with heap:=s.heap.push { cls:=.type "set",dict:=none,data:=.set #[] 0 (.fresh 0 0 (!cp w)) } }) ⟨rfl,rfl⟩) λr s₁ hr=>?_
 cases r with
 | error e=>exact hr
 | ok fl=>
  cases fl with
  | ret obj=>
   obtain ⟨rfl,rfl⟩:=hr;have hS:(s.heap.push { cls:=.type "set",dict:=none,data:=.set #[] 0 (.fresh 0 0 (!cp w)) }).get? s.heap.objs.size=aT (gO #[] 0 (.fresh 0 0 (!cp w))):=LI _ rfl;have hT:Do.TypeIs { s with heap:=s.heap.push { cls:=.type "set",dict:=none,data:=.set #[] 0 (.fresh 0 0 (!cp w)) } } (.ref s.heap.objs.size) "set":=⟨_,hS,rfl⟩
   have hli:=Nt.init.lookup;have hbi:=Nt.init.bind (.ref s.heap.objs.size)
   repeat (any_goals (first | assumption | wp_step))
   refine codeAny_mono (P8 (R:=wants (λr s₂=>r=.none/\∃h' tk,s₂={ s with heap:=h',toks:=tk }/\gP prog w h' s.heap.objs.size (cu ss)/\(∀b o,s.heap.get? b=aT o->h'.get? b=aT o)) E)
    Nt.init.plain PySem.F.entry_set_init (check_set_init_1 hT ?_)) λr₂ s₂ hr₂=>?_
   ·refine sR (by simp [hh]) (hl.push _) hi hb hS λh' tk hS' hk'=>⟨rfl,h',tk,rfl,hS',λb o e=>hk' b o (Mn (Mu e)) (Lj _ e)⟩
   ·cases r₂ with
    | error e=>exact hr₂
    | ok fl₂=>
     cases fl₂ with
     | ret r=>
      obtain ⟨rfl,h',tk,rfl,hS',hk'⟩:=hr₂
      repeat (any_goals (first | assumption | wp_step))
      exact h _ _ hS' hk'
     | _=>exact hr₂.elim
  | _=>exact hr.elim
end
section
set_option maxRecDepth 100000
theorem ax:Slot "set_iterator" "__next__" "set_iterator.__next__":=
 .of (owner:="set_iterator") (n:="__next__") (by rw [O4,NJ];kernel_rfl) (by decide +kernel) (by decide +kernel) (by decide +kernel)
  (by first | exact .inl (by decide +kernel) | exact .inr (by decide +kernel)) (by rw [Q7];kernel_rfl)
theorem fb:Slot "set_iterator" "__iter__" "set_iterator.__iter__":=
 .of (owner:="set_iterator") (n:="__iter__") (by rw [O4,NJ];kernel_rfl) (by decide +kernel) (by decide +kernel) (by decide +kernel)
  (by first | exact .inl (by decide +kernel) | exact .inr (by decide +kernel)) (by rw [Q7];kernel_rfl)
theorem bI:entryFor table "set_iterator.__next__"=aT Builtin.«set_iterator.__next__»:=entryFor_of_tree (by kernel_rfl)
theorem jf:entryFor table "set_iterator.__iter__"=aT Builtin.«dict_keyiterator.__iter__»:=
 entryFor_alias (id':="dict_keyiterator.__iter__") (by kernel_rfl) rfl (by decide +kernel) (by kernel_rfl)
theorem mJ:entryFor table "set.__iter__"=aT Builtin.«frozenset.__iter__»:=
 entryFor_alias (id':="frozenset.__iter__") (by kernel_rfl) rfl (by decide +kernel) (by kernel_rfl)
theorem iV:Manifest.owners.lookup (String.ofList ['r','o','t','a','r','e','t','i','_','t','e','s'].reverse)=aT Manifest.sig_set_iterator:=by kernel_rfl
theorem bR (a:rW):argsOk "set_iterator.__next__" ⟨[a],[]⟩:=by
 unfold argsOk;rw [signature?_of (id:="set_iterator.__next__") (n:=['_','_','t','x','e','n','_','_']) (o:=['r','o','t','a','r','e','t','i','_','t','e','s']) (by kernel_rfl) iV];kernel_rfl
theorem jD (a:rW):argsOk "set_iterator.__iter__" ⟨[a],[]⟩:=by
 unfold argsOk;rw [signature?_of (id:="set_iterator.__iter__") (n:=['_','_','r','e','t','i','_','_']) (o:=['r','o','t','a','r','e','t','i','_','t','e','s']) (by kernel_rfl) iV];kernel_rfl
end
section
set_option maxRecDepth 100000
noncomputable abbrev lp (first:rW) (i:Nat) (S:Lr) (n ep:Nat):Obj:={ cls:=.type "set_iterator",data:=.fields #[first,.int i 0,.ref S,.int n 0,.int ep 0] }
section
variable {prog:M6}{w:Ni}{s:Do}{es:Array (Int × rW)}
theorem yU {slot slot':Nat}{x:rW}(hI:s.heap.get? I=aT (lp (.int slot 0) i S es.size ep))(hS:s.heap.get? S=aT (gO es ep t))(hf:t.fits es.size=eQ)
  (hnext:∀(A:MP) (Q:Option (rW × Nat)->Do->Prop) (E:rW->Do->Prop),Q (aT (x,slot')) s->IF (model prog w) A (setNext S slot i ep) Q E s)
  (hQ:∀h',h'.get? I=aT (lp (.int slot' 0) (i+1) S es.size ep)->L6 I s.heap h'->Q (aT x) { s with heap:=h' }):IF (model prog w) A (pyNext (.ref I)) Q E s:=by
 have hT:s.TypeIs (.ref I) "set_iterator":=⟨_,hI,rfl⟩
 unfold pyNext;refine iS (P6 (NX (name:=NQ "__next__") hT ax (NL ax hT bI ?_ (bR _))));unfold Builtin.«set_iterator.__next__»;refine iS (EQ ?_);refine iS (Qt hI rfl ?_);dsimp only;refine iS (OG hS rfl hf ?_);rw [if_neg (by simp)];refine iS ?_;simp only [NY];refine hnext _ _ _ ?_;refine iS (Od hI rfl (by simp) ?_);have hI1:(s.heap.update I (NT (·.setIfInBounds 0 (rawInt slot')))).get? I=aT (lp (.int slot' 0) i S es.size ep):=LZ _ hI rfl;refine iS (Od (s:={ s with heap:=s.heap.update I (NT (·.setIfInBounds 0 (rawInt slot'))) }) hI1 rfl (by simp) (EQ ⟨x,rfl,EQ (hQ _ ?_ ((Mm ..).trans (Mm ..)))⟩));exact LZ _ hI1 rfl
theorem yV (hh:A.handled=iD)(hI:s.heap.get? I=aT (lp first i S es.size ep))(hk:k<5)(hQ:∀h',QE I s.heap h'->Q iD { s with heap:=h' }) :
  IF (model prog w) A.in1 (do
   setField (.ref I) k M5
   let e <-newExc (OA "StopIteration") []
   raiseNew e:Sem PySem.Fin) (λfin s'=>∃v,fin=Fin.done (Flow.ret v)/\IF (model prog w) A (pure (aT v)) Q E s') (λe s'=>
   IF (model prog w) A (do
     let b <-isInstance e (OA "StopIteration")
     if b=eQ then pure iD else throw e) Q E s') s:=by
 refine iS (Od hI rfl (by simpa using hk) ?_);refine iS ?_;simp only [newExc,newTuple];refine iS (MW ?_ (by size_fits));refine iS (m:=firstArgMember _ _) (wpAny_of_eq (a:=M5) (by first | rfl | (simp only [firstArgMember];rfl)) ?_);refine MW ?_ (by size_fits);refine wpAny_raiseNew_none (show A.in1.handled=iD from hh) ?_;refine iS (wpAny_isInstance (T:="StopIteration") (b:=true) ⟨_,LI _ rfl,rfl⟩ isSubtype_stop ?_);exact EQ (hQ _ (((Mm ..).extBut.push _).push _))
theorem yW {slot:Nat}(hh:A.handled=iD)(hI:s.heap.get? I=aT (lp (.int slot 0) i S es.size ep))(hS:s.heap.get? S=aT (gO es ep t))(hf:t.fits es.size=eQ)
  (hnext:∀(A:MP) (Q:Option (rW × Nat)->Do->Prop) (E:rW->Do->Prop),Q iD s->IF (model prog w) A (setNext S slot i ep) Q E s)
  (hQ:∀h',QE I s.heap h'->Q iD { s with heap:=h' }):IF (model prog w) A (pyNext (.ref I)) Q E s:=by
 have hT:s.TypeIs (.ref I) "set_iterator":=⟨_,hI,rfl⟩
 unfold pyNext;refine iS (P6 (NX (name:=NQ "__next__") hT ax (NL ax hT bI ?_ (bR _))));unfold Builtin.«set_iterator.__next__»;refine iS (EQ ?_);refine iS (Qt hI rfl ?_);dsimp only;refine iS (OG hS rfl hf ?_);rw [if_neg (by simp)];refine iS ?_;simp only [NY];refine hnext _ _ _ ?_;exact yV hh hI (by decide) hQ
theorem sU {T:Lr}{places:List rW}{k:Nat}{h:Int}{x:rW}{n':Nat}(hI:s.heap.get? I=aT (lp (.ref T) i S es.size ep))(hS:s.heap.get? S=aT (gO es ep t))(hf:t.fits es.size=eQ)
  (hTT:s.heap.get? T=aT { cls:=.type "tuple",dict:=none,data:=.seq places.toArray n',slots:=#[] }) (hp:places[i]?=aT (.int k 0)) (hx:es[k]?=aT (h,x))
  (hQ:∀h',h'.get? I=aT (lp (.ref T) (i+1) S es.size ep)->L6 I s.heap h'->Q (aT x) { s with heap:=h' }):IF (model prog w) A (pyNext (.ref I)) Q E s:=by
 have hT:s.TypeIs (.ref I) "set_iterator":=⟨_,hI,rfl⟩
 unfold pyNext;refine iS (P6 (NX (name:=NQ "__next__") hT ax (NL ax hT bI ?_ (bR _))));unfold Builtin.«set_iterator.__next__»;refine iS (EQ ?_);refine iS (Qt hI rfl ?_);dsimp only;refine iS (OG hS rfl hf ?_);rw [if_neg (by simp)];refine iS (wpAny_seqItems hTT rfl ?_);dsimp only;have hp':places.toArray[(i:Int).toNat]?=aT (.int k 0):=by simpa using hp
 rw [hp'];unfold setNextDrawn;refine iS (iS (Ow hS rfl hf ?_));dsimp only;rw [if_neg (by simp)];simp only [NY,hx];refine EQ ?_;refine iS (Od hI rfl (by simp) (EQ ⟨x,rfl,EQ (hQ _ ?_ (Mm ..))⟩));exact LZ _ hI rfl
theorem sV {T:Lr}{places:List rW}{n':Nat}(hh:A.handled=iD)(hI:s.heap.get? I=aT (lp (.ref T) i S es.size ep))(hS:s.heap.get? S=aT (gO es ep t))(hf:t.fits es.size=eQ)
  (hTT:s.heap.get? T=aT { cls:=.type "tuple",dict:=none,data:=.seq places.toArray n',slots:=#[] }) (hp:places[i]?=iD)
  (hQ:∀h',QE I s.heap h'->Q iD { s with heap:=h' }):IF (model prog w) A (pyNext (.ref I)) Q E s:=by
 have hT:s.TypeIs (.ref I) "set_iterator":=⟨_,hI,rfl⟩
 unfold pyNext;refine iS (P6 (NX (name:=NQ "__next__") hT ax (NL ax hT bI ?_ (bR _))));unfold Builtin.«set_iterator.__next__»;refine iS (EQ ?_);refine iS (Qt hI rfl ?_);dsimp only;refine iS (OG hS rfl hf ?_);rw [if_neg (by simp)];refine iS (wpAny_seqItems hTT rfl ?_);dsimp only;have hp':places.toArray[(i:Int).toNat]?=iD:=by simpa using hp
 rw [hp'];refine iS (Od hI rfl (by simp) ?_);have hI1:(s.heap.update I (NT (·.setIfInBounds 0 (rawInt 0)))).get? I=aT (lp (.int 0 0) i S es.size ep):=LZ _ hI rfl;exact yV (s:={ s with heap:=s.heap.update I (NT (·.setIfInBounds 0 (rawInt 0))) }) hh hI1 (by decide) λh' he=>hQ h' λb o hb e=>he b o hb (((Mm ..).2 b hb).trans e)
end
end
section
set_option maxRecDepth 100000
section
theorem BS (hn:n≠0)(h:∀k d,k<n->Q k { s with drawn:=d }):IF M A (choose src n) Q E s:=λ_ _ _=>by
 show Sem.wp _ _ (.choose src n _) _ _ _ _;rw [Sem.wp_choose];exact ⟨hn,h _ _ (RC _ (Oe hn))⟩
theorem jg:∀{xs:List α}{i:Nat}{x:α},xs[i]?=aT x->(x::xs.eraseIdx i).Perm xs
 | [],_,_,h=>by simp at h
 | a::r,0,x,h=>by simp at h;subst h;simp
 | a::r,i+1,x,h=>by
  simp at h;have:=jg h;simp only [List.eraseIdx_cons_succ];exact (QS.swap a x _).trans (this.cons a)
theorem mK:∀(n:Nat) (xs:List α) (s:Do) {Q:List α->Do->Prop},xs.length=n->(∀ys d,ys.Perm xs->Q ys { s with drawn:=d })->IF M A (drawOrder n xs) Q E s
 | 0,[],s,Q,_,h=>EQ (h [] s.drawn (.refl _))
 | 0,_::_,_,_,hl,_=>by cases hl
 | n+1,[],_,_,hl,_=>by cases hl
 | n+1,x::xs,s,Q,hl,h=>by
  refine iS (BS (by simp) λk d hk=>?_);have hy:=Ls hk;simp only [hy];refine iS (mK n _ _ ?_ λys d' hp=>EQ ?_)
  ·rw [List.length_eraseIdx_of_lt hk];simp at hl ⊢;exact hl
  ·exact h _ d' ((hp.cons _).trans (jg hy))
theorem ur (next:Nat->Nat):∀(fuel k:Nat) (left:List α) (out:Array α),left.length=fuel->(pickOrder.go next fuel k left out).toList.Perm (out.toList++left)
 | 0,k,[],out,_=>by rw [LJ];exact .refl _
 | 0,k,_::_,out,h=>by cases h
 | n+1,k,left,out,h=>by
  show (match left[next k % left.length]? with
   | some x=>pickOrder.go next n (k+1) (left.eraseIdx (next k % left.length)) (out.push x)
   | none=>out).toList.Perm _
  have hlt:next k % left.length<left.length:=RC _ (n1 (Lw h.symm) (by simp +arith only))
  have hy:=Ls hlt;rw [hy];refine (ur next n (k+1) _ _ (by rw [List.length_eraseIdx_of_lt hlt,h];rfl)).trans ?_;rw [O8,DO];exact (jg hy).append_left _
theorem om (next:Nat->Nat)(xs:Array α):(pickOrder next xs).toList.Perm xs.toList:=by
 have:=ur next xs.size 0 xs.toList #[] (by exact rfl)
 simpa [pickOrder] using this
theorem yX (hI:s.heap.get? I=aT (lp first i S n ep))(h:Q (.ref I) s):IF (model prog w) A (pyIter (.ref I)) Q E s:=by
 have hT:s.TypeIs (.ref I) "set_iterator":=⟨_,hI,rfl⟩
 refine wpAny_pyIter_slot hT fb (NL fb hT jf ?_ (jD _));exact EQ ⟨_,rfl,"set_iterator",_,hT,ax.lookup,h⟩
theorem mL (hs:L6 I s.heap h'):Moved [I] (λa b=>b=a) s { s with heap:=h' }:=⟨λb o hb e=>(hs.2 b (by exact λq=>hb (oF.mpr q))).trans e,rfl,rfl,rfl,nO _⟩
theorem oo (hs:QE I s.heap h'):Moved [I] (λa b=>b=a) s { s with heap:=h' }:=⟨λb o hb e=>hs b o (by exact λq=>hb (oF.mpr q)) e,rfl,rfl,rfl,nO _⟩
theorem qQ {I S:Lr}{es:Array (Int × rW)}{ep:Nat}{t:SetTable}{vs:List rW}{sl:Nat->Nat}(hh:A.handled=iD)(hIS:I≠S)(hf:t.fits es.size=eQ)(hlen:vs.length=es.size)
  (hn:∀(s:Do),s.heap.get? S=aT (gO es ep t)->∀i v,vs[i]?=aT v->∀(A:MP) (Q:Option (rW × Nat)->Do->Prop) (E:rW->Do->Prop),Q (aT (v,sl (i+1))) s->IF (model prog w) A (setNext S (sl i) i ep) Q E s)
  (hd:∀(s:Do),s.heap.get? S=aT (gO es ep t)->∀(A:MP) (Q:Option (rW × Nat)->Do->Prop) (E:rW->Do->Prop),Q iD s->IF (model prog w) A (setNext S (sl vs.length) vs.length ep) Q E s) :
  WalksS prog w A I [I,S] [I] (λa b=>b=a) vs.length (λi v=>vs[i]?=aT v) (λi s=>s.heap.get? I=aT (lp (.int (sl i) 0) i S es.size ep)/\s.heap.get? S=aT (gO es ep t)) where
 sub:=λb hb=>by simp at hb;subst hb;simp
 grefl:=λ_=>rfl
 gtrans:=λ_ _ _ h1 h2=>h2.trans h1
 frame:=λi s h' tk st _ hk=>⟨hk I (by exact IS ..) _ st.1,hk S (by exact Lm _ (IS ..)) _ st.2⟩
 item:=λi s Q E hi st hQ=>by
  have hv:=Ls hi;exact yU st.1 st.2 hf (hn s st.2 i _ hv) λh' hI' hs=>hQ _ _ hv ⟨hI',(hs.2 S (Ol hIS)).trans st.2⟩ (mL hs)
 done:=λs Q E st hQ=>yW hh st.1 st.2 hf (hd s st.2) λh' he=>hQ _ (oo he)
 self:=λi s Q E st hQ=>yX st.1 hQ
theorem sW {es:Array (Int × rW)}{t:SetTable}{vs:List rW}{ks:List Nat}(hh:A.handled=iD)(hIS:I≠S)(hIT:I≠T)(hf:t.fits es.size=eQ)(hlen:ks.length=vs.length)
  (hn:∀(i:Nat) (v:rW),vs[i]?=aT v->∃(k:Nat) (h:Int),ks[i]?=aT k/\es[k]?=aT (h,v)) :
  WalksS prog w A I [I,S,T] [I] (λa b=>b=a) vs.length (λi v=>vs[i]?=aT v) (λi s=>s.heap.get? I=aT (lp (.ref T) i S es.size ep)/\s.heap.get? S=aT (gO es ep t)/\
   s.heap.get? T=aT { cls:=.type "tuple",dict:=none,data:=.seq (ks.map (λ(k:Nat)=>rawInt k)).toArray n',slots:=#[] }) where
 sub:=λb hb=>by simp at hb;subst hb;simp
 grefl:=λ_=>rfl
 gtrans:=λ_ _ _ h1 h2=>h2.trans h1
 frame:=λi s h' tk st _ hk=>⟨hk I (by exact IS ..) _ st.1,hk S (by exact Lm _ (IS ..)) _ st.2.1,hk T (by simp) _ st.2.2⟩
 item:=λi s Q E hi st hQ=>by
  have hv:=Ls hi;refine e22 (hn i _ hv) λk h hk hx=>?_;exact sU (k:=k) st.1 st.2.1 hf st.2.2 (by rw [LG,hk];rfl) hx λh' hI' hs=>hQ _ _ hv ⟨hI',(hs.2 S (Ol hIS)).trans st.2.1,(hs.2 T (Ol hIT)).trans st.2.2⟩ (mL hs)
 done:=λs Q E st hQ=>sV hh st.1 st.2.1 hf st.2.2 (by rw [LG,M4 (n1 (Lw hlen) (by simp +arith only))];rfl) λh' he=>hQ _ (oo he)
 self:=λi s Q E st hQ=>yX st.1 hQ
end
end
section
set_option backward.match.sparseCases true
set_option maxRecDepth 100000
section
theorem oq (hb:cp w=eQ)(hS:s.heap.get? S=aT (gO es ep t))(hf:t.fits es.size=eQ)
  (h:Q (((pickOrder (w.params.setOrder S ep) es)[i]?).map λe=>(e.2,slot)) s):IF (model prog w) A (setNext S slot i ep) Q E s:=by
 unfold setNext;refine iS (Ow hS rfl hf ?_);dsimp only;unfold setsByText;refine iS (iS (OM (EQ ?_)));show IF _ _ (if cp w=eQ then _ else _) _ _ _;rw [hb,if_pos rfl];rw [if_neg (by simp)];unfold setWalk;refine iS (iS (Ow hS rfl hf ?_));dsimp only;unfold setsByText;refine iS (iS (OM (EQ ?_)));show IF _ _ (if cp w=eQ then _ else _) _ _ _;rw [hb,if_pos rfl];refine iS (OM (EQ (EQ ?_)));exact h
theorem qR (hb:cp w=bY)(hS:s.heap.get? S=aT (gO es ep t))(hf:t.fits es.size=eQ)(hl:t.led=eQ)(h1:es.size<=1)
  (h:Q (match es[ON t.place slot]?,t.place[ON t.place slot]? with
   | some (_,x),aT j=>aT (x,j+1)
   | _,_=>iD) s):IF (model prog w) A (setNext S slot i ep) Q E s:=by
 unfold setNext;refine iS (Ow hS rfl hf ?_);unfold setsByText;refine iS (iS (OM (EQ ?_)));show IF _ _ (if cp w=eQ then _ else _) _ _ _;rw [hb,if_neg (by decide)];show IF _ _ (if (!t.plain&&decide (es.size > 1))=eQ then _ else _) _ _ _;rw [if_neg (by simp;intro _;exact h1)];refine iS ?_;show IF _ _ (if (!t.led&&!es.isEmpty)=eQ then _ else _) _ _ _;rw [if_neg (by rw [hl];simp)];exact EQ (EQ h)
theorem ot (j slot:Nat):ON #[j] slot=if j<slot then 1 else 0:=by
 unfold ON;unfold QF;simp
 split
 ·unfold QF;rfl
 ·unfold QF;rfl
theorem BU (h:ElemsOf (Mz prog w) l):∀v∈l.map (·.2),∃x t,v=.str x t:=λv hv=>by
 obtain ⟨e,he,rfl⟩:=Mi.mp hv;refine e21 (qN h e he) λk t e=>?_;exact ⟨k,t,e⟩
theorem FT (hS:gP prog w s.heap S ks)(hz:ks.length<scanBound)
  (h:∀(I:Lr) (vs:List rW) (ss:List Str) (h':LA) d,StrsAre vs ss->ss.Perm ks->(∀b o,s.heap.get? b=aT o->h'.get? b=aT o)->s.heap.get? I=iD->
   (∀A:MP,A.handled=iD->∃fp St,WalksS prog w A I fp [I] (λa b=>b=a) vs.length (λi v=>vs[i]?=aT v) St/\St 0 { s with heap:=h',drawn:=d }/\(∀b∈fp,b=S\/s.heap.get? b=iD)/\I∈fp)->
   Q (.ref I) { s with heap:=h',drawn:=d }):IF (model prog w) A (pyIter (.ref S)) Q E s:=by
 obtain ⟨es,ep,t,ho,hf,hled,hpl,hel,hp,hn⟩:=hS;have hT:s.TypeIs (.ref S) "set":=⟨_,ho,rfl⟩
 have hlen:es.size=ks.length:=by rw [<-hp.length_eq,tO,LP]
 have hS0:S<s.heap.objs.size:=Mu ho;have key:∀vs:List rW,vs.Perm (es.toList.map (·.2))->StrsAre vs (vs.map strOf)/\(vs.map strOf).Perm ks:=λvs hv=>
  ⟨strsAre_map vs λv hm=>BU hel v (hv.mem_iff.mp hm),(hv.map strOf).trans (by rw [List.map_map];exact hp)⟩
 refine wpAny_pyIter_slot hT PySem.F.slot_set_iter (NL PySem.F.slot_set_iter hT mJ ?_ (PySem.F.args_set_iter_1 _));unfold Builtin.«frozenset.__iter__» Builtin.Frozenset.slot0 slotArgs;simp only [List.isEmpty_nil,Bool.not_true,Qr,↓reduceIte,bind_assoc,Q3,bne_self_eq_false];unfold Builtin.Frozenset.addrOf Builtin.Frozenset.sizeOf;refine iS (EQ ?_)
 try dsimp only
 refine iS (EQ ?_);refine iS (iS (OG ho rfl hf (EQ ?_)));unfold setDrawn;refine iS (iS (Ow ho rfl hf ?_));unfold setsByText;refine iS (iS (OM (EQ ?_)));refine EQ ?_;show IF _ _ (if (!cp w&&(!t.plain&&decide (es.size > 1)))=eQ then _ else _) _ _ _;have stay:∀(o:OQ) (h₁:LA),(∀b ob,s.heap.get? b=aT ob->h₁.get? b=aT ob)->∀b ob,s.heap.get? b=aT ob->(h₁.push o).get? b=aT ob:=λo h₁ k b ob e=>Lj _ (k b ob e);have nosz:∀a,s.heap.objs.size<=a->s.heap.get? a=iD:=λa ha=>by
  cases e:s.heap.get? a with
  | none=>rfl
  | some o=>exact absurd (Mu e) (Oz.mpr ha)
 by_cases hd:(!cp w&&(!t.plain&&decide (es.size > 1)))=eQ
 ·rw [if_pos hd];refine iS (mK es.size (Nr es.size) s (by simp) λps d hps=>?_);have hpl:ps.length=es.size:=by rw [hps.length_eq];simp
  refine iS (wpAny_newTuple ?_ (by rw [tO,hpl,hlen];exact PK hz));have k1:∀b ob,s.heap.get? b=aT ob->(s.heap.push { cls:=.type "tuple",data:=.seq (ps.map (λ(i:Nat)=>rawInt i)).toArray }).get? b=aT ob:=λb ob e=>Lj _ e;refine iS (wpAny_setEpoch_of (s:={ s with heap:=s.heap.push { cls:=.type "tuple",data:=.seq (ps.map (λ(i:Nat)=>rawInt i)).toArray },drawn:=d }) (k1 _ _ ho) rfl hf ?_);refine iS (MW ?_);have hsz:(s.heap.push { cls:=.type "tuple",data:=.seq (ps.map (λ(i:Nat)=>rawInt i)).toArray }).objs.size=s.heap.objs.size+1:=PM ..;have hps':∀k∈ps,k<es.size:=λk hk=>by simpa using hps.mem_iff.mp hk
  have hvp:(ps.map (λk=>(es.toList.map (·.2)).getD k .none)).Perm (es.toList.map (·.2)):=by
   have e1:(Nr es.size).map (λk=>(es.toList.map (·.2)).getD k .none)=es.toList.map (·.2):=by
    apply QG;intro i;rw [LG];by_cases hi:i<es.size
    ·rw [List.getElem?_range hi];simp [List.getD,hi]
    ·rw [M4 (by simpa using hi),M4 (by simpa using hi)];rfl
   have:=hps.map (λk=>(es.toList.map (·.2)).getD k .none)
   rwa [e1] at this
  obtain ⟨kv1,kv2⟩:=key _ hvp;have hI:∀(o:OQ),o.isFreed=bY->((s.heap.push { cls:=.type "tuple",data:=.seq (ps.map (λ(i:Nat)=>rawInt i)).toArray }).push o).get? (s.heap.objs.size+1)=aT o:=λo hf=>by rw [<-hsz];exact LI _ hf
  refine EQ ⟨_,rfl,"set_iterator",_,⟨_,LI _ rfl,rfl⟩,ax.lookup,?_⟩;rw [hsz];refine h (s.heap.objs.size+1) _ _ _ d kv1 kv2 (stay _ _ k1) (by
   cases e:s.heap.get? (s.heap.objs.size+1) with
   | none=>rfl
   | some o=>exact absurd (Mu e) (Oz.mpr (N8 _))) λA hh=>⟨_,_,sW (I:=s.heap.objs.size+1) (S:=S) (T:=s.heap.objs.size) (es:=es) (ep:=ep) (t:=t) (n':=0) (ks:=ps) hh (LY (PN hS0)) (QR _) hf (by simp) λi v hv=>?_,
    ⟨hI _ rfl,Lj _ (k1 _ _ ho),Lj _ (LI _ rfl)⟩,?_,by simp⟩
  ·rw [LG] at hv
   cases hk:ps[i]? with
   | none=>rw [hk] at hv;cases hv
   | some k=>
    rw [hk] at hv;have hlt:=hps' k (Lo hk);have hv:(es.toList.map (·.2)).getD k .none=v:=BY hv;refine ⟨k,es[k].1,rfl,?_⟩;rw [Li hlt];simp [List.getD,hlt] at hv;rw [<-hv]
  ·intro b hb;simp at hb
   rcases hb with rfl | rfl | rfl
   ·exact .inr (nosz _ (N8 _))
   ·exact .inl rfl
   ·exact .inr (nosz _ (nO _))
 ·rw [if_neg hd];refine iS (EQ ?_);refine iS (wpAny_setEpoch_of ho rfl hf ?_);refine iS (MW ?_);refine EQ ⟨_,rfl,"set_iterator",_,⟨_,LI _ rfl,rfl⟩,ax.lookup,?_⟩;have hI0:s.heap.get? s.heap.objs.size=iD:=by
   cases e:s.heap.get? s.heap.objs.size with
   | none=>rfl
   | some o=>exact absurd (Mu e) (N7 _)
  have hfp:∀b∈[s.heap.objs.size,S],b=S\/s.heap.get? b=iD:=λb hb=>by
   simp at hb
   rcases hb with rfl | rfl
   ·exact .inr hI0
   ·exact .inl rfl
  cases hb:cp w with
  | true=>
   have hvp:((pickOrder (w.params.setOrder S ep) es).toList.map (·.2)).Perm (es.toList.map (·.2)):=(om _ es).map _;refine e02 (key _ hvp) λkv1 kv2=>?_;refine h s.heap.objs.size _ _ _ s.drawn kv1 kv2 (stay _ _ λb ob e=>e) hI0 λA hh=>⟨_,_,qQ (I:=s.heap.objs.size) (S:=S) (es:=es) (ep:=ep) (t:=t) (sl:=λ_=>0) hh (LY hS0) hf (by rw [tO,(om _ es).length_eq];simp) (λs' hs' i v hv A Q E hq=>oq hb hs' hf ?_) (λs' hs' A Q E hq=>oq hb hs' hf ?_),
    ⟨LI _ rfl,Lj _ ho⟩,hfp,by simp⟩
   ·rw [LG,Mb] at hv
    cases he:(pickOrder (w.params.setOrder S ep) es)[i]? with
    | none=>rw [he] at hv;cases hv
    | some e=>rw [he] at hv;cases hv;exact hq
   ·rw [tO,LP,OV (nO _)];exact hq
  | false=>
   have hl1:t.led=eQ:=by rw [hled,hb];rfl
   have hsz1:es.size<=1:=by
    rw [hb] at hd;refine hpl.elim (λq=>?_) λq=>?_
    ·exact n1 (Lw q) (by simp +arith only)
    ·rw [q] at hd;simp at hd;exact hd
   have hpsz:t.place.size=es.size:=by
    simp only [SetTable.fits,Ll,beq_iff_eq] at hf;exact hf.1
   refine e02 (key (es.toList.map (·.2)) (.refl _)) λkv1 kv2=>?_;refine h s.heap.objs.size _ _ _ s.drawn kv1 kv2 (stay _ _ λb ob e=>e) hI0 λA hh=>⟨_,_,qQ (I:=s.heap.objs.size) (S:=S) (es:=es) (ep:=ep) (t:=t) (sl:=λi=>if i=0 then 0 else t.place.getD 0 0+1) hh (LY hS0) hf (by exact tO ..) (λs' hs' i v hv A Q E hq=>qR hb hs' hf hl1 hsz1 ?_) (λs' hs' A Q E hq=>qR hb hs' hf hl1 hsz1 ?_),
    ⟨LI _ rfl,Lj _ ho⟩,hfp,by simp⟩
   ·rw [LG,Mb] at hv;have hi:i=0:=by
     refine MN (OU i es.size) (λq=>?_) λq=>?_
     ·lia
     ·rw [OV q] at hv;exact av hv
    subst hi;have h1:es.size=1:=by
     refine MN (OU 0 es.size) (λq=>?_) λq=>?_
     ·lia
     ·rw [OV q] at hv;exact av hv
    obtain ⟨j,hj⟩:∃j,t.place=#[j]:=Array.size_eq_one_iff.mp (by rw [hpsz,h1]);rw [hj,ot];simp only [if_true,N0,if_false]
    cases he:es[0]? with
    | none=>rw [he] at hv;cases hv
    | some e=>
     rw [he] at hv;cases hv;have hj':t.place.getD 0 0=j:=by rw [hj];rfl
     simp only [Nat.add_eq_zero_iff,Nat.one_ne_zero,and_false,if_false,hj'] at hq;exact hq
   ·have e0:∀k,es.size<=k->es[k]?=iD:=λk hk=>OV hk
    rcases Nat.eq_zero_or_pos es.size with q | q
    ·rw [e0 _ (n1 (Lw q) (by simp +arith only))];exact hq
    ·have h1:es.size=1:=by lia
     obtain ⟨j,hj⟩:∃j,t.place=#[j]:=Array.size_eq_one_iff.mp (by rw [hpsz,h1]);have hj':t.place.getD 0 0=j:=by rw [hj];rfl
     rw [hj,ot,hj.symm,hj'];have hvl:(es.toList.map (λx=>x.2)).length=1:=by (rw [tO];exact h1)
     rw [hvl];simp only [Nat.one_ne_zero,if_false,MF,if_true];rw [e0 _ (hsz1)];exact hq
end
end
open PyProof.Rows renaming wpS -> wpM
section
variable {prog:M6}{w:Ni}{A:MP}{E:rW->Do->Prop}{s:Do}{κ:KeyKind}
noncomputable def gal:Bool->Keyed->Array Keyed->Nat->Nat->Nat->StateT SortSt Sem (Option Nat):=sortPriv% PySem.Builtin.gallop
noncomputable def kof (κ:KeyKind)(p:Keyed):κ.α:=(κ.keyOf p.1).getD κ.dflt
noncomputable def aG (κ:KeyKind)(p:Keyed):Prop:=∃a,κ.keyOf p.1=aT a
theorem aG.is {p:Keyed}(h:aG κ p):κ.keyOf p.1=aT (kof κ p):=by
 refine e11 h λa e=>?_;unfold kof;rw [e];rfl
theorem BV (hO:κ.OneLt){st:SortSt}{x y:Keyed}{Q:Option Bool->SortSt->Prop}(hk:kindOf st=oneType')(hx:aG κ x)(hy:aG κ y)(h:Q (aT (κ.blt (kof κ x) (kof κ y))) st):wpM (model prog w) A E s (lt' x y) Q st:=by
 rw [lt'_eq];refine Lz (Qn ?_);rw [hk,keyLt'_oneType];exact Lz (QT (P6 (hO prog w A _ s _ _ _ _ hx.is hy.is ⟨rfl,LD h⟩)))
theorem bw {st:SortSt}{arr:Array Keyed}{i:Nat}{p:Keyed}{Q:Keyed->SortSt->Prop}(e:arr[i]?=aT p)(h:Q p st):wpM (model prog w) A E s (elem' arr i) Q st:=by
 rw [elem'_eq,e];exact LD h
theorem IP (hO:κ.OneLt){left:Bool}{key x:Keyed}{arr:Array Keyed}{i:Nat}{st:SortSt}{Q:Option Bool->SortSt->Prop}{b:Bool}(hk:kindOf st=oneType')(hkey:aG κ key)(e:arr[i]?=aT x)(hx:aG κ x)
  (hb:b=(if left=eQ then κ.blt (kof κ x) (kof κ key) else !κ.blt (kof κ key) (kof κ x))) (h:Q (aT b) st) :
  wpM (model prog w) A E s (elem' arr i >>= λx=>if left=eQ then lt' x key else lt' key x >>= λr=>pure (r.map λx=>!x)) Q st:=by
 refine Lz (bw e ?_);subst hb
 cases left with
 | true=>exact BV hO hk hx hkey h
 | false=>exact Lz (BV hO hk hkey hx (LD h))
structure G3 (p:Nat->Bool)(n x lo hi:Nat):Prop where
 le:lo<=hi
 top:hi<=n
 t:hi+x<=n+lo
 yes:∀i,i<lo->p i=eQ
 no:∀i,hi<=i->i<n->p i=bY
section
variable {p:Nat->Bool}{n x lo hi l o m:Nat}
theorem Kz (h:¬ lo≥hi):lo+(hi-lo) / 2<hi:=PZ (Nat.div_lt_self (NA (OO h)) (nO 2))
theorem G3.up (g:G3 p n x lo hi)(h1:lo<=m)(h2:m<hi)(q:∀i,i<=m->p i=eQ):G3 p n (x+1) (m+1) hi:=⟨h2,g.top,n2 g.t h1 (by simp +arith only),λi h=>q i (LR h),g.no⟩
theorem G3.dn (g:G3 p n x lo hi)(h1:lo<=m)(h2:m<hi)(q:∀i,m<=i->i<n->p i=bY):G3 p n (x+1) lo m:=⟨h1,iF (LM h2) g.top,n2 h2 g.t (by simp +arith only),g.yes,q⟩
structure F1 (p:Nat->Bool)(n b x l o:Nat):Prop where
 lt:l<o
 t:x+1<=o
 top:b+l<n
 yes:∀i,i<=b+l->p i=eQ
theorem F1.out {b:Nat}(f:F1 p n b x l o)(h:n-b<=o\/(b+o<n/\∀i,b+o<=i->i<n->p i=bY)):G3 p n 0 (b+l+1) (b+min o (n-b)):=by
 have e:b+(n-b)=n:=OH (iF (LQ _ _) (LM f.top));have y:∀i,i<b+l+1->p i=eQ:=λi h=>f.yes i (LR h)
 rcases h with h | ⟨h,h'⟩
 ·rw [OJ h,e];exact ⟨f.top,nO _,LQ _ _,y,λi a b=>absurd b (Oz.mpr a)⟩
 ·rw [Nf (Nat.le_sub_of_add_le' (LM h))];exact ⟨N4 f.lt b,LM h,iF (LM h) (LQ _ _),y,h'⟩
structure F2 (p:Nat->Bool)(n b x l o:Nat):Prop where
 lt:l<o
 t:x+1<=o
 top:l<=b
 no:∀i,b-l<=i->i<n->p i=bY
theorem F2.out {b:Nat}(hb:b<n)(f:F2 p n b x l o)(h:b+1<=o\/(o<=b/\∀i,i<=b-o->p i=eQ)):G3 p n 0 (b+1-min o (b+1)) (b-l):=by
 have t:b-l<=n:=iF (N1 _ _) (LM hb);have t2:∀y,b-l+0<=n+y:=λy=>iF t (LQ _ _)
 rcases h with h | ⟨h,h'⟩
 ·rw [OJ h,Pj];exact ⟨Ly _,t,t2 _,λi h=>absurd h (N0 i),f.no⟩
 ·rw [Nf (Mw h),Nat.sub_add_comm h];exact ⟨Nat.sub_lt_sub_left (Lp f.lt h) f.lt,t,t2 _,λi a=>h' i (LR a),f.no⟩
end
theorem FU {σ α:Type}{M:Qi}{X:StateT σ Sem α}{F:Nat->Nat->Nat->Nat->StateT σ Sem α}{H:Nat->Nat->Prop}{Q:α->σ->Prop}{st:σ}(h1:∀a b c d,H c d->wpM M A E s (F a b c d) Q st)(h2:(∀a b c d,H c d->wpM M A E s (F a b c d) Q st)->wpM M A E s X Q st):wpM M A E s X Q st:=h2 h1
theorem aV {σ α:Type}{M:Qi}{c:Bool}{X Y:StateT σ Sem α}{Q:α->σ->Prop}{st:σ}(h1:c=eQ->wpM M A E s X Q st)(h2:c=bY->wpM M A E s Y Q st):wpM M A E s (if c=eQ then X else Y) Q st:=by
 cases c with
 | true=>exact h1 rfl
 | false=>exact h2 rfl
theorem bx {σ α:Type}{M:Qi}{c:Prop} [Decidable c] {X Y:StateT σ Sem α}{Q:α->σ->Prop}{st:σ}(h1:c->wpM M A E s X Q st)(h2:¬ c->wpM M A E s Y Q st):wpM M A E s (if c then X else Y) Q st:=by
 by_cases q:c
 ·rw [if_pos q];exact h1 q
 ·rw [if_neg q];exact h2 q
theorem t2 {α β:Type}{P:α × β->Prop}(h:∀a b,P (a,b)):∀x,P x:=λx=>h x.1 x.2
theorem BW {ρ β α:Type}{f:Nat->Option ρ × β->StateT SortSt Sem (ForInStep (Option ρ × β))}{F:Option ρ × β->StateT SortSt Sem α}{N:Nat}{I:Nat->β->SortSt->Prop}{G:β->SortSt->Prop}{st:SortSt}{b0:β}{Q:α->SortSt->Prop}(h0:I 0 b0 st)
  (step:∀x b st',I x b st'->wpM (model prog w) A E s (f x (iD,b)) (λr st'=>match r with
   | .done c=>c.1=iD/\G c.2 st'
   | .yield c=>c.1=iD/\I (x+1) c.2 st') st') (over:∀b st',I (max 0 N) b st'->G b st') (go:∀b st',G b st'->wpM (model prog w) A E s (F (iD,b)) Q st'):wpM (model prog w) A E s (forIn [0:N] (iD,b0) f >>= F) Q st:=by
 refine Lz (QU (PO (I:=λx c st'=>c.1=iD/\I x c.2 st') (Q:=λc st'=>c.1=iD/\G c.2 st') ?_ ?_ ⟨rfl,h0⟩) ?_)
 ·rintro x ⟨_,b⟩ st' _ _ ⟨rfl,m⟩
  refine QU (step x b st' m) λr st' h=>?_
  cases r with
  | done c=>exact h
  | yield c=>exact h
 ·rintro ⟨_,b⟩ st' ⟨e,m⟩
  exact ⟨e,over b st' m⟩
 ·rintro ⟨_,b⟩ st' ⟨rfl,m⟩
  exact go b st' m
theorem yY {ρ β α:Type}{f:Nat->Option ρ × β->StateT SortSt Sem (ForInStep (Option ρ × β))}{F:Option ρ × β->StateT SortSt Sem α}{N:Nat}{I:Nat->β->Prop}{G:β->Prop}{st:SortSt}{b0:β}{Q:α->SortSt->Prop}(h0:I 0 b0)
  (step:∀x b,I x b->wpM (model prog w) A E s (f x (iD,b)) (λr st'=>match r with
   | .done c=>c.1=iD/\st'=st/\G c.2
   | .yield c=>c.1=iD/\st'=st/\I (x+1) c.2) st) (over:∀b,I (max 0 N) b->G b) (go:∀b,G b->wpM (model prog w) A E s (F (iD,b)) Q st):wpM (model prog w) A E s (forIn [0:N] (iD,b0) f >>= F) Q st:=
 BW (I:=λx b st'=>st'=st/\I x b) (G:=λb st'=>st'=st/\G b) ⟨rfl,h0⟩ (λx b st' h=>by rw [h.1];exact step x b h.2) (λb st' h=>⟨h.1,over b h.2⟩) λb st' h=>by rw [h.1];exact go b h.2
theorem D4 (hO:κ.OneLt){left:Bool}{key:Keyed}{arr:Array Keyed}{base n hint:Nat}{st:SortSt}{Q:Option Nat->SortSt->Prop}{p:Nat->Bool}(hk:kindOf st=oneType')(hkey:aG κ key)
  (hp:∀i,i<n->∃x,arr[base+i]?=aT x/\aG κ x/\p i=(if left=eQ then κ.blt (kof κ x) (kof κ key) else !κ.blt (kof κ key) (kof κ x)))
  (mono:∀i j,i<=j->j<n->p j=eQ->p i=eQ) (hh:hint<n)
  (h:∀k,k<=n->(∀i,i<k->p i=eQ)->(∀i,k<=i->i<n->p i=bY)->Q (aT k) st):wpM (model prog w) A E s (gal left key arr base n hint) Q st:=by
 have anti:∀i j,i<=j->j<n->p i=bY->p j=bY:=λi j h1 h2 h3=>by
  cases q:p j with
  | false=>rfl
  | true=>rw [mono i j h1 h2 q] at h3;cases h3
 have B:∀{i:Nat} {Q:Option Bool->SortSt->Prop},i<n->Q (aT (p i)) st->wpM (model prog w) A E s (elem' arr (base+i) >>= λx=>if left=eQ then lt' x key else lt' key x >>= λr=>pure (r.map λx=>!x)) Q st:=λ{i Q} hi hq=>by
  refine e13 (hp i hi) λx e hx hb=>?_;exact IP hO hk hkey e hx hb hq
 have md:∀j,j<n->p j=eQ->∀i,i<=j->p i=eQ:=λj a b i c=>mono i j c a b;have mu:∀j,p j=bY->∀i,j<=i->i<n->p i=bY:=λj a i b c=>anti j i b c a;refine Lz (B hh ?_);dsimp -zeta only;extract_lets -underBinder -merge +onlyGivenNames jp;refine FU (F:=jp ()) (H:=G3 p n 0) ?_ λkey=>?_
 ·intro _ _ lo hi g;refine yY (I:=λx c=>G3 p n x c.1 c.2) (G:=λc=>c.2<=c.1/\G3 p n 0 c.1 c.2) g (λx=>t2 λlo hi g=>?_) (t2 λlo hi g=>?_) (t2 λlo hi=>λ⟨q,g⟩=>?_)
  ·have g0:G3 p n 0 lo hi:=⟨g.le,g.top,iF g.top (LQ _ _),g.yes,g.no⟩
   refine bx (λq=>LD ⟨rfl,rfl,q,g0⟩) λq=>?_;have hm:=Kz q;have hn:=Lp hm g.top;refine Lz (B hn (aV (λq3=>LD ⟨rfl,rfl,g.up (LQ _ _) hm (md _ hn q3)⟩) λq3=>LD ⟨rfl,rfl,g.dn (LQ _ _) hm (mu _ q3)⟩))
  ·exact ⟨n2 g.t (LX 0 n) (by simp +arith only),g.le,g.top,iF g.top (LQ _ _),g.yes,g.no⟩
  ·exact LD (h hi g.top (λi hi=>g.yes i (Lp hi q)) g.no)
 refine aV (λhr=>?_) λhr=>?_
 ·refine yY (I:=λx c=>F1 p n hint x c.1 c.2) (G:=λc=>G3 p n 0 (hint+c.1+1) (hint+min c.2 (n-hint))) (by exact ⟨NF,nO _,hh,md _ hh hr⟩) (λx=>t2 λl o f=>?_) (t2 λl o f=>?_) (t2 λl o g=>?_)
  ·refine bx (λq=>LD ⟨rfl,rfl,f.out (.inl q)⟩) λq=>?_;have q2:hint+o<n:=PZ (OO q);refine Lz (B q2 ?_)
   cases q3:p (hint+o) with
   | false=>exact LD ⟨rfl,rfl,f.out (.inr ⟨q2,mu _ q3⟩)⟩
   | true=>exact LD ⟨rfl,rfl,by simp +arith only,n1 f.t (by simp +arith only),q2,md _ q2 q3⟩
  ·exact f.out (.inl (iF (N1 _ _) (n2 f.t (LX 0 n) (by simp +arith only))))
  ·exact key l o _ _ g
 ·refine yY (I:=λx c=>F2 p n hint x c.1 c.2) (G:=λc=>G3 p n 0 (hint+1-min c.2 (hint+1)) (hint-c.1)) (by exact ⟨NF,nO _,Ly _,mu _ hr⟩) (λx=>t2 λl o f=>?_) (t2 λl o f=>?_) (t2 λl o g=>?_)
  ·refine bx (λq=>LD ⟨rfl,rfl,f.out hh (.inl q)⟩) λq=>?_;have q1:o<=hint:=LR (OO q);have q2:hint-o<n:=IT (N1 _ _) hh;refine Lz (B q2 (aV (λq3=>LD ⟨rfl,rfl,f.out hh (.inr ⟨q1,md _ q2 q3⟩)⟩) λq3=>LD ⟨rfl,rfl,by simp +arith only,n1 f.t (by simp +arith only),q1,mu _ q3⟩))
  ·exact f.out hh (.inl (n3 f.t hh (LX 0 n) (by simp +arith only)))
  ·exact key l o _ _ g
end
open PyProof.Rows renaming wpS -> wpM
section
variable {κ:KeyKind}{L o k u v:List Keyed}{x y:Keyed}
noncomputable def Srt (κ:KeyKind)(l:List Keyed):Prop:=l.Pairwise λx y=>κ.kle (kof κ x) (kof κ y)
structure MI (κ:KeyKind)(L o u v:List Keyed):Prop where
 p:(o++u++v).Perm L
 s1:Srt κ (o++u)
 s2:Srt κ (o++v)
theorem MI.sw (h:MI κ L o u v):MI κ L o v u:=
 ⟨QS.trans (by rw [DO,DO];exact Om.append_left o) h.p,h.s2,h.s1⟩
theorem MI.take (h:MI κ L o (k++u) (y::v))(hk:∀x∈k,κ.kle (kof κ x) (kof κ y)):MI κ L (o++k) u (y::v):=by
 refine ⟨?_,?_,?_⟩
 ·rw [DO o k u];exact h.p
 ·rw [DO o k u];exact h.s1
 ·obtain ⟨a1,a2,a3⟩:=LH.mp h.s2;have b:=h.s1;rw [<-DO] at b;refine LH.mpr ⟨(LH.mp b).1,a2,λp hp q hq=>?_⟩
  rcases Lg.mp hp with hp | hp
  ·exact a3 p hp q hq
  ·rcases Lu.mp hq with rfl | hq
   ·exact hk p hp
   ·exact NN (hk p hp) ((Nd.mp a2).1 q hq)
theorem MI.fin (h:MI κ L o u []):(o++u).Perm L/\Srt κ (o++u):=⟨by have:=h.p;rwa [LJ] at this,h.s1⟩
theorem MI.last (h:MI κ L o [x] v)(hv:∀y∈v,κ.kle (kof κ y) (kof κ x)):(o++v++[x]).Perm L/\Srt κ (o++v++[x]):=by
 refine ⟨h.sw.p,LH.mpr ⟨h.s2,Nw _ _,λp hp q hq=>?_⟩⟩
 cases oF.mp hq
 rcases Lg.mp hp with hp | hp
 ·exact (LH.mp h.s1).2.2 p hp _ hq
 ·exact hv p hp
structure MH (κ:KeyKind)(L u v o:List Keyed):Prop where
 p:(u++v++o).Perm L
 s1:Srt κ (u++o)
 s2:Srt κ (v++o)
theorem MH.sw (h:MH κ L u v o):MH κ L v u o:=⟨(Om.append_right o).trans h.p,h.s2,h.s1⟩
theorem MH.take (h:MH κ L (u++k) (v++[y]) o)(hk:∀x∈k,κ.kle (kof κ y) (kof κ x)):MH κ L u (v++[y]) (k++o):=by
 refine ⟨?_,?_,?_⟩
 ·refine QS.trans ?_ h.p;rw [DO u,DO (u++k),DO u,<-DO (v++[y]),<-DO k];exact (Om.append_right o).append_left u
 ·rw [<-DO];exact h.s1
 ·obtain ⟨a1,a2,a3⟩:=LH.mp h.s2;have b:=h.s1;rw [DO] at b;refine LH.mpr ⟨a1,(LH.mp b).2.1,λp hp q hq=>?_⟩
  rcases Lg.mp hq with hq | hq
  ·rcases Lg.mp hp with hp | hp
   ·exact NN ((LH.mp a1).2.2 p hp y (.head _)) (hk q hq)
   ·cases oF.mp hp;exact hk q hq
  ·exact a3 p hp q hq
theorem MH.fin (h:MH κ L u [] o):(u++o).Perm L/\Srt κ (u++o):=⟨by have:=h.p;rwa [LJ] at this,h.s1⟩
theorem MH.first (h:MH κ L u [y] o)(hu:∀x∈u,κ.kle (kof κ y) (kof κ x)):([y]++u++o).Perm L/\Srt κ ([y]++u++o):=by
 refine ⟨h.sw.p,?_⟩;rw [DO];refine LH.mpr ⟨Nw _ _,h.s1,λp hp q hq=>?_⟩
 cases oF.mp hp
 rcases Lg.mp hq with hq | hq
 ·exact hu q hq
 ·exact (LH.mp h.s2).2.2 _ hp q hq
end
open PyProof.Rows renaming wpS -> wpM
theorem lH {α:Type}(a:Array α)(i:Nat):(a.extract i a.size).toList=a.toList.drop i:=by
 rw [Pd,Oo];exact M0 (by rw [Mv,LP];exact nO _)
theorem ut {α:Type}(a:Array α)(i k:Nat):(a.extract i (i+k)).toList=(a.toList.drop i).take k:=by
 rw [Pd,Oo,Nx]
theorem lI {α:Type}(a:Array α)(k:Nat):(a.extract 0 k).toList=a.toList.take k:=by
 rw [Pd,Oo];rfl
theorem mM {α:Type}{a:Array α}{i:Nat}{x:α}(e:a[i]?=aT x):a.toList.drop i=x::a.toList.drop (i+1):=by
 have e:a.toList[i]?=aT x:=by rw [Mb];exact e
 obtain ⟨h,rfl⟩:=By.mp e;exact L9 h
theorem mO {α:Type}{a:Array α}{i:Nat}(h:a.size<=i):a.toList.drop i=[]:=List.drop_of_length_le (by rw [LP];exact h)
section
variable {κ:KeyKind}{L:List Keyed}{a b out:Array Keyed}{i j k:Nat}{x y:Keyed}
noncomputable def Mgd (κ:KeyKind)(L:List Keyed)(m:Array Keyed):Prop:=m.toList.Perm L/\Srt κ m.toList
noncomputable abbrev MA (κ:KeyKind) (L:List Keyed) (a b out:Array Keyed) (i j:Nat):Prop:=MI κ L out.toList (a.toList.drop i) (b.toList.drop j)
theorem Srt.at (h:Srt κ a.toList)(hij:i<=j)(e1:a[i]?=aT x)(e2:a[j]?=aT y):κ.kle (kof κ x) (kof κ y):=by
 rcases Nat.eq_or_lt_of_le hij with rfl | hij
 ·cases e1.symm.trans e2;exact N2 _
 ·obtain ⟨h1,rfl⟩:=Mg.mp e1;obtain ⟨h2,rfl⟩:=Mg.mp e2;exact Oq.mp h i j (by rw [LP];exact h1) (by rw [LP];exact h2) hij
theorem MA.bulk (h:MA κ L a b out i j)(eb:b[j]?=aT y)(hk:∀z,z<k->∀x,a[i+z]?=aT x->κ.kle (kof κ x) (kof κ y)):MA κ L a b (out++a.extract i (i+k)) (i+k) j:=by
 unfold MA at h ⊢;rw [MR,ut,<-List.drop_drop];rw [mM eb] at h ⊢;refine MI.take (by rw [Mj];exact h) λx hx=>?_;obtain ⟨z,hz,rfl⟩:=List.mem_iff_getElem.mp hx;rw [Mq] at hz;refine hk z (Lp hz (NE _ _)) _ ?_;rw [<-Mb,List.getElem_take,List.getElem_drop];exact Ls _
theorem MA.push (h:MA κ L a b out i j)(ea:a[i]?=aT x)(eb:b[j]?=aT y)(hle:κ.kle (kof κ x) (kof κ y)):MA κ L a b (out.push x) (i+1) j:=by
 unfold MA at h ⊢;rw [O8];rw [mM eb,mM ea] at h;rw [mM eb];exact MI.take (k:=[x]) h λz hz=>by cases oF.mp hz;exact hle
theorem MA.done (h:MA κ L a b out i j)(hj:b.size<=j\/a.size<=i):Mgd κ L (out++a.extract i a.size++b.extract j b.size):=by
 unfold Mgd;unfold MA at h;rw [MR,MR,lH,lH];refine hj.elim (λhj=>?_) λhj=>?_
 ·rw [mO hj] at h ⊢;rw [LJ];exact h.fin
 ·rw [mO hj] at h ⊢;rw [LJ];exact h.sw.fin
theorem MA.last (h:MA κ L a b out i j)(ea:a[i]?=aT x)(hi:i+1=a.size)(hv:∀y∈b.toList,κ.kle (kof κ y) (kof κ x)):Mgd κ L (out++b.extract j b.size++a.extract i a.size):=by
 unfold Mgd;unfold MA at h;rw [MR,MR,lH,lH];rw [mM ea,mO (Lw hi.symm)] at h ⊢;exact h.last λy hy=>hv y (MX hy)
end
section
variable {prog:M6}{w:Ni}{A:MP}{E:rW->Do->Prop}{s:Do}{κ:KeyKind}
noncomputable def mP (κ:KeyKind)(a:Array Keyed)(base n:Nat):Prop:=∀i j x y,i<=j->j<n->a[base+i]?=aT x->a[base+j]?=aT y->κ.kle (kof κ x) (kof κ y)
theorem sZ (hO:κ.OneLt){key:Keyed}{arr:Array Keyed}{base n hint:Nat}{st:SortSt}{Q:Option Nat->SortSt->Prop}(hk:kindOf st=oneType')(hkey:aG κ key)(ha:∀x∈arr.toList,aG κ x)(hs:mP κ arr base n)(hn:base+n<=arr.size)(hh:hint<n)
  (h:∀k,k<=n->(∀i,i<k->∀x,arr[base+i]?=aT x->κ.kle (kof κ x) (kof κ key))->(∀i,k<=i->i<n->∀x,arr[base+i]?=aT x->κ.klt (kof κ key) (kof κ x))->Q (aT k) st):wpM (model prog w) A E s (gal bY key arr base n hint) Q st:=by
 refine D4 (p:=λi=>match arr[base+i]? with | some x=>!κ.blt (kof κ key) (kof κ x) | none=>bY) hO hk hkey (λi hi=>?_) (λi j h1 h2 h3=>?_) hh λk h1 h2 h3=>h k h1 (λi hi x e=>?_) λi hi hin x e=>?_
 ·have hi:base+i<arr.size:=n2 hi hn (by simp +arith only);exact ⟨arr[base+i],Li hi,ha _ (LV hi),by rw [Li hi];rfl⟩
 ·have hi:base+i<arr.size:=n3 h2 h1 hn (by simp +arith only);have hj:base+j<arr.size:=n2 h2 hn (by simp +arith only);rw [Li hj] at h3;rw [Li hi];have q:=hs i j _ _ h1 h2 (Li hi) (Li hj);have h3:κ.blt (kof κ key) (kof κ arr[base+j])=bY:=by simpa using h3
  show (!κ.blt _ _)=eQ;have:κ.kle (kof κ arr[base+i]) (kof κ key):=NN q h3;rw [show κ.blt (kof κ key) (kof κ arr[base+i])=bY from this];rfl
 ·have q:=h2 i hi;rw [e] at q;show κ.blt _ _=bY
  simpa using q
 ·have q:=h3 i hi hin;rw [e] at q;show κ.blt _ _=eQ
  simpa using q
theorem s6 (hO:κ.OneLt){key:Keyed}{arr:Array Keyed}{base n hint:Nat}{st:SortSt}{Q:Option Nat->SortSt->Prop}(hk:kindOf st=oneType')(hkey:aG κ key)(ha:∀x∈arr.toList,aG κ x)(hs:mP κ arr base n)(hn:base+n<=arr.size)(hh:hint<n)
  (h:∀k,k<=n->(∀i,i<k->∀x,arr[base+i]?=aT x->κ.klt (kof κ x) (kof κ key))->(∀i,k<=i->i<n->∀x,arr[base+i]?=aT x->κ.kle (kof κ key) (kof κ x))->Q (aT k) st):wpM (model prog w) A E s (gal eQ key arr base n hint) Q st:=by
 refine D4 (p:=λi=>match arr[base+i]? with | some x=>κ.blt (kof κ x) (kof κ key) | none=>bY) hO hk hkey (λi hi=>?_) (λi j h1 h2 h3=>?_) hh λk h1 h2 h3=>h k h1 (λi hi x e=>?_) λi hi hin x e=>?_
 ·have hi:base+i<arr.size:=n2 hi hn (by simp +arith only);exact ⟨arr[base+i],Li hi,ha _ (LV hi),by rw [Li hi];rfl⟩
 ·have hi:base+i<arr.size:=n3 h2 h1 hn (by simp +arith only);have hj:base+j<arr.size:=n2 h2 hn (by simp +arith only);rw [Li hj] at h3;rw [Li hi];exact KeyOrd.klt_of_kle_of_klt (hs i j _ _ h1 h2 (Li hi) (Li hj)) h3
 ·have q:=h2 i hi;rw [e] at q;exact q
 ·have q:=h3 i hi hin;rw [e] at q;exact q
end
open PyProof.Rows renaming wpS -> wpM
section
variable {prog:M6}{w:Ni}{A:MP}{E:rW->Do->Prop}{s:Do}{κ:KeyKind}
noncomputable def mlo:Array Keyed->Array Keyed->StateT SortSt Sem (Array Keyed):=sortPriv% PySem.Builtin.mergeLo
noncomputable def mhi:Array Keyed->Array Keyed->StateT SortSt Sem (Array Keyed):=sortPriv% PySem.Builtin.mergeHi
structure KpM (st st':SortSt):Prop where
 kind:kindOf st'=kindOf st
 arr:arrOf st'=arrOf st
 pend:pendingOf st'=pendingOf st
 failed:failedOf st'=failedOf st
theorem IQ {σ α:Type}{M:Qi}{c:Prop} [Decidable c] {F:Nat->StateT σ Sem α}{g1 g2:Nat}{Q:α->σ->Prop}{st:σ}(h:∀g,wpM M A E s (F g) Q st):wpM M A E s (if c then F g1 else F g2) Q st:=bx (λ_=>h _) λ_=>h _
theorem Srt.from {a:Array Keyed}(h:Srt κ a.toList)(i n:Nat):mP κ a i n:=λp q x y hpq _ e1 e2=>h.at (Mh hpq i) e1 e2
theorem D5 {σ α:Type}{M:Qi}{X:StateT σ Sem α}{F:Array Keyed->Nat->StateT σ Sem α}{H:Array Keyed->Nat->Prop}{Q:α->σ->Prop}{st:σ}(h1:∀o i,H o i->wpM M A E s (F o i) Q st)(h2:(∀o i,H o i->wpM M A E s (F o i) Q st)->wpM M A E s X Q st):wpM M A E s X Q st:=h2 h1
theorem MA.sw {L:List Keyed}{a b out:Array Keyed}{i j:Nat}(h:MA κ L a b out i j):MA κ L b a out j i:=MI.sw h
structure LB (κ:KeyKind)(a b:Array Keyed)(t:Nat)(out:Array Keyed)(ia ib:Nat):Prop where
 m:MA κ (a.toList++b.toList) a b out ia ib
 la:ia+1<a.size
 lb:ib<b.size
 t:t<=ia+ib
inductive LO (κ:KeyKind)(a b:Array Keyed)(G:Prop)(st:SortSt)(o:Option (Array Keyed))(st':SortSt):Prop
 | fin (k:KpM st st') (r:Array Keyed) (e:o=aT r) (m:Mgd κ (a.toList++b.toList) r)
 | go (k:KpM st st') (e:o=iD) (g:G)
structure LpI (G:Prop)(st:SortSt)(o:Option (Array Keyed))(st':SortSt):Prop where
 k:KpM st st'
 e:o=iD
 g:G
section
variable {a b out:Array Keyed}{ia ib t k:Nat}{x y:Keyed}
theorem dc {i n:Nat}(h:i<=n)(q:(i==n)=bY):i<n:=Nu h (ne_of_beq_false q)
theorem LB.ea (l:LB κ a b t out ia ib):a[ia]?=aT (a[ia]'(Mf l.la)):=Li _
theorem LB.eb (l:LB κ a b t out ia ib):b[ib]?=aT (b[ib]'l.lb):=Li _
theorem LB.of {t':Nat}(l:LB κ a b t out ia ib)(h:t'<=t):LB κ a b t' out ia ib:=⟨l.m,l.la,l.lb,iF h l.t⟩
end
theorem D6 (hO:κ.OneLt){a b:Array Keyed}{i j:Nat}{x y:Keyed}{st:SortSt}{α:Type}{Q:α->SortSt->Prop}{F:Option Bool->StateT SortSt Sem α}(hk:kindOf st=oneType')(e2:b[j]?=aT y)(e1:a[i]?=aT x)(hy:aG κ y)(hx:aG κ x)(h:wpM (model prog w) A E s (F (aT (κ.blt (kof κ y) (kof κ x)))) Q st) :
  wpM (model prog w) A E s (elem' b j >>= λy=>elem' a i >>= λx=>lt' y x >>= F) Q st:=Lz (bw e2 (Lz (bw e1 (Lz (BV hO hk hy hx h)))))
theorem t5 {α β γ δ ε:Type}{P:α × β × γ × δ × ε->Prop}(h:∀a b c d e,P (a,b,c,d,e)):∀x,P x:=λx=>h x.1 x.2.1 x.2.2.1 x.2.2.2.1 x.2.2.2.2
theorem t6 {α β γ δ ε ζ:Type}{P:α × β × γ × δ × ε × ζ->Prop}(h:∀a b c d e f,P (a,b,c,d,e,f)):∀x,P x:=λx=>h x.1 x.2.1 x.2.2.1 x.2.2.2.1 x.2.2.2.2.1 x.2.2.2.2.2
theorem t4 {α β γ δ:Type}{P:α × β × γ × δ->Prop}(h:∀a b c d,P (a,b,c,d)):∀x,P x:=λx=>h x.1 x.2.1 x.2.2.1 x.2.2.2
theorem wL {β α:Type}{a b':Array Keyed}{f:Nat->Option (Array Keyed) × β->StateT SortSt Sem (ForInStep (Option (Array Keyed) × β))}{F:Option (Array Keyed) × β->StateT SortSt Sem α}{N:Nat}{I:Nat->β->Prop}{G:β->Prop}{st0 st:SortSt}{b0:β}{Q:α->SortSt->Prop}(k:KpM st0 st)(h0:I 0 b0)(over:∀b,¬ I (max 0 N) b)
  (step:∀x b st',KpM st0 st'->I x b->wpM (model prog w) A E s (f x (iD,b)) (λr st'=>match r with
   | .done c=>LO κ a b' (G c.2) st0 c.1 st'
   | .yield c=>LpI (I (x+1) c.2) st0 c.1 st') st')
  (fin:∀r b st',KpM st0 st'->Mgd κ (a.toList++b'.toList) r->wpM (model prog w) A E s (F (aT r,b)) Q st') (go:∀b st',KpM st0 st'->G b->wpM (model prog w) A E s (F (iD,b)) Q st'):wpM (model prog w) A E s (forIn [0:N] (iD,b0) f >>= F) Q st:=by
 refine Lz (QU (PO (I:=λx c st'=>LpI (I x c.2) st0 c.1 st') (Q:=λc st'=>LO κ a b' (G c.2) st0 c.1 st') ?_ ?_ ⟨k,rfl,h0⟩) ?_)
 ·rintro x ⟨_,b⟩ st' _ _ ⟨k,rfl,m⟩
  refine QU (step x b st' k m) λr st' h=>?_
  cases r with
  | done c=>exact h
  | yield c=>exact h
 ·rintro ⟨_,b⟩ st' ⟨_,_,m⟩
  exact (over b m).elim
 ·rintro ⟨_,b⟩ st' (⟨k,r,rfl,m⟩ | ⟨k,rfl,g⟩)
  ·exact fin r b st' k m
  ·exact go b st' k g
theorem IR (hO:κ.OneLt){a b:Array Keyed}{st:SortSt}{Q:Array Keyed->SortSt->Prop}(hk:kindOf st=oneType')(ka:∀x∈a.toList,aG κ x)(kb:∀x∈b.toList,aG κ x)(sa:Srt κ a.toList)(sb:Srt κ b.toList)
  {x0 y0 xl:Keyed}(ea:a[0]?=aT x0) (eb:b[0]?=aT y0) (h0:κ.kle (kof κ y0) (kof κ x0)) (el:a[a.size-1]?=aT xl) (hl:∀y∈b.toList,κ.kle (kof κ y) (kof κ xl))
  (h:∀m st',Mgd κ (a.toList++b.toList) m->KpM st st'->Q m st'):wpM (model prog w) A E s (mlo a b) Q st:=by
 have m0:MA κ (a.toList++b.toList) a b #[y0] 0 1:=(MA.push (a:=b) (b:=a) (out:=#[]) (i:=0) (j:=0) ⟨Om,sb,sa⟩ eb ea h0).sw;have lastA:∀{out i j},MA κ (a.toList++b.toList) a b out i j->(i+1==a.size)=eQ->Mgd κ (a.toList++b.toList) (out++b.extract j b.size++a.extract i a.size):=λ{out i j} m hi=>by
  have hi:=eq_of_beq hi;exact m.last (by rw [<-el,<-hi];rfl) hi hl
 have doneB:∀{out i j},MA κ (a.toList++b.toList) a b out i j->(j==b.size)=eQ->Mgd κ (a.toList++b.toList) (out++a.extract i a.size++b.extract j b.size):=λm hj=>m.done (.inl (Lw (eq_of_beq hj).symm));refine Lz (QT (OC ⟨rfl,?_⟩));refine Lz (bw eb ?_);refine aV (λq=>LD (h _ _ (doneB m0 q) ⟨rfl,rfl,rfl,rfl⟩)) λq1=>?_;refine aV (λq=>LD (h _ _ (lastA m0 q) ⟨rfl,rfl,rfl,rfl⟩)) λq2=>?_;have q1:1<b.size:=dc (Mg.mp eb).1 q1;have q2:0+1<a.size:=dc (Mg.mp ea).1 q2;refine Lz (Qn ?_);have over:∀{t out ia ib},LB κ a b t out ia ib->a.size+b.size<=t->False:=λm h=>absurd (Nat.add_lt_add (Mf m.la) m.lb) (Oz.mpr (iF h m.t));refine wL (a:=a) (b':=b) (κ:=κ) (I:=λx c=>LB κ a b (x+1) c.1 c.2.1 c.2.2.1) (G:=λ_=>False) ⟨rfl,rfl,rfl,rfl⟩ ⟨m0,q2,q1,nO _⟩ (λc m=>over m (n1 (LX 0 _) (by simp +arith only))) (λx=>t4 λout ia ib mg st1 k1 m1=>?_) (λr c st1 k1 hr=>LD (h _ _ hr k1)) λ_ _ _ h=>h.elim;refine wL (a:=a) (b':=b) (κ:=κ) (I:=λx' c=>LB κ a b (x+x'+1) c.1 c.2.1 c.2.2.1) (G:=λc=>LB κ a b (x+2) c.1 c.2.1 c.2.2.1) k1 m1 (λc m=>over m (n1 (LX 0 _) (by simp +arith only))) (λx'=>t5 λout ia ib ac bc st2 k2 m=>?_) (λr c st2 k2 hr=>LD (.fin k2 r rfl hr)) (t5 λout ia ib ac bc st2 k2 m=>?_)
 ·refine D6 hO (k2.kind.trans hk) m.eb m.ea (kb _ (LV _)) (ka _ (LV _)) ?_;refine aV (λq=>?_) λq=>?_
  ·have m':=(MA.push m.m.sw m.eb m.ea (MJ q)).sw;refine Lz (bw m.eb ?_);refine aV (λq=>LD (.fin k2 _ rfl (doneB m' q))) λq=>?_;have l':LB κ a b (x+x'+1+1) _ ia (ib+1):=⟨m',m.la,dc m.lb q,Ln m.t⟩
   exact bx (λ_=>LD (.go k2 rfl (l'.of (by simp +arith only)))) λ_=>LD ⟨k2,rfl,l'⟩
  ·have m':=MA.push m.m m.ea m.eb q;refine Lz (bw m.ea ?_);refine aV (λq=>LD (.fin k2 _ rfl (lastA m' q))) λq=>?_;have l':LB κ a b (x+x'+1+1) _ (ia+1) ib:=⟨m',dc m.la q,m.lb,n1 m.t (by simp +arith only)⟩
   exact bx (λ_=>LD (.go k2 rfl (l'.of (by simp +arith only)))) λ_=>LD ⟨k2,rfl,l'⟩
 refine Lz (QT (OC ⟨rfl,?_⟩));refine wL (a:=a) (b':=b) (κ:=κ) (I:=λx' c=>LB κ a b (x+x'+2) c.1 c.2.1 c.2.2.1) (G:=λc=>LB κ a b (x+2) c.1 c.2.1 c.2.2.1) k2 m (λc m=>over m (n1 (LX 0 _) (by simp +arith only))) (λx'=>t6 λout ia ib mg ac bc st2 k2 m=>?_) (λr c st2 k2 hr=>LD (.fin k2 r rfl hr)) (t6 λout ia ib mg ac bc st3 k3 m=>Lz (Px (LD ⟨⟨k3.kind,k3.arr,k3.pend,k3.failed⟩,rfl,m⟩)));extract_lets -underBinder -merge +onlyGivenNames _ o _ i _ j _ g _ ac' bc' jp;have eA:ia+(a.size-ia)=a.size:=OH (LM (Mf m.la));refine IQ (F:=jp ()) λg'=>Lz (Px (Lz (bw m.eb (Lz (sZ hO (k2.kind.trans hk) (kb _ (LV _)) ka (sa.from ia _) (Lw eA) (NA (Mf m.la)) λk h1 h2 h3=>?_)))));have k3:KpM st (RD (kindOf st2) (arrOf st2) (pendingOf st2) g' (failedOf st2)):=⟨k2.kind,k2.arr,k2.pend,k2.failed⟩
 dsimp -zeta only;extract_lets -underBinder -merge +onlyGivenNames ac2 jp2;refine D5 (F:=jp2 ()) (H:=λout' i'=>LB κ a b (x+x'+2) out' i' ib/\∀x,a[i']?=aT x->κ.kle (kof κ (b[ib]'m.lb)) (kof κ x)) ?_ λkey2=>?_
 ·rintro out' i' ⟨n,d3⟩
  have m':=(MA.push n.m.sw n.eb n.ea (d3 _ n.ea)).sw;refine Lz (bw n.eb ?_);refine aV (λq=>LD (.fin k3 _ rfl (doneB m' q))) λq=>?_;have q:=dc n.lb q;have eB:ib+1+(b.size-(ib+1))=b.size:=OH (LM q);refine Lz (bw n.ea (Lz (s6 hO (k2.kind.trans hk) (ka _ (LV _)) kb (sb.from (ib+1) _) (Lw eB) (NA q) λk' h1' h2' h3'=>?_)));dsimp -zeta only;extract_lets -underBinder -merge +onlyGivenNames bc2 jp3;refine D5 (F:=jp3 ()) (H:=λout' j'=>LB κ a b (x+x'+2) out' i' j'/\∀y,b[j']?=aT y->κ.kle (kof κ (a[i']'(Mf n.la))) (kof κ y)) ?_ λkey3=>?_
  ·rintro out' j' ⟨n,f3⟩
   refine Lz (bw n.ea ?_);have m':=MA.push n.m n.ea n.eb (f3 _ n.eb);refine aV (λq=>LD (.fin k3 _ rfl (lastA m' q))) λq=>?_;have l':LB κ a b (x+(x'+1)+2) _ (i'+1) j':=⟨m',dc n.la q,n.lb,n1 n.t (by simp +arith only)⟩
   exact aV (λ_=>LD (.go k3 rfl (l'.of (by simp +arith only)))) λ_=>LD ⟨k3,rfl,l'⟩
  refine bx (λz=>?_) λz=>?_
  ·have m'':=(MA.bulk m'.sw n.ea λz hz x e=>MJ (h2' z hz x e)).sw;refine aV (λq=>LD (.fin k3 _ rfl (doneB m'' q))) λq3=>?_;have q3:=dc (iF (Mh h1' _) (Lw eB)) q3;exact key3 _ (ib+1+k') ⟨⟨m'',n.la,q3,n1 n.t (by simp +arith only)⟩,λx e=>h3' k' (nO _) (Nat.lt_sub_iff_add_lt'.mpr q3) x e⟩
  ·cases OW z
   exact key3 _ (ib+1) ⟨⟨m',n.la,q,n1 n.t (by simp +arith only)⟩,λx e=>h3' 0 (nO _) (NA q) x e⟩
 refine bx (λz=>?_) λz=>?_
 ·have m'':=MA.bulk m.m m.eb h2;refine aV (λq=>LD (.fin k3 _ rfl (lastA m'' q))) λq=>?_;refine aV (λq=>LD (.fin k3 _ rfl (m''.done (.inr (Lw (eq_of_beq q).symm))))) λq'=>?_;have q':=dc (iF (Mh h1 _) (Lw eA)) q';exact key2 _ (ia+k) ⟨⟨m'',dc q' q,m.lb,n1 m.t (by simp +arith only)⟩,λx e=>MJ (h3 k (nO _) (Nat.lt_sub_iff_add_lt'.mpr q') x e)⟩
 ·cases OW z
  exact key2 _ _ ⟨m,λx e=>MJ (h3 0 (nO _) (NA (Mf m.la)) x e)⟩
end
open PyProof.Rows renaming wpS -> wpM
section
variable {κ:KeyKind}{L:List Keyed}{a b out:Array Keyed}{i j k n:Nat}{x y:Keyed}
noncomputable abbrev MB (κ:KeyKind) (L:List Keyed) (a b out:Array Keyed) (i j:Nat):Prop:=MH κ L (a.toList.take i) (b.toList.take j) out.toList.reverse
theorem MB.sw (h:MB κ L a b out i j):MB κ L b a out j i:=MH.sw h
theorem f9 {α:Type}{a:Array α}{i:Nat}{x:α}(e:a[i]?=aT x):a.toList.take (i+1)=a.toList.take i++[x]:=by
 have e:a.toList[i]?=aT x:=by rw [Mb];exact e
 rw [List.take_add_one,e];rfl
theorem FV {α:Type}(a:Array α){k n:Nat}(h:k<=n):a.toList.take n=a.toList.take k++(a.extract k n).toList:=by
 rw [Pd,Oo];obtain ⟨d,rfl⟩:=Nat.exists_eq_add_of_le h;rw [Nx,List.take_add]
theorem MB.push (h:MB κ L a b out (i+1) (j+1))(ea:a[i]?=aT x)(eb:b[j]?=aT y)(hle:κ.kle (kof κ y) (kof κ x)):MB κ L a b (out.push x) i (j+1):=by
 unfold MB at h ⊢;rw [O8,List.reverse_append];rw [f9 eb,f9 ea] at h;rw [f9 eb];exact MH.take (k:=[x]) h λz hz=>by cases oF.mp hz;exact hle
theorem MB.bulk (h:MB κ L a b out n (j+1))(eb:b[j]?=aT y)(hkn:k<=n)(hk:∀z,k<=z->z<n->∀x,a[z]?=aT x->κ.kle (kof κ y) (kof κ x)):MB κ L a b (out++(a.extract k n).reverse) k (j+1):=by
 unfold MB at h ⊢;rw [MR,Qa,List.reverse_append,List.reverse_reverse];rw [f9 eb,FV a hkn] at h;rw [f9 eb];refine MH.take h λx hx=>?_;obtain ⟨z,hz,rfl⟩:=List.mem_iff_getElem.mp hx;have hz:z<(a.extract k n).size:=hz;rw [Array.size_extract] at hz;refine hk (k+z) (LQ _ _) (Lp (PZ (Lp hz (Nat.sub_le_sub_right (NE _ _) _))) (nO _)) _ ?_;rw [Array.getElem_toList,Array.getElem_extract];exact Li _
theorem MB.done (h:MB κ L a b out i j)(hj:j=0\/i=0):Mgd κ L (a.extract 0 i++b.extract 0 j++out.reverse):=by
 unfold Mgd;unfold MB at h;rw [MR,MR,lI,lI,Qa]
 rcases hj with rfl | rfl
 ·rw [Qu,LJ];exact MH.fin h
 ·rw [Qu,Qf];exact MH.fin h.sw
theorem MB.first (h:MB κ L a b out i 1)(eb:b[0]?=aT y)(hv:∀x∈a.toList,κ.kle (kof κ y) (kof κ x)):Mgd κ L (b.extract 0 1++a.extract 0 i++out.reverse):=by
 unfold Mgd;unfold MB at h;rw [MR,MR,lI,lI,Qa];rw [f9 eb,Qu,Qf] at h;rw [f9 eb,Qu,Qf];exact MH.first h λx hx=>hv x (Mp hx)
end
section
variable {prog:M6}{w:Ni}{A:MP}{E:rW->Do->Prop}{s:Do}{κ:KeyKind}
theorem yZ {σ α:Type}{M:Qi}{X:StateT σ Sem α}{F:Nat->Array Keyed->StateT σ Sem α}{H:Nat->Array Keyed->Prop}{Q:α->σ->Prop}{st:σ}(h1:∀o i,H o i->wpM M A E s (F o i) Q st)(h2:(∀o i,H o i->wpM M A E s (F o i) Q st)->wpM M A E s X Q st):wpM M A E s X Q st:=h2 h1
structure HB (κ:KeyKind)(a b:Array Keyed)(t:Nat)(ia ib:Nat)(out:Array Keyed):Prop where
 m:MB κ (a.toList++b.toList) a b out ia ib
 pa:0<ia
 pb:1<ib
 la:ia<a.size
 lb:ib<=b.size
 t:t+ia+ib<=a.size+b.size
section
variable {a b out:Array Keyed}{ia ib t:Nat}
theorem HB.ea (l:HB κ a b t (ia+1) ib out):a[ia]?=aT (a[ia]'(Mf l.la)):=Li _
theorem HB.eb (l:HB κ a b t ia (ib+1) out):b[ib]?=aT (b[ib]'l.lb):=Li _
theorem HB.of {t':Nat}(l:HB κ a b t ia ib out)(h:t'<=t):HB κ a b t' ia ib out:=⟨l.m,l.pa,l.pb,l.la,l.lb,iF (MG (MG h _) _) l.t⟩
theorem HB.pos (l:HB κ a b t ia ib out):∃i j,ia=i+1/\ib=j+1:=⟨ia-1,ib-1,(Nq l.pa).symm,(Nq (LM l.pb)).symm⟩
theorem HB.over (l:HB κ a b t ia ib out)(h:a.size+b.size<=t):False:=absurd l.pa (Oz.mpr (n2 l.t h (by simp +arith only)))
end
theorem hb5 {γ δ:Type}{a b:Array Keyed}{t:Nat}{st0:SortSt}{R:Nat × Nat × Array Keyed × γ × δ->SortSt->Prop}(h:∀ia ib out c d st',KpM st0 st'->HB κ a b t (ia+1) (ib+1) out->R (ia+1,ib+1,out,c,d) st'):∀c st',KpM st0 st'->HB κ a b t c.1 c.2.1 c.2.2.1->R c st':=by
 rintro ⟨ia,ib,out,c,d⟩ st' k m
 obtain ⟨p,q,e1,e2⟩:=m.pos;have e1:ia=p+1:=e1;have e2:ib=q+1:=e2;subst e1 e2;exact h p q out c d st' k m
theorem de {i n:Nat}(h:n<=i)(q:(i==n)=bY):n<i:=Nu h (Ol (ne_of_beq_false q))
theorem IU (hO:κ.OneLt){a b:Array Keyed}{st:SortSt}{Q:Array Keyed->SortSt->Prop}(hk:kindOf st=oneType')(ka:∀x∈a.toList,aG κ x)(kb:∀x∈b.toList,aG κ x)(sa:Srt κ a.toList)(sb:Srt κ b.toList)
  {x0 y0 yl:Keyed}(ea:a[a.size-1]?=aT x0) (eb:b[b.size-1]?=aT y0) (h0:κ.kle (kof κ y0) (kof κ x0)) (el:b[0]?=aT yl) (hl:∀x∈a.toList,κ.kle (kof κ yl) (kof κ x))
  (h:∀m st',Mgd κ (a.toList++b.toList) m->KpM st st'->Q m st'):wpM (model prog w) A E s (mhi a b) Q st:=by
 have za:a.size-1+1=a.size:=Nq (IT (Ly _) (Mg.mp ea).1);have zb:b.size-1+1=b.size:=Nq (IT (Ly _) (Mg.mp eb).1);have m00:MB κ (a.toList++b.toList) a b #[] (a.size-1+1) (b.size-1+1):=by
  unfold MB;rw [M0 (by rw [LP,za];exact nO _),M0 (by rw [LP,zb];exact nO _)];exact ⟨by rw [QV,LJ],by rw [QV,LJ];exact sa,by rw [QV,LJ];exact sb⟩
 have m0:MB κ (a.toList++b.toList) a b #[x0] (a.size-1) b.size:=by
  have:=m00.push ea eb h0
  rwa [zb] at this
 have firstB:∀{out i j},MB κ (a.toList++b.toList) a b out i j->(j==1)=eQ->Mgd κ (a.toList++b.toList) (b.extract 0 j++a.extract 0 i++out.reverse):=λ{out i j} m e=>by
  cases eq_of_beq e;exact m.first el hl
 have doneA:∀{out i j},MB κ (a.toList++b.toList) a b out i j->(i==0)=eQ->Mgd κ (a.toList++b.toList) (a.extract 0 i++b.extract 0 j++out.reverse):=λm e=>m.done (.inr (eq_of_beq e));refine Lz (QT (OC ⟨rfl,?_⟩));refine Lz (bw ea ?_);refine aV (λq=>LD (h _ _ (doneA m0 q) ⟨rfl,rfl,rfl,rfl⟩)) λq1=>?_;refine aV (λq=>LD (h _ _ (firstB m0 q) ⟨rfl,rfl,rfl,rfl⟩)) λq2=>?_;have q1:=de (Ly _) q1;have q2:=de (zb▸Ln (Ly _)) q2;refine Lz (Qn ?_);refine wL (a:=a) (b':=b) (κ:=κ) (I:=λx c=>HB κ a b (x+1) c.1 c.2.1 c.2.2.1) (G:=λ_=>False) ⟨rfl,rfl,rfl,rfl⟩ ⟨m0,q1,q2,Nat.lt_of_succ_le (Lw za),nO _,n1 (Lw za) (by simp +arith only)⟩ (λc m=>m.over (n1 (LX 0 _) (by simp +arith only))) (λx=>t4 λia ib out mg st1 k1 m1=>?_) (λr c st1 k1 hr=>LD (h _ _ hr k1)) λ_ _ _ h=>h.elim;refine wL (a:=a) (b':=b) (κ:=κ) (I:=λx' c=>HB κ a b (x+x'+1) c.1 c.2.1 c.2.2.1) (G:=λc=>HB κ a b (x+2) c.1 c.2.1 c.2.2.1) k1 m1 (λc m=>m.over (n1 (LX 0 _) (by simp +arith only))) (λx'=>hb5 λia ib out ac bc st2 k2 m=>?_) (λr c st2 k2 hr=>LD (.fin k2 r rfl hr)) (t5 λia ib out ac bc st2 k2 m=>?_)
 ·refine D6 hO (k2.kind.trans hk) m.eb m.ea (kb _ (LV _)) (ka _ (LV _)) ?_;refine aV (λq=>?_) λq=>?_
  ·have m':=MB.push m.m m.ea m.eb (MJ q);refine Lz (bw m.ea ?_);refine aV (λq=>LD (.fin k2 _ rfl (doneA m' q))) λq=>?_;have l':HB κ a b (x+x'+1+1) ia (ib+1) _:=⟨m',de (Ly _) q,m.pb,Mf m.la,m.lb,n1 m.t (by simp +arith only)⟩
   exact bx (λ_=>LD (.go k2 rfl (l'.of (by simp +arith only)))) λ_=>LD ⟨k2,rfl,l'⟩
  ·have m':=(MB.push m.m.sw m.eb m.ea q).sw;refine Lz (bw m.eb ?_);refine aV (λq=>LD (.fin k2 _ rfl (firstB m' q))) λq=>?_;have l':HB κ a b (x+x'+1+1) (ia+1) ib _:=⟨m',m.pa,de (LR m.pb) q,m.la,LM m.lb,n1 m.t (by simp +arith only)⟩
   exact bx (λ_=>LD (.go k2 rfl (l'.of (by simp +arith only)))) λ_=>LD ⟨k2,rfl,l'⟩
 refine Lz (QT (OC ⟨rfl,?_⟩));refine wL (a:=a) (b':=b) (κ:=κ) (I:=λx' c=>HB κ a b (x+x'+2) c.1 c.2.1 c.2.2.1) (G:=λc=>HB κ a b (x+2) c.1 c.2.1 c.2.2.1) k2 m (λc m=>m.over (n1 (LX 0 _) (by simp +arith only))) (λx'=>hb5 λia ib out mg (acbc:Nat × Nat) st2 k2 m=>?_) (λr c st2 k2 hr=>LD (.fin k2 r rfl hr)) (t6 λia ib out mg ac bc st3 k3 m=>Lz (Px (LD ⟨⟨k3.kind,k3.arr,k3.pend,k3.failed⟩,rfl,m⟩)));extract_lets -underBinder -merge +onlyGivenNames _ o _ i _ j _ g _ ac' bc' jp;refine IQ (F:=jp ()) λg'=>Lz (Px (Lz (bw m.eb (Lz (sZ hO (k2.kind.trans hk) (kb _ (LV _)) ka (sa.from 0 _) (iF (Lw (Nb _)) (LM m.la)) (MF ia) λk h1 h2 h3=>?_)))));have k3:KpM st (RD (kindOf st2) (arrOf st2) (pendingOf st2) g' (failedOf st2)):=⟨k2.kind,k2.arr,k2.pend,k2.failed⟩
 dsimp -zeta only;extract_lets -underBinder -merge +onlyGivenNames kk ac2 jp2;have low:∀n,0<n->n<=k->∀x,a[n-1]?=aT x->κ.kle (kof κ x) (kof κ (b[ib]'m.lb)):=λn n0 hn x e=>h2 (n-1) (Lp (Oc n0 NF) hn) x (by rw [Nb];exact e);refine yZ (F:=jp2 ()) (H:=λn' out'=>HB κ a b (x+x'+2) n' (ib+1) out'/\∀x,a[n'-1]?=aT x->κ.kle (kof κ x) (kof κ (b[ib]'m.lb))) ?_ λkey2=>?_
 ·rintro n' out' ⟨n,d3⟩
  obtain ⟨p,_,rfl,_⟩:=n.pos;have m':=(MB.push n.m.sw n.eb n.ea (d3 _ n.ea)).sw;refine Lz (bw n.eb ?_);refine aV (λq=>LD (.fin k3 _ rfl (firstB m' q))) λq=>?_;have q:=de (LR n.pb) q;refine Lz (bw n.ea (Lz (s6 hO (k2.kind.trans hk) (ka _ (LV _)) kb (sb.from 0 _) (iF (Lw (Nb _)) (LM n.lb)) (Oc (Mf q) NF) λk' h1' h2' h3'=>?_)));dsimp -zeta only;extract_lets -underBinder -merge +onlyGivenNames kk2 bc2 jp3;have low':∀c,0<c->c<=k'->∀y,b[c-1]?=aT y->κ.kle (kof κ y) (kof κ (a[p]'(Mf n.la))):=λc n0 hn y e=>MJ (h2' (c-1) (Lp (Oc n0 NF) hn) y (by rw [Nb];exact e));refine yZ (F:=jp3 ()) (H:=λn' out'=>HB κ a b (x+x'+2) (p+1) n' out'/\∀y,b[n'-1]?=aT y->κ.kle (kof κ y) (kof κ (a[p]'(Mf n.la)))) ?_ λkey3=>?_
  ·rintro n' out' ⟨n,f3⟩
   obtain ⟨_,t,_,rfl⟩:=n.pos;refine Lz (bw n.ea ?_);have m':=MB.push n.m n.ea n.eb (f3 _ n.eb);refine aV (λq=>LD (.fin k3 _ rfl (doneA m' q))) λq=>?_;have l':HB κ a b (x+(x'+1)+2) p (t+1) _:=⟨m',de (Ly _) q,n.pb,Mf n.la,n.lb,n1 n.t (by simp +arith only)⟩
   exact aV (λ_=>LD (.go k3 rfl (l'.of (by simp +arith only)))) λ_=>LD ⟨k3,rfl,l'⟩
  have h1':k'<=ib:=h1';have tt:∀{y},y<=ib->x+x'+2+(p+1)+y<=a.size+b.size:=λh=>n2 h n.t (by simp +arith only);refine bx (λz=>?_) λz=>?_
  ·have m'':=(MB.bulk m'.sw n.ea h1' λz hz hzn x e=>h3' z hz hzn x (by rw [Nb];exact e)).sw;refine aV (λq=>LD (.fin k3 _ rfl (firstB m'' q))) λq3=>?_;refine aV (λq=>LD (.fin k3 _ rfl (m''.done (.inl (eq_of_beq q))))) λq4=>?_;have q4:=de (Ly _) q4;exact key3 k' _ ⟨⟨m'',n.pa,de q4 q3,n.la,iF h1' (LM n.lb),tt h1'⟩,low' k' q4 (nO _)⟩
  ·cases Ou h1' (Oj (OW z))
   exact key3 ib _ ⟨⟨m',n.pa,q,n.la,LM n.lb,tt h1'⟩,low' ib (Mf q) (nO _)⟩
 have h1:k<=ia+1:=h1;refine bx (λz=>?_) λz=>?_
 ·have m'':=MB.bulk m.m m.eb h1 λz hz hzn x e=>MJ (h3 z hz hzn x (by rw [Nb];exact e));refine aV (λq=>LD (.fin k3 _ rfl (doneA m'' q))) λq=>?_;have q:=de (Ly _) q;exact key2 k _ ⟨⟨m'',q,m.pb,IT h1 m.la,m.lb,n2 h1 m.t (by simp +arith only)⟩,low k q (nO _)⟩
 ·cases Ou h1 (Oj (OW z))
  exact key2 (ia+1) _ ⟨m,low (ia+1) (N6 _) (nO _)⟩
end
open PyProof.Rows renaming wpS -> wpM
section
variable {α:Type}{a:Array α}{P X R:List α}
theorem gQ (e:a.toList=P++(X++R)){i:Nat}(hi:i<X.length):a[P.length+i]?=X[i]?:=by
 rw [<-Mb,e,LU (LQ _ _),Nx,Ms hi]
theorem uu (e:a.toList=P++(X++R)):(a.extract P.length (P.length+X.length)).toList=X:=by
 rw [ut,e,List.drop_left,Q8]
theorem qS (e:a.toList=P++(X++R)):P.length+X.length<=a.size:=by
 rw [<-LP,e,iN,iN,<-Pr];exact LQ _ _
theorem wb {m:List α}{s:Nat}:∀{a:Array α}{P X:List α}{c:Nat},a.toList=P++(X++R)->P.length=s+c->X.length=m.length->((m.zipIdx c).foldl (λa x=>a.setIfInBounds (s+x.2) x.1) a).toList=P++(m++R):=by
 induction m with
 | nil=>intro a P X c e hP hX;rw [Nc.mp hX] at e;exact e
 | cons z m ih=>
  intro a P X c e hP hX;obtain ⟨x,X,rfl⟩:=List.exists_cons_of_length_eq_add_one hX;have:=ih (a:=a.setIfInBounds (s+c) z) (P:=P++[z]) (X:=X) (c:=c+1) (by rw [Array.toList_setIfInBounds,e,<-hP,P0 _ _ (nO _),Pj,DO];rfl) (by rw [iN,hP];rfl) (Nat.succ.inj hX);rw [DO] at this;exact this
end
section
variable {prog:M6}{w:Ni}{A:MP}{E:rW->Do->Prop}{s:Do}{κ:KeyKind}
theorem FW {σ:Type}{M:Qi}{Q:Unit->σ->Prop}{st st':σ}(h:Q () st'):wpM M A E s (set st':StateT σ Sem Unit) Q st:=EQ ⟨rfl,h⟩
theorem mP.seg {a:Array Keyed}{P X R:List Keyed}(e:a.toList=P++(X++R))(h:Srt κ X):mP κ a P.length X.length:=λi j x y hij hj e1 e2=>by
 rw [gQ e (IT hij hj)] at e1;rw [gQ e hj] at e2
 rcases Nat.eq_or_lt_of_le hij with rfl | hij
 ·cases e1.symm.trans e2;exact N2 _
 ·obtain ⟨h1,rfl⟩:=By.mp e1;obtain ⟨h2,rfl⟩:=By.mp e2;exact Oq.mp h i j h1 h2 hij
theorem BX {st st':SortSt}{M:Qi}{Q:Unit->SortSt->Prop}(h:∀st1,arrOf st1=arrOf st'->pendingOf st1=pendingOf st'->kindOf st1=kindOf st'->failedOf st1=failedOf st'->Q () st1):wpM M A E s (set st':StateT SortSt Sem Unit) Q st:=FW (h _ rfl rfl rfl rfl)
theorem IV {α:Type}{a:Array α}{P X R:List α}{k b n:Nat}{p q:α->Prop}(e:a.toList=P++(X++R))(hb:P.length=b)(hn:X.length=n)(hk:k<=n)(h1:∀i,i<k->∀x,a[b+i]?=aT x->p x)(h2:∀i,k<=i->i<n->∀x,a[b+i]?=aT x->q x):∃X1 X2,X=X1++X2/\X1.length=k/\(∀x∈X1,p x)/\∀x∈X2,q x:=by
 subst hb hn;refine ⟨X.take k,X.drop k,(Mj _ _).symm,PR hk,λx hx=>?_,λx hx=>?_⟩
 ·refine e11 (O6.mp hx) λi e'=>?_
  rcases OU i k with l | l
  ·rw [List.getElem?_take_of_lt l] at e';exact h1 i l x ((gQ e (Lp l hk)).trans e')
  ·exact aK (List.getElem?_take_eq_none l) e'
 ·refine e11 (O6.mp hx) λi e'=>?_;rw [List.getElem?_drop] at e';have l:=(By.mp e').1;exact h2 (k+i) (LQ _ _) l x ((gQ e l).trans e')
theorem FX {α:Type}{l:List α}(q:(l.length==0)=bY):∃X xl,l=X++[xl]:=by
 rcases List.eq_nil_or_concat l with rfl | ⟨X,xl,rfl⟩
 ·cases q
 ·exact ⟨X,xl,List.concat_eq_append⟩
theorem IW {σ α β:Type}{M:Qi}{c:Prop} [Decidable c] {X Y:StateT σ Sem α}{F:α->StateT σ Sem β}{Q:β->σ->Prop}{st:σ}(h:wpM M A E s X (λa st=>wpM M A E s (F a) Q st) st/\wpM M A E s Y (λa st=>wpM M A E s (F a) Q st) st):wpM M A E s (if c then X >>= F else Y >>= F) Q st:=bx (λ_=>Lz h.1) λ_=>Lz h.2
theorem FY {X1 X2 Y1 Y2 m:List Keyed}(sX:Srt κ (X1++X2))(sY:Srt κ (Y1++Y2))(c1:∀x∈X1,∀y∈Y1++Y2,κ.kle (kof κ x) (kof κ y))(c2:∀x∈X2,∀y∈Y2,κ.kle (kof κ x) (kof κ y))(hp:m.Perm (X2++Y1))(sm:Srt κ m) :
  (X1++(m++Y2)).Perm (X1++X2++(Y1++Y2))/\Srt κ (X1++(m++Y2)):=by
 refine e03 (LH.mp sX) λs1 s2 s3=>?_;refine e03 (LH.mp sY) λt1 t2 t3=>?_;refine ⟨?_,LH.mpr ⟨s1,LH.mpr ⟨sm,t2,λz hz y hy=>?_⟩,λx hx z hz=>?_⟩⟩
 ·rw [DO];refine QS.append_left X1 ?_;rw [<-DO X2];exact hp.append_right Y2
 ·refine MN (Lg.mp (hp.mem_iff.mp hz)) (λh=>?_) λh=>?_
  ·exact c2 z h y hy
  ·exact t3 z h y hy
 ·refine MN (Lg.mp hz) (λhz=>?_) λhz=>?_
  ·refine MN (Lg.mp (hp.mem_iff.mp hz)) (λh=>?_) λh=>?_
   ·exact s3 x hx z h
   ·exact c1 x hx z (LC _ h)
  ·exact c1 x hx z (Lx _ hz)
theorem KA (hO:κ.OneLt){a b:Array Keyed}{st:SortSt}{Q:Array Keyed->SortSt->Prop}{X Y:List Keyed}{xl y0:Keyed}(hk:kindOf st=oneType')(ka:∀x∈a.toList,aG κ x)(kb:∀x∈b.toList,aG κ x)(sa:Srt κ a.toList)(sb:Srt κ b.toList)
  (ea:a.toList=X++[xl]) (eb:b.toList=y0::Y) (ha:∀x∈a.toList,κ.kle (kof κ y0) (kof κ x)) (hb:∀y∈b.toList,κ.kle (kof κ y) (kof κ xl)) (h:∀m st',Mgd κ (a.toList++b.toList) m->KpM st st'->Q m st') :
  wpM (model prog w) A E s (mlo a b) Q st/\wpM (model prog w) A E s (mhi a b) Q st:=by
 have za:a.size=X.length+1:=by rw [<-LP,ea,iN];rfl
 have zb:b.size=Y.length+1:=by rw [<-LP,eb];rfl
 have el:a[a.size-1]?=aT xl:=by
  rw [<-Mb,za,ea,Nat.add_sub_cancel,LU (nO _),Pj];rfl
 have e0:b[0]?=aT y0:=by rw [<-Mb,eb];rfl
 have l1:0<a.size:=za▸N6 _;have l2:b.size-1<b.size:=Oc (zb▸N6 _) NF;have e1:=Li l1;have e2:=Li l2;exact ⟨IR hO hk ka kb sa sb e1 e0 (ha _ (LV _)) el hb h,IU hO hk ka kb sa sb el e2 (hb _ (LV _)) e0 ha h⟩
theorem FZ {α:Type}{y0:α}{Y Y1 Y2:List α}{k:Nat}(h:y0::Y=Y1++Y2)(hk:¬ k=0)(hl:Y1.length=k):∃Z,Y1=y0::Z:=by
 cases Y1 with
 | nil=>exact absurd hl.symm hk
 | cons z Z=>injection h with h1 h2;exact ⟨Z,by rw [h1]⟩
theorem IX (hO:κ.OneLt){i b n c n' pw q:Nat}{st:SortSt}{P X Y R:List Keyed}{y0:Keyed}{Q:Bool->SortSt->Prop}(hk:kindOf st=oneType')(e:(arrOf st).toList=P++(X++(y0::Y++R)))(hb:P.length=b)(hn:X.length=n)(hc:b+n=c)(hn':(y0::Y).length=n')(p1:(pendingOf st)[i]?=aT (b,n,pw))(p2:(pendingOf st)[i+1]?=aT (c,n',q))
  (ks:∀x∈(arrOf st).toList,aG κ x) (nX:0<n) (sX:Srt κ X) (sY:Srt κ (y0::Y))
  (H:∀st1,arrOf st1=arrOf st->pendingOf st1=((pendingOf st).setIfInBounds i (b,n+n',pw)).eraseIdxIfInBounds (i+1)->kindOf st1=kindOf st->failedOf st1=failedOf st->∀X1 X2,X=X1++X2->(∀x∈X1,κ.kle (kof κ x) (kof κ y0))->(∀x∈X2,κ.klt (kof κ y0) (kof κ x))->(X2=[]->Q eQ st1)/\∀X3 xl,X2=X3++[xl]->
   ∀Y1 Y2,y0::Y=Y1++Y2->(∀y∈Y1,κ.klt (kof κ y) (kof κ xl))->(∀y∈Y2,κ.kle (kof κ xl) (kof κ y))->(Y1=[]->Q eQ st1)/\∀m st',Mgd κ (X2++Y1) m->KpM st1 st'->∀a,a=List.foldl (λ(a:Array Keyed) (x:Keyed × Nat)=>a.setIfInBounds (b+X1.length+x.2) x.1) (arrOf st') m.toList.zipIdx->Q (failedOf st').isNone (setArr st' a)):wpM (model prog w) A E s (mergeAt' i) Q st:=by
 have eY:(arrOf st).toList=(P++X)++(y0::Y++R):=e.trans (DO _ _ _).symm;have lX:(P++X).length=c:=by rw [iN,hb,hn,hc]
 have g0:=gQ eY (i:=0) (N6 _);have z1:=qS e;have z2:=qS eY;have t1:=mP.seg e sX;have t2:=mP.seg eY sY;rw [lX,hn'] at z2 t2;rw [lX] at g0;rw [hb,hn] at z1 t1;have k0:aG κ y0:=ks _ (by rw [eY];exact Lx _ (.head _));have n0:0<n':=hn'▸N6 _;refine Lz (Qn ?_);rw [p1,p2];refine Lz (BX λst1 a1 a2 a3 a4=>?_);have hk1:=a3.trans hk;refine Lz (bw g0 (Lz (sZ hO hk1 k0 ks t1 z1 nX λk h1 h2 h3=>?_)));refine e24 (IV e hb hn h1 h2 h3) λX1 X2 hX lX1 c1 c2=>?_;refine e02 (H st1 a1 a2 a3 a4 X1 X2 hX c1 c2) λH1 H2=>?_;clear h1 h2 h3 H;have l2:n-k=X2.length:=by rw [<-hn,hX,iN,lX1,Nx]
 refine aV (λq=>LD (H1 (Nc.mp (l2.symm.trans (eq_of_beq q))))) λq=>?_;refine e21 (FX (l2▸q)) λX3 xl h3=>?_;have H3:=H2 X3 xl h3;clear H1 H2;have e1:(arrOf st).toList=(P++X1)++(X2++(y0::Y++R)):=by rw [e,hX,DO,DO]
 have e4:(arrOf st).toList=(P++X1++X3)++([xl]++(y0::Y++R)):=by rw [e1,h3,DO X3,DO (P++X1)]
 have l1:(P++X1).length=b+k:=by rw [iN,lX1,hb]
 have el:=gQ e4 (i:=0) (N6 _);have kl:aG κ xl:=ks _ (by rw [e4];exact Lx _ (.head _));have l5:b+k+X2.length=c:=by rw [<-hc,<-hn,hX,iN,lX1,Pr]
 refine Lz (bw (p:=xl) ?_ (Lz (s6 hO hk1 kl ks t2 z2 (Oc n0 NF) λj h1 h2 h3'=>?_)))
 ·rw [iN,l1] at el;rw [l2,h3,iN];exact el
 refine e24 (IV eY lX hn' h1 h2 h3') λY1 Y2 hY lY1 d1 d2=>?_;refine e02 (H3 Y1 Y2 hY d1 d2) λH1 H2=>?_;clear h1 h2 h3' H3;refine aV (λq=>LD (H1 (Nc.mp (lY1.trans (eq_of_beq q))))) λq=>?_;have e5:(arrOf st).toList=(P++X)++(Y1++(Y2++R)):=by rw [eY,hY,DO Y1]
 have ea:=uu e1;have eb:=uu e5;rw [l1,l5] at ea;rw [lX,lY1] at eb;refine e11 (FZ hY (ne_of_beq_false q) lY1) λY1' hy=>?_;refine IW (KA hO hk1 (λx hx=>ks x ?_) (λx hx=>ks x ?_) ?_ ?_ (ea.trans h3) (eb.trans hy) ?_ ?_ λm st' hM hK=>?_)
 ·rw [e1,<-ea];exact Lx _ (LC _ hx)
 ·rw [e5,<-eb];exact Lx _ (LC _ hx)
 ·rw [ea];exact (LH.mp (hX▸sX)).2.1
 ·rw [eb];exact (LH.mp (hY▸sY)).1
 ·rw [ea];exact λx hx=>MJ (c2 x hx)
 ·rw [eb];exact λx hx=>MJ (d1 x hx)
 rw [ea,eb] at hM;exact Lz (Px (Lz (Qn (LD (H2 m st' hM hK _ (lX1▸rfl))))))
theorem IY {X Y:List Keyed}(sX:Srt κ X)(sY:Srt κ Y){z:Keyed}(h1:∀x∈X,κ.kle (kof κ x) (kof κ z))(h2:∀y∈Y,κ.kle (kof κ z) (kof κ y)):Srt κ (X++Y):=LH.mpr ⟨sX,sY,λx hx y hy=>NN (h1 x hx) (h2 y hy)⟩
theorem KB (hO:κ.OneLt){i pw q:Nat}{st:SortSt}{P X Y R:List Keyed}{Q:Bool->SortSt->Prop}(hk:kindOf st=oneType')(e:(arrOf st).toList=P++(X++(Y++R)))(p1:(pendingOf st)[i]?=aT (P.length,X.length,pw))(p2:(pendingOf st)[i+1]?=aT (P.length+X.length,Y.length,q))
  (ks:∀x∈(arrOf st).toList,aG κ x) (nX:0<X.length) (nY:0<Y.length) (sX:Srt κ X) (sY:Srt κ Y) (hf:failedOf st=iD)
  (h:∀C st',C.Perm (X++Y)->Srt κ C->(arrOf st').toList=P++(C++R)->pendingOf st'=((pendingOf st).setIfInBounds i (P.length,X.length+Y.length,pw)).eraseIdxIfInBounds (i+1)->kindOf st'=kindOf st->failedOf st'=iD->Q eQ st'):wpM (model prog w) A E s (mergeAt' i) Q st:=by
 cases Y with
 | nil=>exact nf nY
 | cons y0 Y=>
 refine IX hO hk e rfl rfl rfl rfl p1 p2 ks nX sX sY λst1 a1 a2 a3 a4 X1 X2 hX c1 c2=>?_;have a4:=a4.trans hf;have sY':=Nd.mp sY;have y0Y:∀y∈y0::Y,κ.kle (kof κ y0) (kof κ y):=List.forall_mem_cons.mpr ⟨N2 _,sY'.1⟩;have e1:(arrOf st1).toList=P++((X++(y0::Y))++R):=by rw [a1,e,DO]
 refine ⟨λh0=>?_,λX3 xl h3 Y1 Y2 hY d1 d2=>?_⟩
 ·rw [h0,LJ] at hX;exact h _ st1 .rfl (IY sX sY (hX▸c1) y0Y) e1 a2 a3 a4
 have xX:∀x∈X,κ.kle (kof κ x) (kof κ xl):=λx hx=>by
  rw [hX,h3,<-DO] at hx sX;refine MN (Lg.mp hx) (λhx=>?_) λhx=>?_
  ·exact (LH.mp sX).2.2 x hx xl (.head _)
  ·cases oF.mp hx;exact N2 _
 refine ⟨λh0=>?_,λm st' hM hK a ea=>?_⟩
 ·rw [h0] at hY;exact h _ st1 .rfl (IY sX sY xX (hY▸d2)) e1 a2 a3 a4
 refine e02 (FY (hX▸sX) (hY▸sY) (λx hx y hy=>NN (c1 x hx) (y0Y y (hY▸hy))) (λx hx y hy=>NN (xX x (hX▸Lx _ hx)) (d2 y hy)) hM.1 hM.2) λm1 m2=>?_;rw [hK.failed,a4];rw [<-hX,<-hY] at m1;refine h _ (setArr st' a) m1 m2 ?_ (hK.pend.trans a2) (hK.kind.trans a3) (hK.failed.trans a4);refine (congrArg Array.toList ea).trans ?_;rw [hK.arr];refine (wb (P:=P++X1) (R:=Y2++R) (c:=0) ?_ iN hM.1.length_eq.symm).trans ?_
 ·rw [e1,hX,hY];simp only [DO]
 ·simp only [DO]
end
open PyProof.Rows renaming wpS -> wpM
section
variable {prog:M6}{w:Ni}{A:MP}{E:rW->Do->Prop}{s:Do}{κ:KeyKind}
noncomputable def Up (κ:KeyKind)(a:Array Keyed)(lo n:Nat):Prop:=∀i j,i<=j->j<n->κ.kle (KK κ a (lo+i)) (KK κ a (lo+j))
structure SI (lo:Nat)(st st':SortSt):Prop where
 kind:kindOf st'=kindOf st
 pend:pendingOf st'=pendingOf st
 failed:failedOf st'=failedOf st
 perm:(arrOf st').Perm (arrOf st)
 low:∀p,p<lo->(arrOf st')[p]?=(arrOf st)[p]?
theorem SI.self {lo:Nat}{st:SortSt}:SI lo st st:=⟨rfl,rfl,rfl,.refl _,λ_ _=>rfl⟩
theorem SI.size {lo:Nat}{st st':SortSt}(h:SI lo st st'):(arrOf st').size=(arrOf st).size:=h.perm.size_eq
theorem SI.keys {lo:Nat}{st st':SortSt}(h:SI lo st st')(ks:∀x∈(arrOf st).toList,aG κ x):∀x∈(arrOf st').toList,aG κ x:=λx hx=>ks x ((Of.mp h.perm).mem_iff.mp hx)
theorem j9 (hO:κ.OneLt){st:SortSt}{i j:Nat}{Q:Option Bool->SortSt->Prop}(hk:kindOf st=oneType')(ks:∀x∈(arrOf st).toList,aG κ x)(hi:i<(arrOf st).size)(hj:j<(arrOf st).size)
  (h:Q (aT (κ.blt (KK κ (arrOf st) i) (KK κ (arrOf st) j))) st):wpM (model prog w) A E s (ltAt' i j) Q st:=by
 have e1:(arrOf st)[i]?=aT (arrOf st)[i]:=Li hi;have e2:(arrOf st)[j]?=aT (arrOf st)[j]:=Li hj;unfold KK at h;rw [e1,e2] at h;exact Lz (Qn (Lz (bw e1 (Lz (bw e2 (BV hO hk (ks _ (LV _)) (ks _ (LV _)) h))))))
theorem F0 {a:Array Keyed}{lo:Nat}:Up κ a lo 1:=λi j hij hj=>by
 cases Nat.lt_one_iff.mp hj
 cases QC.mp hij
 exact N2 _
theorem IZ {f:Nat->Option (Option Nat) × Nat->StateT SortSt Sem (ForInStep (Option (Option Nat) × Nat))}{lo a nrem:Nat}{st:SortSt}{Q:Option (Option Nat) × Nat->SortSt->Prop}
  (hf:∀x n (Q:ForInStep (Option (Option Nat) × Nat)->SortSt->Prop),1<=n->n<nrem->(κ.klt (KK κ (arrOf st) (lo+n)) (KK κ (arrOf st) (lo+n-1))->Q (.done (iD,n)) st)->(κ.kle (KK κ (arrOf st) (lo+n-1)) (KK κ (arrOf st) (lo+n))->Q (.yield (iD,n+1)) st)->wpM (model prog w) A E s (f x (iD,n)) Q st)
  (ha:1<=a) (han:a<=nrem) (hs:Up κ (arrOf st) lo a) (h:∀n,a<=n->n<=nrem->Up κ (arrOf st) lo n->(n=nrem\/κ.klt (KK κ (arrOf st) (lo+n)) (KK κ (arrOf st) (lo+n-1)))->Q (iD,n) st) :
  wpM (model prog w) A E s (forIn [a:nrem] (iD,a) f) Q st:=by
 refine PO (I:=λx c st'=>st'=st/\c=(iD,x)/\Up κ (arrOf st) lo x) ?_ ?_ ⟨rfl,rfl,hs⟩
 ·rintro x c st' hax hxn ⟨rfl,rfl,hs'⟩
  refine hf x x _ (iF ha hax) hxn (λq=>h x hax (LM hxn) hs' (.inr q)) λq=>⟨rfl,rfl,λi j hij hj=>?_⟩
  rcases Og (LR hj) with hj | rfl
  ·exact hs' i j hij hj
  ·rcases Og hij with hij | rfl
   ·have h0:=IT (Ly _) hij;have:=hs' i (j-1) (Pe hij) (Oc h0 NF);rw [<-QH h0] at this;exact NN this q
   ·exact N2 _
 ·rintro c st' ⟨rfl,rfl,hs'⟩
  rw [QW han] at hs' ⊢;exact h nrem han (nO _) hs' (.inl rfl)
theorem ix {lo n m N:Nat}(h:n<m)(hn:lo+m<=N):lo+n<N:=n2 h hn (by simp +arith only)
theorem ix1 {lo n m N:Nat}(h:n<m)(hn:lo+m<=N):lo+n-1<N:=IT (N1 _ _) (ix h hn)
noncomputable def Dw (κ:KeyKind)(a:Array Keyed)(lo n:Nat):Prop:=∀i j,i<j->j<n->κ.klt (KK κ a (lo+j)) (KK κ a (lo+i))
theorem Dw.next {a:Array Keyed}{lo x:Nat}(h:Dw κ a lo x)(q:κ.klt (KK κ a (lo+x)) (KK κ a (lo+x-1))):Dw κ a lo (x+1):=λi j hij hj=>by
 rcases Og (LR hj) with hj | rfl
 ·exact h i j hij hj
 ·have h0:=IT (Ly _) hij;rw [QH h0] at q
  rcases Og (Pe hij) with hi | rfl
  ·exact KeyOrd.klt_of_klt_of_kle q (MJ (h i (j-1) hi (Oc h0 NF)))
  ·exact q
theorem mir {lo m i:Nat}(h:i<m):lo+(lo+m)-1-(lo+i)=lo+(m-1-i):=by
 obtain ⟨d,rfl⟩:=Nat.exists_eq_add_of_lt h;show lo+(lo+(i+d))-(lo+i)=lo+(i+d-i);rw [Nx];exact Nat.sub_eq_of_eq_add (by simp +arith only)
theorem Dw.turn {a:Array Keyed}{lo m:Nat}(h:Dw κ a lo m)(hz:lo+m<=a.size):Up κ (mirror a lo (lo+m) ((lo+m-lo) / 2)) lo m/\∀p,p<lo->(mirror a lo (lo+m) ((lo+m-lo) / 2))[p]?=a[p]?:=by
 refine ⟨λi j hij hj=>?_,λp hp=>by rw [getElem?_mirror_all hz,if_neg λq=>N7 p (Lp hp q.1)]⟩;have hi:=IT hij hj;rw [KK_mirror hz,KK_mirror hz,if_pos ⟨LQ _ _,N4 hi _⟩,if_pos ⟨LQ _ _,N4 hj _⟩,mir hi,mir hj]
 rcases Og hij with hij | rfl
 ·exact MJ (h _ _ (Nat.sub_lt_sub_left (Lp hij (Pe hj)) hij) (IT (N1 _ _) (Oc (IT (Ly _) hj) NF)))
 ·exact N2 _
theorem I0 (hO:κ.OneLt){st:SortSt}{lo nrem:Nat}{Q:Option Nat->SortSt->Prop}(hk:kindOf st=oneType')(ks:∀x∈(arrOf st).toList,aG κ x)(hd:∀i j,i<j->j<(arrOf st).size->KK κ (arrOf st) i≠KK κ (arrOf st) j)(hn:lo+nrem<=(arrOf st).size)(h1:1<=nrem)
  (h:∀m st',SI lo st st'->1<=m->m<=nrem->Up κ (arrOf st') lo m->Q (aT m) st'):wpM (model prog w) A E s (countRun' lo nrem) Q st:=by
 refine Lz (IZ (κ:=κ) (lo:=lo) (λx n Q g1 g2 g3 g4=>Lz (j9 hO hk ks (ix g2 hn) (ix1 g2 hn) (aV (λq=>LD (g3 q)) λq=>LD (g4 q)))) (nO 1) h1 F0 λn g1 g2 g3 g4=>?_);refine aV (λq=>LD (h n st .self g1 g2 g3)) λq=>?_;have q:=Nu g2 (ne_of_beq_false q);refine bx (λq2=>?_) λq2=>?_
 ·have e:=QH g1 lo;have i2:=Oc g1 NF;refine Lz (j9 hO hk ks (ix h1 hn) (ix1 q hn) (aV (λ_=>LD (h n st .self g1 g2 g3)) λq3=>?_));refine absurd (KeyOrd.kle_antisymm ?_ q3) (hd lo (lo+n-1) (by rw [e];exact Nat.lt_add_of_pos_right (NA q2)) (ix1 q hn));rw [e];exact g3 0 (n-1) (Ly _) i2
 cases Ou (Nat.le_of_not_lt q2) g1
 refine Lz (QT (OC ⟨rfl,?_⟩));refine Lz (QU (PO (I:=λx c st'=>st'=st/\c=(iD,x,0)/\Dw κ (arrOf st) lo x)
  (Q:=λc st'=>st'=st/\c.1=iD/\c.2.2=0/\1<=c.2.1/\c.2.1<=nrem/\Dw κ (arrOf st) lo c.2.1) ?_ ?_ ⟨rfl,rfl,Dw.next (λi j hij hj=>absurd hij (Oz.mpr (iF (LR hj) (Ly _)))) (g4.resolve_left (Mn q))⟩) ?_)
 ·rintro x c st' hax hxn ⟨rfl,rfl,hs'⟩
  have hax:1<=x:=LM hax;refine Lz (j9 hO hk ks (ix hxn hn) (ix1 hxn hn) (aV (λq=>?_) λq=>?_))
  ·exact bx (λz=>absurd z (N7 0)) λ_=>LD ⟨rfl,rfl,hs'.next q⟩
  ·refine Lz (j9 hO hk ks (ix1 hxn hn) (ix hxn hn) (aV (λ_=>LD ⟨rfl,rfl,rfl,hax,LM hxn,hs'⟩) λq3=>?_));exact absurd (KeyOrd.kle_antisymm q q3) (hd (lo+x-1) (lo+x) (Oc (Lp hax (Nl _ _)) NF) (ix hxn hn))
 ·rintro c st' ⟨rfl,rfl,hs'⟩
  rw [QW q] at hs' ⊢;exact ⟨rfl,rfl,rfl,h1,nO _,hs'⟩
 rintro ⟨_,m,_⟩ st' ⟨rfl,rfl,rfl,m1,m2,hs'⟩
 refine bx (λz=>absurd z (N7 0)) λ_=>?_;refine e02 (hs'.turn (iF (Mh m2 lo) hn)) λu1 u2=>?_;have hI:SI lo st' (setArr st' (mirror (arrOf st') lo (lo+m) ((lo+m-lo) / 2))):=⟨rfl,rfl,rfl,mirror_perm _ _ _ _,u2⟩
 have hn2:=hI.size.symm▸hn;exact Lz (wpS_reverse (Lz (IZ (κ:=κ) (lo:=lo) (λx n Q g1 g2 g3 g4=>Lz (j9 hO hk (hI.keys ks) (ix g2 hn2) (ix1 g2 hn2) (aV (λq=>LD (g3 q)) λq=>LD (g4 q)))) m1 m2 u1 λn g1 g2 g3 g4=>LD (h n _ hI (iF m1 g1) g2 g3))))
end
open PyProof.Rows renaming wpS -> wpM
section
variable {prog:M6}{w:Ni}{A:MP}{E:rW->Do->Prop}{s:Do}{κ:KeyKind}
theorem SI.tr {lo:Nat}{st st' st2:SortSt}(h:SI lo st st')(h2:SI lo st' st2):SI lo st st2:=⟨h2.kind.trans h.kind,h2.pend.trans h.pend,h2.failed.trans h.failed,h2.perm.trans h.perm,λp hp=>(h2.low p hp).trans (h.low p hp)⟩
theorem KC {b:Bool}(h:(!b)=eQ):b=bY:=by
 cases b with
 | true=>exact h.symm
 | false=>rfl
theorem KD {b:Bool}(h:(!b)=bY):b=eQ:=by
 cases b with
 | true=>rfl
 | false=>exact h.symm
theorem mid {l r:Nat}(h:¬ l≥r):l<=(l+r) / 2/\(l+r) / 2<r:=have h:=OO h
 ⟨(Nat.le_div_iff_mul_le Nat.two_pos).mpr (n1 h (by simp +arith only)),(Nat.div_lt_iff_lt_mul Nat.two_pos).mpr (n1 h (by simp +arith only))⟩
theorem Up.ins {a:Array Keyed}{lo k l:Nat}(hz:lo+k<a.size)(hs:Up κ a lo k)(hl:l<=k)(g4:∀i,i<l->κ.kle (KK κ a (lo+i)) (KK κ a (lo+k)))(g5:∀i,l<=i->i<k->κ.kle (KK κ a (lo+k)) (KK κ a (lo+i))) :
  Up κ (bubble a (lo+k) (lo+k-(lo+l))) lo (k+1)/\∀p,p<lo->(bubble a (lo+k) (lo+k-(lo+l)))[p]?=a[p]?:=by
 have e0:lo+k-(lo+k-(lo+l))=lo+l:=Nat.sub_sub_self (Mh hl lo);have eB:=getElem?_bubble hz _ (N1 (lo+k) (lo+l));rw [e0] at eB;generalize bubble a (lo+k) (lo+k-(lo+l))=c at eB ⊢;have eL:KK κ c (lo+l)=KK κ a (lo+k):=KK_congr (by rw [eB,if_pos rfl]);have lt:∀{i},i<lo+l->c[i]?=a[i]?:=λ{i} h=>by rw [eB,if_neg (Mn h),if_neg (λq=>Nat.lt_asymm h q.1)]
 have eS:∀i,i<l->KK κ c (lo+i)=KK κ a (lo+i):=λi hi=>KK_congr (lt (N4 hi _));have eG:∀i,l<=i->i<k->KK κ c (lo+(i+1))=KK κ a (lo+i):=λi hi hk=>KK_congr (by
  rw [eB,if_neg (LY (N4 (O9 hi) lo)),if_pos ⟨N4 (O9 hi) lo,Mh hk lo⟩];rfl)
 refine ⟨λi j hij hj=>?_,λp hp=>lt (Lp hp (LQ _ _))⟩;have hj:=LR hj
 rcases QB i l with a1 | rfl | a1
 ·rw [eS i a1]
  rcases QB j l with a2 | rfl | a2
  ·rw [eS j a2];exact hs _ _ hij (Lp a2 hl)
  ·rw [eL];exact g4 i a1
  ·obtain ⟨j,rfl⟩:=NB (LY (IT (Ly _) a2));have a2:=LR a2;rw [eG j a2 hj];exact hs _ _ (iF (LM a1) a2) hj
 ·rw [eL]
  rcases Og hij with a2 | rfl
  ·obtain ⟨j,rfl⟩:=NB (LY (IT (Ly _) a2));have a2:=LR a2;rw [eG j a2 hj];exact g5 _ a2 hj
  ·rw [eL];exact N2 _
 ·obtain ⟨i,rfl⟩:=NB (LY (IT (Ly _) a1));obtain ⟨j,rfl⟩:=NB (LY (Lp (N6 _) hij));have a1:=LR a1;have hij:=OX hij;rw [eG i a1 (IT hij hj),eG j (iF a1 hij) hj];exact hs _ _ hij hj
theorem I1 (hO:κ.OneLt){st:SortSt}{lo n ok:Nat}{Q:Bool->SortSt->Prop}(hk:kindOf st=oneType')(ks:∀x∈(arrOf st).toList,aG κ x)(hn:lo+n<=(arrOf st).size)(hok:ok<=n)(hok1:1<=ok)(hs:Up κ (arrOf st) lo ok)
  (h:∀st',SI lo st st'->Up κ (arrOf st') lo n->Q eQ st'):wpM (model prog w) A E s (binarySort' lo n ok) Q st:=by
 refine Lz (QU (PO (I:=λk c st'=>c.1=iD/\SI lo st st'/\Up κ (arrOf st') lo k)
  (Q:=λc st'=>c.1=iD/\SI lo st st'/\Up κ (arrOf st') lo n) ?_ ?_ ⟨rfl,.self,by rw [Nat.max_eq_left hok1];exact hs⟩) ?_)
 ·rintro k ⟨_,_⟩ st1 hak hkn ⟨rfl,hI,hs'⟩
  have i1:∀m,m<=k->lo+m<(arrOf st1).size:=λm h=>by rw [hI.size];exact n3 h hkn hn (by simp +arith only)
  have md:∀j,j<k->κ.kle (KK κ (arrOf st1) (lo+j)) (KK κ (arrOf st1) (lo+k))->∀i,i<=j->(!κ.blt (KK κ (arrOf st1) (lo+k)) (KK κ (arrOf st1) (lo+i)))=eQ:=λj a b i c=>by
   rw [show κ.blt _ _=bY from NN (hs' i j c a) b];rfl
  have mu:∀j,κ.klt (KK κ (arrOf st1) (lo+k)) (KK κ (arrOf st1) (lo+j))->∀i,j<=i->i<k->(!κ.blt (KK κ (arrOf st1) (lo+k)) (KK κ (arrOf st1) (lo+i)))=bY:=λj a i b c=>by
   rw [show κ.blt _ _=eQ from KeyOrd.klt_of_klt_of_kle a (hs' j i b c)];rfl
  refine Lz (QU (PO (I:=λx c st2=>st2=st1/\c.1=iD/\G3 (λi=>!κ.blt (KK κ (arrOf st1) (lo+k)) (KK κ (arrOf st1) (lo+i))) k x c.2.1 c.2.2)
   (Q:=λc st2=>st2=st1/\c.1=iD/\c.2.2<=c.2.1/\∃x,G3 (λi=>!κ.blt (KK κ (arrOf st1) (lo+k)) (KK κ (arrOf st1) (lo+i))) k x c.2.1 c.2.2) ?_ ?_ (by exact ⟨rfl,rfl,Ly _,nO _,nO _,λi h=>absurd h (N0 i),λi g1 g2=>absurd g2 (Oz.mpr g1)⟩)) ?_)
  ·rintro x ⟨_,l,r⟩ st2 _ hxk ⟨rfl,rfl,g⟩
   refine bx (λq=>LD ⟨rfl,rfl,q,x,g⟩) λq=>?_;refine e02 (mid q) λm1 m2=>?_;have m3:=Lp m2 g.top;exact Lz (j9 hO (hI.kind.trans hk) (hI.keys ks) (i1 k (nO _)) (i1 _ (LM m3)) (aV (λq3=>LD ⟨rfl,rfl,g.dn m1 m2 (mu _ q3)⟩) λq3=>LD ⟨rfl,rfl,g.up m1 m2 (md _ m3 q3)⟩))
  ·rintro ⟨_,l,r⟩ st2 ⟨rfl,rfl,g⟩
   exact ⟨rfl,rfl,n2 g.t (LX 0 k) (by simp +arith only),_,g⟩
  rintro ⟨_,l,r⟩ st2 ⟨rfl,rfl,q,x,g⟩
  refine e02 (hs'.ins (l:=l) (i1 k (nO _)) (iF g.le g.top) (λi h=>KC (g.yes i h)) λi a b=>MJ (KD (g.no i (iF q a) b))) λu1 u2=>?_;exact Lz (Px (LD ⟨rfl,hI.tr ⟨rfl,rfl,rfl,bubble_perm _ _ _,u2⟩,u1⟩))
 ·rintro ⟨_,_⟩ st' ⟨rfl,hI,hs'⟩
  rw [Nat.max_eq_left hok1,QW hok] at hs';exact ⟨rfl,hI,hs'⟩
 ·rintro ⟨_,_⟩ st' ⟨rfl,hI,hs'⟩
  exact LD (h st' hI hs')
end
open PyProof.Rows renaming wpS -> wpM
noncomputable def mQ:Nat->List (List Keyed)->List (Nat × Nat)
 | _,[]=>[]
 | o,r::rs=>(o,r.length)::mQ (o+r.length) rs
noncomputable abbrev pf (p:Nat × Nat × Nat):Nat × Nat:=(p.1,p.2.1)
theorem d9:∀(A:List (List Keyed)) (o:Nat),(mQ o A).length=A.length
 | [],_=>rfl
 | r::A,o=>congrArg (·+1) (d9 A (o+r.length))
theorem gR:∀(A B:List (List Keyed)) (o:Nat),mQ o (A++B)=mQ o A++mQ (o+A.flatten.length) B
 | [],B,o=>rfl
 | r::A,B,o=>by
  show (o,r.length)::mQ (o+r.length) (A++B)=(o,r.length)::(mQ (o+r.length) A++mQ (o+(r++A.flatten).length) B)
  rw [gR A B,iN,Pr]
theorem BZ {l:List (Nat × Nat × Nat)}{g:Nat × Nat × Nat->Nat × Nat × Nat}(hg:∀p,pf (g p)=pf p)(i:Nat):(l.modify i g).map pf=l.map pf:=by
 induction l generalizing i with
 | nil=>rw [List.modify_nil]
 | cons x l ih=>
  cases i with
  | zero=>show pf (g x)::_=_;rw [hg];rfl
  | succ i=>exact congrArg (pf x::·) (ih i)
theorem F3 {α β:Type}{l:List α}{f:α->β}(i:Nat):(l.eraseIdx i).map f=(l.map f).eraseIdx i:=by
 rw [NG,NG,LK,Oa,OD]
section
variable {prog:M6}{w:Ni}{A:MP}{E:rW->Do->Prop}{s:Do}{κ:KeyKind}
structure Rns (κ:KeyKind)(a0:Array Keyed)(R:List Keyed)(rs:List (List Keyed))(st:SortSt):Prop where
 arr:(arrOf st).toList=rs.flatten++R
 pend:(pendingOf st).toList.map pf=mQ 0 rs
 runs:∀r∈rs,0<r.length/\Srt κ r
 perm:(arrOf st).Perm a0
 kind:kindOf st=oneType'
 failed:failedOf st=iD
theorem Rns.len {a0:Array Keyed}{R:List Keyed}{rs:List (List Keyed)}{st:SortSt}(h:Rns κ a0 R rs st):(pendingOf st).size=rs.length:=by
 have:=congrArg QI h.pend;rw [tO,d9] at this;exact this
theorem Rns.keys {a0:Array Keyed}{R:List Keyed}{rs:List (List Keyed)}{st:SortSt}(h:Rns κ a0 R rs st)(ks:∀x∈a0.toList,aG κ x):∀x∈(arrOf st).toList,aG κ x:=λx hx=>ks x ((Of.mp h.perm).mem_iff.mp hx)
theorem Rns.at {a0:Array Keyed}{R:List Keyed}{F B:List (List Keyed)}{X:List Keyed}{st:SortSt}(h:Rns κ a0 R (F++X::B) st):∃pw,(pendingOf st)[F.length]?=aT (F.flatten.length,X.length,pw):=by
 have:=congrArg (·[F.length]?) h.pend;rw [gR,LU (by rw [d9];exact nO _),d9,Pj,LG,Nb] at this;obtain ⟨⟨a,b,c⟩,e1,e2⟩:=LF.mp this
 cases e2
 exact ⟨c,by rw [<-Mb];exact e1⟩
theorem qT (hO:κ.OneLt){a0:Array Keyed}{R:List Keyed}{rs:List (List Keyed)}{i:Nat}{st:SortSt}{Q:Bool->SortSt->Prop}(ks:∀x∈a0.toList,aG κ x)(hR:Rns κ a0 R rs st)(hi:i+1<rs.length)
  (h:∀rs' st',Rns κ a0 R rs' st'->rs'.flatten.length=rs.flatten.length->rs'.length+1=rs.length->Q eQ st'):wpM (model prog w) A E s (mergeAt' i) Q st:=by
 obtain ⟨F,X,Y,B,rfl,rfl⟩:∃F X Y B,rs=F++X::Y::B/\F.length=i:=by
  refine ⟨rs.take i,rs[i],rs[i+1],rs.drop (i+2),?_,PR (n1 hi (by simp +arith only))⟩;rw [<-L9 hi,<-L9 (n1 hi (by simp +arith only)),Mj]
 obtain ⟨pw,p1⟩:=hR.at;obtain ⟨q,p2⟩:=(show Rns κ a0 R ((F++[X])++Y::B) st by rw [DO];exact hR).at;have lF:(F++[X]).flatten.length=F.flatten.length+X.length:=by rw [N5,iN,OY]
 rw [iN,lF] at p2;have rX:=hR.runs X (Lx _ (.head _));have rY:=hR.runs Y (Lx _ (.tail _ (.head _)));have eA:(arrOf st).toList=F.flatten++(X++(Y++(B.flatten++R))):=by
  rw [hR.arr,N5,Oy,Oy,DO,DO,DO]
 refine KB hO hR.kind eA p1 p2 (hR.keys ks) rX.1 rY.1 rX.2 rY.2 hR.failed λC st' c1 c2 c3 c4 c5 c6=>?_;have lC:C.length=X.length+Y.length:=by rw [c1.length_eq,iN]
 have fl:(F++C::B).flatten=F.flatten++(C++B.flatten):=by rw [N5,Oy]
 have fl0:(F++X::Y::B).flatten=F.flatten++(X++(Y++B.flatten)):=by rw [N5,Oy,Oy]
 refine h (F++C::B) st' ⟨?_,?_,λr hr=>?_,?_,c5.trans hR.kind,c6⟩ ?_ ?_
 ·rw [c3,fl,DO,DO]
 ·have e:=hR.pend;rw [c4,Array.toList_eraseIdxIfInBounds,Array.toList_setIfInBounds,F3,List.map_set,e,gR,gR,Nb];rw [P0 _ _ (by rw [d9];exact nO _),List.eraseIdx_append_of_length_le (by rw [d9];exact N8 _),d9,Pj,Nx];show _++(F.flatten.length,X.length+Y.length)::mQ (F.flatten.length+X.length+Y.length) B=_++(F.flatten.length,C.length)::mQ (F.flatten.length+C.length) B;rw [lC,Pr]
 ·refine MN (Lg.mp hr) (λhr=>?_) λhr=>?_
  ·exact hR.runs r (LC _ hr)
  ·rcases Lu.mp hr with rfl | hr
   ·exact ⟨n2 (Lw lC.symm) rY.1 (by simp +arith only),c2⟩
   ·exact hR.runs r (Lx _ (.tail _ (.tail _ hr)))
 ·refine Array.Perm.trans (Of.mpr ?_) hR.perm;rw [c3,eA];refine QS.append_left _ ?_;rw [<-DO X];exact c1.append_right _
 ·rw [fl,fl0,iN,iN,iN,iN,iN,lC];exact by simp +arith only
 ·rw [iN,iN];rfl
end
open PyProof.Rows renaming wpS -> wpM
section
variable {prog:M6}{w:Ni}{A:MP}{E:rW->Do->Prop}{s:Do}{κ:KeyKind}
theorem ou {a:Array Keyed}{i:Nat}{x:Keyed}(e:a[i]?=aT x):KK κ a i=kof κ x:=by unfold KK;rw [e];rfl
theorem I2 {a:Array Keyed}(nd:(a.toList.map (kof κ)).Nodup)(i j:Nat)(hij:i<j)(hj:j<a.size):KK κ a i≠KK κ a j:=by
 rw [ou (Li (Pi hij hj)),ou (Li hj)];have:=Oq.mp nd i j (by rw [tO,LP];exact Pi hij hj) (by rw [tO,LP];exact hj) hij;rw [List.getElem_map,List.getElem_map] at this;exact this
theorem Rns.next {a0:Array Keyed}{R:List Keyed}{rs:List (List Keyed)}{st1 st2:SortSt}{n:Nat}(hR:Rns κ a0 R rs st1)(hI:SI rs.flatten.length st1 st2)(hU:Up κ (arrOf st2) rs.flatten.length n)(hn:rs.flatten.length+n<=(arrOf st2).size):∃C R',C.length=n/\Srt κ C/\Rns κ a0 (C++R') rs st2:=by
 have eT:(arrOf st2).toList.take rs.flatten.length=rs.flatten:=by
  have:(arrOf st1).toList.take rs.flatten.length=rs.flatten:=by rw [hR.arr,Q8]
  refine Eq.trans (QG λi=>?_) this;rw [List.getElem?_take,List.getElem?_take];by_cases q:i<rs.flatten.length
  ·rw [if_pos q,if_pos q,Mb,Mb];exact hI.low i q
  ·rw [if_neg q,if_neg q]
 have eA:(arrOf st2).toList=rs.flatten++(((arrOf st2).toList.drop rs.flatten.length).take n++((arrOf st2).toList.drop rs.flatten.length).drop n):=by
  rw [Mj];exact (Mj _ _).symm.trans (congrArg (·++_) eT)
 have lC:(((arrOf st2).toList.drop rs.flatten.length).take n).length=n:=by
  rw [Mq,Mv,LP];exact Nf (Nat.le_sub_of_add_le' hn)
 refine ⟨_,_,lC,?_,eA,by rw [hI.pend];exact hR.pend,hR.runs,hI.perm.trans hR.perm,hI.kind.trans hR.kind,hI.failed.trans hR.failed⟩;refine Oq.mpr λi j hi hj hij=>?_;have:=hU i j (LM hij) (by rw [<-lC];exact hj);rw [ou ((gQ eA hi).trans (Ls hi)),ou ((gQ eA hj).trans (Ls hj))] at this;exact this
theorem Rns.push {a0:Array Keyed}{C R:List Keyed}{rs:List (List Keyed)}{st:SortSt}(hR:Rns κ a0 (C++R) rs st)(hC:0<C.length)(sC:Srt κ C):Rns κ a0 R (rs++[C]) (setPending st ((pendingOf st).push (rs.flatten.length,C.length,0))):=by
 refine ⟨?_,?_,λr hr=>?_,hR.perm,hR.kind,hR.failed⟩
 ·show (arrOf st).toList=_;rw [hR.arr,N5,OY,DO]
 ·show ((pendingOf st).push _).toList.map pf=_;rw [O8,LK,hR.pend,gR,Nb];rfl
 ·refine MN (Lg.mp hr) (λhr=>?_) λhr=>?_
  ·exact hR.runs r hr
  ·cases oF.mp hr;exact ⟨hC,sC⟩
theorem Rns.pw {a0:Array Keyed}{R:List Keyed}{rs:List (List Keyed)}{st:SortSt}{i:Nat}{g:Nat × Nat × Nat->Nat × Nat × Nat}(hR:Rns κ a0 R rs st)(hg:∀p,pf (g p)=pf p):Rns κ a0 R rs (setPending st ((pendingOf st).modify i g)):=by
 refine ⟨hR.arr,?_,hR.runs,hR.perm,hR.kind,hR.failed⟩;rw [Array.toList_modify,BZ hg];exact hR.pend
theorem Rns.count {a0:Array Keyed}{R:List Keyed}{rs:List (List Keyed)}{st:SortSt}(hR:Rns κ a0 R rs st):rs.length<=rs.flatten.length:=by
 have:∀rs:List (List Keyed),(∀r∈rs,0<r.length/\Srt κ r)->rs.length<=rs.flatten.length:=λrs=>by
  induction rs with
  | nil=>exact λ_=>nO _
  | cons r rs ih=>
   intro h;rw [Oy,iN,MD,Rr];exact Mt (h r (.head _)).1 (ih λr hr=>h r (.tail _ hr))
 exact this rs hR.runs
theorem F4 {σ α:Type}{M:Qi}{X:StateT σ Sem α}{F:Nat->StateT σ Sem α}{H:Nat->σ->Prop}{Q:α->σ->Prop}{st:σ}(h1:∀n st',H n st'->wpM M A E s (F n) Q st')(h2:(∀n st',H n st'->wpM M A E s (F n) Q st')->wpM M A E s X Q st):wpM M A E s X Q st:=h2 h1
theorem F5 {σ α:Type}{M:Qi}{X:StateT σ Sem α}{F:StateT σ Sem α}{H:σ->Prop}{Q:α->σ->Prop}{st:σ}(h1:∀st',H st'->wpM M A E s F Q st')(h2:(∀st',H st'->wpM M A E s F Q st')->wpM M A E s X Q st):wpM M A E s X Q st:=h2 h1
theorem F6 {c:Bool}{n:Nat}(h:2<=n):(if c=eQ then n-2-1 else n-2)+1<n:=by
 have:n-2+1<n:=OZ (MF _) (Nq h)
 cases c with
 | true=>exact IT (Ln (N1 _ _)) this
 | false=>exact this
inductive RnL (κ:KeyKind)(a0:Array Keyed)(R:List Keyed)(lo:Nat)(st:SortSt):Prop
 | mk (rs:List (List Keyed)) (h:Rns κ a0 R rs st) (e:rs.flatten.length=lo)
inductive RN (κ:KeyKind)(a0:Array Keyed)(P:Nat->Prop)(st:SortSt):Prop
 | mk (rs:List (List Keyed)) (h:Rns κ a0 [] rs st) (e:P rs.length)
theorem Rns.all {a0:Array Keyed}{R:List Keyed}{rs:List (List Keyed)}{st:SortSt}(h:Rns κ a0 R rs st):rs.flatten.length+R.length=a0.size:=by
 rw [<-h.perm.size_eq,<-LP,h.arr,iN]
theorem Rns.end {a0:Array Keyed}{R:List Keyed}{rs:List (List Keyed)}{st:SortSt}(h:Rns κ a0 R rs st)(q:a0.size<=rs.flatten.length):RN κ a0 (λ_=>True) st:=by
 obtain rfl:R=[]:=Nc.mp (QC.mp (n2 q (Lw h.all) (by simp +arith only)));exact ⟨rs,h,trivial⟩
theorem F7 (hO:κ.OneLt){st:SortSt}{Q:Unit->SortSt->Prop}(hk:kindOf st=oneType')(ks:∀x∈(arrOf st).toList,aG κ x)(nd:((arrOf st).toList.map (kof κ)).Nodup)(hp:pendingOf st=#[])(hf:failedOf st=iD)
  (h:∀st',(arrOf st').Perm (arrOf st)->failedOf st'=iD->Srt κ (arrOf st').toList->Q () st'):wpM (model prog w) A E s sortRuns' Q st:=by
 refine Lz (Qn ?_);refine BW (I:=λx lo st'=>x<=lo/\∃R,RnL κ (arrOf st) R lo st') (G:=λ_ st'=>RN κ (arrOf st) (λ_=>True) st') (by exact ⟨Ly _,(arrOf st).toList,[],⟨rfl,by rw [hp];rfl,λ_ h=>absurd h M1,.refl _,hk,hf⟩,rfl⟩) ?_ (λlo st1 ⟨hl,R,rs,hR,e⟩=>hR.end (iF (LX 0 _) (e▸hl))) λlo st1 ⟨rs,hR,_⟩=>?_
 ·rintro x _ st1 ⟨hl,R,rs,hR,rfl⟩
  refine bx (λq=>LD ⟨rfl,hR.end q⟩) λq=>?_;have q:=OO q;have zz:=OH (LM q);have z1:=hR.perm.size_eq;refine Lz (I0 hO hR.kind (hR.keys ks) (I2 (((Of.mp hR.perm).map (kof κ)).nodup_iff.mpr nd)) (Lw (zz.trans z1.symm)) (NA q) λm st2 hI m1 m2 hU=>?_);dsimp -zeta only;extract_lets -underBinder -merge +onlyGivenNames n0 jp;have up:∀{f},f<=(arrOf st).size-rs.flatten.length->rs.flatten.length+f<=(arrOf st).size:=λh=>iF (Mh h _) (Lw zz);have z2:∀{st'},SI rs.flatten.length st1 st'->(arrOf st').size=(arrOf st).size:=λh=>h.size.trans z1;refine F4 (F:=jp ()) (H:=λn st'=>SI rs.flatten.length st1 st'/\Up κ (arrOf st') rs.flatten.length n/\1<=n/\rs.flatten.length+n<=(arrOf st).size) ?_ λkey=>?_
  ·rintro n st3 ⟨hI,hU,n1,n2⟩
   obtain ⟨C,R',rfl,sC,hR⟩:=hR.next hI hU (iF n2 (Lw (z2 hI).symm))
   refine Lz (Qn ?_);extract_lets -underBinder -merge +onlyGivenNames jp2;refine F5 (F:=jp2 ()) (H:=λst'=>RnL κ (arrOf st) (C++R') rs.flatten.length st') ?_ λkey2=>?_
   ·rintro st4 ⟨rs',hR',e⟩
    have:=hR'.push n1 sC;rw [e] at this;exact Lz (Px (LD ⟨rfl,Mt hl n1,R',rs'++[C],this,by rw [N5,iN,e,OY]⟩))
   rcases (pendingOf st3).back? with _ | ⟨s1,n1,o⟩
   ·exact key2 st3 ⟨rs,hR,rfl⟩
   ·refine BW (I:=λ_ _ st'=>RnL κ (arrOf st) (C++R') rs.flatten.length st') (G:=λ_ st'=>RnL κ (arrOf st) (C++R') rs.flatten.length st') ⟨rs,hR,rfl⟩ (λy _ st4 ⟨rs',hR',e⟩=>?_) (λ_ _ h=>h) λ_ st4 ⟨rs',hR',e⟩=>Lz (Px (key2 _ ⟨rs',hR'.pw (λp=>rfl),e⟩))
    ·refine Lz (Qn ?_);dsimp only;by_cases q:(pendingOf st4).size > 1
     ·have q2:(pendingOf st4).size-2+1<(pendingOf st4).size:=OZ (MF _) (Nq q);rw [if_pos q,Li (Mf q2)];exact bx (λ_=>LD ⟨rfl,rs',hR',e⟩) λ_=>Lz (qT hO ks hR' (OZ q2 hR'.len) λrs2 st5 h5 l5 _=>aV (λh=>absurd h Qv) λ_=>LD ⟨rfl,rs2,h5,l5.trans e⟩)
     ·rw [if_neg q];exact LD ⟨rfl,rs',hR',e⟩
  refine bx (λq2=>?_) λ_=>key m st2 ⟨hI,hU,m1,up m2⟩;refine Lz (QT (OC ⟨rfl,?_⟩));have f1:m<=min ((arrOf st).size-rs.flatten.length) (minRun' (arrOf st).size (arrOf st).size 0):=Nat.le_min.mpr ⟨m2,LM q2⟩;have f2:=up (NE ((arrOf st).size-rs.flatten.length) (minRun' (arrOf st).size (arrOf st).size 0));exact Lz (I1 hO (hI.kind.trans hR.kind) (hI.keys (hR.keys ks)) (iF f2 (Lw (z2 hI).symm)) f1 m1 hU λst3 hI3 hU3=>aV (λh=>absurd h Qv) λ_=>key _ st3 ⟨hI.tr hI3,hU3,iF m1 f1,f2⟩)
 ·refine BW (I:=λx _ st'=>RN κ (arrOf st) (λn=>n<=1\/n+x<=(arrOf st).size) st') (G:=λ_ st'=>RN κ (arrOf st) (λn=>n<=1) st') (by exact ⟨rs,hR,.inr (iF hR.count (Lw hR.all))⟩) (λx _ st2 ⟨rs,hR,hc⟩=>?_) (λ_ st2 ⟨rs,hR,hc⟩=>⟨rs,hR,hc.elim id λhc=>n2 hc (LX 0 (arrOf st).size) (by simp +arith only)⟩) λ_ st2 ⟨rs,hR,hc⟩=>?_
  ·refine Lz (Qn ?_);refine bx (λq=>LD ⟨rfl,rs,hR,hR.len▸q⟩) λq=>?_;have q:2<=(pendingOf st2).size:=OO q;refine Lz (qT hO ks hR (OZ (F6 q) hR.len) λrs2 st3 h3 _ l3=>aV (λh=>absurd h Qv) λ_=>LD ⟨rfl,rs2,h3,?_⟩);rw [hR.len] at q;exact .inr (n2 (hc.resolve_left (Nat.not_le.mpr q)) (Lw l3) (by simp +arith only))
  ·refine LD (h st2 hR.perm hR.failed ?_);rw [hR.arr,LJ]
   cases rs with
   | nil=>exact .nil
   | cons r rs=>
    cases rs with
    | nil=>rw [OY];exact (hR.runs r (.head _)).2
    | cons _ _=>exact absurd (OX hc) (Nat.not_succ_le_zero _)
end
open PyProof.Rows renaming wpS -> wpM
section
variable {prog:M6}{w:Ni}{A:MP}{E:rW->Do->Prop}{s:Do}{κ:KeyKind}
theorem Srt.toK {a:Array Keyed}{n:Nat}(h:Srt κ a.toList)(hn:n=a.size):SortedToK κ a n:=λi j hij hj=>by
 subst hn;have e2:a[j]?=aT a[j]:=Li hj;have e1:a[i]?=aT a[i]:=Li (IT hij hj);rw [ou e1,ou e2];exact h.at hij e1 e2
theorem y1 (hO:κ.OneLt){a:Lr}{vs:List rW}{n:Nat}{P:Fin->Do->Prop}(ho:s.heap.get? a=aT (seqObj "list" vs.toArray n))
  (h0:KeysOf κ (pairsOf vs)) (nd:((pairsOf vs).toList.map (kof κ)).Nodup) (hkk:keyKind' vs.toArray=pure oneType') (h64:¬ vs.length<2) (hz:vs.length<=100000)
  (h:∀st':SortSt,(arrOf st').Perm (pairsOf vs)->SortedToK κ (arrOf st') (pairsOf vs).size->P (.done (.ret .none)) { s with heap:=sortedHeap s.heap a vs ((arrOf st').map (·.2)) }) :
  IF (model prog w) A (Builtin.«list.sort» ⟨[.ref a],[]⟩) P E s:=by
 have e0:=get?_update_seq ho λ_=>#[];have ne:=Mn (Mu ho);have ne2:=Mn (PN (Mu ho));have hs:vs.length<=sizeLine:=iF hz (by rw [Q9];decide);have h2:¬ vs.toArray.size<2:=h64;rw [list_sort_plain];refine iS (listItems_at ho rfl ?_);refine iS (listUpdate_at ho rfl ?_ hs (Ly _));refine iS (seqEpoch_at e0 rfl ?_);refine iS (wpAny_newTuple ?_ hs);refine iS (wpAny_newList ?_ (Ly _));refine Md ?_;have e6:=Lj (seqObj "list" #[] 0) (Lj (seqObj "tuple" vs.toArray 0) e0);rw [if_neg h2,if_neg h2,hkk];refine iS (EQ ?_);refine iS (Lk (F7 (κ:=κ) hO (st:=RD oneType' (vs.toArray.zip vs.toArray) #[] 7 iD)
  (Q:=λ_ st'=>(arrOf st').Perm (pairsOf vs)/\failedOf st'=iD/\Srt κ (arrOf st').toList) rfl h0 nd rfl rfl λst' a1 a2 a3=>⟨a1,a2,a3⟩) ?_ λ_ _ e=>e)
 rintro ⟨⟨⟩,st'⟩ s' ⟨rfl,hp,hf,hs'⟩
 have zp:(arrOf st').size=vs.length:=hp.size_eq.trans (pairsOf_size _);refine iS (seqEpoch_at e6 rfl ?_);refine iS (listUpdate_at e6 rfl ?_ (Ly _) (by rw [Array.size_map,zp];exact Mw hs));rw [hf];rw [if_neg (by rw [bne_self_eq_false];exact nofun)];exact EQ (h st' hp (hs'.toK hp.size_eq.symm))
end
open PyProof.Rows renaming wpS -> wpM
section
variable {prog:M6}{w:Ni}{A:MP}{E:rW->Do->Prop}{s:Do}
theorem y2 {vs:List rW}{ss:List Str}(hS:StrsAre vs ss):(vs.zip vs).map (kof strKind)=ss.map λx=>x.cps.toList:=by
 induction hS with
 | nil=>rfl
 | cons x t h ih=>exact congrArg (x.cps.toList::·) ih
theorem B0 {vs:List rW}{ss:List Str}(hS:StrsAre vs ss)(nd:ss.Nodup):((pairsOf vs).toList.map (kof strKind)).Nodup:=by
 rw [pairsOf_toList,y2 hS];refine List.Pairwise.map _ (λa b h e=>h ?_) nd
 cases a;cases b
 exact congrArg Str.mk (RB e)
theorem wM {a:Lr}{vs:List rW}{ss:List Str}{n:Nat}{P:Fin->Do->Prop}(ho:s.heap.get? a=aT (seqObj "list" vs.toArray n))(hS:StrsAre vs ss)(nd:ss.Nodup)(hz:vs.length<=100000)
  (h:∀st':SortSt,(arrOf st').Perm (pairsOf vs)->SortedToK strKind (arrOf st') (pairsOf vs).size->P (.done (.ret .none)) { s with heap:=sortedHeap s.heap a vs ((arrOf st').map (·.2)) }) :
  IF (model prog w) A (Builtin.«list.sort» ⟨[.ref a],[]⟩) P E s:=by
 by_cases q:vs.length<2
 ·exact list_sort_treeK strKind_oneLt ho hS.keysOf (λv₁ v₂ rest e=>keyKind_strs (by rw [<-e];exact hS)) (Pi q (by decide)) h
 ·refine y1 strKind_oneLt ho hS.keysOf (B0 hS nd) ?_ q hz h
  match vs,q with
  | [],q=>exact absurd (by decide) q
  | [_],q=>exact absurd (MF 1) q
  | v₁::v₂::rest,_=>exact keyKind_strs hS
end
section
set_option maxRecDepth 100000
section
variable {prog:M6}{w:Ni}{A:MP}{E:rW->Do->Prop}{s:Do}
theorem F8 {S:Lr}{es:Array (Int × rW)}{ep:Nat}{t:SetTable}{Q:Bool->Do->Prop}(ho:s.heap.get? S=aT (gO es ep t))(h:Q bY s):IF (model prog w) A (Builtin.List.listLengthHint (.ref S)) Q E s:=by
 have hT:s.TypeIs (.ref S) "set":=⟨_,ho,rfl⟩
 unfold Builtin.List.listLengthHint;refine iS (wpAny_specialOf hT PySem.F.slot_set_len.lookup ?_)
 (generalize hid:("set.__len__":String)=id0;(fail_if_success (clear hid id0));wp_delta;rw [show splitId id0=aT ("set","__len__") from by subst hid;decide +kernel];subst hid)
 refine iS (wpAny_isInstance (b:=true) hT (by rw [Q7];kernel_rfl) ?_);refine iS (QZ hT ?_);exact EQ h
structure B1 (s s':Do):Prop where
 heap:∀b o,s.heap.get? b=aT o->s'.heap.get? b=aT o
 gens:s'.gens=s.gens
 os:s'.os=s.os
theorem wN {S:Lr}{ks:List Str}{Q:List rW->Do->Prop}(hh:A.handled=iD)(hS:gP prog w s.heap S ks)(hz:ks.length<scanBound)
  (h:∀vs ss s',StrsAre vs ss->ss.Perm ks->B1 s s'->Q vs s'):IF (model prog w) A (collect (.ref S)) Q E s:=by
 refine e32 hS λes ep t ho hrest=>?_;unfold collect;refine iS (wpAny_runValue (Ot PySem.F.entry_proto_collect ?_));rw [Ox PySem.F.plain_proto_collect _];show IF _ A.in1 (newList [] >>= λl=>again (.builtin "list.__iadd__" ⟨[l,.ref S],[]⟩)) _ _ s;refine iS (MW ?_);refine EQ ⟨QL PySem.F.plain_list_iadd _,Ot PySem.F.entry_list_iadd ?_⟩;rw [Ox PySem.F.plain_list_iadd _];show IF _ A.in1 (Builtin.List.listExtendWith (.ref s.heap.objs.size) (.ref S) (.ref s.heap.objs.size)) _ _ _;unfold Builtin.List.listExtendWith;have k1:∀b o,s.heap.get? b=aT o->(s.heap.push { cls:=.type "list",data:=.seq ([]:List rW).toArray }).get? b=aT o:=λb o e=>Lj _ e;have hS1:gP prog w (s.heap.push { cls:=.type "list",data:=.seq ([]:List rW).toArray }) S ks:=mH hS λo e=>k1 S o e;have hL1:(s.heap.push { cls:=.type "list",data:=.seq ([]:List rW).toArray }).get? s.heap.objs.size=aT { cls:=.type "list",data:=.seq ([]:List rW).toArray }:=LI _ rfl;have hSne:S≠s.heap.objs.size:=Mn (Mu ho);refine iS (QZ (T:="set") ⟨_,k1 _ _ ho,rfl⟩ ?_);rw [if_neg (by simp [Builtin.List.listSameRef,Ol hSne])];refine iS (FT (s:={ s with heap:=s.heap.push { cls:=.type "list",data:=.seq ([]:List rW).toArray } }) hS1 hz λI vs ss h' d hst hperm hk hI0 hw=>?_);refine iS (Md (F8 (es:=es) (ep:=ep) (t:=t) (hk _ _ (k1 _ _ ho)) ?_));rw [if_pos (by decide)];refine iS (OC ?_);have hL2:=hk _ _ hL1;refine iS ?_;refine iS (wpAny_updateSeq hL2 rfl ?_);have hL3:=LZ (MM (·.push M5)) hL2 rfl;refine wpAny_updateSeq hL3 rfl ?_;have hL4:=LZ (MM (·.pop)) hL3 rfl;have oth:∀b o,b≠s.heap.objs.size->h'.get? b=aT o->((h'.update s.heap.objs.size (MM (·.push M5))).update s.heap.objs.size (MM (·.pop))).get? b=aT o:=
  λb o hb e=>(Nh _ _ (Ol hb)).trans ((Nh _ _ (Ol hb)).trans e)
 refine e24 (hw A.in1 hh) λfp St W st0 hfp hIf=>?_;have hLf:s.heap.objs.size∉fp:=λq=>by
  refine MN (hfp _ q) (λe=>?_) λe=>?_
  ·exact hSne e.symm
  ·rw [show (s.heap.push { cls:=.type "list",data:=.seq ([]:List rW).toArray }).get? s.heap.objs.size=_ from hL1] at e;exact oW e
 have hvl:vs.length<=sizeLine:=by
  rw [<-mI hst,hperm.length_eq];exact PK hz
 refine EQ ⟨QL PySem.F.plain_extend_loop _,codeAny_extend_loopS W hvl _ hLf _ vs.length 0 _ _ _ rfl (Ly _)
  (W.frame 0 { s with heap:=h',drawn:=d } ((h'.update s.heap.objs.size (MM (·.push M5))).update s.heap.objs.size (MM (·.pop))) s.toks st0 (nO _) λb hb o e=>oth b o (λq=>hLf (q▸hb)) e) hL4 (ItemsOf.nil _) λs' acc' c' hm hS' hacc=>?_⟩
 refine iS (wpAny_load hS' ?_);have hacc':acc'.toList=vs:=by
  apply QG;intro i;refine MN (OU i vs.length) (λq=>?_) λq=>?_
  ·have hi:i<acc'.size:=by rw [hacc.1];exact q
   have:=hacc.2 i acc'[i] (Li hi);rw [this,Mb,Li hi]
  ·rw [M4 q,M4 (by rw [LP,hacc.1];exact q)]
 show IF _ A (pure acc'.toList) _ _ s';rw [hacc'];refine EQ (h vs ss s' hst hperm ⟨λb o e=>?_,hm.gens,hm.os⟩);have hb1:b≠s.heap.objs.size:=Mn (Mu e);refine hm.heap b o ?_ (oth b o hb1 (hk b o (k1 b o e)));simp only [Lu,M1,or_false,not_or];refine ⟨hb1,λq=>?_⟩;rw [q] at e;rw [k1 _ _ e] at hI0;exact oW hI0
theorem qU {h:LA}{vs:List rW}{out:Array rW}{b:Lr}{o:OQ}(e:h.get? b=aT o):(sortedHeap (h.push (seqObj "list" vs.toArray 0)) h.objs.size vs out).get? b=aT o:=by
 have hlt:=Mu e;rw [sortedHeap_old (Mn hlt) (by rw [PM];exact PN hlt)];exact Lj _ e
theorem gP.nd {h:LA}{S:Lr}{ks:List Str}(x:gP prog w h S ks):ks.Nodup:=by
 obtain ⟨_,_,_,_,_,_,_,_,_,n⟩:=x;exact n
theorem y3 {S:Lr}{ks:List Str}{Q:rW->Do->Prop}(hh:A.handled=iD)(nd:ks.Nodup)(hz:ks.length<jm)
  (hc:∀{A:MP}{E:rW->Do->Prop}{Q:List rW->Do->Prop},A.handled=iD->(∀vs ss s',StrsAre vs ss->ss.Perm ks->B1 s s'->Q vs s')->IF (model prog w) A (collect (.ref S)) Q E s)
  (h:∀a s' (out:Array rW) ss e,B1 s s'->s.heap.get? a=iD->s'.heap.get? a=aT (seqObj "list" out e)->StrsAre out.toList ss->ss.Perm ks->sortedS ss=eQ->Q (.ref a) s') :
  IF (model prog w) A (call (.builtin "sorted") [.ref S]) Q E s:=by
 refine Calls.call_function_entry kind_sorted plain_sorted entry_sorted (args_sorted1 _) ?_;unfold Builtin.«sorted»;refine iS (m:=checkCount "sorted" 1 1 _) (EQ ?_);refine iS (hc hh λvs ss s' hst hperm hsm=>?_);have hvl:vs.length<=100000:=by rw [<-mI hst,hperm.length_eq];exact iF (LM hz) (nb rfl)
 refine iS (wpAny_newList ?_ (by have:=Q9;exact n2 (Lw this.symm) hvl (by simp +arith only)));have hoL:(s'.heap.push (seqObj "list" vs.toArray 0)).get? s'.heap.objs.size=aT (seqObj "list" vs.toArray 0):=LI _ rfl;refine iS (Md (NL (s:={ s' with heap:=s'.heap.push (seqObj "list" vs.toArray 0) }) slot_list_sort ⟨_,hoL,rfl⟩ entry_list_sort (wM hoL hst (hperm.nodup_iff.mpr nd) hvl λst' a1 a2=>⟨_,rfl,?_⟩) (args_list_sort _)));refine e13 (sorted_out_str hst a1 a2) λss' h1 h2 h3=>?_;obtain ⟨e,he⟩:=sortedHeap_at (out:=(arrOf st').map (·.2)) hoL;refine EQ ⟨_,rfl,h _ _ _ ss' e ⟨λb o eb=>?_,hsm.gens,hsm.os⟩ ?_ he h1 (h2.trans hperm) h3⟩
 ·exact qU (hsm.heap b o eb)
 ·cases q:s.heap.get? s'.heap.objs.size with
  | none=>rfl
  | some o=>exact absurd (Mu (hsm.heap _ o q)) (N7 _)
theorem y4 {S:Lr}{ks:List Str}{Q:rW->Do->Prop}(hh:A.handled=iD)(hS:gP prog w s.heap S ks)(hz:ks.length<jm)
  (h:∀a s' (out:Array rW) ss e,B1 s s'->s.heap.get? a=iD->s'.heap.get? a=aT (seqObj "list" out e)->StrsAre out.toList ss->ss.Perm ks->sortedS ss=eQ->Q (.ref a) s') :
  IF (model prog w) A (call (.builtin "sorted") [.ref S]) Q E s:=y3 hh hS.nd hz (λhh h=>wN hh hS (by unfold scanBound;exact iF hz (nb rfl)) h) h
end
end
theorem ow:∀(p:Str) (l:List Str),risingS p l=eQ->(p::l).Nodup->((p::l).map (λx=>x.cps.toList)).Pairwise (· < ·)
 | p,[],_,_=>by simp
 | p,x::r,h,hn=>by
  unfold risingS at h;simp only [Ll,Nk,ltCps_eq,decide_eq_false_iff_not] at h;obtain ⟨hn1,hn2⟩:=Nn.mp hn;have ih:=ow x r h.2 hn2;have hne:p.cps.toList≠x.cps.toList:=λq=>hn1 (by
   have:p=x:=by
    obtain ⟨⟨a⟩⟩:=p;obtain ⟨⟨b⟩⟩:=x;simp at q;subst q;rfl
   rw [this];exact IS ..)
  have hpx:p.cps.toList<x.cps.toList:=by
   refine MN (Classical.em (p.cps.toList<x.cps.toList)) (λq=>?_) λq=>?_
   ·exact q
   ·exact absurd (List.le_antisymm (Q6.mp h.1) (Q6.mp q)) hne
  rw [QM];refine Nd.mpr ⟨λy hy=>?_,ih⟩;rw [QM] at hy ih;refine e02 (Nd.mp ih) λi1 _=>?_
  rcases Lu.mp hy with rfl | hy
  ·exact hpx
  ·exact Ri hpx (i1 y hy)
theorem wO (h:sortedS l=eQ)(hn:l.Nodup):(l.map (λx=>x.cps.toList)).Pairwise (· < ·):=by
 cases l with
 | nil=>simp
 | cons p r=>exact ow p r h hn
set_option tactic.hygienic true in
theorem jE (ss:List Str):(cu ss).Nodup:=by
 have:∀(ss ks:List Str),ks.Nodup->(ss.foldl jC ks).Nodup:=by
  intro ss
  induction ss with
  | nil=>intro ks h;exact h
  | cons s r ih=>
   intro ks h;refine ih _ ?_;unfold jC
   split
   ·exact h
   ·rename_i hk;rw [M7];exact ⟨h,by simp,λx hx y hy=>by
     have:y=s:=by simpa using hy
     subst this;intro q;subst q;exact hk hx⟩
 exact this ss [] PL
theorem B3 (hp:ss'.Perm (cu (ss.map (λx=>(⟨x.toArray⟩:Str)))))(hs:sortedS ss'=eQ):ss'.map (λx=>x.cps.toList)=cM ss:=by
 have hn:ss'.Nodup:=hp.nodup_iff.mpr (jE _);refine yR (wO hs hn) (iG ss) λx=>?_;rw [cZ];constructor
 ·intro h;obtain ⟨y,hy,rfl⟩:=Mi.mp h;have:=d8.mp (hp.mem_iff.mp hy);obtain ⟨z,hz,rfl⟩:=Mi.mp this
  simpa using hz
 ·intro h;refine Mi.mpr ⟨⟨x.toArray⟩,hp.mem_iff.mpr (d8.mpr (Mi.mpr ⟨x,h,rfl⟩)),by simp⟩
theorem y5:(cu (ss.map (λx=>(⟨x.toArray⟩:Str)))).length=(cM ss).length:=by
 have:∀(l m:List (List Nat)),l.Nodup->m.Nodup->(∀x,x∈l↔x∈m)->l.length=m.length:=λl m h1 h2 h=>((List.perm_ext_iff_of_nodup h1 h2).mpr h).length_eq;have hn:((cu (ss.map (λx=>(⟨x.toArray⟩:Str)))).map (λx=>x.cps.toList)).Nodup:=by
  refine List.pairwise_map.mpr ((jE _).imp λ{p x} hne q=>hne ?_);obtain ⟨⟨a⟩⟩:=p;obtain ⟨⟨b⟩⟩:=x;simp at q;subst q;rfl
 have:=this _ (cM ss) hn ((iG ss).imp λh q=>by subst q;exact Pc _ h) λx=>by
  rw [cZ];constructor
  ·intro h;obtain ⟨y,hy,rfl⟩:=Mi.mp h;obtain ⟨z,hz,rfl⟩:=Mi.mp (d8.mp hy)
   simpa using hz
  ·intro h;exact Mi.mpr ⟨⟨x.toArray⟩,d8.mpr (Mi.mpr ⟨x,h,rfl⟩),by simp⟩
 simpa using this
section
set_option backward.match.sparseCases true
section
theorem y6 {ss:List (List Nat)}(r:au C ρ h (ss.map .str) items):StrsAre items (ss.map (λx=>(⟨x.toArray⟩:Str)))/\∀x∈ss,x.length<=line:=by
 induction ss generalizing items with
 | nil=>rw [r.inv];exact ⟨.nil,λx hx=>co hx⟩
 | cons x ss ih=>
  obtain ⟨v,ws,rfl,a,b⟩:=r.inv;obtain ⟨t,rfl,z⟩:=a.inv;obtain ⟨h1,h2⟩:=ih b;exact ⟨.cons _ t h1,λy hy=>(Lu.mp hy).elim (λe=>e▸z) (h2 y)⟩
theorem y7 (r:StrsAre items ss)(hz:∀x∈ss,x.cps.toList.length<=line):au C ρ h ((ss.map (λx=>x.cps.toList)).map .str) items:=by
 induction r with
 | nil=>exact .nil
 | cons x t r ih=>exact .cons (.str x.cps.toList t (hz x (IS ..))) (ih λy hy=>hz y (Lm _ hy))
set_option tactic.hygienic true in
theorem B4 (cx:aq C c F n)(iargs:∀a∈args,SV C X n c F a)(hz:xSS c b e=aT z)(hc:be c args [z]=eQ)(hb:∀{x' y':Str},Fz b x' y'=eQ->x'=x/\y'=y)(hm1:(x,f)∈cv)(hm2:(y,g)∈cv)(hf:(∃id,f=.builtin id)\/∃T,f=.type T)(hg:(∃id,g=.builtin id)\/∃T,g=.type T)(h:iO (Call C) n args (λvs m=>qp b vs Q m) X m)
  (hk:∀{ρ:List Lr}{s:Do}{m:MS}{x:MV}{v:rW},Rel C F ρ m s->Rep C ρ s.heap x v->jd b x Q m->∀{E:rW->Do->Prop},IF (mod C) F.A (call g [v]) (λu s'=>IF (mod C) F.A (call f [u]) (Out C F ρ s Q) E s') E s):WPv C F X (eval e F.env) Q m:=by
 unfold xSS at hz;replace hz:=LW.mp hz;obtain ⟨⟨x',ys,pos⟩,hx,hz⟩:=hz;replace hz:=LW.mp hz;obtain ⟨y',hy,hz⟩:=hz;replace hz:=LW.mp hz;obtain ⟨⟨x'',zs,pos'⟩,hx',hz⟩:=hz
 cases bX hy
 obtain ⟨px,rfl⟩:=gN hx;obtain ⟨px',rfl⟩:=gN hx'
 split at hz
 rotate_left
 ·exact av hz
 rename_i hA
 cases bX hz
 obtain ⟨hA,g2⟩:=al hA;refine e02 (al hA) λhA g1=>?_;obtain ⟨rfl,rfl⟩:=hb hA;obtain ⟨a,rfl,hz,ha⟩:=sM hc;intro s ρ R;refine Ng rfl (cW cx R hm1 (az g1).1 (az g1).2 ?_);refine fJ hf (by rw [bj (by rfl)];rfl) (by rw [bj (by rfl)];exact M2 _ _) ?_;rw [bj (by rfl)];refine O0 (Ng rfl (cW cx R hm2 (az g2).1 (az g2).2 ?_));refine fJ hg (by rw [bj hz];rfl) (by rw [bj hz];exact M2 _ _) ?_;rw [bj hz];refine O0 ((iargs a (.head _) z ha _ m h).go R (.refl _ _ _) λρ₁ s₁ m₁ x v st t1 R₁ rx h₁=>PS ?_);refine Lk (hk R₁ rx h₁) (λu s' q=>PS (Lk q (Out.back t1) λ_ _ x=>x)) λ_ _ x=>x
theorem I3 (G:GOk C)(cx:aq C c F n){args:List ME}(iargs:∀a∈args,SV C X n c F a){e z:L7}(hz:xSS c .sortedSet e=aT z)(hnh:c.nh=eQ)(hc:be c args [z]=eQ){Q:PQ}{m:MS}(h:iO (Call C) n args (λvs m=>qp .sortedSet vs Q m) X m):WPv C F X (eval e F.env) Q m:=by
 refine B4 cx iargs hz hc (x:="sorted") (y:="set") (f:=.builtin "sorted") (g:=.type "set") (λq=>?_) (bk 10 rfl) (bk 11 rfl) (.inl ⟨_,rfl⟩) (.inr ⟨_,rfl⟩) h λ{ρ₁ s₁ m₁ x v} R₁ rx h₁ {E}=>?_
 ·refine e02 (al q) λq q2=>?_;obtain ⟨_,q1⟩:=al q;exact ⟨eq_of_beq q1,eq_of_beq q2⟩
 replace h₁:jd .sortedSet x Q m₁:=h₁;obtain ⟨r,rfl,h₁⟩:=jq h₁;obtain ⟨la,rfl,g⟩:=rx.inv;obtain ⟨xs,hi,ss,rfl,h64,h4000,hq⟩:=bB h₁;obtain ⟨items,n',gi,rl,zz⟩:=R₁.hp.objs _ _ _ hi g;refine e02 (y6 rl) λhst hll=>?_;have hil:items.length<4000:=by rw [rl.length];simpa using h4000
 refine sS (cx.hn hnh) (items:=items.toArray) ⟨_,gi,rfl,_,rfl⟩ hst (by rw [Lv];unfold scanBound;exact n1 hil (by simp +arith only)) λh' tk hS hk=>?_;refine e02 (R₁.grow (s':={ s₁ with heap:=h',toks:=tk }) cx.fm hk rfl rfl) λR₂ st₂=>?_;refine (y4 (cx.hn hnh) (s:={ s₁ with heap:=h',toks:=tk }) hS (by rw [y5];exact h64) λa s' out ss' e hsm ha hout hst' hperm hsrt=>?_);have hset:=B3 hperm hsrt;obtain ⟨R₃,st₃⟩:=R₂.alloc (s':=s') cx.fm hsm.heap hsm.gens hsm.os (o:=.list ((cM ss).map .str)) (a:=a) ha
  ⟨out.toList,e,hout,by
   rw [<-hset];refine y7 hst' λy hy=>?_;have:y∈cu (ss.map (λx=>(⟨x.toArray⟩:Str))):=hperm.mem_iff.mp hy;obtain ⟨w,hw,rfl⟩:=Mi.mp (d8.mp this)
   simpa using hll w hw,by rw [tO];exact iF (LM h64) (nb rfl)⟩
 exact ⟨_,_,_,st₂.trans st₃,R₃,.ref (i:=m₁.heap.length) (by rw [<-R₂.hp.len,LU (nO _)];simp),hq⟩
end
end
theorem KF {c:Cx}{b:Bi}{e z:L7}(hb:∀x y,Fz b x y=bY){P:Prop}(h:xSS c b e=aT z):P:=by
 obtain ⟨q,_,h⟩:=LW.mp h;obtain ⟨y,_,h⟩:=LW.mp h;obtain ⟨r,_,h⟩:=LW.mp h;rw [hb] at h;exact av h
section
theorem B5 (G:GOk C)(R:Rel C F ρ m s)(ok:aJ F){b:Bi}(hh:lE b=eQ\/A.handled=iD){xs:List MV}{vs:List rW}(hl:au C ρ s.heap xs vs){n:Str}{f:rW}(hb:sH b=aT (n,f))(h:qp b xs Q m):IF (mod C) A (call f vs) (Out C F ρ s Q) E s:=by
 exact Fq G R ok hh hl hb h
end
theorem F9 (G:GOk C)(cx:aq C c F n)(iargs:∀a∈args,SV C X n c F a):SV C X n c F (.blt b args):=by
 intro e hc Q m h
 cases hb:BH b with
 | true=>
  obtain rfl:b=.sortedSet:=by cases b<;>first | rfl | exact ff hb
  replace hc:=ah hc;obtain ⟨z,hz,hc⟩:=hc;obtain ⟨hnh,hc⟩:=ID.mp hc;exact I3 G cx iargs hz hnh hc h
 | false=>
  replace hc:(if BH b=eQ then _ else _)=eQ:=hc;rw [hb] at hc;replace hc:=ah hc;obtain ⟨⟨x,ys,pos⟩,hx,hc⟩:=hc;obtain ⟨px,rfl⟩:=gN hx;simp only [Ll,Nk] at hc;obtain ⟨⟨⟨⟨hnh,hg⟩,hf⟩,hne⟩,ha⟩:=hc;have hh:lE b=eQ\/F.A.handled=iD:=by
   refine MN (OF.mp hnh) (λq=>?_) λq=>?_
   ·exact .inr (cx.hn q)
   ·exact .inl q
  replace hf:=ah hf;obtain ⟨⟨z,f⟩,hb,hf⟩:=hf
  cases eq_of_beq hf
  intro s ρ R;refine Ng rfl (cW cx R (FC hb) (az hg).1 (az hg).2 ?_);refine fJ (FD hb) (cf ha _ _) (iE ha hne _ _) ?_;refine (pB G cx iargs ys ha _ m h pos).go R (.refl _ _ _) λρ₁ s₁ m₁ xs vs st t1 R₁ rl el h₁=>?_;exact Lk (B5 G R₁ cx.fm hh rl hb h₁) (Out.back t1) λ_ _ x=>x
theorem qV (h:dz.contains x=eQ):typeLookup (.type "object") x=pure iD:=by
 have key:∀y∈dz,typeLookup (.type "object") y=pure iD:=by
  intro y hy;simp only [dz,Lu,M1,or_false] at hy
  rcases hy with rfl | rfl | rfl | rfl | rfl | rfl<;>(rw [O4,NJ];kernel_rfl)
 exact key x (by simpa using h)
theorem y8 (h:fH.contains x=eQ):typeLookup (.type "object") x=pure iD:=by
 have key:∀y∈fH,typeLookup (.type "object") y=pure iD:=by
  intro y hy;simp only [fH,Lu,M1,or_false] at hy
  rcases hy with rfl | rfl | rfl | rfl | rfl | rfl | rfl | rfl<;>(rw [O4,NJ];kernel_rfl)
 exact key x (by simpa using h)
theorem s7 (h:(x.cps.toList==y)=eQ):x=str y:=by
 rw [<-eq_of_beq h]
section
inductive KG (h:LA)(K N:Lr):Prop
 | mk (nm q:Str) (bs:List rW) (sn:List Str) (sub:List rW) (col:Option Bool) (dd:Option Lr) (k0 k1 k2 k3 k5:Option rW) (e:h.get? K=aT (excClassObj nm q K N bs [.type "object"] eQ sn sub bY col dd k0 k1 k2 k3 k5 "object.__new__"))
theorem mR {h:LA}{K N:Lr}{m:Str->Option rW}(x:ClsAt h K N m):KG h K N:=by
 obtain ⟨nm,q,bs,sn,sub,col,dd,k0,k1,k2,k3,k5,e⟩:=x.obj;exact ⟨nm,q,bs,sn,sub,col,dd,k0,k1,k2,k3,k5,e⟩
inductive I4 (C:Glo)(ρ:List Lr)(h:LA)(k i:Nat)(es:List (List Nat × MV))(v:rW):Prop
 | mk (a K N d:Lr) (mA:Str->Option rW) (ev:v=.ref a) (hc:C.ca k=aT K) (hN:ClsAt h K N (C.cm k)) (hao:h.get? a=aT (kI K d)) (hρ:ρ[i]?=aT d) (hns:h.Ns1 d mA) (I:h.Inst a K mA) (had:a≠d) (haK:a≠K)
   (h1:∀x v,cK es x=aT v->∃w,mA (str x)=aT w/\Rep C ρ h v w) (h2:∀x,cK es x=iD->mA (str x)=iD)
theorem mS (G:GOk C)(R:Rel C F ρ m s)(hx:Rep C ρ s.heap (.inst k i) v)(hi:m.heap[i]?=aT (.attrs es)):I4 C ρ s.heap k i es v:=by
 obtain ⟨a,K,d,rfl,hc,hd,ha⟩:=hx.inv;obtain ⟨mA,hn,h1,h2,h3⟩:=R.hp.objs _ _ _ hi hd;obtain ⟨N,hN⟩:=G.cls k K hc;have hN':=hN.keeps λb o e=>R.hp.base b o e;have had:a≠d:=λq=>by
  subst q;refine e33 hn λo es' ep e hdat _=>?_;obtain rfl:=same ha e;exact nomatch hdat
 have haK:a≠K:=λq=>by
  subst q;obtain ⟨nm,q,bs,sn,sub,col,dd,k0,k1,k2,k3,k5,e⟩:=mR hN';exact nomatch congrArg OQ.data (same ha e)
 exact ⟨a,K,N,d,mA,rfl,hc,hN',ha,hd,hn,⟨_,ha,rfl,λc=>by simp,.inr ⟨d,rfl,Ol had,hn⟩⟩,had,haK,h1,h2⟩
theorem Ga (r:Rep C ρ h x v):handedOut v=pure v:=
 Rep.casesOn (motive_1:=λx v _=>handedOut v=pure v) r rfl (λ_=>rfl) (λ_ _=>rfl) (λ_ _ _=>rfl) (λ_ _ _=>rfl) (λ_=>rfl) (λ_ _ _=>rfl) (λ_ _ _ _=>rfl) (λ_ _ _=>rfl) (λ_ _ _=>rfl)
theorem B6 (G:GOk C)(cx:aq C c F n)(R:Rel C F ρ m s)(hx:Rep C ρ s.heap v w)(hy:y=str x)(hno:dz.contains y=eQ)(ha:c.at_ k y=eQ)(h:x5 k x v Q m) :
  IF (mod C) A (getAttr w y eQ) (Out C F ρ s Q) E s:=by
 obtain ⟨i,rfl,h3⟩:=qu h;refine e12 (qt h3) λes hi h3=>?_;refine e12 (cj h3) λu hg h3=>?_;obtain ⟨a,K,N,da,mA,rfl,hc,hN,_,_,_,I,_,_,h1,_⟩:=mS G R hx hi;refine e12 (h1 x u hg) λz hz rz=>?_;refine e03 (G.quiet _ _ hc) λq1 q2 q3=>?_;obtain ⟨nm,q,bs,sn,sub,col,dd,k0,k1,k2,k3,k5,e⟩:=mR hN;obtain ⟨hp,gg,dr,t,os⟩:=s;subst hy;exact load_attr e hN.ns q2 (cx.attr _ _ ha) (qV hno) I hz (Ga rz) (bp R cx.fm rz h3)
theorem B7 (G:GOk C)(cx:aq C c F n)(io:SV C X n c F o):SV C X n c F (.attr k o x):=by
 intro e hc Q m h;replace hc:=ah hc;obtain ⟨⟨ov,name,apos⟩,hx,hc⟩:=hc;have ee:=mj hx;subst ee;dsimp only at hc;obtain ⟨hc,ho⟩:=al hc;refine e02 (al hc) λhc h0=>?_;refine e02 (al hc) λhc hat=>?_;refine e02 (al hc) λhn hno=>?_;have hn:=eq_of_beq hn;have e0:=ba (eq_of_beq h0) rfl;rw [e0] at ho ⊢;intro s ρ R;refine Attribute_Name_ ((io _ ho _ m h).go R (.refl _ _ _) λρ₁ s₁ m₁ x v st t1 R₁ rx h₁=>?_);exact Lk (B6 G cx R₁ rx (s7 (by rw [hn];exact beq_self_eq_true _)) hno hat h₁) (Out.back t1) λ_ _ x=>x
end
section
set_option maxRecDepth 100000
section
variable {os:OsState}
variable {K N:Lr}
noncomputable abbrev bJ (h:LA) (K:Lr):Heap:=(h.push { cls:=.type "dict",data:=.dict #[] }).push (kI K h.objs.size)
theorem wQ
  (hC:h.get? K=aT (excClassObj nm q K N bs [.type "object"] eQ sn sub bY col dd k0 k1 k2 k3 k5 "object.__new__")) (hn:h.Ns N mN) (hi:mN "__init__"=aT (.ref fI)) (hfI:h.get? fI=aT oI) (hfc:oI.cls=.type "function")
  (hq:IF (model prog w) A (call (.ref fI) (.ref (h.objs.size+1)::rest)) (λr s'=>r=.none/\Q (.done (.ret (.ref (h.objs.size+1)))) s') E ⟨bJ h K,g,d,t,os⟩) :
  IF (model prog w) A (Builtin.«type.__call__» ⟨.ref K::rest,[]⟩) Q E ⟨h,g,d,t,os⟩:=by
 have hmro:=F.mro_object;have hlk:typeLookup (.type "object") "__init__"=pure (aT (.builtin "object.__init__")):=by rw [O4,NJ];kernel_rfl
 repeat (first | with_reducible refine L8 hC ?_ | with_reducible refine wpAny_madeBy_exc hC ?_ | wp_step)
 refine codeAny_call_builtin_code (Pw _ F.objNew.quiet) (wpAny_check_obj_new F.objNew hC (codeAny_obj_new F.objNew hC hn hi ?_));have up:∀{b o},h.get? b=aT o->(bJ h K).get? b=aT o:=λe=>Lj _ (Lj _ e);have hn₁:(bJ h K).Ns N mN:=let ⟨o,es,ep,e,r⟩:=hn;⟨o,es,ep,up e,r⟩;have hget:(bJ h K).get? (h.objs.size+1)=aT (kI K h.objs.size):=by heap_get
 have hcC:(Ml K::[OA "object"]).contains (.ref K)=eQ:=by simp
 unfold isInstance
 repeat (first | with_reducible refine L8 hget ?_ | (with_reducible refine Nj (up hC) ?_;rw [hcC]) | wp_step)
 refine wpAny_typeLookup_exc (up hC) hn₁ hmro hlk ?_;rw [hi];refine Md (iS ?_);unfold bindSpecial;refine iS (QZ (T:="function") ⟨_,up hfI,hfc⟩ ?_);rw [if_pos (by decide)];refine EQ (iS (Lk hq (λr s' hr=>?_) λ_ _ x=>x));obtain ⟨rfl,hQ⟩:=hr
 wp_walk
 exact hQ
theorem y9
  (hC:h.get? K=aT (excClassObj nm q K N bs [.type "object"] eQ sn sub bY col dd k0 k1 k2 k3 k5 "object.__new__")) (hn:h.Ns N mN) (hi:mN "__init__"=aT (.ref fI)) (hfI:h.get? fI=aT oI) (hfc:oI.cls=.type "function")
  (hq:IF (model prog w) (A.under (.builtin "type.__call__" ⟨.ref K::rest,[]⟩)) (call (.ref fI) (.ref (h.objs.size+1)::rest)) (λr s'=>r=.none/\Q (.ref (h.objs.size+1)) s') E ⟨bJ h K,g,d,t,os⟩) :
  IF (model prog w) A (call (.ref K) rest) Q E ⟨h,g,d,t,os⟩:=by
 have f1:=tc_lookup;have f2:=tc_bind (.ref K);have hT:(⟨h,g,d,t,os⟩:Do).TypeIs (.ref K) "type":=⟨_,hC,rfl⟩
 refine wpAny_call (Q2 ?_);show IF _ _ (callAny (.ref K) _) _ _ _
 repeat (any_goals (first | assumption | with_reducible refine L8 hC ?_ | wp_step))
 refine ⟨rfl,?_⟩;refine codeAny_call_builtin_at (Pw _ (by decide +kernel)) entry_typeCall (wpAny_check_type_call_sub hC (wQ hC hn hi hfI hfc ?_));exact hq
end
section
theorem zc (hbase:attributeBase o name env (eval o env)=eval o env)
  (hfew:((backTo pos (starEach args env)).all (λx=>!x.1)&&(backToKw pos (keywordEach [] env)).all (λx=>x.1.isSome)&&decide (args.length+([]:List Keyword).length+(if ([]:List Keyword).isEmpty then 0 else 1)<30))=eQ)
  (hline:(apos.endLine==pos.line)=eQ)
  (h:IF M A (eval o env) (λov s₁=>∀pl,IF M A (getMethod ov name pl) (λfx s₂=>IF M A (callWith pos fx.1 fx.2 (backTo pos (starEach args env)) []) Q E s₂) E s₁) E s) :
  IF M A (eval (.Call (.Attribute o name apos) args [] pos) env) Q E s:=by
 rw [arm_eval_Call,hbase];refine iS (Lk h (λov s₁ h₁=>?_) λ_ _ e=>e);refine iS (N9 ?_);have hform:methodCallForm (args.length+([]:List Keyword).length) (backTo pos (starEach args env)) (backToKw pos (keywordEach [] env))=eQ:=hfew;have hpos:methodCallPos eQ o env apos pos=pure pos:=by unfold methodCallPos;simp [hline]
 unfold methodCall;rw [hform];refine iS (Md (Lk (h₁ _) (λfx s₂ h₂=>?_) λ_ _ e=>e));exact iS (wpAny_of_eq hpos h₂)
end
end
section
theorem zd (h:Bj k x v hp=eQ):∃i es,v=.inst k i/\hp[i]?=aT (.attrs es)/\cK es x=iD:=by
 cases v with
 | inst d i=>
  replace h:(match hp[i]? with
   | some (.attrs es)=>k==d&&(cK es x).isNone
   | _=>bY)=eQ:=h
  cases hi:hp[i]? with
  | none=>rw [hi] at h;exact ff h
  | some o=>
   rw [hi] at h
   cases o with
   | attrs es=>
    refine e02 (al h) λh1 h2=>?_;obtain rfl:=eq_of_beq h1;exact ⟨i,es,rfl,hi,MZ.mp h2⟩
   | _=>exact ff h
 | _=>exact ff h
theorem wR (G:GOk C)(cx:aq C c F n)(R:Rel C F ρ m s)(hx:Rep C ρ s.heap v w)(hu:Bj k x v m.heap=eQ)(hy:y=str x)
  (hno:fH.contains y=eQ) (hm:c.mt f=aT (k,y)) (h:∀a,C.fa f=aT a->Q (.ref a,[w]) s):IF (mod C) A (getMethod w y pl) Q E s:=by
 obtain ⟨i,es,rfl,hi,hd⟩:=zd hu;obtain ⟨a,K,N,da,mA,rfl,hc,hN,_,_,_,I,_,_,_,h2⟩:=mS G R hx hi;refine e03 (G.quiet _ _ hc) λq1 q2 q3=>?_;obtain ⟨fa,ef,em,of,ho,hcl⟩:=cx.meth _ _ _ hm;obtain ⟨nm,q,bs,sn,sub,col,dd,k0,k1,k2,k3,k5,e⟩:=mR hN;have ho':=R.hp.base _ _ ho;obtain ⟨hp,gg,dr,t,os⟩:=s;subst hy;exact method_of e hN.ns q2 q3 em ho' hcl (y8 hno) I (h2 x hd) (h fa ef)
theorem B8 (G:GOk C)(cx:aq C c F n)(io:SV C X n c F o)(iargs:∀a∈args,SV C X n c F a):SV C X n c F (.umth k f x o args):=by
 intro e hc Q m h;replace hc:=ah hc;obtain ⟨⟨⟨ov,name,apos⟩,ys,pos⟩,hx,hc⟩:=hc;have ee:=qD hx;subst ee;simp only [Ll,beq_iff_eq,decide_eq_true_eq] at hc;obtain ⟨⟨⟨⟨⟨⟨⟨⟨hn,hno⟩,hm⟩,h0⟩,hl⟩,hz⟩,hnh⟩,ho⟩,ha⟩:=hc;have hh:F.A.handled=iD\/C.hf f=eQ:=by
  refine MN (OF.mp hnh) (λq=>?_) λq=>?_
  ·exact .inl (cx.hn q)
  ·exact .inr (cx.hf▸q)
 have hy:name=str x:=s7 (by rw [hn];exact beq_self_eq_true _);have e0:=ba h0 rfl;rw [e0] at ho ⊢;intro s ρ R;have hp:=cf ha pos F.env;refine zc rfl ?_ (by simp [hl]) ((io _ ho _ m h).go R (.refl _ _ _) λρ₁ s₁ m₁ v w st t1 R₁ rx h₁ pl=>?_)
 ·rw [Ll,Ll];refine ⟨⟨?_,rfl⟩,?_⟩
  ·rw [LN];intro q hq;rw [List.any_eq_false] at hp
   simpa using hp q hq
  ·simp;exact iF hz (nb rfl)
 ·refine e02 (jo h₁) λhu h₁=>?_;refine wR G cx R₁ rx hu hy hno hm λa hfa=>?_;refine e22 (G.fns f a hfa) λof fd hof hd=>?_;have fin:∀ρ₂ s₂ m₂ xs vs,ao F.W ρ₁ s₁ ρ₂ s₂->ao F.W ρ s ρ₂ s₂->Rel C F ρ₂ m₂ s₂->au C ρ₂ s₂.heap xs vs->Call C n f (v::xs) (λv h=>Q v ⟨m₂.vars,h⟩) (λc h=>X c ⟨m₂.vars,h⟩) m₂.heap->IF (mod C) F.A (call (.ref a) (w::vs)) (Out C F ρ s Q) (Er C F X ρ s) s₂:=by
   intro ρ₂ s₂ m₂ xs vs st2 t2 R₂ rl h₂;refine Lk (h₂ F m₂ s₂ ρ₂ (w::vs) a cx.fm hh rfl R₂ (.cons (rx.step st2) rl) cx.room cx.units hfa) (λv s₃ hv=>?_) λe s' x=>Er.back t2 e s' (Er.mono (λk m' ⟨q1,q2⟩=>by rw [<-q1] at q2;exact q2) e s' x);obtain ⟨ρ₃,m₃,x,st3,R₃,rx,e,hq⟩:=hv;refine ⟨ρ₃,m₃,x,t2.trans st3,R₃,rx,?_⟩;rw [<-e] at hq;exact hq
  cases ys with
  | nil=>
   cases args with
   | nil=>exact callWith_meth0 hd (R₁.hp.base _ _ hof) (fin ρ₁ s₁ m₁ [] [] (.refl _ _ _) t1 R₁ .nil h₁)
   | cons=>exact ff ha
  | cons y ys=>
   have ha':=pB G cx iargs _ ha _ m₁ h₁ pos;have hne:=iE ha rfl pos F.env;obtain ⟨⟨b,t⟩,trees,et⟩:=Pb hne;rw [et] at ha' hp;show IF (mod C) F.A (callWith pos (.ref a) [w] (backTo pos (starEach (y::ys) F.env)) []) _ _ _;rw [et];simp only [QK,NV] at hp;obtain ⟨rfl,hp⟩:=hp;refine Calls.callWith_function (o:=of) (fd:=fd) (NW (ha'.go R₁ t1 λρ₂ s₂ m₂ xs vs st2 t2 R₂ rl el h₂=>⟨⟨R₂.hp.base _ _ hof,hd⟩,?_⟩));exact fin ρ₂ s₂ m₂ xs vs st2 t2 R₂ rl h₂
end
section
theorem s8 (h:sq v P):v=.none/\P:=by
 cases v with
 | none=>exact ⟨rfl,h⟩
 | _=>exact h.elim
theorem B9 (G:GOk C)(cx:aq C c F n){k f j:Nat}(hj:n=j+1)(hm:c.mt f=aT (k,("__init__":Str))){K:Lr}(hK:C.ca k=aT K)(hh:F.A.handled=iD){ρ:List Lr}{m:MS}{s:Do}(R:Rel C F ρ m s){xs:List MV}{vs:List rW}(rl:au C ρ s.heap xs vs){Q:PQ}
  (h:Call C j f (.inst k m.heap.length::xs) (λv h=>sq v (Q (.inst k m.heap.length) ⟨m.vars,h⟩)) (λc h=>X c ⟨m.vars,h⟩) (m.heap++[.attrs []])) :
  IF (mod C) F.A (call (.ref K) vs) (Out C F ρ s Q) (Er C F X ρ s) s:=by
 refine e11 (G.cls k K hK) λN hN=>?_;have hN':=hN.keeps λb o e=>R.hp.base b o e;obtain ⟨nm,q,bs,sn,sub,col,dd,k0,k1,k2,k3,k5,e⟩:=mR hN';obtain ⟨fa,ef,em,of,ho,hcl⟩:=cx.meth _ _ _ hm;have ho':=R.hp.base _ _ ho;obtain ⟨hp,gg,dr,t,os⟩:=s;refine y9 e hN'.ns em ho' hcl ?_;have hk:∀a o,hp.get? a=aT o->(bJ hp K).get? a=aT o:=λa o e=>Lj _ (Lj _ e);have hd1:(bJ hp K).get? hp.objs.size=aT { cls:=.type "dict",data:=.dict #[] }:=by heap_get
 have hd2:(bJ hp K).get? (hp.objs.size+1)=aT (kI K hp.objs.size):=by heap_get
 have hns:(bJ hp K).Ns1 hp.objs.size λ_=>iD:=LA.Ns1.of_empty ⟨_,#[],_,hd1,rfl,λe he=>absurd he (by simp),λ_=>rfl⟩;refine e02 (R.alloc (s':=⟨bJ hp K,gg,dr,t,os⟩) cx.fm hk rfl rfl (o:=.attrs []) (a:=hp.objs.size) (bC (nO _)) (show x7 _ _ _ _ _ from ⟨_,hns,λx v e=>(by exact av e),λ_ _=>rfl,Ly _⟩)) λR' st=>?_;have hr:Rep C (ρ++[hp.objs.size]) (bJ hp K) (.inst k m.heap.length) (.ref (hp.objs.size+1)):=
  .inst hK (by rw [<-R.hp.len,LU (nO _)];simp) hd2
 have okF:aJ { F with A:=F.A.under (.builtin "type.__call__" ⟨.ref K::vs,[]⟩) }:=by
  obtain ⟨a1,a2,a3,a4,es,a5,a6⟩:=cx.fm;exact ⟨a1,a2,a3,a4,es,a5,a6⟩
 have R'':Rel C { F with A:=F.A.under (.builtin "type.__call__" ⟨.ref K::vs,[]⟩) } (ρ++[hp.objs.size]) (m.push (.attrs [])) ⟨bJ hp K,gg,dr,t,os⟩:=by
  obtain ⟨a1,a2,a3,a4,a5,a6,a7⟩:=R';exact ⟨a1,a2,a3,a4,a5,a6,a7⟩
 refine Lk (h _ (m.push (.attrs [])) _ _ (.ref (hp.objs.size+1)::vs) fa okF (.inl hh) rfl R'' (.cons hr (rl.step st)) ?_ ?_ ef) (λv s₂ hv=>?_) λe s' x=>Er.back st e s' ?_
 ·have:=cx.room;show F.A.depth+1+j<=999;exact n2 this (Lw hj.symm) (by simp +arith only)
 ·have:=cx.units;show F.A.units+1<=3 * (F.A.depth+1)+4;exact n1 this (by simp +arith only)
 ·obtain ⟨ρ₂,m₂,x,st2,R₂,rx,ev,hq⟩:=hv;obtain ⟨rfl,hq⟩:=s8 hq
  cases rx
  refine ⟨rfl,ρ₂,m₂,_,st.trans st2,?_,hr.step st2,?_⟩
  ·obtain ⟨a1,a2,a3,a4,a5,a6,a7⟩:=R₂;exact ⟨a1,a2,a3,a4,a5,a6,a7⟩
  ·have:m.vars=m₂.vars:=ev.symm;rw [this] at hq;exact hq
 ·obtain ⟨ρ',m',k',a,K',h1,h2,h3,h4,h5,q1,q2⟩:=x<;>exact ⟨ρ',m',k',a,K',h1,⟨h2.hp,h2.ns,h2.w,h2.vars,h2.cells,h2.out,h2.gens⟩,h3,h4,h5,by have e:m.vars=m'.vars:=q1.symm;rw [e] at q2;exact q2⟩
theorem Gb (G:GOk C)(cx:aq C c F n)(iargs:∀a∈args,SV C X n c F a):SV C X n c F (.new k f args):=by
 intro e hc Q m h;replace hc:=ah hc;obtain ⟨⟨x,ys,pos⟩,hx,hc⟩:=hc;obtain ⟨px,rfl⟩:=gN hx;simp only [Ll,beq_iff_eq,Nk] at hc;obtain ⟨⟨⟨⟨⟨hg,hf⟩,hm⟩,hne⟩,hnh⟩,ha⟩:=hc;intro s ρ R;refine Ng rfl (yy cx R hf (az hg).1 (az hg).2 λK hK=>?_);refine e11 (G.cls k K hK) λN hN=>?_;have hp:=cf ha pos F.env
 cases ys with
 | nil=>exact tf hne
 | cons y ys=>
  have hy:starEach (y::ys) F.env=(bY,eval y F.env)::starEach ys F.env:=by
   cases args with
   | nil=>exact ff ha
   | cons=>exact bj (aM ha).1.1 _ _
  have hp2:(backTo pos (starEach ys F.env)).any (·.1)=bY:=by
   cases args with
   | nil=>exact ff ha
   | cons=>exact cf (aM ha).2 _ _
  refine callWith_cls hN ?_ hy hp2;refine (pB G cx iargs _ ha _ m h pos).go R (.refl _ _ _) λρ₁ s₁ m₁ xs vs st t1 R₁ rl el h₁=>⟨λb o e=>R₁.hp.base b o e,?_⟩
  cases n with
  | zero=>exact h₁.elim
  | succ j=>exact Iq t1 (B9 G cx rfl hm hK (cx.hn hnh) R₁ rl h₁)
end
section
variable {C:Glo}{F:Fm}{X:XM}{c:Cx}{n:Nat}{ρ:List Lr}{m:MS}{s:Do}{E:rW->Do->Prop}{A:MP}
theorem uw {hp:List MO}{x:MV}{k:Nat}(h:Bg hp x=aT (.exc k)):∃r,x=.ref r/\hp[r]?=aT (.exc k):=by
 cases x with
 | ref r=>
  replace h:kdO hp[r]?=aT (.exc k):=h
  cases hr:hp[r]? with
  | none=>rw [hr] at h;exact av h
  | some o=>
   rw [hr] at h
   cases o with
   | exc j=>cases h;exact ⟨r,rfl,hr⟩
   | attrs=>exact av h
   | _=>exact nomatch h
 | inst=>exact av h
 | scr=>exact av h
 | gt=>exact av h
 | cdict=>exact av h
 | _=>exact nomatch h
theorem Ca {hp:List MO}{x:MV}{d:Nat}{b:Bool}(h:fk hp x (.cls d)=aT b):∃r k,x=.ref r/\hp[r]?=aT (.exc k)/\b=(k==d||d==0):=by
 obtain ⟨k,hk,h⟩:=jr h
 cases k with
 | exc k=>obtain ⟨r,h1,h2⟩:=uw hk;exact ⟨r,k,h1,h2,(BY h).symm⟩
 | _=>exact av h
theorem Gc {hp:List MO}{x:MV}{b:Bool}(h:fk hp x .valueError=aT b):∃r k,x=.ref r/\hp[r]?=aT (.exc k)/\b=eQ:=by
 obtain ⟨k,hk,h⟩:=jr h
 cases k with
 | exc k=>obtain ⟨r,h1,h2⟩:=uw hk;exact ⟨r,k,h1,h2,(BY h).symm⟩
 | _=>exact av h
theorem ux (G:GOk C){k d:Nat}{K D:Lr}(hk:C.xa k=aT K)(hd:C.xa d=aT D):∃bm,XCl C.base K bm/\(Ml K::bm).contains (.ref D)=(k==d||d==0):=by
 obtain ⟨K0,h0,bm,hx,hb⟩:=G.x.exc k K hk;refine ⟨bm,hx,?_⟩;have key:∀{j:Nat} {J:Lr},C.xa j=aT J->(Ml D==Ml J)=(d==j):=λ{j J} hj=>by
  refine O3.mpr ⟨λq=>?_,λq=>?_⟩
  ·have:D=J:=by simpa using q
   subst this;rw [G.x.xinj _ _ _ hd hj];exact beq_self_eq_true _
  ·have:=eq_of_beq q;subst this;obtain rfl:=same hj hd;exact beq_self_eq_true _
 have hv:eX.contains (Ml D)=bY:=rfl;have hs:(d==k)=(k==d):=O3.mpr ⟨λq=>by rw [eq_of_beq q];exact beq_self_eq_true _,λq=>by rw [eq_of_beq q];exact beq_self_eq_true _⟩;rw [Pv,key hk,hs]
 cases k with
 | zero=>
  rw [hb];show (_||eX.contains (.ref D))=_;rw [hv]
  cases d<;>rfl
 | succ k=>
  rw [hb];show (_||(Ml K0::eX).contains (.ref D))=_;rw [Pv,key h0,hv,Rh]
theorem Cb (G:GOk C)(cx:aq C c F n)(R:Rel C F ρ m s){x:MV}{v:rW}(rx:Rep C ρ s.heap x v){d:Nat}{D:Lr}(hD:C.xa d=aT D){b:Bool}(h:fk m.heap x (.cls d)=aT b){Q:PQ}(hq:Q (.bool b) m) :
  IF (mod C) A (call (.builtin "isinstance") [v,.ref D]) (Out C F ρ s Q) E s:=by
 obtain ⟨r,k,rfl,hr,hb⟩:=Ca h;obtain ⟨a,rfl,g⟩:=rx.inv;obtain ⟨K,o,vs,h1,h2,h3,_⟩:=R.hp.objs _ _ _ hr g;obtain ⟨bm,hx,hc⟩:=ux G h1 hD;obtain ⟨_,_,bmD,hy,_⟩:=G.x.exc d D hD;have hk:∀b o,C.base.get? b=aT o->s.heap.get? b=aT o:=λb o e=>R.hp.base b o e;refine wu (hx.keeps hk) (hy.keeps hk) h2 h3 λtk=>?_;rw [hc,<-hb];exact bp R cx.fm (.bool _) hq
theorem Ge (G:GOk C)(cx:aq C c F n)(R:Rel C F ρ m s){x:MV}{v:rW}(rx:Rep C ρ s.heap x v){b:Bool}(h:fk m.heap x .valueError=aT b){Q:PQ}(hq:Q (.bool b) m) :
  IF (mod C) A (call (.builtin "isinstance") [v,.type "ValueError"]) (Out C F ρ s Q) E s:=by
 obtain ⟨r,k,rfl,hr,hb⟩:=Gc h;obtain ⟨a,rfl,g⟩:=rx.inv;obtain ⟨K,o,vs,h1,h2,h3,_⟩:=R.hp.objs _ _ _ hr g;obtain ⟨_,_,bm,hx,_⟩:=G.x.exc k K h1;refine o9 (hx.keeps λb o e=>R.hp.base b o e) h2 h3 ?_;subst hb;exact bP R (.bool _) hq
end
section
theorem ke (h:mB c t e=eQ):∃T p,e=.Name (NQ T) p/\lg t=aT T/\c.kind (NQ T)=aT .globalImplicit/\dbg (NQ T)=bY:=by
 replace h:=ah h;obtain ⟨y,hy,h⟩:=h;replace h:=ah h;refine e12 h λT eT h=>?_;obtain ⟨py,rfl⟩:=bZ hy;simp only [Ll,beq_iff_eq,Nk] at h;obtain ⟨⟨rfl,hk⟩,hd⟩:=h;exact ⟨T,py,rfl,eT,hk,hd⟩
theorem uy (cx:aq C c F n)(R:Rel C F ρ m s)(t1:ao F.W ρ₀ s₀ ρ s)(h:IF (mod C) F.A (call (.builtin "isinstance") [w,u]) (gM s λb=>Q (.bool b) m) (Er C F X ρ₀ s₀) s):IF (mod C) F.A (call (.builtin "isinstance") [w,u]) (Out C F ρ₀ s₀ Q) (Er C F X ρ₀ s₀) s:=
 Lk h (λv s' hv=>by
  obtain ⟨b,rfl,m',st3,R',hq⟩:=yJ (P:=λb m=>Q (.bool b) m) R cx.fm hv;exact Out.back t1 _ _ ⟨_,_,_,st3,R',.bool b,hq⟩) λ_ _ x=>x
theorem Gf (G:GOk C)(cx:aq C c F n)(R:Rel C F ρ m s)(t1:ao F.W ρ₀ s₀ ρ s)(ht:DZ c ty t=eQ)(rx:Rep C ρ s.heap x v)(hb:fk m.heap x ty=aT b)(hq:Q (.bool b) m) :
  okX t=eQ/\IF (mod C) F.A (eval t F.env) (λu s₂=>IF (mod C) F.A (call (.builtin "isinstance") [v,u]) (Out C F ρ₀ s₀ Q) (Er C F X ρ₀ s₀) s₂) (Er C F X ρ₀ s₀) s:=by
 have plain:mB c ty t=eQ->okX t=eQ/\IF (mod C) F.A (eval t F.env) (λu s₂=>IF (mod C) F.A (call (.builtin "isinstance") [v,u]) (Out C F ρ₀ s₀ Q) (Er C F X ρ₀ s₀) s₂) (Er C F X ρ₀ s₀) s:=λht=>by
  obtain ⟨T,p,rfl,eT,hk,hd⟩:=ke ht;exact ⟨rfl,cW cx R (sK eT) hk hd (uy cx R t1 (Fi R.hp rx hb hq T eT))⟩
 refine LL λhn=>?_
 cases ty with
 | cls d=>
  refine e12 (ah ht) λy hy ht=>?_;obtain ⟨py,rfl⟩:=bZ hy;refine e02 (al ht) λh1 h2=>?_;exact hn ⟨rfl,my cx R (eq_of_beq h2) (az h1).1 (az h1).2 λD hD=>Lk (Cb G cx R rx hD hb hq) (Out.back t1) λ_ _ x=>x⟩
 | valueError=>
  obtain ⟨y,hy,ht⟩:=ah ht;obtain ⟨py,rfl⟩:=bZ hy;refine e02 (al ht) λh1 h2=>?_;obtain rfl:=eq_of_beq h2;exact hn ⟨rfl,cW cx R (v:=.type "ValueError") (bk 15 rfl) (az h1).1 (az h1).2 (Lk (Ge G cx R rx hb hq) (Out.back t1) λ_ _ x=>x)⟩
 | _=>exact hn (plain ht)
theorem I5 (G:GOk C)(cx:aq C c F n)(R:Rel C F ρ m s)(t1:ao F.W ρ₀ s₀ ρ s)(ht:yI c ts t=eQ)(rx:Rep C ρ s.heap x v)(h:HS ts m.heap x λb=>Q (.bool b) m) :
  okX t=eQ/\IF (mod C) F.A (eval t F.env) (λu s₂=>IF (mod C) F.A (call (.builtin "isinstance") [v,u]) (Out C F ρ₀ s₀ Q) (Er C F X ρ₀ s₀) s₂) (Er C F X ρ₀ s₀) s:=by
 rcases ts with _ | ⟨t₁,_ | ⟨t₂,_ | ⟨t₃,r⟩⟩⟩
 ·exact ff ht
 ·refine e12 (cj h) λb hb hq=>?_;exact Gf G cx R t1 ht rx hb hq
 ·refine e12 (ah ht) λus hus ht=>?_;obtain ⟨⟨w1,w2⟩,hw,ht⟩:=ah ht;obtain rfl:=pc hw;obtain ⟨kk,pp,rfl⟩:=jy hus;obtain ⟨ht1,ht2⟩:=al ht;obtain ⟨T1,p1,rfl,e1,hk1,hd1⟩:=ke ht1;obtain ⟨T2,p2,rfl,e2,hk2,hd2⟩:=ke ht2;refine e12 (cj h) λb hb h=>?_;refine e12 (cj h) λb' hb' hq=>?_;refine ⟨rfl,wpAny_Tuple (QP (cW cx R (sK e1) hk1 hd1 (QP (cW cx R (sK e2) hk2 hd2 (wpAny_items_nil ⟨(by decide:2<=sizeLine),?_⟩)))))⟩;refine e02 (R.grow (s':={ s with heap:=s.heap.push { cls:=.type "tuple",data:=.seq #[.type T1,.type T2] } }) cx.fm (λa o e=>Lj _ e) rfl rfl) λR₂ st₂=>?_;exact uy cx R₂ (t1.trans st₂) (Bw R₂.hp (rx.step st₂) e1 e2 hb hb' hq (LI _ rfl))
 ·exact ff ht
theorem wU (h:yI c ts t=eQ):okX t=eQ:=by
 have nm:∀{f:Str->Bool},am (e8 t) f=eQ->okX t=eQ:=λh=>by
  refine e12 (ah h) λy hy _=>?_;obtain ⟨py,rfl⟩:=bZ hy;rfl
 rcases ts with _ | ⟨t₁,_ | ⟨t₂,_ | ⟨t₃,r⟩⟩⟩
 ·exact ff h
 ·cases t₁<;>exact nm h
 ·refine e12 (ah h) λus hus _=>?_;obtain ⟨kk,pp,rfl⟩:=jy hus;rfl
 ·exact ff h
theorem ze (cx:aq C c F n)(ia:SV C X n c F a)(hg:cP c "isinstance"=eQ)(hv:okX v=eQ)(ha:aD c a v=eQ)(ho:okX t=eQ)(h:wpE (Call C) n a PX X m)
  (k:∀{ρ₀:List Lr}{s₀:Do}{ρ₁:List Lr}{s₁:Do}{m₁:MS}{x:MV}{w:rW},ao F.W ρ₀ s₀ ρ₁ s₁->Rel C F ρ₁ m₁ s₁->Rep C ρ₁ s₁.heap x w->PX x m₁->IF (mod C) F.A (eval t F.env) (λu s₂=>IF (mod C) F.A (call (.builtin "isinstance") [w,u]) (Out C F ρ₀ s₀ Q) (Er C F X ρ₀ s₀) s₂) (Er C F X ρ₀ s₀) s₁) :
  WPv C F X (eval (.Call (.Name "isinstance" px) [v,t] [] pos) F.env) Q m:=by
 intro s ρ R;refine Ng rfl (cW cx R (v:=.builtin "isinstance") (bk 7 rfl) (az hg).1 (az hg).2 ?_);refine fJ (.inl ⟨_,rfl⟩) (by rw [bj hv,bj ho];rfl) (by rw [bj hv];exact M2 _ _) ?_;rw [bj hv,bj ho];exact O0 ((ia v ha _ m h).go R (.refl _ _ _) λρ₁ s₁ m₁ x v st t1 R₁ rx h₁=>O0 (Lk (k t1 R₁ rx h₁) (λw s₂ hw=>PS hw) λ_ _ e=>e))
theorem Gg (G:GOk C)(cx:aq C c F n)(ia:SV C X n c F a):SV C X n c F (.isi a ts):=by
 intro e hc Q m h;obtain ⟨⟨x,ys,pos⟩,hx,hc⟩:=ah hc;obtain ⟨⟨v,t⟩,hv2,hc⟩:=ah hc;obtain rfl:=pc hv2;obtain ⟨px,rfl⟩:=gN hx;refine e02 (al hc) λhc ht=>?_;refine e02 (al hc) λhc ha=>?_;refine e02 (al hc) λhc hv=>?_;refine e02 (al hc) λhg hn=>?_;obtain rfl:=eq_of_beq hn;exact ze cx ia hg hv ha (wU ht) h λt1 R₁ rx h₁=>(I5 G cx R₁ t1 ht rx h₁).2
end
noncomputable def aX (e:L7):Bool:=okX e&&((view e).tag != 3||(view e).u != .Not)&&(view e).tag != 4&&(view e).tag != 5
theorem nM (h:aX e=eQ)(env:RF)(whole:Sem rW):isTrue e env whole=(do let v <-whole;standAt e.pos;holding [v] (truthy v)):=by
 unfold aX at h
 try dsimp only at h
 refine e02 (al h) λhA h4=>?_;refine e02 (al hA) λhA h3=>?_;refine e02 (al hA) λh1 h2=>?_;exact dw (P:=λe=>((view e).tag != 3||(view e).u != .Not)=eQ->((view e).tag != 4)=eQ->((view e).tag != 5)=eQ->isTrue e env whole=(do let v <-whole;standAt e.pos;holding [v] (truthy v))) h1
  (λ_ _ _ _ _ _=>rfl) (λ_ _ _ _ _=>rfl) (λ_ _ _ _ _ _ _=>rfl) (λo _ _ h _ _=>by cases o<;>first | rfl | exact ff h) (λ_ _ _ _ h _=>by exact ff h) (λ_ _ _ _ _ _ h=>by exact ff h) (λ_ _ _ _ _ _ _=>rfl) (λ_ _ _ _ _ _=>rfl) (λ_ _ _ _ _ _=>rfl) (λ_ _ _ _ _=>rfl) (λ_ _ _ _ _ _=>rfl) (λ_ _ _ _ _ _=>rfl) (λ_ _ _ _ _ _ _=>rfl) h2 h3 h4
theorem wV (h:(view e).tag=k)(hk:(k != 9&&k != 14&&k != 3&&k != 4&&k != 5)=eQ):aX e=eQ:=by
 subst h
 try dsimp only at hk
 refine e02 (al hk) λhA h5=>?_;refine e02 (al hA) λhA h4=>?_;refine e02 (al hA) λhA h3=>?_;refine e02 (al hA) λh1 h2=>?_;simp [aX,okX,h1,h2,h3,h4,h5]
theorem aY {α:Type}{e:L7}{k:Nat}{x y:α}(h:(if (view e).tag=k then aT x else iD)=aT y)(hk:(k != 9&&k != 14&&k != 3&&k != 4&&k != 5)=eQ):aX e=eQ:=wV (bi h).1 hk
theorem gS (h:xFn e=aT q):aX e=eQ:=by
 unfold xFn at h;refine e12 (LW.mp h) λq h _=>?_;exact aY h rfl
theorem mT (h:nZ e=aT q):aX e=eQ:=by
 unfold nZ at h;refine e12 (LW.mp h) λq h _=>?_;exact aY h rfl
noncomputable def ST (C:Glo)(X:XM)(n:Nat)(c:Cx)(F:Fm)(me:ME):Prop:=
 ∀(e:L7),aD c me e=eQ->∀(Q:Bool->MS->Prop) (m:MS),wpE (Call C) n me (dK Q) X m->WPt C F X (isTrue e F.env (eval e F.env)) Q m
section
theorem zg (G:GOk C)(cx:aq C c F n)(ia:SV C X n c F me)(hpl:∀e,aD c me e=eQ->aX e=eQ):ST C X n c F me:=by
 intro e hc Q m h s ρ R;refine wpAny_isTrue_value ((ia e hc _ m h).go R (.refl _ _ _) λρ₁ s₁ m₁ x v st t1 R₁ rx h₁=>?_) (nM (hpl e hc) _ _);obtain ⟨b,rfl,h₁⟩:=fZ h₁
 cases rx;exact Na ⟨_,_,t1,R₁,h₁⟩
theorem D7 (G:GOk C)(cx:aq C c F n):∀{es:List ME},(∀a∈es,ST C X n c F a)->∀(xs:List L7),be c es xs=eQ->∀(Q:Bool->MS->Prop) (m:MS),ud (Call C) n es (dK Q) X m->WPt C F X (allTrue .And xs F.env) Q m
 | [],ih,xs,hc,Q,m,h=>h.elim
 | [e],ih,xs,hc,Q,m,h=>by
  cases xs with
  | nil=>exact ff hc
  | cons x xs=>
   replace hc:=aM hc
   cases xs with
   | nil=>
    intro s ρ R;refine wpAny_allTrue_And_cons ((ih e (by exact oF.mpr rfl) x hc.1.2 _ m h).go R (.refl _ _ _) λρ₁ s₁ m₁ b st t1 R₁ h₁=>?_)
    cases b with
    | true=>exact wpAny_allTrue_And_nil ⟨_,_,t1,R₁,h₁⟩
    | false=>exact ⟨_,_,t1,R₁,h₁⟩
   | cons=>cases hc.2
 | e::e'::es,ih,xs,hc,Q,m,h=>by
  cases xs with
  | nil=>exact ff hc
  | cons x xs=>
   replace hc:=aM hc;intro s ρ R;refine wpAny_allTrue_And_cons ((ih e (by exact IS ..) x hc.1.2 _ m h).go R (.refl _ _ _) λρ₁ s₁ m₁ b st t1 R₁ h₁=>?_)
   cases b with
   | true=>exact Lk (D7 G cx (λa ha=>ih a (Lm _ ha)) xs hc.2 Q m₁ h₁ s₁ ρ₁ R₁) (λb s' ⟨ρ',m',a,b',c'⟩=>⟨ρ',m',t1.trans a,b',c'⟩) (Er.back t1)
   | false=>exact ⟨_,_,t1,R₁,h₁⟩
theorem I6 (G:GOk C)(cx:aq C c F n):∀{es:List ME},(∀a∈es,ST C X n c F a)->∀(xs:List L7),be c es xs=eQ->∀(Q:Bool->MS->Prop) (m:MS),Bk (Call C) n es (dK Q) X m->WPt C F X (allTrue .Or xs F.env) Q m
 | [],ih,xs,hc,Q,m,h=>h.elim
 | [e],ih,xs,hc,Q,m,h=>by
  cases xs with
  | nil=>exact ff hc
  | cons x xs=>
   replace hc:=aM hc
   cases xs with
   | nil=>
    intro s ρ R;refine wpAny_allTrue_Or_cons ((ih e (by exact oF.mpr rfl) x hc.1.2 _ m h).go R (.refl _ _ _) λρ₁ s₁ m₁ b st t1 R₁ h₁=>?_)
    cases b with
    | true=>exact ⟨_,_,t1,R₁,h₁⟩
    | false=>exact wpAny_allTrue_Or_nil ⟨_,_,t1,R₁,h₁⟩
   | cons=>cases hc.2
 | e::e'::es,ih,xs,hc,Q,m,h=>by
  cases xs with
  | nil=>exact ff hc
  | cons x xs=>
   replace hc:=aM hc;intro s ρ R;refine wpAny_allTrue_Or_cons ((ih e (by exact IS ..) x hc.1.2 _ m h).go R (.refl _ _ _) λρ₁ s₁ m₁ b st t1 R₁ h₁=>?_)
   cases b with
   | false=>exact Lk (I6 G cx (λa ha=>ih a (Lm _ ha)) xs hc.2 Q m₁ h₁ s₁ ρ₁ R₁) (λb s' ⟨ρ',m',a,b',c'⟩=>⟨ρ',m',t1.trans a,b',c'⟩) (Er.back t1)
   | true=>exact ⟨_,_,t1,R₁,h₁⟩
theorem Gh (G:GOk C)(cx:aq C c F n)(ia:ST C X n c F a):ST C X n c F (.not a):=by
 intro e hc Q m h;replace hc:=ah hc;obtain ⟨⟨o,x⟩,hx,hc⟩:=hc;obtain ⟨p,rfl⟩:=pe hx
 try dsimp only at hc
 refine e02 (al hc) λhE1 hc=>?_
 first | with_reducible replace hc:=eq_of_beq hc | skip
 obtain rfl:=eq_of_beq hE1;intro s ρ R;exact wpAny_isTrue_Not ((ia _ hc _ m h).go R (.refl _ _ _) λρ₁ s₁ m₁ b st t1 R₁ h₁=>⟨_,_,t1,R₁,h₁⟩)
theorem Gi (G:GOk C)(cx:aq C c F n)(ies:∀a∈es,ST C X n c F a):ST C X n c F (.and es):=by
 intro e hc Q m h;replace hc:=ah hc;obtain ⟨⟨o,xs⟩,hx,hc⟩:=hc;obtain ⟨p,rfl⟩:=jw hx
 try dsimp only at hc
 obtain ⟨hE2,hc⟩:=al hc
 first | with_reducible replace hc:=eq_of_beq hc | skip
 obtain rfl:=eq_of_beq hE2;intro s ρ R;exact wpAny_isTrue_BoolOp (D7 G cx ies _ hc _ m h s ρ R)
theorem I7 (G:GOk C)(cx:aq C c F n)(ies:∀a∈es,ST C X n c F a):ST C X n c F (.or es):=by
 intro e hc Q m h;replace hc:=ah hc;obtain ⟨⟨o,xs⟩,hx,hc⟩:=hc;obtain ⟨p,rfl⟩:=jw hx
 try dsimp only at hc
 obtain ⟨hE3,hc⟩:=al hc
 first | with_reducible replace hc:=eq_of_beq hc | skip
 obtain rfl:=eq_of_beq hE3;intro s ρ R;exact wpAny_isTrue_BoolOp (I6 G cx ies _ hc _ m h s ρ R)
theorem Gj (G:GOk C)(cx:aq C c F n)(ia:SV C X n c F a)(ib:SV C X n c F b):ST C X n c F (.cmp op a b):=by
 intro e hc Q m h;replace hc:=ah hc;obtain ⟨⟨l,os,rs⟩,hxx,hc⟩:=hc;replace hc:=ah hc;obtain ⟨o,ho,hc⟩:=hc;replace hc:=ah hc;obtain ⟨r,hr,hc⟩:=hc
 cases bX ho
 cases bX hr
 obtain ⟨p,rfl⟩:=jx hxx
 try dsimp only at hc
 obtain ⟨hA,hb⟩:=al hc
 first | with_reducible replace hb:=eq_of_beq hb | skip
 obtain ⟨hA,ha⟩:=al hA
 first | with_reducible replace ha:=eq_of_beq ha | skip
 refine e02 (al hA) λhE4 hx=>?_
 first | with_reducible replace hx:=eq_of_beq hx | skip
 obtain rfl:=eq_of_beq hE4;intro s ρ R;exact wpAny_isTrue_Compare1 (og G cx ia ib ha hb R h λb ρ' m' s' st R' hq=>Na ⟨_,_,st,R',hq⟩) (ir hx _)
theorem Gk (G:GOk C)(cx:aq C c F n)(ia:SV C X n c F a):ST C X n c F (.isN p a):=by
 intro e hc Q m h;replace hc:=ah hc;obtain ⟨⟨l,os,rs⟩,hxx,hc⟩:=hc;replace hc:=ah hc;obtain ⟨o,ho,hc⟩:=hc;replace hc:=ah hc;obtain ⟨r,hr,hc⟩:=hc
 cases bX ho
 cases bX hr
 obtain ⟨p2,rfl⟩:=jx hxx
 try dsimp only at hc
 obtain ⟨hA,ha⟩:=al hc
 first | with_reducible replace ha:=eq_of_beq ha | skip
 obtain ⟨hE5,hn⟩:=al hA
 first | with_reducible replace hn:=eq_of_beq hn | skip
 obtain rfl:=eq_of_beq hE5;obtain ⟨_,_,rfl⟩:=im hn;intro s ρ R;exact wpAny_isTrue_Compare1 (qM G cx ia ha R h λb ρ' m' s' st R' hq=>Na ⟨_,_,st,R',hq⟩) rfl
theorem aW (h:am o f=eQ):∃a,o=aT a:=let ⟨a,h,_⟩:=ah h;⟨a,h⟩
theorem Gl:∀e,aD c (.cst v) e=eQ->aX e=eQ:=λe hc=>by
 refine e11 (aW hc) λ_ hx=>?_;exact aY hx rfl
theorem Gm:∀e,aD c (.var i) e=eQ->aX e=eQ:=λe hc=>by
 obtain ⟨_,hx⟩:=aW hc;exact aY hx rfl
theorem Cc:∀e,aD c (.glob g v) e=eQ->aX e=eQ:=λe hc=>by
 obtain ⟨_,hx⟩:=aW hc;exact aY hx rfl
theorem Gp:∀e,aD c (.bin op a b) e=eQ->aX e=eQ:=λe hc=>by
 refine e11 (aW hc) λ_ hx=>?_;exact aY hx rfl
theorem Gq:∀e,aD c (.idx o i) e=eQ->aX e=eQ:=λe hc=>by
 obtain ⟨_,hx⟩:=aW hc;exact aY hx rfl
theorem I8 {o:ME}{lo hi:Option ME}:∀e,aD c (.sl o lo hi) e=eQ->aX e=eQ:=λe hc=>by
 obtain ⟨_,hx⟩:=aW hc;exact aY hx rfl
theorem Cd:∀e,aD c (.list es) e=eQ->aX e=eQ:=λe hc=>by
 refine e11 (aW hc) λ_ hx=>?_;exact aY hx rfl
theorem Gr:∀e,aD c (.tup es) e=eQ->aX e=eQ:=λe hc=>by
 refine e11 (aW hc) λ_ hx=>?_;exact aY hx rfl
theorem zh:∀e,aD c (.dict0) e=eQ->aX e=eQ:=λe hc=>by
 refine e11 (aW hc) λ_ hx=>?_;exact aY hx rfl
theorem Ce:∀e,aD c (.comp elt t many k src ifs) e=eQ->aX e=eQ:=λe hc=>by
 refine e11 (aW hc) λ_ hx=>?_;exact aY hx rfl
theorem Cf:∀e,aD c (.call f args) e=eQ->aX e=eQ:=λe hc=>by
 obtain ⟨_,hx⟩:=aW hc;exact gS hx
theorem Gs:∀e,aD c (.isi a ts) e=eQ->aX e=eQ:=λe hc=>by
 obtain ⟨_,hx⟩:=aW hc;exact gS hx
theorem Gu:∀e,aD c (.mth k o args) e=eQ->aX e=eQ:=λe hc=>by
 obtain ⟨_,hx⟩:=aW hc;exact mT hx
theorem Cg:∀e,aD c (.umth k f x o args) e=eQ->aX e=eQ:=λe hc=>by
 obtain ⟨_,hx⟩:=aW hc;exact mT hx
theorem Gv:∀e,aD c (.new k f args) e=eQ->aX e=eQ:=λe hc=>by
 obtain ⟨_,hx⟩:=aW hc;exact gS hx
theorem Ci:∀e,aD c (.attr k o x) e=eQ->aX e=eQ:=λe hc=>by
 refine e11 (aW hc) λ_ hx=>?_;exact aY hx rfl
theorem Gw:∀e,aD c (.blt b args) e=eQ->aX e=eQ:=λe hc=>by
 replace hc:(if BH b=eQ then _ else _)=eQ:=hc
 split at hc
 ·obtain ⟨_,hx⟩:=aW hc;unfold xSS at hx;refine e12 (LW.mp hx) λ_ hx _=>?_;exact gS hx
 ·refine e11 (aW hc) λ_ hx=>?_;exact gS hx
theorem Gx:∀e,aD c (.neg a) e=eQ->aX e=eQ:=λe hc=>by
 replace hc:=ah hc;obtain ⟨⟨o,x⟩,hx,hc⟩:=hc;obtain ⟨p,rfl⟩:=pe hx
 try dsimp only at hc
 refine e02 (al hc) λhE6 _=>?_;obtain rfl:=eq_of_beq hE6;rfl
end
section
theorem D8 (h:IF M A t Q E s):IF M A (operate vs t) Q E s:=λΓ p hΓ=>by
 rw [Sem.wp_operate];exact h Γ p hΓ
theorem qW (hm':behindInMarks o' r'=bY)
  (h:IF M A (eval l env) (λa s₁=>IF M A (eval r env) (λb s₂=>IF M A (compareOp o a b) (λc s₃=>IF M A (truthy c) (λt s₄=>
   match t with
   | true=>IF M A (eval r' env) (λd s₅=>IF M A (compareOp o' b d) Q E s₅) E s₄
   | false=>Q c s₄) E s₃) E s₂) E s₁) E s):IF M A (eval (.Compare l [o,o'] [r,r'] pos) env) Q E s:=by
 show IF M A (eval l env >>= λa=>compareChain pos a [o,o'] [eval r env,markedBehindIn o' r' (eval r' env)]) Q E s;rw [markedBehindIn_of_false hm'];refine iS (Lk h (λa s₁ h₁=>?_) λ_ _ x=>x);show IF M A (do
  let rv <-holding [a] (eval r env)
  standAt pos
  let c <-holding [a,rv] (compareOp o a rv)
  release [a,rv] [c]
  if <-holding [c,rv] (truthy c) then compareChain pos rv [o'] [eval r' env] else pure c) Q E s₁
 refine iS (Md (Lk h₁ (λb s₂ h₂=>?_) λ_ _ x=>x));refine iS (N9 (iS (Md (Lk h₂ (λc s₃ h₃=>?_) λ_ _ x=>x))));refine iS (wpAny_release (iS (Md (Lk h₃ (λt s₄ h₄=>?_) λ_ _ x=>x))))
 cases t with
 | false=>exact EQ h₄
 | true=>
  show IF M A (do
   let rv <-holding [b] (eval r' env)
   standAt pos
   operate [b,rv] (compareOp o' b rv)) Q E s₄
  exact iS (Md (Lk h₄ (λd s₅ h₅=>iS (N9 (D8 h₅))) λ_ _ x=>x))
theorem zi (hm':behindInMarks o' r'=bY)
  (h:IF M A (eval l env) (λa s₁=>IF M A (eval r env) (λb s₂=>IF M A (compareOp o a b) (λc s₃=>IF M A (truthy c) (λt s₄=>
   match t with
   | true=>IF M A (eval r' env) (λd s₅=>IF M A (compareOp o' b d) (λc s₆=>IF M A (truthy c) Q E s₆) E s₅) E s₄
   | false=>Q bY s₄) E s₃) E s₂) E s₁) E s):IF M A (isTrue (.Compare l [o,o'] [r,r'] pos) env whole) Q E s:=by
 show IF M A (eval l env >>= λa=>testChain pos a [o,o'] [eval r env,markedBehindIn o' r' (eval r' env)]) Q E s;rw [markedBehindIn_of_false hm'];refine iS (Lk h (λa s₁ h₁=>?_) λ_ _ x=>x);show IF M A (do
  let rv <-holding [a] (eval r env)
  standAt pos
  let c <-holding [a,rv] (compareOp o a rv)
  release [a,rv] [c]
  if <-holding [c,rv] (truthy c) then testChain pos rv [o'] [eval r' env] else pure bY) Q E s₁
 refine iS (Md (Lk h₁ (λb s₂ h₂=>?_) λ_ _ x=>x));refine iS (N9 (iS (Md (Lk h₂ (λc s₃ h₃=>?_) λ_ _ x=>x))));refine iS (wpAny_release (iS (Md (Lk h₃ (λt s₄ h₄=>?_) λ_ _ x=>x))))
 cases t with
 | false=>exact EQ h₄
 | true=>
  show IF M A (do
   let rv <-holding [b] (eval r' env)
   standAt pos
   let c <-operate [b,rv] (compareOp o' b rv)
   holding [c] (truthy c)) Q E s₄
  exact iS (Md (Lk h₄ (λd s₅ h₅=>iS (N9 (iS (D8 (Lk h₅ (λc s₆ h₆=>Md h₆) λ_ _ x=>x))))) λ_ _ x=>x))
end
section
theorem qX (hc:aD c (.cmp2 op op' a b d) e=eQ):∃l r r' p,e=.Compare l [iU op,iU op'] [r,r'] p/\okX r'=eQ/\aD c a l=eQ/\aD c b r=eQ/\aD c d r'=eQ:=by
 replace hc:=ah hc;obtain ⟨⟨l,os,rs⟩,hxx,hc⟩:=hc;replace hc:=ah hc;obtain ⟨⟨o,o'⟩,ho,hc⟩:=hc;replace hc:=ah hc;obtain ⟨⟨r,r'⟩,hr,hc⟩:=hc
 cases pc ho
 cases pc hr
 obtain ⟨p,rfl⟩:=jx hxx;simp only [Ll,beq_iff_eq] at hc;obtain ⟨⟨⟨⟨⟨⟨rfl,rfl⟩,hx⟩,hx'⟩,ha⟩,hb⟩,hd⟩:=hc;exact ⟨l,r,r',p,rfl,hx',ha,hb,hd⟩
theorem mU (G:GOk C)(cx:aq C c F n){op op':Cmp}{a b d:ME}(ia:SV C X n c F a)(ib:SV C X n c F b)(id':SV C X n c F d){l r r':L7}(ha:aD c a l=eQ)(hb:aD c b r=eQ)(hd:aD c d r'=eQ){P:Bool->MS->Prop}{m:MS}{s:Do}{ρ:List Lr}(R:Rel C F ρ m s)
  (h:wpE (Call C) n a (λx m=>wpE (Call C) n b (λy m=>kG op x y (λt m=>bt t (wpE (Call C) n d (λz m=>kG op' y z P m) X m) (P bY m)) m) X m) X m) {Q Q':rW->Do->Prop}(k:∀b ρ' m' s',ao F.W ρ s ρ' s'->Rel C F ρ' m' s'->P b m'->Q (.bool b) s') (k':∀ρ' m' s',ao F.W ρ s ρ' s'->Rel C F ρ' m' s'->P bY m'->Q' (.bool bY) s') :
  IF (mod C) F.A (eval l F.env) (λv s₁=>IF (mod C) F.A (eval r F.env) (λw s₂=>IF (mod C) F.A (compareOp (iU op) v w) (λq s₃=>IF (mod C) F.A (truthy q) (λt s₄=>match t with
   | true=>IF (mod C) F.A (eval r' F.env) (λu s₅=>IF (mod C) F.A (compareOp (iU op') w u) Q (Er C F X ρ s) s₅) (Er C F X ρ s) s₄
   | false=>Q' q s₄) (Er C F X ρ s) s₃) (Er C F X ρ s) s₂) (Er C F X ρ s) s₁) (Er C F X ρ s) s:=by
 refine (ia l ha _ m h).go R (.refl _ _ _) λρ₁ s₁ m₁ x v st t1 R₁ rx h₁=>?_;refine (ib r hb _ m₁ h₁).go R₁ t1 λρ₂ s₂ m₂ y w st' t2 R₂ ry h₂=>?_;refine pC G cx cx.u R₂ t2 (rx.step st') ry h₂ λt ρ₃ m₃ s₃ st3 t3 R₃ hq=>Na ?_
 cases t with
 | false=>exact k' ρ₃ m₃ s₃ t3 R₃ hq
 | true=>
  refine (id' r' hd _ m₃ hq).go R₃ t3 λρ₄ s₄ m₄ z u st4 t4 R₄ rz h₄=>?_;exact pC G cx cx.u R₄ t4 ((ry.step st3).step st4) rz h₄ λb ρ' m' s' _ st R' hq=>k b ρ' m' s' st R' hq
theorem Cj (G:GOk C)(cx:aq C c F n){op op':Cmp}{a b d:ME}(ia:SV C X n c F a)(ib:SV C X n c F b)(id':SV C X n c F d):SV C X n c F (.cmp2 op op' a b d):=by
 intro e hc Q m h;obtain ⟨l,r,r',p,rfl,hx',ha,hb,hd⟩:=qX hc;intro s ρ R;exact qW (ir hx' _) (mU G cx ia ib id' (P:=λb m=>Q (.bool b) m) ha hb hd R h (λb ρ' m' s' st R' hq=>⟨_,_,_,st,R',.bool b,hq⟩) λρ' m' s' st R' hq=>⟨_,_,_,st,R',.bool _,hq⟩)
theorem Ck (G:GOk C)(cx:aq C c F n){op op':Cmp}{a b d:ME}(ia:SV C X n c F a)(ib:SV C X n c F b)(id':SV C X n c F d):ST C X n c F (.cmp2 op op' a b d):=by
 intro e hc Q m h;obtain ⟨l,r,r',p,rfl,hx',ha,hb,hd⟩:=qX hc;intro s ρ R;exact zi (ir hx' _) (mU G cx ia ib id' (P:=Q) (Q':=λ_ s'=>FB C F ρ s Q bY s') ha hb hd R h (λb ρ' m' s' st R' hq=>Na ⟨_,_,st,R',hq⟩) λρ' m' s' st R' hq=>⟨_,_,st,R',hq⟩)
end
section
theorem oy (h:d6 c (i::t) xs=eQ):∃x p r,xs=.Name x p::r/\c.nm i=aT x/\n4 c i x=eQ/\d6 c t r=eQ:=by
 cases xs with
 | nil=>exact ff h
 | cons e r=>
  obtain ⟨h1,h2⟩:=ID.mp h;replace h1:=ah h1;obtain ⟨x,hx,h1⟩:=h1;obtain ⟨p,rfl⟩:=bZ hx;simp only [Ll,beq_iff_eq] at h1;exact ⟨x,p,r,rfl,h1.1,h1.2,h2⟩
theorem qY (cx:aq C c F n){Q:MS->Prop}:∀(t:List Nat) (elts:List L7) (xs:List MV) (vs:List rW) (m:MS) (s:Do),d6 c t elts=eQ->t.length=xs.length->au C ρ s.heap xs vs->Rel C F ρ m s->Q (oZ t xs m)->
  IF (mod C) A (assignInOrder ((assignEach elts F.env).map (·.2)) vs) (λ_ s'=>∃m',ao F.W ρ s ρ s'/\Rel C F ρ m' s'/\Q m') E s
 | [],elts,xs,vs,m,s,h,hl,hr,R,hq=>by
  cases elts with
  | nil=>
   cases hr with
   | nil=>exact EQ ⟨m,.refl _ _ _,R,hq⟩
   | cons=>cases hl
  | cons=>exact ff h
 | i::t,elts,xs,vs,m,s,h,hl,hr,R,hq=>by
  obtain ⟨x,p,r,rfl,h1,h2,h3⟩:=oy h
  cases hr with
  | nil=>cases hl
  | @cons x' v' xs' vs' ra rl=>
   refine iS (Md ?_);refine Ps (fE cx R h1 (jA h2) ra λs₁ st R₁ _=>?_);exact Lk (qY cx t r xs' vs' _ s₁ h3 (Nat.succ.inj hl) (rl.step st) R₁ hq) (λ_ s₂ ⟨m',st2,R₂,q⟩=>⟨m',st.trans st2,R₂,q⟩) λ_ _ x=>x
theorem gT (env:RF):∀(t:List Nat) (elts:List L7),d6 c t elts=eQ->(assignEach elts env).length=t.length/\(assignEach elts env).findIdx? (·.1)=iD
 | [],elts,h=>by
  cases elts with
  | nil=>exact ⟨rfl,rfl⟩
  | cons=>exact ff h
 | i::t,elts,h=>by
  obtain ⟨x,p,r,rfl,_,_,h3⟩:=oy h;refine e02 (gT env t r h3) λh1 h2=>?_;refine ⟨congrArg (·+1) h1,?_⟩;show List.findIdx? (·.1) ((bY,_)::assignEach r env)=iD;rw [List.findIdx?_cons,h2];rfl
theorem kf (cx:aq C c F n){Q:MS->Prop}{t:List Nat}{many:Bool}{e:L7}(h:pu c t many e=eQ){x:MV}{v:rW}(hr:Rep C ρ s.heap x v)(R:Rel C F ρ m s)(hq:asg t many x Q m)(hA:many=eQ->A.handled=iD) :
  IF (mod C) A (assign e F.env v) (λ_ s'=>∃m',ao F.W ρ s ρ s'/\Rel C F ρ m' s'/\Q m') E s:=by
 cases many with
 | false=>
  obtain ⟨i,y,p,rfl,rfl,h1,h2⟩:=qK h;exact Ps (fE cx R h1 (jA h2) hr λs₁ st R₁ _=>⟨_,st,R₁,hq⟩)
 | true=>
  replace h:=iC h;obtain ⟨elts,k,p,rfl,h⟩:=h
  cases x with
  | tup xs=>
   have hq:t.length=xs.length/\Q (oZ t xs m):=hq
   cases hr with | @tup a k _ items g rl z=>
   refine e02 (gT F.env _ _ h) λe1 e2=>?_;refine wpAny_assign_Tuple (hA rfl) ⟨_,g,rfl,_,rfl⟩ (by rw [e1,hq.1,Lv,rl.length]) e2 λh' he=>?_;have hk:∀b o,s.heap.get? b=aT o->h'.get? b=aT o:=λb o eb=>he b o (λq=>by rw [q,bC (nO _)] at eb;exact av eb) eb;refine e02 (R.grow (s':={ s with heap:=h' }) cx.fm hk rfl rfl) λR' st=>?_;exact Lk (qY cx _ _ _ _ m { s with heap:=h' } h hq.1 (rl.step st) R' hq.2) (λ_ s₂ ⟨m',st2,R₂,q⟩=>⟨m',st.trans st2,R₂,q⟩) λ_ _ x=>x
  | _=>exact (show False from hq).elim
end
section
theorem ao.mono (hW:∀a∈W,a∈W')(x:ao W ρ s ρ' s'):ao W' ρ s ρ' s':=
 ⟨x.pre,x.new,λa o e h1 h2=>x.keep a o e h1 λq=>h2 (hW a q),x.solid,x.alive,x.gens,x.os⟩
theorem ao.ofSide (sd:fu S s s')(hS:∀a∈S,a∈W)(h1:∀a∈S,Shp s.heap a)(h2:∀a∈S,Shp s'.heap a):ao W ρ s ρ s':=
 ⟨Lq _,λ_ h=>.inl h,λa o e _ h=>.inl (sd.1 a o (λq=>h (hS a q)) e),d7 h1 sd,λa o e=>by
  by_cases q:a∈S
  ·obtain ⟨o',e',_⟩:=h2 a q;exact ⟨o',e'⟩
  ·exact ⟨o,sd.1 a o q e⟩,sd.2.1,sd.2.2⟩
theorem ao.behind (x:ao W ρ s ρ₂ s₂)(y:ao W' ρ₂ s₂ ρ' s')(h:∀a∈W',s.heap.get? a=iD):ao W ρ s ρ' s' where
 pre:=x.pre.trans y.pre
 new:=λa h=>(y.new a h).elim (λh=>x.new a h) λh=>.inr (dA x h)
 keep:=λa o e h1 h2=>by
  have hw:a∉W':=λq=>by rw [h a q] at e;cases e
  have h1':a∉ρ₂:=λh=>(x.new a h).elim h1 λh=>by rw [h] at e;cases e
  rcases x.keep a o e h1 h2 with e1 | ⟨hc,sl,e1⟩
  ·exact y.keep a o e1 h1' hw
  ·rcases y.keep a _ e1 h1' hw with e2 | ⟨_,sl2,e2⟩
   ·exact .inr ⟨hc,sl,e2⟩
   ·exact .inr ⟨hc,sl2,e2⟩
 solid:=λa o e h=>y.solid a o (x.solid a o e h) h
 alive:=λa o e=>let ⟨o',e'⟩:=x.alive a o e;y.alive a o' e'
 gens:=y.gens.trans x.gens
 os:=y.os.trans x.os
end
noncomputable def zj (L:Lr)(o:Option Lr)(x:Str):Loc:=match o with
 | some c=>.cl c
 | none=>.nm L x
noncomputable def dR (F:Fm)(sc:Scope)(cl:List (Str × Lr))(t:List Nat)(tn:List Str)(L:Lr)(o:Option Lr):Fm where
 env:=compEnvC sc cl L F.env
 A:=F.A
 W:=L::o.toList
 V:=F.W++F.V
 lay:=λi=>match (t.zip tn).lookup i with
  | some x=>aT (zj L o x)
  | none=>F.lay i
 frs:=F.frs
structure mV (c:Cx)(sc:Scope)(t:List Nat)(tn:List Str):Prop where
 kind:sc.kind=.function
 cell:bQ sc=[]\/∃x,bQ sc=[x]/\tn=[x]
 loc:∀p∈sc.names,p.2=.local->sc.names.lookup p.1=aT .local
 free:∀p∈sc.names,p.2=.free->(∃i,c.nm i=aT p.1)/\c.kind p.1≠aT .local/\cdc p.1=bY
 len:t.length=tn.length
 nodup:t.Nodup
 nodup':tn.Nodup
 fr:∀i∈t,c.fr i=eQ
 tn:∀x∈tn,sc.names.lookup x=aT (uk sc)
theorem wW {c:Cx}{sc:Scope}{t:List Nat}{tn:List Str}(h:pv c sc t tn=eQ):mV c sc t tn:=by
 simp only [pv,Ll,beq_iff_eq,decide_eq_true_eq,LN] at h;obtain ⟨⟨⟨⟨⟨⟨⟨h1,h2⟩,h0⟩,h3⟩,h4⟩,h5⟩,h6⟩,h7⟩:=h;refine ⟨h1,?_,λp hp e=>?_,λp hp e=>?_,h3,h4,h5,h6,h7⟩
 ·rcases OF.mp h0 with q | q
  ·exact .inl (NM.mp q)
  ·obtain ⟨q1,q2⟩:=ID.mp q;have q1:bQ sc=tn:=eq_of_beq q1;have q2:t.length=1:=of_decide_eq_true q2;obtain ⟨x,hx⟩:=PT.mp (h3▸q2);exact .inr ⟨x,q1.trans hx,hx⟩
 ·have:=(h2 p hp).1;rw [e] at this;simpa using this
 ·have:=(h2 p hp).2;rw [e] at this;simp only [bne_self_eq_false,Bool.false_or,yG,Ll,Ob,beq_iff_eq,bne_iff_ne,Nk] at this;obtain ⟨⟨⟨i,_,e1⟩,e2⟩,e3⟩:=this;exact ⟨⟨i,e1⟩,e2,e3⟩
theorem jh:∀{names:List (Str × NameKind)},(names.filter λp=>p.2==.cell).map (·.1)=[]->∀(n:Nat) (acc:List (Str × Lr)) (h:LA),cellsFrom n names acc=acc/\pushCells h names=h
 | [],_,_,_,_=>⟨rfl,rfl⟩
 | (x,k)::r,e,n,acc,h=>by
  cases q:k==OE with
  | true=>rw [PA (p:=λp:Str × NameKind=>p.2==.cell) (by exact q)] at e;cases e
  | false=>
   rw [PD (p:=λp:Str × NameKind=>p.2==.cell) (by show ¬ (k==OE)=eQ;rw [q];decide)] at e;unfold cellsFrom pushCells;rw [if_neg (by rw [q];decide),if_neg (by rw [q];decide)];exact jh e n acc h
theorem oC {x:Str}:∀{names:List (Str × NameKind)},(names.filter λp=>p.2==.cell).map (·.1)=[x]->∀(n:Nat) (acc:List (Str × Lr)) (h:LA),cellsFrom n names acc=(x,n)::acc/\pushCells h names=h.push { cls:=.type "cell",data:=.cell iD }
 | [],e,_,_,_=>by cases e
 | (y,k)::r,e,n,acc,h=>by
  cases q:k==OE with
  | true=>
   rw [PA (p:=λp:Str × NameKind=>p.2==.cell) (by exact q)] at e;obtain ⟨e1,e2⟩:=O5 e;have e1:y=x:=e1;unfold cellsFrom pushCells;rw [if_pos q,if_pos q,e1];exact jh e2 _ _ _
  | false=>
   rw [PD (p:=λp:Str × NameKind=>p.2==.cell) (by show ¬ (k==OE)=eQ;rw [q];decide)] at e;unfold cellsFrom pushCells;rw [if_neg (by rw [q];decide),if_neg (by rw [q];decide)];exact oC e n acc h
inductive Cm (sc:Scope)(cl:List (Str × Lr))(L:Lr)(h:LA):Option Lr->List (Str × Lr)->Prop
 | none (e:bQ sc=[]):Cm sc cl L h iD cl
 | one (x:Str) (c:Lr) (e:bQ sc=[x]) (l:c=L+1) (hc:h.IsCell c iD):Cm sc cl L h (aT c) ((x,c)::cl)
theorem wX {sc:Scope}{g:Lr}{cl:List (Str × Lr)}{qual:Str}{env:RF}{Q:RF->Do->Prop}{b:Lr}(hc:bQ sc=[]\/∃x,bQ sc=[x])
  (hQ:∀h' o cl',Cm sc cl s.heap.objs.size h' o cl'->h'.Ns s.heap.objs.size (λ_=>iD)->(∀a ob,s.heap.get? a=aT ob->h'.get? a=aT ob)->Q (newEnv sc s.heap.objs.size g cl' qual iD .none (aT env) b) { s with heap:=h' }) :
  IF M A (newFunctionEnv sc g cl [] qual iD .none (aT env) b) Q E s:=by
 simp only [newFunctionEnv,Option.isSome_some,if_true];refine iS (wpAny_alloc ?_);refine iS (wpAny_layCells _ (λname kind cells=>by cases hkc:kind==OE<;>simp [hkc]) _ _ _ _ ?_);rw [show ({ s with heap:=s.heap.push { cls:=.type "dict",data:=.dict #[] } }:Do).heap.objs.size=s.heap.objs.size+1 from PM ..];have hn:=LA.Ns.new s.heap (.type "dict")
 rcases hc with e | ⟨x,e⟩
 ·obtain ⟨e1,e2⟩:=jh e (s.heap.objs.size+1) cl (s.heap.push { cls:=.type "dict",data:=.dict #[] });rw [e1];dsimp only;rw [e2];exact iS (EQ (EQ (hQ _ _ _ (.none e) hn λa ob e=>Lj _ e)))
 ·obtain ⟨e1,e2⟩:=oC e (s.heap.objs.size+1) cl (s.heap.push { cls:=.type "dict",data:=.dict #[] });rw [e1];dsimp only;rw [e2];have hsz:(s.heap.push { cls:=.type "dict",data:=.dict #[] }).objs.size=s.heap.objs.size+1:=PM ..;exact iS (EQ (EQ (hQ _ _ _ (.one x _ e rfl ⟨_,by rw [<-hsz];exact LI _ rfl,rfl⟩) (hn.keeps λa ob e=>Lj _ e) λa ob e=>Lj _ (Lj _ e))))
set_option tactic.hygienic true in
theorem s9 [BEq α] [LawfulBEq α]:∀{l:List (α × β)}{a:α}{b:β},l.lookup a=aT b->(a,b)∈l
 | [],_,_,h=>by cases h
 | (x,y)::r,a,b,h=>by
  rw [Ma] at h
  split at h
  ·rename_i q;cases h;have:a=x:=by simpa using q
   subst this;exact IS ..
  ·exact Lm _ (s9 h)
theorem gb {t:List Nat}{tn:List Str}(h:(t.zip tn).lookup i=aT x):i∈t/\x∈tn/\∃k:Nat,t[k]?=aT i/\tn[k]?=aT x:=by
 have hm:=s9 h;refine ⟨(Q4 hm).1,(Q4 hm).2,?_⟩;refine e11 (Pf hm) λk hk=>?_;exact ⟨k,(Pm.mp hk).1,(Pm.mp hk).2⟩
theorem Co {t:List Nat}{tn:List Str}(hn:tn.Nodup){i j:Nat}{x:Str}(h1:(t.zip tn).lookup i=aT x)(h2:(t.zip tn).lookup j=aT x):i=j:=by
 obtain ⟨_,_,k,a1,a2⟩:=gb h1;obtain ⟨_,_,l,b1,b2⟩:=gb h2;have q1:=By.mp a2;have q2:=By.mp b2;have:k=l:=(P3 hn).mp (q1.2.trans q2.2.symm);subst this;rw [a1] at b1;cases b1;rfl
theorem qZ:∀{t:List Nat}{tn:List Str},t.length=tn.length->∀{i:Nat},i∈t->∃x,(t.zip tn).lookup i=aT x
 | [],_,_,_,h=>by cases h
 | _::_,[],h,_,_=>by cases h
 | a::t,x::tn,hl,i,h=>by
  simp only [Qw,Ma];by_cases e:i=a
  ·subst e;exact ⟨x,by simp⟩
  ·rcases Lu.mp h with q | q
   ·exact absurd q e
   ·refine e11 (qZ (by simpa using hl) q) λy hy=>?_;exact ⟨y,by rw [show (i==a)=bY by simpa using e];exact hy⟩
theorem dW:∀{names:List (Str × NameKind)}{x:Str}{k:NameKind},names.lookup x=aT k->(mC kind names).lookup x=aT (if (k==.free&&kind x==aT .cell) then .cell else k)
 | [],_,_,h=>by cases h
 | (y,k')::r,x,k,h=>by
  have ih:=@dW kind r x k;show Ry x ((if (k'==.free&&kind y==aT .cell) then (y,OE) else (y,k'))::mC kind r)=_;by_cases e:x=y
  ·subst e;simp only [Ma,beq_self_eq_true] at h;obtain rfl:k'=k:=BY h;by_cases q:(k'==P7&&kind x==aT .cell)=eQ
   ·rw [if_pos q,if_pos q];simp [Ma]
   ·rw [if_neg q,if_neg q];simp [Ma]
  ·have e':(x==y)=bY:=by simpa using e
   simp only [Ma,e'] at h;by_cases q:(k'==P7&&kind y==aT .cell)=eQ
   ·rw [if_pos q];simp only [Ma,e'];exact ih h
   ·rw [if_neg q];simp only [Ma,e'];exact ih h
theorem mW (h:∀x,env.kindOf x=kind x)(hk:env.scope.kind=.function)(sc:Scope):(relabel sc env).names=mC kind sc.names:=by
 unfold relabel mC;simp only [hk,h,beq_self_eq_true,Bool.and_true]
set_option tactic.hygienic true in
theorem gc {env:RF}{f:Str × NameKind->List (Str × Lr)->Sem (ForInStep (List (Str × Lr)))}(h1:∀x a acc,env.cells.lookup x=aT a->f (x,.free) acc=pure (.yield ((x,a)::acc)))
  (h2:∀x k acc,k≠.free->f (x,k) acc=pure (.yield acc)):∀(names:List (Str × NameKind)) (acc:List (Str × Lr)),(∀p∈names,p.2=.free->∃a,env.cells.lookup p.1=aT a)->(∀y b,acc.lookup y=aT b->env.cells.lookup y=aT b)->
   ∃cl,forIn names acc f=pure cl/\(∀y b,cl.lookup y=aT b->env.cells.lookup y=aT b)/\(∀y,(acc.lookup y).isSome->(cl.lookup y).isSome)/\∀y,(y,P7)∈names->(cl.lookup y).isSome
 | [],acc,_,ha=>⟨acc,rfl,ha,λ_ h=>h,λ_ h=>by cases h⟩
 | (x,k)::r,acc,hn,ha=>by
  have hr:∀p∈r,p.2=.free->∃a,env.cells.lookup p.1=aT a:=λp hp=>hn p (Lm _ hp);by_cases hk:k=.free
  ·subst hk;refine e11 (hn (x,.free) (IS ..) rfl) λa e=>?_;have ha':∀y b,((x,a)::acc).lookup y=aT b->env.cells.lookup y=aT b:=λy b q=>by
    simp only [Ma] at q
    split at q
    ·rename_i q';cases q;have:y=x:=by simpa using q'
     subst this;exact e
    ·exact ha y b q
   refine e14 (gc h1 h2 r ((x,a)::acc) hr ha') λcl c1 c2 c3 c4=>?_;have hx:(((x,a)::acc).lookup x).isSome:=by simp [Ma]
   refine ⟨cl,?_,c2,λy hy=>c3 y ?_,λy hy=>?_⟩
   ·rw [Qg,h1 x a acc e];exact c1
   ·simp only [Ma];split
    ·rfl
    ·exact hy
   ·refine MN (Lu.mp hy) (λq=>?_) λq=>?_
    ·cases q;exact c3 _ hx
    ·exact c4 y q
  ·refine e14 (gc h1 h2 r acc hr ha) λcl c1 c2 c3 c4=>?_;refine ⟨cl,?_,c2,c3,λy hy=>?_⟩
   ·rw [Qg,h2 x k acc hk];exact c1
   ·refine MN (Lu.mp hy) (λq=>?_) λq=>?_
    ·cases q;exact absurd rfl hk
    ·exact c4 y q
theorem tc {env:RF}{sc:Scope}(h:∀p∈sc.names,p.2=.free->∃a,env.cells.lookup p.1=aT a):∃cl,closureFor sc env=pure cl/\∀x a,(x,P7)∈sc.names->env.cells.lookup x=aT a->cl.lookup x=aT a:=by
 obtain ⟨cl,c1,c2,_,c4⟩:=gc (env:=env) (f:=λp cs=>if p.2==.free then do let r <-cellOf env p.1;pure (MT ((p.1,r)::cs)) else pure (MT cs))
  (λx a acc e=>by simp [cellOf,e]) (λx k acc hk=>by simp [hk]) sc.names [] h (λy b q=>by cases q)
 refine ⟨cl,?_,λx a hx e=>?_⟩
 ·unfold closureFor;refine Eq.trans ?_ (congrArg (· >>= pure) c1);rfl
 ·refine e11 (ML.mp (c4 x hx)) λb hb=>?_;have:=c2 x b hb;rw [e] at this;cases this;exact hb
section
variable {tn:List Str}
theorem uz {t:List Nat}{y x:Str}{i:Nat}(hl:t.length=[y].length)(h:(t.zip [y]).lookup i=aT x):t=[i]:=by
 obtain ⟨a,rfl⟩:=PT.mp hl;have:i=a:=oF.mp (gb h).1;rw [this]
set_option tactic.hygienic true in
theorem zk (cx:aq C c F n)(h:mV c sc t tn)(hL:L∉F.W++F.V)(ho:∀d,o=aT d->d∉F.W++F.V/\∃y,tn=[y]):aJ (dR F sc cl t tn L o) where
 loc:=IS ..
 lay:=λi l e=>by
  simp only [dR] at e ⊢
  split at e
  ·cases e
   cases o with
   | none=>exact LC _ (IS ..)
   | some d=>exact LC _ (Lm _ (IS ..))
  ·exact Lx _ (cx.fm.lay i l e)
 inj:=λi j l e1 e2=>by
  have key:∀{i:Nat} {x:Str},(zj L o x).addr∉F.W++F.V:=λ{i x}=>by
   cases o with
   | none=>exact hL
   | some d=>exact (ho d rfl).1
  simp only [dR] at e1 e2
  split at e1
  ·rename_i x hx
   split at e2
   ·rename_i y hy
    cases o with
    | none=>cases e1;cases e2;exact Co h.nodup' hx hy
    | some d=>
     obtain ⟨_,z,rfl⟩:=ho d rfl;have q1:=uz h.len hx;have q2:=uz h.len hy;exact (O5 (q1.symm.trans q2)).1
   ·cases e1;exact absurd (cx.fm.lay j _ e2) (key (i:=i))
  ·split at e2
   ·cases e2;exact absurd (cx.fm.lay i _ e1) (key (i:=i))
   ·exact cx.fm.inj i j l e1 e2
 kind:=by show (relabel sc F.env).kind=.function;exact h.kind
 frs:=cx.fm.frs
theorem wY (cx:aq C c F n)(h:mV c sc t tn):∀p∈sc.names,p.2=.free->∃a,F.env.cells.lookup p.1=aT a:=λp hp e=>by
 obtain ⟨⟨i,h1⟩,h2,_⟩:=h.free p hp e
 rcases cx.nm i _ h1 with ⟨q,_⟩ | ⟨a,_,q,_⟩
 ·rw [cx.kind] at q;exact absurd q h2
 ·exact ⟨a,q⟩
set_option tactic.hygienic true in
theorem zm (cx:aq C c F n)(h:mV c sc t tn)(hL:L∉F.W++F.V){hh:LA}(hO:Cm sc cl L hh o cl')(ho:∀d,o=aT d->d∉F.W++F.V)(hcl:∀x a,(x,P7)∈sc.names->F.env.cells.lookup x=aT a->cl.lookup x=aT a):aq C (fG c sc t tn) (dR F sc cl' t tn L o) n where
 fm:=zk cx h hL λd e=>⟨ho d e,by
  cases hO with
  | none=>cases e
  | one x c e0 _ _=>
   rcases h.cell with q | ⟨y,q,q'⟩
   ·rw [q] at e0;cases e0
   ·exact ⟨y,q'⟩⟩
 kind:=λx=>by
  show (relabel sc F.env).names.lookup x=(mC c.kind sc.names).lookup x;rw [mW cx.kind cx.fm.kind]
 nm:=λi x e=>by
  have hkk:∀x,(dR F sc cl' t tn L o).env.kindOf x=(mC c.kind sc.names).lookup x:=λx=>by
   show (relabel sc F.env).names.lookup x=_;rw [mW cx.kind cx.fm.kind]
  simp only [fG] at e
  split at e
  ·rename_i y hy
   cases e
   have ht:=h.tn x (gb hy).2.1;unfold uk at ht
   cases hO with
   | none q=>
    rw [q] at ht;refine .inl ⟨?_,?_⟩
    ·rw [hkk,dW ht];rfl
    ·simp only [dR,hy];rfl
   | one y d q _ _=>
    rw [q] at ht;refine .inr ⟨d,.inl ?_,?_,?_⟩
    ·rw [hkk,dW ht];rfl
    ·have hx:x=y:=by
      rcases h.cell with q' | ⟨z,q',q2⟩
      ·rw [q'] at q;cases q
      ·have:=(gb hy).2.1;rw [q2] at this;rw [q'] at q;rw [oF.mp this];exact (O5 q).1
     show Ry x ((y,d)::cl)=aT d;rw [hx];simp [Ma]
    ·simp only [dR,hy];rfl
  ·rename_i hy;unfold DY at e
   split at e
   ·rename_i y hy'
    split at e
    ·rename_i hf
     cases e
     have hf:sc.names.lookup x=aT .free:=by simpa using hf
     have hm:=s9 hf;refine e03 (h.free _ hm rfl) λ_ k2 k3=>?_
     rcases cx.nm i x hy' with ⟨q,_⟩ | ⟨a,q1,q2,q3⟩
     ·rw [cx.kind] at q;exact absurd q k2
     ·have q4:=hcl x a hm q2;have q5:cl'.lookup x=aT a:=by
       cases hO with
       | none=>exact q4
       | one y d q _ _=>
        have hx:x≠y:=λe=>by
         subst e;have:(x,OE)∈sc.names:=by
          have:x∈bQ sc:=by rw [q];exact IS ..
          unfold bQ at this;obtain ⟨p,hp,rfl⟩:=Mi.mp this;obtain ⟨h1,h2⟩:=List.mem_filter.mp hp;have h2:p.2=NameKind.cell:=eq_of_beq h2;obtain ⟨p1,p2⟩:=p;subst h2;exact h1
         rcases h.cell with q' | ⟨z,q',qz⟩
         ·rw [q'] at q;cases q
         ·have ht:=h.tn z (by rw [qz];exact IS ..);rw [q'] at q;rw [(O5 q).1,hf] at ht;unfold uk at ht;rw [q'] at ht
          cases ht
        show Ry x ((y,d)::cl)=aT a;rw [Ma,show (x==y)=bY by simpa using hx];exact q4
      refine .inr ⟨a,?_,q5,by simp only [dR,hy];exact q3⟩;rw [hkk,dW hf];by_cases e:c.kind x=aT .cell
      ·exact .inl (by simp [e])
      ·exact .inr ⟨by simp [e],k3⟩
    ·cases e
   ·cases e
 glob:=cx.glob
 meth:=cx.meth
 attr:=cx.attr
 hn:=cx.hn
 hf:=cx.hf
 units:=cx.units
 room:=cx.room
 inter:=by
  unfold interactive;show ((relabel sc F.env).kind==_&&_)=bY;rw [show (relabel sc F.env).kind=ScopeKind.function from h.kind];rfl
 wr:=λi a e1 e2=>by
  have e2:(!(bQ sc).isEmpty&&t.contains i)=eQ:=e2;obtain ⟨q1,q2⟩:=ID.mp e2;obtain ⟨x,hx⟩:=qZ h.len (Mc.mp q2);simp only [dR,hx] at e1 ⊢
  cases o with
  | none=>cases e1
  | some d=>cases e1;exact Lm _ (IS ..)
 fr:=λi e=>by
  simp only [fG,Ll,Nk] at e;simp only [dR]
  split
  ·rename_i x hx;have:=(gb hx).1;have e2:=e.2;rw [List.contains_eq_mem] at e2;simp [this] at e2
  ·exact cx.fr i e.1
set_option tactic.hygienic true in
theorem Gy (cx:aq C c F n)(R:Rel C F ρ m s)(h:mV c sc t tn)(hk:∀a o,s.heap.get? a=aT o->s'.heap.get? a=aT o)(hg:s'.gens=s.gens)(hL:s.heap.get? L=iD)(hns:∃f,s'.heap.Ns L f)(ho:∀d,o=aT d->s.heap.get? d=iD/\s'.heap.IsCell d iD):Rel C (dR F sc cl t tn L o) ρ m s' where
 hp:=R.hp.up (λa o e _=>hk a o e) (λa _ o e=>hk a o e) λb o e=>hk b o (R.hp.base b o e)
 ns:=hns
 w:=λa ha=>by
  have ha:a∈(L::o.toList)++(F.W++F.V):=ha;have fresh:s.heap.get? a=iD->a∉ρ/\C.base.get? a=iD:=λq=>⟨λz=>(by obtain ⟨o,e⟩:=R.hp.there z;rw [q] at e;cases e),bW R.hp q⟩
  rcases Lg.mp ha with q | q
  ·rcases Lu.mp q with rfl | q
   ·refine ⟨(fresh hL).1,(fresh hL).2,?_⟩;refine e43 hns λf o es ep e1 e2 _=>?_;exact ⟨o,e1,.inl ⟨es,ep,e2⟩⟩
   ·obtain ⟨q1,q2⟩:=ho a (by cases o with | none=>cases q | some d=>rw [oF.mp q]);refine ⟨(fresh q1).1,(fresh q1).2,?_⟩;obtain ⟨ob,e1,e2⟩:=q2;exact ⟨ob,e1,.inr ⟨_,e2⟩⟩
  ·obtain ⟨h1,h2,o,h3,h4⟩:=R.w a q;exact ⟨h1,h2,o,hk a o h3,h4⟩
 vars:=λi v e=>by
  refine e12 (R.vars i v e) λl h1 h2=>?_;refine ⟨l,?_,h2.up (λa o e _=>hk a o e) (Lq _) (λo e=>⟨o,hk _ o e,rfl,rfl⟩)⟩;simp only [dR]
  split
  ·rename_i x hx;rw [cx.fr i (h.fr i (gb hx).1)] at h1;cases h1
  ·exact h1
 cells:=λi a e=>by
  simp only [dR] at e
  split at e
  ·cases o with
   | none=>cases e
   | some d=>cases e;exact ⟨_,(ho _ rfl).2⟩
  ·refine e22 (R.cells i a e) λv o h1 h2=>?_;exact ⟨v,o,hk a o h1,h2⟩
 out:=λL hL=>by
  obtain ⟨h1,h2,o,h3,h4⟩:=R.out L hL;exact ⟨h1,h2,o,hk L o h3,h4⟩
 gens:=hg.trans R.gens
end
section
theorem td (I:Nat->Do->Prop)
  (turn:∀k s,I k s->IF (mod C) A (pyNext it) (λr s₁=>match r with
   | none=>R (.ok .next) s₁
   | some v=>IF (mod C) A (letOwnedTupleGo target it v) (λ_ s₂=>IF (mod C) A (assign target env v) (λ_ s₃=>
     IF (mod C) A (forIn ifs eQ λc r=>if r=eQ then do let ok <-isTrue c env (eval c env);pure (MT ok) else pure (MT r)) (λok s₄=>
      match ok with
      | true=>IF (mod C) A (eval elt env) (λx s₅=>IF (mod C) A (call (.builtin "list.append") [acc,x]) (λ_ s₆=>∃j,j<k/\I j s₆) (λ_ _=>False) s₅) (λ_ _=>False) s₄
      | false=>∃j,j<k/\I j s₄) (λ_ _=>False) s₃) (λ_ _=>False) s₂) (λ_ _=>False) s₁) (λ_ _=>False) s)
  (k:Nat) (h:I k s):Ra (mod C) A (.compLoop (.ListComp elt [⟨target,iter,ifs,0⟩] scope pos) 0 it acc env) R s:=by
 refine codeAny_loop rfl I (λk s hI=>?_) k h;show IF _ A ((compTurn (.ListComp elt [⟨target,iter,ifs,0⟩] scope pos) 0 it acc env).onRaise (λx=>do noteFrame x env;theTreesLotGoes x)) _ _ s;refine wpAny_noted ?_;rw [compTurn_list];refine iS (N9 (iS (Lk (turn k s hI) (λr s₁ h₁=>?_) λ_ _ h'=>h'.elim)))
 cases r with
 | none=>exact EQ h₁
 | some v=>
  refine iS (Lk h₁ (λ_ s₂ h₂=>iS (Lk h₂ (λ_ s₃ h₃=>iS (Lk h₃ (λok s₄ h₄=>?_) λ_ _ h'=>h'.elim)) λ_ _ h'=>h'.elim)) λ_ _ h'=>h'.elim)
  cases ok with
  | false=>exact EQ ⟨rfl,h₄⟩
  | true=>exact iS (iS (Lk h₄ (λx s₅ h₅=>iS (Lk h₅ (λ_ s₆ h₆=>EQ (EQ ⟨rfl,h₆⟩)) λ_ _ h'=>h'.elim)) λ_ _ h'=>h'.elim))
theorem zn (cx:aq C c F n):∀{ifs:List ME},(∀a∈ifs,ST C X n c F a)->∀(xs:List L7),be c ifs xs=eQ->∀(Q:Bool->MS->Prop) (m:MS),nV (Call C) n ifs Q X m->
  WPt C F X (forIn xs eQ λc r=>if r=eQ then do let ok <-isTrue c F.env (eval c F.env);pure (MT ok) else pure (MT r)) Q m
 | [],ih,xs,hc,Q,m,h=>by
  cases xs with
  | nil=>intro s ρ R;exact EQ ⟨_,_,.refl _ _ _,R,h⟩
  | cons=>exact ff hc
 | e::es,ih,xs,hc,Q,m,h=>by
  cases xs with
  | nil=>exact ff hc
  | cons x xs=>
   replace hc:=aM hc;intro s ρ R;rw [Qg];refine iS ?_;show IF (mod C) F.A (do let ok <-isTrue x F.env (eval x F.env);pure (MT ok)) _ _ _;refine iS ((ih e (by exact IS ..) x hc.1.2 _ m h).go R (.refl _ _ _) λρ₁ s₁ m₁ b st t1 R₁ h₁=>EQ ?_);show IF (mod C) F.A (forIn xs b λc r=>if r=eQ then do let ok <-isTrue c F.env (eval c F.env);pure (MT ok) else pure (MT r)) _ _ _
   cases b with
   | true=>exact Lk (zn cx (λa ha=>ih a (Lm _ ha)) xs hc.2 Q m₁ h₁ s₁ ρ₁ R₁) (λb s' ⟨ρ',m',a,b',c'⟩=>⟨ρ',m',t1.trans a,b',c'⟩) (Er.back t1)
   | false=>
    have:∀(ys:List L7) (P:Bool->Do->Prop) (E:rW->Do->Prop),P bY s₁->IF (mod C) F.A (forIn ys bY λc r=>if r=eQ then do let ok <-isTrue c F.env (eval c F.env);pure (MT ok) else pure (MT r)) P E s₁:=by
     intro ys
     induction ys with
     | nil=>intro P E hp;exact EQ hp
     | cons y ys ihy=>intro P E hp;rw [Qg];exact iS (EQ (ihy P E hp))
    exact this xs _ _ ⟨_,_,t1,R₁,h₁⟩
termination_by structural ifs=>ifs
noncomputable def Let (C:Glo)(F:Fm)(L:Lr)(ρ₀:List Lr)(s₀:Do)(ρ:List Lr)(s:Do):Prop:=
 ∀ρ' m' s',ao F.W ρ s ρ' s'->Rel C F ρ' m' s'->(∃f,s'.heap.Ns L f)/\∀h',L6 L s'.heap h'->Rel C F ρ' m' { s' with heap:=h' }/\ao F.W ρ₀ s₀ ρ' { s' with heap:=h' }/\aR s'.heap h'
theorem Gz (cx:aq C c F n)(st₀:ao F.W ρ₀ s₀ ρ s)(R₀:Rel C F ρ₀ m s₀)(h0:s₀.heap.get? L=iD)(h1:L∉ρ)(h2:L∉F.W++F.V)(h3:∃f,s.heap.Ns L f):Let C F L ρ₀ s₀ ρ s:=by
 intro ρ' m' s' st R;obtain ⟨f,hf⟩:=h3;refine e33 hf λo es ep e1 e2 e3=>?_;have hb:=bW R₀.hp h0;have hL:L∉ρ':=λq=>(st.new L q).elim h1 λq=>by exact aK q e1
 have hd:∀o,s.heap.get? L=aT o->∃o',s'.heap.get? L=aT o'/\o'.data=o.data:=λo e=>by
  rcases st.keep L o e h1 (λq=>h2 (LC _ q)) with q | ⟨_,sl,q⟩
  ·exact ⟨_,q,rfl⟩
  ·exact ⟨_,q,rfl⟩
 have hf':s'.heap.Ns L f:=ju hf hd;refine ⟨⟨f,hf'⟩,λh' hs=>?_⟩;refine e12 (hd o e1) λo' g1 g2=>?_;have hw:WOk s'.heap L:=⟨o',g1,.inl ⟨es,ep,g2.trans e2⟩⟩
 have hsol:aR s'.heap h':=dv (λb ob q e=>(hs.2 b q).trans e) (iR hw);have sd:fu [L] s' { s' with heap:=h' }:=⟨λb ob hb e=>(hs.2 b (by exact λq=>hb (oF.mpr q))).trans e,rfl,rfl⟩
 refine ⟨R.side0 cx.fm hsol (λa ha=>?_) (λL' hL' q=>?_) sd,(st₀.trans st).side sd (λa ha=>?_),hsol⟩
 ·have:a=L:=by exact oF.mp ha
  subst this;exact ⟨hL,h2,hb⟩
 ·have:L'=L:=by exact oF.mp q
  subst this;obtain ⟨_,_,ob,k5,_⟩:=R₀.out _ hL';exact aK h0 k5
 ·have:a=L:=by exact oF.mp ha
  subst this;exact h0
end
section
noncomputable def KpU (U:List Lr)(s s':Do):Prop:=∀a∈U,∀o,s.heap.get? a=aT o->s'.heap.get? a=aT o
theorem KpU.trans (x:KpU U s s')(y:KpU U s' s''):KpU U s s'':=λa h o e=>y a h o (x a h o e)
inductive KH (C:Glo)(F:Fm)(U:List Lr)(ρ:List Lr)(s:Do)(P:MS->Prop)(s':Do):Prop
 | mk (m':MS) (st:ao F.W ρ s ρ s') (R:Rel C F ρ m' s') (h:P m') (k:KpU U s s')
inductive KI (C:Glo)(F:Fm)(U:List Lr)(ρ:List Lr)(s:Do)(P:Bool->MS->Prop)(b:Bool)(s':Do):Prop
 | mk (ρ':List Lr) (m':MS) (st:ao F.W ρ s ρ' s') (R:Rel C F ρ' m' s') (h:P b m') (k:KpU U s s')
inductive KJ (C:Glo)(F:Fm)(U:List Lr)(ρ:List Lr)(s:Do)(P:PQ)(w:rW)(s':Do):Prop
 | mk (ρ':List Lr) (m':MS) (y:MV) (st:ao F.W ρ s ρ' s') (R:Rel C F ρ' m' s') (r:Rep C ρ' s'.heap y w) (h:P y m') (k:KpU U s s')
structure GA (C:Glo)(n:Nat)(F:Fm)(U:List Lr)(target elt':L7)(ifs':List L7)(t:List Nat)(many:Bool)(elt:ME)(ifs:List ME):Prop where
 asg:∀{ρ:List Lr} {m:MS} {s:Do} {x:MV} {v:rW} {P:MS->Prop},(∀a∈U,a∈ρ)->Rel C F ρ m s->Rep C ρ s.heap x v->Internal.asg t many x P m->IF (mod C) F.A (assign target F.env v) (λ_ s'=>KH C F U ρ s P s') (λ_ _=>False) s
 ifs:∀{ρ:List Lr} {m:MS} {s:Do} {P:Bool->MS->Prop},(∀a∈U,a∈ρ)->Rel C F ρ m s->nV (Call C) n ifs P noX m->IF (mod C) F.A (forIn ifs' eQ λc r=>if r=eQ then do let ok <-isTrue c F.env (eval c F.env);pure (MT ok) else pure (MT r)) (KI C F U ρ s P) (λ_ _=>False) s
 elt:∀{ρ:List Lr} {m:MS} {s:Do} {P:PQ},(∀a∈U,a∈ρ)->Rel C F ρ m s->wpE (Call C) n elt P noX m->IF (mod C) F.A (eval elt' F.env) (KJ C F U ρ s P) (λ_ _=>False) s
theorem te (cx':aq C c' F n)(hnh:c'.nh=eQ)(helt:SV C noX n c' F elt)(hce:aD c' elt elt'=eQ)(hifs:∀a∈ifs,ST C noX n c' F a)(hci:be c' ifs ifs'=eQ)(ht:pu c' t many target=eQ):GA C n F [] target elt' ifs' t many elt ifs where
 asg:=λ_ R rv h=>Lk (kf cx' ht rv R h λ_=>cx'.hn hnh) (λ_ s' ⟨m',a,b,c⟩=>⟨m',a,b,c,λ_ h=>co h⟩) λ_ _ x=>x
 ifs:=λ_ R h=>Lk ((zn cx' hifs ifs' hci _ _ h) _ _ R) (λb s' ⟨ρ',m',a,b',c⟩=>⟨ρ',m',a,b',c,λ_ h=>co h⟩) λ_ _ x=>Er.no x
 elt:=λ_ R h=>Lk ((helt elt' hce _ _ h) _ _ R) (λw s' ⟨ρ',m',y,a,b,c,d⟩=>⟨ρ',m',y,a,b,c,d,λ_ h=>co h⟩) λ_ _ x=>Er.no x
inductive I9 (C:Glo)(F:Fm)(W:List Lr)(items:List MV)(g:Gd)(stp:MV->(Option MV->MS->Prop)->MS->Prop)(Q:List MV->MS->Prop)(D:Lr)(S:List Lr)(It:Nat->List Lr->Do->Prop)(ρ₀:List Lr)(s₀:Do)(k:Nat)(s:Do):Prop
 | mk (ρ:List Lr) (m:MS) (i:Nat) (acc:List MV) (accv:List rW) (k₁:Nat) (hk:k=items.length-i) (st:ao W ρ₀ s₀ ρ s) (R:Rel C F ρ m s) (hit:It i ρ s) (as:dp C F ρ s.heap (D::S)) (hD:s.heap.get? D=aT (dQ accv k₁)) (rl:au C ρ s.heap acc accv) (hal:acc.length<=i) (hil:i<=items.length) (hf:cU g stp Q (items.drop i) acc m)
theorem wZ {F':Fm}(ok:aJ F'){D:Lr}{target elt' iter:L7}{ifs':List L7}{elt:ME}{ifs:List ME}{t:List Nat}{many:Bool}{sc:Scope}{pos:Pos}{itv:rW}{items:List MV}{g:Gd}{S U:List Lr}{It:Nat->List Lr->Do->Prop}
  (wk:pz C F'.A target itv items g S U It) (hlen:items.length<=line) (T:GA C n F' U target elt' ifs' t many elt ifs) (hU:∀a∈U,a∈ρ)
  {stp:MV->(Option MV->MS->Prop)->MS->Prop}(hstp:∀v P m,stp v P m->asg t many v (λm=>nV (Call C) n ifs (EV (wpE (Call C) n elt) P) noX m) m)
  {Q:List MV->MS->Prop}(R:Rel C F' ρ m s) (h0:It 0 ρ s) (as:dp C F' ρ s.heap (D::S)) (hDS:D∉S) {k₀:Nat}(hD:s.heap.get? D=aT (dQ [] k₀))
  (h:cU g stp Q items [] m)
  {RR:Result->Do->Prop}(hk:∀ρ' m' s₁ s' acc accv k,ao (F'.W++D::S) ρ s ρ' s₁->fu S s₁ s'->aR s₁.heap s'.heap->Rel C F' ρ' m' s'->s'.heap.get? D=aT (dQ accv k)->au C ρ' s'.heap acc accv->acc.length<=line->Q acc m'->RR (.ok .next) s') :
  Ra (mod C) F'.A (.compLoop (.ListComp elt' [⟨target,iter,ifs',0⟩] sc pos) 0 itv (.ref D) F'.env) RR s:=by
 refine td (I9 C F' (F'.W++D::S) items g stp Q D S It ρ s) (λk s₁ hI=>?_) _ ⟨ρ,m,0,[],[],k₀,rfl,.refl _ _ _,R,h0,as,hD,.nil,nO _,Ly _,by exact h⟩;obtain ⟨ρ₁,m₁,i,acc,accv,k₁,rfl,st₁,R₁,hit,as₁,hD₁,rl,hal,hil,hf⟩:=hI;have hsub:∀a∈S,a∈F'.W++D::S:=λa ha=>Lx _ (Lm _ ha);have hsubD:∀a∈[D],a∈F'.W++D::S:=λa ha=>by
  have:a=D:=by exact oF.mp ha
  subst this;exact Lx _ (IS ..)
 have hsubL:∀a∈F'.W,a∈F'.W++D::S:=λa ha=>LC _ ha;have asS:dp C F' ρ₁ s₁.heap S:=λa ha=>as₁ a (Lm _ ha)
 cases e:items[i]? with
 | none=>
  have hd:items.drop i=[]:=by rw [List.drop_eq_nil_iff];exact MY.mp e
  rw [hd,j6] at hf;obtain ⟨hg,hq⟩:=hf;refine Lk (wk.done i ρ₁ m₁.heap s₁ R₁.hp hg hit e (λ_ _=>False) (λs₂=>fu S s₁ s₂) λs₂ sd=>sd) (λr s₂ ⟨hr,sd⟩=>?_) λ_ _ x=>x.elim;subst hr;have hsol:=asS.solids sd;exact hk ρ₁ m₁ s₁ s₂ acc accv k₁ st₁ sd hsol (R₁.side ok asS sd) (sd.1 D _ hDS hD₁) (rl.up hsol (Lq _)) (iF hal (iF hil hlen)) hq
 | some x=>
  obtain ⟨hlt,hx⟩:=By.mp e;rw [L9 hlt,hx,je] at hf;refine e02 hf λhg hq=>?_;refine wk.item i ρ₁ m₁.heap s₁ x R₁.hp hg hit e _ _ _ λv s₂ sd hit' rv=>?_;have hsol:=asS.solids sd;have R₂:=R₁.side ok asS sd;have sh₂:=wk.shape _ _ _ hit';have hD₂:=sd.1 D _ hDS hD₁;have as₂:dp C F' ρ₁ s₂.heap (D::S):=as₁.shape λa ha=>by
   rcases Lu.mp ha with rfl | ha
   ·exact cY hD₂ rfl (by decide) (λ⟨_,_,q⟩=>by cases q) a (by exact oF.mpr rfl)
   ·exact sh₂ a ha
  have rl₂:=rl.up hsol (Lq _);have st₂:=st₁.trans (ao.ofSide sd hsub (λa ha=>(asS a ha).2.2.2) sh₂);have hU₁:∀a∈U,a∈ρ₁:=λa ha=>st₁.pre.subset (hU a ha);refine Lk (T.asg hU₁ R₂ rv (hstp _ _ _ hq)) (λ_ s₃ h₃=>?_) λ_ _ x=>x;obtain ⟨m₃,st₃,R₃,hq₃,ku₃⟩:=h₃;refine Lk (T.ifs hU₁ R₃ hq₃) (λb s₄ h₄=>?_) λ_ _ x=>x;obtain ⟨ρ₄,m₄,st₄,R₄,h₄,ku₄⟩:=h₄;have t₄:=st₃.trans st₄;have ku₄:=ku₃.trans ku₄;refine e02 (as₂.step t₄) λas₄ kp₄=>?_
  cases b with
  | false=>exact ⟨_,Qb _ _ hlt,ρ₄,m₄,i+1,acc,accv,k₁,rfl,st₂.trans (t₄.mono hsubL),R₄,wk.keep _ _ _ _ _ hit' t₄.pre t₄.solid (λa ha=>(Lg.mp ha).elim (λha=>kp₄ a (Lm _ ha)) (ku₄ a)),as₄,kp₄ D (IS ..) _ hD₂,rl₂.step t₄,Mw hal,hlt,h₄⟩
  | true=>
   refine Lk (T.elt (λa ha=>t₄.pre.subset (hU₁ a ha)) R₄ h₄) (λw s₅ h₅=>?_) λ_ _ x=>x;obtain ⟨ρ₅,m₅,y,st₅,R₅,ry,h₅,ku₅⟩:=h₅;have t₅:=t₄.trans st₅;have ku₅:=ku₄.trans ku₅;refine e02 (as₂.step t₅) λas₅ kp₅=>?_;have hD₅:=kp₅ D (IS ..) _ hD₂;have rl₅:=rl₂.step t₅;refine PySem.wpAny_list_append_plain ⟨_,hD₅⟩ (λh' hl hs=>?_) (by rw [Lv,rl₅.length];exact iF hal (iF (LM hlt) hlen));obtain ⟨k₆,hl⟩:=hl;have sd₆:fu [D] s₅ { s₅ with heap:=h' }:=⟨λb ob hb e=>(hs.2 b (by exact λq=>hb (oF.mpr q))).trans e,rfl,rfl⟩
   have asD:dp C F' ρ₅ s₅.heap [D]:=λa ha=>as₅ a (by
    have:a=D:=by exact oF.mp ha
    subst this;exact IS ..)
   have hsol₆:=asD.solids sd₆;have hD₆:h'.get? D=aT (dQ (accv++[w]) k₆):=by rw [hl];simp
   have shD:∀a∈[D],Shp h' a:=cY hD₆ rfl (by decide) (λ⟨_,_,q⟩=>by cases q);have kS:∀a∈S,∀o,s₅.heap.get? a=aT o->h'.get? a=aT o:=λa ha o e=>sd₆.1 a o (λq=>by
    have:a=D:=by exact oF.mp q
    subst this;exact hDS ha) e
   refine ⟨_,Qb _ _ hlt,ρ₅,m₅,i+1,acc++[y],accv++[w],k₆,rfl,(st₂.trans (t₅.mono hsubL)).trans (ao.ofSide sd₆ hsubD (λa ha=>(asD a ha).2.2.2) shD),R₅.side ok asD sd₆,
    wk.keep _ _ _ _ _ hit' t₅.pre (λa o e h=>hsol₆ a o (t₅.solid a o e h) h) (λa ha o e=>(Lg.mp ha).elim (λha=>kS a ha o (kp₅ a (Lm _ ha) o e)) λha=>sd₆.1 a o (λq=>(asD a q).1 (t₅.pre.subset (hU₁ a ha))) (ku₅ a ha o e)),as₅.shape (λa ha=>?_),hD₆,
    (rl₅.append (.cons ry .nil)).up hsol₆ (Lq _),(by rw [iN];exact Ln hal),hlt,h₅⟩
   rcases Lu.mp ha with rfl | ha
   ·exact shD a (by exact oF.mpr rfl)
   ·refine e12 ((as₅ a (Lm _ ha)).2.2.2) λo e1 e2=>?_;exact ⟨o,kS a ha o e1,e2⟩
end
section
theorem Cq (G:GOk C)(cx:aq C c F n)(hnh:c.nh=eQ)
  (hasync:g.is_async=0) (hx:okX g.iter=eQ) (hen:mE k=eQ->many=eQ) (hco:pv c sc t (bH g.target)=eQ) (hxs:mD c k g.iter=aT xs) (hcs:be c src xs=eQ)
  (ht:pu (fG c sc t (bH g.target)) t many g.target=eQ) (hci:be (fG c sc t (bH g.target)) ifs g.ifs=eQ) (hce:aD (fG c sc t (bH g.target)) elt elt'=eQ)
  (hsrc:∀a∈src,SV C X n c F a) (helt:∀F',aq C (fG c sc t (bH g.target)) F' n->SV C noX n (fG c sc t (bH g.target)) F' elt)
  (hifs:∀F',aq C (fG c sc t (bH g.target)) F' n->∀a∈ifs,ST C noX n (fG c sc t (bH g.target)) F' a)
  (h:wpE (Call C) n (.comp elt t many k src ifs) Q X m) (R:Rel C F ρ m s)
  (hk:∀D L ρ' m' s' i,ao F.W ρ s ρ' s'->Rel C F ρ' m' s'->Rep C ρ' s'.heap (.ref i) (.ref D)->Q (.ref i) m'->Let C F L ρ s ρ' s'->compPost (mod C) F.A (Er C F X ρ s) use QQ (.ref D) L (.ok .next) s') :
  IF (mod C) F.A (comprehension (.ListComp elt' [g] sc pos) sc F.env p' (newList []) bY (eval g.iter F.env) use) QQ (Er C F X ρ s) s:=by
 obtain ⟨target,iter,ifs',isa⟩:=g;replace h:iO (Call C) n src _ X m:=h;simp only at *;subst hasync;have hCO:=wW hco;refine e12 (tc (wY cx hCO)) λcl hcl hcl'=>?_;have htt:=kK ht;refine wpAny_comprehension_free rfl (ml hx _) hcl hCO.kind hCO.loc (Lk (um G cx hnh hsrc hxs hcs htt (λe=>by have:=hen e;subst this;obtain ⟨a,b,d,e,_⟩:=iC ht;exact ⟨a,b,d,e,trivial⟩)
  (P:=λitems g m=>cU g (λv P m=>asg t many v (λm=>nV (Call C) n ifs (EV (wpE (Call C) n elt) P) noX m) m) (λacc m'=>Q (.ref m'.heap.length) ⟨m.vars,m'.heap++[.list acc]⟩) items [] m) h R) (λxv s₁ h₁=>Lk h₁ (λitv s₂ h₂=>?_) λ_ _ x=>x) λ_ _ x=>x)
 obtain ⟨ρ₂,m₂,items,gg,S,It,st₂,R₂,wk,h0,as,hS,hlen,hP⟩:=h₂;refine MW (wX (hCO.cell.imp id λ⟨x,e,_⟩=>⟨x,e⟩) λh₁ oc cl' hO hns₁ hk₁=>?_);dsimp only at hns₁ hk₁ hO ⊢;generalize hH2:s₂.heap.push { cls:=.type "list",dict:=none,data:=.seq ([]:List rW).toArray }=H2 at hns₁ hk₁ hO ⊢;have hC:H2.objs.size=s₂.heap.objs.size+1:=by rw [<-hH2,PM]
 generalize hLL:H2.objs.size=L at hns₁ hC hO ⊢;generalize hDD:s₂.heap.objs.size=D at hC ⊢;have hD0:s₂.heap.get? D=iD:=bC (by rw [hDD];exact nO _);have hL0:s₂.heap.get? L=iD:=bC (by rw [hDD,hC];exact N8 _);have hDL:D≠L:=by rw [hC];exact (QR _).symm
 have hW0:∀a∈L::oc.toList,s₂.heap.get? a=iD/\D≠a:=λa ha=>by
  rcases Lu.mp ha with rfl | q
  ·exact ⟨hL0,hDL⟩
  ·cases hO with
   | none=>cases q
   | one x d _ l _=>
    have:a=d:=by exact oF.mp q
    subst this;exact ⟨bC (by rw [hDD,l,hC];exact Mw (N8 _)),by rw [l,hC];exact Mn (PN (MF _))⟩
 have hoC:∀d,oc=aT d->s₂.heap.get? d=iD/\h₁.IsCell d iD:=λd e=>by
  subst e;refine ⟨(hW0 d (Lm _ (IS ..))).1,?_⟩
  cases hO with
  | one x d _ _ hc=>exact hc
 have hk4:∀a o,s₂.heap.get? a=aT o->h₁.get? a=aT o:=λa o e=>hk₁ a o (hH2▸Lj _ e);have hD4:h₁.get? D=aT (dQ [] 0):=hk₁ D _ (by rw [<-hH2,<-hDD];exact LI _ rfl);generalize hs4:({ s₂ with heap:=h₁ }:Do)=s₄;have e4:s₄.heap=h₁/\s₄.gens=s₂.gens/\s₄.os=s₂.os:=by rw [<-hs4];exact ⟨rfl,rfl,rfl⟩
 rw [<-e4.1] at hns₁ hD4 hk4 hoC;have notW:∀a,s₂.heap.get? a=iD->a∉F.W++F.V:=λa e q=>by
  obtain ⟨_,_,o,e',_⟩:=R₂.w a q;exact aK e e'
 have cx':=zm cx hCO (notW L hL0) hO (λd e=>notW d (hoC d e).1) hcl';have R₄:=Gy (cl:=cl') (o:=oc) (s':=s₄) cx R₂ hCO hk4 e4.2.1 hL0 ⟨_,hns₁⟩ hoC;have hsol4:aR s₂.heap s₄.heap:=λa o e _=>hk4 a o e;have h04:It 0 ρ₂ s₄:=wk.keep _ _ _ _ _ h0 (Lq _) hsol4 λa _ o e=>hk4 a o e;have hSthere:∀a∈S,∃o,s₂.heap.get? a=aT o:=λa ha=>by obtain ⟨_,_,_,o,e,_⟩:=as a ha;exact ⟨o,e⟩
 have hDS:D∉S:=λq=>by obtain ⟨o,e⟩:=hSthere D q;exact aK hD0 e
 have notρ:∀a,s₂.heap.get? a=iD->a∉ρ₂:=λa e q=>by obtain ⟨o,e'⟩:=R₂.hp.there q;exact aK e e'
 have as4:dp C (dR F sc cl' t (bH target) L oc) ρ₂ s₄.heap (D::S):=λa ha=>by
  rcases Lu.mp ha with rfl | ha
  ·refine ⟨notρ a hD0,λq=>?_,bW R₂.hp hD0,cY hD4 rfl (by decide) (λ⟨_,_,q⟩=>by cases q) a (by exact oF.mpr rfl)⟩;refine MN (Lg.mp q) (λq=>?_) λq=>?_
   ·exact (hW0 _ q).2 rfl
   ·exact notW a hD0 q
  ·obtain ⟨a1,a2,a3,o,a4,a5⟩:=as a ha;refine ⟨a1,λq=>?_,a3,o,hk4 a o a4,a5⟩;refine MN (Lg.mp q) (λq=>?_) λq=>?_
   ·exact aK (hW0 _ q).1 a4
   ·exact a2 q
 have fin:∀ρ' m' s₁' s' acc accv k',ao ((L::oc.toList)++D::S) ρ₂ s₄ ρ' s₁'->fu S s₁' s'->aR s₁'.heap s'.heap->Rel C (dR F sc cl' t (bH target) L oc) ρ' m' s'->s'.heap.get? D=aT (dQ accv k')->au C ρ' s'.heap acc accv->acc.length<=line->
   Q (.ref m'.heap.length) ⟨m₂.vars,m'.heap++[.list acc]⟩->compPost (mod C) F.A (Er C F X ρ s) use QQ (.ref D) L (.ok .next) s':=by
  intro ρ' m' s₁' s' acc accv k' st' sd hsol R' hD' rl hal hq;have hDρ:D∉ρ':=λq=>(st'.new D q).elim (notρ D hD0) λq=>by exact aK q hD4
  have hLW:=R'.w L (LC _ (IS ..));have hH:Hp C (ρ'++[D]) (m'.heap++[.list acc]) s'.heap:=R'.hp.alloc (λa o e _=>e) (λa _ o e=>e) R'.hp.base hDρ (bW R₂.hp hD0) ⟨accv,k',hD',rl.up (λa o e _=>e) (Mx _ _),hal⟩;have hkeep:∀a o,s₂.heap.get? a=aT o->a∉ρ₂->a∉S->s'.heap.get? a=aT o\/(IsD o/\∃sl,s'.heap.get? a=aT { o with slots:=sl }):=λa o e h1 h2=>by
   have hn:a∉(L::oc.toList)++D::S:=λq=>by
    rcases Lg.mp q with q | q
    ·exact aK (hW0 _ q).1 e
    ·rcases Lu.mp q with rfl | q
     ·exact aK hD0 e
     ·exact h2 q
   rcases st'.keep a o (hk4 a o e) h1 hn with q | ⟨q,sl,q'⟩
   ·exact .inl (sd.1 a _ h2 q)
   ·exact .inr ⟨q,sl,sd.1 a _ h2 q'⟩
  have hKD:∀a,a∉ρ₂->a∉S->jv s₂.heap s'.heap a:=λa h1 h2 o e=>by
   rcases hkeep a o e h1 h2 with q | ⟨_,sl,q⟩
   ·exact ⟨_,q,rfl,rfl⟩
   ·exact ⟨_,q,rfl,rfl⟩
  have hs2:aR s₂.heap s'.heap:=λa o e h=>hsol a o (st'.solid a o (hk4 a o e) h) h;have hpre:ρ₂<+:ρ'++[D]:=st'.pre.trans (Mx _ _);have hnew:∀a∈ρ'++[D],a∈ρ₂\/s₂.heap.get? a=iD:=λa ha=>by
   refine MN (Lg.mp ha) (λq=>?_) λq=>?_
   ·exact (st'.new a q).imp id λq=>by
     cases e:s₂.heap.get? a with
     | none=>rfl
     | some o=>rw [hk4 a o e] at q;exact oW q
   ·have:a=D:=by exact oF.mp q
    subst this;exact .inr hD0
  have hgens:s'.gens=s₂.gens:=sd.2.1.trans (st'.gens.trans e4.2.1);have Rf:Rel C F (ρ'++[D]) ⟨m₂.vars,m'.heap++[.list acc]⟩ s':=R₂.up cx.fm hs2 hpre hH hnew (λa ha=>hKD a (R₂.w a ha).1 λq=>(as a q).2.1 ha)
   (λL' hL'=>by
    obtain ⟨k3,_,o,k5,k6⟩:=R₂.out L' hL';refine hKD L' k3 λq=>?_;obtain ⟨_,_,_,o2,g1,_,g2⟩:=as L' q;obtain rfl:=same k5 g1;exact g2 k6) hgens
  have fr:∀a∈(L::oc.toList)++D::S,s.heap.get? a=iD:=λa ha=>by
   rcases Lg.mp ha with q | q
   ·exact dA st₂ (hW0 _ q).1
   ·rcases Lu.mp q with rfl | q
    ·exact dA st₂ hD0
    ·exact hS a q
  have stf:ao F.W ρ s (ρ'++[D]) s':=by
   have g:ao F.W ρ₂ s₂ ρ₂ s₄:=⟨Lq _,λ_ h=>.inl h,λa o e _ _=>.inl (hk4 a o e),hsol4,λa o e=>⟨o,hk4 a o e⟩,e4.2.1,e4.2.2⟩
   have z:=((st₂.trans g).behind st' fr).side sd λa ha=>hS a ha;exact ⟨z.pre.trans (Mx _ _),λa ha=>by
    refine MN (Lg.mp ha) (λq=>?_) λq=>?_
    ·exact z.new a q
    ·have:a=D:=by exact oF.mp q
     subst this;exact .inr (dA st₂ hD0),z.keep,z.solid,z.alive,z.gens,z.os⟩
  refine hk D L (ρ'++[D]) _ s' m'.heap.length stf Rf (.ref ?_) hq (Gz cx stf R (dA st₂ hL0) (λq=>?_) (notW L hL0) R'.ns)
  ·rw [<-R'.hp.len,LU (nO _)];simp
  ·refine MN (Lg.mp q) (λq=>?_) λq=>?_
   ·exact hLW.1 q
   ·exact hDL (by exact oF.mp q:L=D).symm
 have T:GA C n (dR F sc cl' t (bH target) L oc) [] target elt' ifs' t many elt ifs:=te cx' hnh (helt _ cx') hce (hifs _ cx') hci ht;have loop:Ra (mod C) F.A (.compLoop (.ListComp elt' [⟨target,iter,ifs',0⟩] sc pos) 0 itv (.ref D) (compEnvC sc cl' L F.env)) (compPost (mod C) F.A (Er C F X ρ s) use QQ (.ref D) L) s₄:=
  wZ cx'.fm wk hlen T (λ_ h=>co h) (λ_ _ _ h=>h) R₄ h04 as4 hDS hD4 hP fin
 exact codeAny_compStart_list loop (wk.self 0 ρ₂ s₄ h04 _ _ loop)
end
section
theorem q6 (G:GOk C)(cx:aq C c F n)(hc:aD c (.comp elt t many k src ifs) e=eQ)(hsrc:∀a∈src,SV C X n c F a)(helt:∀c' F',aq C c' F' n->SV C noX n c' F' elt)
  (hifs:∀c' F',aq C c' F' n->∀a∈ifs,ST C noX n c' F' a) (h:wpE (Call C) n (.comp elt t many k src ifs) Q X m) (R:Rel C F ρ m s):∃elt' gs sc pos,e=.ListComp elt' gs sc pos/\∀use QQ,
   (∀D L ρ' m' s' i,ao F.W ρ s ρ' s'->Rel C F ρ' m' s'->Rep C ρ' s'.heap (.ref i) (.ref D)->Q (.ref i) m'->Let C F L ρ s ρ' s'->compPost (mod C) F.A (Er C F X ρ s) use QQ (.ref D) L (.ok .next) s')->
   IF (mod C) F.A (comprehension (.ListComp elt' gs sc pos) sc F.env (firstIterPos gs pos) (newList []) (firstAsync gs) (firstIter gs F.env) use) QQ (Er C F X ρ s) s:=by
 replace hc:=ah hc;refine e12 hc λq hxx hc=>?_;refine e12 (ah hc) λg hg hc=>?_;refine e11 (pj hxx) λpos he=>?_;refine ⟨q.1,q.2.1,q.2.2,pos,he,λuse QQ hk=>?_⟩;rw [bX hg];refine e02 (al hc) λhc h8=>?_;refine e02 (al hc) λhc h7=>?_;refine e02 (al hc) λhc h6=>?_;refine e02 (al hc) λhc h5=>?_;refine e02 (al hc) λhc h4=>?_;refine e02 (al hc) λhc h3=>?_;refine e02 (al hc) λhc h2=>?_;refine e02 (al hc) λh0 h1=>?_;refine e12 (ah h5) λxs hxs h5=>?_;have h1:=eq_of_beq h1;have ha:firstAsync [g]=bY:=by
  cases g;cases h1;rfl
 rw [ha,show firstIter [g] F.env=eval g.iter F.env by cases g;rfl];exact Cq G cx h0 h1 h2 (λe=>(Fy h3).resolve_left λq=>q e) h4 hxs h5 h6 h7 h8 hsrc (helt _) (hifs _) h R hk
theorem Cr (G:GOk C)(cx:aq C c F n)(hsrc:∀a∈src,SV C X n c F a)(helt:∀c' F',aq C c' F' n->SV C noX n c' F' elt)
  (hifs:∀c' F',aq C c' F' n->∀a∈ifs,ST C noX n c' F' a):SV C X n c F (.comp elt t many k src ifs):=by
 intro e hc Q m h s ρ R;obtain ⟨elt',gs,sc,pos,rfl,hk⟩:=q6 G cx hc hsrc helt hifs h R;rw [eval_ListComp];refine hk iD _ λD L ρ' m' s' i st R' rx hq hl=>?_;obtain ⟨⟨f,hf⟩,hs⟩:=hl ρ' m' s' (.refl _ _ _) R';refine ⟨f,hf,λh' hsb=>?_⟩;refine e03 (hs h' hsb) λRf stf hsol=>?_;exact ⟨ρ',m',.ref i,stf,Rf,rx.up hsol (Lq _),hq⟩
theorem Lb (h:∀e,aD c me e=bY):SV C X n c F me/\ST C X n c F me:=
 ⟨λe hc=>by rw [h e] at hc;exact P1 hc,λe hc=>by rw [h e] at hc;exact P1 hc⟩
theorem bo (G:GOk C)(cx:aq C c F n)(ia:SV C X n c F me)(hpl:∀e,aD c me e=eQ->aX e=eQ):SV C X n c F me/\ST C X n c F me:=⟨ia,zg G cx ia hpl⟩
mutual
theorem sE (G:GOk C):∀(me:ME) (X:XM) (c:Cx) (F:Fm),aq C c F n->SV C X n c F me/\ST C X n c F me
 | .cst v,X,c,F,cx=>bo G cx (FH G cx) Gl
 | .var i,X,c,F,cx=>bo G cx (FI G cx) Gm
 | .glob g v,X,c,F,cx=>bo G cx (BN G cx) Cc
 | .bin op a b,X,c,F,cx=>bo G cx (FJ G cx (sE G a X c F cx).1 (sE G b X c F cx).1) Gp
 | .neg a,X,c,F,cx=>bo G cx (FK G cx (sE G a X c F cx).1) Gx
 | .not a,X,c,F,cx=>⟨FL G cx (sE G a X c F cx).1,Gh G cx (sE G a X c F cx).2⟩
 | .and es,X,c,F,cx=>⟨FM G cx λa ha=>(sEs G es X c F cx a ha).1,Gi G cx λa ha=>(sEs G es X c F cx a ha).2⟩
 | .or es,X,c,F,cx=>⟨IJ G cx λa ha=>(sEs G es X c F cx a ha).1,I7 G cx λa ha=>(sEs G es X c F cx a ha).2⟩
 | .cmp op a b,X,c,F,cx=>⟨FN G cx (sE G a X c F cx).1 (sE G b X c F cx).1,Gj G cx (sE G a X c F cx).1 (sE G b X c F cx).1⟩
 | .cmp2 op op' a b d,X,c,F,cx=>⟨Cj G cx (sE G a X c F cx).1 (sE G b X c F cx).1 (sE G d X c F cx).1,Ck G cx (sE G a X c F cx).1 (sE G b X c F cx).1 (sE G d X c F cx).1⟩
 | .isN p a,X,c,F,cx=>⟨FP G cx (sE G a X c F cx).1,Gk G cx (sE G a X c F cx).1⟩
 | .call f args,X,c,F,cx=>bo G cx (BP G cx λa ha=>(sEs G args X c F cx a ha).1) Cf
 | .blt b args,X,c,F,cx=>bo G cx (F9 G cx λa ha=>(sEs G args X c F cx a ha).1) Gw
 | .mth k o args,X,c,F,cx=>bo G cx (FQ G cx (sE G o X c F cx).1 λa ha=>(sEs G args X c F cx a ha).1) Gu
 | .umth k f x o args,X,c,F,cx=>bo G cx (B8 G cx (sE G o X c F cx).1 λa ha=>(sEs G args X c F cx a ha).1) Cg
 | .new k f args,X,c,F,cx=>bo G cx (Gb G cx λa ha=>(sEs G args X c F cx a ha).1) Gv
 | .attr k o x,X,c,F,cx=>bo G cx (B7 G cx (sE G o X c F cx).1) Ci
 | .idx o i,X,c,F,cx=>bo G cx (FR G cx (sE G o X c F cx).1 (sE G i X c F cx).1) Gq
 | .sl o lo hi,X,c,F,cx=>bo G cx (IL G cx (sE G o X c F cx).1 (sO G lo X c F cx) (sO G hi X c F cx)) I8
 | .list es,X,c,F,cx=>bo G cx (BQ G cx λa ha=>(sEs G es X c F cx a ha).1) Cd
 | .tup es,X,c,F,cx=>bo G cx (FS G cx λa ha=>(sEs G es X c F cx a ha).1) Gr
 | .dict0,X,c,F,cx=>bo G cx (yQ G cx) zh
 | .comp elt t many k src ifs,X,c,F,cx=>bo G cx (Cr G cx (λa ha=>(sEs G src X c F cx a ha).1) (λc' F' cx'=>(sE G elt noX c' F' cx').1) λc' F' cx' a ha=>(sEs G ifs noX c' F' cx' a ha).2) Ce
 | .isi a ts,X,c,F,cx=>bo G cx (Gg G cx (sE G a X c F cx).1) Gs
theorem sEs (G:GOk C):∀(es:List ME) (X:XM) (c:Cx) (F:Fm),aq C c F n->∀a∈es,SV C X n c F a/\ST C X n c F a
 | [],X,c,F,cx,a,ha=>by exact co ha
 | e::es,X,c,F,cx,a,ha=>(Lu.mp ha).elim (λh=>h▸sE G e X c F cx) λh=>sEs G es X c F cx a h
theorem sO (G:GOk C):∀(o:Option ME) (X:XM) (c:Cx) (F:Fm),aq C c F n->∀a,o=aT a->SV C X n c F a
 | none,X,c,F,cx,a,ha=>by exact av ha
 | some e,X,c,F,cx,a,ha=>(BY ha)▸(sE G e X c F cx).1
end
theorem gf (G:GOk C)(cx:aq C c F n)(me:ME)(e:L7)(hc:aD c me e=eQ)(Q:PQ)(m:MS)(h:wpE (Call C) n me Q X m):WPv C F X (eval e F.env) Q m:=(sE G me X c F cx).1 e hc Q m h
theorem zo (G:GOk C)(cx:aq C c F n)(me:ME)(e:L7)(hc:aD c me e=eQ)(Q:Bool->MS->Prop)(m:MS)(h:wpE (Call C) n me (dK Q) X m):WPt C F X (isTrue e F.env (eval e F.env)) Q m:=(sE G me X c F cx).2 e hc Q m h
end
section
variable {C:Glo}{F:Fm}{X:XM}{ρ ρ₀:List Lr}{m:MS}{s s₀:Do}{E:rW->Do->Prop}{A:MP}
theorem au.set {h:LA}{xs:List MV}{vs:List rW}(r:au C ρ h xs vs)(j:Nat){u:MV}{w:rW}(ru:Rep C ρ h u w):au C ρ h (xs.set j u) (vs.set j w):=by
 induction xs generalizing vs j with
 | nil=>rw [r.inv];exact .nil
 | cons x xs ih=>
  obtain ⟨v,us,rfl,a,b⟩:=r.inv
  cases j with
  | zero=>exact .cons ru b
  | succ j=>exact .cons a (ih b j)
theorem Cu (ok:aJ F)(R:Rel C F ρ m s){r:Nat}{k:Int}{t:Tok}{xs:List MV}{j:Nat}{u:MV}{xv uv:rW}(rx:Rep C ρ s.heap (.ref r) xv)(hi:m.heap[r]?=aT (.list xs))(hj:jc k xs.length=aT j)(hu:DI=eQ/\0<=k)(ru:Rep C ρ s.heap u uv){P:Unit->Do->Prop}(hp:∀s',Rel C F ρ (m.put r (.list (xs.set j u))) s'->ao F.W ρ s ρ s'->P () s') :
  IF (mod C) A (setItem xv (.int k t) uv) P E s:=by
 obtain ⟨a,rfl,g⟩:=rx.inv;obtain ⟨items,n,gi,rl,z⟩:=R.hp.objs _ _ _ hi g;have hlt:k<xs.length/\j=k.toNat:=by
  unfold jc at hj;rw [decide_eq_true hu.2] at hj
  cases q:decide (k<(xs.length:Int)) with
  | true=>rw [q] at hj;exact ⟨of_decide_eq_true q,(BY hj).symm⟩
  | false=>rw [q] at hj;exact av hj
 obtain ⟨hlt,rfl⟩:=hlt;have hz:xs.length<=2 ^ 24:=z;refine PySem.W.ki_setAt gi hu.2 (by lia) (by rw [Lv,rl.length];exact hlt) ?_;have hs:=Mm s.heap a (MM λys=>ys.setIfInBounds k.toNat uv);have hg:=LZ (MM λys=>ys.setIfInBounds k.toNat uv) gi rfl;obtain ⟨k₂,e₂⟩:=cT (k:=n) (f:=λys=>ys.setIfInBounds k.toNat uv) (items:=items) (ys:=items.set k.toNat uv) (by rw [List.setIfInBounds_toArray]);have hk:∀b ob,b≠a->s.heap.get? b=aT ob->(s.heap.update a (MM λys=>ys.setIfInBounds k.toNat uv)).get? b=aT ob:=λb ob q e=>(hs.2 b q).trans e;have hsol:aR s.heap (s.heap.update a (MM λys=>ys.setIfInBounds k.toNat uv)):=dv hk (cV (R.hp.objs _ _ _ hi g));obtain ⟨R₄,st₄⟩:=R.put (s':={ s with heap:=s.heap.update a (MM λys=>ys.setIfInBounds k.toNat uv) }) ok g hi (o:=.list (xs.set k.toNat u)) hk rfl rfl
  ⟨items.set k.toNat uv,k₂,hg.trans (congrArg aT e₂),(rl.set _ ru).up hsol (Lq _),by rw [Pu];exact z⟩
 exact hp _ R₄ st₄
end
inductive mX (b:LA)(ρ:List Lr)(h:LA)(e K:Lr)(fl:rW):Prop
 | mk (h1:b.get? e=iD) (h2:e∉ρ) (oe:OQ) (vs:Array rW) (h3:h.get? e=aT oe) (h4:oe.cls=.ref K) (h5:oe.data=.fields vs) (T:Lr) (oT:OQ) (ts:Array rW) (g1:vs[1]?=aT (.ref T)) (g2:b.get? T=iD) (g3:T∉ρ) (g4:T≠e) (g5:h.get? T=aT oT) (g6:oT.data=.fields ts)
   (g7:ts[3]?=aT fl)
theorem mX.fly {b:LA}{ρ:List Lr}{h:LA}{L e K:Lr}{fl:rW}(y:mX b ρ h e K fl)(k:fl=.none\/fl=rawInt L):Fly b ρ h L e K:=by
 obtain ⟨h1,h2,oe,vs,h3,h4,h5,T,oT,ts,g1,g2,g3,g4,g5,g6,g7⟩:=y;exact .old h1 h2 oe vs h3 h4 h5 T oT ts g1 g2 g3 g4 g5 g6 (by rcases k with q | q<;>(subst q;first | exact .inl g7 | exact .inr g7))
noncomputable def But (S:List Lr)(b:LA)(ρ:List Lr)(h h':LA):Prop:=∀a o,h.get? a=aT o->((∀vs,o.data≠.fields vs)\/(∃ob,b.get? a=aT ob)\/a∈ρ)->(a∉S->h'.get? a=aT o)/\∃sl,h'.get? a=aT { o with slots:=sl }
theorem But.trans {S S':List Lr}{b:LA}{ρ:List Lr}{h h' h'':LA}(x:But S b ρ h h')(y:But S' b ρ h' h'')(hS:∀a∈S',a∈S):But S b ρ h h'':=λa o e p=>by
 obtain ⟨k1,sl,k2⟩:=x a o e p;have p':∀{o':OQ},o'.data=o.data->((∀vs,o'.data≠.fields vs)\/(∃ob,b.get? a=aT ob)\/a∈ρ):=λq=>p.imp (λr=>q▸r) id;obtain ⟨_,sl',k4⟩:=y a _ k2 (p' rfl);refine ⟨λhn=>?_,sl',k4⟩;exact (y a o (k1 hn) p).1 λq=>hn (hS a q)
section
variable {M:Qi}{A:MP}{E:rW->Do->Prop}{s:Do}{b g:LA}{ρ:List Lr}{env:RF}{outer:List RF}{L e K:Lr}
theorem mY {T:Lr}{oT:OQ}{ts:Array rW}(hT:s.heap.get? T=aT oT)(hd:oT.data=.fields ts)(hb:b.get? T=iD/\T∉ρ)(f:OQ->OQ):But [] b ρ s.heap (s.heap.update T f):=λa o e p=>by
 have ha:a≠T:=λq=>by
  subst q;obtain rfl:=same hT e
  rcases p with p | ⟨ob,p⟩ | p
  ·exact p _ hd
  ·exact aK hb.1 p
  ·exact hb.2 p
 have e':=(Nh s.heap f (Ol ha)).trans e;exact ⟨λ_=>e',o.slots,e'⟩
theorem w0 {fl:rW}{frame:Option Lr}{Q:Unit->Do->Prop}(hy:mX b ρ s.heap e K fl)
  (h:∀h',mX b ρ h' e K (frame.elim .none λf=>rawInt f)->But [] b ρ s.heap h'->Q () { s with heap:=h' }):IF M A (setFlight (.ref e) frame) Q E s:=by
 obtain ⟨h1,h2,oe,vs,h3,h4,h5,T,oT,ts,g1,g2,g2',g3,g4,g5,g6⟩:=hy;have hsz:3<ts.size:=(Mg.mp g6).1;unfold setFlight;refine iS (OR h3 h5 g1 ?_);rw [if_pos (show (Ml T != M5)=eQ from by simp)];refine Od g4 g5 hsz (h _ ⟨h1,h2,oe,vs,(Nh _ _ g3).trans h3,h4,h5,T,_,_,g1,g2,g2',g3,LZ _ g4 (OQ.isFreed_of_fields (Qx g5 _)),Qx g5 _,by simp [hsz]⟩ ?_);exact mY g4 g5 ⟨g2,g2'⟩ _
theorem oD {head:rW}{hn:Bool}{oe:OQ}{vs:Array rW}{Q:Unit->Do->Prop}(hfr:A.frames=aT (env::outer))(hl:s.heap.FunFrames g (env::outer))(hf:env.frame=aT L)
  (hb:∀a o,b.get? a=aT o->∃o',s.heap.get? a=aT o') (hρ:∀a∈ρ,∃o,s.heap.get? a=aT o) (hen:b.get? e=iD/\e∉ρ) (he:s.heap.get? e=aT oe) (hK:oe.cls=.ref K) (hd:oe.data=.fields vs) (hsz:1<vs.size)
  (h:∀h',mX b ρ h' e K (rawInt L)->But ((env::outer).filterMap (·.frame)) b ρ s.heap h'->Q () { s with heap:=h' }) :
  IF M A (do let a <-frameOf env;let pl <-entryPlaceOf L hn;let t <-EntryCells.newEntry head a .none (rawInt L) .none pl;setField (.ref e) 1 t) Q E s:=by
 have hes:e∉(env::outer).filterMap (·.frame):=λhm=>by
  obtain ⟨_,o,ho,hnf⟩:=hl.mem hm;obtain rfl:=same he ho;exact hnf vs hd
 refine iS (wpAny_frameOf_fun hfr hl hf λh₁ hs=>?_);refine iS (wpAny_entryPlaceOf λpl hpl=>?_);unfold EntryCells.newEntry newFields;refine iS (MW ?_ (hpl.sizeOk5 _ _ _ _ _));have he₁:h₁.get? e=aT oe:=(hs.2.1 e hes).trans he;generalize hN:({ cls:=.type "traceback",dict:=none,data:=.fields ([head,.ref L,.none,rawInt L,.none]++(if pl.isEmpty then L4 6 M5 else pl)).toArray }:OQ)=N;have hNd:N.data=.fields ([head,.ref L,.none,rawInt L,.none]++(if pl.isEmpty then L4 6 M5 else pl)).toArray:=by rw [<-hN]
 have he₂:=Lj (h:=h₁) N he₁;have hTe:h₁.objs.size≠e:=LY (Mu he₁);have hd₃:=Qx hd (·.setIfInBounds 1 (Ml h₁.objs.size));have there:∀a o,s.heap.get? a=aT o->h₁.objs.size≠a:=λa o e=>by
  obtain ⟨sl,hsl⟩:=hs.2.2 _ _ e;exact LY (Mu hsl)
 refine Od he₂ hd hsz (h _ ⟨hen.1,hen.2,_,_,LZ (NT (·.setIfInBounds 1 (Ml h₁.objs.size))) he₂ (OQ.isFreed_of_fields hd₃),(OQ.cls_mapFields _ _).trans hK,hd₃,h₁.objs.size,N,_,by simp [hsz],?_,λq=>?_,hTe,
  (Nh (h₁.push N) (NT (·.setIfInBounds 1 (Ml h₁.objs.size))) (Ol hTe)).trans (LI h₁ (by rw [<-hN];rfl)),hNd,by simp⟩ ?_)
 ·cases hq:b.get? h₁.objs.size with
  | none=>rfl
  | some o=>
   obtain ⟨o',ho'⟩:=hb _ _ hq;exact absurd rfl (there _ _ ho')
 ·obtain ⟨o,ho⟩:=hρ _ q;exact there _ _ ho rfl
 ·intro a o ho p;have hae:e≠a:=λq=>by
   subst q;obtain rfl:=same he ho
   rcases p with p | ⟨ob,p⟩ | p
   ·exact p _ hd
   ·exact aK hen.1 p
   ·exact hen.2 p
  obtain ⟨sl,hsl⟩:=hs.2.2 _ _ ho;have keep:∀x,h₁.get? a=aT x->((h₁.push N).update e (NT (·.setIfInBounds 1 (Ml h₁.objs.size)))).get? a=aT x:=λx hx=>by
   rw [Nh _ _ hae];exact Lj _ hx
  exact ⟨λhS=>keep _ ((hs.2.1 a hS).trans ho),sl,keep _ hsl⟩
theorem Cv {Q:Unit->Do->Prop}(hfr:A.frames=aT (env::outer))(hl:s.heap.FunFrames g (env::outer))(hf:env.frame=aT L)
  (hb:∀a o,b.get? a=aT o->∃o',s.heap.get? a=aT o') (hρ:∀a∈ρ,∃o,s.heap.get? a=aT o) (hy:Fly b ρ s.heap L e K)
  (h:∀h',mX b ρ h' e K (rawInt L)->But ((env::outer).filterMap (·.frame)) b ρ s.heap h'->Q () { s with heap:=h' }):IF M A (noteFrame (.ref e) env) Q E s:=by
 cases hy with
 | new hen1 hen2 oe vs he hK hd h1=>
  unfold noteFrame;simp only [hf];refine iS (OR he hd h1 ?_);rw [if_neg (by decide)];exact oD hfr hl hf hb hρ ⟨hen1,hen2⟩ he hK hd (Mg.mp h1).1 h
 | old hen1 hen2 oe vs he hK hd T oT ts h1 hT0 hT0' hTe hT hdT h3=>
  unfold noteFrame;simp only [hf];refine iS (OR he hd h1 ?_);rw [if_pos (show (Ml T != M5)=eQ from by simp)]
  rcases h3 with h3 | h3
  ·refine iS (OR hT hdT h3 ?_);rw [if_neg (show ¬ ((M5==rawInt L)=eQ) from by simp [rawInt])];refine iS (Od hT hdT (Mg.mp h3).1 ?_);have other:∀a,a≠T->(s.heap.update T (NT (·.setIfInBounds 3 M5))).get? a=s.heap.get? a:=λa ha=>Nh _ _ (Ol ha);have hB:=mY (s:=s) (b:=b) (ρ:=ρ) hT hdT ⟨hT0,hT0'⟩ (NT (·.setIfInBounds 3 M5));have hbT:∀a o,b.get? a=aT o->a≠T:=λa o e q=>by rw [q,hT0] at e;exact av e
   refine oD (s:={ s with heap:=s.heap.update T (NT (·.setIfInBounds 3 M5)) }) hfr (hl.of_keeps λa o ha hnf=>⟨o,(other a λq=>?_).trans ha,rfl⟩) hf (λa o ha=>?_) (λa ha=>?_) ⟨hen1,hen2⟩ ((other e (Ol hTe)).trans he) hK hd (Mg.mp h1).1 λh' f k=>h h' f λa o e p=>?_
   ·rw [q,hT] at ha;obtain rfl:=BY ha;exact hnf ts hdT
   ·obtain ⟨o',ho'⟩:=hb a o ha;exact ⟨o',(other a (hbT a o ha)).trans ho'⟩
   ·obtain ⟨o,ho⟩:=hρ a ha;exact ⟨o,(other a λq=>hT0' (q▸ha)).trans ho⟩
   ·exact k a o ((hB a o e p).1 (by exact M1)) p
  ·refine iS (OR hT hdT h3 ?_);rw [if_pos (show (rawInt L==rawInt L)=eQ from by first | (simp;done) | exact beq_self_eq_true _)];exact EQ (h s.heap ⟨hen1,hen2,oe,vs,he,hK,hd,T,oT,ts,h1,hT0,hT0',hTe,hT,hdT,h3⟩ λa o e p=>⟨λ_=>e,o.slots,e⟩)
end
noncomputable def mZ (F:Fm):Prop:=(∃outer,F.A.frames=aT (F.env::outer))/\F.env.frame=aT F.env.locals
inductive ErT (C:Glo)(F:Fm)(X:XM)(ρ:List Lr)(s:Do)(fl e:rW)(s':Do):Prop
 | mk (ρ':List Lr) (m':MS) (k:Nat) (a K:Lr) (st:ao F.W ρ s ρ' s') (R:Rel C F ρ' m' s') (he:e=.ref a) (hk:C.xa k=aT K) (hf:mX s.heap ρ' s'.heap a K fl) (hx:X k m'):ErT C F X ρ s fl e s'
section
variable {C:Glo}{F:Fm}{X:XM}{ρ ρ₀:List Lr}{m:MS}{s s₀:Do}{A:MP}{E:rW->Do->Prop}{h':LA}
theorem q8 {o:OQ}(h:IsD o):¬ gE o:=λhs=>by
 obtain ⟨es,n,d⟩:=h;exact ff ((congrArg (fX o.cls) d).symm.trans hs)
theorem ls {o:OQ}(h:gE o):∀vs,o.data≠.fields vs:=λvs q=>ff ((congrArg (fX o.cls) q).symm.trans h)
theorem uT {S:List Lr}(ok:aJ F)(R:Rel C F ρ m s)(st:ao F.W ρ₀ s₀ ρ s)(hb:C.base.StaysIn s₀.heap)(hS:∀a∈S,a∈F.frs)(k:But S s₀.heap ρ s.heap h') :
  Rel C F ρ m { s with heap:=h' }/\ao F.W ρ₀ s₀ ρ { s with heap:=h' }:=by
 have hsol:aR s.heap h':=λa o e hs=>(k a o e (.inl (ls hs))).1 λq=>by
  obtain ⟨_,_,o',e',d⟩:=R.out a (hS a q);obtain rfl:=same e e';exact q8 d hs
 have hd:∀a,(∀o,s.heap.get? a=aT o->∀vs,o.data≠.fields vs)->jv s.heap h' a:=λa q o e=>by
  obtain ⟨_,sl,e'⟩:=k a o e (.inl (q o e));exact ⟨_,e',rfl,rfl⟩
 refine ⟨R.up ok hsol (Lq _) (R.hp.up hsol (λa ha o e=>(k a o e (.inr (.inr ha))).1 λq=>(R.out a (hS a q)).1 ha) λb o e=>(k b o (R.hp.base b o e) (.inr (.inl ⟨o,hb b o e⟩))).1 λq=>?_) (λa h=>.inl h) (λa ha=>hd a λo e vs q=>?_) (λL hL=>hd L λo e vs q=>?_) rfl,st.pre,st.new,λa o e h1 h2=>?_,λa o e hs=>hsol a o (st.solid a o e hs) hs,λa o e=>?_,st.gens,st.os⟩
 ·have:=(R.out b (hS b q)).2.1;exact aK this e
 ·obtain ⟨_,_,o',e',d⟩:=R.w a ha;obtain rfl:=same e e'
  rcases d with ⟨es,n,d⟩ | ⟨v,d⟩<;>rw [d] at q<;>cases q
 ·obtain ⟨_,_,o',e',es,n,d⟩:=R.out L hL;obtain rfl:=same e e';rw [d] at q;cases q
 ·have key:∀o',s.heap.get? a=aT o'->(h'.get? a=aT o'\/(IsD o'/\∃sl,h'.get? a=aT { o' with slots:=sl })):=λo' e'=>by
   obtain ⟨k1,k2⟩:=k a o' e' (.inr (.inl ⟨o,e⟩));by_cases q:a∈S
   ·obtain ⟨_,_,o2,e2,d⟩:=R.out a (hS a q);obtain rfl:=same e' e2;exact .inr ⟨d,k2⟩
   ·exact .inl (k1 q)
  rcases st.keep a o e h1 h2 with e1 | ⟨d,sl,e1⟩
  ·exact key o e1
  ·rcases key _ e1 with e2 | ⟨_,sl2,e2⟩
   ·exact .inr ⟨d,sl,e2⟩
   ·exact .inr ⟨d,sl2,e2⟩
 ·obtain ⟨o',e'⟩:=st.alive a o e;obtain ⟨_,sl,e2⟩:=k a o' e' (.inr (.inl ⟨o,e⟩));exact ⟨_,e2⟩
theorem th {es:List RF}(R:Rel C F ρ m s)(h:∀e∈es,e.scope.kind≠.module/\∃L∈F.frs,e.frame=aT L):s.heap.FunFrames C.base es:=by
 induction es with
 | nil=>trivial
 | cons e es ih=>
  obtain ⟨h1,L,hL,h2⟩:=h e (IS ..);obtain ⟨_,h3,o,h4,es',n,h5⟩:=R.out L hL;exact ⟨h1,⟨L,o,h2,h3,h4,λvs q=>by rw [h5] at q;cases q⟩,ih λe he=>h e (Lm _ he)⟩
theorem w9 {es:List RF}(h:∀e∈es,e.scope.kind≠.module/\∃L∈F.frs,e.frame=aT L):∀a∈es.filterMap (·.frame),a∈F.frs:=λa ha=>by
 obtain ⟨e,he,e1⟩:=Qy.mp ha;obtain ⟨_,L,hL,e2⟩:=h e he;obtain rfl:=same e1 e2;exact hL
theorem pF (ok:aJ F)(fo:mZ F)(hA:A.frames=F.A.frames)(hb:C.base.StaysIn s₀.heap){e:rW}(h:Er C F X ρ₀ s₀ e s){Q:Unit->Do->Prop}(k:∀s',ErT C F X ρ₀ s₀ (rawInt F.env.locals) e s'->Q () s') :
  IF (mod C) A (noteFrame e F.env) Q E s:=by
 obtain ⟨ρ',m',kk,a,K,st,R,rfl,hk,hf,hx⟩:=h;obtain ⟨⟨outer,ho⟩,hfr⟩:=fo;obtain ⟨es,he,hes⟩:=ok.frs;obtain rfl:=same ho he;refine Cv (hA.trans ho) (th R hes) hfr st.alive (λa ha=>R.hp.there ha) hf λh' hf' hB=>?_;obtain ⟨R',st'⟩:=uT ok R st hb (w9 hes) hB;exact k _ ⟨ρ',m',kk,a,K,st',R',rfl,hk,hf',hx⟩
theorem iH (ok:aJ F)(hb:C.base.StaysIn s₀.heap){e fl:rW}(h:ErT C F X ρ₀ s₀ fl e s){frame:Option Lr}{Q:Unit->Do->Prop}(k:∀s',ErT C F X ρ₀ s₀ (frame.elim .none λf=>rawInt f) e s'->Q () s') :
  IF (mod C) A (setFlight e frame) Q E s:=by
 obtain ⟨ρ',m',kk,a,K,st,R,rfl,hk,hf,hx⟩:=h;refine w0 hf λh' hf' hB=>?_;obtain ⟨R',st'⟩:=uT ok R st hb (λa ha=>by exact co ha) hB;exact k _ ⟨ρ',m',kk,a,K,st',R',rfl,hk,hf',hx⟩
theorem ErT.er {e fl:rW}(h:ErT C F X ρ₀ s₀ fl e s)(k:fl=.none\/fl=rawInt F.env.locals):Er C F X ρ₀ s₀ e s:=
 let ⟨ρ',m',kk,a,K,st,R,h1,hk,hf,hx⟩:=h;⟨ρ',m',kk,a,K,st,R,h1,hk,hf.fly k,hx⟩
theorem Cw (ok:aJ F)(fo:mZ F)(hb:C.base.StaysIn s₀.heap){e fl:rW}(h:ErT C F X ρ₀ s₀ fl e s):cameBackBy (mod C) A F.env (Er C F X ρ₀ s₀) e s:=by
 have h2:=h;obtain ⟨ρ',m',kk,a,K,st,R,rfl,hk,⟨_,_,oe,vs,h3,h4,h5,T,oT,ts,g1,_⟩,hx⟩:=h2;unfold cameBackBy;refine iS (OR h3 h5 g1 ?_);rw [if_neg (show ¬ ((Ml T==M5)=eQ) from by simp)];refine iH ok hb h λs' h'=>?_;rw [fo.2] at h';exact h'.er (.inr rfl)
theorem lJ (ok:aJ F)(fo:mZ F)(hb:C.base.StaysIn s₀.heap){e:rW}(h:Er C F X ρ₀ s₀ e s):notedBy (mod C) F.A F.env (λe s'=>cameBackBy (mod C) F.A F.env (Er C F X ρ₀ s₀) e s') e s:=
 pF ok fo rfl hb h λs' h'=>Cw ok fo hb h'
end
inductive ErC (C:Glo)(X:XT)(ρ:List Lr)(s:Do)(e:rW)(s':Do):Prop
 | mk (ρ':List Lr) (hp':List MO) (k:Nat) (a K:Lr) (st:ao [] ρ s ρ' s') (H:Hp C ρ' hp' s'.heap) (he:e=.ref a) (hk:C.xa k=aT K) (hf:mX s.heap ρ' s'.heap a K .none) (hx:X k hp'):ErC C X ρ s e s'
theorem mX.mono {b b':LA}{ρ:List Lr}{h:LA}{e K:Lr}{fl:rW}(y:mX b ρ h e K fl)(k:∀a,b.get? a=iD->b'.get? a=iD):mX b' ρ h e K fl:=by
 obtain ⟨h1,h2,oe,vs,h3,h4,h5,T,oT,ts,g1,g2,g3,g4,g5,g6,g7⟩:=y;exact ⟨k _ h1,h2,oe,vs,h3,h4,h5,T,oT,ts,g1,k _ g2,g3,g4,g5,g6,g7⟩
noncomputable def ti (e:L7):Bool:=(sF e).isSome
theorem tj (h:ti v=bY)(h':okX v=eQ)(env:RF):swappedStores [.Tuple elts k p] v env=pure iD:=
 dw (P:=λv=>ti v=bY->swappedStores [.Tuple elts k p] v env=pure iD) h' (λ_ _ _ _=>rfl) (λ_ _ _=>rfl) (λ_ _ _ _ _=>rfl) (λ_ _ _ _=>rfl) (λ_ _ _ _=>rfl) (λ_ _ _ _ _=>rfl) (λ_ _ _ _ _=>rfl) (λ_ _ _ _=>rfl) (λ_ _ _ _=>rfl) (λ_ _ _=>rfl) (λ_ _ _ h=>by exact tf h) (λ_ _ _ _=>rfl) (λ_ _ _ _ _=>rfl) h
noncomputable def pG:ME->Bool
 | .comp ..=>eQ
 | _=>bY
set_option genCtorIdx false in
structure VS where
 tag:Nat
 p:Pos:=yf
 ts:List Expr:=[]
 e1:Expr:=noE
 e2:Expr:=noE
 o1:Option Expr:=none
 o2:Option Expr:=none
 b1:List Stmt:=[]
 b2:List Stmt:=[]
 b3:List Stmt:=[]
 hs:List ExceptHandler:=[]
noncomputable def aE:Q0->VS
 | .Assign ts e2 p=>{ tag:=0,ts,e2,p }
 | .Expr e1 p=>{ tag:=1,e1,p }
 | .If e1 b1 b2 p=>{ tag:=2,e1,b1,b2,p }
 | .For e1 e2 b1 b2 p=>{ tag:=3,e1,e2,b1,b2,p }
 | .While e1 b1 b2 p=>{ tag:=4,e1,b1,b2,p }
 | .Return o1 p=>{ tag:=5,o1,p }
 | .Continue p=>{ tag:=6,p }
 | .Raise o1 o2 p=>{ tag:=8,o1,o2,p }
 | .Try b1 hs b2 b3 p=>{ tag:=9,b1,hs,b2,b3,p }
 | _=>{ tag:=7 }
noncomputable def zq (v:VS):Nat->Option Q0
 | 0=>aT (.Assign v.ts v.e2 v.p)
 | 1=>aT (.Expr v.e1 v.p)
 | 2=>aT (.If v.e1 v.b1 v.b2 v.p)
 | 3=>aT (.For v.e1 v.e2 v.b1 v.b2 v.p)
 | 4=>aT (.While v.e1 v.b1 v.b2 v.p)
 | 5=>aT (.Return v.o1 v.p)
 | 6=>aT (.Continue v.p)
 | 8=>aT (.Raise v.o1 v.o2 v.p)
 | 9=>aT (.Try v.b1 v.hs v.b2 v.b3 v.p)
 | _=>iD
theorem zr (e:Q0):∀x,zq (aE e) (aE e).tag=aT x->e=x:=by
 cases e<;>first | exact λx h=>BY h | exact λx h=>av h
theorem zt (h:(aE e).tag=n)(hx:zq (aE e) n=aT x):e=x:=zr e x (h▸hx)
noncomputable def gU (st:Q0)(n:Nat):Bool:=(aE st).tag==n
theorem cw (h:gU e n=eQ)(hx:zq (aE e) n=aT x):e=x:=zt (eq_of_beq h) hx
noncomputable def Cy:MV->Bool
 | .none=>eQ
 | _=>bY
noncomputable def uU:ME->Bool
 | .cst v=>Cy v
 | _=>bY
noncomputable def exh:ExceptHandler->Option L7 × Option Str × List Q0 × Pos
 | .ExceptHandler a b c p=>(a,b,c,p)
theorem GB (h:ExceptHandler):h=.ExceptHandler (exh h).1 (exh h).2.1 (exh h).2.2.1 (exh h).2.2.2:=by cases h;rfl
noncomputable def zw:Const->Bool
 | .str _=>eQ
 | _=>bY
noncomputable def inH (c:Cx):Cx:={ c with nh:=false }
mutual
noncomputable def GC:Cx->MSt->Q0->Bool
 | c,.asg t many e,st=>gU st 0&&am (one (aE st).ts) λtg=>pu c t many tg&&okX (aE st).e2&&(!many||!ti (aE st).e2)&&(!dy (aE st).e2||pG e)&&(c.nh||!many)&&aD c e (aE st).e2
 | c,.setAttr k o x e,st=>gU st 0&&am (one (aE st).ts) λtg=>okX (aE st).e2&&!dy (aE st).e2&&aD c e (aE st).e2&&am (uh tg) λq=>q.2.1.cps.toList==x&&dz.contains q.2.1&&c.at_ k q.2.1&&aD c o q.1
 | c,.setIdx o i e,st=>gU st 0&&am (one (aE st).ts) λtg=>okX (aE st).e2&&aD c e (aE st).e2&&am (Bq tg) λq=>aD c o q.1&&aD c i q.2
 | c,.expr e,st=>gU st 1&&(okX (aE st).e1&&!dy (aE st).e1&&aD c e (aE st).e1)
 | c,.ite d a b,st=>gU st 2&&(aD c d (aE st).e1&&gF c a (aE st).b1&&gF c b (aE st).b2)
 | c,.for_ t many k src body,st=>gU st 3&&(c.nh&&(aE st).b2.isEmpty&&pu c t many (aE st).e1&&(!mE k||many)&&okX (aE st).e2&&am (mD c k (aE st).e2) (λxs=>be c src xs)&&gF c body (aE st).b1)
 | c,.while_ d body,st=>gU st 4&&((aE st).b2.isEmpty&&aD c d (aE st).e1&&gF c body (aE st).b1)
 | c,.ret e,st=>gU st 5&&match (aE st).o1 with
  | some x=>aD c e x
  | none=>uU e
 | c,.raise k,st=>!xO||gU st 8&&((aE st).o2.isNone&&c.nh&&am (aE st).o1 λe=>am (xFn e) λq=>cP c q.1&&c.xn k==aT q.1&&am (one q.2.1) λy=>am (pd y) zw)
 | c,.try_ body k v h,st=>!xO||gU st 9&&((aE st).b2.isEmpty&&(aE st).b3.isEmpty&&am (one (aE st).hs) λhh=>am (exh hh).1 λty=>am (exh hh).2.1 λnm=>k==0&&c.nm v==aT nm&&c.kind nm==aT .local&&!(exh hh).2.2.1.isEmpty&&am (e8 ty) (λx=>cP c x&&c.xn k==aT x)&&gF c body (aE st).b1&&gF (inH c) h (exh hh).2.2.1)
noncomputable def gF:Cx->List MSt->List Q0->Bool
 | c,[],xs=>xs.isEmpty
 | c,s::ss,xs=>match xs with
  | []=>bY
  | x::xs=>GC c s x&&gF c ss xs
end
section
inductive FlR (C:Glo)(ρ:List Lr)(h:LA):Fl->Flow->Prop
 | next:FlR C ρ h .next .next
 | ret {x v}:Rep C ρ h x v->FlR C ρ h (.ret x) (.ret v)
noncomputable def FlI (C:Glo)(ρ:List Lr)(h:LA)(fl:Fl)(f:Flow):Prop:=match fl with
 | .next=>f=.next
 | .ret x=>∃v,f=.ret v/\Rep C ρ h x v
theorem FlR.inv (r:FlR C ρ h fl f):FlI C ρ h fl f:=FlR.casesOn (motive:=λfl f _=>FlI C ρ h fl f) r rfl (λr=>⟨_,rfl,r⟩)
inductive jF (C:Glo)(F:Fm)(ρ:List Lr)(s:Do)(Q:Fl->MS->Prop)(f:Flow)(s':Do):Prop
 | mk (ρ':List Lr) (m':MS) (fl:Fl) (st:ao F.W ρ s ρ' s') (R:Rel C F ρ' m' s') (hf:FlR C ρ' s'.heap fl f) (hq:Q fl m'):jF C F ρ s Q f s'
theorem jF.back (st:ao F.W ρ₀ s₀ ρ s):∀f s',jF C F ρ s Q f s'->jF C F ρ₀ s₀ Q f s':=
 λ_ _ ⟨ρ',m',x,a,b,c,d⟩=>⟨ρ',m',x,st.trans a,b,c,d⟩
noncomputable def WPs (C:Glo)(F:Fm)(X:XM)(t:Sem Flow)(Q:Fl->MS->Prop)(m:MS):Prop:=
 ∀s ρ,Rel C F ρ m s->IF (mod C) F.A t (jF C F ρ s Q) (Er C F X ρ s) s
inductive KL (C:Glo)(F:Fm)(items:List MV)(g:Gd)(st:MV->(Fl->MS->Prop)->MS->Prop)(Q:Fl->MS->Prop)(S:List Lr)(It:Nat->List Lr->Do->Prop)(ρ₀:List Lr)(s₀:Do)(k:Nat)(s:Do):Prop
 | mk (ρ:List Lr) (m:MS) (i:Nat) (hk:k=items.length-i) (st₁:ao F.W ρ₀ s₀ ρ s) (R:Rel C F ρ m s) (hit:It i ρ s) (as:dp C F ρ s.heap S) (hf:dJ g st Q (items.drop i) m)
inductive WhI (C:Glo)(F:Fm)(P:Nat->MS->Prop)(ρ₀:List Lr)(s₀:Do)(k:Nat)(s:Do):Prop
 | mk (ρ:List Lr) (m:MS) (st₁:ao F.W ρ₀ s₀ ρ s) (R:Rel C F ρ m s) (hw:P k m)
theorem GD (cx:aq C c F n)(fo:mZ F)(hbs:C.base.StaysIn s₀.heap){target:L7}{itv:rW}{items:List MV}{g:Gd}{S:List Lr}{It:Nat->List Lr->Do->Prop}(wk:pz C F.A target itv items g S [] It)
  {st:MV->(Fl->MS->Prop)->MS->Prop}{Q:Fl->MS->Prop}{body:List Q0}(hS:∀a∈S,s₀.heap.get? a=iD)
  (hb:∀x v ρ m s (P:Fl->MS->Prop),Rel C F ρ m s->Rep C ρ s.heap x v->st x P m->IF (mod C) F.A (assign target F.env v) (λ_ s₁=>IF (mod C) F.A (execs body F.env) (jF C F ρ s P) (Er C F X ρ s) s₁) (Er C F X ρ s) s)
  (st₀:ao F.W ρ₀ s₀ ρ s) (R:Rel C F ρ m s) (h0:It 0 ρ s) (as:dp C F ρ s.heap S) (h:dJ g st Q items m) :
  Ra (mod C) F.A (.forLoop target itv body [] F.env) (λr s'=>match r with | .ok f=>jF C F ρ₀ s₀ Q f s' | .error e=>cameBackBy (mod C) F.A F.env (Er C F X ρ₀ s₀) e s') s:=by
 refine codeAny_forLoop_any (KL C F items g st Q S It ρ₀ s₀) (λk s hI=>?_) _ ⟨ρ,m,0,rfl,st₀,R,h0,as,by exact h⟩;obtain ⟨ρ,m,i,rfl,st₁,R,hit,as,hf⟩:=hI
 cases e:items[i]? with
 | none=>
  have:items.drop i=[]:=by rw [List.drop_eq_nil_iff];exact MY.mp e
  rw [this,gL] at hf;obtain ⟨hg,hq⟩:=hf;refine Lk (wk.done i ρ m.heap s R.hp hg hit e (λ_ _=>False) (λs₂=>fu S s s₂) λs₂ sd=>sd) (λr s₁ ⟨hr,sd⟩=>?_) λ_ _ x=>x.elim;subst hr;exact Qh ⟨ρ,m,.next,st₁.side sd hS,R.side cx.fm as sd,.next,hq⟩
 | some x=>
  obtain ⟨hlt,hx⟩:=By.mp e;rw [L9 hlt,hx,d4] at hf;refine e02 hf λhg hq=>?_;refine wk.item i ρ m.heap s x R.hp hg hit e _ _ _ λv s₂ sd hit' rv=>?_;have R₂:=R.side cx.fm as sd;have st₂:=st₁.side sd hS;refine Lk (hb x v ρ m s₂ _ R₂ rv hq) (λ_ s₃ h₃=>Lk h₃ (λf s₄ h₄=>?_) λe s' x=>lJ cx.fm fo hbs (Er.back st₂ e s' x)) λe s' x=>lJ cx.fm fo hbs (Er.back st₂ e s' x);obtain ⟨ρ₄,m₄,fl,st₄,R₄,hfl,hq₄⟩:=h₄;obtain ⟨as₄,kp₄⟩:=(as.shape (wk.shape _ _ _ hit')).step st₄;have hit₄:=wk.keep _ _ _ _ _ hit' st₄.pre st₄.solid (by rw [LJ];exact kp₄);have hlt2:items.length-(i+1)<items.length-i:=Qb _ _ hlt
  cases fl with
  | next=>obtain rfl:=hfl.inv;exact ⟨_,hlt2,ρ₄,m₄,i+1,rfl,st₂.trans st₄,R₄,hit₄,as₄,hq₄⟩
  | ret r=>obtain ⟨v,rfl,rv⟩:=hfl.inv;exact ⟨ρ₄,m₄,.ret _,st₂.trans st₄,R₄,.ret rv,hq₄⟩
theorem q9:∀(es:List (List Nat × MV)) (k:List Nat) (x:MV),(lY es k x).length<=es.length+1
 | [],_,_=>nO _
 | (k',x')::r,k,x=>by
  show (match k'==k with
   | true=>(k',x)::r
   | false=>(k',x')::lY r k x).length<=_
  cases k'==k with
  | true=>exact N8 _
  | false=>exact Ln (q9 r k x)
theorem tm (h:okX v=eQ)(x:Str)(px:Pos)(l:Nat)(env:RF):∃b,swapsWith v (aT (.Name x px)) l env=pure b:=by
 cases hi:dy v with
 | false=>exact ⟨bY,fC hi h _ _ _⟩
 | true=>
  unfold dy at hi;obtain ⟨k,hk⟩:=ML.mp hi;obtain ⟨p,rfl⟩:=pj hk;exact ⟨_,rfl⟩
theorem xb (h:okX v=eQ)(elts:List L7)(k:Nat)(p:Pos)(l:Nat)(env:RF):swapsWith v (aT (.Tuple elts k p)) l env=pure bY:=by
 cases hi:dy v with
 | false=>exact fC hi h _ _ _
 | true=>
  unfold dy at hi;obtain ⟨k,hk⟩:=ML.mp hi;obtain ⟨p,rfl⟩:=pj hk;rfl
theorem xc (h:okX v=eQ):swapsWith v (aT (.Subscript a b p)) l env=pure bY:=by
 cases hi:dy v with
 | false=>exact fC hi h _ _ _
 | true=>
  unfold dy at hi;obtain ⟨k,hk⟩:=ML.mp hi;obtain ⟨p,rfl⟩:=pj hk;rfl
theorem zA (h:pG e=eQ):∃elt t many k src ifs,e=.comp elt t many k src ifs:=by
 cases e<;>first | exact ⟨_,_,_,_,_,_,rfl⟩ | exact ff h
theorem tq (h':okX v=eQ)(h:swapsWith v t l env=pure eQ):dy v=eQ:=by
 cases hi:dy v with
 | true=>rfl
 | false=>
  rw [fC hi h'] at h;exact absurd h (by intro h;injection h with h;exact ff h)
theorem zB (G:GOk C)(cx:aq C c F n)(hx:c.nm i=aT x)(hk:c.kind x=aT .local\/(c.wr i=eQ/\c.kind x≠aT .free))(hm:pG e=eQ)(he:aD c e v=eQ)
  (hb:swapsWith v (aT (.Name x px)) pos.line F.env=pure eQ) (h:wpE (Call C) n e (λv m=>asg [i] bY v (λm=>Q .next m) m) X m) (R:Rel C F ρ m s) :
  IF (mod C) F.A (exec (.Assign [.Name x px] v pos) F.env) (jF C F ρ s Q) (Er C F X ρ s) s:=by
 obtain ⟨elt,t,many,k,src,ifs,rfl⟩:=zA hm;rw [exec_Assign_Name_used _ _ _ _ hb];obtain ⟨elt',gs,sc,pos',rfl,hg⟩:=q6 G cx he (λa ha=>(sEs G src X c F cx a ha).1) (λ_ F' cx'=>(sE G elt noX _ F' cx').1) (λ_ F' cx' a ha=>(sEs G ifs noX _ F' cx' a ha).2) h R;refine iS (N9 (iS (iS (Lk (hg (aT (assign (.Name x px) F.env)) (λ_ s'=>jF C F ρ s Q .next s') λD L ρ' m' s' j st R' rx hq hl=>?_) (λ_ s' hq=>EQ (EQ hq)) λ_ _ x=>x))));refine Ps (fE cx R' hx hk rx λs₂ st2 R₂ _=>?_);obtain ⟨⟨f,hf⟩,hs⟩:=hl ρ' _ s₂ st2 R₂;refine ⟨f,hf,λh' hsb=>?_⟩;refine e03 (hs h' hsb) λRf stf hsol=>?_;exact ⟨ρ',_,.next,stf,Rf,.next,hq⟩
noncomputable def SS (C:Glo)(X:XM)(n:Nat)(c:Cx)(F:Fm)(me:MSt):Prop:=∀(e:Q0),GC c me e=eQ->∀(Q:Fl->MS->Prop) (m:MS),wpS (Call C) n me Q X m->WPs C F X (exec e F.env) Q m
noncomputable def SSs (C:Glo)(X:XM)(n:Nat)(c:Cx)(F:Fm)(ss:List MSt):Prop:=∀(es:List Q0),gF c ss es=eQ->∀(Q:Fl->MS->Prop) (m:MS),aA (Call C) n ss Q X m->WPs C F X (execs es F.env) Q m
theorem GE (G:GOk C)(cx:aq C c F n):SS C X n c F (.asg t many e):=by
 intro st hc Q m h;obtain ⟨hv,hc⟩:=al hc;obtain ⟨tg,h1,hc⟩:=ah hc;rw [cw hv rfl,bX h1];clear hv h1;generalize (aE st).e2=v at *;generalize (aE st).p=pos at *;refine e02 (al hc) λhc he=>?_;obtain ⟨hc,hnh⟩:=al hc;obtain ⟨hc,hcm⟩:=al hc;obtain ⟨hc,hm⟩:=al hc;refine e02 (al hc) λht ho=>?_;intro s ρ R
 cases many with
 | false=>
  obtain ⟨i,x,px,rfl,rfl,h1,h2⟩:=qK ht;obtain ⟨b,hb⟩:=tm ho x px pos.line F.env
  cases b with
  | false=>
   refine wpAny_Assign_Name ((gf G cx e v he _ m h).go R (.refl _ _ _) λρ₁ s₁ m₁ y w st t1 R₁ rx h₁=>?_) hb;exact fE cx R₁ h1 (jA h2) rx λs₂ st2 R₂ _=>⟨ρ₁,_,.next,t1.trans st2,R₂,.next,h₁⟩
  | true=>exact zB G cx h1 (jA h2) ((Fy hcm).resolve_left λq=>q (tq ho hb)) he hb h R
 | true=>
  obtain ⟨elts,k,p,rfl,_⟩:=iC ht;refine PyProof.Rows.Assign_Tuple ((gf G cx e v he _ m h).go R (.refl _ _ _) λρ₁ s₁ m₁ y w st t1 R₁ rx h₁=>?_) (xb ho elts k p pos.line F.env) (tj (mz hm) ho _);exact Lk (kf cx ht rx R₁ h₁ λ_=>cx.hn (by rw [<-hnh];exact (Rh _).symm)) (λ_ s₂ ⟨m',st2,R₂,q⟩=>⟨ρ₁,m',.next,t1.trans st2,R₂,.next,q⟩) λ_ _ x=>x
theorem xd (G:GOk C)(cx:aq C c F n)(R:Rel C F ρ m s)(t3:ao F.W ρ₀ s₀ ρ s)(rx:Rep C ρ s.heap x xv)(ry:Rep C ρ s.heap y yv)(ru:Rep C ρ s.heap u uv)(h:lZ x y u (Q .next) m) :
  IF (mod C) A (setItem xv yv uv) (λ_ s'=>jF C F ρ₀ s₀ Q .next s') E s:=by
 refine LL λhn=>?_
 cases y with
 | int k=>
  obtain ⟨r,rfl,h1⟩:=jq h;refine e12 (bB h1) λxs hi h1=>?_;refine e13 (cj h1) λj hj h1 hq=>?_;obtain ⟨t,rfl⟩:=ry.inv;exact hn (Cu cx.fm R rx hi hj h1 ru λs' R₄ st₄=>⟨_,_,.next,t3.trans st₄,R₄,.next,hq⟩)
 | _=>exact h
set_option tactic.hygienic true in
theorem xe (G:GOk C)(cx:aq C c F n):SS C X n c F (.setIdx o i e):=by
 intro st hc Q m h;obtain ⟨hv,hc⟩:=al hc;obtain ⟨tg,h1,hc⟩:=ah hc;rw [cw hv rfl,bX h1];clear hv h1;generalize (aE st).e2=v at *;generalize (aE st).p=pos at *;refine e02 (al hc) λhc ho=>?_;obtain ⟨hox,he⟩:=al hc;obtain ⟨⟨ov,iv⟩,hx,ho⟩:=ah ho;obtain ⟨p,rfl⟩:=ph hx;obtain ⟨ho,hi⟩:=al ho;intro s ρ R;refine wpAny_Assign_Subscript ((gf G cx e v he _ m h).go R (.refl _ _ _) λρ₁ s₁ m₁ x xv st t1 R₁ rx h₁=>?_) (xc hox);refine (gf G cx o ov ho _ m₁ h₁).go R₁ t1 λρ₂ s₂ m₂ y yv st2 t2 R₂ ry h₂=>?_;exact (gf G cx i iv hi _ m₂ h₂).go R₂ t2 λρ₃ s₃ m₃ z zv st3 t3 R₃ rz h₃=>xd G cx R₃ t3 (ry.step st3) rz ((rx.step st2).step st3) h₃
theorem CA (G:GOk C)(cx:aq C c F n):SS C X n c F (.expr e):=by
 intro st hc Q m h;obtain ⟨hv,hc⟩:=al hc;refine e02 (al hc) λhc he=>?_;refine e02 (al hc) λh1 h2=>?_;rw [cw hv rfl];intro s ρ R;exact wpAny_Expr_any ((gf G cx e _ he _ m h).go R (.refl _ _ _) λρ₁ s₁ m₁ y w st t1 R₁ rx h₁=>⟨_,_,.next,t1,R₁,.next,h₁⟩) cx.inter (fC (mz h2) h1 _ _ _)
theorem GF (G:GOk C)(cx:aq C c F n)(ia:SSs C X n c F a)(ib:SSs C X n c F b):SS C X n c F (.ite d a b):=by
 intro st hc Q m h;refine e02 (al hc) λhv hc=>?_;refine e02 (al hc) λhc hb=>?_;refine e02 (al hc) λhd ha=>?_;rw [cw hv rfl];intro s ρ R;refine wpAny_If ((zo G cx d _ hd _ m h).go R (.refl _ _ _) λρ₁ s₁ m₁ t st t1 R₁ h₁=>?_)
 cases t with
 | true=>exact Lk (ia _ ha Q m₁ h₁ s₁ ρ₁ R₁) (jF.back t1) (Er.back t1)
 | false=>exact Lk (ib _ hb Q m₁ h₁ s₁ ρ₁ R₁) (jF.back t1) (Er.back t1)
theorem GG (G:GOk C)(cx:aq C c F n)(fo:mZ F){t:List Nat}{many:Bool}{k:IK}{src:List ME}{body:List MSt}(ib:SSs C X n c F body):SS C X n c F (.for_ t many k src body):=by
 intro st hc Q m h;refine e02 (al hc) λhv hc=>?_;refine e02 (al hc) λhc hb=>?_;refine e02 (al hc) λhc hi=>?_;refine e02 (al hc) λhc hx=>?_;refine e02 (al hc) λhc hm=>?_;refine e02 (al hc) λhc ht=>?_;refine e02 (al hc) λhnh hb2=>?_;rw [cw hv rfl,NM.mp hb2];intro s ρ R;refine e12 (ah hi) λxs hxs hi=>?_;refine wpAny_For (Lk (um G cx hnh (λa ha=>(sEs G src X c F cx a ha).1) hxs hi (kK ht) (λe=>by
  obtain rfl:=(Fy hm).resolve_left λq=>q e;refine e32 (iC ht) λa b d e _=>?_;exact ⟨a,b,d,e,trivial⟩) (P:=λitems g m=>dJ g (λv P m=>asg t many v (λm=>aA (Call C) n body P X m) m) Q items m) h R) (λxv s₁ h₁=>Lk h₁ (λitv s₂ h₂=>?_) λ_ _ x=>x) λ_ _ x=>x) (ml hx _)
 obtain ⟨ρ₂,m₂,items,g,S,It,st₂,R₂,wk,h0,as,hS,_,hf⟩:=h₂;refine GD cx fo R.hp.base wk hS (λx v ρ m s P R rv hst=>?_) st₂ R₂ h0 as hf;refine Lk (kf (E:=λ_ _=>False) cx ht rv R hst λ_=>cx.hn hnh) (λ_ s₁ ⟨m',st1,R₁,q⟩=>?_) λ_ _ x=>x.elim;exact Lk (ib _ hb P m' q s₁ ρ R₁) (jF.back st1) (Er.back st1)
theorem zC (G:GOk C)(cx:aq C c F n)(fo:mZ F)(ib:SSs C X n c F body):SS C X n c F (.while_ d body):=by
 intro st hc Q m h;refine e02 (al hc) λhv hc=>?_;refine e02 (al hc) λhc hb=>?_;refine e02 (al hc) λhb2 hd=>?_;rw [cw hv rfl,NM.mp hb2];refine e11 h λk h=>?_;intro s ρ R;refine wpAny_While (codeAny_whileLoop (WhI C F (ft (λP m=>wpE (Call C) n d (dK P) X m) (λP m=>aA (Call C) n body P X m) Q) ρ s) (λk s₁ hI=>?_) k ⟨ρ,m,.refl _ _ _,R,h⟩);obtain ⟨ρ₁,m₁,st₁,R₁,hw⟩:=hI
 cases k with
 | zero=>rw [qr] at hw;exact hw.elim
 | succ k=>
  rw [kH] at hw;refine Lk (zo G cx d _ hd _ m₁ hw s₁ ρ₁ R₁) (λt s₂ ⟨ρ₂,m₂,st₂,R₂,h₂⟩=>?_) λe s' x=>lJ cx.fm fo R.hp.base (Er.back st₁ e s' x)
  cases t with
  | true=>
   rw [if_pos rfl];refine Lk (ib _ hb _ m₂ h₂ s₂ ρ₂ R₂) (λf s₃ ⟨ρ₃,m₃,fl,st₃,R₃,hfl,h₃⟩=>?_) λe s' x=>lJ cx.fm fo R.hp.base (Er.back (st₁.trans st₂) e s' x);have stt:=(st₁.trans st₂).trans st₃
   cases fl with
   | next=>obtain rfl:=hfl.inv;exact ⟨k,MF k,ρ₃,m₃,stt,R₃,h₃⟩
     | ret r=>obtain ⟨v,rfl,rv⟩:=hfl.inv;exact ⟨ρ₃,m₃,.ret _,stt,R₃,.ret rv,h₃⟩
  | false=>
   rw [if_neg (by decide)];exact Qh ⟨ρ₂,m₂,.next,st₁.trans st₂,R₂,.next,h₂⟩
theorem zD (h:uU e=eQ):e=.cst .none:=by
 cases e with
 | cst v=>cases v<;>first | rfl | exact ff h
 | _=>exact ff h
theorem GH (G:GOk C)(cx:aq C c F n):SS C X n c F (.ret e):=by
 intro st hc Q m h;obtain ⟨hv,hc⟩:=al hc;rw [cw hv rfl];clear hv;intro s ρ R
 cases ho:(aE st).o1 with
 | some x=>
  rw [ho] at hc;exact wpAny_Return_some ((gf G cx e _ hc _ m h).go R (.refl _ _ _) λρ₁ s₁ m₁ y w st t1 R₁ rx h₁=>⟨_,_,_,t1,R₁,.ret rx,h₁⟩)
 | none=>
  rw [ho] at hc;obtain rfl:=zD hc;exact wpAny_Return_none ⟨ρ,m,.ret .none,.refl _ _ _,R,.ret .none,h⟩
theorem CB:SSs C X n c F []:=by
 intro es hc Q m h
 cases es with
 | nil=>intro s ρ R;exact Qh ⟨_,_,_,.refl _ _ _,R,.next,h⟩
 | cons=>exact ff hc
theorem zE (ix:SS C X n c F x)(iss:SSs C X n c F ss):SSs C X n c F (x::ss):=by
 intro es hc Q m h
 cases es with
 | nil=>exact ff hc
 | cons e es=>
  replace hc:=al hc;intro s ρ R;refine wpAny_execs_cons (Lk (ix e hc.1 _ m h s ρ R) (λf s₁ ⟨ρ₁,m₁,fl,st,R₁,hfl,h₁⟩=>?_) λ_ _ x=>x)
  cases fl with
  | next=>obtain rfl:=hfl.inv;exact Lk (iss es hc.2 Q m₁ h₁ s₁ ρ₁ R₁) (jF.back st) (Er.back st)
  | ret r=>obtain ⟨v,rfl,rv⟩:=hfl.inv;exact ⟨_,_,_,st,R₁,.ret rv,h₁⟩
end
theorem gh:∀(es:List (List Nat × MV)) (x:List Nat) (v:MV) (k:List Nat),cK (lY es x v) k=if k=x then aT v else cK es k
 | [],x,v,k=>by
  show (match x==k with | true=>aT v | false=>iD)=_;by_cases e:k=x
  ·subst e;rw [beq_self_eq_true,if_pos rfl]
  ·rw [if_neg e,beq_eq_false_iff_ne.mpr (Ol e)];rfl
 | (y,w)::r,x,v,k=>by
  have ih:=gh r x v k;by_cases e:y=x
  ·subst e;show cK (match y==y with | true=>(y,v)::r | false=>(y,w)::lY r y v) k=_;rw [beq_self_eq_true];show (match y==k with | true=>aT v | false=>cK r k)=if k=y then aT v else (match y==k with | true=>aT w | false=>cK r k)
   by_cases e2:k=y
   ·subst e2;rw [beq_self_eq_true,if_pos rfl]
   ·rw [if_neg e2,beq_eq_false_iff_ne.mpr (Ol e2)]
  ·show cK (match y==x with | true=>(y,v)::r | false=>(y,w)::lY r x v) k=_;rw [beq_eq_false_iff_ne.mpr e];show (match y==k with | true=>aT w | false=>cK (lY r x v) k)=if k=x then aT v else (match y==k with | true=>aT w | false=>cK r k)
   by_cases e2:y=k
   ·subst e2;rw [beq_self_eq_true,if_neg e]
   ·rw [beq_eq_false_iff_ne.mpr e2];exact ih
theorem re:∀{es:List (List Nat × MV)}{k:List Nat},cK es k≠iD->k∈es.map (·.1)
 | [],_,h=>absurd rfl h
 | (y,w)::r,k,h=>by
  by_cases e:y=k
  ·subst e;exact IS ..
  ·refine Lm _ (re λq=>h ?_);show (match y==k with | true=>aT w | false=>cK r k)=iD;rw [beq_eq_false_iff_ne.mpr e];exact q
section
theorem zF (G:GOk C)(cx:aq C c F n)(R:Rel C F ρ m s)(hx:Rep C ρ s.heap (.inst k i) v)(hu:Rep C ρ s.heap u uv)(hi:m.heap[i]?=aT (.attrs es))(hl:es.length<1000)(hy:y=str x)(hno:dz.contains y=eQ)(ha:c.at_ k y=eQ)
  (h:∀s',ao F.W ρ s ρ s'->Rel C F ρ (m.put i (.attrs (lY es x u))) s'->P () s'):IF (mod C) A (setAttr v y uv) P E s:=by
 obtain ⟨a,K,N,da,mA,rfl,hc,hN,hao,hρ,hns,I,had,haK,h1,h2⟩:=mS G R hx hi;refine e03 (G.quiet _ _ hc) λq1 q2 q3=>?_;obtain ⟨nm,q,bs,sn,sub,col,dd,k0,k1,k2,k3,k5,e⟩:=mR hN;obtain ⟨hp,gg,dr,t,os⟩:=s;subst hy;refine store_attr (ns:=es.map λp=>str p.1) PySem.F.store_object e hN.ns q1 (cx.attr _ _ ha) (qV hno) haK I (λh' tk' I' hk hx'=>?_) (λz hz=>?_) (by rw [tO,Q9];exact n1 hl (by simp +arith only))
 ·refine e15 (hx' _ hao) λo₁ e1 e2 e3 e4 e5=>?_;have e6:=e5 da rfl;refine e14 I' λo₂ g1 g2 g3 g4=>?_;obtain rfl:=same e1 g1;have hns':h'.Ns1 da (λy=>if y=str x then aT uv else mA y):=by
   rcases g4 with ⟨g4,_⟩ | ⟨d',g4,_,g5⟩
   ·exact aK g4 e6
   ·obtain rfl:=same e6 g4;exact g5
  have ho:o₁=kI K da:=by
   obtain ⟨c1,d1,t1,s1⟩:=o₁;simp only at e2 e3 e4 e6;subst e2;subst e3;subst e4;subst e6;rfl
  subst ho;have hkk:∀b ob,b≠da->hp.get? b=aT ob->h'.get? b=aT ob:=λb ob hb eb=>by
   by_cases hba:b=a
   ·subst hba;obtain rfl:=same hao eb;exact e1
   ·exact hk b ob hba (λo₀ dx q1 q2=>by obtain rfl:=same hao q1;obtain rfl:=BY q2;exact hb) eb
  have hsol:aR hp h':=dv hkk (cV (R.hp.objs _ _ _ hi hρ));obtain ⟨R',st⟩:=R.put (s':=⟨h',gg,dr,tk',os⟩) cx.fm hρ hi (o:=.attrs (lY es x u)) hkk rfl rfl
   (show x7 _ _ _ _ _ from ⟨_,hns',λz w e=>by
    rw [gh] at e;by_cases ez:z=x
    ·subst ez;obtain rfl:=BY ((if_pos rfl).symm.trans e);exact ⟨uv,if_pos rfl,hu.up hsol (Lq _)⟩
    ·rw [if_neg ez] at e;refine e12 (h1 z w e) λw' hw rw'=>?_;exact ⟨w',by rw [if_neg λq=>ez (o6 q)];exact hw,rw'.up hsol (Lq _)⟩,λz e=>by
    rw [gh] at e;by_cases ez:z=x
    ·subst ez;exact oW ((if_pos rfl).symm.trans e)
    ·rw [if_neg ez] at e;rw [if_neg λq=>ez (o6 q)];exact h2 z e,iF (q9 es x u) hl⟩)
  exact h _ st R'
 ·have ez:z=str z.cps.toList:=by obtain ⟨⟨l⟩⟩:=z;rfl
  rw [ez];refine Mi.mpr ?_;have hk:z.cps.toList∈es.map (·.1):=re λq=>hz (by rw [ez];exact h2 _ q);refine e12 (Mi.mp hk) λp hp e=>?_;exact ⟨p,hp,congrArg str e⟩
theorem tu (G:GOk C)(cx:aq C c F n):SS C X n c F (.setAttr k o x e):=by
 intro st hc Q m h;refine e02 (al hc) λhv hc=>?_;refine e12 (ah hc) λtg h1 hc=>?_;rw [cw hv rfl,bX h1];clear hv h1;generalize (aE st).e2=v at *;generalize (aE st).p=pos at *;refine e02 (al hc) λhc ho=>?_;refine e02 (al hc) λhc he=>?_;refine e02 (al hc) λhox hcomp=>?_;obtain ⟨⟨ov,name,p⟩,hx,ho⟩:=ah ho;obtain rfl:=mj hx;obtain ⟨hc,ho⟩:=al ho;refine e02 (al hc) λhc hat=>?_;refine e02 (al hc) λhn hno=>?_;intro s ρ R;refine plainObj_wpAny_Assign_Attribute ((gf G cx e v he _ m h).go R (.refl _ _ _) λρ₁ s₁ m₁ u uv st t1 R₁ ru h₁=>?_) (fC (mz hcomp) hox _ _ _);refine (gf G cx o ov ho _ m₁ h₁).go R₁ t1 λρ₂ s₂ m₂ y yv st2 t2 R₂ ry h₂=>?_;obtain ⟨i,rfl,h3⟩:=qu h₂;refine e13 (qt h3) λes hi hl hq=>?_;exact zF G cx R₂ ry (ru.step st2) hi hl (s7 hn) hno hat λs' st3 R'=>⟨_,_,.next,t2.trans st3,R',.next,hq⟩
end
theorem Ja {b:Bool}(h:(!xO||b)=eQ):b=eQ:=h
section
variable {C:Glo}{F:Fm}{X:XM}{c:Cx}{n:Nat}{ρ:List Lr}{m:MS}{s:Do}{A:MP}{E:rW->Do->Prop}
theorem xf {k:Const}(h:zw k=eQ):∃x,k=.str x:=by
 cases k<;>first | exact ⟨_,rfl⟩ | exact ff h
theorem zG (G:GOk C)(cx:aq C c F n){k:Nat}:SS C X n c F (.raise k):=by
 intro st hc Q m h;replace hc:=Ja hc;replace h:=h.2;obtain ⟨hv,hc⟩:=al hc;obtain ⟨hc,hc2⟩:=al hc;obtain ⟨hno,hnh⟩:=al hc;obtain ⟨tg,htg,hc2⟩:=ah hc2;rw [cw hv rfl,htg,MZ.mp hno];clear hv htg hno;generalize (aE st).p=pos at *;obtain ⟨⟨x,ys,lW⟩,hx,hc3⟩:=ah hc2;obtain ⟨px,rfl⟩:=gN hx;obtain ⟨hc4,hy⟩:=al hc3;obtain ⟨hg,hxn⟩:=al hc4;obtain ⟨y,h1,hy2⟩:=ah hy;obtain rfl:=bX h1;obtain ⟨kk,h2,hy2⟩:=ah hy2;obtain ⟨j,yp,rfl⟩:=im h2;obtain ⟨tx,rfl⟩:=xf hy2;intro s ρ R;obtain ⟨mg,mb,g1,g2,_,_,_,_,g3⟩:=cx.glob;obtain ⟨K,hK,_⟩:=g3 k x (eq_of_beq hxn);obtain ⟨_,_,bm,hcl,_⟩:=G.x.exc k K hK;have hcl':∀{h:LA},C.base.StaysIn h->XCl h K bm:=λhs=>hcl.keeps λb o e=>hs b o e;obtain ⟨N,nm,q,bs,hdct,sn,sub,ab,col,dd,k0,k1,k2,k3,k5,mN,hC,hN,hni⟩:=hcl.1;refine wpAny_Raise_call_subU (C:=K) (nm:=nm) (q:=q) (N:=N) (bs:=bs) (bm:=bm) (hdct:=hdct) (sn:=sn) (sub:=sub) (ab:=ab) (col:=col) (dd:=dd) (k0:=k0) (k1:=k1) (k2:=k2) (k3:=k3) (k5:=k5) (bmB:=eX) (mN:=mN) PySem.F.excBase_ValueError (by decide +kernel) PySem.F.excBase_ValueError
  (hcl.tail.hasType (X:="BaseException") (b:=true) (by decide +kernel)) (cx.hn hnh) rfl (hni _ (.head _)) ?_
 refine my cx R (eq_of_beq hxn) (az hg).1 (az hg).2 λK' hK'=>?_;obtain rfl:=same hK hK';refine ⟨rfl,NW (O0 (wpAny_Constant_str (k:=j) (pos:=yp) (PS ?_)))⟩;obtain ⟨R₁,st₁⟩:=R.tok cx.fm (s.toks+1);refine ⟨rfl,(by rw [Q9];exact (by decide:1<=16777216)),R₁.hp.base _ _ hC,hN.keeps λb o e=>R₁.hp.base b o e,(hcl' R₁.hp.base).tail,λh' e hm=>?_⟩;obtain ⟨R₂,st₂⟩:=R₁.grow (s':={ s with heap:=h',toks:=s.toks+1 }) cx.fm hm.keeps rfl rfl;obtain ⟨tt,ht,_⟩:=hm.there;refine ⟨ρ,m,k,e,K,st₁.trans st₂,R₂,rfl,hK,.new hm.new (λq=>?_) _ _ ht rfl rfl rfl,h⟩;obtain ⟨o,ho⟩:=R.hp.there q;exact aK hm.new ho
end
section
variable {prog:M6}{w:Ni}{A:MP}{E:rW->Do->Prop}{s:Do}{env:RF}
theorem xg {M:Qi}{h:LA}{g:Array GenState}{d:Drawn}{t:Nat}{os:OsState}{e K D:Lr}{oe:OQ}{bm bmD:List rW}{Q:Bool->Do->Prop}(x:XCl h K bm)(y:XCl h D bmD)(he:h.get? e=aT oe)(hcls:oe.cls=.ref K)
  (hb:(Ml K::bm).contains (.ref D)=eQ) (hq:Q eQ ⟨h,g,d,t,os⟩):IF M A (excMatches (.ref e) (.ref D)) Q E ⟨h,g,d,t,os⟩:=by
 obtain ⟨N,nm,q,bs,hdct,sn,sub,ab,col,dd,k0,k1,k2,k3,k5,mN,hC,hN,_⟩:=x.1;obtain ⟨N',nm',q',bs',hdct',sn',sub',ab',col',dd',l0,l1,l2,l3,l5,mN',hD,hN',r'⟩:=y.1;have hcB:(Ml D::bmD).contains (.type "BaseException")=eQ:=y.has "BaseException" (by decide +kernel);have f:=tc_notTuple;unfold excMatches
 repeat (first | (with_reducible refine L8 he ?_;rw [hcls]) | with_reducible refine L8 hD ?_ | (with_reducible refine Nj hD ?_;rw [hcB]) | (with_reducible refine Nj hC ?_;rw [hb]) | wp_step)
 exact hq
theorem xh {M:Qi}{n:Str}{pos:Pos}{m:Str->Option rW}{Q:Unit->Do->Prop}(hl:env.kindOf n=aT .local)(hn:s.heap.Ns env.locals m)
  (hp:(env.scope.kind==.class||(env.scope.kind==.module&&env.locals != env.globals))=bY)
  (h:∀h' v,h'.Ns env.locals (λx=>if x=n then v else m x)->L6 env.locals s.heap h'->Q () { s with heap:=h',toks:=s.toks+1 }) :
  IF M A (do bindName env n .none;unbindBehindTheSuite env n pos) Q E s:=by
 refine iS (wpAny_bindName (wpAny_storeName_local hl hn (λh₁ hn₁ hs₁=>?_) hp));unfold unbindBehindTheSuite;refine wpAny_onRaise ?_;unfold unbindName;refine iS (wpAny_point (iS ?_));unfold deleteName;simp only [hl,hp];rw [if_neg (by decide)];refine iS (wpAny_nsDel_keeps hn₁ λh₂ v hn₂ hs₂=>?_);simp only [if_true,Option.isSome_some,Bool.not_true,Qr,if_false];refine EQ (wpAny_point (h h₂ v ?_ (hs₁.trans hs₂)));have:(λx=>if x=n then v else m x)=λx=>if x=n then v else if x=n then aT M5 else m x:=by
  funext x;by_cases e:x=n<;>simp [e]
 rw [this];exact hn₂
end
section
variable {C:Glo}{F:Fm}{X:XM}{c:Cx}{n:Nat}{ρ ρ₀:List Lr}{m:MS}{s s₀:Do}{A:MP}{E:rW->Do->Prop}
theorem MS.get_unset (m:MS)(i j:Nat)(w:MV)(h:(m.unset i).get j=aT w):j≠i/\m.get j=aT w:=by
 have h:(m.vars.set i iD)[j]?=aT (aT w):=MS.get_at h;by_cases e:i=j
 ·subst e;have hlt:i<m.vars.length:=by
   have:=(By.mp h).1;rw [Pu] at this;exact this
  rw [OS hlt] at h;exact av (BY h)
 ·rw [Ov e] at h;exact ⟨λq=>e q.symm,MS.get_of h⟩
theorem Rel.unsetName (x:Rel C F ρ m s){s':Do}(ok:aJ F){i:Nat}{n:Str}(hi:F.lay i=aT (.nm F.env.locals n)){f:Str->Option rW}{v:Option rW}(hf:s.heap.Ns F.env.locals f)
  (hn:s'.heap.Ns F.env.locals (λy=>if y=n then v else f y)) (hsb:L6 F.env.locals s.heap s'.heap) (hg:s'.gens=s.gens) (hos:s'.os=s.os):Rel C F ρ (m.unset i) s'/\ao F.W ρ s ρ s':=by
 refine x.own ok ok.loc hsb hg hos rfl ?_ (λ_ _ _=>?_) ⟨_,hn⟩ (λv hc=>?_) λhs j u e=>?_
 ·obtain ⟨o,es,ep,ho,hd⟩:=mc hn;exact ⟨o,ho,.inl ⟨es,ep,hd⟩⟩
 ·obtain ⟨o,es,ep,ho,hd⟩:=mc hn;exact ⟨o,ho,es,ep,hd⟩
 ·exact dt hf hc
 ·obtain ⟨hj,e⟩:=MS.get_unset _ _ _ _ e;obtain ⟨l,h1,h2⟩:=x.vars j u e;refine ⟨l,h1,?_⟩
  cases l with
  | nm L y=>
   obtain ⟨g,w,k1,k2,k3⟩:=h2;by_cases q:L=F.env.locals
   ·subst q;obtain rfl:=il k1 hf;have hy:y≠n:=λq=>by subst q;exact hj (ok.inj j i _ h1 hi)
    exact ⟨_,w,hn,by rw [if_neg hy];exact k2,k3.up hs (Lq _)⟩
   ·exact ⟨g,w,ju k1 λo e=>⟨o,(hsb.2 L q).trans e,rfl⟩,k2,k3.up hs (Lq _)⟩
  | cl a=>
   obtain ⟨w,k1,k2⟩:=h2;refine ⟨w,j7 k1 λo e=>⟨o,(hsb.2 a λq=>?_).trans e,rfl⟩,k2.up hs (Lq _)⟩;subst q;exact dt hf k1
theorem Rel.adopt (R:Rel C F ρ m s)(st:ao F.W ρ₀ s₀ ρ s)(hb:C.base.StaysIn s₀.heap){a:Lr}{o:OQ}{vs:Array rW}(ha:s₀.heap.get? a=iD/\a∉ρ)(ho:s.heap.get? a=aT o)(hd:o.data=.fields vs){mo:MO}(hr:kZ C (ρ++[a]) s.heap mo a) :
  Rel C F (ρ++[a]) (m.push mo) s/\ao F.W ρ₀ s₀ (ρ++[a]) s:=by
 have hba:C.base.get? a=iD:=by
  cases e:C.base.get? a with
  | none=>rfl
  | some o=>exact aK ha.1 (hb a o e)
 have hne:∀b ob,s.heap.get? b=aT ob->(∀vs,ob.data≠.fields vs)->b∉ρ->b∉ρ++[a]:=λb ob e h1 h2 h3=>by
  rcases Lg.mp h3 with q | q
  ·exact h2 q
  ·have:b=a:=by exact oF.mp q
   subst this;obtain rfl:=same ho e;exact h1 _ hd
 refine ⟨⟨R.hp.alloc (λ_ _ e _=>e) (λ_ _ _ e=>e) R.hp.base ha.2 hba hr,R.ns,λb hb=>?_,λi v e=>?_,R.cells,λL hL=>?_,R.gens⟩,st.pre.trans (Mx _ _),λb hb=>?_,st.keep,st.solid,st.alive,st.gens,st.os⟩
 ·obtain ⟨h1,h2,ob,h3,h4⟩:=R.w b hb;refine ⟨hne b ob h3 (λvs q=>?_) h1,h2,ob,h3,h4⟩
  rcases h4 with ⟨es,k,d⟩ | ⟨v,d⟩<;>exact nomatch d.symm.trans q
 ·obtain ⟨l,h1,h2⟩:=R.vars i v e;exact ⟨l,h1,h2.up (λ_ _ e _=>e) (Mx _ _) λo e=>⟨o,e,rfl,rfl⟩⟩
 ·obtain ⟨h1,h2,ob,h3,es,k,h4⟩:=R.out L hL;exact ⟨hne L ob h3 (λvs q=>nomatch h4.symm.trans q) h1,h2,ob,h3,es,k,h4⟩
 ·rcases Lg.mp hb with q | q
  ·exact st.new b q
  ·have:b=a:=by exact oF.mp q
   subst this;exact .inr ha.1
noncomputable abbrev pH (F:Fm) (e:rW):Fm:={ F with A:=F.A.mark (aT e) }
theorem xi (cx:aq C c F n)(e:rW):aq C (inH c) (pH F e) n where
 fm:=⟨cx.fm.loc,cx.fm.lay,cx.fm.inj,cx.fm.kind,cx.fm.frs⟩
 kind:=cx.kind
 nm:=cx.nm
 glob:=cx.glob
 meth:=cx.meth
 attr:=cx.attr
 hn:=λh=>ff h
 hf:=cx.hf
 units:=cx.units
 room:=cx.room
 inter:=cx.inter
 wr:=cx.wr
 fr:=cx.fr
theorem tv {e:rW}:Rel C F ρ m s->Rel C (pH F e) ρ m s:=λ⟨a,b,c,d,e,f,g⟩=>⟨a,b,c,d,e,f,g⟩
theorem tw {e:rW}:Rel C (pH F e) ρ m s->Rel C F ρ m s:=λ⟨a,b,c,d,e,f,g⟩=>⟨a,b,c,d,e,f,g⟩
inductive KM (c:Cx)(k v:Nat)(body h:List MSt)(st:Q0):Prop
 | mk (x nm:Str) (px pos hpos:Pos) (b1 b2:List Q0) (b₀:Q0) (e:st=.Try b1 [.ExceptHandler (aT (.Name x px)) (aT nm) (b₀::b2) hpos] [] [] pos) (hk:k=0) (hnm:c.nm v=aT nm) (hkd:c.kind nm=aT .local) (hg:cP c x=eQ) (hxn:c.xn 0=aT x) (hcb:gF c body b1=eQ) (hch:gF (inH c) h (b₀::b2)=eQ)
theorem CC {body h:List MSt}{k v:Nat}{st:Q0}(hc:GC c (.try_ body k v h) st=eQ):KM c k v body h st:=by
 refine e02 (al (Ja hc)) λhv hc=>?_;refine e02 (al hc) λhc2 hc=>?_;refine e02 (al hc2) λe2 e3=>?_;refine e12 (ah hc) λhh e4 hc=>?_;refine e12 (ah hc) λtg e5 hc=>?_;refine e12 (ah hc) λnm e6 hc=>?_;refine e02 (al hc) λhc hch=>?_;refine e02 (al hc) λhc hcb=>?_;refine e02 (al hc) λhc hty=>?_;refine e02 (al hc) λhc hne=>?_;refine e02 (al hc) λhc hkd=>?_;refine e02 (al hc) λhk hnm=>?_;have hk:=eq_of_beq hk;refine e12 (ah hty) λx hx hty=>?_;refine e11 (bZ hx) λpx ex=>?_;refine e02 (al hty) λhg hxn=>?_
 cases q:(exh hh).2.2.1 with
 | nil=>rw [q] at hne;exact ff hne
 | cons b₀ b2=>
  rw [q] at hch;refine ⟨x,nm,px,(aE st).p,(exh hh).2.2.2,(aE st).b1,b2,b₀,?_,hk,eq_of_beq hnm,eq_of_beq hkd,hg,hk▸eq_of_beq hxn,hcb,hch⟩;exact (cw hv rfl).trans (by rw [NM.mp e2,NM.mp e3,bX e4,<-ex,<-e5,<-e6,<-q,<-GB hh])
theorem GI (G:GOk C)(cx:aq C c F n)(fo:mZ F){body h:List MSt}{k v:Nat}(ib:∀X',SSs C X' n c F body)(ih:∀F',aq C (inH c) F' n->mZ F'->SSs C noX n (inH c) F' h):SS C X n c F (.try_ body k v h):=by
 intro st hc Q m hw;replace hw:=hw.2;obtain ⟨x,nm,px,pos,hpos,b1,b2,b₀,rfl,rfl,hnm,hkd,hg,hxn,hcb,hch⟩:=CC hc;have hlay:F.lay v=aT (.nm F.env.locals nm):=by
  rcases cx.nm v nm hnm with ⟨_,q⟩ | ⟨_,q,_⟩
  ·exact q
  ·rw [cx.kind nm,hkd] at q
   rcases q with q | ⟨q,_⟩<;>exact absurd q (by decide)
 intro s ρ R;have hbs:=R.hp.base;refine wpAny_Try_except (Lk (ib _ _ hcb _ m hw s ρ R) (λf s₁ ⟨ρ₁,m₁,fl,st₁,R₁,hfl,h₁⟩=>?_) λe s₁ he=>?_)
 ·cases fl with
  | next=>obtain rfl:=hfl.inv;exact Qh ⟨_,_,.next,st₁,R₁,.next,h₁⟩
  | ret r=>obtain ⟨v,rfl,rv⟩:=hfl.inv;exact ⟨_,_,.ret _,st₁,R₁,.ret rv,h₁⟩
 ·refine pF cx.fm fo rfl hbs he λs₂ h₂=>iH cx.fm hbs h₂ λs₃ h₃=>?_;have h3:=h₃;obtain ⟨ρ₃,m₃,kk,a,K,st₃,R₃,rfl,hK,hF,hX⟩:=h3;refine wpAny_handleBy_cons (codeAny_handlers_test (my cx R₃ hxn (az hg).1 (az hg).2 λK0 hK0=>?_)) (by intro q;cases q);obtain ⟨bm,hxc,hhas⟩:=ux G hK hK0;obtain ⟨_,_,bm0,hy0,_⟩:=G.x.exc _ _ hK0;have hkeep:∀b o,C.base.get? b=aT o->s₃.heap.get? b=aT o:=λb o e=>R₃.hp.base b o e;obtain ⟨_,_,oe,vs,g1,g2,g3,_⟩:=hF;have hmt:∀{Q:Bool->Do->Prop} {E:rW->Do->Prop} {A:MP},Q eQ s₃->IF (mod C) A (excMatches (.ref a) (.ref K0)) Q E s₃:=λ{Q E A} hq=>by
   obtain ⟨hp,gg,dr,t,os⟩:=s₃;exact xg (hxc.keeps hkeep) (hy0.keeps hkeep) g1 g2 (by rw [hhas];simp) hq
  refine hmt ?_;refine codeAny_handlers_suite_as ?_;refine iH (X:=λc m=>aA (Call C) n h (λf m=>Q f (m.unset v)) noX ((m.push (.exc c)).set v (.ref m.heap.length))) cx.fm hbs h₃ λs₄ h₄=>?_;obtain ⟨ρ₄,m₄,k4,a4,K4,st₄,R₄,ea,hK4,⟨f1,f2,oe4,vs4,f3,f4,f5,_⟩,hX4⟩:=h₄
  cases ea
  obtain ⟨R₅,st₅⟩:=R₄.adopt st₄ hbs ⟨f1,f2⟩ f3 f5 (mo:=.exc k4) ⟨K4,oe4,vs4,hK4,f3,f4,f5⟩;have hrep:Rep C (ρ₄++[a]) s₄.heap (.ref m₄.heap.length) (.ref a):=.ref (by rw [<-R₄.hp.len,LU (nO _)];simp);have cx':=xi cx (.ref a);refine fE cx (A:=F.A.mark (aT (.ref a))) R₅ hnm (.inl hkd) hrep λs₆ st₆ R₆ _=>?_;have hsu:=ih (pH F (.ref a)) cx' ⟨fo.1,fo.2⟩ (b₀::b2) hch (λf m=>Q f (m.unset v)) _ hX4 s₆ _ (tv R₆);refine Lk hsu (λf s₇ ⟨ρ₇,m₇,fl,st₇,R₇,hfl,h₇⟩=>?_) λ_ _ x=>x.no;have R₇':=tw R₇;obtain ⟨ff,hff⟩:=R₇'.ns;refine xh (by rw [cx.kind];exact hkd) hff (by rw [cx.fm.kind];rfl) λh' vv hn' hsb=>?_;obtain ⟨R₈,st₈⟩:=R₇'.unsetName (s':={ s₇ with heap:=h',toks:=s₇.toks+1 }) cx.fm hlay hff hn' hsb rfl rfl;have hfl':FlR C ρ₇ h' fl f:=FlR.casesOn (motive:=λfl f _=>FlR C ρ₇ h' fl f) hfl .next (λr=>.ret (r.step st₈))
  exact ⟨ρ₇,_,fl,((st₅.trans st₆).trans st₇).trans st₈,R₈,hfl',h₇⟩
end
section
mutual
theorem GJ (G:GOk C):∀(me:MSt) (X:XM) (c:Cx) (F:Fm),aq C c F n->mZ F->SS C X n c F me
 | .asg t many e,X,c,F,cx,fo=>GE G cx
 | .setAttr k o x e,X,c,F,cx,fo=>tu G cx
 | .setIdx o i e,X,c,F,cx,fo=>xe G cx
 | .expr e,X,c,F,cx,fo=>CA G cx
 | .ite d a b,X,c,F,cx,fo=>GF G cx (fc G a X c F cx fo) (fc G b X c F cx fo)
 | .for_ t many k src body,X,c,F,cx,fo=>GG G cx fo (fc G body X c F cx fo)
 | .while_ d body,X,c,F,cx,fo=>zC G cx fo (fc G body X c F cx fo)
 | .ret e,X,c,F,cx,fo=>GH G cx
 | .raise k,X,c,F,cx,fo=>zG G cx
 | .try_ body k v h,X,c,F,cx,fo=>GI G cx fo (λX'=>fc G body X' c F cx fo) λF' cx' fo'=>fc G h noX _ F' cx' fo'
theorem fc (G:GOk C):∀(ss:List MSt) (X:XM) (c:Cx) (F:Fm),aq C c F n->mZ F->SSs C X n c F ss
 | [],X,c,F,cx,fo=>CB
 | x::ss,X,c,F,cx,fo=>zE (GJ G x X c F cx fo) (fc G ss X c F cx fo)
end
end
set_option genCtorIdx false in
structure Sg where
 fn:Nat->Option Str
 gl:Nat->Option (Str × MV)
 hf:Nat->Bool
 cn:Nat->Option Str
 xn:Nat->Option Str
 mt:Nat->Option (Nat × Str)
 at_:Nat->Str->Bool
noncomputable def CD (sc:Scope)(ns:List Str)(z:Sg)(nh:Bool):Cx:=⟨λx=>sc.names.lookup x,λi=>ns[i]?,z.fn,z.gl,λ_=>eQ,λi=>decide (ns.length<=i),nh,z.hf,z.cn,z.xn,z.mt,z.at_⟩
noncomputable def uV (C:Glo)(g b:Lr)(z:Sg):Prop:=yw C g b z.fn z.gl z.cn z.xn
structure KN (C:Glo)(z:Sg):Prop where
 meth:∀f k x,z.mt f=aT (k,x)->∃a,C.fa f=aT a/\C.cm k x=aT (.ref a)/\∃o,C.base.get? a=aT o/\o.cls=.type "function"
 attr:∀k x,z.at_ k x=eQ->C.cm k x=iD
 hf:z.hf=C.hf
noncomputable def pJ (sc:Scope)(ps ns:List Str):Bool:=
 ps.isPrefixOf ns&&decide ns.Nodup&&ns.all (λx=>sc.names.lookup x==aT .local||(sc.names.lookup x==aT .cell&&((cellsFrom 0 sc.names []).lookup x).isSome))
theorem rf {sc:Scope}{ps ns:List Str}(h:pJ sc ps ns=eQ):ps<+:ns/\ns.Nodup/\∀x∈ns,sc.names.lookup x=aT .local\/(sc.names.lookup x=aT .cell/\((cellsFrom 0 sc.names []).lookup x).isSome=eQ):=by
 obtain ⟨h,h3⟩:=al h;obtain ⟨h1,h2⟩:=al h;refine ⟨List.isPrefixOf_iff_prefix.mp h1,of_decide_eq_true h2,λx hx=>?_⟩
 rcases OF.mp (LN.mp h3 x hx) with q | q
 ·exact .inl (eq_of_beq q)
 ·exact .inr ⟨eq_of_beq (al q).1,(al q).2⟩
inductive Jb (C:Glo)(z:Sg)(nh:Bool)(d:Fn)(a:Lr):Prop
 | mk (o:OQ) (fd:FuncData) (body:List Q0) (ps ns:List Str) (ho:C.base.get? a=aT o) (hd:o.data=.func fd) (hcd:C.base.CodeRec fd.code fd.qualname) (hbody:fd.body=.stmts body) (hclo:fd.closure=[]) (hco:fd.scope.isCoroutine=bY) (hgen:fd.scope.isGenerator=bY)
   (hk:fd.scope.kind=.function) (hbind:∀vals:List rW,vals.length=ps.length->bindArgs fd ⟨vals,[]⟩=pure (ps.zip vals)) (hps:ps.length=d.args) (hns:pJ fd.scope ps ns=eQ) (hchk:gF (CD fd.scope ns z nh) d.body body=eQ) (hgl:uV C fd.globals fd.builtins z)
noncomputable def uW (C:Glo)(z:Sg)(P:Nat->Option Fn):Prop:=KN C z/\∀f d a,P f=aT d->C.fa f=aT a->Jb C z (!C.hf f) d a
theorem ec:∀(names:List (Str × NameKind)) (n k:Nat) (acc acc':List (Str × Lr)) (x:Str),(∀y,(acc.lookup y).isSome=(acc'.lookup y).isSome)->((cellsFrom n names acc).lookup x).isSome=((cellsFrom k names acc').lookup x).isSome
 | [],n,k,acc,acc',x,h=>h x
 | (y,kd)::r,n,k,acc,acc',x,h=>by
  unfold cellsFrom
  split
  ·refine ec r _ _ _ _ x λz=>?_;simp only [Ma]
   split
   ·rfl
   ·exact h z
  ·exact ec r _ _ _ _ x h
section
variable {C:Glo}{ρ:List Lr}{h:LA}
theorem CE {ps:List Str}{ws:List rW}(hl:ws.length=ps.length){i:Nat}{x:Str}{w:rW}(e1:ps[i]?=aT x)(e2:ws[i]?=aT w):(ps.zip ws)[i]?=aT (x,w):=by
 rw [Pm];exact ⟨e1,e2⟩
theorem kL (k:Str->Option NameKind):∀(l:List (Str × rW)) (m:Str->Option rW) (x:Str),(∀p∈l,p.1≠x)->bindL k l m x=m x
 | [],m,x,_=>rfl
 | (n,v)::r,m,x,h=>by
  unfold bindL;rw [kL k r _ x λp hp=>h p (Lm _ hp)];have:n≠x:=h _ (IS ..)
  split
  ·exact if_neg λq:x=n=>this q.symm
  ·rfl
theorem kM (k:Str->Option NameKind):∀(l:List (Str × rW)) (m:Str->Option rW) (x:Str),(∀p∈l,p.1≠x)->bindC k l m x=m x
 | [],m,x,_=>rfl
 | (n,v)::r,m,x,h=>by
  unfold bindC;rw [kM k r _ x λp hp=>h p (Lm _ hp)];have:n≠x:=h _ (IS ..)
  split
  ·rfl
  ·exact if_neg λq:x=n=>this q.symm
theorem xj (k:Str->Option NameKind)(l:List (Str × rW))(m:Str->Option rW)(x:Str)(w:rW)(hn:(l.map (·.1)).Nodup)(hm:(x,w)∈l)(hk:k x=aT .local):bindL k l m x=aT w:=by
 induction l generalizing m with
 | nil=>exact co hm
 | cons p r ih=>
  obtain ⟨h1,h2⟩:=Nn.mp hn;unfold bindL
  rcases Lu.mp hm with e | hm
  ·subst e;rw [kL k r _ _ λp hp q=>h1 (Mi.mpr ⟨p,hp,q⟩),if_pos hk];exact if_pos rfl
  ·exact ih _ h2 hm
theorem xk (k:Str->Option NameKind)(l:List (Str × rW))(m:Str->Option rW)(x:Str)(w:rW)(hn:(l.map (·.1)).Nodup)(hm:(x,w)∈l)(hk:k x≠aT .local):bindC k l m x=aT w:=by
 induction l generalizing m with
 | nil=>exact co hm
 | cons p r ih=>
  obtain ⟨n,v⟩:=p;simp only [QM,Nn] at hn;unfold bindC
  rcases Lu.mp hm with e | hm
  ·cases e
   rw [kM k r _ _ λp hp q=>hn.1 (Mi.mpr ⟨p,hp,q⟩),if_neg hk];simp
  ·exact ih _ hn.2 hm
theorem xm {d:Fn}{vs:List MV}{hp:List MO}{i:Nat}{v:MV}(e:(js d vs hp).get i=aT v):vs[i]?=aT v:=by
 have hw:(vs.map aT++L4 _ iD)[i]?=aT (aT v):=MS.get_at e
 rcases OU i (vs.map aT).length with hi | hi
 ·rw [Ms hi,LG] at hw;obtain ⟨u,h1,h2⟩:=LF.mp hw;exact h1.trans h2
 ·rw [LU hi] at hw;exact av (List.eq_of_mem_replicate (Lo hw)).symm
noncomputable def kg (A:MP)(env:RF)(ns:List Str)(frs:List Lr):Fm where
 env:=env
 A:=A.deeper env
 W:=env.locals::ns.filterMap (λx=>if env.kindOf x=aT .local then iD else env.cells.lookup x)
 V:=[]
 lay:=λi=>match ns[i]? with
  | some x=>if env.kindOf x=aT .local then aT (.nm env.locals x) else match env.cells.lookup x with
   | some c=>aT (.cl c)
   | none=>iD
  | none=>iD
 frs:=env.locals::frs
theorem CF {A:MP}{env:RF}{ns:List Str}{frs:List Lr}{i:Nat}{l:Loc}(e:(kg A env ns frs).lay i=aT l):∃x,ns[i]?=aT x/\((env.kindOf x=aT .local/\l=.nm env.locals x)\/(env.kindOf x≠aT .local/\∃c,env.cells.lookup x=aT c/\l=.cl c)):=by
 replace e:(match ns[i]? with
  | some x=>if env.kindOf x=aT .local then aT (.nm env.locals x) else match env.cells.lookup x with
   | some c=>aT (.cl c)
   | none=>iD
  | none=>iD)=aT l:=e
 cases hx:ns[i]? with
 | none=>rw [hx] at e;exact av e
 | some x=>
  rw [hx] at e;refine ⟨x,rfl,?_⟩;by_cases q:env.kindOf x=aT .local
  ·exact .inl ⟨q,(BY ((if_pos q).symm.trans e)).symm⟩
  ·replace e:=(if_neg q).symm.trans e
   cases hc:env.cells.lookup x with
   | none=>rw [hc] at e;exact av e
   | some c=>rw [hc] at e;exact .inr ⟨q,c,rfl,(BY e).symm⟩
inductive GK (C:Glo)(Q:MV->List MO->Prop)(ρ:List Lr)(s:Do)(v:rW)(s':Do):Prop
 | mk (ρ':List Lr) (hp':List MO) (x:MV) (st:ao [] ρ s ρ' s') (H:Hp C ρ' hp' s'.heap) (rx:Rep C ρ' s'.heap x v) (hq:Q x hp'):GK C Q ρ s v s'
theorem oE (G:GOk C){z:Sg}{P:Nat->Option Fn}(H:uW C z P){n f:Nat}{vs:List MV}{Q:MV->List MO->Prop}{X:XT}{hp:List MO}{d:Fn}(hP:P f=aT d)(hlen:vs.length=d.args)
  (hw:aA (Call C) n d.body (fin Q) (xin X) (js d vs hp)) {A:MP}{s:Do}{ws:List rW}{a:Lr}(hA:A.handled=iD\/C.hf f=eQ) (hH:Hp C ρ hp s.heap) (hgens:s.gens=#[]) (rl:au C ρ s.heap vs ws)
  {frs:List Lr}(hfrs:∃es,A.frames=aT es/\∀e∈es,e.scope.kind≠.module/\∃L∈frs,e.frame=aT L) (hout:∀L∈frs,Ip C ρ s.heap L)
  (hroom:A.depth+(n+1)<=999) (hunits:A.units<=3 * A.depth+4) (hfa:C.fa f=aT a) :
  IF (mod C) A (call (.ref a) ws) (GK C Q ρ s) (ErC C X ρ s) s:=by
 obtain ⟨o,fd,body,ps,ns,ho,hd,hcd,hbody,hclo,hco,hgen,hk,hbind,hps,hns,hchk,hgl⟩:=H.2 f d a hP hfa;obtain ⟨hpre,hnd,hall⟩:=rf hns;have hwl:ws.length=ps.length:=by rw [rl.length,hlen,hps]
 have hmem:∀x∈ps,x∈ns:=λx hx=>hpre.subset hx;have hcellS:∀k x,((cellsFrom k fd.scope.names []).lookup x).isSome=((cellsFrom 0 fd.scope.names []).lookup x).isSome:=λk x=>ec _ _ _ _ _ _ λ_=>rfl;have hzip:∀p∈ps.zip ws,p.1∈ps:=λp hp=>(Q4 (a:=p.1) (b:=p.2) hp).1;have hzn:((ps.zip ws).map (·.1)).Nodup:=by
  rw [List.map_fst_zip (n1 (Lw hwl.symm) (by simp +arith only))];exact hnd.sublist hpre.sublist
 refine wpAny_call (codeAny_call_cells (by show _<1000;exact n1 hroom (by simp +arith only)) (hH.base _ _ ho) hd (G.nolimit.keeps hH.base) (hcd.keeps hH.base) hbody (hbind ws hwl) hclo (λx hx=>?_) (λs₁ ic=>?_) hco hgen hk)
 ·rcases hall _ (hmem _ (hzip x hx)) with q | ⟨q,q'⟩
  ·exact .inl q
  ·exact .inr ⟨q,by rw [hcellS];exact q'⟩
 ·generalize henv:callEnvC fd s.heap.objs.size a=env at ic ⊢;have eL:env.locals=s.heap.objs.size:=by rw [<-henv];rfl
  have eK:∀x,env.kindOf x=fd.scope.names.lookup x:=λx=>by rw [<-henv];rfl
  have eC:env.cells=cellsFrom (s.heap.objs.size+1) fd.scope.names []:=by rw [<-henv];rfl
  have eS:env.scope=fd.scope:=by rw [<-henv];rfl
  have eF:env.frame=aT env.locals:=by rw [<-henv];rfl
  have eG:env.globals=fd.globals/\env.builtins=fd.builtins:=by rw [<-henv];exact ⟨rfl,rfl⟩
  obtain ⟨⟨⟨h₁,tk,hs₁⟩,hns1,hkeep,hfresh⟩,hcell,hapart,habove⟩:=ic;have fL:s.heap.get? env.locals=iD:=bC hfresh;have hcl:∀x c,env.cells.lookup x=aT c->s₁.heap.IsCell c (bindC env.kindOf (ps.zip ws) (λ_=>iD) x)/\s.heap.get? c=iD:=λx c e=>by
   refine ⟨hcell x c e,bC ?_⟩;have:=habove x c (mem_of_lookup e);exact LM (IT hfresh this)
  have hg1:s₁.gens=s.gens/\s₁.os=s.os:=by rw [hs₁];exact ⟨rfl,rfl⟩
  have hW:∀b∈(kg A env ns frs).W,s.heap.get? b=iD/\WOk s₁.heap b:=λb hb=>by
   rcases Lu.mp hb with rfl | hb
   ·obtain ⟨o,es,ep,e1,e2,_⟩:=hns1;exact ⟨fL,o,e1,.inl ⟨es,ep,e2⟩⟩
   ·obtain ⟨x,hx,e⟩:=Qy.mp hb
    split at e
    ·exact av e
    ·obtain ⟨⟨o,e1,e2⟩,e3⟩:=hcl x b e;exact ⟨e3,o,e1,.inr ⟨_,e2⟩⟩
  have hlay:∀i l,(kg A env ns frs).lay i=aT l->∃x,ns[i]?=aT x/\((env.kindOf x=aT .local/\l=.nm env.locals x)\/(env.kindOf x≠aT .local/\∃c,env.cells.lookup x=aT c/\l=.cl c)):=λi l e=>CF e;have hidx:∀(i j:Nat) (x:Str),ns[i]?=aT x->ns[j]?=aT x->i=j:=λi j x e1 e2=>by
   have h1:=By.mp e1;have h2:=By.mp e2;exact (P3 hnd).mp (h1.2.trans h2.2.symm)
  have ok':aJ (kg A env ns frs):=by
   refine ⟨IS ..,λi l e=>?_,λi j l e1 e2=>?_,?_,?_⟩
   ·obtain ⟨x,hx,⟨q,rfl⟩ | ⟨q,c,hc,rfl⟩⟩:=hlay i l e
    ·exact IS ..
    ·refine LC _ (Lm _ (Qy.mpr ⟨x,Lo hx,?_⟩));rw [if_neg q];exact hc
   ·obtain ⟨x,hx,q1⟩:=hlay i l e1;obtain ⟨y,hy,q2⟩:=hlay j l e2
    rcases q1 with ⟨_,rfl⟩ | ⟨_,c,hc,rfl⟩
    ·rcases q2 with ⟨_,q⟩ | ⟨_,c',_,q⟩
     ·cases q;exact hidx i j x hx hy
     ·cases q
    ·rcases q2 with ⟨_,q⟩ | ⟨_,c',hc',q⟩
     ·cases q
     ·cases q
      have:=name_of_addr hapart (mem_of_lookup hc) (mem_of_lookup hc');subst this;exact hidx i j x hx hy
   ·show env.scope.kind=.function;rw [eS];exact hk
   ·obtain ⟨es,h1,h2⟩:=hfrs;refine ⟨env::es,by show A.frames.map (env::·)=_;rw [h1];rfl,λe he=>?_⟩
    rcases Lu.mp he with rfl | he
    ·exact ⟨by rw [eS,hk];decide,_,IS ..,eF⟩
    ·obtain ⟨q1,L,q2,q3⟩:=h2 e he;exact ⟨q1,L,Lm _ q2,q3⟩
  have fo:mZ (kg A env ns frs):=by
   obtain ⟨es,h1,_⟩:=hfrs;exact ⟨⟨es,by show A.frames.map (env::·)=_;rw [h1];rfl⟩,eF⟩
  have cx:aq C (CD fd.scope ns z (!C.hf f)) (kg A env ns frs) n:=by
   refine ⟨ok',λx=>eK x,λi x e=>?_,?_,H.1.meth,H.1.attr,λe=>?_,H.1.hf,?_,?_,?_,λi a e _=>(Lg.mp (ok'.lay i _ e)).elim id (λq=>nomatch q),λi e=>?_⟩
   ·have hx:ns[i]?=aT x:=e
    rcases hall x (Lo hx) with q | ⟨q,q'⟩
    ·refine .inl ⟨(eK x).trans q,?_⟩;simp only [kg,hx,eK,q,if_true]
    ·have hne:fd.scope.names.lookup x≠aT .local:=by rw [q];intro q;cases q
     rw [<-hcellS (s.heap.objs.size+1),<-eC] at q';obtain ⟨c,hc⟩:=ML.mp q';refine .inr ⟨c,.inl ((eK x).trans q),hc,?_⟩;simp only [kg,hx,eK,q,hc];rfl
   ·show uV C env.globals env.builtins z;rw [eG.1,eG.2];exact hgl
   ·refine hA.resolve_right λq=>?_;replace e:(!C.hf f)=eQ:=e;rw [q] at e;cases e
   ·show A.units+3<=3 * (A.depth+1)+4;exact n1 hunits (by simp +arith only)
   ·show A.depth+1+n<=999;exact n1 hroom (by simp +arith only)
   ·show interactive env=bY;unfold interactive;rw [eS,hk];rfl
   ·have e:ns.length<=i:=by simpa [CD] using e
    simp only [kg,M4 e]
  have hk':∀b ob,s.heap.get? b=aT ob->s₁.heap.get? b=aT ob:=hkeep;have hs0:aR s.heap s₁.heap:=λb ob e _=>hk' b ob e;have R₁:Rel C (kg A env ns frs) ρ (js d vs hp) s₁:=by
   refine ⟨?_,⟨_,hns1⟩,λb hb=>?_,λi v e=>?_,λi c e=>?_,λL hL=>?_,hg1.1.trans hgens⟩
   ·show Hp C ρ hp s₁.heap;exact hH.up hs0 (λb _ ob e=>hk' b ob e) λb ob e=>hk' b ob (hH.base b ob e)
   ·have hb:b∈(kg A env ns frs).W:=(Lg.mp hb).elim id λq=>by exact co q
    obtain ⟨h1,h2⟩:=hW b hb;refine ⟨λq=>?_,bW (m:=⟨[],hp⟩) hH h1,h2⟩;obtain ⟨o',e'⟩:=Hp.there (m:=⟨[],hp⟩) hH q;exact aK h1 e'
   ·have hv:=xm e;obtain ⟨w,hw1,hw2⟩:=rl.get hv;have hi:i<ps.length:=by rw [<-hwl];exact (By.mp hw1).1
    have hpi:ps[i]?=aT ps[i]:=Ls hi;have hni:ns[i]?=aT ps[i]:=by
     obtain ⟨t,rfl⟩:=hpre;rw [Ms hi];exact hpi
    have hz:(ps[i],w)∈ps.zip ws:=Lo (CE hwl hpi hw1)
    rcases cx.nm i ps[i] hni with ⟨q1,q2⟩ | ⟨c,q1,q2,q3⟩
    ·refine ⟨_,q2,_,w,hns1,?_,hw2.up hs0 (Lq _)⟩;exact xj _ _ _ _ _ hzn hz q1
    ·refine ⟨_,q3,w,?_,hw2.up hs0 (Lq _)⟩;have:=(hcl ps[i] c q2).1;rw [xk _ _ _ _ w hzn hz] at this
     ·exact this
     ·intro q;have q1':env.kindOf ps[i]=aT .cell\/env.kindOf ps[i]=aT .free/\cdc ps[i]=bY:=q1;rw [q] at q1'
      rcases q1' with q1' | ⟨q1',_⟩<;>cases q1'
   ·obtain ⟨x,hx,⟨q,q'⟩ | ⟨q,c',hc,q'⟩⟩:=hlay i _ e
    ·cases q'
    ·cases q';exact ⟨_,(hcl x c hc).1⟩
   ·rcases Lu.mp hL with rfl | hL
    ·refine ⟨λq=>?_,bW (m:=⟨[],hp⟩) hH fL,?_⟩
     ·obtain ⟨o',e'⟩:=Hp.there (m:=⟨[],hp⟩) hH q;exact aK fL e'
     ·obtain ⟨o,es,ep,e1,e2,_⟩:=hns1;exact ⟨o,e1,es,ep,e2⟩
    ·obtain ⟨h1,h2,o,h3,h4⟩:=hout L hL;exact ⟨h1,h2,o,hk' L o h3,h4⟩
  have hnW:∀b ob,s.heap.get? b=aT ob->b∉(kg A env ns frs).W:=λb ob e q=>by rw [(hW b q).1] at e;exact av e
  have hnn:∀b,s₁.heap.get? b=iD->s.heap.get? b=iD:=λb q=>by
   cases e:s.heap.get? b with
   | none=>rfl
   | some ob=>rw [hk' b ob e] at q;exact oW q
  have hst:∀{ρ' s'},ao (kg A env ns frs).W ρ s₁ ρ' s'->ao [] ρ s ρ' s':=λ{ρ' s'} st=>
   ⟨st.pre,λb hb=>(st.new b hb).imp id (hnn b),λb ob e h1 _=>st.keep b ob (hk' b ob e) h1 (hnW b ob e),λb ob e hsd=>st.solid b ob (hk' b ob e) hsd,λb ob e=>st.alive b ob (hk' b ob e),st.gens.trans hg1.1,st.os.trans hg1.2⟩
  refine Lk (fc G d.body (xin X) _ _ cx fo body hchk (fin Q) (js d vs hp) hw s₁ ρ R₁) (λfl s' hf=>?_) λe s' he=>?_
  rotate_left
  ·have he:=he;unfold leaving;refine iS (pF ok' fo rfl R₁.hp.base he λs₂ h₂=>iH ok' R₁.hp.base h₂ λs₃ h₃=>?_);obtain ⟨ρ',m',k,a',K,st,R',ea,hK,hfl,hX⟩:=h₃;exact ⟨ρ',m'.heap,k,a',K,hst st,R'.hp,ea,hK,hfl.mono hnn,hX⟩
  obtain ⟨ρ',m',f',st,R',hfl,hq⟩:=hf;have key:∀v x,Rep C ρ' s'.heap x v->Q x m'.heap->GK C Q ρ s v s':=λv x rx hq=>⟨ρ',m'.heap,x,hst st,R'.hp,rx,hq⟩
  cases f' with
  | next=>obtain rfl:=hfl.inv;exact key .none .none .none hq
  | ret r=>obtain ⟨v,rfl,rv⟩:=hfl.inv;exact key _ _ rv hq
theorem oG {F:Fm}{m:MS}{s s':Do}{ρ':List Lr}{hp':List MO}(okF:aJ F)(R:Rel C F ρ m s)(st:ao [] ρ s ρ' s')(hH:Hp C ρ' hp' s'.heap):ao F.W ρ s ρ' s'/\Rel C F ρ' ⟨m.vars,hp'⟩ s':=by
 have hD:∀b ob,s.heap.get? b=aT ob->b∉ρ->jv s.heap s'.heap b:=λb ob e hb ob' e'=>by
  obtain rfl:=same e e'
  rcases st.keep b ob e hb (by exact M1) with q | ⟨_,sl,q⟩
  ·exact ⟨_,q,rfl,rfl⟩
  ·exact ⟨_,q,rfl,rfl⟩
 refine ⟨⟨st.pre,st.new,λb ob e h1 _=>st.keep b ob e h1 (by exact M1),st.solid,st.alive,st.gens,st.os⟩,R.up okF st.solid st.pre hH st.new (λb hb=>?_) (λL hL=>?_) st.gens⟩
 ·obtain ⟨h1,_,ob,e,_⟩:=R.w b hb;exact hD b ob e h1
 ·obtain ⟨h1,_,ob,e,_⟩:=R.out L hL;exact hD L ob e h1
set_option tactic.hygienic true in
theorem GL (G:GOk C){z:Sg}{P:Nat->Option Fn}(H:uW C z P):ar P (Call C):=by
 intro n f vs Q X hp d hP hlen hw F m s ρ ws a okF hA hm R rl hroom hunits hfa;refine Lk (oE G H hP hlen hw hA (by rw [<-hm];exact R.hp) R.gens rl okF.frs R.out hroom hunits hfa) (λv s' hr=>?_) λe s' hr=>?_
 ·obtain ⟨ρ',hp',x,st,hH,rx,hq⟩:=hr;obtain ⟨st',R'⟩:=oG okF R st hH;exact ⟨ρ',⟨m.vars,hp'⟩,x,st',R',rx,rfl,hq⟩
 ·obtain ⟨ρ',hp',k,a',K,st,hH,ea,hK,hfl,hX⟩:=hr;obtain ⟨st',R'⟩:=oG okF R st hH;exact ⟨ρ',⟨m.vars,hp'⟩,k,a',K,st',R',ea,hK,hfl.fly (.inl rfl),rfl,hX⟩
end
theorem zH {h:LA}{chain:List Str}{n:Str}(x:EC h chain n=eQ):∃K,h.nsMap mainGlobals n=aT (.ref K)/\XAt h K ((chain.map λn=>(h.nsMap mainGlobals n).getD .none)++eX):=by
 obtain ⟨x1,x2⟩:=ID.mp x;obtain ⟨C,N,nm,q,bs,hdct,sn,sub,ab,col,dd,k0,k1,k2,k3,k5,hb,hC,hN,_⟩:=LA.ownExc_of_ok x1;refine ⟨C,hb,N,nm,q,bs,hdct,sn,sub,ab,col,dd,k0,k1,k2,k3,k5,_,hC,hN,λn' hn=>?_⟩;unfold HK at x2
 cases hf:h.clsAt mainGlobals n with
 | none=>rw [hf] at x2;cases x2
 | some z=>
  obtain ⟨C',o',cd'⟩:=z;rw [hf] at x2;obtain ⟨hn',ho',hd'⟩:=LA.clsAt_spec hf;rw [hb] at hn';obtain rfl:C=C':=by injection hn' with q1;injection q1
  rw [hC] at ho';obtain rfl:=BY ho';obtain rfl:_=cd':=by injection hd'
  exact MZ.mp (LN.mp x2 n' hn)
noncomputable def fv (ns:List Str)(mg:Str->Option rW)(h:LA):Prop:=
 (∀(k:Nat) (x:Str),ns[k]?=aT x->∃K K0 bm b,mg x=aT (.ref K)/\ns[0]?=aT b/\mg b=aT (.ref K0)/\XCl h K bm/\bm=(match k with
  | 0=>eX
  | _=>.ref K0::eX))/\(ns.map mg).Nodup
theorem fv.keeps {ns:List Str}{mg:Str->Option rW}{h h':LA}(x:fv ns mg h)(k:∀b o,h.get? b=aT o->h'.get? b=aT o):fv ns mg h':=
 ⟨λi n e=>by obtain ⟨K,K0,bm,b,h1,h2,h3,h4,h5⟩:=x.1 i n e;exact ⟨K,K0,bm,b,h1,h2,h3,h4.keeps k,h5⟩,x.2⟩
theorem xo {b:Str}{r:List Str}{h:LA}(x:xOk b r h=eQ):fv (b::r) (h.nsMap mainGlobals) h:=by
 obtain ⟨x1,x3⟩:=ID.mp x;obtain ⟨x1,x2⟩:=ID.mp x1;obtain ⟨K0,e0,a0⟩:=zH x1;refine ⟨λk n e=>?_,of_decide_eq_true x3⟩
 cases k with
 | zero=>obtain rfl:=BY e;exact ⟨K0,K0,eX,b,e0,rfl,e0,⟨a0,.inl rfl⟩,rfl⟩
 | succ k=>
  replace e:r[k]?=aT n:=e;obtain ⟨K,e1,a1⟩:=zH (LN.mp x2 n (Lo e));have eb:([b].map λn=>(h.nsMap mainGlobals n).getD .none)++eX=.ref K0::eX:=by
   show (h.nsMap mainGlobals b).getD .none::eX=_;rw [e0];rfl
  rw [eb] at a1;exact ⟨K,K0,_,b,e1,rfl,e0,⟨a1,.inr ⟨K0,rfl,a0⟩⟩,rfl⟩
noncomputable def kh (x:Str)(es:List (List Nat × Int))(prog:M6)(w:Ni)(h:LA):Prop:=∃mg a kvs,h.Ns mainGlobals mg/\mg x=aT (.ref a)/\(a==sysModules)=bY/\h.DictOf (strKind prog w) a kvs/\CK es kvs
theorem tz (h:j0 e=aT x):∃k t i u,e.key=.str k t/\e.val=.int i u/\x=(e.hash,k,i):=by
 unfold j0 at h
 cases hk:e.key with
 | str k t=>
  rw [hk] at h
  cases hv:e.val with
  | int i u=>rw [hv] at h;exact ⟨k,t,i,u,rfl,rfl,(BY h).symm⟩
  | _=>rw [hv] at h;exact av h
 | _=>rw [hk] at h;exact av h
theorem nN (h:d5 (e::l)=aT ys):∃x xs,j0 e=aT x/\d5 l=aT xs/\ys=x::xs:=by
 replace h:(match j0 e with
  | some x=>match d5 l with
   | some xs=>aT (x::xs)
   | none=>iD
  | none=>iD)=aT ys:=h
 cases h1:j0 e with
 | none=>rw [h1] at h;exact av h
 | some x=>
  rw [h1] at h
  cases h2:d5 l with
  | none=>rw [h2] at h;exact av h
  | some xs=>rw [h2] at h;exact ⟨x,xs,rfl,rfl,(BY h).symm⟩
theorem tA (h:d5 l=aT (es.map λp=>(hashStr w (str p.1),str p.1,p.2)))(hl:∀p∈es,p.1.length<=line) :
  ∃kvs,(∀e∈l,∃k,(strKind prog w).is k e.key=eQ/\e.hash=(strKind prog w).hash k)/\Pairs (strKind prog w) l kvs/\CK es kvs/\kvs.map (·.1)=es.map λp=>str p.1:=by
 induction l generalizing es with
 | nil=>
  cases es with
  | nil=>exact ⟨[],λe he=>co he,.nil,.nil,rfl⟩
  | cons=>exact nomatch BY h
 | cons e l ih=>
  refine e23 (nN h) λx xs h1 h2 h3=>?_
  cases es with
  | nil=>exact nomatch h3
  | cons p es=>
   obtain ⟨hx,rfl⟩:=O5 h3;refine e14 (ih h2 λp hp=>hl p (Lm _ hp)) λkvs k1 k2 k3 k4=>?_;obtain ⟨s,t,j,u,ek,ev,rfl⟩:=tz h1;have e1:hashStr w (str p.1)=e.hash:=congrArg Prod.fst hx;obtain rfl:str p.1=s:=congrArg (λq=>q.2.1) hx;obtain rfl:p.2=j:=congrArg (λq=>q.2.2) hx;have hk:(strKind prog w).is (str p.1) e.key=eQ:=by rw [ek];exact beq_self_eq_true _
   refine ⟨(str p.1,.int p.2 u)::kvs,λe' he=>?_,.cons hk ev k2,.cons (hl _ (IS ..)) k3,congrArg (str p.1::·) k4⟩
   rcases Lu.mp he with rfl | he
   ·exact ⟨str p.1,hk,e1.symm⟩
   ·exact k1 e' he
theorem Jc (hl:∀p∈es,p.1.length<=line)(hn:(es.map λp=>str p.1).Nodup)(h:nS x s=qm es w):kh x es prog w s.heap:=by
 unfold nS at h;refine LL λhz=>?_
 cases ha:s.heap.nsMap mainGlobals x with
 | none=>rw [ha] at h;exact av h
 | some v=>
 rw [ha] at h
 cases v with
 | ref a=>
  dsimp only at h
  cases ho:s.heap.get? a with
  | none=>rw [ho] at h;exact av h
  | some o=>
  rw [ho] at h;dsimp only at h
  cases hd:o.data with
  | dict ds ep=>
   rw [hd] at h;dsimp only at h
   cases hc:(a != sysModules&&o.cls==.type "dict"&&o.dict.isNone&&o.slots.size==0&&s.heap.isNs mainGlobals) with
   | false=>rw [hc] at h;exact av h
   | true=>
     rw [hc] at h;refine hz ?_;refine e02 (ID.mp hc) λhc h5=>?_;refine e02 (ID.mp hc) λhc h4=>?_;refine e02 (ID.mp hc) λhc h3=>?_;refine e02 (ID.mp hc) λh1 h2=>?_;refine e14 (tA (prog:=prog) h hl) λkvs k1 k2 k3 k4=>?_;refine ⟨_,a,kvs,.of_isNs h5,ha,by simpa using h1,⟨o,ds,ep,ho,⟨eq_of_beq h2,MZ.mp h3,?_⟩,hd,λe he=>k1 e (by simpa using he),k2,by rw [k4];exact hn⟩,k3⟩;exact Array.eq_empty_of_size_eq_zero (eq_of_beq h4)
  | _=>rw [hd] at h;exact av h
 | _=>exact av h
theorem kh.keeps (y:kh x es prog w h)(k:∀b o,h.get? b=aT o->h'.get? b=aT o):kh x es prog w h':=by
 obtain ⟨mg,a,kvs,h1,h2,h3,⟨o,ds,ep,e,r⟩,h5⟩:=y;exact ⟨mg,a,kvs,h1.keeps k,h2,h3,⟨o,ds,ep,k _ _ e,r⟩,h5⟩
noncomputable abbrev Tab:=List (Nat × Str × List Str × Fn)
noncomputable abbrev CG:=List (Nat × Nat × Str × List Str × Fn)
noncomputable abbrev KO:=List (Nat × Str × List Str)
noncomputable def rg (tab:Tab)(f:Nat):Option Str:=(tab.lookup f).map (·.1)
noncomputable def fnP (tab:Tab)(f:Nat):Option Fn:=(tab.lookup f).map (·.2.2)
noncomputable def xp (mt:CG)(f:Nat):Option (Nat × Str):=(mt.lookup f).map λe=>(e.1,e.2.1)
noncomputable def mtP (mt:CG)(f:Nat):Option Fn:=(mt.lookup f).map (·.2.2.2)
set_option genCtorIdx false in
structure ki where
 tab:Tab
 mt:CG
 ct:KO
 xs:List Str
 hf:Nat->Bool
 gl:Nat->Option (Str × MV)
noncomputable def ki.P (t:ki)(f:Nat):Option Fn:=(fnP t.tab f).or (mtP t.mt f)
noncomputable def ki.sg (t:ki):Sg where
 fn:=rg t.tab
 gl:=t.gl
 hf:=t.hf
 cn k:=(t.ct.lookup k).map (·.1)
 xn k:=t.xs[k]?
 mt:=xp t.mt
 at_ k y:=match t.ct.lookup k with
  | some e=>e.2.contains y
  | none=>bY
noncomputable def dq:Option rW->Option Lr
 | some (.ref a)=>aT a
 | _=>iD
noncomputable def m6 (z:Sg)(nh:Bool)(ns:List Str)(d:Fn)(params:Arguments)(scope:Scope)(body:List Q0):Bool:=
 params.posonlyargs.isEmpty&&params.vararg.isNone&&params.kwonlyargs.isEmpty&&params.kwarg.isNone&&!scope.isCoroutine&&!scope.isGenerator&&scope.kind==.function&&
 (params.args.map (·.arg)).length==d.args&&pJ scope (params.args.map (·.arg)) ns&&gF (CD scope ns z nh) d.body body
noncomputable def rh (recs:List DefRec)(t:ki):Bool:=
 t.tab.all λe=>recs.any λr=>r.name==e.2.1&&m6 t.sg (!t.hf e.1) e.2.2.1 e.2.2.2 r.params r.scope r.body
noncomputable def m7 (cs:List ClsRec)(t:ki):Bool:=
 t.mt.all λe=>(t.tab.lookup e.1).isNone&&am (t.ct.lookup e.2.1) λc=>cs.any λk=>k.name==c.1&&k.meths.any λm=>m.name==e.2.2.1&&m6 t.sg (!t.hf e.1) e.2.2.2.1 e.2.2.2.2 m.params m.scope m.body
noncomputable def rj (cs:List ClsRec)(t:ki):Bool:=t.ct.all λe=>cs.any λk=>k.name==e.2.1&&e.2.2.all λx=>k.statics.contains x
noncomputable def eqV (v w:rW):Bool:=match v with
 | .builtin a=>match w with
  | .builtin b=>a==b
  | _=>bY
 | .type a=>match w with
  | .type b=>a==b
  | _=>bY
 | _=>bY
theorem GM (h:eqV v w=eQ):v=w:=by
 cases v with
 | builtin a=>
  cases w with
  | builtin b=>exact congrArg _ (eq_of_beq h)
  | _=>exact ff h
 | type a=>
  cases w with
  | type b=>exact congrArg _ (eq_of_beq h)
  | _=>exact ff h
 | _=>exact ff h
noncomputable def D9 (p:M6)(loose:List Str):Bool:=
 cv.all λq=>!startupNames.contains q.1&&!loose.contains q.1&&!((recsOf p).map (·.name)).contains q.1&&!((litsOf p).map (·.1)).contains q.1&&!((clssOf p loose).map (·.name)).contains q.1&&!(q.1==("__name__":Str))&&
  am (bootBuiltins q.1) (eqV q.2)
set_option tactic.hygienic true in
theorem eh:∀{l:List (Nat × α)}{k:Nat}{v:α},l.lookup k=aT v->(k,v)∈l
 | [],k,v,h=>by exact av h
 | (a,b)::r,k,v,h=>by
  rw [Ma] at h
  split at h
  ·rename_i e;obtain rfl:=BY h;have:k=a:=by exact eq_of_beq e
   subst this;exact IS ..
  ·exact Lm _ (eh h)
set_option tactic.hygienic true in
theorem m8:∀{ps:List Str}{vs:List rW}{x:Str},vs.length=ps.length->x∈ps->((ps.zip vs).lookup x).isSome=eQ
 | [],_,_,_,h=>by exact co h
 | p::ps,[],_,h,_=>by cases h
 | p::ps,v::vs,x,hl,h=>by
  rw [Qw,Ma]
  split
  ·rfl
  ·rename_i e;refine m8 (by simpa using hl) ?_
   rcases Lu.mp h with rfl | h
   ·simp at e
   ·exact h
theorem iW:∀{ps:List Str}{vs:List rW}(pre:List (Str × rW)),vs.length=ps.length->ps.Nodup->(∀x∈ps,pre.lookup x=iD)->ps.filterMap (λn=>((pre++ps.zip vs).lookup n).map (n,·))=ps.zip vs
 | [],_,_,_,_,_=>rfl
 | p::ps,[],_,h,_,_=>by cases h
 | p::ps,v::vs,pre,hl,hn,hp=>by
  rw [Nn] at hn;have e1:(pre++(p::ps).zip (v::vs)).lookup p=aT v:=by
   rw [List.lookup_append,hp p (IS ..)];simp [Ma]
  rw [List.filterMap_cons,e1];simp only [Option.map_some];rw [Qw];congr 1;have e2:pre++(p,v)::ps.zip vs=(pre++[(p,v)])++ps.zip vs:=by simp
  rw [e2];refine iW (pre++[(p,v)]) (by simpa using hl) hn.2 λx hx=>?_;rw [List.lookup_append,hp x (Lm _ hx)];have:(x==p)=bY:=by
   cases e:x==p with
   | false=>rfl
   | true=>
    have:x=p:=by exact eq_of_beq e
    subst this;exact absurd hx hn.1
  simp [Ma,this]
theorem rn (h1:fd.params.posonlyargs=[])(h2:fd.params.vararg=iD)(h3:fd.params.kwonlyargs=[])(h4:fd.params.kwarg=iD)(h5:fd.defaults=.none)
  (e5:(decide (vals.length > (fd.params.args.map (·.arg)).length))=bY) (e2:(fd.params.args.map (·.arg)).filter (λn=>(((fd.params.args.map (·.arg)).zip vals).lookup n).isNone)=[])
  (e3:(fd.params.args.map (·.arg)).filterMap (λn=>(((fd.params.args.map (·.arg)).zip vals).lookup n).map (n,·))=(fd.params.args.map (·.arg)).zip vals):bindArgs fd ⟨vals,[]⟩=pure ((fd.params.args.map (·.arg)).zip vals):=by
 obtain ⟨a1,a2,⟨b1,b2,b3,b4,b5,b6,b7⟩,a4,a5,a6,a7,a8,a9,a10,a11,a12,a13,a14,a15⟩:=fd;dsimp only at h1 h2 h3 h4 h5 e5 e2 e3 ⊢;subst h1 h2 h3 h4 h5;refine (if_neg (c:=(decide (vals.length > (b2.map (·.arg)).length)&&eQ)=eQ) (by rw [e5];decide)).trans ?_;have hd:∀k,List.drop k ((iD:Option (Array rW)).getD #[]).toList=[]:=λk=>Rc;rw [hd];refine (if_neg (c:=(!(((b2.map (·.arg)).take ((b2.map (·.arg)).length-0)).filter (λn=>(((b2.map (·.arg)).zip vals).lookup n).isNone)).isEmpty)=eQ) (by rw [Nat.sub_zero,Mr,e2];decide)).trans ?_;have hz:(List.drop ((b2.map (·.arg)).length-0) (b2.map (·.arg))).zip ([]:List rW)=[]:=List.zip_nil_right;refine (congrArg (λl=>(forIn (m:=Sem) l ((b2.map (·.arg)).zip vals) _ >>= _)) hz).trans ?_;exact congrArg (λl=>(pure l:Sem (List (Str × rW)))) ((congrArg (List.filterMap _) (LJ (b2.map (·.arg)))).trans e3)
theorem tB (h1:fd.params.posonlyargs=[])(h2:fd.params.vararg=iD)(h3:fd.params.kwonlyargs=[])(h4:fd.params.kwarg=iD)(h5:fd.defaults=.none)
  (hn:(fd.params.args.map (·.arg)).Nodup) (hl:vals.length=(fd.params.args.map (·.arg)).length):bindArgs fd ⟨vals,[]⟩=pure ((fd.params.args.map (·.arg)).zip vals):=by
 have e1:∀x∈fd.params.args.map (·.arg),(((fd.params.args.map (·.arg)).zip vals).lookup x).isNone=bY:=λx hx=>by
  have:=m8 hl hx
  cases e:((fd.params.args.map (·.arg)).zip vals).lookup x with
  | none=>rw [e] at this;cases this
  | some=>rfl
 have e2:(fd.params.args.map (·.arg)).filter (λn=>(((fd.params.args.map (·.arg)).zip vals).lookup n).isNone)=[]:=by
  rw [List.filter_eq_nil_iff];intro x hx;rw [e1 x hx];simp
 have e3:=iW (ps:=fd.params.args.map (·.arg)) (vs:=vals) [] hl hn λ_ _=>rfl;rw [Qf] at e3;exact rn h1 h2 h3 h4 h5 (decide_eq_false (by rw [hl];exact N7 _)) e2 e3
end Internal
end
section
namespace Internal
open PySem PySem.W PyProof.Rows
section
noncomputable abbrev ej (prog:M6) (w:Ni) (h:LA) (t:ki) (mg:Str->Option rW) (cm:Nat->Str->Option rW):Glo where
 prog:=prog
 w:=w
 base:=h
 fa f:=match rg t.tab f with
  | some x=>dq (mg x)
  | none=>match xp t.mt f with
   | some q=>dq (cm q.1 q.2)
   | none=>iD
 ca k:=match t.ct.lookup k with
  | some e=>dq (mg e.1)
  | none=>iD
 xa k:=match t.xs[k]? with
  | some x=>dq (mg x)
  | none=>iD
 cm:=cm
 hf:=t.hf
theorem jG (e:dq o=aT a):o=aT (.ref a):=by
 cases o with
 | none=>exact av e
 | some v=>cases v<;>first | ((first | exact av e | obtain rfl:=BY e);rfl) | exact av e
end
section
variable {p:M6}{loose:List Str}{mean:ExcName->Option rW}{mg mb:Str->Option rW}{h:LA}{prog:M6}{w:Ni}{t:ki}{cm:Nat->Str->Option rW}
theorem tC {k:Nat}{K:Lr}(e:(ej prog w h t mg cm).xa k=aT K):∃x,t.xs[k]?=aT x/\mg x=aT (.ref K):=by
 replace e:(match t.xs[k]? with
  | some x=>dq (mg x)
  | none=>iD)=aT K:=e
 cases q:t.xs[k]? with
 | none=>rw [q] at e;cases e
 | some x=>rw [q] at e;exact ⟨x,rfl,jG e⟩
theorem Ea {k:Nat}{x:Str}{K:Lr}(e:t.xs[k]?=aT x)(h1:mg x=aT (.ref K)):(ej prog w h t mg cm).xa k=aT K:=by
 show (match t.xs[k]? with
  | some x=>dq (mg x)
  | none=>iD)=aT K
 rw [e];show dq (mg x)=aT K;rw [h1];rfl
theorem Jd (XF:fv t.xs mg h):GX (ej prog w h t mg cm) where
 exc:=λk K e=>by
  obtain ⟨x,h1,h2⟩:=tC e;obtain ⟨K',K0,bm,b,g1,g2,g3,g4,g5⟩:=XF.1 k x h1;rw [h2] at g1;cases g1;exact ⟨K0,Ea g2 g3,bm,g4,g5⟩
 xinj:=λj k K e1 e2=>by
  obtain ⟨x,h1,h2⟩:=tC e1;obtain ⟨y,h3,h4⟩:=tC e2;have a1:(t.xs.map mg)[j]?=aT (aT (.ref K)):=by rw [LG,h1,<-h2];rfl
  have a2:(t.xs.map mg)[k]?=aT (aT (.ref K)):=by rw [LG,h3,<-h4];rfl
  have b1:=By.mp a1;have b2:=By.mp a2;exact (P3 XF.2).mp (b1.2.trans b2.2.symm)
theorem GN (XF:fv t.xs mg h){k:Nat}{x:Str}(e:t.sg.xn k=aT x):∃K,(ej prog w h t mg cm).xa k=aT K/\mg x=aT (.ref K):=by
 obtain ⟨K,_,_,_,h1,_⟩:=XF.1 k x e;exact ⟨K,Ea e h1,h1⟩
theorem GO {C:Glo}{ρ:List Lr}{s s':Do}{e:rW}{P:Prop}(hx:ErC C (λ_ _=>False) ρ s e s'):P:=by
 obtain ⟨_,_,_,_,_,_,_,_,_,_,hx⟩:=hx;exact hx.elim
end
section
noncomputable def zI (t:ki)(mg:Str->Option rW)(h:LA)(cm:Nat->Str->Option rW):Prop:=∀k e,t.ct.lookup k=aT e->∃K N,mg e.1=aT (.ref K)/\ClsAt h K N (cm k)
inductive FdO (h:LA)(v:Option rW)(ps:Arguments)(sc:Scope)(body:List Q0):Prop
 | mk (a:Lr) (o:OQ) (fd:FuncData) (h1:v=aT (.ref a)) (h2:h.get? a=aT o) (h3:o.data=.func fd) (h4:h.CodeRec fd.code fd.qualname) (h5:fd.body=.stmts body) (h6:fd.closure=[]) (h7:fd.defaults=.none) (h8:fd.params=ps) (h9:fd.scope=sc) (h10:fd.globals=mainGlobals) (h11:fd.builtins=builtinsNs)
theorem GP (T:Top p loose mean mg mb h)(hr:r∈recsOf p):FdO h (mg r.name) r.params r.scope r.body:=by
 obtain ⟨a,o,pm,code,doc,h1,h2,h3,h4⟩:=T.fn r hr;exact ⟨a,o,_,h1,h2,h3,h4,rfl,rfl,rfl,rfl,rfl,rfl,rfl⟩
theorem zJ {c:ClsRec}{K N:Lr}{mN:Str->Option rW}(P:PlainAt h c K N mN){m:MethRec}(hm:m∈c.meths):FdO h (mN m.name) m.params m.scope m.body:=by
 obtain ⟨a,o,pm,code,doc,h1,h2,_,h3,h4⟩:=P.meths m hm;exact ⟨a,o,_,h1,h2,h3,h4,rfl,rfl,rfl,rfl,rfl,rfl,rfl⟩
theorem tD (hchk:rh (recsOf p) t=eQ)(e:t.tab.lookup f=aT (x,ns,d)):∃r∈recsOf p,r.name=x/\m6 t.sg (!t.hf f) ns d r.params r.scope r.body=eQ:=by
 unfold rh at hchk;rw [LN] at hchk;have:=hchk _ (eh e);rw [Ob] at this;refine e12 this λr hr h=>?_;rw [Ll] at h;exact ⟨r,hr,eq_of_beq h.1,h.2⟩
theorem CI {K N N':Lr}{m m':Str->Option rW}(x:ClsAt h K N m)(y:ClsAt h K N' m'):m=m':=by
 obtain ⟨nm,q,bs,sn,sub,col,dd,k0,k1,k2,k3,k5,e⟩:=mR x;obtain ⟨nm',q',bs',sn',sub',col',dd',l0,l1,l2,l3,l5,e'⟩:=mR y;have hN:N=N':=by
  have:=congrArg OQ.data (same e e');injection this with q
  injection q
 subst hN;exact il x.ns y.ns
theorem m9 (TE:TopE p loose mg h)(hcm:zI t mg h cm)(hk:t.ct.lookup k=aT e)(hc:c∈plainsOf p loose)(hn:c.name=e.1):∃K N,mg e.1=aT (.ref K)/\PlainAt h c K N (cm k):=by
 refine e22 (hcm k e hk) λK N h1 h2=>?_;refine e32 (TE c hc) λC N' mN h3 P=>?_;rw [hn,h1] at h3;cases h3;have:=CI P.cls h2;subst this;exact ⟨K,N',h1,P.ofCmp⟩
inductive GQ (pl:List ClsRec)(t:ki)(f k:Nat)(x:Str)(ns:List Str)(d:Fn):Prop
 | mk (h0:(t.tab.lookup f).isNone=eQ) (ce:Str × List Str) (hce:t.ct.lookup k=aT ce) (c:ClsRec) (hc:c∈pl) (hn:c.name=ce.1) (m:MethRec) (hm:m∈c.meths) (hmn:m.name=x) (hck:m6 t.sg (!t.hf f) ns d m.params m.scope m.body=eQ)
theorem pK (hm:m7 (plainsOf p loose) t=eQ)(e:t.mt.lookup f=aT (k,x,ns,d)):GQ (plainsOf p loose) t f k x ns d:=by
 unfold m7 at hm;rw [LN] at hm;have:=hm _ (eh e);rw [Ll] at this;obtain ⟨h0,h1⟩:=this;refine e12 (ah h1) λce hce h1=>?_;rw [Ob] at h1;refine e12 h1 λc hc h1=>?_;rw [Ll] at h1;obtain ⟨h2,h3⟩:=h1;rw [Ob] at h3;refine e12 h3 λm hm h3=>?_;rw [Ll] at h3;exact ⟨h0,ce,hce,c,hc,eq_of_beq h2,m,hm,eq_of_beq h3.1,h3.2⟩
theorem Je (TE:TopE p loose mg h)(hct:rj (plainsOf p loose) t=eQ):∃cm,zI t mg h cm:=by
 refine Classical.axiomOfChoice (r:=λk m=>∀e,t.ct.lookup k=aT e->∃K N,mg e.1=aT (.ref K)/\ClsAt h K N m) λk=>?_
 cases hk:t.ct.lookup k with
 | none=>exact ⟨λ_=>iD,λe he=>by exact av he⟩
 | some e=>
  unfold rj at hct;rw [LN] at hct;have:=hct _ (eh hk);rw [Ob] at this;refine e12 this λc hc h1=>?_;rw [Ll] at h1;refine e32 (TE c hc) λC N mN h3 P=>?_;refine ⟨mN,λe' he=>?_⟩;obtain rfl:=BY he;exact ⟨C,N,by rw [<-eq_of_beq h1.1];exact h3,P.cls⟩
theorem Eb (hct:rj (plainsOf p loose) t=eQ)(hk:t.ct.lookup k=aT e):∃c∈plainsOf p loose,c.name=e.1/\∀x,e.2.contains x=eQ->x∈c.statics:=by
 unfold rj at hct;rw [LN] at hct;have:=hct _ (eh hk);rw [Ob] at this;refine e12 this λc hc h1=>?_;rw [Ll] at h1;refine ⟨c,hc,eq_of_beq h1.1,λx hx=>?_⟩;have:=LN.mp h1.2 x (Mc.mp hx);exact Mc.mp this
theorem Ec (e:t.tab.lookup f=aT (x,ns,d))(h1:mg x=aT (.ref a)):(ej prog w h t mg cm).fa f=aT a:=by
 show (match rg t.tab f with
  | some x=>dq (mg x)
  | none=>_)=aT a
 unfold rg;rw [e];show dq (mg x)=aT a;rw [h1];rfl
theorem Jf (e0:(t.tab.lookup f).isNone=eQ)(e:t.mt.lookup f=aT (k,x,ns,d))(h1:cm k x=aT (.ref a)):(ej prog w h t mg cm).fa f=aT a:=by
 show (match rg t.tab f with
  | some x=>dq (mg x)
  | none=>match xp t.mt f with
   | some q=>dq (cm q.1 q.2)
   | none=>iD)=aT a
 unfold rg xp;rw [MZ.mp e0,e];show dq (cm k x)=aT a;rw [h1];rfl
theorem zK (e:(ej prog w h t mg cm).fa f=aT a):(∃x ns d,t.tab.lookup f=aT (x,ns,d)/\mg x=aT (.ref a))\/(t.tab.lookup f=iD/\∃k x ns d,t.mt.lookup f=aT (k,x,ns,d)/\cm k x=aT (.ref a)):=by
 replace e:(match rg t.tab f with
  | some x=>dq (mg x)
  | none=>match xp t.mt f with
   | some q=>dq (cm q.1 q.2)
   | none=>iD)=aT a:=e
 unfold rg xp at e
 cases q:t.tab.lookup f with
 | some z=>
  obtain ⟨x,ns,d⟩:=z;rw [q] at e;exact .inl ⟨x,ns,d,rfl,jG e⟩
 | none=>
  rw [q] at e
  cases q2:t.mt.lookup f with
  | none=>rw [q2] at e;cases e
  | some z=>
   obtain ⟨k,x,ns,d⟩:=z;rw [q2] at e;exact .inr ⟨rfl,k,x,ns,d,rfl,jG e⟩
theorem zL {k:Nat}{K:Lr}(e:(ej prog w h t mg cm).ca k=aT K):∃ce,t.ct.lookup k=aT ce/\mg ce.1=aT (.ref K):=by
 replace e:(match t.ct.lookup k with
  | some e=>dq (mg e.1)
  | none=>iD)=aT K:=e
 cases q:t.ct.lookup k with
 | none=>rw [q] at e;cases e
 | some ce=>rw [q] at e;exact ⟨ce,rfl,jG e⟩
theorem Jg (T:Top p loose mean mg mb h)(TE:TopE p loose mg h)(XF:fv t.xs mg h)(hcm:zI t mg h cm)(hi:importsNone p=eQ)(hchk:rh (recsOf p) t=eQ)(hm:m7 (plainsOf p loose) t=eQ)(hct:rj (plainsOf p loose) t=eQ):GOk (ej prog w h t mg cm) where
 sys:=by
  obtain ⟨mm,⟨o,es,ep,e,_⟩,_⟩:=(T.seer hi).mods;rw [e];rfl
 nolimit:=T.nolimit
 fns:=λf a e=>by
  rcases zK e with ⟨x,ns,d,e1,e2⟩ | ⟨_,k,x,ns,d,e1,e2⟩
  ·obtain ⟨r,hr,rfl,_⟩:=tD hchk e1;obtain ⟨a',o,fd,h1,h2,h3⟩:=GP T hr;rw [e2] at h1;cases h1;exact ⟨o,_,h2,h3⟩
  ·obtain ⟨_,ce,hce,c,hc,hn,m,hm,rfl,_⟩:=pK hm e1;refine e22 (m9 TE hcm hce hc hn) λK N _ P=>?_;obtain ⟨a',o,fd,h1,h2,h3⟩:=zJ P hm;rw [e2] at h1;cases h1;exact ⟨o,_,h2,h3⟩
 cls:=λk K e=>by
  refine e12 (zL e) λce h1 h2=>?_;refine e22 (hcm k ce h1) λK' N h3 h4=>?_;rw [h2] at h3;cases h3;exact ⟨N,h4⟩
 quiet:=λk K e=>by
  refine e12 (zL e) λce h1 h2=>?_;refine e13 (Eb hct h1) λc hc hn _=>?_;refine e22 (m9 TE hcm h1 hc hn) λK' N _ P=>?_;exact ⟨P.quiet _ (LC _ (.head _)),P.quiet _ (LC _ (.tail _ (.head _))),P.quiet _ (LC _ (.tail _ (.tail _ (.head _))))⟩
 x:=Jd XF
theorem zM (fo:FdO C.base v ps sc body)(hv:v=aT (.ref a))(hc:m6 z nh ns d ps sc body=eQ)(hg:uV C mainGlobals builtinsNs z):Jb C z nh d a:=by
 obtain ⟨a',o,fd,h1,ho,hd,hcr,hb,hcl,hdf,rfl,rfl,h10,h11⟩:=fo;obtain rfl:a=a':=by rw [hv] at h1;exact Ml.inj (BY h1)
 obtain ⟨hc,c10⟩:=al hc;refine e02 (al hc) λhc c9=>?_;refine e02 (al hc) λhc c8=>?_;refine e02 (al hc) λhc c7=>?_;refine e02 (al hc) λhc c6=>?_;refine e02 (al hc) λhc c5=>?_;refine e02 (al hc) λhc c4=>?_;refine e02 (al hc) λhc c3=>?_;refine e02 (al hc) λc1 c2=>?_;have hnd:(fd.params.args.map (·.arg)).Nodup:=by
  have:=(al (al c9).1)
  exact (of_decide_eq_true this.2).sublist (List.isPrefixOf_iff_prefix.mp this.1).sublist
 exact ⟨o,fd,body,fd.params.args.map (λx:Arg=>x.arg),ns,ho,hd,hcr,hb,hcl,mz c5,mz c6,eq_of_beq c7,λvals hv=>tB (NM.mp c1) (MZ.mp c2) (NM.mp c3) (MZ.mp c4) hdf hnd hv,eq_of_beq c8,c9,c10,by rw [h10,h11];exact hg⟩
theorem Jh (T:Top p loose mean mg mb h)(TE:TopE p loose mg h)(XF:fv t.xs mg h)(hcm:zI t mg h cm)(hchk:rh (recsOf p) t=eQ)(hm:m7 (plainsOf p loose) t=eQ)(hct:rj (plainsOf p loose) t=eQ)(hb:D9 p loose=eQ)
  (hgl:∀g x v,t.gl g=aT (x,v)->∃u,mg x=aT u/\∀ρ h',h.StaysIn h'->Rep (ej prog w h t mg cm) ρ h' v u):uW (ej prog w h t mg cm) t.sg t.P:=by
 have hG:uV (ej prog w h t mg cm) mainGlobals builtinsNs t.sg:=by
  refine ⟨mg,mb,T.g,T.b,λf' x' e'=>?_,hgl,λx' v' hm=>?_,λk x e=>?_,λk x e=>?_⟩
  ·obtain ⟨⟨y,ns,d⟩,q,rfl⟩:=LF.mp e';refine e13 (tD hchk q) λr hr hrn _=>?_;obtain ⟨a,_,_,g1,_⟩:=GP T hr;rw [hrn] at g1;exact ⟨a,Ec q g1,g1⟩
  ·have:=LN.mp hb _ hm;refine e02 (al this) λhc b7=>?_;refine e02 (al hc) λhc b6=>?_;refine e02 (al hc) λhc b5=>?_;refine e02 (al hc) λhc b4=>?_;refine e02 (al hc) λhc b3=>?_;refine e02 (al hc) λb1 b2=>?_;have no:∀{l:List Str},(!l.contains x')=eQ->x'∉l:=λq hx=>by
    have q:=mz q;rw [Mc.mpr hx] at q;exact tf q
   refine ⟨T.free x' (no b1) (no b2) (no b3) (no b4) (no b5),?_⟩;rw [T.builtins x' λe=>by
    have q:=mz b6;rw [beq_iff_eq.mpr e] at q;exact tf q]
   refine e12 (ah b7) λu h1 h2=>?_;exact h1.trans (congrArg aT (GM h2).symm)
  ·obtain ⟨ce,q,rfl⟩:=LF.mp e;refine e22 (hcm k ce q) λK N h1 _=>?_;refine ⟨K,?_,h1⟩;show (match t.ct.lookup k with
    | some e=>dq (mg e.1)
    | none=>iD)=aT K
   rw [q];show dq (mg ce.1)=aT K;rw [h1];rfl
  ·exact GN XF e
 refine ⟨⟨λf k x e=>?_,λk x e=>?_,rfl⟩,λf d a hP e=>?_⟩
 ·obtain ⟨⟨k',x',ns,d⟩,q,e⟩:=LF.mp e;obtain ⟨rfl,rfl⟩:=QA e;obtain ⟨h0,ce,hce,c,hc,hn,m,hm,hmn,_⟩:=pK hm q;refine e22 (m9 TE hcm hce hc hn) λK N _ P=>?_;obtain ⟨a',o,pm,cd,doc,h1,h2,h3,_⟩:=P.meths m hm;rw [hmn] at h1;exact ⟨a',Jf h0 q h1,h1,o,h2,h3⟩
 ·replace e:(match t.ct.lookup k with
   | some e=>e.2.contains x
   | none=>bY)=eQ:=e
  cases q:t.ct.lookup k with
  | none=>rw [q] at e;exact ff e
  | some ce=>
   rw [q] at e;refine e13 (Eb hct q) λc hc hn hq=>?_;refine e22 (m9 TE hcm q hc hn) λK' N _ P=>?_;exact P.quiet _ (Lx _ (hq x e))
 ·replace hP:(fnP t.tab f).or (mtP t.mt f)=aT d:=hP;unfold fnP mtP at hP
  rcases zK e with ⟨x,ns,d',e1,e2⟩ | ⟨e0,k,x,ns,d',e1,e2⟩
  ·rw [e1] at hP;obtain rfl:d'=d:=BY hP;refine e13 (tD hchk e1) λr hr hrn hc=>?_;exact zM (C:=ej prog w h t mg cm) (GP T hr) (by rw [hrn];exact e2) hc hG
  ·rw [e0,e1] at hP;obtain rfl:d'=d:=BY hP;obtain ⟨_,ce,hce,c,hc,hn,m,hm,hmn,hck⟩:=pK hm e1;refine e22 (m9 TE hcm hce hc hn) λK N _ P=>?_;exact zM (C:=ej prog w h t mg cm) (zJ P hm) (by rw [hmn];exact e2) hck hG
theorem GR (W:Well P h (.ref a) (.list xs))(hl:h.IsList a vs.toArray)(hI:IntsAre vs is)(hz:is.length<=line) :
  Rep (ej prog w h t mg cm) ρ h' (.scr is) (.ref a):=by
 cases W with
 | @list _ us _ e _=>
  obtain ⟨o,e',hc,n,hd⟩:=hl;obtain rfl:=same e e';simp only [Data.seq.injEq] at hd;have:us=vs:=by simpa using hd.1
  subst this;exact .scr e hI hz
theorem zP (T:Top p loose mean mg mb h)(TE:TopE p loose mg h)(XF:fv t.xs mg h)(hcm:zI t mg h cm)(hi:importsNone p=eQ)(hchk:rh (recsOf p) t=eQ)(hm:m7 (plainsOf p loose) t=eQ)(hct:rj (plainsOf p loose) t=eQ)(hb:D9 p loose=eQ)
  (hgl:∀g x v,t.gl g=aT (x,v)->∃u,mg x=aT u/\∀ρ h',h.StaysIn h'->Rep (ej prog w h t mg cm) ρ h' v u)
  (hs:s.heap=h) (hg:s.gens=#[]) (hf:t.tab.lookup f=aT (x,ns,d)) (hmg:mg x=aT (.ref fa)) (hd:d.args=1)
  (hr:Rep (ej prog w h t mg cm) [] h (.scr is) (.ref a)) (hlaw:∀K:KT,ar t.P K->aA K 600 d.body (fin λv _=>v=.bool eQ) (λ_ _=>False) (js d [.scr is] []))
  (hQ:∀s',(∀b o,h.get? b=aT o->s'.heap.get? b=aT o)->s'.os=s.os->s'.gens=#[]->Q (.bool eQ) s'):IF (model prog w) callerA (call (.ref fa) [.ref a]) Q E s:=by
 subst hs;have G:GOk (ej prog w s.heap t mg cm):=Jg T TE XF hcm hi hchk hm hct;have H:uW (ej prog w s.heap t mg cm) t.sg t.P:=Jh T TE XF hcm hchk hm hct hb hgl;have hfa:(ej prog w s.heap t mg cm).fa f=aT fa:=Ec hf hmg;have hP:t.P f=aT d:=by
  show (fnP t.tab f).or (mtP t.mt f)=aT d;unfold fnP;rw [hf];rfl
 have hH:Hp (ej prog w s.heap t mg cm) [] [] s.heap:=⟨λb o e=>e,rfl,PL,λ_ h=>(by exact co h),λi o a e=>(by simp at e)⟩
 refine Lk (oE (C:=ej prog w s.heap t mg cm) (X:=λ_ _=>False) G H hP (vs:=[.scr is]) (by rw [hd];rfl) (hlaw _ (GL G H)) (A:=callerA) (.inl rfl) hH hg (.cons hr .nil) (frs:=[]) ⟨[],rfl,λe he=>(by exact co he)⟩ (λL hL=>(by exact co hL)) (by show 1+300+601<=999;exact nb rfl) (by show 4<=3 * 301+4;exact nb rfl) hfa)
  (λv s' hr=>?_) λe s' hx=>GO hx
 obtain ⟨ρ',hp',y,st,hH',ry,hq⟩:=hr;subst hq
 cases ry
 exact hQ s' hH'.base st.os (st.gens.trans hg)
theorem zQ {R:WRecords}{t:WTm}{c:WCtx}(h:WTm.value R t c=aT (.bool eQ)):WTm.holds R t c=eQ:=by
 unfold WTm.holds;rw [h]
theorem xq (l:OpenLaw)(args ds:List WData):l.row.toRowW.claim.post args (.bool eQ) ds=eQ:=by
 show (WShape.has [] (.bool eQ) .bool&&WTm.holds [] (.eq .res (.lit (.bool eQ))) _)=eQ;rw [Ll];have e:W.same (RE eQ) (RE eQ)=eQ:=by decide +kernel
 refine ⟨by decide +kernel,?_⟩;exact zQ (congrArg (λb=>aT (RE b)) e)
end
section
noncomputable def CJ (prog:M6)(w:Ni)(h:LA)(t:ki)(mg:Str->Option rW)(cm:Nat->Str->Option rW)(x:Str)(v:MV):Prop:=∃u,mg x=aT u/\∀ρ h',h.StaysIn h'->Rep (ej prog w h t mg cm) ρ h' v u
noncomputable def isI (o:Option PyData)(i:Int):Bool:=match o with
 | some (.int j)=>j==i
 | _=>bY
theorem GS (h:isI o i=eQ):o=aT (.int i):=by
 cases o with
 | none=>exact ff h
 | some d=>
  cases d with
  | int j=>exact congrArg (λj=>aT (PyData.int j)) (eq_of_beq h)
  | _=>exact ff h
noncomputable def isT (o:Option PyData)(s:List Nat):Bool:=match o with
 | some (.str x)=>x.cps.toList==s
 | _=>bY
theorem GT (h:isT o s=eQ):o=aT (.str (str s)):=by
 cases o with
 | none=>exact ff h
 | some d=>
  cases d with
  | str x=>obtain rfl:=eq_of_beq h;rfl
  | _=>exact ff h
theorem tE (T:Top p loose mean mg mb h)(e:isI (valOf p x) i=eQ):CJ prog w h t mg cm x (.int i):=by
 obtain ⟨v,h1,h2⟩:=T.const x _ (GS e);refine ⟨v,h1,λρ h' _=>?_⟩
 cases h2 h'
 exact .int _ _
theorem zR (T:Top p loose mean mg mb h)(e:isT (valOf p x) s=eQ)(hs:s.length<=line):CJ prog w h t mg cm x (.str s):=by
 refine e12 (T.const x _ (GT e)) λv h1 h2=>?_;refine ⟨v,h1,λρ h' _=>?_⟩
 cases h2 h'
 exact .str _ _ hs
theorem zT (B:Tables p w' mg h)(e:tupStrsOf p x=aT (ss.map λs=>(str s:Str)))(hs:∀s∈ss,s.length<=line):CJ prog w h t mg cm x (.gt ss):=by
 obtain ⟨a,vs,h1,⟨o,h2,h3,n,h4⟩,h5⟩:=B.tupS x _ e;refine ⟨.ref a,h1,λρ h' _=>.gt h2 h3 h4 ?_⟩;clear e h1 h2 h3 h4
 induction ss generalizing vs with
 | nil=>cases h5;exact .nil
 | cons s ss ih=>
  cases h5 with
  | cons _ t r=>exact .cons (.str _ _ (hs s (IS ..))) (ih (λx hx=>hs x (Lm _ hx)) _ r)
theorem CL (T:Top p loose mean mg mb h)(y:kh x es prog w h):CJ prog w h t mg cm x (.cdict es):=by
 refine e35 y λmg' a kvs h1 h2 h3 h4 h5=>?_
 cases il h1 T.g
 exact ⟨.ref a,h2,λρ h' _=>.cdict h3 h4 h5⟩
end
end Internal
end
section
namespace Internal
open PySem
noncomputable abbrev vA:ME:=.cst (.int 1)
noncomputable abbrev vB:ME:=.cst (.str [110,117,109,98,101,114])
noncomputable abbrev vC:ME:=.cst (.int 0)
noncomputable abbrev vD:ME:=.cst (.str [116,101,108,108])
noncomputable abbrev vE:ME:=.var 0
noncomputable abbrev vF:ME:=.cst (.int 2)
noncomputable abbrev vG:ME:=.cst (.str [119,104,105,108,101])
noncomputable abbrev vH:ME:=.var 1
noncomputable abbrev vI:ME:=.cst (.int 5)
noncomputable abbrev vJ:ME:=.var 2
noncomputable abbrev vK:ME:=.cst (.str [110,97,109,101])
noncomputable abbrev vL:ME:=.cst (.str [115,101,116])
noncomputable abbrev vM:ME:=.cst (.str [105,102])
noncomputable abbrev vN:ME:=.cst (.str [115,107,105,112])
noncomputable abbrev vO:ME:=.cst (.int 4)
noncomputable abbrev vP:ME:=.cst (.int 3)
noncomputable abbrev vQ:ME:=.var 3
noncomputable abbrev vR:ME:=.cst (.str [97,98,99,100,101,102,103,104,105,106,107,108,109,110,111,112,113,114,115,116,117,118,119,120,121,122])
noncomputable abbrev vS:ME:=.cst (.str [100,101,101,112])
noncomputable abbrev vT:ME:=.cst (.str [114,111,119])
noncomputable abbrev vU:ME:=.cst (.int 8)
noncomputable abbrev vV:ME:=.cst (.bool bY)
noncomputable abbrev vW:ME:=.var 6
noncomputable abbrev vX:ME:=.var 4
noncomputable abbrev vY:ME:=.var 5
noncomputable abbrev vZ:ME:=.cst (.int 12)
noncomputable abbrev uA:ME:=.cst (.str [43])
noncomputable abbrev uB:ME:=.cst (.str [122,122])
noncomputable abbrev uC:ME:=.cst (.str [101,110,100])
noncomputable abbrev uD:ME:=.cst (.str [97])
noncomputable abbrev uE:ME:=.cst (.bool eQ)
noncomputable abbrev uF:ME:=.cst (.str [101,108,115,101])
noncomputable abbrev uG:ME:=.cst (.int 10)
noncomputable abbrev uH:ME:=.cst (.str [109,97,100,101])
noncomputable abbrev uI:ME:=.var 7
noncomputable abbrev uJ:ME:=.cst (.str [97,98,99,100,101,102,103,104,105])
noncomputable abbrev uK:ME:=.cst (.int 13)
noncomputable abbrev uL:ME:=.cst (.str [120])
noncomputable abbrev uM:ME:=.cst (.int 6)
noncomputable abbrev uN:ME:=.var 8
noncomputable abbrev uO:ME:=.cst (.str [60])
noncomputable abbrev uP:ME:=.cst (.str [47])
noncomputable abbrev uQ:ME:=.cst (.str [115,101,99,114,101,116])
noncomputable abbrev uR:ME:=.cst (.str [116,119,105,99,101])
noncomputable abbrev uS:ME:=.cst (.int 7)
noncomputable abbrev sA (i:Nat) (e:ME):MSt:=.asg [i] bY e
noncomputable abbrev bA:=ME.bin .add
noncomputable abbrev bS:=ME.bin .sub
noncomputable abbrev bM:=ME.bin .mul
noncomputable abbrev bD:=ME.bin .fdiv
noncomputable abbrev bO:=ME.bin .mod
noncomputable abbrev cE:=ME.cmp .eq
noncomputable abbrev cN:=ME.cmp .ne
noncomputable abbrev cL:=ME.cmp .lt
noncomputable abbrev cG:=ME.cmp .gt
noncomputable abbrev cI:=ME.cmp .inn
noncomputable abbrev cJ:=ME.cmp .nin
noncomputable abbrev aP:=ME.mth .append
noncomputable abbrev eP:=MSt.expr
noncomputable abbrev iX:=ME.idx
noncomputable abbrev cC:=ME.call
noncomputable abbrev rT:=MSt.ret
noncomputable abbrev iT:=MSt.ite
noncomputable abbrev tP:=ME.tup
noncomputable abbrev lS:=ME.list
noncomputable abbrev bL:=ME.blt .len
noncomputable abbrev vAa:ME:=cC 78 [.sl vE iD (aT vF),.sl vE (aT vF) (aT vO),vQ]
noncomputable abbrev vAb:ME:=iX (iX vE (.neg vA)) vF
noncomputable abbrev vAc:ME:=cC 78 [.sl vE iD (aT vF),.sl vE (aT vF) (aT vO),bA vQ (lS [vI])]
noncomputable abbrev vAd:ME:=lS [vL,vD,vN,vM,uF,vG,uC]
noncomputable abbrev vAe:ME:=.attr 0 vE [115,101,99,114,101,116,115]
noncomputable abbrev vAf:ME:=.umth 0 64 [110,97,109,101,115] vE []
noncomputable abbrev vAg:ME:=.umth 0 66 [116,111,108,100] vE []
noncomputable abbrev vAh:ME:=.attr 0 vE [111,112,101,110,115]
noncomputable abbrev vAi:ME:=cC 78 [iX uI vC,iX uI vA,lS [vI]]
noncomputable def kN:Fn:=⟨2,2,[rT (.and [.isi vE [.int],.not (.isi vE [.bool]),.cmp2 .le .le vC vE vH])]⟩
noncomputable def jH:Fn:=⟨1,1,[rT (cC 22 [vE,bS (.glob 0 (.int 1000000)) vA])]⟩
noncomputable def ni:Fn:=⟨1,2,[iT (.or [.not (.isi vE [.str]),.not (.cmp2 .le .le vA (bL [vE]) (.glob 5 (.int 8))),cI vE (.glob 1 (.gt [[115,101,116],[116,101,108,108],[115,107,105,112],[105,102],[101,108,115,101],[119,104,105,108,101],[101,110,100]]))]) [rT vV] [],iT (cJ (iX vE vC) (.glob 3 (.str [97,98,99,100,101,102,103,104,105,106,107,108,109,110,111,112,113,114,115,116,117,118,119,120,121,122]))) [rT vV] [],.for_ [1] bY .val [vE] [iT (.and [cJ vH (.glob 3 (.str [97,98,99,100,101,102,103,104,105,106,107,108,109,110,111,112,113,114,115,116,117,118,119,120,121,122])),cJ vH (.glob 4 (.str [48,49,50,51,52,53,54,55,56,57]))]) [rT vV] []],rT uE]⟩
noncomputable def cF:Fn:=⟨2,3,[iT (cG vH (.glob 6 (.int 12))) [.raise 4] [],iT (.or [.not (.isi vE [.tuple]),.not (.cmp2 .le .le vF (bL [vE]) vP),.not (.isi (iX vE vC) [.str])]) [.raise 3] [],iT (cE (bL [vE]) vF) [sA 2 (.or [.and [cE (iX vE vC) vB,cC 23 [iX vE vA]],.and [cE (iX vE vC) vK,cC 24 [iX vE vA]]]),iT (.not vJ) [.raise 3] [],rT (.cst .none)] [],iT (cJ (iX vE vC) (.glob 2 (.gt [[43],[45],[42],[47],[60],[61]]))) [.raise 3] [],eP (cC 55 [iX vE vA,bA vH vA]),eP (cC 55 [iX vE vF,bA vH vA])]⟩
noncomputable def jI:Fn:=⟨1,1,[iT (cE (iX vE vC) vB) [rT (lS [])] [],iT (cE (iX vE vC) vK) [rT (lS [iX vE vA])] [],rT (bA (cC 0 [iX vE vA]) (cC 0 [iX vE vF]))]⟩
noncomputable def kO:Fn:=⟨1,1,[rT (.blt .sortedSet [cC 0 [vE]])]⟩
noncomputable def gV:Fn:=⟨1,1,[rT (.isi vE [.list,.tuple])]⟩
noncomputable def gj:Fn:=⟨1,1,[iT (cE (iX vE vC) vM) [rT (lS [iX vE vF,iX vE vP])] [],iT (cE (iX vE vC) vG) [rT (lS [iX vE vF])] [],rT (lS [])]⟩
noncomputable def fw:Fn:=⟨1,1,[iT (cE (iX vE vC) vN) [rT (.cst .none)] [],iT (cE (iX vE vC) vL) [rT (iX vE vF)] [],rT (iX vE vA)]⟩
noncomputable def gW:Fn:=⟨1,2,[iT (.or [.not (.isi vE [.tuple]),cE (bL [vE]) vC,.not (.isi (iX vE vC) [.str])]) [rT vV] [],iT (.or [cJ (iX vE vC) (.glob 9 (.cdict [([115,101,116],3),([116,101,108,108],2),([115,107,105,112],1),([105,102],4),([119,104,105,108,101],3)])),cN (bL [vE]) (iX (.glob 9 (.cdict [([115,101,116],3),([116,101,108,108],2),([115,107,105,112],1),([105,102],4),([119,104,105,108,101],3)])) (iX vE vC))]) [rT vV] [],iT (.and [cE (iX vE vC) vL,.not (cC 24 [iX vE vA])]) [rT vV] [],rT (.blt .all [.comp (cC 56 [vH]) [1] bY .val [cC 25 [vE]] []])]⟩
noncomputable def jJ:Fn:=⟨2,4,[.for_ [2] bY .val [vE] [iT (.not (cC 57 [vJ])) [.raise 3] [],iT (cG vH (.glob 7 (.int 8))) [.raise 4] [],iT (cN (iX vJ vC) vN) [eP (cC 55 [cC 26 [vJ],vA])] [],.for_ [3] bY .val [cC 25 [vJ]] [eP (cC 58 [vQ,bA vH vA])]]]⟩
noncomputable def iY:Fn:=⟨2,3,[iT (.not (cC 56 [vE])) [.raise 1] [],.for_ [2] bY .val [vE] [iT (.not (cC 24 [vJ])) [.raise 1] [],iT (cI vJ vH) [.raise 2] [],eP (aP vH [vJ])]]⟩
noncomputable def nj:Fn:=⟨1,3,[sA 1 (lS []),.for_ [2] bY .val [vE] [iT (cE (iX vJ vC) vM) [eP (aP vH [tP [iX vJ vC,iX vJ vA,cC 60 [iX vJ vF],cC 60 [iX vJ vP]]])] [iT (cE (iX vJ vC) vG) [eP (aP vH [tP [iX vJ vC,iX vJ vA,cC 60 [iX vJ vF]]])] [eP (aP vH [vJ])]]],rT (.blt .tuple [vH])]⟩
noncomputable def kP:Fn:=⟨3,8,[sA 3 (lS []),sA 4 vH,.for_ [5] bY .val [vE] [eP (aP vQ [tP [vX,vY,vJ]]),sA 4 (bA vX vA),.for_ [6] bY .val [cC 25 [vY]] [sA 7 (cC 61 [vW,vX,bA vJ (tP [iX vY vA])]),eP (.mth .extend vQ [uI]),sA 4 (bA vX (bL [uI]))]],rT vQ]⟩
noncomputable def kQ:Fn:=⟨1,2,[sA 1 (lS []),iT (cE (iX vE vC) vL) [eP (aP vH [iX vE vA])] [],iT (cN (iX vE vC) vN) [eP (.mth .extend vH [cC 1 [cC 26 [vE]]])] [],rT vH]⟩
noncomputable def dT:Fn:=⟨4,6,[sA 4 (lS []),eP (cC 59 [vH,vX]),sA 5 (bL [vX]),eP (cC 59 [vJ,vX]),iT (.not (cC 56 [vQ])) [.raise 3] [],eP (cC 58 [vQ,vA]),.setAttr 0 vE [111,112,101,110,115] (.sl vX iD (aT vY)),.setAttr 0 vE [115,101,99,114,101,116,115] (.sl vX (aT vY) iD),.setAttr 0 vE [114,111,119,115] (cC 60 [vQ])]⟩
noncomputable def fM:Fn:=⟨1,5,[sA 1 (bA vAh vAe),.for_ [2,3,4] eQ .val [cC 61 [.attr 0 vE [114,111,119,115],vA,tP []]] [sA 1 (bA vH (cC 62 [vQ]))],rT (.blt .sortedSet [vH])]⟩
noncomputable def gG:Fn:=⟨2,2,[iT (cI vH vAh) [rT (.cst (.str [111,112,101,110]))] [],iT (cI vH vAe) [rT uQ] [],rT (.cst (.str [102,114,101,101]))]⟩
noncomputable def gH:Fn:=⟨1,1,[rT (tP [.blt .list [.attr 0 vE [111,112,101,110,115]],.blt .list [.attr 0 vE [115,101,99,114,101,116,115]]])]⟩
noncomputable def fN:Fn:=⟨1,1,[rT (.attr 0 vE [114,111,119,115])]⟩
noncomputable def gI:Fn:=⟨1,1,[rT (bL [cC 61 [.attr 0 vE [114,111,119,115],vA,tP []]])]⟩
noncomputable def jK:Fn:=⟨1,1,[rT (.and [.isi vE [.int],.not (.isi vE [.bool])])]⟩
noncomputable def gX:Fn:=⟨2,2,[iT (cL vH (bL [vE])) [rT (iX vE vH)] [],rT vC]⟩
noncomputable def jL:Fn:=⟨1,1,[rT (bO (bA (bM vE (.cst (.int 48271))) (.cst (.int 7919))) (.cst (.int 2147483647)))]⟩
noncomputable def gY:Fn:=⟨1,4,[sA 1 (iX vR (bO (bD vE vU) (.cst (.int 26)))),sA 2 vE,.for_ [3] bY .range1 [bO vE vU] [sA 2 (cC 6 [vJ]),sA 1 (bA vH (iX (.cst (.str [97,98,99,100,101,102,103,104,105,106,107,108,109,110,111,112,113,114,115,116,117,118,119,120,121,122,48,49,50,51,52,53,54,55,56,57])) (bO vJ (.cst (.int 36)))))],iT (cI vH vAd) [rT (bA vH (.cst (.str [48])))] [],rT vH]⟩
noncomputable def gZ:Fn:=⟨2,6,[sA 2 vR,sA 3 (bO vH (bL [vE])),iT (cG vQ vC) [sA 2 (bA vJ (.cst (.str [48,49,50,51,52,53,54,55,56,57])))] [],sA 4 (bA (bA (.mth .find vJ [iX vE vQ]) vA) (bO (bD vH vU) (bS (bL [vJ]) vA))),sA 5 (bA (bA (.sl vE iD (aT vQ)) (iX vJ (bO vX (bL [vJ])))) (.sl vE (aT (bA vQ vA)) iD)),iT (cI vY vAd) [rT (bA vY (.cst (.str [48])))] [],rT vY]⟩
noncomputable def gm:Fn:=⟨2,5,[sA 2 (lS []),.for_ [3] bY .range1 [uG] [sA 0 (cC 6 [vE]),sA 4 (cC 7 [bD vE vI]),iT (.and [cE (bO vQ vF) vA,cE (bO (bD vH vO) vF) vA]) [sA 4 (cC 8 [iX vJ (bS vQ vA),cC 6 [bA vH vQ]])] [],.while_ (.or [cI vX vJ,cI vX vAd]) [sA 4 (bA (.sl vX iD (aT uS)) (iX vR (bO (bA (bA vH (bL [vX])) vQ) (.cst (.int 26))))),sA 1 (bA vH vI)],eP (aP vJ [vX])],rT vJ]⟩
noncomputable def fy:Fn:=⟨2,2,[iT (.and [cN vH (lS []),cG (bO vE vP) vC]) [rT (tP [vK,iX vH (bO (bD vE vP) (bL [vH]))])] [],iT (cE (bO (bD vE vP) vO) vC) [rT (tP [vB,bO (bD vE vZ) (.bin .pow uG uM)])] [],rT (tP [vB,bO (bD vE vZ) vI])]⟩
noncomputable def df:Fn:=⟨5,7,[sA 0 (cC 6 [vE]),iT (.or [cE vX vA,cL (bO vE vU) vP]) [rT (cC 10 [bD vE vU,vH])] [],sA 5 (iX (lS [uA,.cst (.str [45]),.cst (.str [42]),uO,.cst (.str [61]),uA,.cst (.str [45]),uO,uP,uP]) (bO (bD vE vU) (iX (lS [vU,uG]) (.blt .int [vQ])))),sA 6 (cC 11 [bA (bM vE vP) vA,vH,vJ,vQ,bS vX vA]),iT (.and [cE vY uP,cL (bO (bD vE (.cst (.int 80))) vO) vP]) [rT (tP [vY,vW,tP [vB,bA vA (bO (bD vE (.cst (.int 320))) (.cst (.int 9)))]])] [],iT (cE vY uP) [rT (tP [vY,vW,cC 11 [bA (bM vE vI) vF,vJ,vJ,vQ,bS vX vA]])] [],rT (tP [vY,vW,cC 11 [bA (bM vE vI) vF,vH,vJ,vQ,bS vX vA]])]⟩
noncomputable def fO:Fn:=⟨1,1,[iT (cE (iX vE vC) vB) [rT (lS [])] [],iT (cE (iX vE vC) vK) [rT (lS [iX vE vA])] [],rT (bA (cC 37 [iX vE vA]) (cC 37 [iX vE vF]))]⟩
noncomputable def bN:Fn:=⟨4,8,[sA 4 (.sl vE iD (aT vI)),sA 5 vE,iT (.or [.and [cE vQ vC,cE (bO (bD vH vZ) vF) vC],.and [cE vQ vF,vJ,cG (bO (bD vH vZ) vP) vC]]) [sA 5 vX] [iT (cE vQ vF) [sA 5 (.sl vE (aT vI) iD)] []],iT (cG vQ vC) [sA 4 vY] [],sA 6 (cC 11 [vH,vY,vX,.or [cG vQ vC,.not vJ],bA vA (bO (bD vH (.cst (.int 24))) vO)]),rT (tP [vW,cN (.comp uI [7] bY .val [cC 37 [vW]] [cI uI (.sl vE (aT vI) iD)]) (lS [])])]⟩
noncomputable def fA:Fn:=⟨1,2,[sA 1 (.mth .pop vE []),iT (cE (iX vH vC) vG) [iT (.and [cE (iX (iX vH vA) vC) uO,cE (iX (iX (iX vH vA) vA) vC) vK]) [eP (aP (iX vH vF) [tP [vL,iX (iX (iX vH vA) vA) vA,tP [uA,iX (iX vH vA) vA,tP [vB,vA]]]])] [],eP (aP vAb [tP [vG,iX vH vA,.blt .tuple [iX vH vF]]])] [iT (.isN eQ (iX vH vO)) [eP (aP vE [lS [iX vH vC,iX vH vA,lS [],iX vH vP,.blt .tuple [iX vH vF]]])] [eP (aP vAb [tP [vM,iX vH vA,iX vH vO,.blt .tuple [iX vH vF]]])]]]⟩
noncomputable def gq:Fn:=⟨4,11,[sA 4 (bO vJ vZ),sA 5 (cN (.comp (.var 10) [10] bY .val [vE] [iX (.var 10) vP]) (lS [])),.asg [6,7] eQ (cC 38 [vH,vJ,vY,vQ]),sA 8 (.and [cE vQ vC,.or [vY,uI]]),iT (cE vQ vF) [sA 4 (iX (lS [vC,vO,vU,vC]) (bO (bD vJ uS) vO))] [],iT (cL vX vO) [sA 9 (iX (lS [vH,vH,iX (lS [.sl vH iD (aT vI),.sl vH (aT vI) iD]) (.blt .int [cE (bO (bD vJ uS) vO) vP])]) vQ),iT uN [sA 9 (.sl vH (aT vI) iD)] [],eP (aP vAb [tP [vL,iX (.var 9) (bO (bD vJ (.cst (.int 96))) (bL [.var 9])),vW]])] [iT (.and [cE vX vO,.not uN]) [eP (aP vAb [tP [vD,vW]])] [iT (cE vX vI) [eP (aP vAb [tP [vN]])] [iT (.and [cL vX vU,cL (bL [vE]) vU]) [eP (aP vE [lS [vM,vW,lS [],uI,.cst .none]])] [iT (.and [cL vX uG,cL (bL [vE]) vU,.not uN]) [iT (.and [cE vQ vC,cG (bO (bD vJ (.cst (.int 96))) vO) vC]) [sA 6 (tP [uO,tP [vK,iX vH (bO (bD vJ (.cst (.int 384))) vI)],tP [vB,bA vA (bO (bD vJ (.cst (.int 1920))) vO)]])] [],eP (aP vE [lS [vG,vW,lS [],uI,.cst .none]])] [iT (cG (bL [vE]) vA) [eP (cC 39 [vE])] []]]]]]]⟩
noncomputable def dL:Fn:=⟨3,8,[sA 3 (lS [lS [.cst (.str []),.cst .none,lS [],vV,.cst .none]]),.for_ [4,5] eQ .enum [vE] [sA 6 (cC 6 [bM (cC 6 [bA vY (bM (.cst (.int 131)) vX)]) (bA vX vF)]),sA 7 vC,iT (.and [cE vJ vA,cE (bO (bD vW (.cst (.int 4096))) vO) vC]) [sA 7 vA] [],iT (.and [cG vJ vA,cE vX (bO vJ (bL [vE]))]) [sA 7 vF] [],eP (cC 40 [vQ,vH,vW,uI])],.while_ (cG (bL [vQ]) vA) [eP (cC 39 [vQ])],rT (iX (iX vQ vC) vF)]⟩
noncomputable def jM:Fn:=⟨1,2,[sA 1 (lS [.isi vE [.cls 1],.isi vE [.cls 2],.isi vE [.cls 3],.isi vE [.cls 4]]),sA 1 (bA vH (lS [.isi vE [.cls 5],.isi vE [.cls 6],.isi vE [.cls 7]])),rT (.and [.isi vE [.valueError],cE (.mth .count vH [uE]) vA])]⟩
noncomputable def iZ:Fn:=⟨2,4,[sA 2 (lS []),.for_ [3] bY .val [vE] [iT (cE (iX vQ vC) vM) [sA 3 (tP [vM,iX vQ vA,cC 69 [iX vQ vF,vH],cC 69 [iX vQ vP,vH]])] [iT (cE (iX vQ vC) vG) [sA 3 (tP [vG,iX vQ vA,cC 69 [iX vQ vF,vH]])] []],eP (aP vJ [vQ])],rT (iX (lS [vJ,.blt .tuple [vJ]]) vH)]⟩
noncomputable def fP:Fn:=⟨1,3,[.for_ [1] bY .val [vE] [.for_ [2] bY .val [.sl vH (aT vF) iD] [iT (.isi vJ [.list]) [eP (cC 70 [vJ])] []]],eP (aP vE [tP [vN]])]⟩
noncomputable def kR:Fn:=⟨1,3,[rT (.blt .sum [.comp (bA vA (.blt .sum [.comp (cC 71 [vJ]) [2] bY .val [cC 72 [vH]] []])) [1] bY .val [vE] []])]⟩
noncomputable def i9:Fn:=⟨1,1,[iT (cE (iX vE vC) vL) [rT (lS [])] [],rT (.blt .list [.sl vE (aT vF) iD])]⟩
noncomputable def eD:Fn:=⟨1,4,[sA 1 (lS []),.for_ [2] bY .val [vE] [iT (cE (iX vJ vC) vL) [sA 1 (bA (bA vH (lS [iX vJ vA])) (cC 37 [iX vJ vF]))] [iT (cN (iX vJ vC) vN) [sA 1 (bA vH (cC 37 [iX vJ vA]))] []],.for_ [3] bY .val [cC 72 [vJ]] [sA 1 (bA vH (cC 73 [vQ]))]],rT vH]⟩
noncomputable def bF:Fn:=⟨5,13,[sA 5 (.blt .sortedSet [bA (bA (iX vJ vC) (iX vJ vA)) (cC 73 [vQ])]),sA 6 (lS [.cst .none,.cst .none,.cst .none,.cst .none,.cst .none]),.for_ [7] bY .range1 [vI] [sA 8 (bO (bA vX (bM uI (bA vA (bO (bD vX vI) vO)))) vI),iT (cE uN vC) [.setIdx vW vC vAf] [iT (cE uN vA) [.setIdx vW vA vAg] [iT (cE uN vF) [.setIdx vW vF (.umth 0 67 [98,108,111,99,107] vE [])] [iT (cE uN vP) [.setIdx vW vP (.umth 0 68 [109,97,110,121] vE [])] [.setIdx vW vO (.comp (.umth 0 65 [107,105,110,100] vE [.var 12]) [12] bY .val [bA (bA (iX vJ vC) (iX vJ vA)) (.sl vH (aT vO) iD)] [])]]]]],iT (.or [.not (.isi (iX vW vC) [.list]),cN (iX vW vC) vY,.not (.isi (iX vW vA) [.tuple])]) [rT vV] [],iT (.or [cN (iX vW vA) (tP [iX vJ vC,iX vJ vA]),.not (.isi (iX vW vF) [.tuple]),cN (iX vW vF) vQ]) [rT vV] [],sA 9 (lS [bA (lS [uB]) (iX vW vC),bA (lS [uB]) (iX (iX vW vA) vC),bA (lS [uB]) (iX (iX vW vA) vA)]),.for_ [10] bY .val [lS [iX vW vC,iX (iX vW vA) vC,iX (iX vW vA) vA]] [eP (.mth .insert (.var 10) [vC,uB])],sA 11 (bA (bM (lS [.cst (.str [111,112,101,110])]) (bL [iX vJ vC])) (bM (lS [uQ]) (bL [iX vJ vA]))),iT (cN (iX vW vO) (bA (.var 11) (bM (lS [.cst (.str [102,114,101,101])]) (bL [.sl vH (aT vO) iD])))) [rT vV] [],iT (.or [.not (cC 19 [iX vW vP]),cN (iX vW vP) (cC 71 [vQ])]) [rT vV] [],iT (.or [cN vAf vY,cN vAg (tP [iX vJ vC,iX vJ vA])]) [rT vV] [],rT (cE (lS [iX vW vC,iX (iX vW vA) vC,iX (iX vW vA) vA]) (.var 9))]⟩
noncomputable def jN:Fn:=⟨2,4,[sA 2 (tP [vK,vE]),.for_ [3] bY .range1 [bS vH vA] [sA 2 (iX (lS [tP [uA,vJ,tP [vB,vA]],tP [.cst (.str [42]),tP [vB,vF],vJ]]) (bO vQ vF))],rT vJ]⟩
noncomputable def ja:Fn:=⟨1,3,[sA 1 (lS [tP [vN]]),.for_ [2] bY .range1 [bS vE vA] [sA 1 (iX (lS [lS [tP [vG,tP [vB,vC],vH]],lS [tP [vM,tP [vB,vA],lS [],vH]]]) (bO vJ vF))],rT vH]⟩
noncomputable def fQ:Fn:=⟨2,3,[sA 2 (lS [vI,vN,lS [vN],tP [],tP [vA],tP [.cst (.str [106,117,109,112])],tP [vN,vA],tP [vD],tP [vL,iX vE vC]]),sA 2 (bA vJ (lS [tP [vL,.cst (.str [65]),tP [vB,vA]],tP [vL,vM,tP [vB,vA]],tP [vL,uS,tP [vB,vA]]])),sA 2 (bA vJ (lS [tP [vM,tP [vB,vA],lS []]])),sA 2 (bA vJ (lS [tP [vG,tP [vB,vA],vI],tP [vM,tP [vB,vA],lS [],uL],tP [vG,tP [vB,vA],.cst .none]])),sA 2 (bA vJ (lS [tP [vD,vI],tP [vD,tP [vB,.bin .pow uG uM]],tP [vD,tP [vB,.neg vA]]])),sA 2 (bA vJ (lS [tP [vD,tP [vB,uE]]])),sA 2 (bA vJ (lS [tP [vD,tP [vK,.cst (.str [57,97])]],tP [vD,tP [vK,uJ]]])),sA 2 (bA vJ (lS [tP [vD,tP [.cst (.str [33]),tP [vB,vA],tP [vB,vA]]],tP [vD,tP [uA,tP [vB,vA]]]])),sA 2 (bA vJ (lS [tP [vD,lS [vB,vA]],tP [vD,tP [vK,uC]],tP [vD,tP [vK,.cst (.str [])]]])),rT (iX vJ (bO vH (.cst (.int 27))))]⟩
noncomputable def fS:Fn:=⟨3,5,[.try_ [eP (.new 0 63 [vE,vH,vJ])] 0 3 [iT (.not (cC 47 [vQ])) [rT (.cst (.str [110,111,110,101]))] [],sA 4 (lS [.isi vQ [.cls 1],.isi vQ [.cls 2],.isi vQ [.cls 3],.isi vQ [.cls 4]]),rT (iX (lS [vK,uR,vT,vS,.cst (.str [110,111,110,101])]) (.mth .index (bA vX (lS [uE])) [uE]))],rT uH]⟩
noncomputable def ji:Fn:=⟨1,7,[sA 1 (cC 75 [uD,uK]),sA 2 (lS [tP [tP [vG,vI,cC 76 [vZ]],vT],tP [tP [vG,vH,lS [vI]],vS],tP [tP [vM,vH,lS [],uL],vT]]),sA 2 (bA vJ (lS [tP [tP [vD,tP [uA,vH,vI]],vS],tP [tP [vD,tP [uA,vI,vH]],vT],tP [tP [vL,.cst (.str [65]),vH],vT]])),sA 2 (bA vJ (lS [tP [tP [vM,tP [vB,vA],lS [tP [vD,vI]],cC 76 [vZ]],vT],tP [tP [vG,vH,.cst .none],vT]])),sA 2 (bA vJ (lS [tP [tP [vM,tP [vB,vA],cC 76 [vZ],lS [vI]],vS],tP [tP [vD,vH,vI],vT]])),sA 3 vI,.for_ [4] bY .range1 [vZ] [sA 3 (tP [.cst (.str [42]),tP [vB,vA],vQ])],sA 2 (bA vJ (lS [tP [tP [vD,vQ],vS],tP [tP [vD,tP [uA,vQ,vH]],vS]])),sA 2 (bA vJ (lS [tP [tP [vD,tP [.cst (.str [45]),tP [.cst (.str [33]),vH,vA],vI]],vT]])),sA 5 (iX vJ (bO vE uK)),iT (.and [cE (bO (bD vE uK) vP) vA,cN (iX vY vC) (tP [vM,vH,lS [],uL]),cN (iX vY vC) (tP [vG,vH,.cst .none])]) [sA 6 (iX vY vC),iT (.or [.and [cE (iX vW vC) vD,cE (bL [vW]) vF],cE (iX vW vC) vG,cE (iX vW vC) vM]) [.for_ [4] bY .range1 [vU] [sA 6 (tP [vG,tP [vB,vC],lS [vW]])],rT (tP [vW,vS])] []] [],rT vY]⟩
noncomputable def dX:Fn:=⟨3,9,[sA 3 (.blt .list [vH]),sA 4 (bO (bD vJ vU) (bA (bL [vQ]) vA)),sA 5 (bD vJ vU),iT (cE (bO vJ vU) vC) [sA 6 (iX (lS [.cst (.str []),.cst (.str [65]),vM,.cst (.str [57]),.cst .none,vI,uJ,.cst (.str [97,32,98])]) (bO vY vU)),rT (cE (cC 78 [lS [iX vE vC,vW],lS [vW,iX vE vC],vQ]) vK)] [],iT (cE (bO vJ vU) vA) [sA 7 (lS [lS [lS [iX vE vC,iX vE vC],lS []],lS [lS [iX vE vC],lS [iX vE vA,iX vE vC]]]),sA 7 (iX (bA uI (lS [lS [lS [],lS [iX vE vC,iX vE vC,vI]],lS [lS [iX vE vC,iX vE vC],.cst .none]])) (bO vY vO)),rT (cE vAi uR)] [],iT (cE (bO vJ vU) vF) [sA 7 (iX (lS [lS [.cst .none,lS []],lS [iX vE vC,lS []],lS [lS [],iX vE vC],lS [lS [],vI]]) (bO vY vO)),rT (cE vAi vK)] [],iT (cL (bO vJ vU) vI) [eP (.mth .insert vQ [vX,cC 77 [vE,cC 6 [vJ]]]),eP (aP vQ [tP [vD,cC 75 [uD,uK]]]),iT (cN vAa vT) [rT vV] [],eP (.mth .popAt vQ [vX]),iT (cN vAa vS) [rT vV] [],eP (.mth .pop vQ []),rT (cE vAa uH)] [],iT (cE (bO vJ vU) vI) [eP (.mth .insert vQ [vX,iX (lS [tP [vD,cC 75 [uD,uK]],tP [vL,uD,cC 75 [uD,.cst (.int 20)]]]) (bO vY vF)]),rT (cE vAc vS)] [],iT (.and [cE (bO vJ vU) uM,cG (bO vY vP) vC]) [sA 8 (cC 79 [bD vY vP]),eP (.mth .insert vQ [vX,iX uN vC]),rT (cE vAc (iX uN vA))] [],iT (cE (bO vJ vU) uM) [rT (cE (cC 78 [lS [],lS [],bA (bA vQ (cC 76 [bA (.cst (.int 9)) (bO (bD vY vP) vP)])) (lS [vI])]) vS)] [],iT (cN (cC 78 [lS [],lS [],bA (cC 76 [vU]) (lS [tP [vD,cC 75 [uD,vZ]]])]) uH) [rT vV] [],rT (cE (cC 78 [lS [],lS [],iX (lS [.cst .none,uL,vI,.dict0]) (bO vY vO)]) vT)]⟩
noncomputable def cy:Fn:=⟨1,15,[sA 1 (cC 9 [cC 5 [vE,vC],cC 5 [vE,vA]]),sA 2 (.blt .tuple [cC 41 [.sl vE (aT vP) (aT (.cst (.int 43))),vH,vA]]),sA 3 (cC 5 [vE,vF]),sA 4 (cC 6 [bA (bD vQ vP) (bM (.cst (.int 1009)) (bO (cC 5 [vE,vC]) (.bin .pow uG uM)))]),iT (cG (bO vQ vP) vC) [rT (cC 80 [vH,vJ,cC 6 [vX]])] [],sA 5 (cC 69 [vJ,bO vX vF]),sA 6 (lS [.sl vH iD (aT vF),.sl vH (aT vF) (aT vO)]),iT (cE (bO (bD vX vO) vP) vA) [sA 7 (.comp (.comp (bA (bA uB (.blt .str [.var 11])) (.blt .str [.var 12])) [12] bY .range1 [bO (bD vX vZ) (.cst (.int 30))] []) [11] bY .range1 [vF] []),sA 6 (.comp (bA (iX vW (.var 13)) (.comp (.var 14) [14] bY .val [iX uI (.var 13)] [cJ (.var 14) vH])) [13] bY .range1 [vF] [])] [],sA 8 (iX (lS [.blt .list [iX vW vC],.blt .tuple [iX vW vC]]) (bO (bD vX vF) vF)),sA 9 (iX (lS [.blt .list [iX vW vA],.blt .tuple [iX vW vA]]) (bO (bD vX vP) vF)),sA 10 (.new 0 63 [uN,.var 9,vY]),iT (.not (cC 74 [.var 10,vH,vW,vJ,bD vX (.cst (.int 360))])) [rT vV] [],iT (.isi vY [.list]) [eP (cC 70 [vY])] [],iT (.isi uN [.list]) [eP (aP uN [iX vH vI])] [],iT (.isi (.var 9) [.list]) [eP (.mth .clear (.var 9) [])] [],rT (cC 74 [.var 10,vH,vW,vJ,bD vX (.cst (.int 7200))])]⟩
noncomputable def gl:Nat->Option (Str × MV)
 | 0=>aT ("MODULUS",(.int 1000000))
 | 1=>aT ("WORDS",(.gt [[115,101,116],[116,101,108,108],[115,107,105,112],[105,102],[101,108,115,101],[119,104,105,108,101],[101,110,100]]))
 | 2=>aT ("SIGNS",(.gt [[43],[45],[42],[47],[60],[61]]))
 | 3=>aT ("LETTERS",(.str [97,98,99,100,101,102,103,104,105,106,107,108,109,110,111,112,113,114,115,116,117,118,119,120,121,122]))
 | 4=>aT ("FIGURES",(.str [48,49,50,51,52,53,54,55,56,57]))
 | 5=>aT ("MOST_SIGNS",(.int 8))
 | 6=>aT ("DEEPEST",(.int 12))
 | 7=>aT ("DEEPEST_ROW",(.int 8))
 | 9=>aT ("THINGS",(.cdict [([115,101,116],3),([116,101,108,108],2),([115,107,105,112],1),([105,102],4),([119,104,105,108,101],3)]))
 | _=>iD
noncomputable def tab:Tab:=(22,"is_whole",["thing","most"],kN)::
 (23,"is_number",["thing"],jH)::
 (24,"is_name",["thing","sign"],ni)::
 (55,"need_formula",["thing","deep","good"],cF)::
 (0,"all_names",["formula"],jI)::
 (1,"names_in",["formula"],kO)::
 (56,"is_block",["thing"],gV)::
 (25,"blocks_in",["row"],gj)::
 (26,"formula_of",["row"],fw)::
 (57,"has_form",["row"],gW)::
 (58,"need_rows",["block","deep","row","inner"],jJ)::
 (59,"need_names",["names","known","name"],iY)::
 (60,"settled",["block","rows","row"],nj)::
 (61,"numbered",["block","first","above","found","number","row","inner","rows"],kP)::
 (62,"names_of",["row","found"],kQ)::
 (19,"_law_whole",["_law_found"],jK)::
 (5,"_law_cell_at",["_law_script","_law_k"],gX)::
 (6,"_law_mixed",["_law_number"],jL)::
 (7,"_law_name_by",["_law_cell","_law_found","_law_number","_law_k"],gY)::
 (8,"_law_twin",["_law_name","_law_cell","_law_some","_law_at","_law_step","_law_found"],gZ)::
 (9,"_law_names",["_law_one","_law_other","_law_names_here","_law_k","_law_name"],gm)::
 (10,"_law_end_by",["_law_number","_law_names_here"],fy)::
 (11,"_law_formula_by",["_law_number","_law_names_here","_law_low","_law_divide","_law_left","_law_sign","_law_one"],df)::
 (37,"_law_all_names",["_law_formula"],fO)::
 (38,"_law_row_by",["_law_names_here","_law_more","_law_dark","_law_mode","_law_low","_law_some","_law_formula"],bN)::
 (39,"_law_closed",["_law_stack","_law_frame"],fA)::
 (40,"_law_put",["_law_stack","_law_names_here","_law_more","_law_mode","_law_way","_law_dark","_law_formula","_law_secret","_law_shut","_law_some"],gq)::
 (41,"_law_block_by",["_law_cells","_law_names_here","_law_loose","_law_stack","_law_turn","_law_cell","_law_more","_law_mode"],dL)::
 (47,"_law_alone",["_law_e","_law_told"],jM)::
 (69,"_law_handed",["_law_block","_law_way","_law_rows","_law_row"],iZ)::
 (70,"_law_changed",["_law_block","_law_row","_law_inner"],fP)::
 (71,"_law_many",["_law_block"],kR)::
 (72,"_law_blocks",["_law_row"],i9)::
 (73,"_law_block_names",["_law_block","_law_found","_law_row","_law_inner"],eD)::
 (74,"_law_asked",["_law_program","_law_names_here","_law_pairs","_law_block","_law_way","_law_due","_law_told","_law_k","_law_at","_law_kept","_law_row","_law_known"],bF)::
 (75,"_law_chain",["_law_name","_law_many_here","_law_found","_law_k"],jN)::
 (76,"_law_nested",["_law_many_here","_law_found","_law_k"],ja)::
 (77,"_law_wrong_row",["_law_names_here","_law_cell","_law_some"],fQ)::
 (78,"_law_refused",["_law_opens","_law_secrets","_law_block","_law_e","_law_told"],fS)::
 (79,"_law_two",["_law_cell","_law_deep","_law_some","_law_end","_law_k","_law_found","_law_row"],ji)::
 (80,"_law_wrong",["_law_names_here","_law_block","_law_cell","_law_rows","_law_at","_law_more","_law_wrong_here","_law_pairs","_law_found"],dX)::
 (81,"law",["_law_script","_law_names_here","_law_block","_law_cell","_law_more","_law_handed_here","_law_pairs","_law_some","_law_opens","_law_secrets","_law_program"],cy)::[]
noncomputable def mtab:CG:=[(63,0,"__init__",["self","opens","secrets","block","known","many"],dT),
 (64,0,"names",["self","found","number","row","above"],fM),
 (65,0,"kind",["self","name"],gG),
 (66,0,"told",["self"],gH),
 (67,0,"block",["self"],fN),
 (68,0,"many",["self"],gI)]
noncomputable def PP (f:Nat):Option Fn:=(fnP tab f).or (mtP mtab f)
end Internal
end
section
namespace Internal
theorem zU (I:Nat->MS->Prop)(Rt:MV->MS->Prop)(h0:I 0 m)(hg:∀i m,I i m->aN g m.heap)
  (hstep:∀i x m (P:Fl->MS->Prop),items[i]?=aT x->I i m->(∀m',I (i+1) m'->P .next m')->(∀m',I (i+1) m'->P .next m')->(∀r m',Rt r m'->P (.ret r) m')->step x P m)
  (hend:∀m,I items.length m->Q .next m) (hret:∀r m,Rt r m->Q (.ret r) m):dJ g step Q items m:=by
 have key:∀(l:List MV) (i:Nat) (m:MS),i+l.length=items.length->items.drop i=l->I i m->dJ g step Q l m:=by
  intro l
  induction l with
  | nil=>
   intro i m hl e hI;have hl:i=items.length:=hl;subst hl;rw [gL];exact ⟨hg _ m hI,hend m hI⟩
  | cons x l ih=>
   intro i m hl e hI;have hlt:i<items.length:=by simp only [MD] at hl;exact n1 (Lw hl) (by simp +arith only)
   have e':=L9 hlt;rw [e] at e';simp only [List.cons.injEq] at e';rw [d4];refine ⟨hg i m hI,hstep i x m _ (by rw [Ls hlt,e'.1]) hI (λm' h'=>?_) (λm' h'=>?_) λr m' h'=>hret r m' h'⟩
   ·exact ih (i+1) m' (by simp only [MD] at hl;lia) e'.2.symm h'
   ·exact ih (i+1) m' (by simp only [MD] at hl;lia) e'.2.symm h'
 exact key items 0 m (by simp) (by simp) h0
theorem kj (st:Nat->σ->MS)(I:Nat->σ->Prop)(w:σ)(e0:m=st 0 w)(h0:I 0 w)(hg:∀i w,I i w->aN g (st i w).heap)
  (hstep:∀i x w (P:Fl->MS->Prop),items[i]?=aT x->I i w->(∀w,I (i+1) w->P .next (st (i+1) w))->(∀w,I (i+1) w->P .next (st (i+1) w))->step x P (st i w)) (hend:∀w,I items.length w->Q .next (st items.length w)):dJ g step Q items m:=by
 refine zU (λi m=>∃w,m=st i w/\I i w) (λ_ _=>False) ⟨w,e0,h0⟩ (λi m hI=>?_) (λi x m P hx hI h1 h2 _=>?_) (λm hI=>?_) (λ_ _ h=>h.elim)
 ·obtain ⟨w,rfl,h⟩:=hI;exact hg i w h
 ·obtain ⟨w,rfl,h⟩:=hI;exact hstep i x w P hx h (λw h=>h1 _ ⟨w,rfl,h⟩) λw h=>h2 _ ⟨w,rfl,h⟩
 ·obtain ⟨w,rfl,h⟩:=hI;exact hend w h
theorem lK {α β:Type}(st:Nat->α->β->MS)(I:Nat->α->β->Prop){g:Gd}{step:MV->(Fl->MS->Prop)->MS->Prop}{Q:Fl->MS->Prop}{items:List MV}{m:MS}(a:α)(b:β)(e0:m=st 0 a b)(h0:I 0 a b)(hg:∀i a b,I i a b->aN g (st i a b).heap)
  (hstep:∀i x a b (P:Fl->MS->Prop),items[i]?=aT x->I i a b->(∀a b,I (i+1) a b->P .next (st (i+1) a b))->(∀a b,I (i+1) a b->P .next (st (i+1) a b))->step x P (st i a b)) (hend:∀a b,I items.length a b->Q .next (st items.length a b)):dJ g step Q items m:=
 kj (λi (w:α × β)=>st i w.1 w.2) (λi w=>I i w.1 w.2) (a,b) e0 h0 (λi w=>hg i w.1 w.2) (λi x w P hx hI h1 h2=>hstep i x w.1 w.2 P hx hI (λa b h=>h1 (a,b) h) λa b h=>h2 (a,b) h) λw=>hend w.1 w.2
theorem gu {α β γ:Type}(st:Nat->α->β->γ->MS)(I:Nat->α->β->γ->Prop){g:Gd}{step:MV->(Fl->MS->Prop)->MS->Prop}{Q:Fl->MS->Prop}{items:List MV}{m:MS}(a:α)(b:β)(c:γ)(e0:m=st 0 a b c)(h0:I 0 a b c)(hg:∀i a b c,I i a b c->aN g (st i a b c).heap)
  (hstep:∀i x a b c (P:Fl->MS->Prop),items[i]?=aT x->I i a b c->(∀a b c,I (i+1) a b c->P .next (st (i+1) a b c))->(∀a b c,I (i+1) a b c->P .next (st (i+1) a b c))->step x P (st i a b c)) (hend:∀a b c,I items.length a b c->Q .next (st items.length a b c)):dJ g step Q items m:=
 kj (λi (w:α × β × γ)=>st i w.1 w.2.1 w.2.2) (λi w=>I i w.1 w.2.1 w.2.2) (a,b,c) e0 h0 (λi w=>hg i w.1 w.2.1 w.2.2) (λi x w P hx hI h1 h2=>hstep i x w.1 w.2.1 w.2.2 P hx hI (λa b c h=>h1 (a,b,c) h) λa b c h=>h2 (a,b,c) h) λw=>hend w.1 w.2.1 w.2.2
theorem CM {α β γ δ:Type}(st:Nat->α->β->γ->δ->MS)(I:Nat->α->β->γ->δ->Prop){g:Gd}{step:MV->(Fl->MS->Prop)->MS->Prop}{Q:Fl->MS->Prop}{items:List MV}{m:MS}(a:α)(b:β)(c:γ)(d:δ)(e0:m=st 0 a b c d)(h0:I 0 a b c d)(hg:∀i a b c d,I i a b c d->aN g (st i a b c d).heap)
  (hstep:∀i x a b c d (P:Fl->MS->Prop),items[i]?=aT x->I i a b c d->(∀a b c d,I (i+1) a b c d->P .next (st (i+1) a b c d))->(∀a b c d,I (i+1) a b c d->P .next (st (i+1) a b c d))->step x P (st i a b c d)) (hend:∀a b c d,I items.length a b c d->Q .next (st items.length a b c d)):dJ g step Q items m:=
 kj (λi (w:α × β × γ × δ)=>st i w.1 w.2.1 w.2.2.1 w.2.2.2) (λi w=>I i w.1 w.2.1 w.2.2.1 w.2.2.2) (a,b,c,d) e0 h0 (λi w=>hg i w.1 w.2.1 w.2.2.1 w.2.2.2) (λi x w P hx hI h1 h2=>hstep i x w.1 w.2.1 w.2.2.1 w.2.2.2 P hx hI (λa b c d h=>h1 (a,b,c,d) h) λa b c d h=>h2 (a,b,c,d) h) λw=>hend w.1 w.2.1 w.2.2.1 w.2.2.2
theorem pL {α β γ δ ε:Type}(st:Nat->α->β->γ->δ->ε->MS)(I:Nat->α->β->γ->δ->ε->Prop){g:Gd}{step:MV->(Fl->MS->Prop)->MS->Prop}{Q:Fl->MS->Prop}{items:List MV}{m:MS}(a:α)(b:β)(c:γ)(d:δ)(e:ε)(e0:m=st 0 a b c d e)(h0:I 0 a b c d e)(hg:∀i a b c d e,I i a b c d e->aN g (st i a b c d e).heap)
  (hstep:∀i x a b c d e (P:Fl->MS->Prop),items[i]?=aT x->I i a b c d e->(∀a b c d e,I (i+1) a b c d e->P .next (st (i+1) a b c d e))->(∀a b c d e,I (i+1) a b c d e->P .next (st (i+1) a b c d e))->step x P (st i a b c d e)) (hend:∀a b c d e,I items.length a b c d e->Q .next (st items.length a b c d e)):dJ g step Q items m:=
 kj (λi (w:α × β × γ × δ × ε)=>st i w.1 w.2.1 w.2.2.1 w.2.2.2.1 w.2.2.2.2) (λi w=>I i w.1 w.2.1 w.2.2.1 w.2.2.2.1 w.2.2.2.2) (a,b,c,d,e) e0 h0 (λi w=>hg i w.1 w.2.1 w.2.2.1 w.2.2.2.1 w.2.2.2.2) (λi x w P hx hI h1 h2=>hstep i x w.1 w.2.1 w.2.2.1 w.2.2.2.1 w.2.2.2.2 P hx hI (λa b c d e h=>h1 (a,b,c,d,e) h) λa b c d e h=>h2 (a,b,c,d,e) h) λw=>hend w.1 w.2.1 w.2.2.1 w.2.2.2.1 w.2.2.2.2
theorem pM {α β γ δ ε ζ:Type}(st:Nat->α->β->γ->δ->ε->ζ->MS)(I:Nat->α->β->γ->δ->ε->ζ->Prop){g:Gd}{step:MV->(Fl->MS->Prop)->MS->Prop}{Q:Fl->MS->Prop}{items:List MV}{m:MS}(a:α)(b:β)(c:γ)(d:δ)(e:ε)(f:ζ)(e0:m=st 0 a b c d e f)(h0:I 0 a b c d e f)(hg:∀i a b c d e f,I i a b c d e f->aN g (st i a b c d e f).heap)
  (hstep:∀i x a b c d e f (P:Fl->MS->Prop),items[i]?=aT x->I i a b c d e f->(∀a b c d e f,I (i+1) a b c d e f->P .next (st (i+1) a b c d e f))->(∀a b c d e f,I (i+1) a b c d e f->P .next (st (i+1) a b c d e f))->step x P (st i a b c d e f)) (hend:∀a b c d e f,I items.length a b c d e f->Q .next (st items.length a b c d e f)):dJ g step Q items m:=
 kj (λi (w:α × β × γ × δ × ε × ζ)=>st i w.1 w.2.1 w.2.2.1 w.2.2.2.1 w.2.2.2.2.1 w.2.2.2.2.2) (λi w=>I i w.1 w.2.1 w.2.2.1 w.2.2.2.1 w.2.2.2.2.1 w.2.2.2.2.2) (a,b,c,d,e,f) e0 h0 (λi w=>hg i w.1 w.2.1 w.2.2.1 w.2.2.2.1 w.2.2.2.2.1 w.2.2.2.2.2) (λi x w P hx hI h1 h2=>hstep i x w.1 w.2.1 w.2.2.1 w.2.2.2.1 w.2.2.2.2.1 w.2.2.2.2.2 P hx hI (λa b c d e f h=>h1 (a,b,c,d,e,f) h) λa b c d e f h=>h2 (a,b,c,d,e,f) h) λw=>hend w.1 w.2.1 w.2.2.1 w.2.2.2.1 w.2.2.2.2.1 w.2.2.2.2.2
structure A3 (p1 p2 p3:Prop):Prop where
 h1:p1
 h2:p2
 h3:p3
structure A4 (p1 p2 p3 p4:Prop):Prop where
 h1:p1
 h2:p2
 h3:p3
 h4:p4
structure A5 (p1 p2 p3 p4 p5:Prop):Prop where
 h1:p1
 h2:p2
 h3:p3
 h4:p4
 h5:p5
structure A6 (p1 p2 p3 p4 p5 p6:Prop):Prop where
 h1:p1
 h2:p2
 h3:p3
 h4:p4
 h5:p5
 h6:p6
structure A7 (p1 p2 p3 p4 p5 p6 p7:Prop):Prop where
 h1:p1
 h2:p2
 h3:p3
 h4:p4
 h5:p5
 h6:p6
 h7:p7
theorem A3.el {p1 p2 p3 G:Prop}(h:A3 p1 p2 p3)(k:p1->p2->p3->G):G:=k h.h1 h.h2 h.h3
theorem A4.el {p1 p2 p3 p4 G:Prop}(h:A4 p1 p2 p3 p4)(k:p1->p2->p3->p4->G):G:=k h.h1 h.h2 h.h3 h.h4
theorem A5.el {p1 p2 p3 p4 p5 G:Prop}(h:A5 p1 p2 p3 p4 p5)(k:p1->p2->p3->p4->p5->G):G:=k h.h1 h.h2 h.h3 h.h4 h.h5
theorem A6.el {p1 p2 p3 p4 p5 p6 G:Prop}(h:A6 p1 p2 p3 p4 p5 p6)(k:p1->p2->p3->p4->p5->p6->G):G:=k h.h1 h.h2 h.h3 h.h4 h.h5 h.h6
theorem A7.el {p1 p2 p3 p4 p5 p6 p7 G:Prop}(h:A7 p1 p2 p3 p4 p5 p6 p7)(k:p1->p2->p3->p4->p5->p6->p7->G):G:=k h.h1 h.h2 h.h3 h.h4 h.h5 h.h6 h.h7
theorem iI (I:Nat->MS->Prop)(hno:∀m,¬ I 0 m)
  (hturn:∀k m (W:MS->Prop),I (k+1) m->(∀m',I k m'->W m')->c (cWh b W Q) m):∀(k:Nat) (m:MS),I k m->ft c b Q k m
 | 0,m,h=>(hno m h).elim
 | k+1,m,h=>by
  rw [kH];exact hturn k m (λm=>ft c b Q k m) h λm' h'=>iI I hno hturn k m' h'
theorem JV (st:σ->MS)(I:Nat->σ->Prop)(hno:∀w,¬ I 0 w)
  (hturn:∀k w (W:MS->Prop),I (k+1) w->(∀w,I k w->W (st w))->c (cWh b W Q) (st w)) (k:Nat) (w:σ) (e:m=st w) (h:I k w):ft c b Q k m:=
 iI (λk m=>∃w,m=st w/\I k w) (λm h=>by obtain ⟨w,_,h⟩:=h;exact hno w h) (λk m W h hW=>by obtain ⟨w,rfl,h⟩:=h;exact hturn k w W h λw h=>hW _ ⟨w,rfl,h⟩) k m ⟨w,e,h⟩
noncomputable abbrev Hpp:=List MO
theorem aa (x:h<+:hp):h<+:hp++[o]:=x.trans (Mx _ _)
theorem ai (h:List MO):h<+:h:=Lq _
theorem ak {h hp:List MO}(x:h<+:hp){i:Nat}{o:MO}(e:h[i]?=aT o):hp[i]?=aT o:=by
 obtain ⟨t,rfl⟩:=x;rw [Ms (By.mp e).1];exact e
theorem br (x:h<+:hp)(e:h.length<=i):h<+:hp.set i o:=by
 obtain ⟨t,rfl⟩:=x;rw [P0 _ _ e];exact Mx _ _
theorem ae (h:List α)(o:α):(h++[o])[h.length]?=aT o:=by simp
theorem aj {α:Type}{h:List α}{o o':α}{i:Nat}(e:h[i]?=aT o):(h++[o'])[i]?=aT o:=by
 rw [Ms (By.mp e).1];exact e
theorem get_set {h:List α}(e:h[i]?=aT o):(h.set i o')[i]?=aT o':=by
 have:=(By.mp e).1;simp [this]
theorem jO {m:MS}:(m.push o).heap[m.heap.length]?=aT o:=ae _ _
theorem gv {m:MS}{o o':MO}{i:Nat}(e:m.heap[i]?=aT o):(m.push o').heap[i]?=aT o:=aj e
theorem xr {m:MS}{o o':MO}:((m.push o).push o').heap[m.heap.length]?=aT o:=aj (ae _ _)
theorem JW {m:MS}(e:m.heap[i]?=aT o):(m.put i o').heap[i]?=aT o':=get_set e
theorem fe (h1:-16777216<=k)(h2:k<=16777216):fW .range1 [.int k] hp=aT ((Nr k.toNat).map (λ(i:Nat)=>.int i),iD):=by
 show (match decide (-16777216<=k/\k<=16777216) with
  | true=>aT ((Nr k.toNat).map (λ(i:Nat)=>MV.int i),iD)
  | false=>iD)=_
 rw [decide_eq_true ⟨h1,h2⟩]
theorem bf (e:hp[r]?=aT (.list xs)):fW .val [.ref r] hp=aT (xs,aT (r,.list xs)):=by
 show (match hp[r]? with
  | some (.list xs)=>aT (xs,aT (r,MO.list xs))
  | _=>iD)=_
 rw [e]
theorem xt (e:hp[r]?=aT (.list xs)):fW .enum [.ref r] hp=aT (xs.zipIdx.map (λp=>.tup [.int p.2,p.1]),aT (r,.list xs)):=by
 show (match hp[r]? with
  | some (.list xs)=>aT (xs.zipIdx.map (λp:MV × Nat=>MV.tup [.int p.2,p.1]),aT (r,MO.list xs))
  | _=>iD)=_
 rw [e]
theorem eE (e:((Nr k).map (λ(i:Nat)=>MV.int i))[i]?=aT x):i<k/\x=.int i:=by
 simp only [LG,LF] at e;refine e12 e λj h1 h2=>?_;obtain ⟨h3,h4⟩:=By.mp h1;simp at h3 h4;subst h4;exact ⟨h3,h2.symm⟩
theorem iJ (k:Nat):((Nr k).map (λ(i:Nat)=>MV.int i)).length=k:=by simp
theorem uX {xs:List MV}{i:Nat}{x:MV}(e:(xs.zipIdx.map (λp=>MV.tup [.int p.2,p.1]))[i]?=aT x):∃y,xs[i]?=aT y/\x=.tup [.int i,y]:=by
 simp only [LG,LF] at e;obtain ⟨⟨y,j⟩,hj,rfl⟩:=e;rw [List.getElem?_zipIdx] at hj;simp only [LF,Nb] at hj;obtain ⟨y',hy,hj⟩:=hj
 cases hj
 exact ⟨y,hy,rfl⟩
theorem Lc {α:Type}{f:α->MV}{l:List α}{j:Nat}{x:MV}{G:MV->Prop}(h:(l.map f)[j]?=aT x)(k:∀y,l[j]?=aT y->G (f y)):G x:=by
 obtain ⟨y,h1,rfl⟩:=LF.mp (LG ..▸h);exact k y h1
theorem JX {k i:Nat}{x:MV}{G:MV->Prop}(e:((Nr k).map (λ(i:Nat)=>MV.int i))[i]?=aT x)(h:i<k->G (.int i)):G x:=by
 obtain ⟨h1,rfl⟩:=eE e;exact h h1
theorem KP {xs:List MV}{i:Nat}{x:MV}{G:MV->Prop}(e:(xs.zipIdx.map (λp=>MV.tup [.int p.2,p.1]))[i]?=aT x)(h:∀y,xs[i]?=aT y->G (.tup [.int i,y])):G x:=by
 obtain ⟨y,h1,rfl⟩:=uX e;exact h y h1
theorem zV (xs:List MV):(xs.zipIdx.map (λp=>MV.tup [.int p.2,p.1])).length=xs.length:=by simp
theorem bd (e:hp[r]?=aT (.list xs)):lst (.ref r) hp=aT (r,xs):=by
 show nJ r hp[r]?=_;rw [e];rfl
theorem bh (e:hp[r]?=aT (.list xs)):gD .append (.ref r) hp=eQ:=by
 show (nJ r hp[r]?).isSome=eQ;rw [e];rfl
noncomputable def b2n:Bool->Nat
 | true=>1
 | false=>0
noncomputable def sel {α:Type}(d:Bool)(a b:α):α:=match d with
 | true=>b
 | false=>a
theorem jP:jc (b2i d) [a,b].length=aT (b2n d):=by cases d<;>rfl
theorem lL:[a,b][b2n d]?=aT (sel d a b):=by cases d<;>rfl
class inductive rq {α:Type}(P:Nat->α->Prop):Nat->List α->Prop
 | nil {n}:rq P n []
 | cons {n a l}:P n a->rq P (n+1) l->rq P n (a::l)
theorem rq.get (h:rq P n l)(j:Nat)(hj:j<l.length):∃t,l[j]?=aT t/\P (j+n) t:=by
 induction h generalizing j with
 | nil=>exact absurd hj (N0 _)
 | @cons n a l h _ ih=>
  cases j with
  | zero=>exact ⟨a,rfl,by rw [Nb];exact h⟩
  | succ j=>
   refine e12 (ih j (Nat.lt_of_succ_lt_succ hj)) λt h1 h2=>?_;exact ⟨t,h1,by rw [Nat.succ_add];exact h2⟩
noncomputable def okS (s:List Nat):Prop:=∀c∈s,c<55296
theorem okS.d (h:okS s):D.ok (.str s)=eQ:=LN.mpr λc hc=>decide_eq_true (h c hc)
theorem nk:∀{ss:List (List Nat)},(∀s∈ss,okS s)->D.oks (ss.map .str)=eQ
 | [],_=>rfl
 | s::ss,h=>by
  show (D.ok (.str s)&&D.oks (ss.map .str))=eQ;rw [(h s (IS ..)).d,nk λt ht=>h t (Lm _ ht)];rfl
theorem fT:∀(ss:List (List Nat)),Rds hp (ss.map .str) (ss.map .str)
 | []=>.nil
 | s::ss=>.cons (.str s) (fT ss)
theorem fg (hv:m.get i=aT v)(h:Q v m):wpE K n (.var i) Q X m:=by
 show (match m.get i with | some v=>Q v m | none=>False);rw [hv];exact h
theorem cH {ss:List (List Nat)}(hx:okS x)(hs:∀s∈ss,okS s)(h:Q (ss.contains x)):InP hp (.str x) (ss.map .str) Q:=by
 refine .mk (.str x) (ss.map .str) (.str x) (fT ss) (Ly _) hx.d (nk hs) ?_;have e:(ss.map D.str).any (λe=>e.deq (.str x))=ss.contains x:=by
  clear h hs
  induction ss with
  | nil=>rfl
  | cons s ss ih=>
   show ((s==x)||(ss.map D.str).any (λe=>e.deq (.str x)))=(x==s||ss.contains x);rw [ih,BEq.comm]
 rw [e];exact h
theorem Le {ss:List (List Nat)}(hx:okS x)(hs:∀s∈ss,okS s)(hm:x∈ss)(h:Q eQ):InP hp (.str x) (ss.map .str) Q:=cH hx hs (by rw [Mc.mpr hm];exact h)
theorem Lf {ss:List (List Nat)}(hx:okS x)(hs:∀s∈ss,okS s)(hm:x∉ss)(h:Q bY):InP hp (.str x) (ss.map .str) Q:=cH hx hs (by rw [show ss.contains x=bY from by rw [PU];exact λq=>hm (Mc.mp q)];exact h)
theorem bn {k:Int}{n:Nat}(h0:0<=k)(h1:k<n):jc k n=aT k.toNat:=by
 unfold jc;rw [decide_eq_true h0,decide_eq_true h1]
theorem oz (z:Int):1+z-1=z:=by rw [Ru,Int.add_sub_cancel]
theorem tF {k:Int}{z n:Nat}(e:k=z)(h:z<n):jc k n=aT z:=by
 subst e;exact bn (L5 _) (M8.mpr h)
theorem bK {xs:List α}(h:i<xs.length):xs[i]?=aT xs[i]:=Ls h
theorem jQ (h:0<=k):pend k n=min k.toNat n:=by
 unfold pend;rw [decide_eq_true h]
theorem dB (h:0<=k):aC xs iD (aT k)=xs.take k.toNat:=by
 unfold aC;simp only [jQ h,List.drop_zero];rw [<-List.take_eq_take_min]
theorem cg (h:0<=k):aC xs (aT k) iD=xs.drop k.toNat:=by
 unfold aC;simp only [jQ h,Mr];refine MN (Nat.le_total k.toNat xs.length) (λq=>?_) λq=>?_
 ·rw [Nf q]
 ·rw [OJ q,Pk,List.drop_eq_nil_of_le q]
theorem aQ (h:n<=1000000):n<=line:=by unfold line;exact iF h (nb rfl)
theorem tG:∀(l t:List (List Nat)),l.Nodup->(∀x∈l,x∈t)->l.length<=t.length
 | [],_,_,_=>Ly _
 | a::l,t,hn,hs=>by
  rw [Nn] at hn;have ha:a∈t:=hs a (IS ..);have:=tG l (t.erase a) hn.2 λx hx=>by
   have hne:x≠a:=λq=>hn.1 (q▸hx);exact (List.mem_erase_of_ne hne).mpr (hs x (Lm _ hx))
  rw [List.length_erase_of_mem ha] at this;have:=List.length_pos_of_mem ha;exact Nat.add_le_of_le_sub this (by assumption)
section
variable {Q:MV->List MO->Prop}{X:XT}{h:List MO}
variable {K:KT}(hK:ar PP K)
noncomputable def mix (x:Int):Int:=(x * 48271+7919) % 2147483647
theorem CN (x:Int):0<=mix x/\mix x<2147483647:=by unfold mix;exact em rfl
noncomputable def cell (is:List Int)(k:Int):Int:=match is[k.toNat]? with
 | some v=>v
 | none=>0
noncomputable abbrev abc:List Nat:=[97,98,99,100,101,102,103,104,105,106,107,108,109,110,111,112,113,114,115,116,117,118,119,120,121,122]
noncomputable abbrev kT:List Nat:=[97,98,99,100,101,102,103,104,105,106,107,108,109,110,111,112,113,114,115,116,117,118,119,120,121,122,48,49,50,51,52,53,54,55,56,57]
theorem KQ:∀c∈abc,c<128:=by decide
theorem pN:∀c∈abc,c∈kT:=by decide
theorem rt:∀c∈kT,c<128:=by decide
noncomputable def Nm (s:List Nat):Prop:=s≠[]/\s.length<=8/\(∀c∈s,c∈kT)/\s.headD 0∈abc
theorem Nm.ok (h:Nm s):okS s:=λc hc=>Pi (rt c (h.2.2.1 c hc)) (by decide)
theorem iK (h:s≠[]):(s++t).headD 0=s.headD 0:=by
 cases s with
 | nil=>exact absurd rfl h
 | cons=>rfl
theorem nq {s:List Nat}(h:0<k):(s.take k).headD 0=s.headD 0:=by
 cases s with
 | nil=>rw [Rb]
 | cons=>cases k with
  | zero=>cases h
  | succ=>rfl
noncomputable def kws:List (List Nat):=[[115,101,116],[116,101,108,108],[115,107,105,112],[105,102],[101,108,115,101],[119,104,105,108,101],[101,110,100]]
theorem tH:∀s∈kws,okS s:=by unfold okS kws;decide
theorem uY:∀s∈kws,s.length<=5:=by unfold kws;decide
include hK
theorem dG (hq:Q (.int (mix x)) h):K (n+1) 6 [.int x] Q X h:=by
 refine hK _ _ _ _ _ _ jL rfl rfl ?_;refine ⟨.inr (by unfold fB;decide),?_⟩;exact hq
theorem pO (hk:0<=k)(hq:Q (.int (cell is k)) h):K (n+1) 5 [.scr is,.int k] Q X h:=by
 refine hK _ _ _ _ _ _ gX rfl rfl ?_;unfold cell at hq;by_cases hlt:k<is.length
 ·refine kY (decide_eq_true hlt) ?_
  conv=>whnf
  rw [bn hk hlt];dsimp only;rw [bK (tn hk hlt)] at hq ⊢;exact hq
 ·refine fq (decide_eq_false hlt) ?_;rw [M4 ((Int.le_toNat hk).mpr (Rk.mp hlt))] at hq;exact hq
theorem zW {n:Nat}{s:List Nat}{X:XM}{m:MS}(v:Nat)(hv:m.get v=aT (.str s))(hs:Nm s)(hq:∀s' h',Nm s'->m.heap<+:h'->Q (.str s') h') :
  aA K n [.ite (.cmp .inn (.var v) (.list [.cst (.str [115,101,116]),.cst (.str [116,101,108,108]),.cst (.str [115,107,105,112]),.cst (.str [105,102]),.cst (.str [101,108,115,101]),.cst (.str [119,104,105,108,101]),.cst (.str [101,110,100])])) [.ret (.bin .add (.var v) (.cst (.str [48])))] [],.ret (.var v)] (fin Q) X m:=by
 have e:∀{Q:PQ} {X:XM} {m':MS},m'.vars=m.vars->Q (.str s) m'->wpE K n (.var v) Q X m':=λ{Q X m'} e h=>by
  exact fg (by rw [<-hv];unfold MS.get;rw [e]) h
 refine e (X:=X) rfl ?_;refine af jO ?_;refine cH hs.ok tH ?_;refine bV (λhc=>?_) λhc=>?_
 ·show wpE K n (.var v) _ X _;refine e (X:=X) rfl ?_;have hl:=uY s (by simpa using hc);refine ⟨by show s.length+1<=2 ^ 24;lia,hq _ _ ⟨by simp,by simp;exact iF hl (nb rfl),?_,by rw [iK hs.1];exact hs.2.2.2⟩ (aa (ai _))⟩;intro c hc
  rcases Lg.mp hc with h | h
  ·exact hs.2.2.1 c h
  ·rw [oF.mp h];decide
 ·show wpE K n (.var v) _ X _;refine e (X:=X) rfl ?_;exact hq s _ hs (aa (ai _))
theorem xu {n:Nat}{x:Int}(hq:∀s h',Nm s->h<+:h'->Q (.str s) h'):K (n+2) 7 [.int x] Q X h:=by
 refine hK _ _ _ _ _ _ gY rfl rfl ?_
 conv=>whnf
 rw [bn (em0 rfl) (by show (_:Int)<26;exact em2 rfl)];refine aI (bK (by show _<26;exact emN rfl)) ?_;refine aZ (fe (by lia) (by lia)) ?_;refine gu (λi s (z:Int) w=>⟨[aT (.int x),aT (.str s),aT (.int z),w],h⟩) (λi s (z:Int) w=>A3 (s.length=i+1) (∀c∈s,c∈kT) (s.headD 0∈abc)) _ _ _ rfl ⟨rfl,?_,MC _⟩ (λ_ _ _ _ _=>trivial) (λi y s z w P hy hI hn _=>?_) (λs z w hI=>?_)
 ·intro c hc;simp only [oF] at hc;subst hc;exact pN _ (MC _)
 ·obtain ⟨hi,rfl⟩:=eE hy;obtain ⟨hl,hc,hh⟩:=hI;refine dG hK ?_
  conv=>whnf
  rw [bn (em0 rfl) (by show (_:Int)<36;exact em2 rfl)];refine aI (bK (by show _<36;exact emN rfl)) ?_;refine ⟨by show s.length+1<=2 ^ 24;rw [hl];exact iF (Ln (Ln (LM (Pi hi (emN (n:=8) rfl))))) (nb rfl),?_⟩;refine hn _ _ _ ⟨by simp;exact hl,?_,by rw [iK (λq=>by rw [q] at hl;simp at hl)];exact hh⟩;intro c h
  rcases Lg.mp h with h | h
  ·exact hc c h
  ·simp only [oF] at h;subst h;exact MC _
 ·refine hI.el λhl hc hh=>?_;rw [iJ] at hl;exact zW hK 1 rfl ⟨λq=>by rw [q] at hl;simp at hl,hl▸Nat.succ_le_of_lt (emN (n:=8) rfl),hc,hh⟩ hq
end
section
variable {Q:MV->List MO->Prop}{X:XT}{h:List MO}
variable {K:KT}(hK:ar PP K)
include hK
theorem oH {n:Nat}{s so:List Nat}{c a:Int}{X:XM}(hs:Nm s)(ha:0<=a)(hb:a<s.length)(h1:2<=so.length)(h2:so.length<=36)(h3:∀c∈so,c∈kT)(h4:a=0->∀c∈so,c∈abc)(hq:∀s' h',Nm s'->h<+:h'->Q (.str s') h') :
  aA K n (gZ.body.drop 3) (fin Q) X ⟨[aT (.str s),aT (.int c),aT (.str so),aT (.int a),iD,iD],h⟩:=by
 conv=>whnf
 rw [bn ha hb];have hA:=tn ha hb;refine aI (bK hA) ?_;intro k hk;refine aw (decide_eq_true (by lia)) ?_;refine aw (decide_eq_true (lW (n1 h1 (by simp +arith only)))) ?_
 conv=>whnf
 have hm:∀x:Int,0<=x % so.length/\x % so.length<so.length:=λx=>have hp:0<so.length:=iF (nb rfl) h1;⟨Os _ (cne hp),Np _ (lW hp)⟩;rw [bn (hm _).1 (hm _).2];refine aI (bK (tn (hm _).1 (hm _).2)) ?_;have hlen:=hs.2.1;have key:min a.toNat s.length+1+(s.length-(a+1).toNat)<=8:=by
  rw [Int.toNat_add ha (by decide),Nf (LM hA)];exact iF (Lw (OH hA)) hlen
 rw [dB ha];refine ⟨aQ (by rw [Mq];exact iF (LQ _ _) (lk key rfl)),?_⟩
 conv=>whnf
 rw [cg (z1 ha (by simp +arith only))];refine ⟨aQ (by rw [iN,Mq,Mv];exact lk key rfl),?_⟩;refine zW hK 5 rfl ⟨by simp,?_,?_,?_⟩ hq
 ·rw [iN,iN,Mq,Mv];exact key
 ·intro c hc
  rcases Lg.mp hc with h | h
  ·refine MN (Lg.mp h) (λh=>?_) λh=>?_
   ·exact hs.2.2.1 c (Mp h)
   ·simp only [oF] at h;subst h;exact h3 _ (MC _)
  ·exact hs.2.2.1 c (MX h)
 ·rw [DO];by_cases q:a=0
  ·subst q;exact h4 rfl _ (MC _)
  ·have q0:a.toNat≠0:=λe=>q (Int.le_antisymm (Int.toNat_eq_zero.mp e) ha);rw [iK (λe=>by have:=congrArg QI e;rw [Mq,Q3,Nf (LM hA)] at this;exact q0 this),nq (Oe q0)];exact hs.2.2.2
theorem GU {n:Nat}{s:List Nat}{c:Int}(hs:Nm s)(hq:∀s' h',Nm s'->h<+:h'->Q (.str s') h'):K (n+1) 8 [.str s,.int c] Q X h:=by
 refine hK _ _ _ _ _ _ gZ rfl rfl ?_;have hp:0<s.length:=OI.mpr hs.1;refine aw (decide_eq_true (lW hp)) ?_;have h0:0<=c % (s.length:Int):=Os _ (cne hp);have h1:c % (s.length:Int)<s.length:=Np _ (lW hp);by_cases q:0<c % (s.length:Int)
 ·refine kY (decide_eq_true q) ?_;refine ⟨aQ (by decide),?_⟩;exact oH hK (so:=kT) hs h0 h1 (by decide) (by decide) (λ_ h=>h) (λe=>by lia) hq
 ·refine fq (decide_eq_false q) ?_;exact oH hK (so:=abc) hs h0 h1 (by decide) (by decide) pN (λ_ _ h=>h) hq
end
section
noncomputable def zX (x:Int):Nat:=97+(x % 26).toNat
theorem zY (x:Int):abc[(x % 26).toNat]?=aT (zX x):=by
 have h:∀i,i<26->abc[i]?=aT (97+i):=by decide
 exact h _ (emN rfl)
theorem CO (x:Int):zX x∈kT:=pN _ (Lo (zY x))
noncomputable def nt (p:List Nat)(o:Int)(j:Nat):List Nat:=p++[zX (o+5 * j)]
theorem CP (h:i<j)(hj:j<=9):nt p o i≠nt p o j:=λe=>by
 unfold nt at e;have:=List.append_cancel_left e;simp only [List.cons.injEq,and_true] at this;have h1:(o+5 * (i:Int)) % 26=(o+5 * (j:Int)) % 26:=by rw [<-Pp (em0 rfl:0<=(o+5 * (i:Int)) % 26),Nat.add_left_cancel this,Pp (em0 rfl)]
 have h2:=Int.emod_eq_emod_iff_emod_sub_eq_zero.mp h1.symm;rw [show o+5 * (j:Int)-(o+5 * (i:Int))=((5 * (j-i):Nat):Int) by rw [Int.add_sub_add_left,Int.natCast_mul,Int.natCast_sub (LM h),Int.mul_sub];rfl] at h2;exact (by decide:∀d:Fin 10,0<d.1->((5 * d.1:Nat):Int) % 26≠0) ⟨j-i,O9 (iF (N1 _ _) hj)⟩ (NA h) h2
theorem CQ {ss:List (List Nat)}(hl:ss.length<=9)(h:∀i,i<=9->nt p o i∈ss):False:=by
 have hn:((Nr 10).map (nt p o)).Nodup:=by
  refine List.pairwise_map.mpr ((List.pairwise_lt_range (n:=10)).imp_of_mem λ{a b} ha hb hlt=>CP hlt ?_);simp at hb;exact n1 hb (by simp +arith only)
 have:=tG _ ss hn λx hx=>by
  obtain ⟨i,hi,rfl⟩:=Mi.mp hx;simp at hi;exact h i (n1 hi (by simp +arith only))
 simp at this;exact nf (n2 this hl (by simp +arith only))
noncomputable def Ph (ss:List (List Nat))(i:Int)(k:Nat)(s:List Nat)(u:Int):Prop:=
 21-s.length<=k\/∃p o j,p.length=7/\j<=9/\s=nt p o j/\(∀i',i'<j->nt p o i'∈ss)/\u+8+i=o+5 * ((j:Int)+1)/\11-j<=k
theorem CR {ss:List (List Nat)}{s:List Nat}(hs:Nm s)(hl:ss.length<=9)(hin:s∈ss\/s∈kws)(h:Ph ss i (k+1) s u) :
  Nm (s.take 7++[zX (u+s.length+i)])/\Ph ss i k (s.take 7++[zX (u+s.length+i)]) (u+5):=by
 have hlen:=hs.2.1;have hne:0<s.length:=OI.mpr hs.1;refine ⟨⟨by simp,by simp;lia,λc hc=>?_,by rw [iK (λe=>by have:=congrArg QI e;rw [Mq,Q3] at this;lia),nq (by decide)];exact hs.2.2.2⟩,?_⟩
 ·refine MN (Lg.mp hc) (λh=>?_) λh=>?_
  ·exact hs.2.2.1 c (Mp h)
  ·simp only [oF] at h;subst h;exact CO _
 ·rcases h with h | ⟨p,o,j,hp,hj,hc,hv,hu,hk⟩
  ·by_cases q:s.length=8
   ·refine .inr ⟨s.take 7,u+s.length+i,0,by rw [Mq,q];rfl,nb rfl,?_,λi' hi=>absurd hi (N0 _),by lia,by rw [q] at h;exact iF (nb rfl:11<=12) (OX h)⟩;unfold nt;simp
   ·refine .inl ?_;rw [iN,Mq];rw [OJ (LR (Nu hlen q))];exact Nat.sub_le_iff_le_add.mpr (iF (Nat.sub_le_iff_le_add.mp h) (show k+1+s.length<=k+(s.length+1) by simp +arith only))
  ·have h8:s.length=8:=by rw [hc];unfold nt;rw [iN,hp];rfl
   have hss:s∈ss:=hin.elim id λq=>by have:=uY s q;lia
   by_cases q:j=9
   ·subst q;exact (CQ (p:=p) (o:=o) hl λi' hi=>by
     by_cases q:i'=9
     ·subst q;rw [<-hc];exact hss
     ·exact hv i' (Nu hi q)).elim
   ·refine .inr ⟨p,o,j+1,hp,Nu hj q,?_,λi' hi=>?_,by lia,Nat.pred_le_pred hk⟩
    ·have:s.take 7=p:=by rw [hc];unfold nt;rw [<-hp];simp
     rw [this,h8];unfold nt;congr 3
    ·by_cases q:i'=j
     ·subst q;rw [<-hc];exact hss
     ·exact hv i' (Nu (LR hi) q)
variable (hK:ar PP K)
include hK
theorem rA {ss:List (List Nat)}{hp:List MO}(hr:hp[r]?=aT (.list (ss.map .str)))(hss:∀s∈ss,Nm s)(hl:ss.length<=9)(hs:Nm s)
  (hq:∀s' u' hp',Nm s'->s'∉ss->s'∉kws->hp<+:hp'->Q .next ⟨[aT (.int o),aT (.int u'),aT (.ref r),aT (.int i),aT (.str s')],hp'⟩) :
  wpS K n (.while_ (.or [.cmp .inn (.var 4) (.var 2),.cmp .inn (.var 4) (.list [.cst (.str [115,101,116]),.cst (.str [116,101,108,108]),.cst (.str [115,107,105,112]),.cst (.str [105,102]),.cst (.str [101,108,115,101]),.cst (.str [119,104,105,108,101]),.cst (.str [101,110,100])])])
   [.asg [4] bY (.bin .add (.sl (.var 4) iD (aT (.cst (.int 7)))) (.idx (.cst (.str [97,98,99,100,101,102,103,104,105,106,107,108,109,110,111,112,113,114,115,116,117,118,119,120,121,122])) (.bin .mod (.bin .add (.bin .add (.var 1) (.blt .len [.var 4])) (.var 3)) (.cst (.int 26))))),.asg [1] bY (.bin .add (.var 1) (.cst (.int 5)))])
   Q X ⟨[aT (.int o),aT (.int u),aT (.ref r),aT (.int i),aT (.str s)],hp⟩:=by
 refine ⟨30,iI (λk m=>∃s u hp',m=⟨[aT (.int o),aT (.int u),aT (.ref r),aT (.int i),aT (.str s)],hp'⟩/\hp<+:hp'/\Nm s/\Ph ss i k s u) (λm ⟨s,u,hp',_,_,hs,h⟩=>?_) (λk m W hI hW=>?_) 30 _ ⟨s,u,hp,rfl,ai _,hs,.inl (iF (N1 _ _) (nb rfl))⟩⟩
 ·have:=hs.2.1
  rcases h with h | ⟨_,_,j,_,hj,_,_,_,h⟩
  ·exact absurd (iF (Oj (QC.mp h)) this) (by decide)
  ·exact absurd (iF (Oj (QC.mp h)) hj) (by decide)
 ·obtain ⟨s,u,hp',rfl,hpre,hs,hph⟩:=hI;have body:∀hp'',hp<+:hp''->(s∈ss\/s∈kws)->aA K n [.asg [4] bY (.bin .add (.sl (.var 4) iD (aT (.cst (.int 7)))) (.idx (.cst (.str [97,98,99,100,101,102,103,104,105,106,107,108,109,110,111,112,113,114,115,116,117,118,119,120,121,122])) (.bin .mod (.bin .add (.bin .add (.var 1) (.blt .len [.var 4])) (.var 3)) (.cst (.int 26))))),.asg [1] bY (.bin .add (.var 1) (.cst (.int 5)))]
    (λf m=>match f with
    | .next=>W m
    | .ret r=>Q (.ret r) m) X ⟨[aT (.int o),aT (.int u),aT (.ref r),aT (.int i),aT (.str s)],hp''⟩:=λhp'' hpre hin=>by
   refine e02 (CR hs hl hin hph) λg1 g2=>?_
   conv=>whnf
   rw [bn (em0 rfl) (by show (_:Int)<26;exact em2 rfl)];dsimp only;rw [zY];rw [dB (by decide)];refine ⟨aQ (by rw [Mq];exact iF (Ln (NE 7 _)) (nb rfl)),?_⟩;exact hW _ ⟨_,_,hp'',rfl,hpre,g1,g2⟩
  refine af (ak hpre hr) ?_;refine cH hs.ok (λt ht=>(hss t ht).ok) ?_;refine bV (λhc=>?_) λhc=>?_
  ·exact body hp' hpre (.inl (by simpa using hc))
  ·refine af jO ?_;refine cH hs.ok tH ?_
   cases hc':kws.contains s with
   | true=>exact body _ (aa hpre) (.inr (by simpa using hc'))
   | false=>exact hq s u _ hs (by simpa using hc) (by simpa using hc') (aa hpre)
noncomputable def Ji:List MSt->List MSt
 | .for_ _ _ _ _ b::_=>b
 | _=>[]
theorem CS {h:List MO}(hq:∀(h':List MO) (r:Nat) (ss:List (List Nat)),h<+:h'->h.length<=r->h'[r]?=aT (.list (ss.map .str))->ss.length=10->(∀s∈ss,Nm s)->ss.Nodup->(∀s∈ss,s∉kws)->Q (.ref r) h') :
  K (n+3) 9 [.int a,.int b] Q X h:=by
 refine hK _ _ _ _ _ _ gm rfl rfl ?_;refine pM (λi (o:Int) (u:Int) (ss:List (List Nat)) (w3:Option MV) (w4:Option MV) (hp:List MO)=>⟨[aT (.int o),aT (.int u),aT (.ref h.length),w3,w4],hp⟩) (λi (o:Int) (u:Int) (ss:List (List Nat)) (w3:Option MV) (w4:Option MV) (hp:List MO)=>A6 (h<+:hp) (hp[h.length]?=aT (.list (ss.map .str))) (ss.length=i) (∀s∈ss,Nm s) ss.Nodup (∀s∈ss,s∉kws))
  a b [] iD iD _ rfl ⟨aa (ai _),ae _ _,rfl,by simp,PL,by simp⟩ (λ_ _ _ _ _ _ _ _=>trivial) (λi y o u ss w3 w4 hp P hy hI hn _=>?_) (λo u ss w3 w4 hp hI=>?_)
 ·obtain ⟨hi,rfl⟩:=eE hy;obtain ⟨hpre,hr,hl,hss,hnd,hkw⟩:=hI;have hi:i<10:=hi;have rest:∀s hp',Nm s->hp<+:hp'->aA K (n+2) ((Ji (gm.body.drop 1)).drop 3) P (xin X) ⟨[aT (.int (mix o)),aT (.int u),aT (.ref h.length),aT (.int i),aT (.str s)],hp'⟩:=λs hp' hs hpre'=>by
   refine rA hK (ak hpre' hr) hss (n2 hi (Lw hl) (by simp +arith only)) hs λs' u' hp'' hs' h1 h2 hpre''=>?_;have hr':=ak (hpre'.trans hpre'') hr;refine aw (bh hr') ?_;refine bb (bd hr') ?_;refine ⟨by rw [tO,hl];exact Lp hi (aQ (nb rfl)),?_⟩;refine hn _ _ (ss++[s']) _ _ _ ⟨br ((hpre.trans hpre').trans hpre'') (nO _),?_,by simp [hl],?_,?_,?_⟩
   ·rw [get_set hr'];simp
   ·intro t ht
    rcases Lg.mp ht with ht | ht
    ·exact hss t ht
    ·simp at ht;subst ht;exact hs'
   ·rw [M7];exact ⟨hnd,by simp,λt ht t' ht'=>by simp at ht';subst ht';exact λq=>h1 (q▸ht)⟩
   ·intro t ht
    rcases Lg.mp ht with ht | ht
    ·exact hkw t ht
    ·simp at ht;subst ht;exact h2
  refine dG hK ?_;refine xu hK λs h' hs hpre'=>?_;have hpre':hp<+:h':=hpre';refine xZ (λhodd=>?_) λhodd=>?_
  ·exact rest s h' hs hpre'
  ·have hodd:(i:Int) % 2=1:=by simpa using hodd
   refine xZ (λhu=>?_) λhu=>?_
   ·exact rest s h' hs hpre'
   ·conv=>whnf
    dsimp only [MS.set,List.set];refine af (ak hpre' hr) ?_;have hi:0<i:=Oe λq=>by subst q;exact absurd hodd (by decide)
    have hlt:i-1<ss.length:=OZ (Oc hi NF) hl.symm;rw [show (i:Int)-1=((i-1:Nat):Int) from (Int.natCast_sub hi).symm];refine aB (j:=i-1) (v:=.str ss[i-1]) (bn (L5 _) (by rw [tO];exact M8.mpr hlt)) (by rw [LG,bK hlt];rfl) ?_;refine dG hK ?_;refine GU hK (hss _ (MC _)) λs' h'' hs' hpre''=>?_;exact rest s' h'' hs' (hpre'.trans hpre'')
 ·refine hI.el λhpre hr hl hss hnd hkw=>?_;exact hq hp h.length ss hpre (nO _) hr hl hss hnd hkw
end
set_option genCtorIdx false in
inductive Tm where
 | num (k:Int) | nm (s:List Nat) | op (c:Nat) (a b:Tm)
gen_injective_theorems% Tm
noncomputable abbrev iP:List Nat:=[110,117,109,98,101,114]
noncomputable abbrev eH:List Nat:=[110,97,109,101]
noncomputable def Tm.mv:Tm->MV
 | .num k=>.tup [.str iP,.int k]
 | .nm s=>.tup [.str eH,.str s]
 | .op c a b=>.tup [.str [c],a.mv,b.mv]
noncomputable def Tm.deep:Tm->Nat
 | .op _ a b=>max a.deep b.deep+1
 | _=>0
noncomputable def Tm.lv:Tm->Nat
 | .num _ | .nm _=>1
 | .op _ a b=>a.lv+b.lv
theorem Tm.lv_le:∀t:Tm,t.lv<=2 ^ t.deep
 | .num _=>nO _
 | .nm _=>nO _
 | .op _ a b=>by
  have ha:=Tm.lv_le a;have hb:=Tm.lv_le b;have h1:2 ^ a.deep<=2 ^ max a.deep b.deep:=Qc (by decide) (ND ..);have h2:2 ^ b.deep<=2 ^ max a.deep b.deep:=Qc (by decide) (LX ..);show a.lv+b.lv<=2 ^ (max a.deep b.deep+1);rw [Nat.pow_succ,Nat.mul_two];exact Mt (iF ha h1) (iF hb h2)
noncomputable def bz (c:Nat):Prop:=c=43\/c=45\/c=42\/c=60\/c=61\/c=47
noncomputable def Tm.ok (p:List Nat->Prop):Tm->Prop
 | .num k=>0<=k/\k<1000000
 | .nm s=>p s
 | .op c a b=>bz c/\a.ok p/\b.ok p
theorem Tm.ok.mono (h:∀s,p s->q s):∀{t:Tm},t.ok p->t.ok q
 | .num _,x=>x
 | .nm s,x=>h s x
 | .op _ _ _,⟨x,y,z⟩=>⟨x,y.mono h,z.mono h⟩
theorem gw:∀(ss:List (List Nat)),D.deeps (ss.map .str)=0
 | []=>rfl
 | s::ss=>by show max 0 (D.deeps (ss.map .str))=0;rw [gw ss];rfl
theorem GW (h1:hp[r]?=aT (.list (ss.map .str)))(h2:hp[r']?=aT (.list []))(hs:∀s∈ss,okS s)(hq:Q (decide (ss=[]))):EqP hp (.ref r) (.ref r') Q:=by
 refine .mk (.list (ss.map .str)) (.list []) (.list h1 (fT ss)) (.list h2 .nil) ?_ (nk hs) rfl ?_
 ·show D.deeps _+1<=1000;rw [gw];decide
 ·cases ss<;>exact hq
section
variable (hK:ar PP K)
include hK
theorem rB {ss:List (List Nat)}{h:List MO}(hr:h[r]?=aT (.list (ss.map .str)))(hs:∀s∈ss,okS s)(hq:∀t h',Tm.ok (·∈ss) t->t.deep=0->h<+:h'->Q t.mv h') :
  K (n+1) 10 [.int x,.ref r] Q X h:=by
 refine hK _ _ _ _ _ _ fy rfl rfl ?_;have rest:∀h',h<+:h'->aA K n (fy.body.drop 1) (fin Q) (xin X) ⟨[aT (.int x),aT (.ref r)],h'⟩:=λh' hpre=>by
  refine bV (λhc=>?_) λhc=>?_
  ·exact hq (.num (x / 12 % 10 ^ (6:Int).toNat)) h' (by show _/\_;rw [show (10:Int) ^ (6:Int).toNat=1000000 by decide];exact em rfl) rfl hpre
  ·exact hq (.num (x / 12 % 5)) h' (by show _/\_;exact em rfl) rfl hpre
 refine GW (ss:=ss) (gv hr) jO hs ?_;by_cases hn:ss=[]
 ·rw [decide_eq_true hn];exact rest _ (aa (ai _))
 ·rw [decide_eq_false hn];have hpos:0<ss.length:=OI.mpr hn;by_cases hc:0<x % 3
  ·refine kY (decide_eq_true hc) ?_;refine af (gv hr) ?_;rw [tO];refine aw (decide_eq_true (lW hpos)) ?_;refine af (gv hr) ?_;have h1:0<=x / 3 % (ss.length:Int):=Os _ (cne hpos);have h2:x / 3 % (ss.length:Int)<ss.length:=Np _ (lW hpos);have h3:(x / 3 % (ss.length:Int)).toNat<ss.length:=tn h1 h2;exact aB (bn h1 (by rw [tO];exact h2)) (by rw [LG,bK h3];rfl) (hq (.nm _) _ (MC h3) rfl (aa (ai _)))
  ·refine fq (decide_eq_false hc) ?_;exact rest _ (aa (ai _))
end
section
theorem tI:∀j,j<10->∃c,bz c/\[MV.str [43],MV.str [45],MV.str [42],MV.str [60],MV.str [61],MV.str [43],MV.str [45],MV.str [60],MV.str [47],MV.str [47]][j]?=aT (.str [c])
 | 0,_=>⟨43,by unfold bz;exact by decide,rfl⟩
 | 1,_=>⟨45,by unfold bz;exact by decide,rfl⟩
 | 2,_=>⟨42,by unfold bz;exact by decide,rfl⟩
 | 3,_=>⟨60,by unfold bz;exact by decide,rfl⟩
 | 4,_=>⟨61,by unfold bz;exact by decide,rfl⟩
 | 5,_=>⟨43,by unfold bz;exact by decide,rfl⟩
 | 6,_=>⟨45,by unfold bz;exact by decide,rfl⟩
 | 7,_=>⟨60,by unfold bz;exact by decide,rfl⟩
 | 8,_=>⟨47,by unfold bz;exact by decide,rfl⟩
 | 9,_=>⟨47,by unfold bz;exact by decide,rfl⟩
 | _+10,h=>by lia
theorem HI:∀j,j<6->∃c,bz c/\[MV.str [43],MV.str [45],MV.str [42],MV.str [47],MV.str [60],MV.str [61]][j]?=aT (.str [c])
 | 0,_=>⟨43,by unfold bz;exact by decide,rfl⟩
 | 1,_=>⟨45,by unfold bz;exact by decide,rfl⟩
 | 2,_=>⟨42,by unfold bz;exact by decide,rfl⟩
 | 3,_=>⟨47,by unfold bz;exact by decide,rfl⟩
 | 4,_=>⟨60,by unfold bz;exact by decide,rfl⟩
 | 5,_=>⟨61,by unfold bz;exact by decide,rfl⟩
 | _+6,h=>by lia
variable (hK:ar PP K)
include hK
theorem xw:∀(L:Nat) {n:Nat}{x l:Int}{r rl:Nat}{d:Bool}{ss sl:List (List Nat)}{Q:MV->List MO->Prop}{X:XT}{h:List MO},l=(L:Int)+1->h[r]?=aT (.list (ss.map .str))->h[rl]?=aT (.list (sl.map .str))->(∀s∈ss,okS s)->(∀s∈sl,okS s)->
  (∀t h',Tm.ok (λs=>s∈ss\/s∈sl) t->t.deep<=L->h<+:h'->Q t.mv h')->K (n+L+2) 11 [.int x,.ref r,.ref rl,.bool d,.int l] Q X h:=by
 intro L
 induction L with
 | zero=>
  intro n x l r rl d ss sl Q X h hl hr hrl hs hsl hq;refine hK _ _ _ _ _ _ df rfl rfl ?_;refine dG hK ?_;refine kY (by simp [hl]) ?_;refine rB hK hr hs λt h' ht hd hpre=>?_;exact hq t h' (ht.mono λs=>.inl) (n1 (Lw hd) (by simp +arith only)) hpre
 | succ L ih=>
  intro n x l r rl d ss sl Q X h hl hr hrl hs hsl hq;refine hK _ _ _ _ _ _ df rfl rfl ?_;refine dG hK ?_;refine fq (by simp [hl];lia) ?_;refine bV (λhc=>?_) λhc=>?_
  ·refine rB hK hr hs λt h' ht hd hpre=>?_;exact hq t h' (ht.mono λs=>.inl) (n1 (Lw hd) (by simp +arith only)) hpre
  ·refine af jO (aB jP lL ?_);have hj:∃j:Int,(j=8\/j=10)/\sel d (MV.int 8) (.int 10)=.int j:=by
    cases d
    ·exact ⟨8,.inl rfl,rfl⟩
    ·exact ⟨10,.inr rfl,rfl⟩
   refine e12 hj λj hj e1=>?_;rw [e1];have hj0:0<j:=by rcases hj with rfl | rfl<;>decide
   have hj1:j<=10:=by rcases hj with rfl | rfl<;>decide
   refine aw (decide_eq_true hj0) ?_;have h1:0<=mix x / 8 % j:=Os _ (PG hj0);have h2:mix x / 8 % j<j:=Np _ hj0;refine e12 (tI (mix x / 8 % j).toNat (tn h1 (Qo h2 hj1))) λc hcs e3=>?_;refine af xr (aB (bn h1 (by show _<(10:Int);exact Qo h2 hj1)) e3 ?_);refine ⟨.inr (by unfold fB;decide),?_⟩;have hp0:∀o o',h<+:(h++[o])++[o']:=λo o'=>aa (aa (ai _));refine ih (n:=n) (by lia) (ak (hp0 _ _) hr) (ak (hp0 _ _) hrl) hs hsl λt h₁ ht hd hpre0=>?_;have hpre:h<+:h₁:=(hp0 _ _).trans hpre0;clear hpre0;have last:∀{rr:Nat} {sr:List (List Nat)},h₁[rr]?=aT (.list (sr.map .str))->(∀s∈sr,okS s)->(∀s,s∈sr\/s∈sl->s∈ss\/s∈sl)->
     K (n+L+2) 11 [.int (mix x * 5+2),.ref rr,.ref rl,.bool d,.int (l-1)] (λv h'=>Q (.tup [.str [c],t.mv,v]) h') (λc h'=>X c h') h₁:=λ{rr sr} g1 g3 g4=>by
    refine ih (by lia) g1 (ak hpre hrl) g3 hsl λt' h' ht' hd' hpre'=>?_;refine hq (.op c t t') h' ⟨hcs,ht,ht'.mono g4⟩ ?_ (hpre.trans hpre');exact Ln (mx hd hd')
   refine bV (λq=>?_) λe47=>?_
   ·obtain rfl:c=47:=(O5 (eq_of_beq q)).1;refine bV (λh3=>?_) λh3=>?_
    ·refine hq (.op 47 t (.num (1+mix x / 320 % 9))) h₁ ⟨hcs,ht,by show _/\_;lia⟩ ?_ hpre;exact Ln (mx0 hd)
    ·refine ⟨.inr (by unfold fB;decide),?_⟩;exact last (ak hpre hrl) hsl λs hs=>hs.elim .inr .inr
   ·refine fq e47 ?_;refine ⟨.inr (by unfold fB;decide),?_⟩;exact last (ak hpre hr) hs λs hs=>hs
end
noncomputable abbrev gJ:List Nat:=[115,101,116]
noncomputable abbrev cz:List Nat:=[116,101,108,108]
noncomputable abbrev dI:List Nat:=[115,107,105,112]
noncomputable abbrev wIf:List Nat:=[105,102]
noncomputable abbrev rC:List Nat:=[101,108,115,101]
noncomputable abbrev aU:List Nat:=[119,104,105,108,101]
noncomputable abbrev nP:List Nat:=[101,110,100]
set_option genCtorIdx false in
inductive Rw where
 | set (s:List Nat) (t:Tm) | tell (t:Tm) | skip | ite (t:Tm) (a b:List Rw) | wh (t:Tm) (a:List Rw)
gen_injective_theorems% Rw
noncomputable def Gn (s:List Nat):Prop:=Nm s/\s∉kws
noncomputable def Tm.gp (p:List Nat->Prop)(t:Tm):Prop:=t.ok p/\t.deep<=3
noncomputable abbrev Tm.good (t:Tm):Prop:=t.gp Gn
noncomputable def Tm.txt:Tm->List Nat
 | .num k=>dec k
 | .nm s=>s
 | .op c a b=>[c]++[32]++a.txt++[32]++b.txt
mutual
noncomputable def Rw.mv:Rw->MV
 | .set s t=>.tup [.str gJ,.str s,t.mv]
 | .tell t=>.tup [.str cz,t.mv]
 | .skip=>.tup [.str dI]
 | .ite t a b=>.tup [.str wIf,t.mv,.tup (mvs a),.tup (mvs b)]
 | .wh t a=>.tup [.str aU,t.mv,.tup (mvs a)]
noncomputable def mvs:List Rw->List MV
 | []=>[]
 | r::rs=>r.mv::mvs rs
end
mutual
noncomputable def Rw.gp (p:List Nat->Prop):Rw->Prop
 | .set s t=>p s/\t.gp p
 | .tell t=>t.gp p
 | .skip=>True
 | .ite t a b=>t.gp p/\gps p a/\gps p b
 | .wh t a=>t.gp p/\gps p a
noncomputable def gps (p:List Nat->Prop):List Rw->Prop
 | []=>True
 | r::rs=>r.gp p/\gps p rs
end
noncomputable abbrev Rw.good (r:Rw):Prop:=r.gp Gn
noncomputable abbrev g8 (rs:List Rw):Prop:=gps Gn rs
mutual
noncomputable def Rw.nest:Rw->Nat
 | .ite _ a b=>max (ay a) (ay b)+1
 | .wh _ a=>ay a+1
 | _=>0
noncomputable def ay:List Rw->Nat
 | []=>0
 | r::rs=>max r.nest (ay rs)
end
mutual
noncomputable def Rw.lines:Rw->List (List Nat)
 | .set s t=>[gJ++[32]++s++[32]++t.txt]
 | .tell t=>[cz++[32]++t.txt]
 | .skip=>[dI]
 | .ite t a b=>(wIf++[32]++t.txt)::(lns a++rC::(lns b++[nP]))
 | .wh t a=>(aU++[32]++t.txt)::(lns a++[nP])
noncomputable def lns:List Rw->List (List Nat)
 | []=>[]
 | r::rs=>r.lines++lns rs
end
theorem lM:∀(a b:List Rw),mvs (a++b)=mvs a++mvs b
 | [],b=>rfl
 | r::a,b=>by show r.mv::mvs (a++b)=r.mv::(mvs a++mvs b);rw [lM a b]
theorem pP:∀(a b:List Rw),lns (a++b)=lns a++lns b
 | [],b=>rfl
 | r::a,b=>by show r.lines++lns (a++b)=r.lines++lns a++lns b;rw [pP a b,DO]
theorem uZ {a b:List Rw}(h:gps p a)(h':gps p b):gps p (a++b):=by
 induction a with
 | nil=>exact h'
 | cons r a ih=>exact ⟨h.1,ih h.2⟩
theorem km:∀{a b:List Rw}{k:Nat},ay a<=k->ay b<=k->ay (a++b)<=k
 | [],_,_,_,h=>h
 | r::a,b,k,h,h'=>by
  have h:max r.nest (ay a)<=k:=h;exact P2.mpr ⟨(P2.mp h).1,km (P2.mp h).2 h'⟩
theorem oJ {rs:List Rw}(h:g8 rs):∀r∈rs,r.good:=by
 induction rs with
 | nil=>exact λ_ h=>co h
 | cons q rs ih=>exact λr hr=>(Lu.mp hr).elim (λe=>e▸h.1) (ih h.2 r)
theorem fU {rs:List Rw}{k:Nat}(h:ay rs<=k):∀r∈rs,r.nest<=k:=by
 induction rs with
 | nil=>exact λ_ h=>co h
 | cons q rs ih=>exact λr hr=>(Lu.mp hr).elim (λe=>e▸(P2.mp h).1) (ih (P2.mp h).2 r)
theorem fh:∀(rs:List Rw),(mvs rs).length=rs.length
 | []=>rfl
 | r::rs=>congrArg (·+1) (fh rs)
theorem xx (r:Rw):1<=r.lines.length:=by
 cases r<;>exact Nl 1 _
theorem iL:∀(rs:List Rw),rs.length<=(lns rs).length
 | []=>nO _
 | r::rs=>by
  have h1:=xx r;have h2:=iL rs;show rs.length+1<=(r.lines++lns rs).length;rw [iN];exact n2 h2 h1 (by simp +arith only)
theorem lN {rs:List Rw}{j:Nat}{x:MV}:(mvs rs)[j]?=aT x->∃r,rs[j]?=aT r/\x=r.mv:=by
 induction rs generalizing j with
 | nil=>intro h;cases h
 | cons r rs ih=>
  intro h
  cases j with
  | zero=>exact ⟨r,rfl,(BY h).symm⟩
  | succ j=>exact ih h
theorem Tm.good.sub (h:(Tm.op c a b).good):a.good/\b.good:=by
 obtain ⟨⟨_,h1,h2⟩,h3⟩:=h;have h3:max a.deep b.deep+1<=3:=h3;exact ⟨⟨h1,n2 h3 (ND a.deep b.deep) (by simp +arith only)⟩,h2,n2 h3 (LX a.deep b.deep) (by simp +arith only)⟩
theorem room (h:k<N):∃M,N=M+1/\k<=M:=⟨N-1,sb (n1 h (by simp +arith only)),Pe h⟩
theorem kc (hK:ar P K)(d:Fn)(hN:k<N)(e:P f=aT d)(l:vs.length=d.args)(w:∀M,k<=M->aA K M d.body (fin Q) (xin X) (js d vs h)):K N f vs Q X h:=by
 obtain ⟨M,rfl,hM⟩:=room hN;exact hK _ _ _ _ _ _ d e l (w M hM)
theorem u0 (r:Rw):lns [r]=r.lines:=LJ _
theorem aH {h:List MO}(hne:i≠j)(e:h[j]?=aT o):(h.set i o')[j]?=aT o:=by
 rw [Ov hne];exact e
theorem gz (hp:List MO)(x y:List (List Nat)):(hp++[MO.list (x.map .str++y.map .str)])[hp.length]?=aT (.list ((x++y).map .str)):=by
 rw [ae,LK]
theorem dY {x y:List (List Nat)}(h:x.length+y.length<=100000):(x.map MV.str).length+(y.map MV.str).length<=line:=aQ (by rw [tO,tO];exact iF h (nb rfl))
theorem ko (I:Nat->List MV->MS->Prop)(h0:I 0 [] m)(hg:∀i a m,I i a m->aN g m.heap)
  (hstep:∀i x a m (P:Option MV->MS->Prop),items[i]?=aT x->I i a m->(∀y m',I (i+1) (a++[y]) m'->P (aT y) m')->(∀m',I (i+1) a m'->P iD m')->step x P m)
  (hend:∀a m,I items.length a m->Q a m):cU g step Q items [] m:=by
 have key:∀(l:List MV) (i:Nat) (a:List MV) (m:MS),i+l.length=items.length->items.drop i=l->I i a m->cU g step Q l a m:=by
  intro l
  induction l with
  | nil=>
   intro i a m hl e hI;have hl:i=items.length:=hl;subst hl;rw [j6];exact ⟨hg _ _ m hI,hend a m hI⟩
  | cons x l ih=>
   intro i a m hl e hI;rw [MD] at hl;have hlt:i<items.length:=n1 (Lw hl) (by simp +arith only);have e':=L9 hlt;rw [e] at e';obtain ⟨e1,e2⟩:=O5 e';rw [je];exact ⟨hg i a m hI,hstep i x a m _ (by rw [Ls hlt,e1]) hI (λy m' h'=>ih (i+1) _ m' (by lia) e2.symm h') λm' h'=>ih (i+1) _ m' (by lia) e2.symm h'⟩
 exact key items 0 [] m (by simp) (by simp) h0
theorem u3 (st:σ->MS)(I:σ->Prop)(w:σ)(e0:m=st w)(h0:I w)(hg:∀w,I w->aN g (st w).heap)
  (hstep:∀(i:Nat) x w (P:Option MV->MS->Prop),items[i]?=aT x->I w->(∀y w,I w->P (aT y) (st w))->(∀w,I w->P iD (st w))->step x P (st w)) (hend:∀a w,I w->Q a (st w)):cU g step Q items [] m:=by
 refine ko (λi a m=>∃w,m=st w/\I w) ⟨w,e0,h0⟩ (λi a m hI=>?_) (λi x a m P hx hI h1 h2=>?_) (λa m hI=>?_)
 ·obtain ⟨w,rfl,h⟩:=hI;exact hg w h
 ·obtain ⟨w,rfl,h⟩:=hI;exact hstep i x w P hx h (λy w h=>h1 y _ ⟨w,rfl,h⟩) λw h=>h2 _ ⟨w,rfl,h⟩
 ·obtain ⟨w,rfl,h⟩:=hI;exact hend a w h
theorem lO (st:Option MV->MS)(acc:Nat->List MV)(w:Option MV)(e0:m=st w)(a0:acc 0=[])(hg:∀w,aN g (st w).heap)
  (hstep:∀i x w (P:Option MV->MS->Prop),items[i]?=aT x->(∀y w,acc (i+1)=acc i++[y]->P (aT y) (st w))->(∀w,acc (i+1)=acc i->P iD (st w))->step x P (st w)) (hend:∀w,Q (acc items.length) (st w)):cU g step Q items [] m:=by
 refine ko (λi a m=>∃w,m=st w/\a=acc i) ⟨w,e0,a0.symm⟩ (λi a m hI=>?_) (λi x a m P hx hI h1 h2=>?_) (λa m hI=>?_)
 ·obtain ⟨w,rfl,_⟩:=hI;exact hg w
 ·obtain ⟨w,rfl,rfl⟩:=hI;exact hstep i x w P hx (λy w e=>h1 y _ ⟨w,rfl,e.symm⟩) λw e=>h2 _ ⟨w,rfl,e.symm⟩
 ·obtain ⟨w,rfl,rfl⟩:=hI;exact hend w
theorem u4 (st:σ->MS)(I:Nat->List MV->σ->Prop)(w:σ)(e0:m=st w)(h0:I 0 [] w)(hg:∀i a w,I i a w->aN g (st w).heap)
  (hstep:∀i x a w (P:Option MV->MS->Prop),items[i]?=aT x->I i a w->(∀y w,I (i+1) (a++[y]) w->P (aT y) (st w))->(∀w,I (i+1) a w->P iD (st w))->step x P (st w)) (hend:∀a w,I items.length a w->Q a (st w)):cU g step Q items [] m:=by
 refine ko (λi a m=>∃w,m=st w/\I i a w) ⟨w,e0,h0⟩ (λi a m hI=>?_) (λi x a m P hx hI h1 h2=>?_) (λa m hI=>?_)
 ·obtain ⟨w,rfl,h⟩:=hI;exact hg i a w h
 ·obtain ⟨w,rfl,h⟩:=hI;exact hstep i x a w P hx h (λy w h=>h1 y _ ⟨w,rfl,h⟩) λw h=>h2 _ ⟨w,rfl,h⟩
 ·obtain ⟨w,rfl,h⟩:=hI;exact hend a w h
theorem oK (e:hp[r]?=aT (.list xs)):gD .extend (.ref r) hp=eQ:=by
 show (nJ r hp[r]?).isSome=eQ;rw [e];rfl
theorem bq {rs:List α}(e:rs[j]?=aT r):rs.take (j+1)=rs.take j++[r]:=by
 rw [List.take_add_one,e];rfl
noncomputable abbrev sgs:List (List Nat):=[[43],[45],[42],[47],[60],[61]]
theorem GY:∀s∈sgs,okS s:=by unfold okS;decide
theorem CT (h:bz c):sgs.contains [c]=eQ/\okS [c]:=by
 rcases h with rfl | rfl | rfl | rfl | rfl | rfl<;>exact ⟨rfl,by unfold okS;decide⟩
theorem GZ {s:List Nat}(h:∀c∈s,c<128):s.all (λc=>decide (c<128))=eQ:=LN.mpr λc hc=>decide_eq_true (h c hc)
theorem zZ {s:List Nat}(h:s.all (λc=>decide (c<128))=eQ):fW .val [.str s] hp=aT (s.map (λc=>.str [c]),iD):=by
 show (match s.all (λc=>decide (c<128)) with
  | true=>aT (s.map (λc=>MV.str [c]),iD)
  | false=>iD)=_
 rw [h]
theorem z0 (h:s≠[]):s[0]?=aT (s.headD 0):=by
 cases s with
 | nil=>exact absurd rfl h
 | cons=>rfl
noncomputable abbrev pQ:List Nat:=[48,49,50,51,52,53,54,55,56,57]
theorem xy:∀c∈kT,(abc.contains c||pQ.contains c)=eQ:=by decide
set_option genCtorIdx false in
inductive Rs where
 | ok | row | deep (u:Unit:=())
gen_injective_theorems% Rs
noncomputable def Rs.on (r:Rs)(P Q R:Prop):Prop:=match r with
 | .ok=>P
 | .row=>Q
 | .deep _=>R
noncomputable def Rs.and (a b:Rs):Rs:=match a with
 | .ok=>b
 | a=>a
theorem Rs.seq {a b:Rs}(h:(a.and b).on P Q R)(k:a=.ok->b.on P Q R->P')(kq:Q->Q')(kr:R->R'):a.on P' Q' R':=by
 cases a with
 | ok=>exact k rfl h
 | row=>exact kq h
 | deep=>exact kr h
theorem Rs.seq2 {a b c:Rs}(h:((a.and b).and c).on P Q R)(k:a=.ok->(b.and c).on P Q R->P')(kq:Q->Q')(kr:R->R'):a.on P' Q' R':=by
 cases a with
 | ok=>exact k rfl h
 | row=>exact kq h
 | deep=>exact kr h
theorem Rs.mono {a:Rs}(h:a.on P Q R)(k:P->P')(kq:Q->Q')(kr:R->R'):a.on P' Q' R':=by
 cases a with
 | ok=>exact k h
 | row=>exact kq h
 | deep=>exact kr h
theorem Rs.cc {u v:Rs}{G:Prop}(h:(cond b u v).on P Q R)(k:b=eQ->u.on P Q R->G)(k':b=bY->v.on P Q R->G):G:=by
 cases b with
 | true=>exact k rfl h
 | false=>exact k' rfl h
theorem Rs.cn {u:Rs}(h:(cond b u .row).on P Q R)(k:b=eQ->u.on P Q R->G)(kq:Q->F):bt (!b) F G:=by
 cases b with
 | true=>exact k rfl h
 | false=>exact kq h
theorem Rs.c2 {u v:Rs}(h:(cond b u v).on P Q R)(k:b=eQ->u.on P Q R->G)(k':b=bY->v.on P Q R->F):bt b G F:=by
 cases b with
 | true=>exact k rfl h
 | false=>exact k' rfl h
theorem Rs.c3 {u:Rs}(h:(cond (b&&c) u .row).on P Q R)(k:b=eQ->u.on P Q R->G)(kq:Q->F):bt b (bt (!c) F G) F:=by
 cases b with
 | true=>exact cn h (λ_=>k rfl) kq
 | false=>exact kq h
noncomputable def oRs (o:Option α)(f:α->Rs):Rs:=match o with
 | some a=>f a
 | none=>.row
theorem Rs.oc {G:Prop}(h:(oRs o f).on P Q R)(k:∀a,o=aT a->(f a).on P Q R->G)(kq:o=iD->Q->G):G:=by
 cases o with
 | some a=>exact k a rfl h
 | none=>exact kq rfl h
noncomputable def isNm (s:List Nat):Bool:=decide (1<=(s.length:Int))&&(decide ((s.length:Int)<=8)&&(!kws.contains s&&(abc.contains (s.headD 0)&&s.all λc=>abc.contains c||pQ.contains c)))
noncomputable def D.st:D->Option (List Nat)
 | .str s=>aT s
 | _=>Py
noncomputable def D.isNm (d:D):Bool:=match d.st with
 | some s=>Internal.isNm s
 | Py=>bY
noncomputable def D.isNum:D->Bool
 | .int k=>decide (0<=k)&&decide (k<=999999)
 | _=>bY
mutual
noncomputable def D.asc:D->Bool
 | .list xs | .tup xs=>D.ascs xs
 | .str s=>s.all λc=>decide (c<128)
 | _=>eQ
noncomputable def D.ascs:List D->Bool
 | []=>eQ
 | x::xs=>D.asc x&&D.ascs xs
end
noncomputable def D.tp:D->Option (List D)
 | .tup xs=>aT xs
 | _=>Py
noncomputable def D.bl:D->Option (List D)
 | .list xs | .tup xs=>aT xs
 | _=>Py
noncomputable def nth (ds:List D)(i:Nat):D:=ds.getD i .none
noncomputable def fo:Nat->D->Rs
 | 0,_=>.deep
 | k+1,d=>oRs d.tp λds=>cond (decide (2<=(ds.length:Int))&&decide ((ds.length:Int)<=3)) (oRs (nth ds 0).st λs=>
   cond ((ds.length:Int)==2) (cond ((s==iP&&(nth ds 1).isNum)||(s==eH&&(nth ds 1).isNm)) .ok .row) (cond (sgs.contains s) ((fo k (nth ds 1)).and (fo k (nth ds 2))) .row)) .row
noncomputable def nQ:List (List Nat × Int)->List Nat->Option Int
 | [],_=>iD
 | (k,v)::r,x=>match k==x with
  | true=>aT v
  | false=>nQ r x
noncomputable abbrev thg:List (List Nat × Int):=[(gJ,3),(cz,2),(dI,1),(wIf,4),(aU,3)]
noncomputable def CU (s:List Nat)(ds:List D):D:=cond (s==gJ) (nth ds 2) (nth ds 1)
noncomputable def jj (s:List Nat)(ds:List D):List D:=cond (s==wIf) [nth ds 2,nth ds 3] (cond (s==aU) [nth ds 2] [])
noncomputable def hf (d:D):Rs:=oRs d.tp λds=>cond ((ds.length:Int)==0) .row (oRs (nth ds 0).st λs=>oRs (nQ thg s) λn=>cond ((ds.length:Int)==n)
 (cond (s==gJ&&!(nth ds 1).isNm) .row (cond ((jj s ds).all λd=>d.bl.isSome) .ok .row)) .row)
noncomputable def D.ks (d:D):List D:=d.tp.getD []
noncomputable def D.hd (d:D):List Nat:=(nth d.ks 0).st.getD []
noncomputable def fR (s:List Nat)(ds:List D):Rs:=cond (s==dI) .ok (fo 12 (CU s ds))
noncomputable def bsR (g:List D->Rs):List D->Rs
 | []=>.ok
 | b::bs=>(g (b.bl.getD [])).and (bsR g bs)
noncomputable def inR (g:Option (List D->Rs))(d:D):Rs:=match g with
 | some g=>(fR d.hd d.ks).and (bsR g (jj d.hd d.ks))
 | none=>.deep
noncomputable def g9 (g:Option (List D->Rs))(d:D):Rs:=(hf d).and (inR g d)
noncomputable def hE (g:Option (List D->Rs)):List D->Rs
 | []=>.ok
 | d::ds=>(g9 g d).and (hE g ds)
noncomputable def ro:Nat->List D->Rs
 | 0=>hE iD
 | k+1=>hE (aT (ro k))
noncomputable def RdI (hp:List MO)(x:MV):D->Prop
 | .none=>x=.none
 | .bool b=>x=.bool b
 | .int i=>x=.int i
 | .str s=>x=.str s
 | .tup ds=>∃xs,x=.tup xs/\Rds hp xs ds
 | .list ds=>∃i xs,x=.ref i/\hp[i]?=aT (.list xs)/\Rds hp xs ds
theorem Rd.iv (h:Rd hp x d):RdI hp x d:=Rd.casesOn (motive_1:=λx d _=>RdI hp x d) h rfl (λ_=>rfl) (λ_=>rfl) (λ_=>rfl) (λh=>⟨_,rfl,h⟩) λe h=>⟨_,_,rfl,e,h⟩
theorem KR (h:Rd hp x (.tup ds)):∃xs,x=.tup xs/\Rds hp xs ds:=h.iv
theorem dM (h:Rd hp x (.str s)):x=.str s:=h.iv
theorem JY (h:Rd hp x (.list ds)):∃i xs,x=.ref i/\hp[i]?=aT (.list xs)/\Rds hp xs ds:=h.iv
noncomputable def Jj (hp:List MO)(xs:List MV):List D->Prop
 | []=>xs=[]
 | d::ds=>∃y ys,xs=y::ys/\Rd hp y d/\Rds hp ys ds
theorem Rds.iv (h:Rds hp xs ds):Jj hp xs ds:=Rds.casesOn (motive_2:=λxs ds _=>Jj hp xs ds) h rfl λa b=>⟨_,_,rfl,a,b⟩
theorem lP (h:Rds hp xs []):xs=[]:=h.iv
theorem Jk (h:Rds hp xs (d::ds)):∃y ys,xs=y::ys/\Rd hp y d/\Rds hp ys ds:=h.iv
noncomputable def D.kd:D->Kd
 | .none=>.none
 | .bool _=>.bool
 | .int _=>.int
 | .str _=>.str
 | .list _=>.list
 | .tup _=>.tuple
theorem Ed (h:Rd hp x d):fk hp x t=kX d.kd t:=Rd.casesOn (motive_1:=λx d _=>fk hp x t=kX d.kd t) h rfl (λ_=>rfl) (λ_=>rfl) (λ_=>rfl) (λ_=>rfl) λe _=>congrArg (tyO · t) e
theorem pR {s:List Nat}(h:s.all (λc=>decide (c<128))=eQ):okS s:=λc hc=>Lp (of_decide_eq_true (LN.mp h c hc)) (nb rfl)
theorem Ee {d:D}(h:d.tp=aT ds):d=.tup ds:=by
 cases d with
 | tup xs=>exact congrArg D.tup (BY h)
 | _=>exact av h
theorem z4 {d:D}(h:d.st=aT s):d=.str s:=by
 cases d with
 | str t=>exact congrArg D.str (BY h)
 | _=>exact av h
theorem Ef {d:D}(h:d.bl=aT ds):d=.list ds\/d=.tup ds:=by
 cases d with
 | list xs=>exact .inl (congrArg D.list (BY h))
 | tup xs=>exact .inr (congrArg D.tup (BY h))
 | _=>exact av h
theorem Jl {d:D}(h:d.tp=iD):kX d.kd .tuple=aT bY:=by
 cases d with
 | tup xs=>exact oW h
 | _=>rfl
theorem Jm {d:D}(h:d.st=iD):kX d.kd .str=aT bY:=by
 cases d with
 | str xs=>exact oW h
 | _=>rfl
theorem u6 (e:hp<+:hp'):(∀{x d},Rd hp x d->Rd hp' x d)/\∀{xs ds},Rds hp xs ds->Rds hp' xs ds:=
 ⟨λh=>Rd.rec (motive_1:=λx d _=>Rd hp' x d) (motive_2:=λxs ds _=>Rds hp' xs ds) .none .bool .int .str (λ_ h=>.tup h) (λq _ h=>.list (ak e q) h) .nil (λ_ _ a b=>.cons a b) h,
  λh=>Rds.rec (motive_1:=λx d _=>Rd hp' x d) (motive_2:=λxs ds _=>Rds hp' xs ds) .none .bool .int .str (λ_ h=>.tup h) (λq _ h=>.list (ak e q) h) .nil (λ_ _ a b=>.cons a b) h⟩
theorem fi (e:hp<+:hp')(h:Rd hp x d):Rd hp' x d:=(u6 e).1 h
theorem tJ (e:hp<+:hp')(h:Rds hp xs ds):Rds hp' xs ds:=(u6 e).2 h
theorem bT (h:Rds hp xs ds):xs.length=ds.length:=by
 induction ds generalizing xs with
 | nil=>rw [lP h];rfl
 | cons d ds ih=>refine e23 h.iv λy ys e _ h2=>?_;rw [e];exact congrArg (·+1) (ih h2)
theorem fj {j:Nat}{x:MV}(h:Rds hp xs ds)(e:xs[j]?=aT x):∃d,ds[j]?=aT d/\Rd hp x d:=by
 induction ds generalizing xs j with
 | nil=>rw [lP h] at e;exact av e
 | cons d ds ih=>
  refine e23 h.iv λy ys q h1 h2=>?_;rw [q] at e
  cases j with
  | zero=>exact ⟨d,rfl,BY e▸h1⟩
  | succ j=>exact ih h2 e
theorem lQ (h:Rds hp xs ds)(l:i<ds.length):∃x,xs[i]?=aT x/\Rd hp x (nth ds i):=by
 have l':i<xs.length:=bT h▸l;refine e12 (fj h (bK l')) λd e r=>⟨_,bK l',?_⟩
 unfold nth;rw [List.getD_eq_getElem?_getD,e];exact r
theorem Jn (h:Rds hp xs [a]):∃x,xs=[x]/\Rd hp x a:=by
 refine e23 h.iv λx r e h1 h2=>⟨x,?_,h1⟩
 rw [e,lP h2]
theorem tK (h:Rds hp xs [a,b]):∃x y,xs=[x,y]/\Rd hp x a/\Rd hp y b:=by
 refine e23 h.iv λx r e h1 h2=>?_;refine e12 (Jn h2) λy e' h3=>⟨x,y,?_,h1,h3⟩
 rw [e,e']
theorem CV (h:Rds hp xs [a,b,c]):∃x y z,xs=[x,y,z]/\Rd hp x a/\Rd hp y b/\Rd hp z c:=by
 refine e23 h.iv λx r e h1 h2=>?_;refine e23 (tK h2) λy z e' h3 h4=>⟨x,y,z,?_,h1,h3,h4⟩
 rw [e,e']
theorem Jo {a b:D}(h:D.ascs [a,b]=eQ):a.asc=eQ/\b.asc=eQ:=by
 refine e02 (ID.mp h) λh1 h2=>?_;exact ⟨h1,(ID.mp h2).1⟩
theorem eJ:∀{ds:List D},D.ascs ds=eQ->∀{j:Nat}{d:D},ds[j]?=aT d->d.asc=eQ
 | _::_,h,j,d,e=>by
  refine e02 (ID.mp h) λh1 h2=>?_
  cases j with
  | zero=>exact BY e▸h1
  | succ j=>exact eJ h2 e
theorem dH {ds:List D}(h:D.ascs ds=eQ)(i:Nat):(nth ds i).asc=eQ:=by
 unfold nth;rw [List.getD_eq_getElem?_getD]
 cases e:ds[i]? with
 | none=>rfl
 | some d=>exact eJ h e
theorem jk {α β:Type}{f:α->β}{l:List α}{j:Nat}{x:β}(h:(l.map f)[j]?=aT x):∃y,l[j]?=aT y/\x=f y:=e12 (LF.mp (LG ..▸h)) λy h1 h2=>⟨y,h1,h2.symm⟩
theorem al0 {P:α->Prop}:∀x∈([]:List α),P x:=λ_ h=>co h
theorem al1 {a:α}{P:α->Prop}(ha:P a):∀x∈[a],P x:=λ_ h=>oF.mp h▸ha
theorem alc {a:α}{l:List α}{P:α->Prop}(ha:P a)(hl:∀x∈l,P x):∀x∈a::l,P x:=λx h=>(Lu.mp h).elim (λe=>e▸ha) (hl x)
theorem al2 {a b:α}{P:α->Prop}(ha:P a)(hb:P b):∀x∈[a,b],P x:=alc ha (al1 hb)
theorem al4 {a b c d:α}{P:α->Prop}(ha:P a)(hb:P b)(hc:P c)(hd:P d):∀x∈[a,b,c,d],P x:=alc ha (alc hb (al2 hc hd))
section
theorem jR (hx:Rd hp x d)(e:kX d.kd t=aT b)(hq:f b):onO (fk hp x t) f:=aI ((Ed hx).trans e) hq
theorem un (h:(!b)=eQ):b=bY:=by
 cases b with
 | true=>exact ff h
 | false=>rfl
theorem uf (h:(!b)=bY):b=eQ:=by
 cases b with
 | true=>rfl
 | false=>exact tf h
theorem qa {Q:Bool->Prop}(hq:Q (b&&c))(k:b=eQ->Q c->G)(k':Q bY->F):bt b G F:=by
 cases b with
 | true=>exact k rfl hq
 | false=>exact k' hq
theorem qn {Q:Bool->Prop}(hq:Q (b&&c))(k:Q c->G)(k':Q bY->F):bt (!b) F G:=by
 cases b with
 | true=>exact k hq
 | false=>exact k' hq
theorem aF {v:MV}{xs:List MV}(i:Nat)(e:xs[i]?=aT v)(h:f v):cS xs (i:Int) f:=aB (tF rfl (By.mp e).1) e h
theorem jb {f:MV->Prop}(i:Nat)(hs:Rds hp xs ds)(l:i<ds.length)(k:∀x,Rd hp x (nth ds i)->f x):cS xs (i:Int) f:=by
 refine e12 (lQ hs l) λx e r=>?_;exact aF i e (k x r)
theorem KS {N R:Prop}(q:bt (a||f) N R):bt (!a) (bt (!f) R N) N:=by
 cases a with
 | true=>exact q
 | false=>
  cases f with
  | true=>exact q
  | false=>exact q
theorem z5 {G:Prop}{d:D}(hx:Rd hp x d)(ha:d.asc=eQ)(hq:(oRs d.tp f).on P Q R)(k:∀xs ds,x=.tup xs->d=.tup ds->Rds hp xs ds->D.ascs ds=eQ->(f ds).on P Q R->G)(kq:fk hp x .tuple=aT bY->Q->G):G:=by
 refine Rs.oc hq (λds e hq=>?_) λe q=>kq ((Ed hx).trans (Jl e)) q;have e:=Ee e;rw [e] at hx ha;exact e12 hx.iv λxs ex hs=>k xs ds ex e hs ha hq
theorem z6 {xs:List MV}{ds:List D}(hs:Rds hp xs ds)(l:0<ds.length)(hq:(oRs (nth ds 0).st f).on P Q R)(k:∀s,nth ds 0=.str s->xs[0]?=aT (.str s)->(f s).on P Q R->G)(kq:Q->F):cS xs 0 λv=>onO (fk hp v .str) λb=>bt (!b) F G:=by
 refine e12 (lQ hs l) λx e r=>?_;refine aF 0 e ?_;refine Rs.oc hq (λs es hq=>?_) λen q=>jR r (Jm en) (kq q);have es:=z4 es;rw [es] at r;have ex:x=.str s:=r.iv;rw [ex] at e ⊢;exact k s es e hq
variable {Q:MV->List MO->Prop}{X:XT}{h:List MO}
variable {K:KT}(hK:ar PP K)
include hK
theorem G0 {d:D}{N:Nat}(hx:Rd h x d)(hN:1<N)(hq:Q (.bool d.isNum) h):K N 23 [x] Q X h:=by
 refine kc hK jH hN rfl rfl λM hM=>?_;refine kc hK kN hM rfl rfl λM hM=>?_
 cases d with
 | int k=>
  refine jR hx rfl (jR hx rfl ?_);rw [show x=.int k from hx.iv];exact qa (Q:=λb=>Q (.bool b) h) hq (λ_ q=>q) id
 | bool b=>exact jR hx rfl (jR hx rfl hq)
 | _=>exact jR hx rfl hq
omit hK in
theorem CW {s:List Nat}{w:Option MV}{v:MV}{step:MV->(Fl->MS->Prop)->MS->Prop}{P:Fl->MS->Prop}{Z:Bool->Prop}
  (hs:∀(c:Nat) (w:Option MV) (R:Fl->MS->Prop),bt (abc.contains c||pQ.contains c) (R .next ⟨[aT v,aT (.str [c])],h⟩) (R (.ret (.bool bY)) ⟨[aT v,aT (.str [c])],h⟩)->step (.str [c]) R ⟨[aT v,w],h⟩)
  (hq:Z (s.all λc=>abc.contains c||pQ.contains c)) (ht:∀w,Z eQ->P .next ⟨[aT v,w],h⟩) (hf:∀w,Z bY->P (.ret (.bool bY)) ⟨[aT v,w],h⟩) :
  dJ iD step P (s.map λc=>.str [c]) ⟨[aT v,w],h⟩:=by
 induction s generalizing w with
 | nil=>rw [List.map_nil,gL];exact ⟨trivial,ht w hq⟩
 | cons c s ih=>
  rw [QM,d4];exact ⟨trivial,hs c w _ (qa hq (λ_ q=>ih q) (hf _))⟩
theorem u7 {d:D}{N:Nat}(hx:Rd h x d)(ha:d.asc=eQ)(hN:0<N)(hq:Q (.bool d.isNm) h):K N 24 [x] Q X h:=by
 refine kc hK ni hN rfl rfl λM hM=>?_
 cases d with
 | str s=>
  rw [show x=.str s from hx.iv];have hq:Q (.bool (isNm s)) h:=hq;unfold isNm at hq;refine qa (Q:=λb=>Q (.bool b) h) hq (λe hq=>qn (Q:=λb=>Q (.bool b) h) hq (λhq=>?_) id) id;refine cH (ss:=kws) (pR ha) tH ?_;refine bV (λe=>by rw [e] at hq;exact hq) λe=>?_;rw [e] at hq;have l:0<s.length:=M8.mp (of_decide_eq_true (p:=(1:Int)<=s.length) (by assumption));refine aB (bn (Int.le_refl 0) (lW l)) (z0 (List.ne_nil_of_length_pos l)) ?_;refine qn (Q:=λb=>Q (.bool b) h) hq (λhq=>?_) id;refine aZ (zZ ha) ?_;exact CW (Z:=λb=>Q (.bool b) h) (λc w R q=>KS q) hq (λw q=>q) λw q=>q
 | _=>exact jR hx rfl hq
noncomputable def FO (K:KT)(k:Nat):Prop:=∀{N:Nat}{d:D}{x:MV}{z:Int}{Q:MV->List MO->Prop}{X:XT}{h:List MO},Rd h x d->d.asc=eQ->z=13-(k:Int)->k+2<N->(fo k d).on (Q .none h) (X 3 h) (X 4 h)->K N 55 [x,.int z] Q X h
theorem CX (ih:FO K k):FO K (k+1):=by
 intro N d x z Q X h hx ha hz hN hq;have h12:decide (12<z)=bY:=decide_eq_false (by rw [hz];lia);refine z5 hx ha hq (λxs ds ex _ hs ha hq=>?_) λty q=>kc hK cF hN rfl rfl λM hM=>fq h12 (aI ty ⟨rfl,q⟩);rw [ex];refine kc hK cF hN rfl rfl λM hM=>?_;refine fq h12 ?_;have hl:=bT hs;rw [<-hl] at hq;refine Rs.c3 hq (λl hq=>?_) λq=>⟨rfl,q⟩
 have l:2<=ds.length:=hl▸NO.mp (of_decide_eq_true l);refine z6 hs (Mf l) hq (λs _ e0 hq=>?_) λq=>⟨rfl,q⟩
 have hz:z+1=13-(k:Int):=by rw [hz];lia
 refine Rs.c2 hq (λ_ hq=>?_) λe hq=>?_
 ·have last:∀{b:Bool} {v0 v1:Option MV},((s==iP&&(nth ds 1).isNum)||(s==eH&&(nth ds 1).isNm))=b->aA K M [.ite (.not (.var 2)) [.raise 3] [],.ret (.cst .none)] (fin Q) (xin X) ⟨[v0,v1,aT (.bool b)],h⟩:=λ{b v0 v1} e1=>by
   rw [e1] at hq
   cases b with
   | true=>exact hq
   | false=>exact ⟨rfl,hq⟩
  have nx:(s==iP&&(nth ds 1).isNum)=bY->cS xs 0 λv=>eqB (aeq v (.str eH)) h v (.str eH) λb=>bt b (cS xs 1 λy=>K M 24 [y] (λv hp=>aA K M [.ite (.not (.var 2)) [.raise 3] [],.ret (.cst .none)] (fin Q) (xin X) ⟨[aT (.tup xs),aT (.int z),aT v],hp⟩) X h) (aA K M [.ite (.not (.var 2)) [.raise 3] [],.ret (.cst .none)] (fin Q) (xin X) ⟨[aT (.tup xs),aT (.int z),aT (.bool bY)],h⟩):=λe0'=>by
   refine aF 0 e0 (bV (λe=>jb 1 hs l λy hy=>u7 hK hy (dH ha 1) (n1 hM (by simp +arith only)) (last ?_)) λe=>last ?_)
   ·rw [e0',e];rfl
   ·rw [e0',e];rfl
  refine aF 0 e0 (bV (λe=>jb 1 hs l λy hy=>G0 hK hy (n1 hM (by simp +arith only)) (bV (λe'=>last ?_) λe'=>nx ?_)) λe=>nx ?_)
  ·rw [e,e'];rfl
  ·rw [e,e'];rfl
  ·rw [e];rfl
 ·have l3:2<ds.length:=Nu l λq=>ne_of_beq_false e (by rw [hl,<-q];rfl);refine aF 0 e0 (cH (ss:=sgs) (pR (show D.asc (.str s)=eQ by rw [<-show nth ds 0=.str s by assumption];exact dH ha 0)) GY ?_);refine Rs.cn hq (λ_ hq=>?_) λq=>⟨rfl,q⟩
  exact jb 1 hs l λy hy=>ih hy (dH ha 1) hz (n1 hM (by simp +arith only)) (Rs.seq hq (λ_ hq=>jb 2 hs l3 λy hy=>ih hy (dH ha 2) hz (n1 hM (by simp +arith only)) hq) id id)
theorem CY:FO K 0:=λhx ha hz hN hq=>kc hK cF hN rfl rfl λM hM=>kY (decide_eq_true (by rw [hz];decide)) ⟨rfl,hq⟩
theorem Jp:∀(k:Nat),FO K k
 | 0=>CY hK
 | k+1=>CX hK (Jp k)
end
section
inductive BlM (hp:List MO)(u:MV)(a:List D):Prop
 | mk (d:D) (h:Rd hp u d) (c:d.asc=eQ) (e:d.bl=aT a)
theorem BlM.up (e:hp<+:hp')(h:BlM hp u a):BlM hp' u a:=h.casesOn λd h c q=>⟨d,fi e h,c,q⟩
theorem BlM.iter (h:BlM hp u a):∃xs g,Rds hp xs a/\D.ascs a=eQ/\∀hp',hp<+:hp'->fW .val [u] hp'=aT (xs,g)/\aN g hp':=by
 obtain ⟨d,h,c,e⟩:=h;refine MN (Ef e) (λq=>?_) λq=>?_
 ·rw [q] at h c;refine e23 h.iv λi xs e1 e2 h=>?_;rw [e1];exact ⟨xs,_,h,c,λhp' p=>⟨bf (ak p e2),ak p e2⟩⟩
 ·rw [q] at h c;refine e12 h.iv λxs e1 h=>?_;rw [e1];exact ⟨xs,iD,h,c,λ_ _=>⟨rfl,trivial⟩⟩
theorem rD:∀{es:List (List Nat × Int)},nQ es s=aT n->(s,n)∈es
 | [],e=>av e
 | (k,v)::r,e=>by
  replace e:(match k==s with | true=>aT v | false=>nQ r s)=aT n:=e
  cases q:k==s with
  | true=>rw [q] at e;rw [<-eq_of_beq q,<-BY e];exact .head _
  | false=>rw [q] at e;exact .tail _ (rD e)
theorem oL:∀(es:List (List Nat × Int)),cK (cds es) s=(nQ es s).map .int
 | []=>rfl
 | (k,v)::r=>by
  show (match k==s with | true=>aT (MV.int v) | false=>cK (cds r) s)=(match k==s with | true=>aT v | false=>nQ r s).map .int
  cases k==s with
  | true=>rfl
  | false=>exact oL r
theorem KU (h:nQ thg s=aT n)(e:(s==dI)=bY):2<=n:=by
 have:=LN.mp (show (thg.all λp=>p.1==dI||decide (2<=p.2))=eQ from rfl) _ (rD h);rw [show ((s==dI)||decide (2<=n))=decide (2<=n) by rw [e];rfl] at this;exact of_decide_eq_true this
theorem wl {n v i:Nat}(el:nQ thg s=aT (n:Int))(e:(s==w)=eQ)(r:nQ thg w=aT (v:Int))(b:Qm (i+1) v=eQ):i<n:=by
 rw [eq_of_beq e] at el;exact Int.ofNat.inj (same r el)▸nb b
structure nu (hp:List MO)(s:List Nat)(xs:List MV)(ds:List D):Prop where
 h:Rds hp xs ds
 c:D.ascs ds=eQ
 e0:xs[0]?=aT (.str s)
 el:nQ thg s=aT (ds.length:Int)
theorem nu.up (r:nu hp s xs ds)(e:hp<+:hp'):nu hp' s xs ds:=⟨tJ e r.h,r.c,r.e0,r.el⟩
theorem KV {d:D}(hx:Rd hp x d)(ha:d.asc=eQ)(e:hf d=.ok):∃xs,x=.tup xs/\nu hp d.hd xs d.ks/\((jj d.hd d.ks).all λd=>d.bl.isSome)=eQ:=by
 have q:(hf d).on True False False:=by rw [e];trivial
 refine z5 hx ha q (λxs ds ex ed hs ha q=>?_) λ_ q=>q.elim;refine Rs.cc q (λ_ q=>q.elim) λl q=>?_;have l:0<ds.length:=Oe λq=>ne_of_beq_false l (by rw [q];rfl);refine Rs.oc q (λs es q=>?_) λ_ q=>q.elim;refine Rs.oc q (λn en q=>?_) λ_ q=>q.elim;refine Rs.cc q (λel q=>?_) λ_ q=>q.elim;refine Rs.cc q (λ_ q=>q.elim) λ_ q=>?_;refine Rs.cc q (λq _=>?_) λ_ q=>q.elim;have e1:d.ks=ds:=by rw [ed];rfl
 have e2:d.hd=s:=by unfold D.hd;rw [e1,es];rfl
 rw [e1,e2];refine e12 (lQ hs l) λy e r=>?_;rw [z4 es] at r;exact ⟨xs,ex,⟨hs,ha,by rw [e,show y=_ from r.iv],by rw [en,eq_of_beq el]⟩,q⟩
theorem CZ:(jj s ds).length<=2:=by
 unfold jj
 cases s==wIf with
 | true=>exact nb rfl
 | false=>
  cases s==aU with
  | true=>exact nb rfl
  | false=>exact nb rfl
variable {K:KT}(hK:ar PP K)
include hK
theorem oM {h:List MO}(r:nu h s xs ds)(hN:0<N)(hq:∀us,Rds h us (jj s ds)->Q (.ref h.length) (h++[.list us])):K N 25 [.tup xs] Q X h:=by
 refine kc hK gj hN rfl rfl λM hM=>?_;unfold jj at hq;refine aF 0 r.e0 (bV (λe=>?_) λe=>?_)
 ·rw [e] at hq;exact jb 2 r.h (wl r.el e (v:=4) rfl rfl) λa ha=>jb 3 r.h (wl r.el e (v:=4) rfl rfl) λb hb=>hq _ (.cons ha (.cons hb .nil))
 ·rw [e] at hq;refine aF 0 r.e0 (bV (λe=>?_) λe=>?_)
  ·rw [e] at hq;exact jb 2 r.h (wl r.el e (v:=3) rfl rfl) λa ha=>hq _ (.cons ha .nil)
  ·rw [e] at hq;exact hq _ .nil
theorem G1 {h:List MO}(r:nu h s xs ds)(e:(s==dI)=bY)(hN:0<N)(hq:∀y,Rd h y (CU s ds)->Q y h):K N 26 [.tup xs] Q X h:=by
 refine kc hK fw hN rfl rfl λM hM=>?_;have l:=NO.mp (KU r.el e);unfold CU at hq;refine aF 0 r.e0 (fq e (aF 0 r.e0 (bV (λe=>?_) λe=>?_)))
 ·rw [e] at hq;exact jb 2 r.h (wl r.el e (v:=3) rfl rfl) hq
 ·rw [e] at hq;exact jb 1 r.h l hq
theorem pS {h:List MO}{d:D}(hu:Rd h u d)(hN:0<N)(hq:Q (.bool d.bl.isSome) h):K N 56 [u] Q X h:=by
 refine kc hK gV hN rfl rfl λM hM=>?_
 cases d<;>exact jR hu rfl (jR hu rfl hq)
end
section
theorem Rs.qb {Q:MV->List MO->Prop}(hq:(cond b Rs.ok .row).on (∀h',h<+:h'->Q (.bool eQ) h') (∀h',h<+:h'->Q (.bool bY) h') R):∀h',h<+:h'->Q (.bool b) h':=by
 cases b with
 | true=>exact hq
 | false=>exact hq
theorem Rs.sn {v:Rs}(hq:(cond (b&&!c) Rs.row v).on P Q R)(k:v.on P Q R->G)(kq:Q->F)(w:b=eQ->bt (!c) F G->W):bt b W G:=by
 cases b with
 | true=>exact w rfl (c2 hq (λ_=>kq) λ_=>k)
 | false=>exact k hq
variable {K:KT}(hK:ar PP K)
include hK
theorem G2 {h:List MO}{X:XM}(r:nu h s xs ds)(hN:0<N){w:Option MV}(hq:∀h',h<+:h'->Q (.bool ((jj s ds).all λd=>d.bl.isSome)) h') :
  wpS K N (.ret (.blt .all [.comp (.call 56 [.var 1]) [1] bY .val [.call 25 [.var 0]] []])) (fin Q) X ⟨[aT (.tup xs),w],h⟩:=by
 refine oM hK r hN λus hu=>?_;refine aZ (bf (ae _ _)) ?_;refine lO (λz=>⟨[aT (.tup xs),z],h++[MO.list us]⟩) (λj=>(((jj s ds).take j).map λd=>d.bl.isSome).map MV.bool) w rfl rfl (λ_=>ae h (.list us)) (λj y z P hy h1 h2=>?_) (λz=>?_)
 ·refine e12 (fj hu hy) λd hd hr=>?_;exact pS hK (fi (aa (ai _)) hr) hN (h1 _ _ (by rw [bq hd,LK,LK];rfl))
 ·rw [bT hu,Mr];refine af (ae _ _) ?_;refine .mk _ rfl (by rw [tO];exact IT CZ (nb rfl)) ?_;rw [List.all_map];exact hq _ (aa (aa (ai _)))
theorem KW {d:D}{h:List MO}{N:Nat}(hx:Rd h x d)(ha:d.asc=eQ)(hN:1<N)(hq:(hf d).on (∀h',h<+:h'->Q (.bool eQ) h') (∀h',h<+:h'->Q (.bool bY) h') R):K N 57 [x] Q X h:=by
 refine z5 hx ha hq (λxs ds ex _ hs ha hq=>?_) λty q=>kc hK gW hN rfl rfl λM hM=>aI ty (q h (ai _));rw [ex];refine kc hK gW hN rfl rfl λM hM=>?_;have hl:=bT hs;have no:(∀h',h<+:h'->Q (.bool bY) h')->Q (.bool bY) h:=λq=>q h (ai _);refine Rs.cc hq (λl q=>kY (by rw [hl];exact l) (no q)) λl hq=>fq (by rw [hl];exact l) ?_;refine z6 hs (Oe λq=>ne_of_beq_false l (by rw [q];rfl)) hq (λs _ e0 hq=>?_) no;have ed:=oL (s:=s) thg;refine aF 0 e0 ?_;refine Rs.oc hq (λn en hq=>?_) λen q=>kY (by rw [ed,en];rfl) (no q);rw [en] at ed;refine fq (by rw [ed];rfl) (aF 0 e0 (aI ed ?_));rw [<-hl] at hq;refine Rs.cn hq (λe hq=>?_) no;have r:nu h s xs ds:=⟨hs,ha,e0,by rw [en,<-hl,eq_of_beq e]⟩
 exact aF 0 e0 (Rs.sn hq (λhq=>G2 hK r (n1 hM (by simp +arith only)) (Rs.qb hq)) no λe w=>jb 1 hs (wl r.el e (v:=3) rfl rfl) λy hy=>u7 hK hy (dH ha 1) (n1 hM (by simp +arith only)) w)
end
section
theorem z7 {bs:List D}(e:bs[j]?=aT b):bsR g (bs.drop j)=(g (b.bl.getD [])).and (bsR g (bs.drop (j+1))):=by
 obtain ⟨h1,h2⟩:=By.mp e;rw [L9 h1,h2];rfl
theorem tL {ds:List D}(e:ds[j]?=aT d):hE g (ds.drop j)=(g9 g d).and (hE g (ds.drop (j+1))):=by
 obtain ⟨h1,h2⟩:=By.mp e;rw [L9 h1,h2];rfl
noncomputable def Rs.up (r:Rs)(h:List MO)(Q:List MO->Prop)(X:XT):Prop:=r.on (∀h',h<+:h'->Q h') (∀h',h<+:h'->X 3 h') (∀h',h<+:h'->X 4 h')
theorem Rs.up.tr {r:Rs}(q:r.up h Q X)(p:h<+:h'):r.up h' Q X:=Rs.mono q (λq h2 p2=>q h2 (p.trans p2)) (λq h2 p2=>q h2 (p.trans p2)) λq h2 p2=>q h2 (p.trans p2)
theorem nv {o:Option α}(h:o.isSome=eQ):o=aT (o.getD d):=by
 cases o with
 | none=>exact ff h
 | some a=>rfl
noncomputable def NR (K:KT)(k:Nat):Prop:=∀{u:MV}{ds:List D}{N:Nat}{z:Int}{Q:MV->List MO->Prop}{X:XT}{h:List MO},BlM h u ds->z=9-(k:Int)->k+16<N->(ro k ds).up h (Q .none) X->K N 58 [u,.int z] Q X h
variable {K:KT}(hK:ar PP K)
include hK
theorem G4 {M:Nat}{z:Int}{v w:Option MV}{X:XT}{P:Fl->MS->Prop}{h:List MO}(r:nu h s xs ds)(hM:14<M)(hq:(fR s ds).on (P .next ⟨[v,aT (.int z),aT (.tup xs),w],h⟩) (X 3 h) (X 4 h)) :
  wpS K M (.ite (.cmp .ne (.idx (.var 2) (.cst (.int 0))) (.cst (.str dI))) [.expr (.call 55 [.call 26 [.var 2],.cst (.int 1)])] []) P (xin X) ⟨[v,aT (.int z),aT (.tup xs),w],h⟩:=by
 refine aF 0 r.e0 ?_;refine Rs.cc hq (λe hq=>fq (ng e) hq) λe hq=>kY (pg e) ?_;refine G1 hK r e (n1 hM (by simp +arith only)) λy hy=>Jp hK 12 hy ?_ rfl hM hq;unfold CU
 cases s==gJ with
 | true=>exact dH r.c 2
 | false=>exact dH r.c 1
theorem C0 (ih:NR K k){M:Nat}{z:Int}{v w:Option MV}{X:XT}{P:Fl->MS->Prop}{h:List MO}(r:nu h s xs ds)(hb:((jj s ds).all λd=>d.bl.isSome)=eQ)(hz:z+1=9-(k:Int))(hM:k+16<M)
  (hq:(bsR (ro k) (jj s ds)).up h (λh'=>∀w,P .next ⟨[v,aT (.int z),aT (.tup xs),w],h'⟩) X) :
  wpS K M (.for_ [3] bY .val [.call 25 [.var 2]] [.expr (.call 58 [.var 3,.bin .add (.var 1) (.cst (.int 1))])]) P (xin X) ⟨[v,aT (.int z),aT (.tup xs),w],h⟩:=by
 have ha:∀d∈jj s ds,d.asc=eQ:=by
  unfold jj
  cases s==wIf with
  | true=>exact al2 (dH r.c 2) (dH r.c 3)
  | false=>
   cases s==aU with
   | true=>exact al1 (dH r.c 2)
   | false=>exact al0
 refine oM hK r (n1 hM (by simp +arith only)) λus hus=>?_;have p0:h<+:h++[.list us]:=aa (ai _);refine aZ (bf (ae _ _)) ?_;refine lK (λj w3 hp=>⟨[v,aT (.int z),aT (.tup xs),w3],hp⟩) (λj w3 hp=>h++[.list us]<+:hp/\(bsR (ro k) ((jj s ds).drop j)).up hp (λh'=>∀w,P .next ⟨[v,aT (.int z),aT (.tup xs),w],h'⟩) X)
  _ _ rfl ⟨ai _,hq.tr p0⟩ (λ_ _ _ hI=>ak hI.1 (ae _ _)) (λj y w3 hp P' hy hI hn _=>?_) (λw3 hp hI=>?_)
 ·refine e02 hI λp hI=>?_;refine e12 (fj hus hy) λb hb' hr=>?_;have hm:=Lo hb';rw [z7 hb'] at hI;refine ih ⟨b,fi (p0.trans p) hr,ha b hm,nv (LN.mp hb b hm)⟩ hz hM (Rs.seq hI (λ_ hI h' p'=>hn _ h' ⟨p.trans p',Rs.up.tr hI p'⟩) id id)
 ·have:=hI.2;rw [bT hus,Pk] at this;exact this hp (ai _) w3
noncomputable def IN (K:KT)(g:Option (List D->Rs))(k:Nat):Prop:=∀{M:Nat}{d:D}{z:Int}{xs:List MV}{v w:Option MV}{X:XT}{P:Fl->MS->Prop}{h:List MO},nu h d.hd xs d.ks->((jj d.hd d.ks).all λd=>d.bl.isSome)=eQ->z=9-(k:Int)->k+15<M->(inR g d).up h (λh'=>∀w,P .next ⟨[v,aT (.int z),aT (.tup xs),w],h'⟩) X->
  aA K M [.ite (.cmp .gt (.var 1) (.glob 7 (.int 8))) [.raise 4] [],.ite (.cmp .ne (.idx (.var 2) (.cst (.int 0))) (.cst (.str dI))) [.expr (.call 55 [.call 26 [.var 2],.cst (.int 1)])] [],.for_ [3] bY .val [.call 25 [.var 2]] [.expr (.call 58 [.var 3,.bin .add (.var 1) (.cst (.int 1))])]] P (xin X) ⟨[v,aT (.int z),aT (.tup xs),w],h⟩
theorem u9 {g:Option (List D->Rs)}(er:ro k=hE g)(ih:IN K g k):NR K k:=by
 intro u ds N z Q X h hu hz hN hq;refine kc hK jJ hN rfl rfl λM hM=>?_;refine e23 hu.iter λxs gd h1 ha h2=>?_;rw [er] at hq;refine aZ (h2 _ (ai _)).1 ?_;refine gu (λj w2 w3 hp=>⟨[aT u,aT (.int z),w2,w3],hp⟩) (λj w2 w3 hp=>h<+:hp/\(hE g (ds.drop j)).up hp (Q .none) X)
  _ _ _ rfl ⟨ai _,hq⟩ (λ_ _ _ _ hI=>(h2 _ hI.1).2) (λj x w2 w3 hp P hx hI hn _=>?_) (λw2 w3 hp hI=>?_)
 ·refine e02 hI λp hI=>?_;refine e12 (fj h1 hx) λd hd hr=>?_;rw [tL hd] at hI;have ad:=eJ ha hd;refine KW (R:=∀h',hp<+:h'->X 4 h') hK (fi p hr) ad (n1 hM (by simp +arith only)) (Rs.seq2 hI (λe hI h' p'=>?_) (λq h' p'=>⟨rfl,q h' p'⟩) id);refine e13 (KV (fi (p.trans p') hr) ad e) λxs ex rm hb=>?_;rw [ex];exact ih rm hb hz (n1 hM (by simp +arith only)) (Rs.seq (Rs.up.tr hI p') (λ_ hI h2 p2 w=>hn _ _ h2 ⟨p.trans (p'.trans p2),Rs.up.tr hI p2⟩) id id)
 ·have:=hI.2;rw [bT h1,Pk] at this;exact this hp (ai _)
theorem C3:IN K iD 0:=λ{M d z xs v w X P h} rm hb hz hM hI=>kY (decide_eq_true (by rw [hz];decide)) ⟨rfl,hI h (ai _)⟩
theorem C4 (ih:NR K k):IN K (aT (ro k)) (k+1):=λ{M d z xs v w X P h} rm hb hz hM hI=>by
 have hz:z+1=9-(k:Int):=by rw [hz];lia
 refine fq (decide_eq_false (show ¬ 8<z by lia)) ?_;refine G4 hK rm (n1 hM (by simp +arith only)) (Rs.seq hI (λ_ hI=>?_) (λq=>q h (ai _)) λq=>q h (ai _));exact C0 hK ih rm hb hz (n1 hM (by simp +arith only)) hI
theorem Jq:∀k,NR K k
 | 0=>u9 hK (g:=none) rfl (C3 hK)
 | k+1=>u9 hK (g:=some (ro k)) rfl (C4 hK (Jq k))
end
section
noncomputable def Tm.d:Tm->D
 | .num k=>.tup [.str iP,.int k]
 | .nm s=>.tup [.str eH,.str s]
 | .op c a b=>.tup [.str [c],a.d,b.d]
theorem Tm.rd:∀t:Tm,Rd hp t.mv t.d
 | .num k=>.tup (.cons (.str _) (.cons (.int _) .nil))
 | .nm s=>.tup (.cons (.str _) (.cons (.str _) .nil))
 | .op c a b=>.tup (.cons (.str _) (.cons a.rd (.cons b.rd .nil)))
theorem Tm.rd_mv {t:Tm}{x:MV}(h:Rd hp x t.d):x=t.mv:=by
 induction t generalizing x with
 | num k=>refine e12 h.iv λxs e h=>e23 (tK h) λy z e' h1 h2=>?_;rw [e,e',dM h1,show z=_ from h2.iv];rfl
 | nm s=>refine e12 h.iv λxs e h=>e23 (tK h) λy z e' h1 h2=>?_;rw [e,e',dM h1,dM h2];rfl
 | op c a b ia ib=>refine e12 h.iv λxs e h=>e34 (CV h) λy z w e' h1 h2 h3=>?_;rw [e,e',dM h1,ia h2,ib h3];rfl
mutual
noncomputable def Rw.dis:Rw->D->Prop
 | .set s t,d=>d=.tup [.str gJ,.str s,t.d]
 | .tell t,d=>d=.tup [.str cz,t.d]
 | .skip,d=>d=.tup [.str dI]
 | .ite t a b,d=>∃x y,d=.tup [.str wIf,t.d,x,y]/\(∃xs,x.bl=aT xs/\dC a xs)/\∃ys,y.bl=aT ys/\dC b ys
 | .wh t a,d=>∃x,d=.tup [.str aU,t.d,x]/\∃xs,x.bl=aT xs/\dC a xs
noncomputable def dC:List Rw->List D->Prop
 | [],ds=>ds=[]
 | r::rs,ds=>∃e es,ds=e::es/\r.dis e/\dC rs es
end
theorem rE {rs:List Rw}{ds:List D}(h:dC rs ds){j:Nat}{d:D}(e:ds[j]?=aT d):∃r,rs[j]?=aT r/\r.dis d:=by
 induction rs generalizing ds j with
 | nil=>rw [show ds=[] from h] at e;exact av e
 | cons r rs ih=>
  refine e23 h λy ys q h2 h3=>?_;rw [q] at e
  cases j with
  | zero=>exact ⟨r,rfl,BY e▸h2⟩
  | succ j=>exact ih h3 e
theorem z8 {rs:List Rw}{ds:List D}(h:dC rs ds):ds.length=rs.length:=by
 induction rs generalizing ds with
 | nil=>rw [show ds=[] from h];rfl
 | cons r rs ih=>refine e23 h λy ys q _ h3=>?_;rw [q];exact congrArg (·+1) (ih h3)
noncomputable def Rw.subs:Rw->List (List Rw)
 | .ite _ a b=>[a,b]
 | .wh _ a=>[a]
 | _=>[]
theorem eM {P:List Rw->Prop}(h:∀rs,(∀r∈rs,∀b∈r.subs,P b)->P rs)(rs:List Rw):P rs:=h rs (Rw.rec_1 (motive_1:=λr=>∀b∈r.subs,P b) (motive_2:=λrs=>∀r∈rs,∀b∈r.subs,P b)
 (λ_ _=>al0) (λ_=>al0) al0 (λ_ a b ia ib=>al2 (h a ia) (h b ib)) (λ_ a ia=>al1 (h a ia)) al0 (λq rs iq irs r hr=>(Lu.mp hr).elim (λe=>e▸iq) (irs r)) rs)
theorem tM {r:Rw}{P:List Rw->Rw->Prop}(h1:∀t a b,P a (.ite t a b)/\P b (.ite t a b))(h2:∀t a,P a (.wh t a)):∀b∈r.subs,P b r:=by
 cases r with
 | ite t x y=>exact al2 (h1 t x y).1 (h1 t x y).2
 | wh t x=>exact al1 (h2 t x)
 | _=>exact al0
theorem hJ {r:Rw}:∀b∈r.subs,ay b<r.nest:=tM (P:=λb r=>ay b<r.nest) (λ_ _ _=>⟨O9 (ND ..),O9 (LX ..)⟩) λ_ _=>MF _
theorem rF {r:Rw}(h:r.good):∀b∈r.subs,g8 b:=λb hb=>tM (P:=λb r=>r.good->g8 b) (λ_ _ _=>⟨λh=>h.2.1,λh=>h.2.2⟩) (λ_ _ h=>h.2) b hb h
theorem xA {r:Rw}:∀b∈r.subs,(lns b).length<=r.lines.length:=by
 refine tM (P:=λb r=>(lns b).length<=r.lines.length) (λt x y=>?_) λt x=>?_
 ·show (lns x).length<=(lns x++rC::(lns y++[nP])).length+1/\(lns y).length<=(lns x++rC::(lns y++[nP])).length+1;rw [iN,MD,iN];exact ⟨by simp +arith only,by simp +arith only⟩
 ·show (lns x).length<=(lns x++[nP]).length+1;rw [iN];exact by simp +arith only
theorem oN:∀{rs:List Rw},∀r∈rs,r.lines.length<=(lns rs).length
 | q::rs,r,hr=>by
  show _<=(q.lines++lns rs).length;rw [iN];exact (Lu.mp hr).elim (λe=>e▸LQ _ _) λhr=>iF (oN r hr) (Nl _ _)
theorem z9 {rs:List Rw}(hm:r∈rs)(hz:(lns rs).length<=z)(hN:ay rs+k<=N):∀b∈r.subs,(lns b).length<=z/\ay b+k<N:=λb hb=>⟨iF (xA b hb) (iF (oN r hm) hz),n3 (hJ b hb) (fU (nO _) r hm) hN (by simp +arith only)⟩
theorem Jr {G:Prop}{d:D}{r:Rw}(hx:Rd hp x d)(ha:d.asc=eQ)(h:r.dis d)(k0:∀s xs,x=r.mv->r.mv=.tup (.str s::xs)->(s==wIf)=bY->(s==aU)=bY->G)
  (k1:∀(t:Tm) a b u v xs ys,r=.ite t a b->x=.tup [.str wIf,t.mv,u,v]->BlM hp u xs->dC a xs->BlM hp v ys->dC b ys->G) (k2:∀(t:Tm) a u xs,r=.wh t a->x=.tup [.str aU,t.mv,u]->BlM hp u xs->dC a xs->G):G:=by
 cases r with
 | set s t=>
  rw [show d=_ from h] at hx;refine e12 hx.iv λxs e h=>e34 (CV h) λy z w e' h1 h2 h3=>k0 _ _ ?_ rfl rfl rfl;rw [e,e',dM h1,dM h2,Tm.rd_mv h3];rfl
 | tell t=>
  rw [show d=_ from h] at hx;refine e12 hx.iv λxs e h=>e23 (tK h) λy z e' h1 h2=>k0 _ _ ?_ rfl rfl rfl;rw [e,e',dM h1,Tm.rd_mv h2];rfl
 | skip=>
  rw [show d=_ from h] at hx;refine e12 hx.iv λxs e h=>e12 (Jn h) λy e' h1=>k0 _ _ ?_ rfl rfl rfl;rw [e,e',dM h1];rfl
 | ite t a b=>
  refine e23 h λx y e d1 d2=>e12 d1 λxs e1 d1=>e12 d2 λys e2 d2=>?_;rw [e] at hx ha;refine e12 hx.iv λws ex h=>e23 h.iv λw ws ew h0 h=>e34 (CV h) λu v w e' h1 h2 h3=>?_;have hr:=Jo (ID.mp (show (t.d.asc&&D.ascs [x,y])=eQ from ha)).2;exact k1 t a b v w xs ys rfl (by rw [ex,ew,e',dM h0,Tm.rd_mv h1]) ⟨x,h2,hr.1,e1⟩ d1 ⟨y,h3,hr.2,e2⟩ d2
 | wh t a=>
  refine e12 h λx e d1=>e12 d1 λxs e1 d1=>?_;rw [e] at hx ha;refine e12 hx.iv λws ex h=>e34 (CV h) λu v w e' h0 h1 h2=>?_;exact k2 t a w xs rfl (by rw [ex,e',dM h0,Tm.rd_mv h1]) ⟨x,h2,(Jo (a:=t.d) (b:=x) ha).2,e1⟩ d1
noncomputable def SB (K:KT)(rs:List Rw):Prop:=∀{u:MV}{ds:List D}{N:Nat}{Q:MV->List MO->Prop}{X:XT}{h:List MO},BlM h u ds->dC rs ds->(lns rs).length<=100000->ay rs+1<N->(∀h',h<+:h'->Q (.tup (mvs rs)) h')->K N 60 [u] Q X h
variable {K:KT}(hK:ar PP K)
include hK
theorem C5 (rs:List Rw)(ih:∀r∈rs,∀b∈r.subs,SB K b):SB K rs:=by
 intro u ds N Q X h hu hd hz hN hq;refine e23 hu.iter λxs g h1 ha e1=>?_;refine kc hK nj hN rfl rfl λM hM=>?_;have hpre:h<+:h++[.list []]:=aa (ai _);refine aZ ((e1 _ hpre).1) ?_;refine lK (λj w hp=>⟨[aT u,aT (.ref h.length),w],hp⟩) (λj w hp=>h<+:hp/\hp[h.length]?=aT (.list (mvs (rs.take j))))
  _ _ rfl ⟨hpre,ae _ _⟩ (λ_ _ _ hI=>(e1 _ hI.1).2) (λj x w hp P hx hI hn _=>?_) (λw hp hI=>?_)
 ·refine e02 hI λhp1 hp2=>?_;refine e12 (fj h1 hx) λd hd1 hd2=>?_;refine e12 (rE hd hd1) λr hr hr2=>?_;have hmem:=Lo hr;have sub:=z9 hmem hz hM;have app:∀h' y,y=r.mv->hp<+:h'->onL (lst (.ref h.length) h') λk xs=>xs.length<line/\P .next ⟨[aT u,aT (.ref h.length),aT x],h'.set k (.list (xs++[y]))⟩:=λh' y ey p'=>by
   refine bb (bd (ak p' hp2)) ⟨?_,hn _ _ ⟨br (hp1.trans p') (nO _),?_⟩⟩
   ·rw [fh];exact IT (iF (P9 j rs) (iF (iL rs) hz)) (nb rfl)
   ·rw [bq hr,lM,ey];exact get_set (ak p' hp2)
  have ok:=bh hp2;refine Jr (fi hp1 hd2) (eJ ha hd1) hr2 (λs xs ex e e1 e2=>?_) (λt a b u v xs ys e ex ha da hb db=>?_) λt a u xs e ex ha da=>?_
  ·rw [e] at ex app;subst ex;exact aF 0 rfl (fq e1 (aF 0 rfl (fq e2 (aw ok (app hp _ rfl (ai _))))))
  ·subst ex;have ma:a∈r.subs:=by rw [e];exact .head _
   have mb:b∈r.subs:=by rw [e];exact .tail _ (.head _)
   refine aw ok (ih r hmem a ma ha da (sub a ma).1 (sub a ma).2 λh3 p3=>?_);refine ih r hmem b mb (hb.up p3) db (sub b mb).1 (sub b mb).2 λh4 p4=>?_;exact app h4 _ (by rw [e];rfl) (LS p3 p4)
  ·subst ex;have ma:a∈r.subs:=by rw [e];exact .head _
   exact aw ok (ih r hmem a ma ha da (sub a ma).1 (sub a ma).2 λh3 p3=>app h3 _ (by rw [e];rfl) p3)
 ·refine e02 hI λhp1 hp2=>?_;rw [bT h1,z8 hd,Mr] at hp2;exact af hp2 (hq _ hp1)
theorem xB (rs:List Rw):SB K rs:=eM (P:=λrs=>SB K rs) (λrs ih=>C5 hK rs ih) rs
end
section
noncomputable abbrev Aa:List Nat:=[111,112,101,110,115]
noncomputable abbrev rG:List Nat:=[115,101,99,114,101,116,115]
noncomputable abbrev Eg:List Nat:=[114,111,119,115]
noncomputable def cR (hp:List MO)(i:Nat)(A B:List (List Nat))(rows:List Rw):Prop:=
 ∃a b,hp[i]?=aT (.attrs [(Aa,.ref a),(rG,.ref b),(Eg,.tup (mvs rows))])/\hp[a]?=aT (.list (A.map .str))/\hp[b]?=aT (.list (B.map .str))
theorem cR.up (h:cR hp i A B rows)(e:hp<+:hp'):cR hp' i A B rows:=e23 h λa b h1 h2 h3=>⟨a,b,ak e h1,ak e h2,ak e h3⟩
set_option genCtorIdx false in
inductive NS where
 | ok (ks:List (List Nat)) | bad (c:Bool)
gen_injective_theorems% NS
noncomputable def nc (b:Bool):Nat:=cond b 2 1
noncomputable def NS.on (r:NS)(P:List (List Nat)->Prop)(R:Bool->Prop):Prop:=match r with
 | .ok ks=>P ks
 | .bad c=>R c
noncomputable def D.txt (d:D):List Nat:=d.st.getD []
noncomputable def nn (ks:List (List Nat)):List D->NS
 | []=>.ok ks
 | d::r=>cond d.isNm (cond (ks.contains d.txt) (.bad eQ) (nn (ks++[d.txt]) r)) (.bad bY)
noncomputable def nnD (ks:List (List Nat))(d:D):NS:=match d.bl with
 | some ds=>nn ks ds
 | none=>.bad bY
theorem Ab {d:D}(h:d.isNm=eQ):d=.str d.txt:=by
 cases d with
 | str s=>rfl
 | _=>exact ff h
theorem Js {d:D}(h:d.isNm=eQ)(hx:Rd hp x d):x=.str d.txt:=by
 rw [Ab h] at hx;exact dM hx
theorem C6 {ds:List D}(e:ds[j]?=aT d):nn ks (ds.drop j)=cond d.isNm (cond (ks.contains d.txt) (.bad eQ) (nn (ks++[d.txt]) (ds.drop (j+1)))) (.bad bY):=by
 obtain ⟨h1,h2⟩:=By.mp e;rw [L9 h1,h2];rfl
theorem NS.cc {u v:NS}{G:Prop}(h:(cond b u v).on P R)(k:b=eQ->u.on P R->G)(k':b=bY->v.on P R->G):G:=by
 cases b with
 | true=>exact k rfl h
 | false=>exact k' rfl h
theorem NS.oc {o:Option (List D)}{G:Prop}(h:(match o with | some ds=>nn ks ds | none=>.bad bY).on P R)(k:∀ds,o=aT ds->(nn ks ds).on P R->G)(k':o=iD->R bY->G):G:=by
 cases o with
 | some ds=>exact k ds rfl h
 | none=>exact k' rfl h
structure NI (h0 h:List MO)(i:Nat)(ks:List (List Nat))(n:Nat):Prop where
 z:ks.length<=n
 l:h0.length<i
 p:h0<+:h
 k:h[i]?=aT (.list (ks.map .str))
 a:h[h0.length]?=aT (.attrs [])
 o:∀s∈ks,okS s
theorem NI.tr (S:NI h0 h i ks n)(p:h<+:h'):NI h0 h' i ks n:=⟨S.z,S.l,S.p.trans p,ak p S.k,ak p S.a,S.o⟩
theorem NI.add (S:NI h0 h i ks n)(o:okS s):NI h0 (h.set i (.list (ks.map .str++[.str s]))) i (ks++[s]) (n+1):=⟨by rw [iN];exact Ln S.z,S.l,br S.p (LM S.l),by rw [LK];exact get_set S.k,aH (LY S.l) S.a,λ_ hs=>(Lg.mp hs).elim (S.o _) λhs=>oF.mp hs▸o⟩
noncomputable def D.sz (d:D):Nat:=(d.bl.getD []).length
variable {K:KT}(hK:ar PP K)
include hK
theorem Jt {h0 h:List MO}{u:MV}{d:D}{ks:List (List Nat)}{i N:Nat}{Q:MV->List MO->Prop}{X:XT}(hu:Rd h0 u d)(ha:d.asc=eQ)(S:NI h0 h i ks n)(hz:n+d.sz<=100000)(hN:1<N)
  (hq:(nnD ks d).on (λks'=>∀h',NI h0 h' i ks' (n+d.sz)->Q .none h') λc=>∀h',h0<+:h'->X (nc c) h'):K N 59 [u,.ref i] Q X h:=by
 refine kc hK iY hN rfl rfl λM hM=>?_;refine pS hK (fi S.p hu) hM ?_;refine NS.oc hq (λds eb hq=>fq (by rw [eb];rfl) ?_) λeb hq=>kY (by rw [eb];rfl) ⟨rfl,hq h S.p⟩;have ez:d.sz=ds.length:=by unfold D.sz;rw [eb];rfl
 rw [ez] at hz hq;refine e23 (BlM.mk d hu ha eb).iter λxs g h1 hc h2=>?_;refine aZ (h2 h S.p).1 ?_;refine gu (λj ks w hp=>⟨[aT u,aT (.ref i),w],hp⟩) (λj ks w hp=>NI h0 hp i ks (n+j)/\(nn ks (ds.drop j)).on (λks'=>∀h',NI h0 h' i ks' (n+ds.length)->Q .none h') λc=>∀h',h0<+:h'->X (nc c) h')
  ks iD h rfl ⟨S,hq⟩ (λ_ _ _ _ hI=>(h2 _ hI.1.p).2) (λj x ks w hp P hx hI hn _=>?_) (λks w hp hI=>?_)
 ·refine e02 hI λS a3=>?_;refine e12 (fj h1 hx) λd hd hr=>?_;rw [C6 hd] at a3;have ad:=eJ hc hd;have hr:=fi S.p hr;refine NS.cc a3 (λen a3=>?_) λen a3=>u7 hK hr ad hM (kY (pg en) ⟨rfl,a3 _ S.p⟩);have od:okS d.txt:=pR (Ab en▸ad:(D.str d.txt).asc=eQ);refine u7 hK hr ad hM (fq (ng en) ?_);rw [Js en hr];refine af S.k (cH od S.o (NS.cc a3 (λe a3=>kY e ⟨rfl,a3 _ S.p⟩) λe a3=>fq e ?_));refine aw (bh S.k) (bb (bd S.k) ⟨?_,hn _ _ _ ⟨S.add od,a3⟩⟩);rw [tO];exact IT (m:=100000) (n3 S.z (LM (By.mp hd).1) hz (by simp +arith only)) (nb rfl)
 ·rw [bT h1,Pk] at hI;exact hI.2 _ hI.1
end
section
inductive BD (hp:List MO)(w:MV)(b:Option (List D)):Prop
 | data (d:D) (h:Rd hp w d) (c:d.asc=eQ) (e:b=d.bl)
 | dict (i:Nat) (es:List (List Nat × MV)) (e:w=.ref i) (h:hp[i]?=aT (.dict es)) (q:b=iD)
theorem BD.m (h:BD hp w (aT ds)):BlM hp w ds:=h.casesOn (λd h c e=>⟨d,h,c,e.symm⟩) λ_ _ _ _ q=>oW q
noncomputable def Rs.n:Rs->Nat
 | .ok=>0
 | .row=>3
 | .deep _=>4
noncomputable def vdB (b:Option (List D)):Nat:=match b with
 | none=>3
 | some ds=>(ro 8 ds).n
noncomputable def NS.n (r:NS)(f:List (List Nat)->Nat):Nat:=match r with
 | .bad c=>nc c
 | .ok ks=>f ks
noncomputable def vd (dO dS:D)(b:Option (List D)):Nat:=(nnD [] dO).n λks=>(nnD ks dS).n λ_=>vdB b
theorem Rs.n_le:Rs.n r<=4:=by cases r<;>exact nb rfl
theorem NS.n_le {r:NS}(h:∀ks,f ks<=4):r.n f<=4:=by
 cases r with
 | ok ks=>exact h ks
 | bad c=>cases c<;>exact nb rfl
theorem Ju:vd dO dS b<=4:=NS.n_le λ_=>NS.n_le λ_=>by
 cases b with
 | none=>exact nb rfl
 | some ds=>exact Rs.n_le
noncomputable def bU (n:Nat)(hp hp':List MO):Prop:=∀i o,n<=i->hp[i]?=aT o->hp'[i]?=aT o
theorem NS.okj (e:NS.ok a=.ok b):a=b:=by cases e;rfl
theorem NS.nc {r:NS}{P:Nat->Prop}(h:P (r.n f))(k:∀ks,r=.ok ks->P (f ks)->A ks)(k':∀c,P (nc c)->B c):r.on A B:=by
 cases r with
 | ok ks=>exact k ks rfl h
 | bad c=>exact k' c h
theorem Rs.nc {r:Rs}{P:Nat->Prop}(h:P r.n)(k:P 0->A)(k':P 3->B)(k2:P 4->C):r.on A B C:=by
 cases r with
 | ok=>exact k h
 | row=>exact k' h
 | deep=>exact k2 h
theorem lta {h:List MO}{i:Nat}(e:h[i]?=aT o):i<h.length:=(By.mp e).1
structure Pt (n:Nat)(o:MO)(h h':List MO):Prop where
 a:h'[n]?=aT o
 k:∀j o,j≠n->h[j]?=aT o->h'[j]?=aT o
 p:∀{h0},h0<+:h->h0.length<=n->h0<+:h'
theorem tN {Q:MS->Prop}(a:h[n]?=aT (.attrs es))(l:Qm (es.length+1) 1000=eQ)(k:∀h',Pt n (.attrs (lY es x v)) h h'->Q ⟨Vz,h'⟩):nU 0 x (.inst 0 n) v Q ⟨Vz,h⟩:=
 dE a ⟨nb l,k _ ⟨get_set a,λ_ _ q e=>aH (Ol q) e,λp l=>br p l⟩⟩
theorem kU {xs ys:List MV}{Q:PQ}(e:h[r]?=aT (.list xs))(es:aC xs lo hi=ys)(k:Q (.ref h.length) ⟨Vz,h++[.list ys]⟩):xV (.ref r) lo hi Q ⟨Vz,h⟩:=af e (by rw [es];exact k)
variable {K:KT}(hK:ar PP K)
include hK
theorem KX {h0 h:List MO}(hw:BD h0 w b)(p:h0<+:h)(hN:0<N)(hq:Q (.bool b.isSome) h):K N 56 [w] Q X h:=by
 cases hw with
 | data d h c e=>rw [e] at hq;exact pS hK (fi p h) hN hq
 | dict i es e h q=>
  rw [e];rw [q] at hq;exact kc hK gV hN rfl rfl λM hM=>aI (congrArg (tyO · .list) (ak p h)) (aI (congrArg (tyO · .tuple) (ak p h)) hq)
theorem Ac {h0 h3:List MO}{w:MV}{ds:List D}{kx M:Nat}{u v:Option MV}{X:XM}(e1:ks=A)(e2:ks2=A++B)(S:NI h0 h3 kx ks2 nz)(hw:BlM h0 w ds)(hd:dC rows ds)(hl:(lns rows).length<=100000)(hn:ay rows<=7)(hM:29<M)
  (hq:∀h',h0<+:h'->(∀hp,bU h0.length h' hp->cR hp h0.length A B rows)->Q .none h') :
  aA K M [.setAttr 0 (.var 0) Aa (.sl (.var 4) iD (aT (.var 5))),.setAttr 0 (.var 0) rG (.sl (.var 4) (aT (.var 5)) iD),.setAttr 0 (.var 0) Eg (.call 60 [.var 3])] (fin Q) X
   ⟨[aT (.inst 0 h0.length),u,v,aT w,aT (.ref kx),aT (.int ((ks.map MV.str).length:Nat))],h3⟩:=by
 rw [e1];rw [e2] at S;have l0:=lta S.a;refine kU S.k (ys:=A.map .str) ?_ (tN (aj S.a) rfl λh5 T5=>?_)
 ·rw [dB (L5 _),LK];exact Q8 ..
 have l5:=lta T5.a;have p5:=T5.p (aa S.p) (nO _);refine kU (T5.k kx _ (LY S.l) (aj S.k)) (ys:=B.map .str) ?_ (tN (aj T5.a) rfl λh6 T6=>?_)
 ·rw [cg (L5 _),LK];exact List.drop_left ..
 have p6:=T6.p (aa p5) (nO _);refine xB hK rows (hw.up p6) hd hl (n2 hM hn (by simp +arith only)) λh7 p7=>?_;refine tN (ak p7 T6.a) rfl λh8 T8=>?_;have go:∀j o,h0.length<j->(h5++[.list (B.map .str)])[j]?=aT o->h8[j]?=aT o:=λj o l e=>T8.k j o (LY l) (ak p7 (T6.k j o (LY l) e));exact hq _ (T8.p (p6.trans p7) (nO _)) λhp S=>⟨h3.length,h5.length,S _ _ (nO _) T8.a,S _ _ (LM l0) (go _ _ l0 (aj (T5.k _ _ (LY l0) (ae _ _)))),S _ _ (LM l5) (go _ _ l5 (ae _ _))⟩
structure Mk (dO dS:D)(b:Option (List D))(A B:List (List Nat))(rows:List Rw):Prop where
 a:nnD [] dO=.ok A
 s:nnD A dS=.ok (A++B)
 d:∃ds,b=aT ds/\dC rows ds
 l:(lns rows).length<=100000
 n:ay rows<=7
theorem vc {h0:List MO}{u v w:MV}{dO dS:D}{b:Option (List D)}{rows:List Rw}{A B:List (List Nat)}{N:Nat}{Q:MV->List MO->Prop}{X:XT}(hO:Rd h0 u dO)(aO:dO.asc=eQ)(hS:Rd h0 v dS)(aS:dS.asc=eQ)(hw:BD h0 w b)
  (zO:dO.sz<=40000) (zS:dS.sz<=40000) (hm:vd dO dS b=0->Mk dO dS b A B rows) (hN:30<N)
  (hq:vd dO dS b=0->∀h',h0<+:h'->(∀hp,bU h0.length h' hp->cR hp h0.length A B rows)->Q .none h') (hx:vd dO dS b≠0->∀h',h0<+:h'->X (vd dO dS b) h') :
  K N 63 [.inst 0 h0.length,u,v,w] Q X (h0++[.attrs []]):=by
 refine kc hK dT hN rfl rfl λM hM=>?_;have ev:vd dO dS b=vd dO dS b:=rfl;have bad:∀{n:Nat},n≠0->vd dO dS b=n->∀h',h0<+:h'->X n h':=λe0 e=>e▸hx (e▸e0);have nz:∀c,nc c≠0:=λc=>by cases c<;>decide
 refine Jt hK hO aO (ks:=[]) (n:=0) ⟨nO _,?_,aa (aa (ai _)),ae _ _,aj (ae _ _),al0⟩ (n1 zO (by simp +arith only)) (n1 hM (by simp +arith only)) ?_
 ·show h0.length<(h0++[MO.attrs []]).length;rw [iN];exact MF _
 refine NS.nc (P:=λn=>vd dO dS b=n) ev (λks e1 ev h2 S2=>?_) λc=>bad (nz c);refine af S2.k ?_;refine Jt hK hS aS S2 (n2 zO zS (by simp +arith only)) (n1 hM (by simp +arith only)) ?_;refine NS.nc (P:=λn=>vd dO dS b=n) ev (λks2 e2 ev h3 S3=>?_) λc=>bad (nz c);refine KX hK hw S3.p (n1 hM (by simp +arith only)) ?_
 cases b with
 | none=>exact ⟨rfl,bad (by decide) ev h3 S3.p⟩
 | some ds=>
  refine Jq hK 8 (hw.m.up S3.p) rfl (n1 hM (by simp +arith only)) (Rs.nc (P:=λn=>vd dO dS (aT ds)=n) ev (λev h4 p4=>?_) (λev h' p=>bad (by decide) ev h' (S3.p.trans p)) λev h' p=>bad (by decide) ev h' (S3.p.trans p));have m:=hm ev;refine e12 m.d λds' e d=>?_;have ea:ks=A:=NS.okj (e1.symm.trans m.a);exact Ac hK ea (NS.okj ((ea▸e2).symm.trans m.s)) (S3.tr p4) hw.m (BY e▸d) m.l m.n (n1 hM (by simp +arith only)) (hq ev)
end
section
theorem dN {hp:List MO}{c r:Nat}{t:TS}(e:hp[r]?=aT (.exc c)):fk hp (.ref r) t=kX (.exc c) t:=by
 show tyO hp[r]? t=_;rw [e];rfl
theorem Ad {hp:List MO}{r:Nat}{xs:List MV}(e:hp[r]?=aT (.list xs)):gD .count (.ref r) hp=eQ:=by
 show (nJ r hp[r]?).isSome=eQ;rw [e];rfl
theorem Ae {hp:List MO}{r:Nat}{xs:List MV}(e:hp[r]?=aT (.list xs)):gD .index (.ref r) hp=eQ:=by
 show (nJ r hp[r]?).isSome=eQ;rw [e];rfl
noncomputable abbrev ve:List Nat:=[110,97,109,101]
noncomputable abbrev pT:List Nat:=[116,119,105,99,101]
noncomputable abbrev kt:List Nat:=[114,111,119]
noncomputable abbrev fV:List Nat:=[100,101,101,112]
noncomputable abbrev Af:List Nat:=[109,97,100,101]
noncomputable def iQ:Nat->List Nat
 | 0=>Af
 | 1=>ve
 | 2=>pT
 | 3=>kt
 | _=>fV
noncomputable def exb (c d:Nat):Bool:=c==d||d==0
noncomputable def C7 (c:Nat):List Bool:=[exb c 1,exb c 2,exb c 3,exb c 4,exb c 5,exb c 6,exb c 7]
noncomputable def G5 (c:Nat):List Bool:=[exb c 1,exb c 2,exb c 3,exb c 4,eQ]
theorem Jv {P:Nat->Prop}(h1:P 1)(h2:P 2)(h3:P 3)(h4:P 4){c:Nat}(h:1<=c)(k:c<=4):P c:=by
 have:c=1\/c=2\/c=3\/c=4:=by
  rcases Qk.mp k with k | k
  ·rcases Qk.mp (LR k) with k | k
   ·exact (Qk.mp (LR k)).elim (λk=>.inl (Ou (LR k) h)) λe=>.inr (.inl e)
   ·exact .inr (.inr (.inl k))
  ·exact .inr (.inr (.inr k))
 exact this.elim (λe=>e▸h1) λq=>q.elim (λe=>e▸h2) λq=>q.elim (λe=>e▸h3) λe=>e▸h4
theorem ct7 (h:1<=c)(k:c<=4):(((C7 c).count eQ:Int)==1)=eQ:=Jv (P:=λc=>(((C7 c).count eQ:Int)==1)=eQ) rfl rfl rfl rfl h k
theorem ix4 (h:1<=c)(k:c<=4):[MV.str ve,.str pT,.str kt,.str fV,.str [110,111,110,101]][(G5 c).idxOf eQ]?=aT (.str (iQ c)):=Jv (P:=λc=>[MV.str ve,.str pT,.str kt,.str fV,.str [110,111,110,101]][(G5 c).idxOf eQ]?=aT (.str (iQ c))) rfl rfl rfl rfl h k
variable {K:KT}(hK:ar PP K)
include hK
theorem C8 {r N c:Nat}{Q:MV->List MO->Prop}{X:XT}{h:List MO}(he:h[r]?=aT (.exc c))(c1:1<=c)(c4:c<=4)(hN:0<N)(hq:∀h',h<+:h'->Q (.bool eQ) h'):K N 47 [.ref r] Q X h:=by
 refine kc hK jM hN rfl rfl λM hM=>?_;have h1:=λo=>aj (o':=o) he;refine aI (dN he) (aI (dN he) (aI (dN he) (aI (dN he) ?_)));refine aI (dN (h1 _)) (aI (dN (h1 _)) (aI (dN (h1 _)) ?_));refine af (aj (ae _ _)) (af (ae _ _) ?_);refine ⟨Oh rfl,?_⟩;refine aI (dN (aj (aj (h1 _)))) ?_;refine aw (Ad (ae _ _)) ?_;refine ⟨rfl,bb (bd (ae _ _)) ?_⟩;refine ⟨trivial,C7 c,rfl,nb rfl,?_⟩;show Q (.bool (((C7 c).count eQ:Int)==1)) _;rw [ct7 c1 c4];exact hq _ (aa (aa (aa (ai _))))
theorem ku {h:List MO}{u v w:MV}{dO dS:D}{b:Option (List D)}{rows:List Rw}{A B:List (List Nat)}{N:Nat}{Q:MV->List MO->Prop}{X:XT}(hO:Rd h u dO)(aO:dO.asc=eQ)(hS:Rd h v dS)(aS:dS.asc=eQ)(hw:BD h w b)
  (zO:dO.sz<=40000) (zS:dS.sz<=40000) (hm:vd dO dS b=0->Mk dO dS b A B rows) (hN:40<N)
  (hq:∀h',h<+:h'->Q (.str (iQ (vd dO dS b))) h'):K N 78 [u,v,w] Q X h:=by
 refine kc hK fS hN rfl rfl λM hM=>?_;obtain ⟨M,rfl⟩:∃M',M=M'+1:=⟨M-1,sb (n1 hM (by simp +arith only))⟩
 refine ⟨rfl,?_⟩;refine vc hK hO aO hS aS hw zO zS hm (n1 hM (by simp +arith only)) (λe h' p _=>?_) λe h' p=>?_
 ·rw [e] at hq;exact hq h' p
 ·have c1:=Nat.one_le_iff_ne_zero.mpr e;have c4:=Ju (dO:=dO) (dS:=dS) (b:=b);have e0:=ae h' (.exc (vd dO dS b));refine C8 hK e0 c1 c4 (N6 _) λh2 p2=>?_;have e2:=ak p2 e0;refine aI (dN e2) (aI (dN e2) (aI (dN e2) (aI (dN e2) ?_)));refine af (aj (aj (ae _ _))) (af (ae _ _) ?_);refine ⟨Oh rfl,?_⟩;refine aw (Ae (ae _ _)) ?_;refine bb (bd (ae _ _)) ?_;refine ⟨trivial,G5 (vd dO dS b),rfl,nb rfl,Lo (i:=4) rfl,?_⟩;exact af (aj (aj (ae _ _))) (aF _ (ix4 c1 c4) (hq _ ((aa p).trans (LS p2 (aa (aa (aa (aa (ai _)))))))))
theorem Eh {h:List MO}{u v w:MV}{dO dS:D}{b:Option (List D)}{N c:Nat}{Q:MV->List MO->Prop}{X:XT}(hO:Rd h u dO)(aO:dO.asc=eQ)(hS:Rd h v dS)(aS:dS.asc=eQ)(hw:BD h w b)(zO:dO.sz<=40000)(zS:dS.sz<=40000)(e:vd dO dS b=c+1)(hN:40<N)
  (hq:∀h',h<+:h'->Q (.str (iQ (c+1))) h'):K N 78 [u,v,w] Q X h:=
 ku hK (rows:=[]) (A:=[]) (B:=[]) hO aO hS aS hw zO zS (λz=>absurd (e.symm.trans z) (OP c)) hN (e.symm▸hq)
end
section
noncomputable def chT (n:List Nat):Nat->Tm
 | 0=>.nm n
 | k+1=>cond (k % 2==0) (.op 43 (chT n k) (.num 1)) (.op 42 (.num 2) (chT n k))
noncomputable abbrev nmD (k:Int):D:=.tup [.str iP,.int k]
noncomputable def neD:Nat->D
 | 0=>.list [.tup [.str dI]]
 | k+1=>cond (k % 2==0) (.list [.tup [.str aU,nmD 0,neD k]]) (.list [.tup [.str wIf,nmD 1,.list [],neD k]])
theorem Ag {a b:MV}{j:Nat}{f:MV->Prop}(h0:(j % 2==0)=eQ->f a)(h1:(j % 2==0)=bY->f b):cS [a,b] ((j:Int) % 2) f:=by
 have e:((j:Int) % 2)=((j % 2:Nat):Int):=by lia
 have hl:j % 2<2:=RC _ (by decide)
 cases q:j % 2==0 with
 | true=>
  have q':j % 2=0:=eq_of_beq q;exact aB (j:=0) (by rw [e,q'];rfl) rfl (h0 q)
 | false=>
  have q':j % 2=1:=by have:=beq_eq_false_iff_ne.mp q;lia
  exact aB (j:=1) (by rw [e,q'];rfl) rfl (h1 q)
theorem tQ {k:Int}:Rd hp (.tup [.str iP,.int k]) (nmD k):=.tup (.cons (.str _) (.cons (.int _) .nil))
noncomputable def RdN (n:Nat)(hp:List MO)(x:MV)(d:D):Prop:=∀hp',bU n hp hp'->Rd hp' x d
noncomputable def dZ (n:Nat)(hp:List MO)(xs:List MV)(ds:List D):Prop:=∀hp',bU n hp hp'->Rds hp' xs ds
theorem RdN.rd (h:RdN n hp x d):Rd hp x d:=h hp λ_ _ _ e=>e
theorem dZ.rd (h:dZ n hp xs ds):Rds hp xs ds:=h hp λ_ _ _ e=>e
theorem RdN.up (h:RdN n hp x d)(e:hp<+:hp'):RdN n hp' x d:=λhp2 s=>h hp2 λi o l q=>s i o l (ak e q)
theorem dZ.up (h:dZ n hp xs ds)(e:hp<+:hp'):dZ n hp' xs ds:=λhp2 s=>h hp2 λi o l q=>s i o l (ak e q)
theorem RdN.all (h:∀hp,Rd hp x d):RdN n hp x d:=λhp' _=>h hp'
theorem RdN.list (l:n<=i)(e:hp[i]?=aT (.list xs))(r:dZ n hp xs ds):RdN n hp (.ref i) (.list ds):=λhp' s=>.list (s i _ l e) (r hp' s)
theorem RdN.tup (r:dZ n hp xs ds):RdN n hp (.tup xs) (.tup ds):=λhp' s=>.tup (r hp' s)
theorem dZ.nil:dZ n hp [] []:=λ_ _=>.nil
theorem dZ.cons (h:RdN n hp x d)(r:dZ n hp xs ds):dZ n hp (x::xs) (d::ds):=λhp' s=>.cons (h hp' s) (r hp' s)
theorem RdN.str:RdN n hp (.str s) (.str s):=.all λ_=>.str s
variable {K:KT}(hK:ar PP K)
include hK
theorem lR {n:List Nat}{k N:Nat}{m:Int}{Q:MV->List MO->Prop}{X:XT}{h:List MO}(hm:m=(k:Int)+1)(hk:k<=100)(hN:0<N)(hq:∀h',h<+:h'->Q (chT n k).mv h'):K N 75 [.str n,.int m] Q X h:=by
 refine kc hK jN hN rfl rfl λM hM=>?_;have e:m-1=(k:Int):=by lia
 refine aZ (fe (by lia) (by lia)) ?_;rw [e,NY];refine lK (λj w3 hp=>⟨[aT (.str n),aT (.int m),aT (chT n j).mv,w3],hp⟩) (λj w3 hp=>h<+:hp) iD h rfl (ai _) (λ_ _ _ _=>trivial) (λj x w3 hp P hx hI hn _=>?_) (λw3 hp hI=>?_)
 ·obtain ⟨hj,rfl⟩:=eE hx;have go:∀o,P .next ⟨[aT (.str n),aT (.int m),aT (chT n (j+1)).mv,aT (.int j)],hp++[o]⟩:=λo=>hn _ _ (aa hI)
  have ne:chT n (j+1)=cond (j % 2==0) (.op 43 (chT n j) (.num 1)) (.op 42 (.num 2) (chT n j)):=rfl;rw [ne] at go;refine af (ae _ _) (Ag (λq=>?_) λq=>?_)
  ·rw [q] at go;exact go _
  ·rw [q] at go;exact go _
 ·rw [iJ];exact hq _ hI
theorem nw {k N:Nat}{m:Int}{Q:MV->List MO->Prop}{X:XT}{h:List MO}(hm:m=(k:Int)+1)(hk:k<=100)(hN:0<N)(hq:∀h' u,h<+:h'->RdN h.length h' u (neD k)->Q u h'):K N 76 [.int m] Q X h:=by
 refine kc hK ja hN rfl rfl λM hM=>?_;have e:m-1=(k:Int):=by lia
 refine aZ (fe (by lia) (by lia)) ?_;rw [e,NY];refine gu (λj u w3 hp=>⟨[aT (.int m),aT u,w3],hp⟩) (λj u w3 hp=>h<+:hp/\RdN h.length hp u (neD j)) _ _ _ rfl ⟨aa (ai _),.list (nO _) (ae _ _) (.cons (.tup (.cons .str .nil)) .nil)⟩ (λ_ _ _ _ _=>trivial) (λj x u w3 hp P hx hI hn _=>?_) (λu w3 hp hI=>?_)
 ·obtain ⟨hj,rfl⟩:=eE hx;obtain ⟨p,hu⟩:=hI;have l:=p.length_le;have ne:neD (j+1)=cond (j % 2==0) (.list [.tup [.str aU,nmD 0,neD j]]) (.list [.tup [.str wIf,nmD 1,.list [],neD j]]):=rfl;have nm:∀{hp:List MO} {k:Int},RdN h.length hp (.tup [.str iP,.int k]) (nmD k):=.all λ_=>tQ;have ln:∀a:MO,h.length<=(hp++[a]).length:=λa=>iF l (aa (o:=a) (ai hp)).length_le;have ln2:∀a b:MO,h.length<=(hp++[a]++[b]).length:=λa b=>iF (ln a) (aa (o:=b) (ai _)).length_le;refine af (ae _ _) (Ag (λq=>?_) λq=>?_)
  ·refine hn _ _ _ ⟨aa (aa (aa (aa p))),?_⟩;rw [ne,q];exact .list l (aj (aj (aj (ae _ _)))) (.cons (.tup (.cons .str (.cons nm (.cons (hu.up (aa (aa (aa (aa (ai _)))))) .nil)))) .nil)
  ·refine hn _ _ _ ⟨aa (aa (aa (aa p))),?_⟩;rw [ne,q];exact .list (ln2 _ _) (aj (ae _ _)) (.cons (.tup (.cons .str (.cons nm (.cons (.list (ln _) (aj (aj (ae _ _))) .nil) (.cons (hu.up (aa (aa (aa (aa (ai _)))))) .nil))))) .nil)
 ·rw [iJ] at hI;exact hq _ _ hI.1 hI.2
end
section
noncomputable def cD:MV->Option D
 | .none=>aT .none
 | .bool b=>aT (.bool b)
 | .int i=>aT (.int i)
 | .str s=>aT (.str s)
 | _=>iD
theorem Jw (h:cD v=aT d)(hp:List MO):Rd hp v d:=by
 cases v with
 | none=>exact BY h▸.none
 | bool b=>exact BY h▸.bool b
 | int i=>exact BY h▸.int i
 | str s=>exact BY h▸.str s
 | _=>exact av h
noncomputable abbrev Vs (α:Type):=List (Nat × α)
class inductive Ev (ρ:Vs D)(ν:Vs (List (List Nat))):List ME->List D->Prop
 | nil:Ev ρ ν [] []
 | cst (v:MV) (d:D) (h:cD v=aT d) {es:List ME} {ds:List D} (r:Ev ρ ν es ds):Ev ρ ν (.cst v::es) (d::ds)
 | var (i:Nat) (d:D) (h:(i,d)∈ρ) {es:List ME} {ds:List D} (r:Ev ρ ν es ds):Ev ρ ν (.var i::es) (d::ds)
 | list {es':List ME} {ds':List D} (h:Ev ρ ν es' ds') {es:List ME} {ds:List D} (r:Ev ρ ν es ds):Ev ρ ν (.list es'::es) (.list ds'::ds)
 | tup {es':List ME} {ds':List D} (h:Ev ρ ν es' ds') {es:List ME} {ds:List D} (r:Ev ρ ν es ds):Ev ρ ν (.tup es'::es) (.tup ds'::ds)
 | neg (i:Int) {es:List ME} {ds:List D} (r:Ev ρ ν es ds):Ev ρ ν (.neg (.cst (.int i))::es) (.int (-i)::ds)
 | mil {es:List ME} {ds:List D} (r:Ev ρ ν es ds):Ev ρ ν (.bin .pow (.cst (.int 10)) (.cst (.int 6))::es) (.int 1000000::ds)
 | idx (i j:Nat) (k:Int) (ss:List (List Nat)) (n:List Nat) (h:(i,ss)∈ν) (e:k=j) (hx:ss[j]?=aT n) {es:List ME} {ds:List D} (r:Ev ρ ν es ds):Ev ρ ν (.idx (.var i) (.cst (.int k))::es) (.str n::ds)
 | chain (n:List Nat) (m:Int) (k:Nat) (e:m=(k:Int)+1) (hk:k<=100) {es:List ME} {ds:List D} (r:Ev ρ ν es ds):Ev ρ ν (.call 75 [.cst (.str n),.cst (.int m)]::es) ((chT n k).d::ds)
 | nest (m:Int) (k:Nat) (e:m=(k:Int)+1) (hk:k<=100) {es:List ME} {ds:List D} (r:Ev ρ ν es ds):Ev ρ ν (.call 76 [.cst (.int m)]::es) (neD k::ds)
noncomputable def VD (n:Nat)(Vz:List (Option MV))(hp:List MO)(ρ:Vs D)(ν:Vs (List (List Nat))):Prop:=(∀p∈ρ,∃v,(MS.mk Vz hp).get p.1=aT v/\RdN n hp v p.2)/\∀p∈ν,∃j,(MS.mk Vz hp).get p.1=aT (.ref j)/\hp[j]?=aT (.list (p.2.map .str))
theorem VD.up (h:VD n Vz hp ρ ν)(e:hp<+:hp'):VD n Vz hp' ρ ν:=⟨λp q=>e12 (h.1 p q) λv h1 h2=>⟨v,h1,h2.up e⟩,λp q=>e12 (h.2 p q) λj h1 h2=>⟨j,h1,ak e h2⟩⟩
noncomputable abbrev non {α:Type}:Vs α:=[]
noncomputable abbrev at1 {α:Type}(i:Nat) (d:α):Vs α:=[(i,d)]
noncomputable abbrev at2 (i:Nat) (d:D) (i':Nat) (d':D):Vs D:=[(i,d),(i',d')]
theorem VD.none:VD n Vz hp non non:=⟨al0,al0⟩
theorem VD.nms {i r:Nat}{ss:List (List Nat)}(h:(MS.mk Vz hp).get i=aT (.ref r))(e:hp[r]?=aT (.list (ss.map .str))):VD n Vz hp non (at1 i ss):=⟨al0,al1 ⟨r,h,e⟩⟩
theorem VD.one {i:Nat}(h:(MS.mk Vz hp).get i=aT v)(r:RdN n hp v d):VD n Vz hp (at1 i d) non:=⟨al1 ⟨v,h,r⟩,al0⟩
theorem VD.two {i i':Nat}(h:(MS.mk Vz hp).get i=aT v)(r:RdN n hp v d)(h':(MS.mk Vz hp).get i'=aT v')(r':RdN n hp v' d'):VD n Vz hp (at2 i d i' d') non:=⟨al2 ⟨v,h,r⟩ ⟨v',h',r'⟩,al0⟩
theorem jS (h:Rds hp xs a)(h2:Rds hp ys b):Rds hp (xs++ys) (a++b):=Rds.rec (motive_1:=λ_ _ _=>True) (motive_2:=λxs a _=>Rds hp (xs++ys) (a++b)) trivial (λ_=>trivial) (λ_=>trivial) (λ_=>trivial) (λ_ _=>trivial) (λ_ _ _=>trivial) h2 (λh _ _ r=>.cons h r) h
theorem dZ.app (h1:dZ n hp xs a)(h2:dZ n hp ys b):dZ n hp (xs++ys) (a++b):=λhp' s=>jS (h1 hp' s) (h2 hp' s)
theorem dZ.get {xs:List MV}{ds:List D}(h:dZ n hp xs ds){j:Nat}{x:MV}(e:xs[j]?=aT x):∃d,ds[j]?=aT d/\RdN n hp x d:=by
 refine e12 (fj h.rd e) λd h1 _=>?_;refine ⟨d,h1,λhp' s=>?_⟩;refine e12 (fj (h hp' s) e) λd' h2 h3=>?_;rw [same h1 h2];exact h3
variable {K:KT}(hK:ar PP K)
include hK
theorem vf {n M:Nat}(hM:0<M){Vz:List (Option MV)}{ρ:Vs D}{ν:Vs (List (List Nat))}{X:XM}{es:List ME}{ds:List D}(h:Ev ρ ν es ds):∀{hp:List MO}{Q:List MV->MS->Prop},n<=hp.length->VD n Vz hp ρ ν->(∀vs hp2,hp<+:hp2->dZ n hp2 vs ds->Q vs ⟨Vz,hp2⟩)->iO K M es Q X ⟨Vz,hp⟩:=by
 induction h with
 | nil=>intro hp Q l hV hq;exact hq _ _ (ai _) .nil
 | cst v d h _ ih=>intro hp Q l hV hq;exact ih l hV λvs hp2 p r=>hq _ _ p (.cons (.all (Jw h)) r)
 | var i d h _ ih=>
  intro hp Q l hV hq;refine e12 (hV.1 _ h) λv h1 h2=>?_;exact fg (K:=K) (n:=M) (X:=X) h1 (ih l hV λvs hp2 p r=>hq _ _ p (.cons (h2.up p) r))
 | list _ _ ih' ih=>
  intro hp Q l hV hq;refine ih' l hV λus hp1 p1 r1=>?_;have p0:hp<+:hp1++[MO.list us]:=aa p1;exact ih (iF l p0.length_le) (hV.up p0) λvs hp2 p r=>hq _ _ (p0.trans p) (.cons (.list (iF l p1.length_le) (ak p (ae _ _)) (r1.up ((aa (ai _)).trans p))) r)
 | tup _ _ ih' ih=>
  intro hp Q l hV hq;refine ih' l hV λus hp1 p1 r1=>?_;exact ih (iF l p1.length_le) (hV.up p1) λvs hp2 p r=>hq _ _ (p1.trans p) (.cons (.tup (r1.up p)) r)
 | neg i _ ih=>intro hp Q l hV hq;exact ih l hV λvs hp2 p r=>hq _ _ p (.cons (.all λ_=>.int _) r)
 | mil _ ih=>intro hp Q l hV hq;exact ih l hV λvs hp2 p r=>hq _ _ p (.cons (.all λ_=>.int _) r)
 | idx i j k ss n h e hx _ ih=>
  intro hp Q l hV hq;refine e12 (hV.2 _ h) λq h1 e1=>?_;refine fg (K:=K) (n:=M) (X:=X) h1 (af e1 (aB (tF e (by rw [tO];exact (By.mp hx).1)) (by rw [LG,hx];rfl) ?_));exact ih l hV λvs hp2 p r=>hq _ _ p (.cons .str r)
 | chain n m k e hk _ ih=>
  intro hp Q l hV hq;refine lR hK e hk hM λh' p'=>?_;have p':hp<+:h':=p';exact ih (iF l p'.length_le) (hV.up p') λvs hp2 p r=>hq _ _ (p'.trans p) (.cons (.all λ_=>Tm.rd _) r)
 | nest m k e hk _ ih=>
  intro hp Q l hV hq;refine nw hK e hk hM λh' u p' hu=>?_;have p':hp<+:h':=p';have hu:RdN n h' u (neD k):=λhp2 s=>hu hp2 λi o z q=>s i o (iF l z) q;exact ih (iF l p'.length_le) (hV.up p') λvs hp2 p r=>hq _ _ (p'.trans p) (.cons (hu.up p) r)
end
section
noncomputable abbrev bG (d:D):D:=.tup [.str cz,d]
noncomputable def wrD (n:List Nat):List D:=
 [.int 5,.str dI,.list [.str dI],.tup [],.tup [.int 1],.tup [.str [106,117,109,112]],.tup [.str dI,.int 1],.tup [.str cz],.tup [.str gJ,.str n],
  .tup [.str gJ,.str [65],nmD 1],.tup [.str gJ,.str wIf,nmD 1],.tup [.str gJ,.int 7,nmD 1],
  .tup [.str wIf,nmD 1,.list []],
  .tup [.str aU,nmD 1,.int 5],.tup [.str wIf,nmD 1,.list [],.str [120]],.tup [.str aU,nmD 1,.none],
  bG (.int 5),bG (nmD 1000000),bG (nmD (-1)),
  bG (.tup [.str iP,.bool eQ]),
  bG (.tup [.str eH,.str [57,97]]),bG (.tup [.str eH,.str [97,98,99,100,101,102,103,104,105]]),
  bG (.tup [.str [33],nmD 1,nmD 1]),bG (.tup [.str [43],nmD 1]),
  bG (.list [.str iP,.int 1]),bG (.tup [.str eH,.str nP]),bG (.tup [.str eH,.str []])]
theorem Ah {xs:List MV}{ds:List D}{c n:Int}{f:MV->Prop}{b:Nat}(hs:dZ b hp xs ds)(hn:(ds.length:Int)=n)(h0:decide (0<n)=eQ)(hq:∀v d,d∈ds->RdN b hp v d->f v):cS xs (c % n) f:=by
 have h1:=em0 (x:=c) h0;have h2:c % n<xs.length:=by rw [bT hs.rd,hn];exact Np c (of_decide_eq_true h0)
 have e:=bK (tn h1 h2);refine e12 (hs.get e) λd hd hr=>?_;exact aB (bn h1 h2) e (hq _ d (Lo hd) hr)
theorem G6 (n:List Nat):((wrD n).all λd=>(g9 (aT (ro 7)) d).n==3)=eQ:=rfl
theorem G7 {n:List Nat}(h:(n.all λc=>decide (c<128))=eQ):D.ascs (wrD n)=eQ:=by
 show (((n.all λc=>decide (c<128))&&eQ)&&D.ascs _)=eQ;rw [h];rfl
structure Cz (b:Nat)(h hp:List MO)(j:Nat)(ds:List D):Prop where
 p:h<+:hp
 r:∃zs,hp[j]?=aT (.list zs)/\dZ b hp zs ds
structure Ct (M b:Nat)(h:List MO)(Vz:List (Option MV))(v:Nat)(ρ:Vs D)(ν:Vs (List (List Nat))):Prop where
 hM:0<M
 l:b<=h.length
 hV:∀w hp,h<+:hp->VD b (Vz.set v w) hp ρ ν
 hi:∀i hp,(MS.mk (Vz.set v (aT (.ref i))) hp).get v=aT (.ref i)
variable {K:KT}(hK:ar PP K)
variable {es:List ME}{h hp:List MO}{ds es':List D}{Vz:List (Option MV)}{ρ:Vs D}{ν:Vs (List (List Nat))}{b i v w M:Nat}{n c:Int}{X:XM}{P:Fl->MS->Prop}{Q:PQ}
include hK
theorem tR (C:Ct M b h (Vz.set v iD) v ρ ν)(hV:VD b Vz h ρ ν)(ev:Ev ρ ν es ds)(hq:∀j hp,Cz b h hp j ds->P .next ⟨Vz.set v (aT (.ref j)),hp⟩):wpS K M (.asg [v] bY (.list es)) P X ⟨Vz,h⟩:=
 vf hK C.hM ev C.l hV λvs hp2 p r=>hq _ _ ⟨aa p,_,ae _ _,r.up (aa (ai _))⟩
theorem Ai (C:Ct M b h Vz v ρ ν)(ev:Ev ρ ν es es')(S:Cz b h hp i ds)(hz:Qm (ds.length+es'.length) 1000=eQ)(hq:∀j hp,Cz b h hp j (ds++es')->Q (.ref j) ⟨Vz.set v (aT (.ref i)),hp⟩):wpE K M (.bin .add (.var v) (.list es)) Q X ⟨Vz.set v (aT (.ref i)),hp⟩:=by
 refine fg (K:=K) (n:=M) (X:=X) (C.hi i hp) ?_;refine e12 S.r λxs hx rx=>?_;refine vf hK C.hM ev (iF C.l S.p.length_le) (C.hV _ _ S.p) λvs hp2 p rv=>?_;have p3:hp2<+:hp2++[MO.list vs]++[MO.list (xs++vs)]:=aa (aa (ai _));refine af (ak (aa p) hx) (af (ae _ _) ⟨?_,?_⟩)
 ·rw [bT rx.rd,bT rv.rd];exact aQ (iF (nb hz) (nb rfl))
 ·exact hq _ _ ⟨S.p.trans (p.trans p3),_,ae _ _,(rx.up (p.trans p3)).app (rv.up p3)⟩
theorem dD (C:Ct M b h Vz v ρ ν)(ev:Ev ρ ν es es')(S:Cz b h hp i ds)(hz:Qm (ds.length+es'.length) 1000=eQ)(hq:∀j hp,Cz b h hp j (ds++es')->P .next ⟨Vz.set v (aT (.ref j)),hp⟩):wpS K M (.asg [v] bY (.bin .add (.var v) (.list es))) P X ⟨Vz.set v (aT (.ref i)),hp⟩:=
 Ai (Q:=EW [v] bY P) hK C ev S hz λj hp S=>by
  have:=hq j hp S;rw [<-List.set_set (a:=some (.ref i))] at this;exact this
omit hK in
theorem Cz.nth (S:Cz b h hp i ds)(hw:(MS.mk Vz hp).get w=aT (.int c))(hn:(ds.length:Int)=n)(h0:decide (0<n)=eQ)(hq:∀x d,d∈ds->RdN b hp x d->Q x ⟨Vz,hp⟩):wpE K M (.bin .mod (.var w) (.cst (.int n))) (DR Q (.ref i)) X ⟨Vz,hp⟩:=by
 refine e12 S.r λzs e r=>?_;exact fg (K:=K) (n:=M) (X:=X) hw (aw h0 (af e (Ah r hn h0 hq)))
theorem Aj (hM:0<M)(l:b<=h.length)(hV:VD b Vz h ρ ν)(ev:Ev ρ ν es ds)(hw:(MS.mk Vz h).get w=aT (.int c))(hn:(ds.length:Int)=n)(h0:decide (0<n)=eQ)(hq:∀x d hp,h<+:hp->d∈ds->RdN b hp x d->P .next ⟨Vz.set v (aT x),hp⟩):wpS K M (.asg [v] bY (.idx (.list es) (.bin .mod (.var w) (.cst (.int n))))) P X ⟨Vz,h⟩:=
 vf hK hM ev l hV λvs hp2 p r=>Cz.nth (K:=K) (M:=M) (X:=X) (b:=b) (h:=h) (Q:=EW [v] bY P) ⟨aa p,_,ae _ _,r.up (aa (ai _))⟩ hw hn h0 λx d hd hx=>hq x d _ (aa p) hd hx
theorem G8 {ss:List (List Nat)}{n:List Nat}{r N:Nat}{c:Int}{Q:MV->List MO->Prop}{X:XT}{h:List MO}(hr:h[r]?=aT (.list ((n::ss).map .str)))(hN:1<N)(hq:∀h' x d,h<+:h'->d∈wrD n->RdN h.length h' x d->Q x h'):K N 77 [.ref r,.int c] Q X h:=by
 refine kc hK fQ hN rfl rfl λM hM=>?_;have C:Ct M h.length h [aT (.ref r),aT (.int c),iD] 2 non (at1 0 (n::ss)):=⟨hM,nO _,λw hp p=>.nms rfl (ak p hr),λ_ _=>rfl⟩
 refine tR hK (ds:=(wrD n).take 9) C (C.hV iD _ (ai _)) ?_ λi0 h0 S=>?_
 ·repeat (first | exact .nil | refine .cst _ _ rfl ?_ | refine .tup ?_ ?_ | refine .list ?_ ?_ | refine .idx 0 0 _ _ _ (.head _) rfl rfl ?_)
 refine dD hK (es':=((wrD n).take 12).drop 9) C ?_ S rfl λi1 h1 S=>?_
 ·repeat (first | exact .nil | refine .cst _ _ rfl ?_ | refine .tup ?_ ?_ | refine .list ?_ ?_ | refine .neg _ ?_ | refine .mil ?_)
 refine dD hK (es':=((wrD n).take 13).drop 12) C ?_ S rfl λi2 h2 S=>?_
 ·repeat (first | exact .nil | refine .cst _ _ rfl ?_ | refine .tup ?_ ?_ | refine .list ?_ ?_ | refine .neg _ ?_ | refine .mil ?_)
 refine dD hK (es':=((wrD n).take 16).drop 13) C ?_ S rfl λi3 h3 S=>?_
 ·repeat (first | exact .nil | refine .cst _ _ rfl ?_ | refine .tup ?_ ?_ | refine .list ?_ ?_ | refine .neg _ ?_ | refine .mil ?_)
 refine dD hK (es':=((wrD n).take 19).drop 16) C ?_ S rfl λi4 h4 S=>?_
 ·repeat (first | exact .nil | refine .cst _ _ rfl ?_ | refine .tup ?_ ?_ | refine .list ?_ ?_ | refine .neg _ ?_ | refine .mil ?_)
 refine dD hK (es':=((wrD n).take 20).drop 19) C ?_ S rfl λi5 h5 S=>?_
 ·repeat (first | exact .nil | refine .cst _ _ rfl ?_ | refine .tup ?_ ?_ | refine .list ?_ ?_ | refine .neg _ ?_ | refine .mil ?_)
 refine dD hK (es':=((wrD n).take 22).drop 20) C ?_ S rfl λi6 h6 S=>?_
 ·repeat (first | exact .nil | refine .cst _ _ rfl ?_ | refine .tup ?_ ?_ | refine .list ?_ ?_ | refine .neg _ ?_ | refine .mil ?_)
 refine dD hK (es':=((wrD n).take 24).drop 22) C ?_ S rfl λi7 h7 S=>?_
 ·repeat (first | exact .nil | refine .cst _ _ rfl ?_ | refine .tup ?_ ?_ | refine .list ?_ ?_ | refine .neg _ ?_ | refine .mil ?_)
 refine dD hK (es':=((wrD n).take 27).drop 24) C ?_ S rfl λi8 h8 S=>?_
 ·repeat (first | exact .nil | refine .cst _ _ rfl ?_ | refine .tup ?_ ?_ | refine .list ?_ ?_ | refine .neg _ ?_ | refine .mil ?_)
 refine S.nth (K:=K) (M:=M) (X:=xin X) (Vz:=[aT (.ref r),aT (.int c),aT (.ref i8)]) (ds:=wrD n) (w:=1) rfl rfl rfl ?_;exact λx d hd hx=>hq _ x d S.p hd hx
end
section
noncomputable abbrev dpD:D:=(chT [97] 12).d
noncomputable abbrev n12:D:=neD 11
noncomputable def enD:Nat->D
 | 0=>.int 5
 | k+1=>.tup [.str [42],nmD 1,enD k]
noncomputable abbrev ifD:D:=.tup [.str wIf,dpD,.list [],.str [120]]
noncomputable abbrev whD:D:=.tup [.str aU,dpD,.none]
noncomputable def twD:List (D × List Nat):=
 [(.tup [.str aU,.int 5,n12],kt),(.tup [.str aU,dpD,.list [.int 5]],fV),(ifD,kt),
  (bG (.tup [.str [43],dpD,.int 5]),fV),(bG (.tup [.str [43],.int 5,dpD]),kt),(.tup [.str gJ,.str [65],dpD],kt),
  (.tup [.str wIf,nmD 1,.list [bG (.int 5)],n12],kt),(whD,kt),
  (.tup [.str wIf,nmD 1,n12,.list [.int 5]],fV),(.tup [.str cz,dpD,.int 5],kt),
  (bG (enD 12),fV),(bG (.tup [.str [43],enD 12,dpD]),fV),
  (bG (.tup [.str [45],.tup [.str [33],dpD,.int 1],.int 5]),kt)]
noncomputable abbrev prD (p:D × List Nat):D:=.tup [p.1,.str p.2]
noncomputable def twL:List D:=twD.map prD
noncomputable def pU (d:D):Nat->D
 | 0=>d
 | k+1=>.tup [.str aU,nmD 0,.list [pU d k]]
noncomputable def tS (d:D):Bool:=!d.deq ifD&&(!d.deq whD&&((d.hd==cz&&(d.ks.length:Int)==2)||(d.hd==aU||d.hd==wIf)))
theorem G9:(twD.all λp=>((p.1.tp.isSome&&(nth p.1.ks 0).st.isSome)&&((p.1.asc&&decide (p.1.deep<=1000))&&(!tS p.1||(hf p.1).n==0)))&&p.2==iQ ((g9 (aT (ro 7)) p.1).n-1+1)&&(g9 (aT (ro 7)) p.1).n==(g9 (aT (ro 7)) p.1).n-1+1)=eQ:=by decide +kernel
theorem oO {d:D}(h:hf d=.ok):∀k,ro k [pU d k]=.deep
 | 0=>by
  show ((hf d).and .deep).and _=_;rw [h];rfl
 | k+1=>by
  show (((Rs.ok).and ((ro k [pU d k]).and .ok))).and .ok=_;rw [oO h k];rfl
theorem Jx {d:D}(h:hf d=.ok):g9 (aT (ro 7)) (pU d 8)=.deep:=by
 show (Rs.ok).and ((ro 7 [pU d 7]).and .ok)=_;rw [oO h 7];rfl
theorem rH {d:D}(h:d.asc=eQ):∀k,(pU d k).asc=eQ
 | 0=>h
 | k+1=>by show ((pU d k).asc&&eQ)&&eQ=eQ;rw [rH h k];rfl
theorem pV (d:D):d.asc=eQ->d.ok=eQ:=
 D.rec (motive_1:=λd=>d.asc=eQ->d.ok=eQ) (motive_2:=λds=>D.ascs ds=eQ->D.oks ds=eQ) (λ_=>rfl) (λ_ _=>rfl) (λ_ _=>rfl) (λ_ h=>(pR h).d) (λ_ h=>h) (λ_ h=>h) (λ_=>rfl) (λ_ _ h1 h2 h=>ID.mpr ⟨h1 (ID.mp h).1,h2 (ID.mp h).2⟩) d
theorem Rs.n0 {r:Rs}(h:(r.n==0)=eQ):r=.ok:=by
 cases r with
 | ok=>rfl
 | row=>exact ff h
 | deep=>exact ff h
theorem Ha {d:D}(hx:Rd hp x d)(h1:d.tp.isSome=eQ)(h2:(nth d.ks 0).st.isSome=eQ):∃xs,x=.tup xs/\xs[0]?=aT (.str d.hd)/\xs.length=d.ks.length:=by
 have e:=Ee (nv (d:=[]) h1);have e2:nth d.ks 0=.str d.hd:=z4 (nv h2);rw [e] at hx;refine e12 hx.iv λxs ex hs=>⟨xs,ex,?_,bT hs⟩
 have l:0<d.ks.length:=Oe λq=>by
  rw [Nc.mp q] at h2;exact ff h2
 refine e12 (lQ hs l) λy ey r=>?_;rw [show nth (d.tp.getD []) 0=_ from e2] at r;rw [ey,show y=_ from r.iv]
theorem or3 {a b:Bool}{L N:Prop}(hL:(a&&b)=eQ->L)(hN:N):bt a (bt b L N) N:=by
 cases a with
 | true=>exact bV (b:=b) hL λ_=>hN
 | false=>exact hN
theorem o1 {a b:Bool}(h:a=eQ):(a||b)=eQ:=by rw [h];rfl
theorem o2 {a b:Bool}(h:b=eQ):(a||b)=eQ:=by rw [h,Rq]
variable {K:KT}(hK:ar PP K)
include hK
theorem C9 {c:Int}{M:Nat}{x:MV}{p:D × List Nat}{v2 v3 v4:Option MV}{Q:MV->List MO->Prop}{X:XM}{h:List MO}{b:Nat}(hp:p∈twD)(lb:b<=h.length)(hxn:RdN b h x p.1)(hq:∀h' y d c,h<+:h'->RdN b h' y d->d.asc=eQ->(g9 (aT (ro 7)) d).n=c+1->Q (.tup [y,.str (iQ (c+1))]) h') :
  aA K M (ji.body.drop 10) (fin Q) X ⟨[aT (.int c),aT (chT [97] 12).mv,v2,v3,v4,aT (.tup [x,.str p.2]),iD],h⟩:=by
 refine e02 (ID.mp (LN.mp G9 p hp)) λha a6=>?_;refine e02 (ID.mp ha) λha a5=>?_;refine e02 (ID.mp ha) λa1 ha=>?_;refine e02 (ID.mp ha) λa2 a4=>?_;refine e02 (ID.mp a2) λa2 a3=>?_;have a3:=of_decide_eq_true a3;refine e13 (Ha hxn.rd (ID.mp a1).1 (ID.mp a1).2) λxs ex e0 el=>?_;rw [ex] at hxn ⊢;have back:∀h' ,h<+:h'->Q (.tup [.tup xs,.str p.2]) h':=λh' q=>by rw [eq_of_beq a5];exact hq h' _ p.1 _ q (hxn.up q) a2 (eq_of_beq a6)
 have p1:h<+:h++[MO.list []]:=aa (ai _);have hx:=fi p1 hxn.rd;have ok:=pV _ a2;refine bV (λ_=>?_) λ_=>back h (ai _);refine EqP.mk p.1 ifD hx (.tup (.cons (.str _) (.cons (Tm.rd _) (.cons (.list (ae _ _) .nil) (.cons (.str _) .nil))))) a3 ok rfl ?_;refine bV (λe2=>?_) λ_=>back _ p1;refine EqP.mk p.1 whD hx (.tup (.cons (.str _) (.cons (Tm.rd _) (.cons .none .nil)))) a3 ok rfl ?_;refine bV (λe3=>?_) λ_=>back _ p1;have back':=back _ p1;have loop:∀{P:Fl->MS->Prop},(∀v m,Q v m.heap->P (.ret v) m)->((p.1.hd==cz&&(p.1.ks.length:Int)==2)||(p.1.hd==aU||p.1.hd==wIf))=eQ->aA K M [.for_ [4] bY .range1 [.cst (.int 8)] [.asg [6] bY (.tup [.cst (.str aU),.tup [.cst (.str iP),.cst (.int 0)],.list [.var 6]])],.ret (.tup [.var 6,.cst (.str fV)])] P X ⟨[aT (.int c),aT (chT [97] 12).mv,v2,v3,v4,aT (.tup [.tup xs,.str p.2]),aT (.tup xs)],h++[MO.list []]⟩:=λ{P} hP e=>by
  have gd:hf p.1=.ok:=Rs.n0 (by rw [show tS p.1=eQ by unfold tS;rw [e2,e3,e];rfl] at a4;exact a4);refine gu (λj y w4 hp=>⟨[aT (.int c),aT (chT [97] 12).mv,v2,v3,w4,aT (.tup [.tup xs,.str p.2]),aT y],hp⟩) (λj y w4 hp=>h<+:hp/\RdN b hp y (pU p.1 j)) _ _ _ rfl ⟨p1,hxn.up p1⟩ (λ_ _ _ _ _=>trivial) (λj x y w4 hp P hx hI hn _=>?_) (λy w4 hp hI=>?_)
  ·exact hn _ _ _ ⟨aa hI.1,.tup (.cons .str (.cons (.all λ_=>tQ) (.cons (.list (iF lb hI.1.length_le) (ae _ _) (.cons (hI.2.up (aa (ai _))) .nil)) .nil)))⟩
  ·exact hP _ _ (hq _ _ (pU p.1 8) 3 hI.1 hI.2 (rH a2 8) (by rw [Jx gd];rfl))
 rw [<-el] at loop;refine aF 0 e0 (or3 (λe=>loop (λ_ _ q=>q) (o1 e)) (aF 0 e0 ?_));exact bV (λe=>loop (λ_ _ q=>q) (o2 (o1 e))) λ_=>aF 0 e0 (bV (λe=>loop (λ_ _ q=>q) (o2 (o2 e))) λ_=>back')
end
section
noncomputable def enM:Nat->MV
 | 0=>.int 5
 | k+1=>.tup [.str [42],.tup [.str iP,.int 1],enM k]
theorem Ei:∀k,Rd hp (enM k) (enD k)
 | 0=>.int 5
 | k+1=>.tup (.cons (.str _) (.cons tQ (.cons (Ei k) .nil)))
theorem Ak:Rd hp (chT [97] 12).mv dpD:=Tm.rd _
theorem xC (h1:Rd hp x a)(h2:Rd hp y b):Rd hp (.tup [x,y]) (.tup [a,b]):=.tup (.cons h1 (.cons h2 .nil))
theorem Da (h1:Rd hp x a)(h2:Rd hp y b)(h3:Rd hp z c):Rd hp (.tup [x,y,z]) (.tup [a,b,c]):=.tup (.cons h1 (.cons h2 (.cons h3 .nil)))
theorem Jy (h1:Rd hp x a)(h2:Rd hp y b)(h3:Rd hp z c)(h4:Rd hp w d):Rd hp (.tup [x,y,z,w]) (.tup [a,b,c,d]):=.tup (.cons h1 (.cons h2 (.cons h3 (.cons h4 .nil))))
variable {K:KT}(hK:ar PP K)
include hK
theorem Jz {c:Int}{N:Nat}{Q:MV->List MO->Prop}{X:XT}{h:List MO}(hN:1<N)(hq:∀h' y d c,h<+:h'->RdN h.length h' y d->d.asc=eQ->(g9 (aT (ro 7)) d).n=c+1->Q (.tup [y,.str (iQ (c+1))]) h'):K N 79 [.int c] Q X h:=by
 refine kc hK ji hN rfl rfl λM hM=>?_;have hM1:0<M:=n1 hM (by simp +arith only);refine lR hK (k:=12) rfl (nb rfl) hM1 λh1 p1=>?_;have l1:=p1.length_le;have C:Ct M h.length h1 [aT (.int c),aT (chT [97] 12).mv,iD,iD,iD,iD,iD] 2 (at1 1 dpD) non:=⟨hM1,l1,λ_ _ _=>.one rfl (.all λ_=>Ak),λ_ _=>rfl⟩
 refine tR hK (ds:=twL.take 3) C (C.hV iD _ (ai _)) ?_ λi0 h0 S=>?_
 ·repeat (first | exact .nil | refine .cst _ _ rfl ?_ | refine .tup ?_ ?_ | refine .list ?_ ?_ | refine .var _ _ (.head _) ?_ | refine .nest _ _ rfl (nb rfl) ?_)
 refine dD hK (es':=(twL.take 6).drop 3) C ?_ S rfl λi1 h2 S=>?_
 ·repeat (first | exact .nil | refine .cst _ _ rfl ?_ | refine .tup ?_ ?_ | refine .list ?_ ?_ | refine .var _ _ (.head _) ?_ | refine .nest _ _ rfl (nb rfl) ?_)
 refine dD hK (es':=(twL.take 8).drop 6) C ?_ S rfl λi2 h3 S=>?_
 ·repeat (first | exact .nil | refine .cst _ _ rfl ?_ | refine .tup ?_ ?_ | refine .list ?_ ?_ | refine .var _ _ (.head _) ?_ | refine .nest _ _ rfl (nb rfl) ?_)
 refine dD hK (es':=(twL.take 10).drop 8) C ?_ S rfl λi3 h4 S=>?_
 ·repeat (first | exact .nil | refine .cst _ _ rfl ?_ | refine .tup ?_ ?_ | refine .list ?_ ?_ | refine .var _ _ (.head _) ?_ | refine .nest _ _ rfl (nb rfl) ?_)
 refine kj (λj w4=>⟨[aT (.int c),aT (chT [97] 12).mv,aT (.ref i3),aT (enM j),w4,iD,iD],h4⟩) (λ_ _=>True) iD rfl trivial (λ_ _ _=>trivial) (λj x w4 P hx _ hn _=>hn _ trivial) (λw4 _=>?_);have C:Ct M h.length h1 [aT (.int c),aT (chT [97] 12).mv,iD,aT (enM 12),w4,iD,iD] 2 (at2 1 dpD 3 (enD 12)) non:=⟨hM1,l1,λ_ _ _=>.two rfl (.all λ_=>Ak) rfl (.all λ_=>Ei 12),λ_ _=>rfl⟩
 refine dD hK (es':=(twL.take 12).drop 10) C ?_ S rfl λi7 h7 S=>?_
 ·repeat (first | exact .nil | refine .cst _ _ rfl ?_ | refine .tup ?_ ?_ | refine .var _ _ (.head _) ?_ | refine .var _ _ (.tail _ (.head _)) ?_)
 refine dD hK (es':=twL.drop 12) C ?_ S rfl λi8 h8 S=>?_
 ·repeat (first | exact .nil | refine .cst _ _ rfl ?_ | refine .tup ?_ ?_ | refine .var _ _ (.head _) ?_ | refine .var _ _ (.tail _ (.head _)) ?_)
 refine S.nth (K:=K) (M:=M) (X:=xin X) (Vz:=[aT (.int c),aT (chT [97] 12).mv,aT (.ref i8),aT (enM 12),w4,iD,iD]) (ds:=twL) (w:=0) rfl rfl rfl ?_;refine λv d hd hv=>?_;refine e12 (Mi.mp hd) λp hp e=>?_;rw [<-e] at hv;refine e12 hv.rd.iv λxs ex hs=>e23 (tK hs) λx y ey _ r2=>?_;rw [ey,dM r2] at ex;rw [ex] at hv ⊢;have r1:RdN h.length h8 x p.1:=λhp' s=>by
  refine e12 (hv hp' s).iv λxs e hs=>e23 (tK hs) λx' y' e' r1 _=>?_;rw [e'] at e;cases e;exact r1
 exact C9 hK hp (iF l1 S.p.length_le) r1 λh' y d v q=>hq h' y d v (LS p1 (S.p.trans q))
end
theorem xD {α:Type} [BEq α] [LawfulBEq α] {l:List α}{a:α}(h:a∉l):l.contains a=bY:=PU.mpr λq=>h (Mc.mp q)
theorem vg {s:List Nat}(h:Gn s):isNm s=eQ:=by
 unfold isNm;rw [decide_eq_true (show (1:Int)<=s.length from NO.mpr (OI.mpr h.1.1)),decide_eq_true (show (s.length:Int)<=8 from NO.mpr h.1.2.1),xD h.2,show abc.contains (s.headD 0)=eQ from Mc.mpr h.1.2.2.2];exact LN.mpr λc hc=>xy c (h.1.2.2.1 c hc)
theorem eN {s:List Nat}(h:Gn s):(s.all λc=>decide (c<128))=eQ:=GZ λc hc=>rt c (h.1.2.2.1 c hc)
theorem Al (h:bz c):([c].all λc=>decide (c<128))=eQ:=by
 rcases h with rfl | rfl | rfl | rfl | rfl | rfl<;>rfl
theorem JA {t:Tm}(ht:t.ok Gn){k:Nat}(hk:t.deep<=k):fo (k+1) t.d=.ok/\t.d.asc=eQ:=by
 induction t generalizing k with
 | num z=>
  refine ⟨?_,rfl⟩;show cond ((iP==iP&&(decide (0<=z)&&decide (z<=999999)))||_) Rs.ok .row=_;rw [decide_eq_true ht.1,decide_eq_true (show z<=999999 from z1 ht.2 (by simp +arith only))];rfl
 | nm s=>
  refine ⟨?_,?_⟩
  ·show cond (_||(eH==eH&&isNm s)) Rs.ok .row=_;rw [vg ht];rfl
  ·show (eQ&&((s.all λc=>decide (c<128))&&eQ))=eQ;rw [eN ht];rfl
 | op c a b ia ib=>
  obtain ⟨k,rfl⟩:∃j,k=j+1:=⟨k-1,sb (iF (Ln (Ly _)) hk)⟩
  have hk:=P2.mp (OX hk);refine e03 ht λhc ha hb=>?_;refine e02 (ia ha hk.1) λa1 a2=>?_;refine e02 (ib hb hk.2) λb1 b2=>?_;refine ⟨?_,?_⟩
  ·show cond (sgs.contains [c]) ((fo (k+1) a.d).and (fo (k+1) b.d)) Rs.row=_;rw [(CT hc).1,a1,b1];rfl
  ·show (([c].all λc=>decide (c<128))&&(a.d.asc&&(b.d.asc&&eQ)))=eQ;rw [Al hc,a2,b2];rfl
theorem lT {t:Tm}(h:t.good):fo 12 t.d=.ok/\t.d.asc=eQ:=JA h.1 (iF h.2 (nb rfl))
structure rI (k:Nat)(d:D):Prop where
 o:g9 (aT (ro k)) d=.ok
 a:d.asc=eQ
theorem jT:∀{ds:List D},(∀d∈ds,rI k d)->∀(rest:List D),hE (aT (ro k)) (ds++rest)=hE (aT (ro k)) rest/\D.ascs ds=eQ
 | [],_,_=>⟨rfl,rfl⟩
 | d::ds,h,rest=>by
  refine e02 (jT (ds:=ds) (λx hx=>h x (.tail _ hx)) rest) λh1 h2=>?_;have hd:=h d (.head _);refine ⟨?_,ID.mpr ⟨hd.a,h2⟩⟩;show (g9 (aT (ro k)) d).and (hE (aT (ro k)) (ds++rest))=_;rw [hd.o,h1];rfl
theorem pW {d:D}(e:d.bl=aT ds)(h:D.ascs ds=eQ):d.asc=eQ:=by
 rcases Ef e with rfl | rfl<;>exact h
noncomputable def Am (rs:List Rw):Prop:=∀{k:Nat}{ds:List D},dC rs ds->g8 rs->ay rs<=k->∀d∈ds,rI k d
theorem Hb {r:Rw}(ih:∀b∈r.subs,Am b){d:D}(hd:r.dis d)(hg:r.good)(hn:r.nest<=k):rI k d:=by
 have sub:∀{b:List Rw} {x:D} {xs:List D},b∈r.subs->x.bl=aT xs->dC b xs->ro k xs=.ok/\x.asc=eQ:=λ{b x xs} hb e hx=>by
  have:=hJ b hb;obtain ⟨k,rfl⟩:∃k',k=k'+1:=⟨k-1,sb (n2 this hn (by simp +arith only))⟩
  have:=jT (k:=k) (ih b hb hx (rF hg b hb) (n2 this hn (by simp +arith only))) [];rw [LJ] at this;exact ⟨this.1,pW e this.2⟩
 cases r with
 | set s t=>
  rw [show d=_ from hd];refine e02 (lT hg.2) λf1 f2=>⟨?_,?_⟩
  ·show (cond (!isNm s) Rs.row .ok).and ((fo 12 t.d).and .ok)=_;rw [vg hg.1,f1];rfl
  ·show ((s.all λc=>decide (c<128))&&(t.d.asc&&eQ))=eQ;rw [eN hg.1,f2];rfl
 | tell t=>
  rw [show d=_ from hd];refine e02 (lT hg) λf1 f2=>⟨?_,?_⟩
  ·show (fo 12 t.d).and .ok=_;rw [f1];rfl
  ·show (t.d.asc&&eQ)=eQ;rw [f2];rfl
 | skip=>rw [show d=_ from hd];exact ⟨rfl,rfl⟩
 | ite t a b=>
  refine e23 hd λx y e d1 d2=>e12 d1 λxs e1 d1=>e12 d2 λys e2 d2=>?_;rw [e];refine e02 (lT hg.1) λf1 f2=>?_;refine e02 (sub (.head _) e1 d1) λa1 a2=>?_;refine e02 (sub (.tail _ (.head _)) e2 d2) λb1 b2=>⟨?_,?_⟩
  ·show (cond (x.bl.isSome&&(y.bl.isSome&&eQ)) Rs.ok .row).and ((fo 12 t.d).and ((ro k (x.bl.getD [])).and ((ro k (y.bl.getD [])).and .ok)))=_;rw [e1,e2,f1];show (ro k xs).and ((ro k ys).and .ok)=_;rw [a1,b1];rfl
  ·show (t.d.asc&&(x.asc&&(y.asc&&eQ)))=eQ;rw [f2,a2,b2];rfl
 | wh t a=>
  refine e12 hd λx e d1=>e12 d1 λxs e1 d1=>?_;rw [e];refine e02 (lT hg.1) λf1 f2=>?_;refine e02 (sub (.head _) e1 d1) λa1 a2=>⟨?_,?_⟩
  ·show (cond (x.bl.isSome&&eQ) Rs.ok .row).and ((fo 12 t.d).and ((ro k (x.bl.getD [])).and .ok))=_;rw [e1,f1];show (ro k xs).and .ok=_;rw [a1];rfl
  ·show (t.d.asc&&(x.asc&&eQ))=eQ;rw [f2,a2];rfl
theorem tT (rs:List Rw):Am rs:=eM (P:=Am) (λrs ih k ds hd hg hn d hm=>e11 (Pf hm) λj hj=>e12 (rE hd hj) λr hr hrd=>
 have hmr:=Lo hr
 Hb (ih r hmr) hrd (oJ hg r hmr) (fU hn r hmr)) rs
mutual
noncomputable def Rw.dd:Rw->D
 | .set s t=>.tup [.str gJ,.str s,t.d]
 | .tell t=>.tup [.str cz,t.d]
 | .skip=>.tup [.str dI]
 | .ite t a b=>.tup [.str wIf,t.d,.tup (dds a),.tup (dds b)]
 | .wh t a=>.tup [.str aU,t.d,.tup (dds a)]
noncomputable def dds:List Rw->List D
 | []=>[]
 | r::rs=>r.dd::dds rs
end
theorem pX (rs:List Rw):dC rs (dds rs):=
 Rw.rec_1 (motive_1:=λr=>r.dis r.dd) (motive_2:=λrs=>dC rs (dds rs)) (λ_ _=>rfl) (λ_=>rfl) rfl (λ_ _ _ ha hb=>⟨_,_,rfl,⟨_,rfl,ha⟩,_,rfl,hb⟩) (λ_ _ ha=>⟨_,rfl,_,rfl,ha⟩) rfl (λ_ _ h1 h2=>⟨_,_,rfl,h1,h2⟩) rs
theorem gC (rs:List Rw):Rds hp (mvs rs) (dds rs):=
 Rw.rec_1 (motive_1:=λr=>Rd hp r.mv r.dd) (motive_2:=λrs=>Rds hp (mvs rs) (dds rs)) (λ_ t=>Da (.str _) (.str _) t.rd) (λt=>xC (.str _) t.rd) (.tup (.cons (.str _) .nil)) (λt _ _ ha hb=>Jy (.str _) t.rd (.tup ha) (.tup hb)) (λt _ ha=>Da (.str _) t.rd (.tup ha)) .nil (λ_ _ h1 h2=>.cons h1 h2) rs
theorem Ej {ss ks:List (List Nat)}(h:∀s∈ss,Gn s)(hn:(ks++ss).Nodup):nn ks (ss.map .str)=.ok (ks++ss):=by
 induction ss generalizing ks with
 | nil=>rw [LJ];rfl
 | cons s ss ih=>
  show cond (isNm s) (cond (ks.contains s) (.bad eQ) (nn (ks++[s]) (ss.map .str))) (.bad bY)=_;rw [vg (h s (.head _)),xD λq=>(M7.mp hn).2.2 s q s (.head _) rfl];have e:=List.append_cons ks s ss;rw [e] at hn ⊢;exact ih (λx hx=>h x (.tail _ hx)) hn
theorem cA {ss:List (List Nat)}(h:∀s∈ss,Gn s):D.ascs (ss.map .str)=eQ:=by
 induction ss with
 | nil=>rfl
 | cons s ss ih=>exact ID.mpr ⟨eN (h s (.head _)),ih λx hx=>h x (.tail _ hx)⟩
theorem Ek {dO dS:D}(hA:∀s∈A,Gn s)(hB:∀s∈B,Gn s)(hn:(A++B).Nodup)(eO:dO.bl=aT (A.map .str))(eS:dS.bl=aT (B.map .str)):(nnD [] dO=.ok A/\nnD A dS=.ok (A++B))/\vd dO dS b=vdB b:=by
 have h1:nnD [] dO=.ok A:=by unfold nnD;rw [eO];exact Ej (ks:=[]) hA (M7.mp hn).1
 have h2:nnD A dS=.ok (A++B):=by unfold nnD;rw [eS];exact Ej hB hn
 refine ⟨⟨h1,h2⟩,?_⟩;unfold vd;rw [h1];show (nnD A dS).n _=_;rw [h2];rfl
section
structure Ten (ss:List (List Nat)):Prop where
 len:ss.length=10
 gn:∀s∈ss,Gn s
 nd:ss.Nodup
theorem JB {α:Type}{xs:List α}(h:xs.length=10):aC xs (aT 2) (aT 4)=(xs.take 4).drop 2:=by
 unfold aC;rw [h];rfl
theorem Ten.a (t:Ten ss):(∀s∈ss.take 2,Gn s)/\(∀s∈(ss.take 4).drop 2,Gn s)/\(ss.take 2++(ss.take 4).drop 2).Nodup:=by
 refine ⟨λs hs=>t.gn s (Mp hs),λs hs=>t.gn s (Mp (MX hs)),?_⟩;have e:ss.take 2++(ss.take 4).drop 2=ss.take 4:=by
  have:=Mj 2 (ss.take 4);rw [List.take_take] at this;exact this
 rw [e];exact List.Sublist.nodup (PV ..) t.nd
theorem d0 (ss:List (List Nat))(e:hp[i]?=aT (.list (ss.map .str))):Rd hp (.ref i) (.list (ss.map .str)):=.list e (fT ss)
variable {K:KT}(hK:ar PP K)
include hK
theorem JC {Vz:List (Option MV)}{hp:List MO}{r M:Nat}{ss:List (List Nat)}{e:ME}{ds:List D}{rows:List Rw}{P:PQ}{X:XM}(t:Ten ss)(hv:(MS.mk Vz hp).get 0=aT (.ref r))(hr:hp[r]?=aT (.list (ss.map .str)))(hM:41<M)
  (ev:∀hp',hp<+:hp'->∀Q:PQ,(∀w hp2,hp'<+:hp2->BD hp2 w (aT ds)->Q w ⟨Vz,hp2⟩)->wpE K M e Q X ⟨Vz,hp'⟩) (hm:vdB (aT ds)=0->dC rows ds/\(lns rows).length<=100000/\ay rows<=7)
  (hq:∀h',hp<+:h'->P (.str (iQ (vdB (aT ds)))) ⟨Vz,h'⟩):wpE K M (.call 78 [.sl (.var 0) iD (aT (.cst (.int 2))),.sl (.var 0) (aT (.cst (.int 2))) (aT (.cst (.int 4))),e]) P X ⟨Vz,hp⟩:=by
 refine fg (K:=K) (n:=M) (X:=X) hv (kU hr (ys:=(ss.take 2).map .str) ?_ ?_)
 ·rw [dB (by decide),Oa];rfl
 refine fg (K:=K) (n:=M) (X:=X) (m:=⟨Vz,_⟩) hv (kU (aj hr) (ys:=((ss.take 4).drop 2).map .str) ?_ ?_)
 ·rw [JB (by rw [tO];exact t.len),OD,Oa]
 refine e03 t.a λa1 a2 a3=>?_;refine ev _ (aa (aa (ai _))) _ λw h2 p2 hb=>?_;have z:∀{l:List (List Nat)},l.Sublist ss->(l.map D.str).length<=40000:=λs=>by rw [tO];exact iF s.length_le (iF (Lw t.len) (nb rfl))
 refine e02 (Ek (b:=some ds) a1 a2 a3 (dO:=.list ((ss.take 2).map .str)) (dS:=.list (((ss.take 4).drop 2).map .str)) rfl rfl) λv1 v2=>?_;refine ku hK (A:=ss.take 2) (B:=(ss.take 4).drop 2) (rows:=rows) (d0 _ (ak p2 (aj (ae _ _)))) (cA a1) (d0 _ (ak p2 (ae _ _))) (cA a2) hb (z (PV ..)) (z ((List.drop_sublist ..).trans (PV ..))) (λe0=>?_) (n1 hM (by simp +arith only)) λh' p=>?_
 ·exact e03 (hm (v2▸e0)) λm1 m2 m3=>⟨v1.1,v1.2,⟨ds,rfl,m1⟩,m2,m3⟩
 ·rw [v2];exact hq h' ((aa (aa (ai _))).trans (LS p2 p))
end
section
noncomputable def JD:List D:=[.str [],.str [65],.str wIf,.str [57],.none,.int 5,.str [97,98,99,100,101,102,103,104,105],.str [97,32,98]]
theorem An:(JD.all λd=>!d.isNm&&d.asc)=eQ:=rfl
noncomputable abbrev pD (p:D × D):D:=.list [p.1,p.2]
theorem Ten.two (t:Ten ss):∃n0 n1 r,ss=n0::n1::r:=by
 have:=t.len
 cases ss with
 | nil=>exact absurd this (by decide)
 | cons a r=>
  cases r with
  | nil=>exact absurd this (show ¬ 1=10 by decide)
  | cons b r=>exact ⟨a,b,r,rfl⟩
noncomputable def tw4 (a b:List Nat):List (D × D):=[(D.list [.str a,.str a],D.list []),(.list [.str a],.list [.str b,.str a]),(.list [],.list [.str a,.str a,.int 5]),(.list [.str a,.str a],.none)]
noncomputable def nm4 (a:List Nat):List (D × D):=[(D.none,D.list []),(.str a,.list []),(.list [],.str a),(.list [],.int 5)]
structure Sm (c:Nat)(p:D × D):Prop where
 a:p.1.asc=eQ
 b:p.2.asc=eQ
 z:Qm p.1.sz 3=eQ
 y:Qm p.2.sz 3=eQ
 v:vd p.1 p.2 (aT [.int 5])=c
theorem pY {a b:List Nat}(ha:Gn a)(hb:Gn b):((a.all λc=>decide (c<128))&&((b.all λc=>decide (c<128))&&eQ))=eQ:=by rw [eN ha,eN hb];rfl
theorem JE {a:List Nat}(ha:Gn a):((a.all λc=>decide (c<128))&&eQ)=eQ:=by rw [eN ha];rfl
theorem ky {a:List Nat}(ha:Gn a):nn ks (.str a::r)=cond (ks.contains a) (.bad eQ) (nn (ks++[a]) r):=by
 show cond (isNm a) _ _=_;rw [vg ha];rfl
theorem Ao {a:List Nat}(ha:Gn a):nn [] (.str a::.str a::r)=.bad eQ:=by
 rw [ky ha];show nn [a] (.str a::r)=_;rw [ky ha,Mc.mpr (IS ..)];rfl
theorem Hc {a b:List Nat}(ha:Gn a)(hb:Gn b)(hne:a≠b):∀p∈tw4 a b,Sm 2 p:=by
 refine al4 ⟨pY ha ha,rfl,rfl,rfl,?_⟩ ⟨JE ha,pY hb ha,rfl,rfl,?_⟩ ⟨rfl,?_,rfl,rfl,?_⟩ ⟨pY ha ha,rfl,rfl,rfl,?_⟩
 ·show (nn [] [.str a,.str a]).n _=2;rw [Ao ha];rfl
 ·show (nn [] [.str a]).n (λks=>(nn ks [.str b,.str a]).n _)=2;rw [ky ha];show (nn [a] [.str b,.str a]).n _=2;rw [ky hb,xD λq=>hne (oF.mp q).symm];show (nn [a,b] [.str a]).n _=2;rw [ky ha,Mc.mpr (IS ..)];rfl
 ·show ((a.all λc=>decide (c<128))&&((a.all λc=>decide (c<128))&&eQ))=eQ;exact pY ha ha
 ·show (nn [] [.str a,.str a,.int 5]).n _=2;rw [Ao ha];rfl
 ·show (nn [] [.str a,.str a]).n _=2;rw [Ao ha];rfl
theorem Hd {a:List Nat}(ha:Gn a):∀p∈nm4 a,Sm 1 p:=al4 ⟨rfl,rfl,rfl,rfl,rfl⟩ ⟨eN ha,rfl,rfl,rfl,rfl⟩ ⟨rfl,eN ha,rfl,rfl,rfl⟩ ⟨rfl,rfl,rfl,rfl,rfl⟩
variable {K:KT}(hK:ar PP K)
include hK
theorem He {v6 v7 v8 v1 v2 v4:Option MV}{hp:List MO}{r i3 M:Nat}{more:Int}{ss:List (List Nat)}{rows:List Rw}{Q:MV->List MO->Prop}{X:XM}(t:Ten ss)(hr:hp[r]?=aT (.list (ss.map .str)))(h3:hp[i3]?=aT (.list (mvs rows)))(hR:D.ascs (dds rows)=eQ)(hM:45<M)(hq:∀h',Q (.bool eQ) h'){P:Fl->MS->Prop}(hP:∀v m,Q v m.heap->P (.ret v) m) :
  aA K M [.asg [6] bY (.idx (.list [.cst (.str []),.cst (.str [65]),.cst (.str [105,102]),.cst (.str [57]),.cst .none,.cst (.int 5),.cst (.str [97,98,99,100,101,102,103,104,105]),.cst (.str [97,32,98])]) (.bin .mod (.var 5) (.cst (.int 8)))),.ret (.cmp .eq (.call 78 [.list [.idx (.var 0) (.cst (.int 0)),.var 6],.list [.var 6,.idx (.var 0) (.cst (.int 0))],.var 3]) (.cst (.str [110,97,109,101])))] P X
   ⟨[aT (.ref r),v1,v2,aT (.ref i3),v4,aT (.int more),v6,v7,v8],hp⟩:=by
 obtain ⟨n0,m1,rr,rfl⟩:=t.two;refine Aj hK (b:=0) (ρ:=non) (ν:=non) (ds:=JD) (n1 hM (by simp +arith only)) (Ly _) .none ?_ rfl rfl rfl λx d hp1 p1 hd hx=>?_
 ·repeat (first | exact .nil | refine .cst _ _ rfl ?_)
 refine e02 (ID.mp (LN.mp An d hd)) λd1 d2=>?_;refine af (ak p1 hr) (aF 0 rfl ?_);refine af (ak (aa p1) hr) (aF 0 rfl ?_);have g0:=t.gn n0 (.head _);have hx:∀a b,Rd (hp1++[a]++[b]) x d:=λa b=>fi (aa (aa (ai _))) hx.rd;refine Eh hK (c:=0) (dO:=.list [.str n0,d]) (dS:=.list [d,.str n0]) (.list (aj (ae _ _)) (.cons (.str n0) (.cons (hx _ _) .nil))) ?_ (.list (ae _ _) (.cons (hx _ _) (.cons (.str n0) .nil))) ?_ (.data (.list (dds rows)) (.list (ak (aa (aa p1)) h3) (gC rows)) hR rfl) (nb rfl) (nb rfl) ?_ (n1 hM (by simp +arith only)) λh' p=>hP _ _ (hq _)
 ·show ((n0.all λc=>decide (c<128))&&(d.asc&&eQ))=eQ;rw [eN g0,d2];rfl
 ·show (d.asc&&((n0.all λc=>decide (c<128))&&eQ))=eQ;rw [eN g0,d2];rfl
 ·show (nn [] [.str n0,d]).n _=1;rw [ky g0];show (cond d.isNm _ (NS.bad bY)).n _=1;rw [un d1];rfl
theorem rJ {v0 v1 v2 v3 v4 v5 v6 v8:Option MV}{x:MV}{hp:List MO}{M cd:Nat}{p:D × D}{w:List Nat}{Q:MV->List MO->Prop}{X:XM}(hx:Rd hp x (pD p))(S:Sm (cd+1) p)(hw:iQ (cd+1)=w)(hM:45<M)(hq:∀h',Q (.bool eQ) h'){P:Fl->MS->Prop}(hP:∀v m,Q v m.heap->P (.ret v) m) :
  wpS K M (.ret (.cmp .eq (.call 78 [.idx (.var 7) (.cst (.int 0)),.idx (.var 7) (.cst (.int 1)),.list [.cst (.int 5)]]) (.cst (.str w)))) P X ⟨[v0,v1,v2,v3,v4,v5,v6,aT x,v8],hp⟩:=by
 refine e23 hx.iv λi xs ex e hs=>e23 (tK hs) λa b e' ha hb=>?_;rw [ex];rw [e'] at e;refine af e (aB (j:=0) rfl rfl (af e (aB (j:=1) rfl rfl ?_)));have p1:hp<+:hp++[MO.list [.int 5]]:=aa (ai _);refine Eh hK (fi p1 ha) S.a (fi p1 hb) S.b (.data (.list [.int 5]) (.list (ae _ _) (.cons (.int 5) .nil)) rfl rfl) (lk (nb S.z) rfl) (lk (nb S.y) rfl) S.v (n1 hM (by simp +arith only)) λh' p=>hP _ _ ?_;rw [hw,show (w==w)=eQ from beq_self_eq_true _];exact hq _
theorem Hf {v1 v2 v3 v4 v6 v7 v8:Option MV}{hp:List MO}{r M:Nat}{more:Int}{ss:List (List Nat)}{Q:MV->List MO->Prop}{X:XM}(t:Ten ss)(hr:hp[r]?=aT (.list (ss.map .str)))(hM:45<M)(hq:∀h',Q (.bool eQ) h'){P:Fl->MS->Prop}(hP:∀v m,Q v m.heap->P (.ret v) m) :
  aA K M [.asg [7] bY (.idx (.list [.list [.cst .none,.list []],.list [.idx (.var 0) (.cst (.int 0)),.list []],.list [.list [],.idx (.var 0) (.cst (.int 0))],.list [.list [],.cst (.int 5)]]) (.bin .mod (.var 5) (.cst (.int 4)))),.ret (.cmp .eq (.call 78 [.idx (.var 7) (.cst (.int 0)),.idx (.var 7) (.cst (.int 1)),.list [.cst (.int 5)]]) (.cst (.str ve)))] P X
   ⟨[aT (.ref r),v1,v2,v3,v4,aT (.int more),v6,v7,v8],hp⟩:=by
 obtain ⟨n0,m1,rr,rfl⟩:=t.two;refine Aj hK (b:=0) (ρ:=non) (ν:=at1 0 (n0::m1::rr)) (ds:=(nm4 n0).map pD) (n1 hM (by simp +arith only)) (Ly _) (.nms rfl hr) ?_ rfl rfl rfl λx d hp1 p1 hd hx=>?_
 ·repeat (first | exact .nil | refine .cst _ _ rfl ?_ | refine .list ?_ ?_ | refine .idx 0 0 _ _ _ (.head _) rfl rfl ?_)
 refine e12 (Mi.mp hd) λp hp' e=>?_;exact rJ hK (e▸hx.rd) (Hd (t.gn n0 (.head _)) p hp') rfl hM hq hP
theorem Hg {v1 v2 v3 v4 v6 v7 v8:Option MV}{hp:List MO}{r M:Nat}{more:Int}{ss:List (List Nat)}{Q:MV->List MO->Prop}{X:XM}(t:Ten ss)(hr:hp[r]?=aT (.list (ss.map .str)))(hM:45<M)(hq:∀h',Q (.bool eQ) h'){P:Fl->MS->Prop}(hP:∀v m,Q v m.heap->P (.ret v) m) :
  aA K M [.asg [7] bY (.list [.list [.list [.idx (.var 0) (.cst (.int 0)),.idx (.var 0) (.cst (.int 0))],.list []],.list [.list [.idx (.var 0) (.cst (.int 0))],.list [.idx (.var 0) (.cst (.int 1)),.idx (.var 0) (.cst (.int 0))]]]),.asg [7] bY (.idx (.bin .add (.var 7) (.list [.list [.list [],.list [.idx (.var 0) (.cst (.int 0)),.idx (.var 0) (.cst (.int 0)),.cst (.int 5)]],.list [.list [.idx (.var 0) (.cst (.int 0)),.idx (.var 0) (.cst (.int 0))],.cst .none]])) (.bin .mod (.var 5) (.cst (.int 4)))),.ret (.cmp .eq (.call 78 [.idx (.var 7) (.cst (.int 0)),.idx (.var 7) (.cst (.int 1)),.list [.cst (.int 5)]]) (.cst (.str pT)))] P X
   ⟨[aT (.ref r),v1,v2,v3,v4,aT (.int more),v6,v7,v8],hp⟩:=by
 obtain ⟨n0,m1,rr,rfl⟩:=t.two;have C:Ct M 0 hp [aT (.ref r),v1,v2,v3,v4,aT (.int more),v6,iD,v8] 7 non (at1 0 (n0::m1::rr)):=⟨n1 hM (by simp +arith only),Ly _,λ_ _ p=>.nms rfl (ak p hr),λ_ _=>rfl⟩
 refine tR hK (v:=7) (Vz:=[aT (.ref r),v1,v2,v3,v4,aT (.int more),v6,v7,v8]) (ds:=((tw4 n0 m1).take 2).map pD) C (C.hV v7 _ (ai _)) ?_ λi1 hp1 S=>?_
 ·repeat (first | exact .nil | refine .cst _ _ rfl ?_ | refine .list ?_ ?_ | refine .idx 0 0 _ _ _ (.head _) rfl rfl ?_ | refine .idx 0 1 _ _ _ (.head _) rfl rfl ?_)
 refine Ai hK (es':=((tw4 n0 m1).drop 2).map pD) C ?_ S rfl λj hp2 S=>?_
 ·repeat (first | exact .nil | refine .cst _ _ rfl ?_ | refine .list ?_ ?_ | refine .idx 0 0 _ _ _ (.head _) rfl rfl ?_)
 refine S.nth (K:=K) (M:=M) (X:=X) (Vz:=[aT (.ref r),v1,v2,v3,v4,aT (.int more),v6,aT (.ref i1),v8]) (ds:=(tw4 n0 m1).map pD) (w:=5) rfl rfl rfl ?_;refine λx d hd hx=>e12 (Mi.mp hd) λp hp' e=>?_;exact rJ hK (e▸hx.rd) (Hc (t.gn n0 (.head _)) (t.gn m1 (.tail _ (.head _))) (λq=>(Nn.mp t.nd).1 (by rw [q];exact .head _)) p hp') rfl hM hq hP
end
section
theorem rK (a:Nat){ds:List D}{xs:List MV}(h:Rds hp xs ds):Rds hp (xs.take a) (ds.take a)/\Rds hp (xs.drop a) (ds.drop a):=by
 induction a generalizing ds xs with
 | zero=>exact ⟨.nil,h⟩
 | succ a ih=>
  cases ds with
  | nil=>rw [lP h];exact ⟨.nil,.nil⟩
  | cons d ds=>
   refine e23 h.iv λy ys e h1 h2=>?_;rw [e];exact ⟨.cons h1 (ih h2).1,(ih h2).2⟩
theorem vh {ds0 rest:List D}{d:D}(h0:∀d∈ds0,rI 7 d)(h:(g9 (aT (ro 7)) d).n=c+1):vdB (aT (ds0++d::rest))=c+1:=by
 have e:ro 8 (ds0++d::rest)=(g9 (aT (ro 7)) d).and (hE (aT (ro 7)) rest):=(jT h0 (d::rest)).1;show (ro 8 (ds0++d::rest)).n=_;rw [e]
 cases q:g9 (aT (ro 7)) d with
 | ok=>rw [q] at h;exact absurd h.symm (OP c)
 | row=>rw [q] at h;exact h
 | deep=>rw [q] at h;exact h
theorem eR:∀{a b:List D},D.ascs a=eQ->D.ascs b=eQ->D.ascs (a++b)=eQ
 | [],_,_,h=>h
 | d::a,b,h1,h2=>ID.mpr ⟨(ID.mp h1).1,eR (ID.mp h1).2 h2⟩
theorem jU:∀{ds:List D},(∀d∈ds,d.asc=eQ)->D.ascs ds=eQ
 | [],_=>rfl
 | d::ds,h=>ID.mpr ⟨h d (.head _),jU λx hx=>h x (.tail _ hx)⟩
theorem rM {ds es:List D}(h:D.ascs ds=eQ)(s:∀d∈es,d∈ds):D.ascs es=eQ:=jU λd hd=>e11 (Pf (s d hd)) λ_ hj=>eJ h hj
noncomputable abbrev e78 (e:ME):ME:=.call 78 [.sl (.var 0) iD (aT (.cst (.int 2))),.sl (.var 0) (aT (.cst (.int 2))) (aT (.cst (.int 4))),e]
theorem kz {hp:List MO}{r:Nat}{xs:List MV}(e:hp[r]?=aT (.list xs)):gD .insert (.ref r) hp=eQ/\gD .popAt (.ref r) hp=eQ/\gD .pop (.ref r) hp=eQ:=by
 have h:(nJ r hp[r]?).isSome=eQ:=by rw [e];rfl
 exact ⟨h,h,h⟩
variable {K:KT}(hK:ar PP K)
include hK
omit hK in
structure Wst (hp:List MO)(r i3:Nat)(ss:List (List Nat))(rows:List Rw):Prop where
 t:Ten ss
 hr:hp[r]?=aT (.list (ss.map .str))
 h3:hp[i3]?=aT (.list (mvs rows))
 ne:i3≠r
 g:g8 rows
 n:ay rows<=7
 l:(lns rows).length<=1000
omit hK in
theorem Wst.ok (W:Wst hp r i3 ss rows):∀d∈dds rows,rI 7 d:=tT rows (pX rows) W.g W.n
omit hK in
theorem Wst.asc (W:Wst hp r i3 ss rows):D.ascs (dds rows)=eQ:=jU λe he=>(W.ok e he).a
omit hK in
theorem Wst.len (W:Wst hp r i3 ss rows):(mvs rows).length<=1000:=by rw [fh];exact iF (iL rows) W.l
omit hK in
structure Wl (n:Nat)(H:List MO)(r i3:Nat)(ss:List (List Nat))(L:List MV)(ds:List D):Prop where
 t:Ten ss
 ne:i3≠r
 lt:i3<n
 hr:H[r]?=aT (.list (ss.map .str))
 h3:H[i3]?=aT (.list L)
 rL:dZ n H L ds
 aL:D.ascs ds=eQ
 z:L.length<=2000
omit hK in
theorem iM (h:i<n):bU n hp (hp.set i o):=λj o' l e=>aH (Mn (Lp h l)) e
omit hK in
theorem Wl.up (W:Wl n H r i3 ss L ds)(p:H<+:H'):Wl n H' r i3 ss L ds:=⟨W.t,W.ne,W.lt,ak p W.hr,ak p W.h3,W.rL.up p,W.aL,W.z⟩
omit hK in
theorem Wl.put (W:Wl n H r i3 ss L ds)(rL:dZ n H L' ds')(aL:D.ascs ds'=eQ)(z:L'.length<=2000):Wl n (H.set i3 (.list L')) r i3 ss L' ds':=⟨W.t,W.ne,W.lt,aH W.ne W.hr,get_set W.h3,λhp s=>rL hp λi o l e=>s i o l (iM W.lt i o l e),aL,z⟩
omit hK in
theorem Wst.w (W:Wst hp r i3 ss rows):Wl hp.length hp r i3 ss (mvs rows) (dds rows):=⟨W.t,W.ne,lta W.h3,W.hr,W.h3,λ_ _=>gC rows,W.asc,iF W.len (nb rfl)⟩
omit hK in
theorem Wl.ins (W:Wl n H r i3 ss (mvs rows) (dds rows))(hx:RdN n H x d)(da:d.asc=eQ)(k:Nat)(z:((mvs rows).take k++x::(mvs rows).drop k).length<=2000):Wl n (H.set i3 (.list ((mvs rows).take k++x::(mvs rows).drop k))) r i3 ss ((mvs rows).take k++x::(mvs rows).drop k) ((dds rows).take k++d::(dds rows).drop k):=
 W.put (.app (λ_ _=>(rK k (gC rows)).1) (.cons hx λ_ _=>(rK k (gC rows)).2)) (eR (rM W.aL λ_ h=>Mp h) (ID.mpr ⟨da,rM W.aL λ_ h=>MX h⟩)) z
theorem rf3 {Vz:List (Option MV)}{H:List MO}{r i3 M n:Nat}{ss:List (List Nat)}{L:List MV}{ds:List D}{rows:List Rw}{P:PQ}{X:XM}(W:Wl n H r i3 ss L ds)(hv:(MS.mk Vz H).get 0=aT (.ref r))(hv3:(MS.mk Vz H).get 3=aT (.ref i3))(hM:41<M)(hm:vdB (aT ds)=0->dC rows ds/\(lns rows).length<=100000/\ay rows<=7)
  (hq:∀h',H<+:h'->P (.str (iQ (vdB (aT ds)))) ⟨Vz,h'⟩):wpE K M (e78 (.var 3)) P X ⟨Vz,H⟩:=
 JC hK W.t hv W.hr hM (λhp' p Q q=>fg (K:=K) (n:=M) (X:=X) (m:=⟨Vz,hp'⟩) hv3 (q _ hp' (ai _) (.data (.list ds) (.list (ak p W.h3) (W.rL.up p).rd) W.aL rfl))) hm hq
theorem JF {Vz:List (Option MV)}{H:List MO}{r i3 M n c:Nat}{ss:List (List Nat)}{L:List MV}{ds:List D}{P:PQ}{X:XM}(W:Wl n H r i3 ss L ds)(hv:(MS.mk Vz H).get 0=aT (.ref r))(hv3:(MS.mk Vz H).get 3=aT (.ref i3))(hM:41<M)(e:vdB (aT ds)=c+1)
  (hq:∀h',H<+:h'->P (.str (iQ (c+1))) ⟨Vz,h'⟩):wpE K M (e78 (.var 3)) P X ⟨Vz,H⟩:=rf3 hK (rows:=[]) W hv hv3 hM (λz=>absurd (e.symm.trans z) (OP c)) (e.symm▸hq)
theorem rf5 {Vz:List (Option MV)}{H:List MO}{r i3 M n c:Nat}{ss:List (List Nat)}{L:List MV}{ds:List D}{P:PQ}{X:XM}(W:Wl n H r i3 ss L ds)(hv:(MS.mk Vz H).get 0=aT (.ref r))(hv3:(MS.mk Vz H).get 3=aT (.ref i3))(hM:41<M)(e:vdB (aT (ds++[.int 5]))=c+1)
  (hq:∀h',H<+:h'->P (.str (iQ (c+1))) ⟨Vz,h'⟩):wpE K M (e78 (.bin .add (.var 3) (.list [.cst (.int 5)]))) P X ⟨Vz,H⟩:=by
 refine JC hK (rows:=[]) (ds:=ds++[.int 5]) W.t hv W.hr hM (λhp' p Q q=>?_) (λz=>absurd (e.symm.trans z) (OP c)) (e.symm▸hq);refine fg (K:=K) (n:=M) (X:=X) (m:=⟨Vz,hp'⟩) hv3 ?_;have p2:hp'<+:hp'++[MO.list [.int 5]]++[MO.list (L++[.int 5])]:=aa (aa (ai _));refine af (aj (ak p W.h3)) (af (ae _ _) ⟨aQ (iF (Ln W.z) (nb rfl)),?_⟩);exact q _ _ p2 (.data (D.list (ds++[D.int 5])) (.list (ae _ _) (jS (W.rL.up (p.trans p2)).rd (.cons (.int 5) .nil))) (eR W.aL rfl) rfl)
omit hK in
theorem Ap {l t:List α}(h:k<=l.length):A4 ((l.take k++x::l.drop k).length=l.length+1) ((l.take k++x::l.drop k++t)[k]?=aT x) ((l.take k++x::l.drop k++t).eraseIdx k=l++t) (k<(l.take k++x::l.drop k++t).length):=by
 have la:(l.take k).length=k:=PR h;rw [DO];refine ⟨?_,?_,?_,?_⟩
 ·rw [iN,MD,<-Pr,<-iN,Mj]
 ·rw [LU (Lw la),la,Pj];rfl
 ·rw [List.eraseIdx_append_of_length_le (Lw la),la,Pj];show l.take k++(l.drop k++t)=_;rw [<-DO,Mj]
 ·rw [iN,la];exact Nat.lt_add_of_pos_right (N6 _)
omit hK in
noncomputable abbrev V9 (r i3:Nat) (v1 v2:Option MV) (a:Int) (v5 v6 v7 v8:Option MV):List (Option MV):=[aT (.ref r),v1,v2,aT (.ref i3),aT (.int a),v5,v6,v7,v8]
theorem Hh {v1 v5 v6 v7 v8:Option MV}{hp:List MO}{r i3 M k:Nat}{c:Int}{ss:List (List Nat)}{rows:List Rw}{Q:MV->List MO->Prop}{X:XM}(W:Wst hp r i3 ss rows)(a1:k<=(mvs rows).length)(hM:50<M)(hq:∀h',Q (.bool eQ) h'){P:Fl->MS->Prop}(hP:∀v m,Q v m.heap->P (.ret v) m) :
  aA K M [.expr (.mth .insert (.var 3) [.var 4,.call 77 [.var 0,.call 6 [.var 2]]]),.expr (.mth .append (.var 3) [.tup [.cst (.str cz),.call 75 [.cst (.str [97]),.cst (.int 13)]]]),.ite (.cmp .ne (e78 (.var 3)) (.cst (.str kt))) [.ret (.cst (.bool bY))] [],.expr (.mth .popAt (.var 3) [.var 4]),.ite (.cmp .ne (e78 (.var 3)) (.cst (.str fV))) [.ret (.cst (.bool bY))] [],.expr (.mth .pop (.var 3) []),.ret (.cmp .eq (e78 (.var 3)) (.cst (.str Af)))] P X
   ⟨V9 r i3 v1 (aT (.int c)) k v5 v6 v7 v8,hp⟩:=by
 obtain ⟨M,rfl⟩:∃M',M=M'+1:=⟨M-1,sb (n1 hM (by simp +arith only))⟩
 refine e31 W.t.two λn0 m1 rr e=>?_;have hr:=W.hr;rw [e] at hr;refine aw (kz W.h3).1 (dG hK (G8 hK hr (n1 hM (by simp +arith only)) λhp1 x d p1 hd hx=>?_));have da:d.asc=eQ:=e11 (Pf hd) λj hj=>eJ (G7 (eN (W.t.gn n0 (by rw [e];exact .head _)))) hj;have W0:=W.w.up p1;have ok:=W.ok;have r13:∀{n:Nat} {hp:List MO},dZ n hp [.tup [.str cz,(chT [97] 12).mv]] [bG dpD]:=λ_ _=>.cons (xC (.str _) Ak) .nil;refine bb (bd W0.h3) ⟨⟨⟨L5 k,NO.mpr a1⟩,IT W0.z (nb rfl)⟩,?_⟩;refine (Ap (x:=x) (t:=[.tup [.str cz,(chT [97] 12).mv]]) a1).el λi1 i2 i3' i4=>?_;have z1:=iF (Lw i1) (Ln W.len);have W1:=(W0.ins hx da k (iF z1 (nb rfl)))
 refine aw (bh W1.h3) (lR hK (k:=12) rfl (nb rfl) (n1 hM (by simp +arith only)) λh2 p2=>?_);have W1:=W1.up p2;refine bb (bd W1.h3) ⟨IT z1 (nb rfl),?_⟩;have W2:=W1.put (W1.rL.app r13) (eR W1.aL rfl) (by rw [iN];exact iF (Ln z1) (nb rfl));refine JF hK (Vz:=V9 r i3 v1 (aT (.int c)) k v5 v6 v7 v8) (c:=2) W2 rfl rfl (n1 hM (by simp +arith only)) ((congrArg (λl=>vdB (aT l)) (DO ..)).trans (vh (λe he=>ok e (Mp he)) (eq_of_beq (LN.mp (G6 n0) d hd)))) λh5 p5=>?_;have W3:=W2.up p5;refine aw (kz W3.h3).2.1 (bb (bd W3.h3) ⟨⟨L5 k,M8.mpr i4⟩,aI i2 ?_⟩);have W4:=W3.put (L':=((mvs rows).take k++x::(mvs rows).drop k++[MV.tup [.str cz,(chT [97] 12).mv]]).eraseIdx k) (ds':=dds rows++[bG dpD]) (by rw [i3'];exact .app (λ_ _=>gC rows) r13) (eR W.asc rfl) (by rw [i3',iN];exact iF (Ln W.len) (nb rfl));refine JF hK (Vz:=V9 r i3 v1 (aT (.int c)) k v5 v6 v7 v8) (c:=3) W4 rfl rfl (n1 hM (by simp +arith only)) (vh (d:=bG dpD) ok rfl) λh6 p6=>?_;have W5:=W4.up p6;rw [i3'] at W5;refine aw (kz W5.h3).2.2 ⟨rfl,bb (bd W5.h3) ⟨rfl,aI (a:=.tup [.str cz,(chT [97] 12).mv]) (by rw [iN,NK,Nat.add_sub_cancel];exact ae _ _) ?_⟩⟩;have W6:=W5.put (L':=(mvs rows++[MV.tup [.str cz,(chT [97] 12).mv]]).dropLast) (ds':=dds rows) (by rw [Qd];exact λ_ _=>gC rows) W.asc (by rw [Qd];exact iF W.len (nb rfl));refine rf3 hK (Vz:=V9 r i3 v1 (aT (.int c)) k v5 v6 v7 v8) (rows:=rows) W6 rfl rfl (n1 hM (by simp +arith only)) (λ_=>⟨pX rows,iF W.l (nb rfl),W.n⟩) λh7 p7=>?_;have:=(jT ok []).1;rw [LJ] at this;rw [show vdB (aT (dds rows))=0 from congrArg Rs.n (this:ro 8 (dds rows)=.ok)];exact hP _ _ (hq _)
end
section
noncomputable def El:List D:=[bG dpD,.tup [.str gJ,.str [97],(chT [97] 19).d]]
theorem xE:(El.all λd=>d.asc&&(g9 (aT (ro 7)) d).n==4)=eQ:=by decide +kernel
variable {K:KT}(hK:ar PP K)
include hK
theorem vi {v1 v2 v5 v6 v7 v8:Option MV}{hp hp1:List MO}{r i3 M k c:Nat}{x:MV}{d:D}{e':ME}{ss:List (List Nat)}{rows:List Rw}{Q:MV->List MO->Prop}{X:XM}{P:Fl->MS->Prop}(W:Wst hp r i3 ss rows)(a1:k<=(mvs rows).length)(hM:50<M)(p1:hp<+:hp1)(hx:RdN hp.length hp1 x d)(da:d.asc=eQ)(hw:(g9 (aT (ro 7)) d).n=c+1)
  (he:∀(hp2:List MO) (R:PQ),R (.str (iQ (c+1))) ⟨V9 r i3 v1 v2 k v5 v6 v7 v8,hp2⟩->wpE K M e' R X ⟨V9 r i3 v1 v2 k v5 v6 v7 v8,hp2⟩) (hq:∀h',Q (.bool eQ) h') (hP:∀v m,Q v m.heap->P (.ret v) m) :
  dP .insert (.ref i3) [.int k,x] (λ_ m=>wpS K M (.ret (.cmp .eq (e78 (.bin .add (.var 3) (.list [.cst (.int 5)]))) e')) P X m) ⟨V9 r i3 v1 v2 k v5 v6 v7 v8,hp1⟩:=by
 have W0:=W.w.up p1;refine bb (bd W0.h3) ⟨⟨⟨L5 k,NO.mpr a1⟩,IT W0.z (nb rfl)⟩,?_⟩;have W1:=W0.ins hx da k (iF (Lw (Ap (x:=x) (t:=[]) a1).h1) (iF (Ln W.len) (nb rfl)));refine rf5 hK (Vz:=V9 r i3 v1 v2 k v5 v6 v7 v8) W1 rfl rfl (n1 hM (by simp +arith only)) ((congrArg (λl=>vdB (aT l)) (DO ..)).trans (vh (λe he=>W.ok e (Mp he)) hw)) λh' p=>he h' _ (hP _ _ ?_);rw [show (iQ (c+1)==iQ (c+1))=eQ from beq_self_eq_true _];exact hq _
theorem Hi {v1 v2 v6 v7 v8:Option MV}{hp:List MO}{r i3 M k:Nat}{more:Int}{ss:List (List Nat)}{rows:List Rw}{Q:MV->List MO->Prop}{X:XM}(W:Wst hp r i3 ss rows)(a1:k<=(mvs rows).length)(hM:50<M)(hq:∀h',Q (.bool eQ) h'){P:Fl->MS->Prop}(hP:∀v m,Q v m.heap->P (.ret v) m) :
  aA K M [.expr (.mth .insert (.var 3) [.var 4,.idx (.list [.tup [.cst (.str cz),.call 75 [.cst (.str [97]),.cst (.int 13)]],.tup [.cst (.str gJ),.cst (.str [97]),.call 75 [.cst (.str [97]),.cst (.int 20)]]]) (.bin .mod (.var 5) (.cst (.int 2)))]),.ret (.cmp .eq (e78 (.bin .add (.var 3) (.list [.cst (.int 5)]))) (.cst (.str fV)))] P X
   ⟨V9 r i3 v1 v2 k (aT (.int more)) v6 v7 v8,hp⟩:=by
 refine aw (kz W.h3).1 ?_;refine vf hK (n:=hp.length) (M:=M) (X:=X) (Vz:=V9 r i3 v1 v2 k (aT (.int more)) v6 v7 v8) (ρ:=non) (ν:=non) (ds:=El) (es:=[.tup [.cst (.str cz),.call 75 [.cst (.str [97]),.cst (.int 13)]],.tup [.cst (.str gJ),.cst (.str [97]),.call 75 [.cst (.str [97]),.cst (.int 20)]]]) (n1 hM (by simp +arith only)) ?_ (nO _) .none λvs hp1 p1 rv=>?_
 ·repeat (first | exact .nil | refine .cst _ _ rfl ?_ | refine .tup ?_ ?_ | refine .chain _ _ 12 rfl (nb rfl) ?_ | refine .chain _ _ 19 rfl (nb rfl) ?_)
 refine af (ae _ _) (Ah (rv.up (aa (o:=MO.list vs) (ai _))) rfl rfl λx d hd hx=>?_);exact e02 (ID.mp (LN.mp xE d hd)) λd1 d2=>vi (c:=3) hK W a1 hM (aa p1) hx d1 (eq_of_beq d2) (λ_ _ h=>h) hq hP
theorem Hj {v1 v2 v6 v7 v8:Option MV}{hp:List MO}{r i3 M k:Nat}{more:Int}{ss:List (List Nat)}{rows:List Rw}{Q:MV->List MO->Prop}{X:XM}(W:Wst hp r i3 ss rows)(a1:k<=(mvs rows).length)(hM:50<M)(hq:∀h',Q (.bool eQ) h'){P:Fl->MS->Prop}(hP:∀v m,Q v m.heap->P (.ret v) m) :
  aA K M [.asg [8] bY (.call 79 [.bin .fdiv (.var 5) (.cst (.int 3))]),.expr (.mth .insert (.var 3) [.var 4,.idx (.var 8) (.cst (.int 0))]),.ret (.cmp .eq (e78 (.bin .add (.var 3) (.list [.cst (.int 5)]))) (.idx (.var 8) (.cst (.int 1))))] P X
   ⟨V9 r i3 v1 v2 k (aT (.int more)) v6 v7 v8,hp⟩:=by
 refine Jz hK (n1 hM (by simp +arith only)) λhp1 x d c p1 hx da hw=>?_;exact aw (kz (ak p1 W.h3)).1 (vi hK W a1 hM p1 hx da hw (λ_ _ h=>h) hq hP)
end
section
noncomputable def neR:Nat->List Rw
 | 0=>[.skip]
 | k+1=>cond (k % 2==0) [.wh (.num 0) (neR k)] [.ite (.num 1) [] (neR k)]
theorem Aq:∀k,∃ds,(neD k).bl=aT ds/\dC (neR k) ds
 | 0=>⟨_,rfl,_,_,rfl,rfl,rfl⟩
 | k+1=>by
  refine e12 (Aq k) λds h1 h2=>?_;show ∃ds,(cond (k % 2==0) (D.list [.tup [.str aU,nmD 0,neD k]]) (.list [.tup [.str wIf,nmD 1,.list [],neD k]])).bl=aT ds/\dC (cond (k % 2==0) [.wh (.num 0) (neR k)] [.ite (.num 1) [] (neR k)]) ds
  cases k % 2==0 with
  | true=>exact ⟨_,rfl,_,_,rfl,⟨_,rfl,ds,h1,h2⟩,rfl⟩
  | false=>exact ⟨_,rfl,_,_,rfl,⟨_,_,rfl,⟨_,rfl,rfl⟩,ds,h1,h2⟩,rfl⟩
theorem Ar {a b:List Rw}{x y:List D}(h1:dC a x)(h2:dC b y):dC (a++b) (x++y):=by
 induction a generalizing x with
 | nil=>rw [show x=[] from h1];exact h2
 | cons r a ih=>refine e23 h1 λe es q h3 h4=>?_;rw [q];exact ⟨e,_,rfl,h3,ih h4⟩
noncomputable def neX (k:Nat):List D:=((neD k).bl).getD []
theorem pZ (k:Nat):neD k=.list (neX k):=by
 cases k with
 | zero=>rfl
 | succ k=>
  unfold neX neD
  cases k % 2==0<;>rfl
theorem Dc:((Nr 3).all λk=>(((neX (8+k)).length==1&&(g9 (aT (ro 7)) ((neX (8+k)).headD .none)).n==4)&&D.ascs (neX (8+k))))=eQ:=by decide +kernel
theorem Hk {l:List D}(h:(l.length==1)=eQ):l=[l.headD .none]:=e11 (PT.mp (eq_of_beq h)) λa e=>by rw [e];rfl
theorem Dd:vdB (aT (neX 7++[bG (chT [97] 11).d]))=0/\D.ascs (neX 7++[bG (chT [97] 11).d])=eQ/\ay (neR 7++[.tell (chT [97] 11)])<=7:=⟨by decide +kernel,by decide +kernel,by decide +kernel⟩
theorem As:dC (neR 7++[.tell (chT [97] 11)]) (neX 7++[bG (chT [97] 11).d]):=by
 refine e12 (Aq 7) λds h1 h2=>?_;refine Ar ?_ ⟨_,_,rfl,rfl,rfl⟩;rw [pZ] at h1
 cases h1;exact h2
theorem Au:(lns (neR 7++[.tell (chT [97] 11)])).length<=100000:=by decide +kernel
theorem p8 (h:wpE K M e (HU (wpE K M f) .eq (Ib P) X) X m):wpS K M (.ret (.cmp .eq e f)) P X m:=h
variable {K:KT}(hK:ar PP K)
include hK
theorem Hl {Vz:List (Option MV)}{hp:List MO}{M:Nat}{e:ME}{b:Option (List D)}{rows:List Rw}{P:PQ}{X:XM}(hM:41<M)
  (ev:∀hp',hp<+:hp'->∀Q:PQ,(∀w hp2,hp'<+:hp2->BD hp2 w b->Q w ⟨Vz,hp2⟩)->wpE K M e Q X ⟨Vz,hp'⟩) (hm:vdB b=0->Mk (.list []) (.list []) b [] [] rows)
  (hq:∀h',hp<+:h'->P (.str (iQ (vdB b))) ⟨Vz,h'⟩):wpE K M (.call 78 [.list [],.list [],e]) P X ⟨Vz,hp⟩:=by
 refine ev (hp++[.list []]++[.list []]) (aa (aa (ai _))) _ λw h2 p2 hb=>?_;have p2:hp++[MO.list []]++[MO.list []]<+:h2:=p2;refine ku hK (dO:=.list []) (dS:=.list []) (A:=[]) (B:=[]) (rows:=rows) (.list (ak p2 (aj (ae _ _))) .nil) rfl (.list (ak p2 (ae _ _)) .nil) rfl hb (Ly _) (Ly _) hm (n1 hM (by simp +arith only)) λh' p=>?_;exact hq h' ((aa (aa (ai _))).trans (p2.trans p))
omit hK in
theorem Av (h:wpE K M e (λx m=>wpE K M f (λy m=>kG .ne x y (λb m=>bt b (aA K M a P X m) (aA K M c P X m)) m) X m) X m):wpS K M (.ite (.cmp .ne e f) a c) P X m:=h
theorem De {v1 v2 v6 v7 v8:Option MV}{hp:List MO}{r i3 M:Nat}{more a:Int}{ss:List (List Nat)}{rows:List Rw}{Q:MV->List MO->Prop}{X:XM}(W:Wst hp r i3 ss rows)(hM:50<M)(hq:∀h',Q (.bool eQ) h'){P:Fl->MS->Prop}(hP:∀v m,Q v m.heap->P (.ret v) m) :
  wpS K M (.ret (.cmp .eq (.call 78 [.list [],.list [],.bin .add (.bin .add (.var 3) (.call 76 [.bin .add (.cst (.int 9)) (.bin .mod (.bin .fdiv (.var 5) (.cst (.int 3))) (.cst (.int 3)))])) (.list [.cst (.int 5)])]) (.cst (.str fV)))) P X
   ⟨V9 r i3 v1 v2 a (aT (.int more)) v6 v7 v8,hp⟩:=by
 have h0:0<=more / 3 % 3/\more / 3 % 3<3:=em rfl;obtain ⟨k,hk⟩:=My h0.1;have h3:k<3:=M8.mp (hk▸h0.2);refine e02 (ID.mp (LN.mp Dc k (Qq.mpr h3))) λe1 e3=>e02 (ID.mp e1) λe1 e2=>?_;have e1:=Hk e1;have w1:=vh (c:=3) (rest:=[.int 5]) W.ok (eq_of_beq e2);generalize (neX (8+k)).headD .none=d at *;rw [show dds rows++d::[.int 5]=dds rows++neX (8+k)++[.int 5] by rw [e1,DO];rfl] at w1;refine p8 (Hl hK (b:=some (dds rows++neX (8+k)++[.int 5])) (rows:=[]) (n1 hM (by simp +arith only)) (λhp' p R q=>?_) (λe=>absurd (w1.symm.trans e) (OP 3)) λh' p=>?_)
 ·refine nw hK (k:=8+k) (by rw [hk,Q5,Int.add_right_comm];rfl) (n1 h3 (by simp +arith only)) (n1 hM (by simp +arith only)) λh2 u p2 hu=>?_;have hu:=hu.rd;rw [pZ] at hu;refine e23 hu.iv λi us eu e5 r5=>?_;have l5:=bT r5;rw [e1] at l5;rw [eu];refine af (ak (p.trans p2) W.h3) (af e5 ⟨aQ (by rw [l5];exact iF (Ln W.len) (nb rfl)),?_⟩);refine af (aj (ae _ _)) (af (ae _ _) ⟨aQ (by rw [iN,l5];exact iF (Ln (Ln W.len)) (nb rfl)),?_⟩);have p3:h2<+:h2++[MO.list (mvs rows++us)]++[MO.list [.int 5]]++[MO.list (mvs rows++us++[.int 5])]:=aa (aa (aa (ai _)));exact q _ _ (LS p2 p3) (.data (D.list (dds rows++neX (8+k)++[D.int 5])) (.list (ae _ _) (jS (jS (gC rows) (tJ p3 r5)) (.cons (.int 5) .nil))) (eR (eR W.asc e3) rfl) rfl)
 ·rw [w1];exact hP _ _ (hq _)
theorem Hm {v1 v2 v6 v7 v8:Option MV}{hp:List MO}{r i3 M:Nat}{more a:Int}{Q:MV->List MO->Prop}{X:XM}(hM:50<M)(hq:∀h',Q (.bool eQ) h'){P:Fl->MS->Prop}(hP:∀v m,Q v m.heap->P (.ret v) m) :
  aA K M [.ite (.cmp .ne (.call 78 [.list [],.list [],.bin .add (.call 76 [.cst (.int 8)]) (.list [.tup [.cst (.str cz),.call 75 [.cst (.str [97]),.cst (.int 12)]]])]) (.cst (.str Af))) [.ret (.cst (.bool bY))] [],.ret (.cmp .eq (.call 78 [.list [],.list [],.idx (.list [.cst .none,.cst (.str [120]),.cst (.int 5),.dict0]) (.bin .mod (.var 5) (.cst (.int 4)))]) (.cst (.str kt)))] P X
   ⟨V9 r i3 v1 v2 a (aT (.int more)) v6 v7 v8,hp⟩:=by
 refine e03 Dd λm1 m2 m3=>?_;obtain ⟨DS,hDS⟩:∃DS,neX 7++[bG (chT [97] 11).d]=DS:=⟨_,rfl⟩
 have m4:=As;rw [hDS] at m1 m2 m4;refine Av (Hl hK (b:=some DS) (rows:=neR 7++[.tell (chT [97] 11)]) (n1 hM (by simp +arith only)) (λhp' p R q=>?_) (λ_=>⟨rfl,rfl,⟨_,rfl,m4⟩,Au,m3⟩) λh' p=>?_)
 ·refine nw hK (k:=7) rfl (nb rfl) (n1 hM (by simp +arith only)) λh2 u p2 hu=>lR hK (k:=11) rfl (nb rfl) (n1 hM (by simp +arith only)) λh3 p3=>?_;have hu:=fi p3 hu.rd;rw [pZ] at hu;refine e23 hu.iv λi us eu e5 r5=>?_;rw [eu];refine af (aj e5) (af (ae _ _) ⟨aQ (by rw [bT r5];exact nb rfl),?_⟩);have p4:h3<+:h3++[MO.list [.tup [.str cz,(chT [97] 11).mv]]]++[MO.list (us++[.tup [.str cz,(chT [97] 11).mv]])]:=aa (aa (ai _));rw [<-hDS] at q m2;exact q _ _ (LS p2 (LS p3 p4)) (.data (D.list (neX 7++[bG (chT [97] 11).d])) (.list (ae _ _) (jS (tJ p4 r5) (.cons (xC (.str _) (Tm.rd _)) .nil))) m2 rfl)
 ·rw [m1];refine p8 (Hl hK (b:=none) (rows:=[]) (n1 hM (by simp +arith only)) (λhp' p R q=>?_) (λe=>absurd e (OP 2)) λh2 p2=>hP _ _ (hq _));refine af (ae _ _) ?_;have h0:0<=more % 4/\more % 4<4:=em rfl;obtain ⟨j,hj⟩:=My h0.1;have l:j<4:=M8.mp (hj▸h0.2);rw [hj];refine aF j (bK l) ?_;refine q _ _ (aa (aa (ai _))) (al4 (P:=λv=>BD _ v iD) (.data .none .none rfl rfl) (.data (.str [120]) (.str _) rfl rfl) (.data (.int 5) (.int _) rfl rfl) (.dict _ [] rfl (aj (ae _ _)) rfl) _ (MC l))
end
section
variable {K:KT}(hK:ar PP K)
include hK
theorem Df {h:List MO}{r N:Nat}{c:Int}{ss:List (List Nat)}{rows:List Rw}{Q:MV->List MO->Prop}{X:XT}(t:Ten ss)(hr:h[r]?=aT (.list (ss.map .str)))(hg:g8 rows)(hn:ay rows<=7)(hl:(lns rows).length<=1000)(hN:60<N)(hq:∀h',Q (.bool eQ) h'):K N 80 [.ref r,.tup (mvs rows),.int c] Q X h:=by
 refine kc hK dX hN rfl rfl λM hM=>?_;have p0:h<+:h++[MO.list (mvs rows)]:=aa (ai _);have lr:r<h.length:=(By.mp hr).1;have W:Wst (h++[MO.list (mvs rows)]) r h.length ss rows:=⟨t,ak p0 hr,ae _ _,LY lr,hg,hn,hl⟩
 refine af W.h3 ?_;have l0:(0:Int)<((mvs rows).length:Nat)+1:=Int.ofNat_succ_pos _;refine aw (decide_eq_true l0) ?_;obtain ⟨k,hk⟩:=My (Os (c / 8) (PG l0));have a1:k<=(mvs rows).length:=LR (M8.mp (hk▸Np _ l0));rw [hk];refine bV (λ_=>He hK t W.hr W.h3 W.asc (n1 hM (by simp +arith only)) hq λ_ _ q=>q) λ_=>?_;refine bV (λ_=>Hg hK t W.hr (n1 hM (by simp +arith only)) hq λ_ _ q=>q) λ_=>?_;refine bV (λ_=>Hf hK t W.hr (n1 hM (by simp +arith only)) hq λ_ _ q=>q) λ_=>?_;refine bV (λ_=>Hh hK W a1 (n1 hM (by simp +arith only)) hq λ_ _ q=>q) λ_=>?_;refine bV (λ_=>Hi hK W a1 (n1 hM (by simp +arith only)) hq λ_ _ q=>q) λ_=>?_;have nx:bt (c % 8==6) (wpS K M (.ret (.cmp .eq (.call 78 [.list [],.list [],.bin .add (.bin .add (.var 3) (.call 76 [.bin .add (.cst (.int 9)) (.bin .mod (.bin .fdiv (.var 5) (.cst (.int 3))) (.cst (.int 3)))])) (.list [.cst (.int 5)])]) (.cst (.str fV)))) (wg (aA K M []) (wg (aA K M (dX.body.drop 10)) (fin Q) (xin X)) (xin X)) (xin X) ⟨V9 r h.length (aT (.tup (mvs rows))) (aT (.int c)) k (aT (.int (c / 8))) iD iD iD,h++[MO.list (mvs rows)]⟩) (aA K M (dX.body.drop 10) (fin Q) (xin X) ⟨V9 r h.length (aT (.tup (mvs rows))) (aT (.int c)) k (aT (.int (c / 8))) iD iD iD,h++[MO.list (mvs rows)]⟩):=
  bV (λ_=>De hK W (n1 hM (by simp +arith only)) hq λ_ _ q=>q) λ_=>Hm hK (n1 hM (by simp +arith only)) hq λ_ _ q=>q
 refine bV (λ_=>bV (λ_=>Hj hK W a1 (n1 hM (by simp +arith only)) hq λ_ _ q=>q) λ_=>nx) λ_=>nx
end
section
noncomputable def an:Tm->List (List Nat)
 | .num _=>[]
 | .nm s=>[s]
 | .op _ a b=>an a++an b
theorem rN {t:Tm}(ht:t.ok p):∀x∈an t,p x:=by
 induction t with
 | num k=>exact al0
 | nm s=>exact al1 ht
 | op c a b ia ib=>exact λx h=>(Lg.mp h).elim (ia ht.2.1 x) (ib ht.2.2 x)
theorem nA (t:Tm):(an t).length<=t.lv:=by
 induction t with
 | num k=>exact Ly _
 | nm s=>exact nO _
 | op c a b ia ib=>
  show (an a++an b).length<=a.lv+b.lv;rw [iN];exact Mt ia ib
theorem Dg (h:∀x,x∈l↔x∈m):cM l=cM m:=yR (iG l) (iG m) λx=>by rw [cZ,cZ,h]
theorem tU (l:List (List Nat)):(cM l).Nodup:=(iG l).imp λh q=>by subst q;exact Pc _ h
theorem vj {l t:List (List Nat)}(h:∀x∈l,x∈t):(cM l).length<=t.length:=tG _ _ (tU l) λx hx=>h x (cZ.mp hx)
theorem Tm.good.lv {t:Tm}(h:t.good):t.lv<=8:=iF t.lv_le (Qc (j:=3) (by decide) h.2)
theorem Em {c:Nat}{w:List Nat}(h:([c]==w)=eQ)(l:Qm 2 w.length=eQ):False:=by
 rw [<-eq_of_beq h] at l;exact ff l
noncomputable def AN (K:KT)(f:Nat)(t:Tm):Prop:=∀{N:Nat}{Q:MV->List MO->Prop}{X:XT}{h:List MO},t.deep<N->t.lv<=1000->(∀r h',h<+:h'->h'[r]?=aT (.list ((an t).map .str))->Q (.ref r) h')->K N f [t.mv] Q X h
variable (hK:ar PP K)
include hK
theorem En {f:Nat}{d:Fn}(e:PP f=aT d)(ed:d=⟨1,1,[.ite (.cmp .eq (.idx (.var 0) (.cst (.int 0))) (.cst (.str iP))) [.ret (.list [])] [],.ite (.cmp .eq (.idx (.var 0) (.cst (.int 0))) (.cst (.str eH))) [.ret (.list [.idx (.var 0) (.cst (.int 1))])] [],.ret (.bin .add (.call f [.idx (.var 0) (.cst (.int 1))]) (.call f [.idx (.var 0) (.cst (.int 2))]))]⟩)(t:Tm):AN K f t:=by
 rw [ed] at e
 induction t with
 | num k=>exact λhN hl hq=>kc hK _ hN e rfl λM hM=>hq _ _ (aa (ai _)) (ae _ _)
 | nm s=>exact λhN hl hq=>kc hK _ hN e rfl λM hM=>hq _ _ (aa (ai _)) (ae _ _)
 | op c a b ia ib=>
  intro N Q X h hN hl hq;have hN:max a.deep b.deep+1<N:=hN;have hl:a.lv+b.lv<=1000:=hl;refine kc hK _ hN e rfl λM hM=>?_;refine fq (PU.mpr λq=>Em q rfl) (fq (PU.mpr λq=>Em q rfl) ?_);refine ia (n2 hM (ND a.deep b.deep) (by simp +arith only)) (n1 hl (by simp +arith only)) λr1 h1 p1 e1=>ib (n2 hM (LX a.deep b.deep) (by simp +arith only)) (n1 hl (by simp +arith only)) λr2 h2 p2 e2=>?_;exact af (ak p2 e1) (af e2 ⟨dY (n3 (nA b) (nA a) hl (by simp +arith only)),hq _ _ (aa (LS p1 p2)) (gz _ _ _)⟩)
theorem KY (t:Tm):AN K 0 t:=En hK (d:=jI) rfl rfl t
theorem Eo (t:Tm):AN K 37 t:=En hK (d:=fO) rfl rfl t
theorem tV {t:Tm}{h:List MO}(hN:t.deep+1<N)(hl:t.lv<=60)
  (hq:∀r h',h<+:h'->h.length<=r->h'[r]?=aT (.list ((cM (an t)).map .str))->Q (.ref r) h'):K N 1 [t.mv] Q X h:=by
 refine kc hK kO hN rfl rfl λM hM=>KY hK t hM (iF hl (nb rfl)) λr1 h1 p1 e1=>af e1 ?_;have e1:=iF (nA t) hl;exact .mk (an t) rfl (HP (IT (vj (t:=an t) λx hx=>hx) (n1 e1 (by simp +arith only)))) (n1 e1 (by simp +arith only)) (hq _ _ (aa p1) p1.length_le (ae _ _))
end
section
mutual
noncomputable def Rw.fl:Rw->List Rw
 | .set s t=>[.set s t]
 | .tell t=>[.tell t]
 | .skip=>[.skip]
 | .ite t a b=>.ite t a b::(fls a++fls b)
 | .wh t a=>.wh t a::fls a
noncomputable def fls:List Rw->List Rw
 | []=>[]
 | r::rs=>r.fl++fls rs
end
theorem Aw (r:Rw):r.fl=r::r.subs.flatMap fls:=by
 cases r with
 | ite t a b=>show _=Rw.ite t a b::(fls a++(fls b++[]));rw [LJ];rfl
 | wh t a=>show _=Rw.wh t a::(fls a++[]);rw [LJ];rfl
 | _=>rfl
theorem p9 (a b:List Rw):fls (a++b)=fls a++fls b:=by
 induction a with
 | nil=>rfl
 | cons r a ih=>show r.fl++fls (a++b)=r.fl++fls a++fls b;rw [ih,DO]
theorem jV {rs:List Rw}(e:rs[j]?=aT r):fls (rs.take (j+1))=fls (rs.take j)++r::r.subs.flatMap fls:=by
 rw [bq e,p9,<-Aw];exact congrArg _ (LJ _)
theorem nB {bs:List (List Rw)}(e:bs[i]?=aT b):(bs.take (i+1)).flatMap fls=(bs.take i).flatMap fls++fls b:=by
 rw [bq e,M3];exact congrArg _ (LJ _)
theorem hZ {α β:Type}{f:List α->List β}(h:∀a b,f (a++b)=f a++f b)(l:List α)(j:Nat):f (l.take j)<+:f l:=⟨f (l.drop j),by rw [<-h,Mj]⟩
theorem nC (rs:List Rw)(j:Nat):(fls (rs.take j)).length<=(fls rs).length:=(hZ p9 rs j).length_le
theorem xF (bs:List (List Rw))(j:Nat):((bs.take j).flatMap fls).length<=(bs.flatMap fls).length:=(hZ (f:=λbs=>bs.flatMap fls) (λ_ _=>M3 ..) bs j).length_le
theorem vk {rs:List Rw}(e:rs[j]?=aT r)(eb:r.subs[i]?=aT b):(fls (rs.take j)).length+((r.subs.take i).flatMap fls).length+(fls b).length+1<=(fls rs).length:=by
 have h1:=nC rs (j+1);have h2:=xF r.subs (i+1);rw [nB eb,iN] at h2;rw [jV e,iN,MD] at h1;exact n2 h1 h2 (by simp +arith only)
noncomputable abbrev Qs:=List (MV × Rw × MV)
noncomputable def qv (q:MV × Rw × MV):MV:=.tup [q.1,q.2.1.mv,q.2.2]
noncomputable abbrev md (q:MV × Rw × MV):Rw:=q.2.1
noncomputable def NU (K:KT)(rs:List Rw):Prop:=∀{N:Nat}{k:Int}{ab:List MV}{Q:MV->List MO->Prop}{X:XT}{h:List MO},(fls rs).length<=1000000->ab.length+ay rs<=1000->ay rs+1<N->(∀h' (qs:Qs),h<+:h'->h'[h.length]?=aT (.list (qs.map qv))->qs.map md=fls rs->Q (.ref h.length) h')->K N 61 [.tup (mvs rs),.int k,.tup ab] Q X h
variable (hK:ar PP K)
include hK
omit hK in
noncomputable abbrev nuB:List MSt:=[.asg [7] bY (.call 61 [.var 6,.var 4,.bin .add (.var 2) (.tup [.idx (.var 5) (.cst (.int 1))])]),.expr (.mth .extend (.var 3) [.var 7]),.asg [4] bY (.bin .add (.var 4) (.blt .len [.var 7]))]
omit hK in
theorem Hn {r:Rw}(h:b∈r.subs):∃w x rest,r.mv=.tup (.str w::x::rest):=by
 cases r with
 | ite t x y=>exact ⟨_,_,_,rfl⟩
 | wh t x=>exact ⟨_,_,_,rfl⟩
 | _=>exact co h
omit hK in
theorem Dh {Q:PQ}(e:x=.tup xs)(h:cS xs k λv=>Q v m):xU x (.int k) Q m:=by rw [e];exact h
omit hK in
theorem Di {r:Rw}(ih:NU K b)(hbm:b∈r.subs){ab:List MV}{A:Qs}{hp:List MO}{z:Int}(hf:hp[f]?=aT (.list (A.map qv)))(hA:A.length+(fls b).length<=1000000)(hab:ab.length+1+ay b<=1000)(hM:ay b+1<M)
  (hq:∀hp' w7 (z:Int) (qs:Qs),Pt f (.list ((A++qs).map qv)) hp hp'->qs.map md=fls b->P .next ⟨[v0,v1,aT (.tup ab),aT (.ref f),aT (.int z),aT r.mv,aT (.tup (mvs b)),w7],hp'⟩) :
  aA K M nuB P (xin X) ⟨[v0,v1,aT (.tup ab),aT (.ref f),aT (.int z),aT r.mv,aT (.tup (mvs b)),w7],hp⟩:=by
 refine e31 (Hn hbm) λw x rest hr=>?_;refine Dh hr (aF 1 rfl ?_);refine ⟨aQ (show ab.length+1<=_ from n1 hab (by simp +arith only)),?_⟩;refine ih (h:=hp) (iF (Nl _ _) hA) (by rw [iN];exact hab) hM λh3 qs p3 e3 e4=>?_;have f3:=ak p3 hf;have lq:qs.length=(fls b).length:=by rw [<-e4,tO]
 refine aw (oK f3) (bb (bd f3) (bb (bd e3) ⟨aQ ?_,?_⟩))
 ·rw [tO,tO,lq];exact hA
 refine af (aH (o':=.list _) (Mn (lta hf)) e3) ?_;refine hq _ _ _ qs ⟨?_,λj o hj e=>aH (Ol hj) (ak p3 e),λp0 l0=>br (p0.trans p3) l0⟩ e4;rw [LK];exact get_set f3
theorem Ho {r:Rw}{h:List MO}(hN:0<N)(hq:Q (.ref h.length) (h++[.list (r.subs.map λb=>.tup (mvs b))])):K N 25 [r.mv] Q X h:=by
 refine kc hK gj hN rfl rfl λM hM=>?_
 cases r<;>exact hq
theorem Dj (rs:List Rw)(ih:∀r∈rs,∀b∈r.subs,NU K b):NU K rs:=by
 intro N k ab Q X h hz hab hN hq;refine kc hK kP hN rfl rfl λM hM=>?_;refine pM (λj (z:Int) w5 w6 w7 hp (qs:Qs)=>⟨[aT (.tup (mvs rs)),aT (.int k),aT (.tup ab),aT (.ref h.length),aT (.int z),w5,w6,w7],hp⟩) (λj z w5 w6 w7 hp qs=>A3 (h<+:hp) (hp[h.length]?=aT (.list (qs.map qv))) (qs.map md=fls (rs.take j)))
  k iD iD iD _ [] rfl ⟨aa (ai _),ae _ _,rfl⟩ (λ_ _ _ _ _ _ _ _=>trivial) (λj x z w5 w6 w7 hp qs P hx hI hn _=>?_) (λz w5 w6 w7 hp qs hI=>?_)
 ·refine hI.el λhp1 hp2 hp3=>?_;refine e12 (lN hx) λr hr ex=>?_;rw [ex];have hmem:=Lo hr;have lq:qs.length=(fls (rs.take j)).length:=by rw [<-hp3,tO]
  refine aw (bh hp2) (bb (bd hp2) ⟨?_,Ho hK (n1 hM (by simp +arith only)) ?_⟩)
  ·rw [tO,lq];exact IT (iF (nC rs j) hz) (nb rfl)
  refine aZ (bf (ae _ _)) ?_;have T:Pt h.length (.list ((qs++[(MV.int z,r,MV.tup ab)]).map qv)) hp (hp.set h.length (.list (qs.map qv++[qv (MV.int z,r,MV.tup ab)]))):=⟨by rw [LK];exact get_set hp2,λj o hj e=>aH (Ol hj) e,λp0 l0=>br p0 l0⟩
  refine pL (λi (y:Int) w6 w7 hp (qs:Qs)=>⟨[aT (.tup (mvs rs)),aT (.int k),aT (.tup ab),aT (.ref h.length),aT (.int y),aT r.mv,w6,w7],hp⟩) (λi y w6 w7 hp' qs'=>A4 (h<+:hp') (hp'[(hp.set h.length (.list (qs.map qv++[qv (MV.int z,r,MV.tup ab)]))).length]?=aT (.list (r.subs.map λb=>.tup (mvs b)))) (hp'[h.length]?=aT (.list (qs'.map qv))) (qs'.map md=fls (rs.take j)++r::(r.subs.take i).flatMap fls))
   (z+1) w6 w7 _ (qs++[(MV.int z,r,MV.tup ab)]) rfl ⟨aa (T.p hp1 (nO _)),ae _ _,aj T.a,by rw [LK,hp3];rfl⟩ (λ_ _ _ _ _ _ hI=>hI.h2) (λi x y w6 w7 hp' qs' P hx hI hn _=>?_) (λy w6 w7 hp' qs' hI=>?_)
  ·refine hI.el λq1 q2 q3 q4=>?_;refine e12 (jk hx) λb hb ex=>?_;rw [ex];have hbm:=Lo hb;have nb:=hJ b hbm;have nr:=fU (nO (ay rs)) r hmem;have lq':qs'.length=(fls (rs.take j)).length+(((r.subs.take i).flatMap fls).length+1):=by rw [<-tO,q4,iN];rfl
   refine Di (ih r hmem b hbm) hbm q3 (n3 (Lw lq') (vk hr hb) hz (by simp +arith only)) (n3 nb nr hab (by simp +arith only)) (n3 nb nr hM (by simp +arith only)) λhp3 w7 z' q' T' e4=>?_;exact hn _ _ _ hp3 (qs'++q') ⟨T'.p q1 (nO _),T'.k _ _ (LY (lta T.a)) q2,T'.a,by rw [LK,q4,e4,nB hb,DO];rfl⟩
  ·refine hI.el λq1 q2 q3 q4=>?_;rw [tO,Mr] at q4;exact hn _ _ _ _ hp' qs' ⟨q1,q3,by rw [jV hr];exact q4⟩
 ·refine hI.el λhp1 hp2 hp3=>?_;rw [fh,Mr] at hp3;exact hq _ qs hp1 hp2 hp3
theorem nD (rs:List Rw):NU K rs:=eM (P:=λrs=>NU K rs) (λrs ih=>Dj hK rs ih) rs
end
noncomputable abbrev eV (rs:List Rw):Nat:=(fls rs).length
noncomputable def Rw.nms:Rw->List (List Nat)
 | .set s t=>s::cM (an t)
 | .tell t=>cM (an t)
 | .skip=>[]
 | .ite t _ _=>cM (an t)
 | .wh t _=>cM (an t)
noncomputable def Rw.own:Rw->List (List Nat)
 | .set s t=>s::an t
 | .tell t=>an t
 | .skip=>[]
 | .ite t _ _=>an t
 | .wh t _=>an t
theorem jW (l:List (List Nat)):(cM l).length<=l.length:=vj λx hx=>hx
theorem vm {r:Rw}(h:r.good):r.own.length<=9:=by
 have key:∀{t:Tm},t.good->(an t).length<=8:=λ{t} ht=>iF (nA t) ht.lv
 cases r with
 | set s t=>exact Ln (key h.2)
 | tell t=>exact Mw (key h)
 | skip=>exact Ly _
 | ite t a b=>exact Mw (key h.1)
 | wh t a=>exact Mw (key h.1)
theorem Dk (r:Rw):r.nms.length<=r.own.length:=by
 cases r with
 | set s t=>exact Ln (jW _)
 | skip=>exact nO _
 | _=>exact jW _
theorem Dl (r:Rw)(x:List Nat):x∈r.own↔x∈r.nms:=by
 cases r with
 | set s t=>show x∈s::an t↔x∈s::cM (an t);rw [Lu,Lu,cZ]
 | skip=>exact RG
 | _=>exact cZ.symm
theorem rO {l:List Rw}{f:Rw->List (List Nat)}(h:∀r∈l,(f r).length<=9):(l.flatMap f).length<=9 * l.length:=by
 induction l with
 | nil=>exact nO _
 | cons q qs ih=>
  show (f q++qs.flatMap f).length<=_;rw [iN,MD];exact n2 (ih λx hx=>h x (.tail _ hx)) (h q (.head _)) (by simp +arith only)
theorem jX (rs:List Rw):gps p rs->∀q∈fls rs,q.gp p:=
 Rw.rec_1 (motive_1:=λr=>r.gp p->∀q∈r.fl,q.gp p) (motive_2:=λrs=>gps p rs->∀q∈fls rs,q.gp p) (λ_ _ h=>al1 h) (λ_ h=>al1 h) al1 (λ_ _ _ ia ib h=>alc h λq hq=>(Lg.mp hq).elim (ia h.2.1 q) (ib h.2.2 q)) (λ_ _ ia h=>alc h (ia h.2)) (λ_=>al0) (λ_ _ i1 i2 h q hq=>(Lg.mp hq).elim (i1 h.1 q) (i2 h.2 q)) rs
noncomputable def bns (rs:List Rw):List (List Nat):=(fls rs).flatMap Rw.own
noncomputable def dg (A B:List (List Nat))(rows:List Rw):List (List Nat):=A++B++(fls rows).flatMap Rw.nms
theorem qc (A B:List (List Nat))(rows:List Rw):cM (A++B++bns rows)=cM (dg A B rows):=Dg λx=>by
 unfold dg bns;rw [Lg (t:=(fls rows).flatMap Rw.own),Lg (t:=(fls rows).flatMap Rw.nms),QX,QX];exact or_congr RG (exists_congr λr=>and_congr RG (Dl r x))
section
noncomputable def Rw.fm:Rw->MV
 | .set _ t=>t.mv
 | .tell t=>t.mv
 | .skip=>.none
 | .ite t _ _=>t.mv
 | .wh t _=>t.mv
variable (hK:ar PP K)
include hK
theorem KZ {r:Rw}(hN:0<N)(hq:Q r.fm h):K N 26 [r.mv] Q X h:=by
 refine kc hK fw hN rfl rfl λM hM=>?_
 cases r<;>exact hq
theorem tW {r:Rw}{h:List MO}(hg:r.good)(hN:5<N)(hq:∀h',h<+:h'->h'[h.length]?=aT (.list (r.nms.map .str))->Q (.ref h.length) h'):K N 62 [r.mv] Q X h:=by
 refine kc hK kQ hN rfl rfl λM hM=>?_;have fl:∀{t:Tm} {pre:List (List Nat)} {hp:List MO},t.good->r.fm=t.mv->r.nms=pre++cM (an t)->pre.length<=1->hp[h.length]?=aT (.list (pre.map .str))->h<+:hp->
   aA K M [.expr (.mth .extend (.var 1) [.call 1 [.call 26 [.var 0]]]),.ret (.var 1)] (fin Q) (xin X) ⟨[aT r.mv,aT (.ref h.length)],hp⟩:=λ{t pre hp} ht hf hr hl he hpre=>by
  refine aw (oK he) (KZ hK (n1 hM (by simp +arith only)) ?_);rw [hf];refine tV hK (n2 ht.2 hM (by simp +arith only)) (iF ht.lv (nb rfl)) λi h2 p2 l2 e2=>?_;have he2:=ak p2 he;refine bb (bd he2) (bb (bd e2) ⟨aQ ?_,hq _ (br (hpre.trans p2) (nO _)) (by rw [hr,LK];exact get_set he2)⟩);rw [tO,tO];exact iF (Mt hl (iF (jW _) (iF (nA t) ht.lv))) (nb rfl)
 have p1:h<+:h++[.list []]:=aa (ai _);have e1:(h++[MO.list []])[h.length]?=aT (.list (([]:List (List Nat)).map .str)):=ae _ _
 cases r with
 | set s t=>exact aw (bh e1) (bb (bd e1) ⟨nb rfl,fl (pre:=[s]) hg.2 rfl rfl (nO _) (get_set e1) (br p1 (nO _))⟩)
 | tell t=>exact fl hg rfl rfl (Ly _) e1 p1
 | skip=>exact hq _ p1 e1
 | ite t a b=>exact fl hg.1 rfl rfl (Ly _) e1 p1
 | wh t a=>exact fl hg.1 rfl rfl (Ly _) e1 p1
theorem kW (hp:cR h i A B rows)(hg:g8 rows)(hs:eV rows<=400)(hl:A.length+B.length<=300)(h64:(cM (dg A B rows)).length<jm)(hn:ay rows<=7)(hN:10<N)
  (hq:∀h' r,h<+:h'->h.length<=r->h'[r]?=aT (.list ((cM (dg A B rows)).map .str))->Q (.ref r) h'):K N 64 [.inst 0 i] Q X h:=by
 refine e23 hp λa b h1 h2 h3=>?_;have lw:((fls rows).flatMap Rw.nms).length<=9 * 400:=iF (rO λr hr=>iF (Dk r) (vm (jX rows hg r hr))) (NC 9 hs);have ap:∀a b:List Rw,(a++b).flatMap Rw.nms=a.flatMap Rw.nms++b.flatMap Rw.nms:=λ_ _=>M3 ..;have lt:∀j,(((fls rows).take j).flatMap Rw.nms).length<=9 * 400:=λj=>iF (hZ ap _ j).length_le lw;refine kc hK fM hN rfl rfl λM hM=>?_;refine dE h1 (dE h1 (af h2 (af h3 ⟨dY (iF hl (nb rfl)),?_⟩)));have p1:h<+:h++[.list (A.map .str++B.map .str)]:=aa (ai _);refine dE (ak p1 h1) (nD hK rows (k:=1) (ab:=[]) (iF hs (nb rfl)) (iF (Lw (Nb _)) (n1 hn (by simp +arith only))) (n2 hM hn (by simp +arith only)) λh4 qs p4 e4 e5=>aZ (bf e4) ?_);refine pL (λj f w2 w3 w4 hp=>⟨[aT (.inst 0 i),aT (.ref f),w2,w3,w4],hp⟩) (λj f w2 w3 w4 hp=>A3 (h4<+:hp) (h.length<=f) (hp[f]?=aT (.list ((A++B++((fls rows).take j).flatMap Rw.nms).map .str))))
  h.length _ _ _ _ rfl ⟨ai _,nO _,by rw [show A++B++((fls rows).take 0).flatMap Rw.nms=A++B from LJ _];exact ak p4 (gz _ _ _)⟩ (λ_ _ _ _ _ _ hI=>ak hI.h1 e4) (λj x f w2 w3 w4 hp' P hx hI hn _=>?_) (λf w2 w3 w4 hp' hI=>?_)
 ·refine hI.el λq1 q2 q3=>?_;refine e12 (jk hx) λq hq1 ex=>?_;have hr:(fls rows)[j]?=aT (md q):=by rw [<-e5,LG,hq1];rfl
  have e:((fls rows).take (j+1)).flatMap Rw.nms=((fls rows).take j).flatMap Rw.nms++(md q).nms:=by rw [bq hr,ap];exact congrArg _ (LJ _)
  have l:=lt (j+1);rw [e,iN] at l;rw [ex];refine ⟨rfl,tW hK (jX rows hg _ (Lo hr)) (n1 hM (by simp +arith only)) λh5 p5 e5=>?_⟩;refine af (ak p5 q3) (af e5 ⟨dY (by rw [iN,iN];exact n2 l hl (by simp +arith only)),hn h5.length _ _ _ _ ⟨aa (q1.trans p5),?_,?_⟩⟩)
  ·exact ((p1.trans (LS p4 q1)).trans p5).length_le
  ·rw [e,<-DO];exact gz _ _ _
 ·refine hI.el λq1 q2 q3=>?_;rw [tO,<-tO (f:=md),e5,Mr] at q3;have p6:=p1.trans (LS p4 q1);exact af q3 (.mk (dg A B rows) rfl h64 (by unfold dg;rw [iN,iN];exact IT (Mt hl lw) (nb rfl)) (hq _ _ (aa p6) p6.length_le (ae _ _)))
end
section
theorem rP (rs:List Rw):fls rs=rs.flatMap Rw.fl:=by
 induction rs with
 | nil=>rfl
 | cons r rs ih=>exact congrArg (r.fl++·) ih
noncomputable def nR {α β:Type}(f:α->List β)(l:List α):List Int:=l.map λa=>((f a).length:Int)
theorem rQ {α β:Type}(f:α->List β)(l:List α):(nR f l).sum=(l.flatMap f).length:=by
 induction l with
 | nil=>rfl
 | cons a l ih=>
  show ((f a).length:Int)+(nR f l).sum=((f a++l.flatMap f).length:Int);rw [ih,iN,Q5]
theorem oP {α β:Type}{f:α->List β}{l:List α}{a:α}{j:Nat}{x:MV}(e:l[j]?=aT a)(h:x=.int ((f a).length:Int)):(nR f (l.take (j+1))).map MV.int=(nR f (l.take j)).map MV.int++[x]:=by
 unfold nR;rw [bq e,LK,LK,h];rfl
theorem vn {α β:Type}{f:α->List β}{l:List α}(h:(l.flatMap f).length<=1000):∀i∈nR f l,0<=i/\i<=1000000:=λi hi=>by
 refine e12 (Mi.mp hi) λa ha e=>?_;rw [<-e];refine ⟨L5 _,NO.mpr (iF ?_ (iF h (nb rfl)))⟩;obtain ⟨s,t,e⟩:=List.append_of_mem ha;rw [e,M3];show _<=(s.flatMap f++(f a++t.flatMap f)).length;rw [iN,iN];exact by simp +arith only
variable {K:KT}(hK:ar PP K)
include hK
theorem Ax {r:Rw}{h:List MO}(hN:0<N)(hq:Q (.ref h.length) (h++[.list (r.subs.map λb=>.tup (mvs b))])):K N 72 [r.mv] Q X h:=by
 refine kc hK i9 hN rfl rfl λM hM=>?_
 cases r with
 | set s t=>exact hq
 | _=>exact ⟨⟨rfl,rfl,by decide,nb rfl⟩,hq⟩
noncomputable def MNY (K:KT)(rs:List Rw):Prop:=∀{N:Nat}{Q:MV->List MO->Prop}{X:XT}{h:List MO},eV rs<=1000->ay rs+1<N->(∀h',h<+:h'->Q (.int (eV rs)) h')->K N 71 [.tup (mvs rs)] Q X h
omit hK in
theorem Hq (r:Rw):1<=r.fl.length:=by rw [Aw];exact Ln (Ly _)
omit hK in
theorem xG (rs:List Rw):rs.length<=eV rs:=by
 induction rs with
 | nil=>exact nO _
 | cons r rs ih=>
  show rs.length+1<=(r.fl++fls rs).length;rw [iN,Rr];exact Mt (Hq r) ih
omit hK in
theorem Hr {rs:List Rw}{r:Rw}{j:Nat}(e:rs[j]?=aT r):(r.subs.flatMap fls).length+1<=eV rs:=by
 have:=nC rs (j+1);rw [jV e,iN] at this;exact iF (Nl _ _) this
omit hK in
theorem Dm {rs b:List Rw}{r:Rw}{i j:Nat}(e:rs[j]?=aT r)(eb:r.subs[i]?=aT b):eV b<=eV rs:=show (fls b).length<=(fls rs).length from n1 (vk e eb) (by simp +arith only)
theorem Ay (rs:List Rw)(ih:∀r∈rs,∀b∈r.subs,MNY K b):MNY K rs:=by
 intro N Q X h hz hN hq;refine kc hK kR hN rfl rfl λM hM=>?_;refine u4 (λw:Option MV × Option MV × List MO=>⟨[aT (.tup (mvs rs)),w.1,w.2.1],w.2.2⟩) (λj acc w=>h<+:w.2.2/\acc=(nR Rw.fl (rs.take j)).map MV.int) (iD,iD,h) rfl ⟨ai _,rfl⟩ (λ_ _ _ _=>trivial) (λj x acc w P hx hI hn _=>?_) (λacc w hI=>?_)
 ·have eI:=hI.2;have pI:=hI.1;refine e12 (lN hx) λr hr ex=>?_;rw [ex];have hmem:=Lo hr;have lr:=Hr hr;refine Ax hK (n1 hM (by simp +arith only)) (aZ (bf (ae _ _)) ?_);refine u4 (λv:Option MV × List MO=>⟨[aT (.tup (mvs rs)),aT r.mv,v.1],v.2⟩) (λi acc v=>w.2.2++[MO.list (r.subs.map λb=>.tup (mvs b))]<+:v.2/\acc=(nR fls (r.subs.take i)).map MV.int) (w.2.1,_) rfl ⟨ai _,rfl⟩ (λ_ _ _ hI=>ak hI.1 (ae _ _)) (λi x acc v P hx hI hn _=>?_) (λacc v hI=>?_)
  ·refine e12 (jk hx) λb hb ex=>?_;rw [ex];have hbm:=Lo hb;refine ih r hmem b hbm (iF (Dm hr hb) hz) (n3 (hJ b hbm) (fU (nO _) r hmem) hM (by simp +arith only)) λh' p'=>?_;exact hn _ (aT (.tup (mvs b)),h') ⟨LS hI.1 p',by rw [hI.2,oP hb rfl]⟩
  ·refine e02 hI λp2 e2=>?_;rw [tO,Mr] at e2;rw [e2];refine af (ae _ _) (.mk _ rfl (vn (iF (NZ lr) hz)) ?_ ?_)
   ·unfold nR;rw [tO];have:r.subs.length<=2:=by cases r<;>exact nb rfl
    exact iF this (nb rfl)
   ·rw [rQ];refine hn _ (aT r.mv,w.2.1,_) ⟨aa ((pI.trans (aa (ai _))).trans p2),?_⟩;rw [eI,oP hr];rw [Aw,MD,Q5,Ru];rfl
 ·refine e02 hI λp e=>?_;rw [fh,Mr] at e;rw [e];refine af (ae _ _) (.mk _ rfl (vn ?_) ?_ ?_)
  ·rw [<-rP];exact hz
  ·unfold nR;rw [tO];exact iF (xG rs) (iF hz (nb rfl))
  ·rw [rQ,<-rP];exact hq _ (aa p)
theorem Dn (rs:List Rw):MNY K rs:=eM (P:=λrs=>MNY K rs) (λrs ih=>Ay hK rs ih) rs
end
section
noncomputable def jl (bs:List (List Rw)):List (List Nat):=(bs.flatMap fls).flatMap Rw.own
theorem rR {rs:List Rw}(e:rs[j]?=aT r):bns (rs.take (j+1))=bns (rs.take j)++r.own++jl r.subs:=by
 unfold bns;rw [jV e,M3,DO];rfl
theorem oQ {bs:List (List Rw)}(e:bs[i]?=aT b):jl (bs.take (i+1))=jl (bs.take i)++bns b:=by
 unfold jl;rw [nB e,M3];rfl
theorem Dp (a b:List Rw):bns (a++b)=bns a++bns b:=by unfold bns;rw [p9,M3]
theorem Az (a b:List (List Rw)):jl (a++b)=jl a++jl b:=by unfold jl;rw [M3,M3]
theorem Dq {rs:List Rw}(e:rs[j]?=aT r):(bns (rs.take j)).length+r.own.length+(jl r.subs).length<=(bns rs).length:=by
 have:=(hZ Dp rs (j+1)).length_le;rw [rR e,iN,iN] at this;exact this
theorem Dr {bs:List (List Rw)}(e:bs[i]?=aT b):(jl (bs.take i)).length+(bns b).length<=(jl bs).length:=by
 have:=(hZ Az bs (i+1)).length_le;rw [oQ e,iN] at this;exact this
variable {K:KT}(hK:ar PP K)
include hK
noncomputable def BNM (K:KT)(rs:List Rw):Prop:=∀{N:Nat}{Q:MV->List MO->Prop}{X:XT}{h:List MO},g8 rs->(bns rs).length<=10000->ay rs+5<N->(∀h' r,h<+:h'->h'[r]?=aT (.list ((bns rs).map .str))->Q (.ref r) h')->K N 73 [.tup (mvs rs)] Q X h
theorem Ds {r:Rw}{pre:List (List Nat)}{h:List MO}{f M:Nat}{v0 w3:Option MV}{X:XT}{P:Fl->MS->Prop}(ih:∀b∈r.subs,BNM K b)(hg:r.good)(hz:pre.length+(jl r.subs).length<=10000)(hM:r.nest+4<M)(hf:h[f]?=aT (.list (pre.map .str)))
  (hq:∀f w3 h',h<+:h'->h'[f]?=aT (.list ((pre++jl r.subs).map .str))->P .next ⟨[v0,aT (.ref f),aT r.mv,w3],h'⟩) :
  wpS K M (.for_ [3] bY .val [.call 72 [.var 2]] [.asg [1] bY (.bin .add (.var 1) (.call 73 [.var 3]))]) P (xin X) ⟨[v0,aT (.ref f),aT r.mv,w3],h⟩:=by
 refine Ax hK (n1 hM (by simp +arith only)) (aZ (bf (ae _ _)) ?_);refine gu (λi f w3 hp=>⟨[v0,aT (.ref f),aT r.mv,w3],hp⟩) (λi f w3 hp=>h++[MO.list (r.subs.map λb=>.tup (mvs b))]<+:hp/\hp[f]?=aT (.list ((pre++jl (r.subs.take i)).map .str)))
  f w3 _ rfl ⟨ai _,by rw [show pre++jl (r.subs.take 0)=pre from LJ _];exact aj hf⟩ (λ_ _ _ _ hI=>ak hI.1 (ae _ _)) (λi x f w3 hp P hx hI hn _=>?_) (λf w3 hp hI=>?_)
 ·refine e12 (jk hx) λb hb ex=>?_;rw [ex];have hbm:=Lo hb;have l:=Dr hb;refine ih b hbm (rF hg b hbm) (n2 l hz (by simp +arith only)) (n2 (hJ b hbm) hM (by simp +arith only)) λh3 q p3 e3=>?_;refine af (ak p3 hI.2) (af e3 ⟨dY (by rw [iN];exact n2 l hz (by simp +arith only)),hn _ _ _ ⟨aa (hI.1.trans p3),?_⟩⟩);rw [oQ hb,<-DO];exact gz _ _ _
 ·refine e02 hI λp2 hf2=>?_;rw [tO,Mr] at hf2;exact hq _ _ _ ((aa (ai _)).trans p2) hf2
theorem Dt (rs:List Rw)(ih:∀r∈rs,∀b∈r.subs,BNM K b):BNM K rs:=by
 intro N Q X h hg hz hN hq;refine kc hK eD hN rfl rfl λM hM=>?_;refine CM (λj f w2 w3 hp=>⟨[aT (.tup (mvs rs)),aT (.ref f),w2,w3],hp⟩) (λj f w2 w3 hp=>h<+:hp/\hp[f]?=aT (.list ((bns (rs.take j)).map .str)))
  h.length iD iD _ rfl ⟨aa (ai _),ae _ _⟩ (λ_ _ _ _ _ _=>trivial) (λj x f w2 w3 hp P hx hI hn _=>?_) (λf w2 w3 hp hI=>?_)
 ·refine e02 hI λp hf=>?_;refine e12 (lN hx) λr hr ex=>?_;rw [ex];have hmem:=Lo hr;have gr:=oJ hg r hmem;have l:=Dq hr;have tail:∀{f':Nat} {hp':List MO} {P':Fl->MS->Prop},h<+:hp'->hp'[f']?=aT (.list ((bns (rs.take j)++r.own).map .str))->(∀m,P .next m->P' .next m)->wpS K M (.for_ [3] bY .val [.call 72 [.var 2]] [.asg [1] bY (.bin .add (.var 1) (.call 73 [.var 3]))]) P' (xin X) ⟨[aT (.tup (mvs rs)),aT (.ref f'),aT r.mv,w3],hp'⟩:=λp' hf' hP=>
   Ds hK (ih r hmem) gr (by rw [iN];exact iF l hz) (n2 (fU (nO _) r hmem) hM (by simp +arith only)) hf' λf w3 h' p2 hf2=>hP _ (hn _ _ _ _ ⟨p'.trans p2,by rw [rR hr];exact hf2⟩)
  have more:∀{t:Tm} {f':Nat} {hp':List MO} {pre:List (List Nat)},t.good->h<+:hp'->hp'[f']?=aT (.list (pre.map .str))->pre++an t=bns (rs.take j)++r.own->K M 37 [t.mv] (λv h2=>onR v λq=>gK h2[f']? λa=>gK h2[q]? λb=>a.length+b.length<=line/\wpS K M (.for_ [3] bY .val [.call 72 [.var 2]] [.asg [1] bY (.bin .add (.var 1) (.call 73 [.var 3]))]) (wg (aA K M []) P (xin X)) (xin X) ⟨[aT (.tup (mvs rs)),aT (.ref h2.length),aT r.mv,w3],h2++[.list (a++b)]⟩) X hp':=λ{t f' hp' pre} ht p' hf' e=>by
   refine Eo hK t (n2 ht.2 hM (by simp +arith only)) (iF ht.lv (nb rfl)) λq h2 p2 e2=>?_;refine af (ak p2 hf') (af e2 ⟨dY ?_,tail (aa (p'.trans p2)) (by rw [<-e];exact gz _ _ _) λ_ q=>q⟩);rw [<-iN,e,iN];exact n2 l hz (by simp +arith only)
  cases r with
  | set s t=>
   refine af (aj hf) (af (ae _ _) ⟨?_,?_⟩)
   ·rw [tO];exact aQ (show (bns (rs.take j)).length+1<=_ from n2 l hz (by simp +arith only))
   ·exact more (pre:=bns (rs.take j)++[s]) gr.2 (aa (aa p)) (by rw [LK];exact ae _ _) (by rw [DO];rfl)
  | tell t=>exact more gr p hf rfl
  | skip=>exact tail p (by rw [show bns (rs.take j)++Rw.own .skip=_ from LJ _];exact hf) λ_ q=>q
  | ite t a b=>exact more gr.1 p hf rfl
  | wh t a=>exact more gr.1 p hf rfl
 ·refine e02 hI λp hf=>?_;rw [fh,Mr] at hf;exact hq _ _ p hf
theorem AA (rs:List Rw):BNM K rs:=eM (P:=λrs=>BNM K rs) (λrs ih=>Dt hK rs ih) rs
end
section
theorem nE (e:hp[i]?=aT (.attrs es))(hx:(cK es x).isNone=eQ):Bj c x (.inst c i) hp=eQ:=by
 show (match hp[i]? with
  | some (.attrs es)=>c==c&&(cK es x).isNone
  | _=>bY)=eQ
 rw [e];show (c==c&&(cK es x).isNone)=eQ;rw [hx,beq_self_eq_true];rfl
theorem AB (d:D):d.deq d=eQ:=D.rec (motive_1:=λd=>d.deq d=eQ) (motive_2:=λds=>D.deqs ds ds=eQ) rfl (λb=>beq_self_eq_true b) (λi=>beq_self_eq_true i) (λs=>beq_self_eq_true s) (λ_ h=>h) (λ_ h=>h) rfl (λ_ _ h1 h2=>ID.mpr ⟨h1,h2⟩) d
theorem lU (d:D)(h1:Rd hp x d)(h2:Rd hp y d)(h3:d.deep<=1000)(h4:d.asc=eQ)(h:Q eQ):EqP hp x y Q:=.mk d d h1 h2 h3 (pV _ h4) (pV _ h4) (by rw [AB];exact h)
theorem Du (t:Tm):t.d.deep<=t.deep+1:=by
 induction t with
 | op c a b ia ib=>exact Ln (m0x (mx (iF ia (Ln (ND ..))) (mx0 (iF ib (Ln (LX ..))))))
 | _=>exact nO _
theorem d2 (h:x<=2 * a+c)(l:a<=m):x<=2 * m+c:=iF h (MG (NC 2 l) c)
theorem AC (rs:List Rw):g8 rs->D.deeps (dds rs)<=2 * ay rs+6:=by
 have t4:∀{t:Tm} {k:Nat},t.good->t.d.deep<=k+4:=λ{t k} h=>iF (Du t) (iF (Ln h.2) (Nl 4 k));exact Rw.rec_1 (motive_1:=λr=>r.good->r.dd.deep<=2 * r.nest+6) (motive_2:=λrs=>g8 rs->D.deeps (dds rs)<=2 * ay rs+6)
  (λ_ _ h=>Ln (m0x (m0x (mx0 (t4 (k:=1) h.2))))) (λ_ h=>Ln (m0x (mx0 (t4 (k:=1) h)))) (λ_=>nb rfl)
  (λ_ a b ia ib h=>Ln (m0x (mx (t4 (k:=2 * max (ay a) (ay b)+3) h.1) (mx (Ln (d2 (m:=max (ay a) (ay b)) (ia h.2.1) (ND ..))) (mx0 (Ln (d2 (m:=max (ay a) (ay b)) (ib h.2.2) (LX ..))))))))
  (λ_ a ia h=>Ln (m0x (mx (t4 (k:=2 * ay a+3) h.1) (mx0 (Ln (ia h.2))))))
  (λ_=>Ly _) (λ_ _ i1 i2 h=>mx (d2 (i1 h.1) (ND ..)) (d2 (i2 h.2) (LX ..))) rs
noncomputable abbrev vo:List Nat:=[111,112,101,110]
noncomputable abbrev lV:List Nat:=[115,101,99,114,101,116]
noncomputable abbrev AD:List Nat:=[102,114,101,101]
noncomputable def knd (A B:List (List Nat))(x:List Nat):List Nat:=cond (A.contains x) vo (cond (B.contains x) lV AD)
variable {K:KT}(hK:ar PP K)
include hK
theorem AE (hp:cR h i A B rows)(hN:0<N)(hq:Q (.tup [.ref h.length,.ref (h.length+1)]) (h++[.list (A.map .str)]++[.list (B.map .str)])):K N 66 [.inst 0 i] Q X h:=by
 refine e23 hp λa b h1 h2 h3=>?_;refine kc hK gH hN rfl rfl λM hM=>?_;refine dE h1 (af h2 (dE (aj h1) (af (aj h3) ?_)));rw [<-show (h++[MO.list (A.map .str)]).length=h.length+1 from iN] at hq;exact hq
theorem tX (hp:cR h i A B rows)(hN:0<N)(hq:Q (.tup (mvs rows)) h):K N 67 [.inst 0 i] Q X h:=e23 hp λa b h1 h2 h3=>kc hK fN hN rfl rfl λM hM=>dE h1 hq
theorem Dv (hp:cR h i A B rows)(hs:eV rows<=400)(hn:ay rows<=7)(hN:10<N)(hq:∀h',h<+:h'->Q (.int (eV rows)) h'):K N 68 [.inst 0 i] Q X h:=by
 refine e23 hp λa b h1 h2 h3=>?_;refine kc hK gI hN rfl rfl λM hM=>?_;refine dE h1 (nD hK rows (k:=1) (ab:=[]) (iF hs (nb rfl)) (iF (Lw (Nb _)) (n1 hn (by simp +arith only))) (n2 hM hn (by simp +arith only)) λh4 qs p4 e4 e5=>af e4 ?_);rw [tO,<-tO (f:=md),e5];exact hq _ p4
theorem Ht {x:List Nat}(hp:cR h i A B rows)(ox:okS x)(oA:∀s∈A,okS s)(oB:∀s∈B,okS s)(hN:0<N)(hq:Q (.str (knd A B x)) h):K N 65 [.inst 0 i,.str x] Q X h:=by
 refine e23 hp λa b h1 h2 h3=>?_;refine kc hK gG hN rfl rfl λM hM=>?_;unfold knd at hq;refine dE h1 (af h2 (cH ox oA (bV (λe=>by rw [e] at hq;exact hq) λe=>?_)));rw [e] at hq;exact dE h1 (af h3 (cH ox oB (bV (λe=>by rw [e] at hq;exact hq) λe=>by rw [e] at hq;exact hq)))
theorem AG {k:Int}(hN:0<N)(hq:Q (.bool eQ) h):K N 19 [.int k] Q X h:=kc hK jK hN rfl rfl λM hM=>hq
end
structure AF (ss A B:List (List Nat))(rows:List Rw):Prop where
 gA:∀s∈A++B,Gn s
 nd:(A++B).Nodup
 g:g8 rows
 n:ay rows<=7
 sz:eV rows<=400
 bl:(bns rows).length<=3600
 bg:∀s∈bns rows,Gn s
 lA:A.length+B.length<=300
 sg:∀s∈ss,Gn s
 sf:∀s∈ss.drop 4,s∉A++B
 sl:ss.length=10
noncomputable abbrev AH (A B:List (List Nat)) (rows:List Rw):List MV:=(cM (dg A B rows)).map .str
noncomputable abbrev Hu (ss A B:List (List Nat)):List MV:=((A++B++ss.drop 4).map (knd A B)).map .str
theorem AF.few (F:AF ss A B rows):(cM (dg A B rows)).length<4000/\(A++B++bns rows).length<4000:=by
 have h3:(A++B++bns rows).length<4000:=by rw [iN,iN];exact IT (Mt F.lA F.bl) (nb rfl)
 rw [<-qc];exact ⟨IT (jW _) h3,h3⟩
structure Hs (o:Nat->Nat)(tr:Nat)(hp:List MO)(n q:Nat)(L:List MV):Prop where
 l:tr<q
 o:o q=n
 e:hp[q]?=aT (.list L)
noncomputable def Ans (ss A B:List (List Nat))(rows:List Rw)(o:Nat->Nat)(tr:Nat)(hp:List MO)(j:Nat)(v:MV):Prop:=match j with
 | 0=>∃q,v=.ref q/\Hs o tr hp 0 q (AH A B rows)
 | 1=>∃q,v=.tup [.ref q,.ref (q+1)]/\Hs o tr hp 1 q (A.map .str)/\Hs o tr hp 1 (q+1) (B.map .str)
 | 2=>v=.tup (mvs rows)
 | 3=>v=.int (eV rows)
 | _=>∃q,v=.ref q/\Hs o tr hp 4 q (Hu ss A B)
theorem lt5 {P:Nat->Prop}(h0:P 0)(h1:P 1)(h2:P 2)(h3:P 3)(h4:P 4):∀j,j<5->P j:=λj hj=>by
 have:=Qq.mpr hj;exact alc (l:=[1,2,3,4]) h0 (al4 h1 h2 h3 h4) j this
theorem Ans.mv (k:∀n q L,Hs o tr hp n q L->Hs o' tr hp' n q L):∀j,j<5->∀v,Ans ss A B rows o tr hp j v->Ans ss A B rows o' tr hp' j v:=
 lt5 (λv h=>e12 h λq e a=>⟨q,e,k _ _ _ a⟩) (λv h=>e13 h λq e a b=>⟨q,e,k _ _ _ a,k _ _ _ b⟩) (λv h=>h) (λv h=>h) (λv h=>e12 h λq e a=>⟨q,e,k _ _ _ a⟩)
structure Tld (ss A B:List (List Nat))(rows:List Rw)(tr:Nat)(o:Nat->Nat)(hp:List MO)(T:List MV)(Z:Nat->Prop):Prop where
 t:hp[tr]?=aT (.list T)
 n:T.length=5
 a:∀i,i<5->Z i->∃v,T[i]?=aT v/\Ans ss A B rows o tr hp i v
theorem Tld.put (T:Tld ss A B rows tr o hp Ts Z)(p:hp<+:hp')(hj:j<5)(new:∀o',(∀x,hp.length<=x->o' x=j)->Ans ss A B rows o' tr hp' j v):∃o',Tld ss A B rows tr o' (hp'.set tr (.list (Ts.set j v))) (Ts.set j v) λi=>i=j\/Z i:=by
 have st:∀{o':Nat->Nat} {n q:Nat} {L:List MV},Hs o' tr hp' n q L->Hs o' tr (hp'.set tr (.list (Ts.set j v))) n q L:=λh=>⟨h.l,h.o,aH (Mn h.l) h.e⟩
 refine ⟨λx=>if x<hp.length then o x else j,get_set (ak p T.t),by rw [Pu];exact T.n,λi hi h=>?_⟩;by_cases e:i=j
 ·rw [e];exact ⟨v,OS (by rw [T.n];exact hj),Ans.mv (λ_ _ _ h=>st h) j hj v (new _ λx l=>if_neg (Oz.mpr l))⟩
 ·refine e12 (T.a i hi (h.resolve_left e)) λw e1 a=>⟨w,by rw [Ov (Ol e)];exact e1,Ans.mv (λ_ _ _ h=>st ⟨h.l,?_,ak p h.e⟩) i hi w a⟩
  rw [if_pos (lta h.e)];exact h.o
section
structure Pl5 (h0:List MO)(ip r rp ra rb:Nat)(ss A B:List (List Nat))(rows:List Rw):Prop where
 pr:cR h0 ip A B rows
 hr:h0[r]?=aT (.list (ss.map .str))
 hp:h0[rp]?=aT (.list [.ref ra,.ref rb])
 ha:h0[ra]?=aT (.list (A.map .str))
 hb:h0[rb]?=aT (.list (B.map .str))
theorem Pl5.up (P:Pl5 h0 ip r rp ra rb ss A B rows)(e:h0<+:h1):Pl5 h1 ip r rp ra rb ss A B rows:=⟨P.pr.up e,ak e P.hr,ak e P.hp,ak e P.ha,ak e P.hb⟩
noncomputable abbrev JG:MSt:=.ite (.cmp .eq (.var 8) (.cst (.int 0))) [.setIdx (.var 6) (.cst (.int 0)) (.umth 0 64 [110,97,109,101,115] (.var 0) [])] [.ite (.cmp .eq (.var 8) (.cst (.int 1))) [.setIdx (.var 6) (.cst (.int 1)) (.umth 0 66 [116,111,108,100] (.var 0) [])] [.ite (.cmp .eq (.var 8) (.cst (.int 2))) [.setIdx (.var 6) (.cst (.int 2)) (.umth 0 67 [98,108,111,99,107] (.var 0) [])] [.ite (.cmp .eq (.var 8) (.cst (.int 3))) [.setIdx (.var 6) (.cst (.int 3)) (.umth 0 68 [109,97,110,121] (.var 0) [])] [.setIdx (.var 6) (.cst (.int 4)) (.comp (.umth 0 65 [107,105,110,100] (.var 0) [.var 12]) [12] bY .val [.bin .add (.bin .add (.idx (.var 2) (.cst (.int 0))) (.idx (.var 2) (.cst (.int 1)))) (.sl (.var 1) (aT (.cst (.int 4))) iD)] [])]]]]
noncomputable abbrev VA (ip r rp:Nat) (rows:List Rw) (way:Int) (du tr:Nat) (v7 v8 v9 v10 v11 v12:Option MV):List (Option MV):=[aT (.inst 0 ip),aT (.ref r),aT (.ref rp),aT (.tup (mvs rows)),aT (.int way),aT (.ref du),aT (.ref tr),v7,v8,v9,v10,v11,v12]
variable {K:KT}(hK:ar PP K)
include hK
theorem xH {h0 hp:List MO}{ip r rp ra rb M du tr:Nat}{ss A B:List (List Nat)}{rows:List Rw}{way:Int}{v7 v8 v9 v10 v11 v12:Option MV}{P:PQ}{X:XM}(F:AF ss A B rows)(L:Pl5 h0 ip r rp ra rb ss A B rows)(p:h0<+:hp)(hM:20<M)
  (hq:∀q h',hp<+:h'->hp.length<=q->h'[q]?=aT (.list (Hu ss A B))->P (.ref q) ⟨VA ip r rp rows way du tr v7 v8 v9 v10 v11 v12,h'⟩) :
  wpE K M (.comp (.umth 0 65 [107,105,110,100] (.var 0) [.var 12]) [12] bY .val [.bin .add (.bin .add (.idx (.var 2) (.cst (.int 0))) (.idx (.var 2) (.cst (.int 1)))) (.sl (.var 1) (aT (.cst (.int 4))) iD)] []) P X ⟨VA ip r rp rows way du tr v7 v8 v9 v10 v11 v12,hp⟩:=by
 have L:=L.up p;refine af L.hp (aB (j:=0) rfl rfl (af L.hp (aB (j:=1) rfl rfl ?_)));refine af L.ha (af L.hb ⟨dY (iF F.lA (nb rfl)),?_⟩);refine kU (aj L.hr) (ys:=(ss.drop 4).map .str) ?_ ?_
 ·rw [cg (by decide),OD];rfl
 have l6:(ss.drop 4).length=6:=by rw [Mv,F.sl]
 refine af (aj (ae _ _)) (af (ae _ _) ⟨aQ ?_,?_⟩)
 ·rw [iN,tO,tO,tO,l6];exact iF (MG F.lA 6) (nb rfl)
 have p3:∀a b c,hp<+:hp++[a]++[b]++[c]:=λ_ _ _=>aa (aa (aa (ai _)));refine aZ (bf (ae _ _)) ?_;refine lO (λz=>⟨VA ip r rp rows way du tr v7 v8 v9 v10 v11 z,hp++[_]++[_]++[_]⟩) (λj=>(((A++B++ss.drop 4).take j).map (knd A B)).map .str) v12 rfl rfl (λ_=>ae _ _) (λj x z P hx h1 h2=>?_) (λz=>?_)
 ·rw [<-LK,<-LK] at hx;refine e12 (jk hx) λs hs ex=>?_;rw [ex];have os:okS s:=(Lg.mp (Lo hs)).elim (λq=>(F.gA s q).1.ok) λq=>(F.sg s (MX q)).1.ok;refine e23 L.pr λ_ _ b1 _ _=>aw (nE (ak (p3 _ _ _) b1) rfl) ?_;refine Ht hK (L.pr.up (p3 _ _ _)) os (λs hs=>(F.gA s (LC _ hs)).1.ok) (λs hs=>(F.gA s (Lx _ hs)).1.ok) (n1 hM (by simp +arith only)) (h1 _ _ ?_);rw [bq hs,LK,LK];rfl
 ·rw [<-LK,<-LK,tO,Mr];exact hq _ _ (aa (p3 _ _ _)) (p3 _ _ _).length_le (ae _ _)
theorem AI {h0 hp:List MO}{ip r rp ra rb M du tr:Nat}{ss A B:List (List Nat)}{rows:List Rw}{way:Int}{v7 v9 v10 v11 v12:Option MV}{o:Nat->Nat}{Ts:List MV}{Z:Nat->Prop}{P:Fl->MS->Prop}{X:XM}(F:AF ss A B rows)(L:Pl5 h0 ip r rp ra rb ss A B rows)(p:h0<+:hp)(lt:h0.length<=tr)(T:Tld ss A B rows tr o hp Ts Z)(hM:20<M):∀j:Nat,j<5->
  (∀h' o' T',h0<+:h'->Tld ss A B rows tr o' h' T' (λi=>i=j\/Z i)->P .next ⟨VA ip r rp rows way du tr v7 (aT (.int j)) v9 v10 v11 v12,h'⟩)->
  wpS K M JG P X ⟨VA ip r rp rows way du tr v7 (aT (.int j)) v9 v10 v11 v12,hp⟩:=by
 have L1:=L.up p;refine e23 L1.pr λa b b1 _ _=>?_;have lt':=lta T.t;have put:∀{h':List MO} {j:Nat} {v:MV} {Q:MS->Prop} {Vz:List (Option MV)},hp<+:h'->j<5->(∀o',(∀x,hp.length<=x->o' x=j)->Ans ss A B rows o' tr h' j v)->(∀h' o' T',h0<+:h'->Tld ss A B rows tr o' h' T' (λi=>i=j\/Z i)->Q ⟨Vz,h'⟩)->lZ (.ref tr) (.int j) v Q ⟨Vz,h'⟩:=λ{h' j v Q Vz} p' hj new hq=>by
  refine af (ak p' T.t) (aI (tF rfl (by rw [T.n];exact hj)) ⟨⟨rfl,L5 j⟩,?_⟩);exact e11 (T.put p' hj new) λo' T'=>hq _ o' _ (br (p.trans p') lt) T'
 have hs:∀{o':Nat->Nat} {h':List MO} {n q:Nat} {L:List MV},(∀x,hp.length<=x->o' x=n)->hp.length<=q->h'[q]?=aT (.list L)->Hs o' tr h' n q L:=λho l e=>⟨Lp lt' l,ho _ l,e⟩
 refine lt5 (λhq=>?_) (λhq=>?_) (λhq=>?_) (λhq=>?_) λhq=>?_
 ·exact aw (nE b1 rfl) (kW hK L1.pr F.g F.sz F.lA F.few.1 F.n (n1 hM (by simp +arith only)) λh' q p' l' e'=>put p' (nb rfl) (λo' ho=>⟨q,rfl,hs ho l' e'⟩) hq)
 ·refine aw (nE b1 rfl) (AE hK L1.pr (n1 hM (by simp +arith only)) (put (aa (aa (ai _))) (nb rfl) (λo' ho=>⟨_,rfl,hs ho (nO _) (aj (ae _ _)),hs ho (N8 _) ?_⟩) hq));rw [<-show (hp++[MO.list (A.map .str)]).length=hp.length+1 from iN];exact ae _ _
 ·exact aw (nE b1 rfl) (tX hK L1.pr (n1 hM (by simp +arith only)) (put (ai _) (nb rfl) (λo' ho=>rfl) hq))
 ·exact aw (nE b1 rfl) (Dv hK L1.pr F.sz F.n (n1 hM (by simp +arith only)) λh' p'=>put p' (nb rfl) (λo' ho=>rfl) hq)
 ·exact xH hK F L p hM λq h' p' l' e'=>put p' (nb rfl) (λo' ho=>⟨q,rfl,hs ho l' e'⟩) hq
end
section
noncomputable def whi (way:Int)(k:Nat):Int:=(way+(k:Int) * (1+way / 5 % 4)) % 5
theorem Dx (way:Int)(i:Nat)(hi:i<5):∃k,k<5/\whi way k=i:=by
 have h0:0<=way % 5/\way % 5<5:=em rfl;have h1:0<=way / 5 % 4/\way / 5 % 4<4:=em rfl;obtain ⟨a,ha⟩:=My h0.1;obtain ⟨b,hb⟩:=My h1.1;have key:∀a:Nat,a<5->∀b:Nat,b<4->∀i:Nat,i<5->∃k:Nat,k<5/\((a:Int)+(k:Int) * (1+(b:Int))) % 5=(i:Int):=by decide
 refine e12 (key a (M8.mp (ha▸h0.2)) b (M8.mp (hb▸h1.2)) i hi) λk hk e=>⟨k,hk,?_⟩
 unfold whi;rw [<-Int.emod_add_emod,ha,hb];exact e
variable {K:KT}(hK:ar PP K)
include hK
theorem AJ {h0 hp:List MO}{ip r rp ra rb M du tr:Nat}{ss A B:List (List Nat)}{rows:List Rw}{way:Int}{v9 v10 v11 v12:Option MV}{P:Fl->MS->Prop}{X:XM}(F:AF ss A B rows)(L:Pl5 h0 ip r rp ra rb ss A B rows)(p:h0<+:hp)(lt:h0.length<=tr)(ht:hp[tr]?=aT (.list [.none,.none,.none,.none,.none]))(hM:20<M)
  (hq:∀h' v7 v8 o T,h0<+:h'->Tld ss A B rows tr o h' T (λ_=>True)->P .next ⟨VA ip r rp rows way du tr v7 v8 v9 v10 v11 v12,h'⟩) :
  wpS K M (.for_ [7] bY .range1 [.cst (.int 5)] [.asg [8] bY (.bin .mod (.bin .add (.var 4) (.bin .mul (.var 7) (.bin .add (.cst (.int 1)) (.bin .mod (.bin .fdiv (.var 4) (.cst (.int 5))) (.cst (.int 4)))))) (.cst (.int 5))),JG]) P X ⟨VA ip r rp rows way du tr iD iD v9 v10 v11 v12,hp⟩:=by
 refine pL (λj w7 w8 h T (o:Nat->Nat)=>⟨VA ip r rp rows way du tr w7 w8 v9 v10 v11 v12,h⟩) (λj w7 w8 h T o=>h0<+:h/\Tld ss A B rows tr o h T λi=>∃k,k<j/\whi way k=i) iD iD hp _ (λ_=>0) rfl ⟨p,ht,rfl,λi _ h=>e11 h λk hk=>absurd hk.1 (N0 _)⟩ (λ_ _ _ _ _ _ _=>trivial) (λj x w7 w8 h T o P' hx hI hn _=>?_) (λw7 w8 h T o hI=>?_)
 ·refine e02 (eE hx) λhj ex=>?_;rw [ex];have hz:0<=whi way j/\whi way j<5:=em rfl;obtain ⟨i,hi⟩:=My hz.1;refine ⟨.inl (by unfold fB;exact Lp hj (nb rfl)),?_⟩;have ask:=AI (P:=P') (way:=way) (du:=du) (v7:=some (.int j)) (v9:=v9) (v10:=v10) (v11:=v11) (v12:=v12) (X:=X) hK F L hI.1 lt hI.2 hM i (M8.mp (hi▸hz.2)) λh' o' T' q1 q2=>hn _ _ h' T' o' ⟨q1,q2.t,q2.n,λi' l q=>q2.a i' l (e12 q λk hk e=>?_)⟩
  ·rw [<-hi] at ask;exact ask
  ·exact (OU k j).elim (λl=>.inr ⟨k,l,e⟩) λl=>.inl (Int.ofNat.inj ((e.symm.trans (Ou (LR hk) l▸rfl)).trans hi))
 ·exact hq h w7 w8 o T hI.1 ⟨hI.2.t,hI.2.n,λi hi _=>hI.2.a i hi (Dx way i hi)⟩
end
section
noncomputable abbrev zz:MV:=.str [122,122]
theorem AF.gd (F:AF ss A B rows):∀s∈cM (dg A B rows),Gn s:=λs hs=>by
 rw [<-qc,cZ] at hs;exact (Lg.mp hs).elim (F.gA s) (F.bg s)
theorem AF.a (F:AF ss A B rows):∀s∈A,Gn s:=λs hs=>F.gA s (LC _ hs)
theorem AF.b (F:AF ss A B rows):∀s∈B,Gn s:=λs hs=>F.gA s (Lx _ hs)
theorem kA (l:List (List Nat)):(D.list (l.map .str)).deep<=1:=by
 show D.deeps _+1<=1;rw [gw];exact nO _
theorem qd {l:List (List Nat)}(hi:hp[i]?=aT (.list (l.map .str)))(hj:hp[j]?=aT (.list (l.map .str)))(hg:∀s∈l,Gn s)(hq:Q eQ):EqP hp (.ref i) (.ref j) Q:=lU (.list (l.map .str)) (d0 l hi) (d0 l hj) (lk (kA l) rfl) (cA hg) hq
theorem vp {A B:List (List Nat)}(a:hp[i]?=aT (.list (A.map .str)))(b:hp[j]?=aT (.list (B.map .str)))(a':hp[i']?=aT (.list (A.map .str)))(b':hp[j']?=aT (.list (B.map .str)))(gA:∀s∈A,Gn s)(gB:∀s∈B,Gn s)(hq:Q eQ):EqP hp (.tup [.ref i,.ref j]) (.tup [.ref i',.ref j']) Q:=
 lU (.tup [.list (A.map .str),.list (B.map .str)]) (xC (d0 A a) (d0 B b)) (xC (d0 A a') (d0 B b')) (iF (Ln (mx (kA A) (mx0 (kA B)))) (nb rfl)) (by show (D.ascs (A.map .str)&&(D.ascs (B.map .str)&&eQ))=eQ;rw [cA gA,cA gB];rfl) hq
theorem jY {hp:List MO}{r:Nat}{xs:List MV}(e:hp[r]?=aT (.list xs)):fk hp (.ref r) .list=aT eQ:=congrArg (tyO · .list) e
theorem Hv (F:AF ss A B rows):(A++B++ss.drop 4).map (knd A B)=L4 A.length vo++L4 B.length lV++L4 6 AD:=by
 rw [LK,LK,Pn.mpr λx hx=>?_,Pn.mpr λx hx=>?_,Pn.mpr λx hx=>?_,show (ss.drop 4).length=6 by rw [Mv,F.sl]]
 ·have:=F.sf x hx;unfold knd;rw [xD λq=>this (LC _ q),xD λq=>this (Lx _ q)];rfl
 ·unfold knd;rw [xD λq=>(M7.mp F.nd).2.2 x q x hx rfl,Mc.mpr hx];rfl
 ·unfold knd;rw [Mc.mpr hx];rfl
theorem gk (h:s∈L4 a vo++L4 b lV++L4 6 AD):Gn s:=by
 refine (Lg.mp h).elim (λh=>(Lg.mp h).elim (λh=>?_) λh=>?_) λh=>?_
 all_goals rw [(List.mem_replicate.mp h).2];unfold Gn Nm;decide
noncomputable def Cs (H:List MO)(cs:List (Nat × List MV)):Prop:=∀p∈cs,H[p.1]?=aT (.list p.2)
theorem Cs.up (C:Cs H cs)(e:H<+:H'):Cs H' cs:=λp hp=>ak e (C p hp)
theorem Cs.at {H:List MO}{cs:List (Nat × List MV)}(C:Cs H cs)(i:Nat)(e:cs[i]?=aT (q,L)):H[q]?=aT (.list L):=C (q,L) (Lo e)
structure Fv (rows:List Rw)(q0 q1 q4:Nat)(Ts:List MV):Prop where
 e0:Ts[0]?=aT (.ref q0)
 e1:Ts[1]?=aT (.tup [.ref q1,.ref (q1+1)])
 e2:Ts[2]?=aT (.tup (mvs rows))
 e3:Ts[3]?=aT (.int (eV rows))
 e4:Ts[4]?=aT (.ref q4)
noncomputable abbrev zp (p:Nat × List MV):Nat × List MV:=(p.1,zz::p.2)
noncomputable abbrev p3 (A B:List (List Nat)) (rows:List Rw) (q0 q1:Nat):List (Nat × List MV):=[(q0,AH A B rows),(q1,A.map .str),(q1+1,B.map .str)]
noncomputable abbrev c6 (ss A B:List (List Nat)) (rows:List Rw) (Ts:List MV) (tr q4 kp k0 k1 k2:Nat):List (Nat × List MV):=[(tr,Ts),(q4,Hu ss A B),(kp,[.ref k0,.ref k1,.ref k2]),(k0,zz::AH A B rows),(k1,zz::A.map .str),(k2,zz::B.map .str)]
theorem oS {l:List (List Nat)}(h:hp[i]?=aT (.list (zz::l.map .str))):Rd hp (.ref i) (.list (.str [122,122]::l.map .str)):=.list h (.cons (.str _) (fT l))
theorem qe (l:List (List Nat)):(D.list (.str [122,122]::l.map .str)).deep<=1:=by
 show max 0 (D.deeps _)+1<=1;rw [gw];exact nO _
variable {K:KT}(hK:ar PP K)
include hK
section
variable {h0 H:List MO}{ip r rp ra rb M du tr q0 q1 q4 kp k0 k1 k2:Nat}{ss A B:List (List Nat)}{rows:List Rw}{way:Int}{v7 v8 v9 v10 v11:Option MV}{Q:MV->List MO->Prop}{X:XM}{Ts:List MV}(F:AF ss A B rows) (L:Pl5 h0 ip r rp ra rb ss A B rows) (V:Fv rows q0 q1 q4 Ts) (hdu:h0[du]?=aT (.list (AH A B rows)))
include F L V hdu
theorem AK (p:h0<+:H)(C:Cs H (c6 ss A B rows Ts tr q4 kp k0 k1 k2))(Z:Cs H ((p3 A B rows q0 q1).map zp))(hM:20<M)(hq:∀h',h0<+:h'->Q (.bool eQ) h') :
  aA K M (bF.body.drop 9) (fin Q) X ⟨VA ip r rp rows way du tr v7 v8 (aT (.ref kp)) v10 v11 iD,H⟩:=by
 have ht:=C.at 0 rfl;refine af ht (aF 3 V.e3 (AG hK (n1 hM (by simp +arith only)) (af ht (aF 3 V.e3 (Dn hK rows (iF F.sz (nb rfl)) (n2 hM F.n (by simp +arith only)) λh1 p1=>fq (ng (beq_self_eq_true _)) ?_)))));have L1:=L.up (p.trans p1);refine e23 L1.pr λ_ _ b1 _ _=>?_;refine aw (nE b1 rfl) (kW hK L1.pr F.g F.sz F.lA F.few.1 F.n (n1 hM (by simp +arith only)) λh2 q p2 l2 e2=>?_);refine qd e2 (ak (p.trans (LS p1 p2)) hdu) F.gd ?_;have L2:=L1.up p2;refine aw (nE (ak p2 b1) rfl) (AE hK L2.pr (n1 hM (by simp +arith only)) ?_);have p3:h2<+:h2++[MO.list (A.map .str)]++[MO.list (B.map .str)]:=aa (aa (ai _));have L3:=L2.up p3;refine af L3.hp (aB (j:=0) rfl rfl (af L3.hp (aB (j:=1) rfl rfl ?_)));have e3:(h2++[MO.list (A.map .str)]++[MO.list (B.map .str)])[h2.length+1]?=aT (.list (B.map .str)):=by
  rw [<-show (h2++[MO.list (A.map .str)]).length=h2.length+1 from iN];exact ae _ _
 refine vp (aj (ae _ _)) e3 L3.ha L3.hb F.a F.b ?_;have pp:=LS p1 (LS p2 p3);have ht:=ak pp ht;refine p8 (af ht (aF 0 V.e0 (af ht (aF 1 V.e1 (af ht (aF 1 V.e1 ?_))))));have Z:=λo=>Z.up (pp.trans (aa (o:=o) (ai _)));have C:=λo=>C.up (pp.trans (aa (o:=o) (ai _)));refine lU (.list [.list (.str [122,122]::(cM (dg A B rows)).map .str),.list (.str [122,122]::A.map .str),.list (.str [122,122]::B.map .str)]) (.list (ae _ _) (.cons (oS ((Z _).at 0 rfl)) (.cons (oS ((Z _).at 1 rfl)) (.cons (oS ((Z _).at 2 rfl)) .nil)))) (.list ((C _).at 2 rfl) (.cons (oS ((C _).at 3 rfl)) (.cons (oS ((C _).at 4 rfl)) (.cons (oS ((C _).at 5 rfl)) .nil)))) (iF (Ln (mx (qe _) (mx (qe _) (mx0 (qe _))))) (nb rfl)) ?_ (hq _ (p.trans (pp.trans (aa (ai _)))));show (D.ascs ((cM (dg A B rows)).map .str)&&(D.ascs (A.map .str)&&(D.ascs (B.map .str)&&eQ)))=eQ;rw [cA F.gd,cA F.a,cA F.b];rfl
theorem AL {kn:Nat}(p:h0<+:H)(C:Cs H (c6 ss A B rows Ts tr q4 kp k0 k1 k2))(Z:Cs H ((p3 A B rows q0 q1).map zp))(hkn:H[kn]?=aT (.list (L4 A.length (.str vo)++L4 B.length (.str lV))))(hM:20<M)(hq:∀h',h0<+:h'->Q (.bool eQ) h') :
  aA K M (bF.body.drop 8) (fin Q) X ⟨VA ip r rp rows way du tr v7 v8 (aT (.ref kp)) v10 (aT (.ref kn)) iD,H⟩:=by
 have L1:=L.up p;refine Av (af (C.at 0 rfl) (aF 4 V.e4 (kU (aj L1.hr) (ys:=(ss.map .str).drop 4) ?_ ?_)))
 ·rw [cg (by decide)];rfl
 refine af (ae _ _) ?_;rw [show ((ss.map MV.str).drop 4).length=6 by rw [Mv,tO,F.sl]];refine af (aj (ae _ _)) ⟨rfl,⟨by decide,by decide⟩,?_⟩;refine af (aj (aj (aj hkn))) (af (ae _ _) ⟨aQ ?_,?_⟩)
 ·rw [iN,NH,NH,NH];exact iF (MG F.lA 6) (nb rfl)
 have p4:∀a b c d:MO,H<+:H++[a]++[b]++[c]++[d]:=λ_ _ _ _=>aa (aa (aa (aa (ai _))));have e4:H[q4]?=aT (.list (((A++B++ss.drop 4).map (knd A B)).map .str)):=C.at 1 rfl;rw [Hv F] at e4;refine qd (ak (p4 _ _ _ _) e4) ?_ (λ_=>gk) (AK hK F L V hdu (p.trans (p4 _ _ _ _)) (C.up (p4 _ _ _ _)) (Z.up (p4 _ _ _ _)) hM hq);rw [LK,LK,Qz,Qz,Qz];exact ae _ _
theorem Dy (p:h0<+:H)(C:Cs H (c6 ss A B rows Ts tr q4 kp k0 k1 k2))(Z:Cs H ((p3 A B rows q0 q1).map zp))(hM:20<M)(hq:∀h',h0<+:h'->Q (.bool eQ) h') :
  aA K M (bF.body.drop 7) (fin Q) X ⟨VA ip r rp rows way du tr v7 v8 (aT (.ref kp)) v10 v11 iD,H⟩:=by
 have L1:=L.up p;have la:((A.map MV.str).length:Int)<=1000000:=by rw [tO];exact NO.mpr (iF (LQ _ _) (iF F.lA (nb rfl)))
 have lb:((B.map MV.str).length:Int)<=1000000:=by rw [tO];exact NO.mpr (iF (Nl _ _) (iF F.lA (nb rfl)))
 refine af (aj L1.hp) (aB (j:=0) rfl rfl (af (aj L1.ha) (af (ae _ _) ⟨rfl,⟨L5 _,la⟩,?_⟩)));refine af (aj (aj (aj L1.hp))) (aB (j:=1) rfl rfl (af (aj (aj (aj L1.hb))) (af (ae _ _) ⟨rfl,⟨L5 _,lb⟩,?_⟩)));refine af (aj (aj (ae _ _))) (af (ae _ _) ⟨aQ ?_,?_⟩)
 ·rw [NH,NH,tO,tO];exact iF F.lA (nb rfl)
 rw [tO,tO,NY,NY];have pp:∀a b c d e:MO,H<+:H++[a]++[b]++[c]++[d]++[e]:=λ_ _ _ _ _=>aa (aa (aa (aa (aa (ai _)))));exact AL hK F L V hdu (p.trans (pp _ _ _ _ _)) (C.up (pp _ _ _ _ _)) (Z.up (pp _ _ _ _ _)) (ae _ _) hM hq
end
end
section
theorem Cs.app (h1:Cs H a)(h2:Cs H b):Cs H (a++b):=λp hp=>(Lg.mp hp).elim (h1 p) (h2 p)
theorem Cs.set (C:Cs H cs)(h:∀c∈cs,q≠c.1):Cs (H.set q o) cs:=λp hp=>aH (h p hp) (C p hp)
variable {K:KT}(hK:ar PP K)
include hK
section
variable {h0 H:List MO}{ip r rp ra rb M du tr q0 q1 q4:Nat}{ss A B:List (List Nat)}{rows:List Rw}{way:Int}{v7 v8:Option MV}{Q:MV->List MO->Prop}{X:XM}{Ts:List MV}
omit hK in
theorem AM {G:List MO}{ps cs:List (Nat × List MV)}{g:Nat}{v9 v10:Option MV}{P:Fl->MS->Prop}(nd:(ps.map (·.1)).Nodup)(dj:∀c∈cs,∀p∈ps,p.1≠c.1)(lo:∀p∈ps,h0.length<=p.1/\p.2.length<=4000)(C:Cs G ps)(D:Cs G cs)(hg:(g,ps.map λp=>.ref p.1)∈cs)(p0:h0<+:G)
  (hend:∀w H,h0<+:H->Cs H (ps.map zp)->Cs H cs->P .next ⟨VA ip r rp rows way du tr v7 v8 v9 w iD iD,H⟩) :
  dJ (aT (g,.list (ps.map λp=>.ref p.1))) (l4 [10] bY (aA K M [.expr (.mth .insert (.var 10) [.cst (.int 0),.cst zz])]) X) P (ps.map λp=>.ref p.1) ⟨VA ip r rp rows way du tr v7 v8 v9 v10 iD iD,G⟩:=by
 refine lK (λj w H=>⟨VA ip r rp rows way du tr v7 v8 v9 w iD iD,H⟩) (λj w H=>A3 (h0<+:H) (Cs H ((ps.take j).map zp++ps.drop j)) (Cs H cs)) v10 G rfl ⟨p0,C,D⟩ (λj w H hI=>hI.h3 _ hg) (λj x w H P hx hI hn _=>?_) (λw H hI=>?_)
 ·refine hI.el λp C D=>e12 (jk hx) λq hq ex=>?_;rw [ex];have hm:=Lo hq;have ed:ps.drop j=q::ps.drop (j+1):=by
   obtain ⟨l,e⟩:=By.mp hq;rw [L9 l,e]
  rw [ed] at C;have cq:=C q (Lx _ (.head _));refine aw (kz cq).1 (bb (bd cq) ⟨⟨⟨by decide,L5 _⟩,IT (lo q hm).2 (nb rfl)⟩,hn _ _ ⟨br p (lo q hm).1,?_,D.set λc hc=>dj c hc q hm⟩⟩);have e:=Mj j ps;rw [ed] at e;rw [<-e,LK] at nd;refine e03 (M7.mp nd) λ_ n2 n3=>?_;rw [bq hq,LK,DO];refine Cs.app (Cs.set (λp hp=>C p (LC _ hp)) λc hc=>?_) λc hc=>(Lu.mp hc).elim (λe=>e▸get_set cq) λhc=>aH ?_ (C c (Lx _ (.tail _ hc)))
  ·refine e12 (Mi.mp hc) λp hp e=>?_;rw [<-e];exact Ol (n3 p.1 (List.mem_map_of_mem hp) q.1 (.head _))
  ·exact λe=>(Nn.mp n2).1 (show q.1∈_ by rw [e];exact List.mem_map_of_mem (f:=(·.1)) hc)
 ·refine hI.el λp C D=>?_;rw [tO,Mr,Pk,LJ] at C;exact hend w H p C D
variable (F:AF ss A B rows) (L:Pl5 h0 ip r rp ra rb ss A B rows)
include F L
theorem Dz {o:Nat->Nat}(p:h0<+:H)(hdu:h0[du]?=aT (.list (AH A B rows)))(lt:h0.length<=tr)(T:Tld ss A B rows tr o H Ts λ_=>True)(hM:20<M)(hq:∀h',h0<+:h'->Q (.bool eQ) h') :
  aA K M (bF.body.drop 3) (fin Q) X ⟨VA ip r rp rows way du tr v7 v8 iD iD iD iD,H⟩:=by
 refine e12 (T.a 0 (nb rfl) trivial) λv0 t0 a=>e12 a λq0 e0 c0=>?_;refine e12 (T.a 1 (nb rfl) trivial) λv1 t1 a=>e13 a λq1 e1 c1 c2=>?_;refine e12 (T.a 2 (nb rfl) trivial) λv2 t2 e2=>e12 (T.a 3 (nb rfl) trivial) λv3 t3 e3=>?_;refine e12 (T.a 4 (nb rfl) trivial) λv4 t4 a=>e12 a λq4 e4 c4=>?_;have V:Fv rows q0 q1 q4 Ts:=⟨e0▸t0,e1▸t1,e2▸t2,e3▸t3,e4▸t4⟩
 have L1:=L.up p;have ht:=T.t;refine af ht (aF 0 V.e0 (aI (jY c0.e) (af ht (aF 0 V.e0 (qd c0.e (ak p hdu) F.gd ?_)))));refine af ht (aF 1 V.e1 (af ht (aF 1 V.e1 (af L1.hp (aB (j:=0) rfl rfl (af L1.hp (aB (j:=1) rfl rfl ?_)))))));refine vp c1.e c2.e L1.ha L1.hb F.a F.b (af ht (aF 2 V.e2 (af ht (aF 2 V.e2 ?_))));refine lU (.tup (dds rows)) (.tup (gC rows)) (.tup (gC rows)) (iF (Ln (d2 (AC rows F.g) F.n)) (nb rfl)) (jU λe he=>(tT rows (pX rows) F.g F.n e he).a) ?_;have lz:∀{l:List (List Nat)},l.length<=4000->[zz].length+(l.map MV.str).length<=line:=λh=>aQ (by rw [tO,Rr];exact iF (Ln h) (nb rfl));have la:A.length<=4000:=iF (LQ _ _) (iF F.lA (nb rfl));have lb:B.length<=4000:=iF (Nl _ _) (iF F.lA (nb rfl));have l0:=LM F.few.1;refine af (aj ht) (aF 0 V.e0 (af (ae _ _) (af (aj c0.e) ⟨lz l0,?_⟩)));refine af (aj (aj (aj ht))) (aF 1 V.e1 (af (ae _ _) (af (aj (aj (aj c1.e))) ⟨lz la,?_⟩)));refine af (aj (aj (aj (aj (aj ht))))) (aF 1 V.e1 (af (ae _ _) (af (aj (aj (aj (aj (aj c2.e))))) ⟨lz lb,?_⟩)));have pp:∀a b c d e f g:MO,H<+:H++[a]++[b]++[c]++[d]++[e]++[f]++[g]:=λ_ _ _ _ _ _ _=>aa (aa (aa (aa (aa (aa (aa (ai _)))))));have ht7:=λa b c d e f g=>ak (pp a b c d e f g) ht;refine af (ht7 _ _ _ _ _ _ _) (aF 0 V.e0 (af (ht7 _ _ _ _ _ _ _) (aF 1 V.e1 (af (ht7 _ _ _ _ _ _ _) (aF 1 V.e1 (aZ (bf (ae _ _)) ?_))))));have q3:∀p∈p3 A B rows q0 q1,A4 (p.1<H.length) (tr<p.1) (o p.1≠4) (p.2.length<=4000):=alc ⟨lta c0.e,c0.l,by rw [c0.o];decide,by rw [tO];exact l0⟩ (al2 ⟨lta c1.e,c1.l,by rw [c1.o];decide,by rw [tO];exact la⟩ ⟨lta c2.e,c2.l,by rw [c2.o];decide,by rw [tO];exact lb⟩);have big:∀{x:Nat},H.length<=x->∀p∈p3 A B rows q0 q1,p.1≠x:=λl p hp=>Mn (Lp (q3 p hp).h1 l);have n01:q0≠q1:=λe=>absurd (c0.o.symm.trans (e▸c1.o)) (by decide);have n02:q0≠q1+1:=λe=>absurd (c0.o.symm.trans (e▸c2.o)) (by decide);have ln:∀{h:List MO},H<+:h->H.length<=h.length:=λp=>p.length_le;refine AM (ps:=p3 A B rows q0 q1) (cs:=(_,[.ref q0,.ref q1,.ref (q1+1)])::c6 ss A B rows Ts tr q4 _ _ _ _) ?_ (alc (big (ln (pp _ _ _ _ _ _ _))) (alc (λp hp=>LY (q3 p hp).h2) (alc (λp hp e=>(q3 p hp).h3 (e▸c4.o)) (al4 (big (ln (aa (aa (aa (aa (aa (aa (ai _)))))))))  (big (ln (aa (ai _)))) (big (ln (aa (aa (aa (ai _)))))) (big (ln (aa (aa (aa (aa (aa (ai _)))))))))))) (λp hp=>⟨iF lt (LM (q3 p hp).h2),(q3 p hp).h4⟩) (Cs.up (alc c0.e (al2 c1.e c2.e)) (aa (pp _ _ _ _ _ _ _))) (alc (ae _ _) (alc (aj (ht7 _ _ _ _ _ _ _)) (alc (aj (ak (pp _ _ _ _ _ _ _) c4.e)) (al4 (aj (ae _ _)) (aj (aj (aj (aj (aj (aj (ae _ _))))))) (aj (aj (aj (aj (ae _ _))))) (aj (aj (ae _ _))))))) (.head _) (p.trans (aa (pp _ _ _ _ _ _ _))) λw H' p' Z D=>Dy hK F L V hdu p' (λc hc=>D c (.tail _ hc)) Z hM hq;exact Nn.mpr ⟨λh=>(Lu.mp h).elim n01 λh=>n02 (oF.mp h),Nn.mpr ⟨λh=>absurd (oF.mp h) (Mn (MF _)),Nn.mpr ⟨M1,PL⟩⟩⟩
end
end
section
variable {K:KT}(hK:ar PP K)
include hK
theorem qf {h:List MO}{ip r rp ra rb N:Nat}{ss A B:List (List Nat)}{rows:List Rw}{way:Int}{Q:MV->List MO->Prop}{X:XT}(F:AF ss A B rows)(L:Pl5 h ip r rp ra rb ss A B rows)(hN:30<N)(hq:∀h',h<+:h'->Q (.bool eQ) h'):K N 74 [.inst 0 ip,.ref r,.ref rp,.tup (mvs rows),.int way] Q X h:=by
 refine kc hK bF hN rfl rfl λM hM=>?_;refine af L.hp (aB (j:=0) rfl rfl (af L.hp (aB (j:=1) rfl rfl ?_)));refine af L.ha (af L.hb ⟨dY (iF F.lA (nb rfl)),?_⟩);refine AA hK rows F.g (iF F.bl (nb rfl)) (n2 hM F.n (by simp +arith only)) λh2 q p2 e2=>?_;refine af (ak p2 (gz _ _ _)) (af e2 ⟨dY (by rw [iN];exact iF (Mt F.lA F.bl) (nb rfl)),?_⟩);refine af (ae _ _) (.mk (A++B++bns rows) (LK).symm (qc A B rows▸F.few.1) F.few.2 ?_);rw [qc];have pp:∀a b,h<+:h2++[a]++[b]:=λ_ _=>aa (aa (LS (aa (ai _)) p2));refine AJ hK F (L.up (pp _ _)) (aa (ai _)) (nO _) (ae _ _) (n1 hM (by simp +arith only)) λh' v7 v8 o T p' T5=>?_;exact Dz hK F (L.up (pp _ _)) p' (ae _ _) (nO _) T5 (n1 hM (by simp +arith only)) λh' p=>hq h' ((pp _ _).trans p)
end
section
noncomputable abbrev skM:MV:=.tup [.str dI]
noncomputable def tY (w:Bool)(hp:List MO)(j:Nat)(u:MV)(xs:List MV):Prop:=match w with
 | true=>u=.tup xs
 | false=>u=.ref j/\hp[j]?=aT (.list xs)
mutual
noncomputable def Rw.hr (w:Bool)(hp:List MO):Rw->Nat->Nat->MV->Prop
 | .set s t,n,m,x=>n<=m/\x=(Rw.set s t).mv
 | .tell t,n,m,x=>n<=m/\x=(Rw.tell t).mv
 | .skip,n,m,x=>n<=m/\x=skM
 | .ite t a b,n,m,x=>∃u v k,x=.tup [.str wIf,t.mv,u,v]/\(∃j xs,n<=j/\tY w hp j u xs/\hrs w hp a (j+1) k xs)/\∃j xs,k<=j/\tY w hp j v xs/\hrs w hp b (j+1) m xs
 | .wh t a,n,m,x=>∃u,x=.tup [.str aU,t.mv,u]/\∃j xs,n<=j/\tY w hp j u xs/\hrs w hp a (j+1) m xs
noncomputable def hrs (w:Bool)(hp:List MO):List Rw->Nat->Nat->List MV->Prop
 | [],n,m,xs=>n<=m/\xs=[]
 | r::rs,n,m,xs=>∃k y ys,xs=y::ys/\r.hr w hp n k y/\hrs w hp rs k m ys
end
noncomputable abbrev hbl (w:Bool) (hp:List MO) (rs:List Rw) (n m:Nat) (u:MV):Prop:=∃j xs,n<=j/\tY w hp j u xs/\hrs w hp rs (j+1) m xs
theorem bU.le (h:bU n hp hp')(l:n<=n'):bU n' hp hp':=λi o z e=>h i o (iF l z) e
theorem bU.pre (p:hp<+:hp'):bU n hp hp':=λ_ _ _ e=>ak p e
theorem tY.up (h:tY w hp j u xs)(e:bU n hp hp')(l:n<=j):tY w hp' j u xs:=by
 cases w with
 | true=>exact h
 | false=>exact ⟨h.1,e j _ l h.2⟩
theorem kB (rs:List Rw):∀{n m xs},hrs w hp rs n m xs->n<=m:=
 Rw.rec_1 (motive_1:=λr=>∀{n m x},r.hr w hp n m x->n<=m) (motive_2:=λrs=>∀{n m xs},hrs w hp rs n m xs->n<=m) (λ_ _ _ _ _ h=>h.1) (λ_ _ _ _ h=>h.1) (λh=>h.1)
  (λ_ _ _ ia ib _ _ _ h=>e33 h λu v k _ ha hb=>e23 ha λj xs l _ h1=>e23 hb λj' ys l' _ h2=>iF (iF l (NZ (ia h1))) (iF l' (NZ (ib h2))))
  (λ_ _ ia _ _ _ h=>e12 h λu _ ha=>e23 ha λj xs l _ h1=>iF l (NZ (ia h1)))
  (λh=>h.1) (λ_ _ i1 i2 _ _ _ h=>e33 h λk y ys _ h1 h2=>iF (i1 h1) (i2 h2)) rs
theorem vq {hp hp':List MO}{w:Bool}(rs:List Rw):(∀{n m n' m' xs},bU n hp hp'->n'<=n->m<=m'->hrs w hp rs n m xs->hrs w hp' rs n' m' xs)/\∀r∈rs,∀{n m n' m' x},bU n hp hp'->n'<=n->m<=m'->r.hr w hp n m x->r.hr w hp' n' m' x:=
 Rw.rec_1 (motive_1:=λr=>∀{n m n' m' x},bU n hp hp'->n'<=n->m<=m'->r.hr w hp n m x->r.hr w hp' n' m' x) (motive_2:=λrs=>(∀{n m n' m' xs},bU n hp hp'->n'<=n->m<=m'->hrs w hp rs n m xs->hrs w hp' rs n' m' xs)/\∀r∈rs,∀{n m n' m' x},bU n hp hp'->n'<=n->m<=m'->r.hr w hp n m x->r.hr w hp' n' m' x)
  (λ_ _ _ _ _ _ _ _ l lm h=>⟨iF l (iF h.1 lm),h.2⟩) (λ_ _ _ _ _ _ _ l lm h=>⟨iF l (iF h.1 lm),h.2⟩) (λ_ l lm h=>⟨iF l (iF h.1 lm),h.2⟩)
  (λ_ a b ia ib _ _ _ _ _ s l lm h=>e33 h λu v k e ha hb=>e23 ha λj xs q c h1=>e23 hb λj' ys q' c' h2=>
   have lj:=iF q (NZ (iF (kB a h1) q'))
   ⟨u,v,k,e,⟨j,xs,iF l q,c.up s q,ia.1 (s.le (Mw q)) (nO _) (nO _) h1⟩,j',ys,q',c'.up s lj,ib.1 (s.le (Mw lj)) (nO _) lm h2⟩)
  (λ_ a ia _ _ _ _ _ s l lm h=>e12 h λu e ha=>e23 ha λj xs q c h1=>⟨u,e,j,xs,iF l q,c.up s q,ia.1 (s.le (Mw q)) (nO _) lm h1⟩)
  ⟨λ_ l lm h=>⟨iF l (iF h.1 lm),h.2⟩,al0⟩
  (λr rs i1 i2=>⟨λs l lm h=>e33 h λk y ys e h1 h2=>⟨k,y,ys,e,i1 s l (nO _) h1,i2.1 (s.le (kB [r] ⟨k,y,[],rfl,h1,nO _,rfl⟩)) (nO _) lm h2⟩,alc i1 i2.2⟩) rs
theorem qg {rs:List Rw}(h:hrs w hp rs n m xs)(s:bU n hp hp')(l:n'<=n)(lm:m<=m'):hrs w hp' rs n' m' xs:=(vq rs).1 s l lm h
theorem Ep {r:Rw}(h:r.hr w hp n m x)(s:bU n hp hp')(l:n'<=n)(lm:m<=m'):r.hr w hp' n' m' x:=(vq [r]).2 r (.head _) s l lm h
theorem hbl.up (h:hbl w hp rs n m u)(e:bU n hp hp')(l:n'<=n)(lm:m<=m'):hbl w hp' rs n' m' u:=e23 h λj xs q c h2=>⟨j,xs,iF l q,c.up e q,qg h2 (e.le (Mw q)) (nO _) lm⟩
theorem AO {rs:List Rw}{xs:List MV}(h:hrs w hp rs n k xs){r:Rw}{x:MV}(e:r.hr w hp k m x):hrs w hp (rs++[r]) n m (xs++[x]):=by
 induction rs generalizing n xs with
 | nil=>rw [h.2];exact ⟨m,x,[],rfl,Ep e (.pre (ai _)) h.1 (nO _),nO _,rfl⟩
 | cons q rs ih=>refine e33 h λk y ys q h2 h3=>?_;rw [q];exact ⟨k,y,_,rfl,h2,ih h3⟩
theorem vr {rs:List Rw}{xs:List MV}(h:hrs w hp rs n m xs):xs.length=rs.length:=by
 induction rs generalizing n xs with
 | nil=>rw [h.2];rfl
 | cons r rs ih=>refine e33 h λk y ys q _ h3=>?_;rw [q];exact congrArg (·+1) (ih h3)
noncomputable def HR (w:Bool)(hp:List MO)(rs:List Rw):Prop:=∀{n m xs},hrs w hp rs n m xs->∃ds,Rds hp xs ds/\dC rs ds
theorem vt (h:HR w hp rs)(q:hbl w hp rs n m u):∃d ds,Rd hp u d/\d.bl=aT ds/\dC rs ds:=by
 refine e23 q λj xs _ c h2=>e12 (h h2) λds r1 r2=>?_
 cases w with
 | true=>exact ⟨.tup ds,ds,by rw [show u=_ from c];exact .tup r1,rfl,r2⟩
 | false=>exact ⟨.list ds,ds,by rw [c.1];exact .list c.2 r1,rfl,r2⟩
theorem Hw (rs:List Rw):HR w hp rs:=
 Rw.rec_1 (motive_1:=λr=>∀{n m x},r.hr w hp n m x->∃d,Rd hp x d/\r.dis d) (motive_2:=HR w hp)
  (λ_ t _ _ _ h=>⟨_,by rw [h.2];exact Da (.str _) (.str _) t.rd,rfl⟩) (λt _ _ _ h=>⟨_,by rw [h.2];exact xC (.str _) t.rd,rfl⟩) (λh=>⟨_,by rw [h.2];exact .tup (.cons (.str _) .nil),rfl⟩)
  (λt _ _ ia ib _ _ _ h=>e33 h λu v k e ha hb=>e23 (vt ia ha) λd ds q1 q2 q3=>e23 (vt ib hb) λd' ds' q1' q2' q3'=>⟨_,by rw [e];exact Jy (.str _) t.rd q1 q1',d,d',rfl,⟨ds,q2,q3⟩,ds',q2',q3'⟩)
  (λt _ ia _ _ _ h=>e12 h λu e ha=>e23 (vt ia ha) λd ds q1 q2 q3=>⟨_,by rw [e];exact Da (.str _) t.rd q1,d,rfl,ds,q2,q3⟩)
  (λh=>⟨[],by rw [h.2];exact .nil,rfl⟩)
  (λ_ _ i1 i2 _ _ _ h=>e33 h λk y ys e h1 h2=>e12 (i1 h1) λd r3 r4=>e12 (i2 h2) λds r1 r2=>⟨d::ds,by rw [e];exact .cons r3 r1,d,ds,rfl,r4,r2⟩) rs
theorem Hx (rs:List Rw)(h:hbl w hp rs n m u):∃d ds,Rd hp u d/\d.bl=aT ds/\dC rs ds:=vt (Hw rs) h
noncomputable def HA (K:KT)(rs:List Rw):Prop:=∀{w:Bool}{N:Nat}{Q:MV->List MO->Prop}{X:XT}{h:List MO},(lns rs).length<=100000->ay rs+1<N->(∀h' u,h<+:h'->hbl w h' rs h.length h'.length u->Q u h')->K N 69 [.tup (mvs rs),.int (b2i w)] Q X h
variable {K:KT}(hK:ar PP K)
include hK
theorem DA (rs:List Rw)(ih:∀r∈rs,∀b∈r.subs,HA K b):HA K rs:=by
 intro w N Q X h hz hN hq;refine kc hK iZ hN rfl rfl λM hM=>?_;refine gu (λj w3 (ys:List MV) hp=>⟨[aT (.tup (mvs rs)),aT (.int (b2i w)),aT (.ref h.length),w3],hp⟩) (λj w3 ys hp=>A3 (h<+:hp) (hp[h.length]?=aT (.list ys)) (hrs w hp (rs.take j) (h.length+1) hp.length ys))
  iD [] _ rfl ⟨aa (ai _),ae _ _,lta (ae _ _),rfl⟩ (λ_ _ _ _ _=>trivial) (λj x w3 ys hp P hx hI hn _=>?_) (λw3 ys hp hI=>?_)
 ·refine hI.el λp c hr=>e12 (lN hx) λr hr1 ex=>?_;rw [ex];have hmem:=Lo hr1;have sub:=z9 hmem hz hM;have lc:=lta c;have app:∀{y h'},hp<+:h'->r.hr w h' hp.length h'.length y->wpS K M (.expr (.mth .append (.var 2) [.var 3])) P (xin X) ⟨[aT (.tup (mvs rs)),aT (.int (b2i w)),aT (.ref h.length),aT y],h'⟩:=λ{y h'} p' hy=>by
   have c':=ak p' c;refine aw (bh c') (bb (bd c') ⟨?_,?_⟩)
   ·rw [vr hr];exact IT (iF (P9 j rs) (iF (iL rs) hz)) (nb rfl)
   ·have s1:bU (h.length+1) h' (h'.set h.length (.list (ys++[y]))):=iM (MF _);refine hn _ (ys++[y]) _ ⟨br (p.trans p') (nO _),get_set c',?_⟩;rw [bq hr1,Pu];exact AO (qg hr (λi o l e=>s1 i o l (ak p' e)) (nO _) (nO _)) (Ep hy (s1.le lc) (nO _) (nO _))
  cases r with
  | ite t a b=>
   refine ih _ hmem a (.head _) (sub a (.head _)).1 (sub a (.head _)).2 λh3 u p3 hu=>ih _ hmem b (.tail _ (.head _)) (sub b (.tail _ (.head _))).1 (sub b (.tail _ (.head _))).2 λh4 v p4 hv=>?_;exact app (y:=.tup [.str wIf,t.mv,u,v]) (LS p3 p4) ⟨u,v,h3.length,rfl,hu.up (.pre p4) (nO _) (nO _),hv⟩
  | wh t a=>exact ih _ hmem a (.head _) (sub a (.head _)).1 (sub a (.head _)).2 λh3 u p3 hu=>app (y:=.tup [.str aU,t.mv,u]) p3 ⟨u,rfl,hu⟩
  | _=>exact app (ai _) ⟨nO _,rfl⟩
 ·refine hI.el λp c hr=>?_;rw [fh,Mr] at hr;refine af c (af (ae _ _) (aB jP lL (hq _ _ (aa p) ⟨h.length,ys,nO _,?_,qg hr (.pre (aa (ai _))) (nO _) (aa (ai hp)).length_le⟩)))
  cases w with
  | true=>rfl
  | false=>exact ⟨rfl,aj c⟩
theorem AP (rs:List Rw):HA K rs:=eM (P:=λrs=>HA K rs) (λrs ih=>DA hK rs ih) rs
end
section
noncomputable def Kp (n m:Nat)(h h':List MO):Prop:=∀(i:Nat) (o:MO),i<n\/m<=i->h[i]?=aT o->h'[i]?=aT o
theorem Kp.tr (a:Kp n k h h1)(b:Kp k' m h1 h2)(l:n<=k')(l':k<=m):Kp n m h h2:=λi o q e=>b i o (q.imp (λq=>Lp q l) id) (a i o (q.imp id (iF l')) e)
theorem Kp.self:Kp n m h h:=λ_ _ _ e=>e
theorem Kp.st (a:Kp n m h h'):bU m h h':=λi o l e=>a i o (.inr l) e
theorem Hy (t:Tm):fk hp t.mv .list=aT bY:=by cases t<;>rfl
noncomputable def CH (K:KT)(rs:List Rw):Prop:=∀{n m N:Nat}{Q:MV->List MO->Prop}{X:XT}{h:List MO}{u:MV},hbl bY h rs n m u->(lns rs).length<=100000->ay rs+1<N->(∀h',Kp n m h h'->Q .none h')->K N 70 [u] Q X h
noncomputable abbrev chB:List MSt:=[.ite (.isi (.var 2) [.list]) [.expr (.call 70 [.var 2])] []]
variable {K:KT}(hK:ar PP K)
include hK
omit hK in
theorem tZ {h:List MO}{n m M:Nat}{u:MV}{us:List MV}{v0 v1 w2:Option MV}{P:Fl->MS->Prop}{X:XT}(c:CH K s)(hb:hbl bY h s n m u)(hz:(lns s).length<=100000)(hM:ay s+1<M)(hq:∀h' w2,Kp n m h h'->dJ iD (l4 [2] bY (aA K M chB) (xin X)) P us ⟨[v0,v1,w2],h'⟩):dJ iD (l4 [2] bY (aA K M chB) (xin X)) P (u::us) ⟨[v0,v1,w2],h⟩:=by
 rw [d4];refine ⟨trivial,?_⟩;refine e23 hb λj xs _ q _=>aI (a:=true) ?_ (c hb hz hM λh' k=>hq h' _ k);rw [q.1];exact jY q.2
omit hK in
theorem nF {h:List MO}{v0 v1 w2:Option MV}{P:Fl->MS->Prop}{X:XT}(hq:P .next ⟨[v0,v1,w2],h⟩):dJ iD (l4 [2] bY (aA K M chB) (xin X)) P [] ⟨[v0,v1,w2],h⟩:=by
 rw [gL];exact ⟨trivial,hq⟩
theorem vw {h:List MO}{n0 j m M:Nat}{v0:Option MV}{xs:List MV}{P:Fl->MS->Prop}{X:XT}(g0:h[j]?=aT (.list xs))(hj:j<n0):∀{rs:List Rw}{ys:List MV}{n:Nat}{hp:List MO}{w1 w2:Option MV},(∀r∈rs,∀s∈r.subs,CH K s/\(lns s).length<=100000/\ay s+1<M)->n0<=n->Kp n0 n h hp->hrs bY hp rs n m ys->(∀h' w1 w2,Kp n0 m h h'->P .next ⟨[v0,w1,w2],h'⟩)->dJ (aT (j,.list xs)) (l4 [1] bY (aA K M [.for_ [2] bY .val [.sl (.var 1) (aT (.cst (.int 2))) iD] chB]) (xin X)) P ys ⟨[v0,w1,w2],hp⟩
 | [],ys,n,hp,w1,w2,_,_,k,hr,hq=>by
  rw [hr.2,gL];exact ⟨k j _ (.inl hj) g0,hq hp _ _ (k.tr .self (nO n0) hr.1)⟩
 | r::rs,ys,n,hp,w1,w2,ih,l,k,hr,hq=>by
  refine e33 hr λk1 y zs e h1 h2=>?_;rw [e,d4];refine ⟨k j _ (.inl hj) g0,?_⟩;have l1:n<=k1:=kB (w:=false) (hp:=hp) [r] ⟨k1,y,[],rfl,h1,nO _,rfl⟩;have nx:∀{h'} {w1 w2:Option MV},Kp n k1 hp h'->dJ (aT (j,.list xs)) (l4 [1] bY (aA K M [.for_ [2] bY .val [.sl (.var 1) (aT (.cst (.int 2))) iD] chB]) (xin X)) P zs ⟨[v0,w1,w2],h'⟩:=λk'=>vw g0 hj (λq hq=>ih q (.tail _ hq)) (iF l l1) (k.tr k' l l1) (qg h2 k'.st (nO _) (nO _)) hq;have ih:=ih r (.head _)
  cases r with
  | set s t=>
   rw [h1.2];refine ⟨⟨rfl,rfl,by decide,nb rfl⟩,?_⟩;show dJ iD _ _ [t.mv] _;rw [d4];exact ⟨trivial,aI (Hy t) (nF (nx .self))⟩
  | tell t=>rw [h1.2];exact ⟨⟨rfl,rfl,by decide,nb rfl⟩,nF (nx .self)⟩
  | skip=>rw [h1.2];exact ⟨⟨rfl,rfl,by decide,nb rfl⟩,nF (nx .self)⟩
  | ite t a b=>
   refine e33 h1 λu v kk e ha hb=>?_;rw [e];have ia:=ih a (.head _);have ib:=ih b (.tail _ (.head _));have l2:n<=kk:=e23 ha λj xs q _ h=>iF q (NZ (kB a h));have l3:kk<=k1:=e23 hb λj xs q _ h=>iF q (NZ (kB b h));exact ⟨⟨rfl,rfl,by decide,nb rfl⟩,tZ ia.1 ha ia.2.1 ia.2.2 λh' w2 ka=>tZ ib.1 (hbl.up hb ka.st (nO _) (nO _)) ib.2.1 ib.2.2 λh2 w2 kb=>nF (nx (ka.tr kb l2 l3))⟩
  | wh t a=>
   refine e12 h1 λu e ha=>?_;rw [e];have ia:=ih a (.head _);exact ⟨⟨rfl,rfl,by decide,nb rfl⟩,tZ ia.1 ha ia.2.1 ia.2.2 λh' w2 ka=>nF (nx ka)⟩
theorem DB (rs:List Rw)(ih:∀r∈rs,∀s∈r.subs,CH K s):CH K rs:=by
 intro n m N Q X h u hb hz hN hq;refine e23 hb λj xs l c hr=>?_;rw [c.1];refine kc hK fP hN rfl rfl λM hM=>aZ (bf c.2) ?_;refine vw hK c.2 (MF j) (λr hr s hs=>⟨ih r hr s hs,z9 hr hz hM s hs⟩) (nO _) .self hr λh' w1 w2 k=>?_;have e:=k j _ (.inl (MF j)) c.2;refine aw (bh e) (bb (bd e) ⟨by rw [vr hr];exact IT (iF (iL rs) hz) (nb rfl),hq _ λi o q e'=>?_⟩);refine aH (λe=>?_) (k i o (q.imp (λq=>Lp q (Mw l)) id) e');exact q.elim (λq=>Oz.mpr l (e▸q)) λq=>Oz.mpr q (e▸kB rs hr)
theorem xI (rs:List Rw):CH K rs:=eM (P:=λrs=>CH K rs) (λrs ih=>DB hK rs ih) rs
end
noncomputable def zN (k n:Nat):List (List Nat):=(Nr n).map λ(j:Nat)=>[122,122]++dec (k:Int)++dec (j:Int)
theorem vx:∀s∈zN 0 30++zN 1 30,Gn s:=by unfold Gn Nm;decide +kernel
theorem K1:(zN 0 30++zN 1 30).Nodup:=by decide +kernel
theorem Es (k:Nat){n:Nat}(h:n<=30):(zN k n).Sublist (zN k 30):=by
 have e:zN k n=(zN k 30).take n:=by
  unfold zN;rw [<-Oa,List.take_range,Nf h]
 rw [e];exact PV ..
theorem AQ (k n:Nat):(zN k n).length=n:=by unfold zN;rw [tO,List.length_range]
noncomputable abbrev VL (is:List Int) (r:Nat) (rows:List Rw) (ce mo:Int) (u5:Option MV) (rp:Nat) (v7 v8 v9 v10 v11 v12 v13 v14:Option MV):List (Option MV):=[aT (.scr is),aT (.ref r),aT (.tup (mvs rows)),aT (.int ce),aT (.int mo),u5,aT (.ref rp),v7,v8,v9,v10,v11,v12,v13,v14]
theorem DC (g:aN gd m.heap)(h:step v (λr m=>match r with
  | some x=>cU gd step Q vs (acc++[x]) m
  | none=>cU gd step Q vs acc m) m):cU gd step Q (v::vs) acc m:=by rw [je];exact ⟨g,h⟩
theorem JH (g:aN gd m.heap)(h:Q acc m):cU gd step Q [] acc m:=by rw [j6];exact ⟨g,h⟩
section
variable {K:KT}{is:List Int}{r rp N:Nat}{rows:List Rw}{ce mo:Int}{u5 v7 v8 v9 v10 v11 v12 v13 v14:Option MV}{hp:List MO}{Q:PQ}{X:XM}
theorem AR {k:Nat}(hk:k<=1)(hq:Q (.ref hp.length) ⟨VL is r rows ce mo u5 rp v7 v8 v9 v10 (aT (.int k)) v12 v13 v14,hp++[.list ((zN k (mo / 12 % 30).toNat).map .str)]⟩) :
  wpE K N (.comp (.bin .add (.bin .add (.cst (.str [122,122])) (.blt .str [.var 11])) (.blt .str [.var 12])) [12] bY .range1 [.bin .mod (.bin .fdiv (.var 4) (.cst (.int 12))) (.cst (.int 30))] []) Q X ⟨VL is r rows ce mo u5 rp v7 v8 v9 v10 (aT (.int k)) v12 v13 v14,hp⟩:=by
 have m0:0<=mo / 12 % 30/\mo / 12 % 30<30:=em rfl;refine aZ (fe (Pg (by decide) m0.1) (Pg (PH m0.2) (by decide))) ?_;refine lO (λz=>⟨VL is r rows ce mo u5 rp v7 v8 v9 v10 (aT (.int k)) z v13 v14,hp⟩) (λj=>((zN k (mo / 12 % 30).toNat).take j).map .str) v12 rfl rfl (λ_=>trivial) (λj x z P hx h1 h2=>?_) (λz=>?_)
 ·refine e02 (eE hx) λhj ex=>?_;rw [ex];have n6:∀{i:Nat},i<=30->(0:Int)<=i/\(i:Int)<1000000:=λl=>⟨L5 _,M8.mpr (IT l (nb rfl))⟩
  have hk6:=n6 (iF hk (nb rfl));have hj6:=n6 (LM (Pi hj (emN rfl)));have l1:=(o5 hk6).2;refine ⟨⟨Pg (by decide) hk6.1,hk6.2⟩,aQ (iF (Mh l1 2) (nb rfl)),⟨Pg (by decide) hj6.1,hj6.2⟩,aQ ?_,h1 _ _ ?_⟩
  ·rw [iN];exact iF (Mt (Mh l1 2) (o5 hj6).2) (nb rfl)
  ·rw [bq (r:=[122,122]++dec (k:Int)++dec (j:Int)) (by unfold zN;rw [LG,List.getElem?_range hj];rfl),LK];rfl
 ·rw [iJ,M0 (by rw [AQ];exact nO _)];exact hq
theorem JI (hq:∀a0 a1 h',hp<+:h'->h'[a0]?=aT (.list ((zN 0 (mo / 12 % 30).toNat).map .str))->h'[a1]?=aT (.list ((zN 1 (mo / 12 % 30).toNat).map .str))->∀q,h'[q]?=aT (.list [.ref a0,.ref a1])->Q (.ref q) ⟨VL is r rows ce mo u5 rp v7 v8 v9 v10 v11 v12 v13 v14,h'⟩) :
  wpE K N (.comp (.comp (.bin .add (.bin .add (.cst (.str [122,122])) (.blt .str [.var 11])) (.blt .str [.var 12])) [12] bY .range1 [.bin .mod (.bin .fdiv (.var 4) (.cst (.int 12))) (.cst (.int 30))] []) [11] bY .range1 [.cst (.int 2)] []) Q X ⟨VL is r rows ce mo u5 rp v7 v8 v9 v10 v11 v12 v13 v14,hp⟩:=by
 refine DC trivial (AR (k:=0) (nb rfl) (DC trivial (AR (k:=1) (nb rfl) (JH trivial ?_))));exact hq _ _ _ (aa (aa (aa (ai _)))) (aj (aj (ae _ _))) (aj (ae _ _)) _ (ae _ _)
end
theorem Hz {α:Type}{p:α->Bool}{l:List α}{j:Nat}{x:α}(h:l[j]?=aT x)(q:p x=eQ):(l.take (j+1)).filter p=(l.take j).filter p++[x]:=by
 rw [bq h,List.filter_append,PA q];rfl
theorem HC {α:Type}{p:α->Bool}{l:List α}{j:Nat}{x:α}(h:l[j]?=aT x)(q:p x=bY):(l.take (j+1)).filter p=(l.take j).filter p:=by
 rw [bq h,List.filter_append,PD (by rw [q];decide)];exact LJ _
noncomputable def fz (ss:List (List Nat))(k n:Nat):List (List Nat):=(zN k n).filter λs=>!ss.contains s
section
variable {K:KT}{is:List Int}{r rp N q7:Nat}{rows:List Rw}{ce mo:Int}{u5 v8 v9 v10 v11 v12 v13 v14:Option MV}{hp:List MO}{Q:PQ}{X:XM}{ss:List (List Nat)}
theorem AS {k n a:Nat}{x y:MV}{A:List (List Nat)}{l7:List MV}(hr:hp[r]?=aT (.list (ss.map .str)))(os:∀s∈ss,okS s)(h6:hp[rp]?=aT (.list [x,y]))(h7:hp[q7]?=aT (.list l7))(e6:[x,y][k]?=aT (.ref a))(ha:hp[a]?=aT (.list (A.map .str)))(e7:l7[k]?=aT (.ref a7))(ha7:hp[a7]?=aT (.list ((zN k n).map .str)))(hl:A.length<=100)(hn:n<=30)(hk:k<=1)
  (hq:∀q h',hp<+:h'->hp.length<=q->h'[q]?=aT (.list ((A++fz ss k n).map .str))->Q (.ref q) ⟨VL is r rows ce mo u5 rp (aT (.ref q7)) v8 v9 v10 v11 v12 (aT (.int k)) v14,h'⟩) :
  wpE K N (.bin .add (.idx (.var 6) (.var 13)) (.comp (.var 14) [14] bY .val [.idx (.var 7) (.var 13)] [.cmp .nin (.var 14) (.var 1)])) Q X ⟨VL is r rows ce mo u5 rp (aT (.ref q7)) v8 v9 v10 v11 v12 (aT (.int k)) v14,hp⟩:=by
 have oz:∀s∈zN k n,okS s:=λs hs=>by
  have h:=(Es k hn).subset hs;exact (Nat.le_one_iff_eq_zero_or_eq_one.mp hk).elim (λe=>(vx s (LC _ (e▸h))).1.ok) λe=>(vx s (Lx _ (e▸h))).1.ok
 refine af h6 (aF k e6 ?_);refine af h7 (aF k e7 ?_);refine aZ (bf ha7) ?_;refine lO (λz=>⟨VL is r rows ce mo u5 rp (aT (.ref q7)) v8 v9 v10 v11 v12 (aT (.int k)) z,hp⟩) (λj=>(((zN k n).take j).filter λs=>!ss.contains s).map .str) v14 rfl rfl (λ_=>ha7) (λj x z P hx h1 h2=>?_) (λz=>?_)
 ·refine e12 (jk hx) λs hs1 ex=>?_;rw [ex];refine af hr (cH (oz s (Lo hs1)) os ?_)
  cases q:ss.contains s with
  | true=>exact h2 _ (by rw [HC hs1 (by rw [q];rfl)])
  | false=>exact h1 _ _ (by rw [Hz hs1 (by rw [q];rfl),LK];rfl)
 ·rw [tO,Mr];have lf:(fz ss k n).length<=30:=iF (List.length_filter_le ..) (by rw [AQ];exact hn);refine af (aj ha) (af (ae _ _) ⟨dY (iF (Mt hl lf) (nb rfl)),?_⟩);exact hq _ _ (aa (aa (ai _))) (aa (ai _)).length_le (gz _ _ _)
end
theorem JJ {K:KT}{is:List Int}{r rp N q7:Nat}{rows:List Rw}{ce mo:Int}{u5 v8 v9 v10 v11 v12 v13 v14:Option MV}{hp:List MO}{Q:PQ}{X:XM}{ss A B:List (List Nat)}{a b a0 a1 n:Nat}(hr:hp[r]?=aT (.list (ss.map .str)))(os:∀s∈ss,okS s)(h6:hp[rp]?=aT (.list [.ref a,.ref b]))(h7:hp[q7]?=aT (.list [.ref a0,.ref a1]))(ha:hp[a]?=aT (.list (A.map .str)))(hb:hp[b]?=aT (.list (B.map .str)))(e0:hp[a0]?=aT (.list ((zN 0 n).map .str)))(e1:hp[a1]?=aT (.list ((zN 1 n).map .str)))(hA:A.length<=100)(hB:B.length<=100)(hn:n<=30)
  (hq:∀a' b' h',hp<+:h'->hp.length<=a'->hp.length<=b'->h'[a']?=aT (.list ((A++fz ss 0 n).map .str))->h'[b']?=aT (.list ((B++fz ss 1 n).map .str))->∀q,hp.length<=q->h'[q]?=aT (.list [.ref a',.ref b'])->Q (.ref q) ⟨VL is r rows ce mo u5 rp (aT (.ref q7)) v8 v9 v10 v11 v12 v13 v14,h'⟩) :
  wpE K N (.comp (.bin .add (.idx (.var 6) (.var 13)) (.comp (.var 14) [14] bY .val [.idx (.var 7) (.var 13)] [.cmp .nin (.var 14) (.var 1)])) [13] bY .range1 [.cst (.int 2)] []) Q X ⟨VL is r rows ce mo u5 rp (aT (.ref q7)) v8 v9 v10 v11 v12 v13 v14,hp⟩:=by
 refine DC trivial (AS (k:=0) hr os h6 h7 rfl ha rfl e0 hA hn (nb rfl) λq h1 p1 l1 c1=>DC trivial (AS (k:=1) (ak p1 hr) os (ak p1 h6) (ak p1 h7) rfl (ak p1 hb) rfl (ak p1 e1) hB hn (nb rfl) λq' h2 p2 l2 c2=>JH trivial ?_));exact hq _ _ _ (aa (p1.trans p2)) l1 (iF p1.length_le l2) (aj (ak p2 c1)) (aj c2) _ (p1.trans p2).length_le (ae _ _)
section
inductive Cp (n m:Nat)(hp:List MO)(A:List (List Nat))(x:MV):Prop
 | l (q:Nat) (e:x=.ref q) (l:n<=q) (lm:q<m) (k:hp[q]?=aT (.list (A.map .str)))
 | t (e:x=.tup (A.map .str))
theorem Cp.mv (h:Cp n m hp A x)(e:∀q o,n<=q->q<m->hp[q]?=aT o->hp'[q]?=aT o)(l:n'<=n)(lm:m<=m'):Cp n' m' hp' A x:=h.casesOn (λq eq a b k=>.l q eq (iF l a) (Lp b lm) (e q _ a b k)) .t
theorem Cp.d (h:Cp n m hp A x):∃d,Rd hp x d/\d.bl=aT (A.map .str):=h.casesOn (λq e _ _ k=>⟨.list (A.map .str),e▸d0 A k,rfl⟩) λe=>⟨.tup (A.map .str),e▸.tup (fT A),rfl⟩
noncomputable abbrev c4 (r rp ra rb:Nat) (ss A B:List (List Nat)):List (Nat × List MV):=[(r,ss.map .str),(rp,[.ref ra,.ref rb]),(ra,A.map .str),(rb,B.map .str)]
theorem Cs.l (C:Cs H (c4 r rp ra rb ss A B))(p:cR H ip A B rows):Pl5 H ip r rp ra rb ss A B rows:=⟨p,C.at 0 rfl,C.at 1 rfl,C.at 2 rfl,C.at 3 rfl⟩
theorem AU {K:KT}{M i:Nat}{m:MS}{v:MV}{a c r:List MSt}{Q:Fl->MS->Prop}{X:XM}(hv:m.get i=aT v)(ht:fk m.heap v .list=aT eQ)(h:aA K M a (wg (aA K M r) Q X) X m):aA K M (.ite (.isi (.var i) [.list]) a c::r) Q X m:=fg (K:=K) (n:=M) (X:=X) hv (aI ht h)
theorem AV {K:KT}{M i:Nat}{m:MS}{v:MV}{a c r:List MSt}{Q:Fl->MS->Prop}{X:XM}(hv:m.get i=aT v)(ht:fk m.heap v .list=aT bY)(h:aA K M c (wg (aA K M r) Q X) X m):aA K M (.ite (.isi (.var i) [.list]) a c::r) Q X m:=fg (K:=K) (n:=M) (X:=X) hv (aI ht h)
structure Ord (n0 m n5 n6:Nat)(cs:List (Nat × List MV)):Prop where
 m5:m<=n6
 c:∀c∈cs,(c.1<n0\/m<=c.1)/\c.1<n6
variable {K:KT}(hK:ar PP K)
include hK
section
variable {is:List Int}{ce mo:Int}{v7 v11 v12 v13 v14:Option MV}{n0 m n5 n6 n7 ip r rp ra rb M:Nat}{x8 x9 u5:MV}{ss A B:List (List Nat)}{rows:List Rw}{X:XM}(F:AF ss A B rows) (hM:40<M) (O:Ord n0 m n5 n6 (c4 r rp ra rb ss A B)) (l7:n7<=n5)
include F hM O l7
noncomputable abbrev VF (is:List Int) (r:Nat) (rows:List Rw) (ce mo:Int) (u5:MV) (rp:Nat) (v7:Option MV) (x8 x9:MV) (ip:Nat) (v11 v12 v13 v14:Option MV):List (Option MV):=VL is r rows ce mo (aT u5) rp v7 (aT x8) (aT x9) (aT (.inst 0 ip)) v11 v12 v13 v14
theorem vy {hp:List MO}(pr:∀hp',bU n5 hp hp'->cR hp' ip A B rows)(C:Cs hp (c4 r rp ra rb ss A B))(k9:Cp n6 n5 hp B x9):aA K M (cy.body.drop 14) (fin λv _=>v=.bool eQ) X ⟨VF is r rows ce mo u5 rp v7 x8 x9 ip v11 v12 v13 v14,hp⟩:=by
 refine k9.casesOn (λq e a b k=>?_) λe=>AV (v:=x9) rfl (by rw [e];rfl) (qf hK F (C.l (pr hp λ_ _ _ e=>e)) (n1 hM (by simp +arith only)) λ_ _=>rfl);refine AU (v:=x9) rfl (by rw [e];exact jY k) ?_;rw [e];have ok:gD .clear (.ref q) hp=eQ:=by show (nJ q hp[q]?).isSome=eQ;rw [k];rfl
 exact aw ok (bb (bd k) ⟨rfl,qf hK F ((C.set λc hc=>LY (Lp (O.c c hc).2 a)).l (pr _ (iM b))) (n1 hM (by simp +arith only)) λ_ _=>rfl⟩)
theorem Et {hp:List MO}(pr:∀hp',bU n5 hp hp'->cR hp' ip A B rows)(C:Cs hp (c4 r rp ra rb ss A B))(k8:Cp n6 n7 hp A x8)(k9:Cp n7 n5 hp B x9)(l6:n6<=n7):aA K M (cy.body.drop 13) (fin λv _=>v=.bool eQ) X ⟨VF is r rows ce mo u5 rp v7 x8 x9 ip v11 v12 v13 v14,hp⟩:=by
 refine k8.casesOn (λq e a b k=>?_) λe=>AV (v:=x8) rfl (by rw [e];rfl) (vy hK F hM O l7 pr C (k9.mv (λ_ _ _ _ e=>e) l6 (nO _)));refine AU (v:=x8) rfl (by rw [e];exact jY k) ?_;rw [e];have e5:=bK (show 5<(ss.map MV.str).length by rw [tO,F.sl];exact nb rfl);refine aw (bh k) (af (C.at 0 rfl) (aF 5 e5 (bb (bd k) ⟨by rw [tO];exact IT (iF (LQ _ _) F.lA) (nb rfl),?_⟩)));exact vy hK F hM O l7 (λhp' s=>pr hp' λi o li ei=>s i o li (iM (Lp b l7) i o li ei)) (C.set λc hc=>LY (Lp (O.c c hc).2 a)) (k9.mv (λq' o a' _ e=>aH (Mn (Lp b a')) e) l6 (nO _))
theorem JK {w:Bool}{hp:List MO}(pr:∀hp',bU n5 hp hp'->cR hp' ip A B rows)(C:Cs hp (c4 r rp ra rb ss A B))(hu:hbl w hp rows n0 m u5)(k8:Cp n6 n7 hp A x8)(k9:Cp n7 n5 hp B x9)(l6:n6<=n7)(hl:(lns rows).length<=1000):aA K M (cy.body.drop 12) (fin λv _=>v=.bool eQ) X ⟨VF is r rows ce mo u5 rp v7 x8 x9 ip v11 v12 v13 v14,hp⟩:=by
 refine e23 hu λj xs l h1 h2=>?_
 cases w with
 | true=>exact AV (v:=u5) rfl (by rw [show u5=_ from h1];rfl) (Et hK F hM O l7 pr C k8 k9 l6)
 | false=>
  refine AU (v:=u5) rfl (by rw [h1.1];exact jY h1.2) (xI hK rows hu (iF hl (nb rfl)) (n2 F.n hM (by simp +arith only)) λh' k=>?_);have up:∀q o,n6<=q->hp[q]?=aT o->h'[q]?=aT o:=λq o a e=>k q o (.inr (iF O.m5 a)) e;exact Et hK F hM O l7 (λhp' s=>pr hp' λi o li ei=>s i o li (up i o (iF l6 (iF l7 li)) ei)) (λc hc=>k _ _ (O.c c hc).1 (C c hc)) (k8.mv (λq o a _ e=>up q o a e) (nO _) (nO _)) (k9.mv (λq o a _ e=>up q o (iF l6 a) e) (nO _) (nO _)) l6
end
end
section
variable {K:KT}(hK:ar PP K)
include hK
section
variable {is:List Int}{ce mo:Int}{v7 v11 v12 v13 v14:Option MV}{n0 m n6 n7 ip r rp ra rb M:Nat}{x8 x9 u5:MV}{ss A B:List (List Nat)}{rows:List Rw}{X:XM}{h:List MO}(F:AF ss A B rows) (hM:40<M) (O:Ord n0 m h.length n6 (c4 r rp ra rb ss A B))
include F hM O
theorem JL {w:Bool}(C:Cs h (c4 r rp ra rb ss A B))(hu:hbl w h rows n0 m u5)(k8:Cp n6 n7 h A x8)(k9:Cp n7 h.length h B x9)(l6:n6<=n7)(l7:n7<=h.length)(hl:(lns rows).length<=1000) :
  aA K M (cy.body.drop 10) (fin λv _=>v=.bool eQ) X ⟨VL is r rows ce mo (aT u5) rp v7 (aT x8) (aT x9) iD v11 v12 v13 v14,h⟩:=by
 obtain ⟨M,rfl⟩:∃M',M=M'+1:=⟨M-1,sb (n1 hM (by simp +arith only))⟩
 refine e12 k8.d λdO r8 b8=>e12 k9.d λdS r9 b9=>e23 (Hx rows hu) λd ds ru bu du=>?_;have o8:=jT (tT rows du F.g F.n) [];rw [LJ] at o8;refine e02 (Ek (b:=d.bl) F.a F.b F.nd b8 b9) λv1 v2=>?_;have e0:vd dO dS d.bl=0:=by rw [v2,bu];exact congrArg Rs.n (o8.1:ro 8 ds=.ok)
 have z:∀{d:D} {l:List (List Nat)},d.bl=aT (l.map .str)->l.length<=300->d.sz<=40000:=λ{d l} e h=>by unfold D.sz;rw [e];show (l.map D.str).length<=_;rw [tO];exact iF h (nb rfl)
 refine vc hK (A:=A) (B:=B) (rows:=rows) r8 (pW b8 (cA F.a)) r9 (pW b9 (cA F.b)) (.data d ru (pW bu o8.2) rfl) (z b8 (iF (LQ _ _) F.lA)) (z b9 (iF (Nl _ _) F.lA)) (λ_=>⟨v1.1,v1.2,⟨ds,bu,du⟩,iF hl (nb rfl),F.n⟩) (n1 hM (by simp +arith only)) (λ_ h1 p1 pr=>?_) (λe=>absurd e0 e);refine qf hK F ((C.up p1).l (pr h1 λ_ _ _ e=>e)) (n1 hM (by simp +arith only)) λh2 p2=>?_;have pp:=p1.trans p2;exact JK hK F hM O l7 (w:=w) (λhp' s=>pr hp' λi o li ei=>s i o li (ak p2 ei)) (C.up pp) (hbl.up hu (.pre pp) (nO _) (nO _)) (k8.mv (λ_ _ _ _ e=>ak pp e) (nO _) (nO _)) (k9.mv (λ_ _ _ _ e=>ak pp e) (nO _) (nO _)) l6 hl
end
end
section
theorem rS (h:∀s,p s->q s)(rs:List Rw):gps p rs->gps q rs:=
 Rw.rec_1 (motive_1:=λr=>r.gp p->r.gp q) (motive_2:=λrs=>gps p rs->gps q rs) (λ_ _ x=>⟨h _ x.1,x.2.1.mono h,x.2.2⟩) (λ_ x=>⟨x.1.mono h,x.2⟩) id (λ_ _ _ ia ib x=>⟨⟨x.1.1.mono h,x.1.2⟩,ia x.2.1,ib x.2.2⟩) (λ_ _ ia x=>⟨⟨x.1.1.mono h,x.1.2⟩,ia x.2⟩) id (λ_ _ i1 i2 x=>⟨i1 x.1,i2 x.2⟩) rs
noncomputable def PB (K:KT)(n:Nat)(X:XM)(m:MS)(e:ME):Prop:=∀Q:PQ,(∀b,Q (.bool b) m)->wpE K n e Q X m
theorem t7:∀{es:List ME},es≠[]->(∀e∈es,PB K n X m e)->PB K n X m (.and es)
 | [],h,_=>absurd rfl h
 | [e],_,h=>λQ hq=>h e (.head _) Q hq
 | e::e'::es,_,h=>λQ hq=>by
  have ih:=t7 (es:=e'::es) (M2 _ _) λx hx=>h x (.tail _ hx);refine h e (.head _) _ λb=>?_;refine bV (λ_=>?_) λ_=>?_
  ·exact ih Q hq
  ·exact hq bY
theorem Eu:∀{es:List ME},es≠[]->(∀e∈es,PB K n X m e)->PB K n X m (.or es)
 | [],h,_=>absurd rfl h
 | [e],_,h=>λQ hq=>h e (.head _) Q hq
 | e::e'::es,_,h=>λQ hq=>by
  have ih:=Eu (es:=e'::es) (M2 _ _) λx hx=>h x (.tail _ hx);refine h e (.head _) _ λb=>?_;refine bV (λ_=>?_) λ_=>?_
  ·exact hq eQ
  ·exact ih Q hq
theorem ie (ha:PB K n X m a)(hb:PB K n X m b):PB K n X m (.and [a,b])/\PB K n X m (.or [a,b]):=by
 have h:∀e∈[a,b],PB K n X m e:=λe he=>by
  rcases Lu.mp he with rfl | he
  ·exact ha
  ·rw [oF.mp he];exact hb
 exact ⟨t7 (M2 _ _) h,Eu (M2 _ _) h⟩
theorem AW (ha:PB K n X m a)(hb:PB K n X m b)(hc:PB K n X m c):PB K n X m (.and [a,b,c]):=t7 (M2 _ _) λe he=>by
  rcases Lu.mp he with rfl | he
  ·exact ha
  ·rcases Lu.mp he with rfl | he
   ·exact hb
   ·rw [oF.mp he];exact hc
theorem AX (ha:PB K n X m a):PB K n X m (.not a):=λQ hq=>ha _ λb=>hq _
theorem eW (hc:PB K n X m c)(ha:aA K n a Q X m)(hb:aA K n b Q X m):wpS K n (.ite c a b) Q X m:=
 hc _ λt=>by
  refine bV (λ_=>?_) λ_=>?_
  ·exact ha
  ·exact hb
theorem qh (hv:m.get i=aT (.int x))(ha:0<a/\a<2 ^ 30)(hb:0<b)(op:Cmp)(hop:op=.eq\/op=.gt):PB K n X m (.cmp op (.bin .mod (.bin .fdiv (.var i) (.cst (.int a))) (.cst (.int b))) (.cst (.int c))):=λQ hq=>by
 show wpE K n (.var i) _ X m;refine fg hv ?_;refine aw (decide_eq_true ha) ?_;refine aw (decide_eq_true hb) ?_
 rcases hop with rfl | rfl
 ·exact hq _
 ·exact hq _
theorem dh (hv:m.get i=aT (.int x))(op:Cmp)(hop:op=.eq\/op=.gt\/op=.lt):PB K n X m (.cmp op (.var i) (.cst (.int c))):=λQ hq=>by
 show wpE K n (.var i) _ X m;refine fg hv ?_
 rcases hop with rfl | rfl | rfl
 ·exact hq _
 ·exact hq _
 ·exact hq _
theorem kC (hv:m.get i=aT (.bool x)):PB K n X m (.var i):=λQ hq=>by
 exact fg hv (hq _)
variable (hK:ar PP K)
include hK
noncomputable def nG (ss:List (List Nat))(hp:List MO)(i:Nat):Prop:=∃sl:List (List Nat),hp[i]?=aT (.list (sl.map .str))/\∀s∈sl,s∈ss
omit hK in
theorem nG.up (h:nG ss hp i)(e:hp<+:hp'):nG ss hp' i:=e12 h λsl h1 h2=>⟨sl,ak e h1,h2⟩
omit hK in
theorem qi (hp:List MO)(k:Nat):nG ss (hp++[.list ((ss.map MV.str).drop k)]) hp.length:=⟨ss.drop k,by rw [ae,OD],λs hs=>MX hs⟩
omit hK in
theorem qj (hp:List MO)(k:Nat):nG ss (hp++[.list ((ss.map MV.str).take k)]) hp.length:=⟨ss.take k,by rw [ae,Oa],λs hs=>Mp hs⟩
theorem DD {ss:List (List Nat)}{h:List MO}(hr:h[r]?=aT (.list (ss.map .str)))(hs:∀s∈ss,Gn s)(hN:8<=N)(hq:∀(h':List MO) (t:Tm) (b:Bool),h<+:h'->t.gp (·∈ss)->Q (.tup [t.mv,.bool b]) h') :
  K N 38 [.ref r,.int more,.bool dark,.int mode] Q X h:=by
 obtain ⟨M,rfl,hM⟩:=room (k:=7) (show 7<N by lia);have last:∀hp i4 i5,h<+:hp->nG ss hp i4->nG ss hp i5->aA K M (bN.body.drop 4) (fin Q) (xin X) ⟨[aT (.ref r),aT (.int more),aT (.bool dark),aT (.int mode),aT (.ref i4),aT (.ref i5),iD,iD],hp⟩:=by
  intro hp i4 i5 hpre h4 h5;refine e12 h4 λs4 e4 m4=>?_;refine e12 h5 λs5 e5 m5=>?_;have go:∀d:Bool,aA K M [.asg [6] bY (.call 11 [.var 1,.var 5,.var 4,.cst (.bool d),.bin .add (.cst (.int 1)) (.bin .mod (.bin .fdiv (.var 1) (.cst (.int 24))) (.cst (.int 4)))]),bN.body.getLast (by decide)] (fin Q) (xin X) ⟨[aT (.ref r),aT (.int more),aT (.bool dark),aT (.int mode),aT (.ref i4),aT (.ref i5),iD,iD],hp⟩:=by
   intro d;have hL:0<=more / 24 % 4/\more / 24 % 4<4:=em rfl;obtain ⟨M',rfl⟩:∃M',M=M'+(more / 24 % 4).toNat+2:=⟨M-(more / 24 % 4).toNat-2,by rw [Pr,Nat.sub_sub,Nq (iF (MG (LM (emN (n:=4) rfl)) 2) (iF (nb rfl) hM))]⟩
   refine xw hK (more / 24 % 4).toNat (by rw [Pp hL.1,Ru]) e5 e4 (λs h=>(hs s (m5 s h)).1.ok) (λs h=>(hs s (m4 s h)).1.ok) λt h1 ht hd hpre1=>?_;have hg':t.gp (·∈ss):=⟨ht.mono λs h=>h.elim (m5 s) (m4 s),iF hd (LR (emN (n:=4) rfl))⟩
   have hg:t.good:=⟨ht.mono λs h=>h.elim (λh=>hs s (m5 s h)) λh=>hs s (m4 s h),iF hd (LR (emN (n:=4) rfl))⟩
   have hpre1:hp<+:h1:=hpre1;refine Eo hK t (n1 hd (by simp +arith only)) (iF hg.lv (nb rfl)) λi h2 p2 e2=>?_;have p2:h1<+:h2:=p2;refine aZ (bf e2) ?_;have hpre2:=(hpre.trans hpre1).trans p2;refine u3 (λw:Option MV × List MO=>⟨[aT (.ref r),aT (.int more),aT (.bool dark),aT (.int mode),aT (.ref i4),aT (.ref i5),aT t.mv,w.1],w.2⟩) (λw=>h2<+:w.2) (iD,_) rfl (ai _) (λw h=>ak h e2) (λj y w P hy hp1 h1 h2'=>?_) (λa w hp1=>?_)
   ·obtain ⟨s,es,rfl⟩:=LF.mp (LG ..▸hy);refine af (ak (hpre2.trans hp1) hr) ?_
    conv=>whnf
    dsimp only [MS.set,MS.push];rw [ae]
    conv=>whnf
    rw [cg (by decide),<-OD];refine cH (rN hg.1 s (Lo es)).1.ok (λs h=>(hs s (MX h)).1.ok) ?_;refine bV (λ_=>?_) λ_=>?_
    ·exact h1 _ (_,_) (aa hp1)
    ·exact h2' (_,_) (aa hp1)
   ·exact .nil _ _ a rfl rfl (aj (ae _ _)) (ae _ _) (hq _ t _ (aa (aa (hpre2.trans hp1))) hg')
  refine bV (λ_=>?_) λ_=>?_
  ·exact go eQ
  ·cases dark with
   | true=>exact go bY
   | false=>exact go eQ
 have third:∀hp i4 i5,h<+:hp->nG ss hp i4->nG ss hp i5->aA K M (bN.body.drop 3) (fin Q) (xin X) ⟨[aT (.ref r),aT (.int more),aT (.bool dark),aT (.int mode),aT (.ref i4),aT (.ref i5),iD,iD],hp⟩:=by
  intro hp i4 i5 hpre h4 h5;exact eW (dh rfl .gt (.inr (.inl rfl))) (last hp i5 i5 hpre h5 h5) (last hp i4 i5 hpre h4 h5)
 have second:∀hp i4,h<+:hp->nG ss hp i4->aA K M (bN.body.drop 2) (fin Q) (xin X) ⟨[aT (.ref r),aT (.int more),aT (.bool dark),aT (.int mode),aT (.ref i4),aT (.ref r),iD,iD],hp⟩:=by
  intro hp i4 hpre h4;have hr':=ak hpre hr;refine eW (ie (ie (dh rfl .eq (.inl rfl)) (qh rfl (by decide) (by decide) .eq (.inl rfl))).1 (AW (dh rfl .eq (.inl rfl)) (kC rfl) (qh rfl (by decide) (by decide) .gt (.inr rfl)))).2 (third _ _ _ hpre h4 h4) ?_;refine eW (dh rfl .eq (.inl rfl)) ?_ (third _ _ _ hpre h4 ⟨ss,hr',λs h=>h⟩);refine af hr' ?_;rw [cg (by decide)];exact third _ _ _ (aa hpre) (h4.up (aa (ai _))) (qi _ _)
 refine hK _ _ _ _ _ _ bN rfl rfl ?_;refine af hr ?_;have e:nG ss (h++[.list (aC (ss.map MV.str) iD (aT 5))]) h.length:=by rw [dB (by decide)];exact qj h _
 exact second _ _ (aa (ai h)) e
end
section
set_option genCtorIdx false in
structure Fr where
 a:Nat
 ra:Nat
 wd:List Nat
 t:Option Tm
 rows:List Rw
 sec:Bool
 fst:Option (List Rw)
noncomputable def oT:Option Tm->MV
 | none=>.none
 | some t=>t.mv
noncomputable def oR:Option (List Rw)->MV
 | none=>.none
 | some rs=>.tup (mvs rs)
noncomputable def Fr.cells (f:Fr):List MV:=[.str f.wd,oT f.t,.ref f.ra,.bool f.sec,oR f.fst]
noncomputable def nH (hp:List MO)(f:Fr):Prop:=hp[f.a]?=aT (.list f.cells)/\hp[f.ra]?=aT (.list (mvs f.rows))
noncomputable def di (fs:List Fr):List MV:=fs.map λf=>.ref f.a
structure Stk (L:Nat)(hp:List MO)(st:Nat)(fs:List Fr):Prop where
 at_:hp[st]?=aT (.list (di fs))
 fr:∀f∈fs,nH hp f
 pw:fs.Pairwise λf g=>f.a<g.ra
 ne:∀f∈fs,f.ra<f.a/\f.ra≠st/\f.a≠st/\L<=f.ra
 lo:L<=st
theorem nH.set (h:nH hp f)(h1:i≠f.a)(h2:i≠f.ra):nH (hp.set i o) f:=⟨aH h1 h.1,aH h2 h.2⟩
theorem nH.up (h:nH hp f)(e:hp<+:hp'):nH hp' f:=⟨ak e h.1,ak e h.2⟩
section
theorem Stk.up (h:Stk L hp st fs)(e:hp<+:hp'):Stk L hp' st fs:=⟨ak e h.at_,λf hf=>(h.fr f hf).up e,h.pw,h.ne,h.lo⟩
theorem Stk.other (h:Stk L hp st fs)(h1:i≠st)(h2:∀f∈fs,i≠f.a/\i≠f.ra):Stk L (hp.set i o) st fs:=⟨aH h1 h.at_,λf hf=>(h.fr f hf).set (h2 f hf).1 (h2 f hf).2,h.pw,h.ne,h.lo⟩
theorem Stk.last (h:Stk L hp st (gs++[f])):∀g∈gs,g.a<f.ra:=λg hg=>(LH.mp h.pw).2.2 g hg f (oF.mpr rfl)
theorem Stk.pop (h:Stk L hp st (gs++[f])):Stk L (hp.set st (.list (di gs))) st gs/\nH (hp.set st (.list (di gs))) f:=by
 have hm:∀g∈gs,g∈gs++[f]:=λg hg=>LC _ hg;have hf:f∈gs++[f]:=Lx _ (oF.mpr rfl);exact ⟨⟨get_set h.at_,λg hg=>(h.fr g (hm g hg)).set (h.ne g (hm g hg)).2.2.1.symm (h.ne g (hm g hg)).2.1.symm,(LH.mp h.pw).1,λg hg=>h.ne g (hm g hg),h.lo⟩,(h.fr f hf).set (h.ne f hf).2.2.1.symm (h.ne f hf).2.1.symm⟩
theorem Stk.push (h:Stk L hp st gs)(hf:nH hp f)(h1:∀g∈gs,g.a<f.ra)(h2:f.ra<f.a/\f.ra≠st/\f.a≠st/\L<=f.ra):Stk L (hp.set st (.list (di gs++[.ref f.a]))) st (gs++[f]):=by
 refine ⟨?_,λg hg=>?_,LH.mpr ⟨h.pw,Nw ..,λg hg x hx=>by rw [oF.mp hx];exact h1 g hg⟩,λg hg=>?_,h.lo⟩
 ·rw [show di (gs++[f])=di gs++[.ref f.a] by simp [di]];exact get_set h.at_
 ·rcases Lg.mp hg with hg | hg
  ·exact (h.fr g hg).set (h.ne g hg).2.2.1.symm (h.ne g hg).2.1.symm
  ·rw [oF.mp hg];exact hf.set h2.2.2.1.symm h2.2.1.symm
 ·rcases Lg.mp hg with hg | hg
  ·exact h.ne g hg
  ·rw [oF.mp hg];exact h2
theorem Stk.add (h:Stk L hp st (gs++[f]))(r:Rw):Stk L (hp.set f.ra (.list (mvs f.rows++[r.mv]))) st (gs++[{ f with rows:=f.rows++[r] }]):=by
 have hf:f∈gs++[f]:=Lx _ (oF.mpr rfl);have hn:=h.ne f hf;have hl:=h.last;have hm:∀g∈gs,g∈gs++[f]:=λg hg=>LC _ hg;refine ⟨?_,λg hg=>?_,?_,λg hg=>?_,h.lo⟩
 ·have:=aH (o':=.list (mvs f.rows++[r.mv])) hn.2.1 h.at_;rw [this];simp [di]
 ·rcases Lg.mp hg with hg | hg
  ·have h1:=hl g hg;have h2:=(h.ne g (hm g hg)).1;exact (h.fr g (hm g hg)).set (LY h1) (LY (n2 h2 h1 (by simp +arith only)))
  ·rw [oF.mp hg];refine ⟨aH (by show f.ra≠f.a;exact Mn (n1 hn.1 (by simp +arith only))) (h.fr f hf).1,?_⟩;rw [lM];exact get_set (h.fr f hf).2
 ·have:=LH.mp h.pw;exact LH.mpr ⟨this.1,Nw ..,λg hg x hx=>by rw [oF.mp hx];exact hl g hg⟩
 ·rcases Lg.mp hg with hg | hg
  ·exact h.ne g (hm g hg)
  ·rw [oF.mp hg];exact hn
end
structure FOk (p:List Nat->Prop)(i:Nat)(f:Fr):Prop where
 good:gps p f.rows
 nest:ay f.rows+i<=7
 fst:∀rs,f.fst=aT rs->gps p rs/\ay rs+i<=7
 kind:i=0\/∃t,f.t=aT t/\t.gp p/\(f.wd=wIf\/(f.wd=aU/\f.fst=iD))
noncomputable def Oks (p:List Nat->Prop)(fs:List Fr):Prop:=∀i f,fs[i]?=aT f->FOk p i f
noncomputable def Fr.wt (f:Fr):Nat:=(lns f.rows).length+(match f.fst with
 | some rs=>(lns rs).length
 | none=>0)+4
noncomputable def wts (fs:List Fr):Nat:=(fs.map Fr.wt).sum
noncomputable def Fr.cl (f:Fr):Nat:=match f.fst with
 | none=>if f.wd=wIf then 2 else 1
 | some _=>1
noncomputable def cls (fs:List Fr):Nat:=(fs.map Fr.cl).sum
theorem ci (gs:List Fr)(f:Fr):wts (gs++[f])=wts gs+f.wt:=by simp [wts]
theorem ig (gs:List Fr)(f:Fr):cls (gs++[f])=cls gs+f.cl:=by simp [cls]
theorem Oks.init (h:Oks p (gs++[f])):Oks p gs/\FOk p gs.length f:=
 ⟨λi g e=>h i g (aj e),h _ _ (ae gs f)⟩
theorem Oks.snoc (h:Oks p gs)(hf:FOk p gs.length f):Oks p (gs++[f]):=λi g e=>by
 refine MN (OU i gs.length) (λq=>?_) λq=>?_
 ·rw [Ms q] at e;exact h i g e
 ·have hi:i<(gs++[f]).length:=(By.mp e).1;rw [iN,NK] at hi;have:i=gs.length:=Ou (LR hi) q;subst this;rw [ae] at e;cases e;exact hf
theorem FOk.add (h:FOk p i f)(hg:r.gp p)(hn:r.nest+i<=7):FOk p i { f with rows:=f.rows++[r] }:=by
 refine ⟨uZ h.good ⟨hg,trivial⟩,?_,h.fst,h.kind⟩;have h1:=h.nest;have:ay (f.rows++[r])<=7-i:=km (Nat.le_sub_of_add_le h1) (mx0 (Nat.le_sub_of_add_le hn));exact Nat.add_le_of_le_sub (n1 h1 (by simp +arith only)) this
theorem AY (f:Fr)(r:Rw):({ f with rows:=f.rows++[r] }:Fr).wt=f.wt+r.lines.length:=by
 unfold Fr.wt;dsimp only;rw [pP,u0,iN];exact by simp +arith only
theorem qk (h:l≠[]):∃gs f,l=gs++[f]:=⟨l.dropLast,l.getLast h,(List.dropLast_concat_getLast h).symm⟩
variable (hK:ar PP K)
include hK
omit hK in
theorem HD (e:hp[r]?=aT (.list xs)):gD .pop (.ref r) hp=eQ:=by
 show (nJ r hp[r]?).isSome=eQ;rw [e];rfl
omit hK in
theorem vz {f:Fr}(h:f.wt<=B)(hB:B<=2000):(mvs f.rows).length<line:=by
 have h1:=iL f.rows;have h2:(lns f.rows).length<=f.wt:=by unfold Fr.wt;exact by simp +arith only
 exact Lp (show (mvs f.rows).length<2001 by rw [fh];lia) (aQ (by decide))
noncomputable abbrev kD (e:ME):MSt:=.expr (.mth .append (.idx (.idx (.var 0) (.neg (.cst (.int 1)))) (.cst (.int 2))) [e])
omit hK in
theorem xJ (gs:List α)(f:α):jc (-1) (gs++[f]).length=aT gs.length:=by
 rw [iN,NK];unfold jc;rw [decide_eq_false (show ¬ (0:Int)<=-1 by decide),decide_eq_true (show -(((gs.length+1:Nat)):Int)<=-1 by lia)];show aT (-1+((gs.length+1:Nat):Int)).toNat=aT gs.length;congr 1;lia
omit hK in
theorem ql {hp:List MO}{f:Fr}(S:Stk L hp st (gs++[f]))(hB:f.wt<=B)(hB':B<=2000){r:Rw}(he:∀Q:PQ,Q r.mv ⟨aT (.ref st)::vs,hp⟩->wpE K M e Q X ⟨aT (.ref st)::vs,hp⟩)
  (hq:Q .next ⟨aT (.ref st)::vs,hp.set f.ra (.list (mvs f.rows++[r.mv]))⟩):wpS K M (kD e) Q X ⟨aT (.ref st)::vs,hp⟩:=by
 have hf:=S.fr f (Lx _ (oF.mpr rfl));have e1:di (gs++[f])=di gs++[.ref f.a]:=by simp [di]
 conv=>whnf
 dsimp only;rw [S.at_,e1];delta cS onO;try dsimp only
 rw [xJ];dsimp only;rw [ae];refine af hf.1 ?_;refine aw (bh hf.2) ?_;refine he _ ?_;refine bb (bd hf.2) ?_;exact ⟨vz hB hB',hq⟩
omit hK in
theorem Tm.first (t:Tm):∃s r,t.mv=.tup (.str s::r)/\s=(match t with | .num _=>iP | .nm _=>eH | .op c _ _=>[c]):=by
 cases t<;>exact ⟨_,_,rfl,rfl⟩
theorem rU {p:List Nat->Prop}{L st:Nat}{hp:List MO}{gs:List Fr}{f:Fr}{B N:Nat}(S:Stk L hp st (gs++[f]))(O:Oks p (gs++[f]))(hg:gs≠[])(hB:wts (gs++[f])<=B)(hB':B<=2000){Q:MV->List MO->Prop}{X:XT}
  (hq:∀hp' fs',Stk L hp' st fs'->Oks p fs'->fs'≠[]->fs'.length<=(gs++[f]).length->wts fs'<=wts (gs++[f])->cls fs'<cls (gs++[f])->(∀h0:List MO,h0.length<=L->h0<+:hp->h0<+:hp')->Q .none hp'):K (N+1) 39 [.ref st] Q X hp:=by
 refine e02 S.pop λS1 F1=>?_;refine e02 O.init λO1 hf=>?_;have e1:di (gs++[f])=di gs++[.ref f.a]:=by simp [di]
 have hlo:=S.lo;have hfm:f∈gs++[f]:=Lx _ (oF.mpr rfl);have hn:=S.ne f hfm;have hlast:=S.last;refine e13 (hf.kind.resolve_left (λq=>hg (List.eq_nil_of_length_eq_zero q))) λt et ht hkind=>?_;refine e21 (qk hg) λgs' g eg=>?_;rw [ci] at hB;have hsz:∀h0:List MO,h0.length<=L->h0<+:hp->h0<+:hp.set st (.list (di gs)):=λh0 h1 h2=>br h2 (n2 h1 hlo (by simp +arith only));refine hK _ _ _ _ _ _ fA rfl rfl ?_;refine aw (HD S.at_) ?_;refine ⟨rfl,?_⟩;refine bb (bd S.at_) ?_;refine ⟨rfl,?_⟩;rw [e1];refine aI (a:=.ref f.a) (by simp) ?_;rw [Qd];change aA K N (fA.body.drop 1) (fin Q) _ ⟨[aT (.ref st),aT (.ref f.a)],hp.set st (.list (di gs))⟩;generalize hp.set st (.list (di gs))=hp1 at *;have fin_row:∀(hp2:List MO) (r:Rw),Stk L hp2 st gs->(∀h0:List MO,h0.length<=L->h0<+:hp->h0<+:hp2)->r.gp p->r.nest+gs'.length<=7->r.lines.length<=f.wt->Q .none (hp2.set g.ra (.list (mvs g.rows++[r.mv]))):=by
  intro hp2 r S2 h2 hr hnr hl;subst eg;have hgm:g∈gs'++[g]:=Lx _ (oF.mpr rfl);have hgl:=(S2.ne g hgm).2.2.2;refine e02 O1.init λO2 hg2=>?_;refine hq _ _ (S2.add r) (O2.snoc (hg2.add hr hnr)) (by simp) (by simp) ?_ ?_ λh0 q1 q2=>br (h2 h0 q1 q2) (n2 q1 hgl (by simp +arith only))
  ·rw [ci,ci,ci,AY];exact n1 hl (by simp +arith only)
  ·rw [ig,ig,ig];have:({ g with rows:=g.rows++[r] }:Fr).cl=g.cl:=rfl;rw [this];have:1<=f.cl:=by unfold Fr.cl;split<;>(try split)<;>exact nb rfl
   exact n1 this (by simp +arith only)
 have hgl:gs.length=gs'.length+1:=by rw [eg];simp
 have hwt:(lns f.rows).length+4<=f.wt:=by unfold Fr.wt;exact by simp +arith only
 have hnest:=hf.nest;have hgw:g.wt<=B:=by rw [eg,ci] at hB;exact n1 hB (by simp +arith only)
 have cell:f.cells=[.str f.wd,t.mv,.ref f.ra,.bool f.sec,oR f.fst]:=by unfold Fr.cells;rw [et];rfl
 have hfc:=F1.1;rw [cell] at hfc
 rcases hkind with hwd | ⟨hwd,hfst⟩
 ·rw [hwd] at hfc;refine af hfc ?_;refine af hfc ?_
  conv=>whnf
  cases hfs:f.fst with
  | none=>
   rw [hfs] at hfc;refine aw (bh S1.at_) ?_;refine af hfc ?_;refine af hfc ?_;refine af (aj hfc) ?_;refine af (aj hfc) ?_;refine af (aj F1.2) ?_;have hlt:∀{i o},hp1[i]?=aT o->i<hp1.length:=λe=>(By.mp e).1;have hst:=hlt S1.at_;have F2:nH (hp1++[.list []]++[.list [.str wIf,t.mv,.ref hp1.length,.bool f.sec,.tup (mvs f.rows)]]) ⟨(hp1++[MO.list []]).length,hp1.length,wIf,aT t,[],f.sec,aT f.rows⟩:=⟨ae _ _,aj (ae _ _)⟩
   have hup:hp1<+:hp1++[.list []]++[.list [.str wIf,t.mv,.ref hp1.length,.bool f.sec,.tup (mvs f.rows)]]:=aa (aa (ai _));have S2:=(S1.up hup).push F2 (λg hg=>hlt (S1.fr g hg).1) ⟨by show hp1.length<(hp1++[MO.list []]).length;simp,by show hp1.length≠st;exact LY hst,by show (hp1++[MO.list []]).length≠st;simp;exact LY (n1 hst (by simp +arith only)),by show L<=hp1.length;exact n2 hst hlo (by simp +arith only)⟩;refine bb (bd (ak hup S1.at_)) ?_;have hsz2:gs.length<=8:=n1 hnest (by simp +arith only);refine ⟨Lp (show (di gs).length<9 by simp [di];exact n1 hsz2 (by simp +arith only)) (aQ (by decide)),?_⟩;refine hq _ _ S2 (O1.snoc ⟨trivial,by show 0+gs.length<=7;exact n1 hnest (by simp +arith only),λrs e=>by cases e;exact ⟨hf.good,hnest⟩,.inr ⟨t,rfl,ht,.inl rfl⟩⟩) (by simp) (by simp) ?_ ?_ λh0 q1 q2=>br ((hsz h0 q1 q2).trans hup) (n2 q1 hlo (by simp +arith only))
   ·rw [ci,ci];show wts gs+(0+(lns f.rows).length+4)<=_;exact n1 hwt (by simp +arith only)
   ·rw [ig,ig];show cls gs+1<_;have:f.cl=2:=by unfold Fr.cl;rw [hfs,hwd];rfl
    exact n1 (Lw this.symm) (by simp +arith only)
  | some rs=>
   rw [hfs] at hfc;have hrs:=hf.fst rs hfs;show wpS K N (kD _) _ _ _;subst eg;refine ql (r:=.ite t rs f.rows) S1 hgw hB' (λQ hq=>?_) ?_
   ·conv=>whnf
    refine af hfc ?_;refine af hfc ?_;refine af hfc ?_;refine af F1.2 ?_;exact hq
   ·refine fin_row hp1 (.ite t rs f.rows) S1 hsz ⟨ht,hrs.1,hf.good⟩ ?_ ?_
    ·show max (ay rs) (ay f.rows)+1+gs'.length<=7;have:=mx hrs.2 hnest;rw [Nat.add_max_add_right,iN] at this;exact n1 this (by simp +arith only [NK])
    ·show ((lns rs++rC::(lns f.rows++[nP])).length+1)<=f.wt;unfold Fr.wt;rw [hfs,iN,MD,iN,NK];exact by simp +arith only
 ·rw [hwd,hfst] at hfc;have wrest:∀(hp2:List MO) (rows:List Rw),Stk L hp2 st gs->(∀h0:List MO,h0.length<=L->h0<+:hp->h0<+:hp2)->hp2[f.a]?=aT (.list [.str aU,t.mv,.ref f.ra,.bool f.sec,.none])->hp2[f.ra]?=aT (.list (mvs rows))->gps p rows->ay rows+gs.length<=7->(lns rows).length<=(lns f.rows).length+1->
    aA K N [kD (.tup [.cst (.str aU),.idx (.var 1) (.cst (.int 1)),.blt .tuple [.idx (.var 1) (.cst (.int 2))]])] (fin Q) (xin X) ⟨[aT (.ref st),aT (.ref f.a)],hp2⟩:=by
   intro hp2 rows S2 h2 e1 e2 hgr hnr hlr;have S2':=S2;rw [eg] at S2';refine ql (r:=.wh t rows) S2' hgw hB' (λQ hq=>?_) ?_
   ·conv=>whnf
    refine af e1 ?_;refine af e1 ?_;refine af e2 ?_;exact hq
   ·refine fin_row hp2 (.wh t rows) S2 h2 ⟨ht,hgr⟩ (by show ay rows+1+gs'.length<=7;exact n2 hnr (Lw hgl.symm) (by simp +arith only)) ?_;show ((lns rows++[nP]).length+1)<=f.wt;rw [iN,NK];exact n2 hlr hwt (by simp +arith only)
  have hend:=wrest hp1 f.rows S1 hsz hfc F1.2 hf.good hnest (N8 _);refine af hfc ?_;refine af hfc ?_
  cases t with
  | num k=>exact hend
  | nm s=>exact hend
  | op c a b=>
   refine xZ (λq=>?_) λq=>?_
   ·exact hend
   ·refine af hfc ?_
    cases a with
    | num k=>exact hend
    | op c' x y=>
     refine fq (show ([c']==eH)=bY by simp) ?_;exact hend
    | nm s=>
     have hs:p s:=ht.1.2.1;refine af hfc ?_;refine aw (bh F1.2) ?_;refine af hfc ?_;refine af hfc ?_;refine bb (bd F1.2) ?_;refine ⟨vz (show f.wt<=B by lia) hB',?_⟩;have hgood:(Tm.op 43 (.nm s) (.num 1)).gp p:=⟨⟨.inl rfl,hs,by decide,by decide⟩,by show 1<=3;decide⟩
     refine wrest _ (f.rows++[.set s (.op 43 (.nm s) (.num 1))]) (S1.other hn.2.1 λg hg=>?_) (λh0 q1 q2=>br (hsz h0 q1 q2) (n2 q1 hn.2.2.2 (by simp +arith only))) (aH (Mn (n1 hn.1 (by simp +arith only))) hfc) ?_ (uZ hf.good (show gps p [.set s _] from ⟨⟨hs,hgood⟩,trivial⟩)) ?_ ?_
     ·have h1:=hlast g hg;have h2:=(S1.ne g hg).1;exact ⟨LY h1,LY (n2 h2 h1 (by simp +arith only))⟩
     ·rw [lM];exact get_set F1.2
     ·have:ay (f.rows++[.set s (.op 43 (.nm s) (.num 1))])<=ay f.rows:=km (nO _) (Ly _);exact n2 this hnest (by simp +arith only)
     ·rw [pP,u0,iN];exact nO _
end
section
theorem HE (h:PB K n X m e)(hq:∀b,Q .next (m.set i (.bool b))):wpS K n (.asg [i] bY e) Q X m:=h _ λb=>hq b
structure At (L:Nat)(h0:List MO)(r:Nat)(ss:List (List Nat))(hp:List MO)(st:Nat)(fs:List Fr):Prop where
 S:Stk L hp st fs
 O:Oks (·∈ss) fs
 ne:fs≠[]
 len:fs.length<=8
 pre:h0<+:hp
 L0:h0.length<=L
 nm:h0[r]?=aT (.list (ss.map .str))
 ten:ss.length=10
 gn:∀s∈ss,Gn s
section
theorem At.up (A:At L h0 r ss hp st fs)(e:hp<+:hp'):At L h0 r ss hp' st fs:=⟨A.S.up e,A.O,A.ne,A.len,A.pre.trans e,A.L0,A.nm,A.ten,A.gn⟩
theorem At.names (A:At L h0 r ss hp st fs):hp[r]?=aT (.list (ss.map .str)):=ak A.pre A.nm
noncomputable def jZ (ss:List (List Nat))(hp:List MO)(i:Nat):Prop:=∃sl:List (List Nat),hp[i]?=aT (.list (sl.map .str))/\sl≠[]/\∀s∈sl,s∈ss
theorem jZ.up (h:jZ ss hp i)(e:hp<+:hp'):jZ ss hp' i:=e12 h λsl h1 h2=>⟨sl,ak e h1,h2⟩
theorem oU (ht:ss.length=10)(hp:List MO):jZ ss (hp++[.list (aC (ss.map MV.str) (aT 5) iD)]) hp.length:=
 ⟨ss.drop 5,by rw [ae,cg (by decide),OD];rfl,(λe=>by have:=congrArg QI e;rw [Mv,ht] at this;cases this),λs hs=>MX hs⟩
theorem xK (ht:ss.length=10)(hp:List MO):jZ ss (hp++[.list (aC (ss.map MV.str) iD (aT 5))]) hp.length:=
 ⟨ss.take 5,by rw [ae,dB (by decide),Oa];rfl,(λe=>by have:=congrArg QI e;rw [Mq,ht] at this;cases this),λs hs=>Mp hs⟩
theorem At.all (A:At L h0 r ss hp st fs):jZ ss hp r:=⟨ss,A.names,(λe=>by have:=A.ten;rw [e] at this;cases this),λs h=>h⟩
theorem At.row (A:At L h0 r ss hp st fs)(e:fs=gs++[f])(hg:w.gp (·∈ss))(hn:w.nest=0):At L h0 r ss (hp.set f.ra (.list (mvs f.rows++[w.mv]))) st (gs++[{ f with rows:=f.rows++[w] }]):=by
 obtain ⟨S,O,ne,len,pre,L0,nm,ten,gn⟩:=A;subst e;obtain ⟨O1,hf⟩:=O.init;have hL:=(S.ne f (Lx _ (oF.mpr rfl))).2.2.2;refine ⟨S.add w,O1.snoc (hf.add hg ?_),by simp,by simpa using len,br pre (iF L0 hL),L0,nm,ten,gn⟩;have:=hf.nest;exact n2 this (Lw hn) (by simp +arith only)
theorem At.frame (A:At L h0 r ss hp st fs)(hl:fs.length<8)(ht:t.gp (·∈ss))(hwd:wd=wIf\/wd=aU) :
  At L h0 r ss ((hp++[MO.list []]++[MO.list [.str wd,t.mv,.ref hp.length,.bool b,.none]]).set st (.list (di fs++[.ref (hp++[MO.list []]).length]))) st (fs++[⟨(hp++[MO.list []]).length,hp.length,wd,aT t,[],b,iD⟩]):=by
 obtain ⟨S,O,ne,len,pre,L0,nm,ten,gn⟩:=A;have hlt:∀{i o},hp[i]?=aT o->i<hp.length:=λe=>(By.mp e).1;have hst:=hlt S.at_;have hlo:=S.lo;have hup:hp<+:hp++[.list []]++[.list [.str wd,t.mv,.ref hp.length,.bool b,.none]]:=aa (aa (ai _));have F2:nH (hp++[.list []]++[.list [.str wd,t.mv,.ref hp.length,.bool b,.none]]) ⟨(hp++[MO.list []]).length,hp.length,wd,aT t,[],b,iD⟩:=⟨ae _ _,aj (ae _ _)⟩
 refine ⟨(S.up hup).push F2 (λg hg=>hlt (S.fr g hg).1) ⟨by show hp.length<(hp++[MO.list []]).length;simp,by show hp.length≠st;exact LY hst,by show (hp++[MO.list []]).length≠st;simp;exact LY (n1 hst (by simp +arith only)),by show L<=hp.length;exact n2 hlo hst (by simp +arith only)⟩,O.snoc ⟨trivial,by show 0+fs.length<=7;exact n1 hl (by simp +arith only),(λrs e=>by cases e),.inr ⟨t,rfl,ht,hwd.imp id λh=>⟨h,rfl⟩⟩⟩,by simp,by simp;exact n1 hl (by simp +arith only),br (pre.trans hup) (n2 hlo L0 (by simp +arith only)),L0,nm,ten,gn⟩
end
variable (hK:ar PP K)
include hK
theorem kE {L st r:Nat}{h0 hp:List MO}{ss:List (List Nat)}{fs:List Fr}(A:At L h0 r ss hp st fs)(hl:fs.length<8){wd:List Nat}{t:Tm}{b:Bool}(ht:t.gp (·∈ss))(hwd:wd=wIf\/wd=aU){M:Nat}{Q:MV->List MO->Prop}{X:XM}{v1 v2 v3 v4 v5:Option MV}{vs:List (Option MV)}
  (hq:∀hp' fs',At L h0 r ss hp' st fs'->wts fs'<=wts fs+4->Q .none hp') :
  aA K M [.expr (.mth .append (.var 0) [.list [.cst (.str wd),.var 6,.list [],.var 7,.cst .none]])] (fin Q) X ⟨aT (.ref st)::v1::v2::v3::v4::v5::aT t.mv::aT (.bool b)::vs,hp⟩:=by
 have B:=A.frame hl (b:=b) ht hwd;refine aw (bh A.S.at_) ?_;refine bb (bd (aj (aj A.S.at_))) ?_;refine ⟨Lp (show (di fs).length<9 by simp [di];exact iF hl (nb rfl)) (aQ (by decide)),?_⟩;refine hq _ _ B ?_;rw [ci];exact nO _
omit hK in
theorem K2 (h:j<4):∃w:Int,[MV.int 0,MV.int 4,MV.int 8,MV.int 0][j]?=aT (.int w):=by
 have:j=0\/j=1\/j=2\/j=3:=by lia
 rcases this with rfl | rfl | rfl | rfl<;>exact ⟨_,rfl⟩
end
section
variable (hK:ar PP K)
include hK
omit hK in
noncomputable def PC (K:KT)(n:Nat)(X:XM)(m:MS)(e:ME)(φ:Prop):Prop:=∀Q:PQ,(∀b,(b=eQ->φ)->Q (.bool b) m)->wpE K n e Q X m
omit hK in
theorem HF (ha:PB K n X m a)(he:PC K n X m e φ):PC K n X m (.and [a,e]) φ:=λQ hq=>ha _ λb=>by
 cases b with
 | true=>exact he Q hq
 | false=>exact hq bY λh=>by cases h
omit hK in
theorem DE (ha:PB K n X m a)(he:PC K n X m e φ)(hc:PB K n X m c):PC K n X m (.and [a,e,c]) φ:=λQ hq=>ha _ λb=>by
 cases b with
 | true=>
  refine he _ λb hb=>?_
  cases b with
  | true=>exact hc Q λb'=>hq b' λ_=>hb rfl
  | false=>exact hq bY λh=>by cases h
 | false=>exact hq bY λh=>by cases h
omit hK in
theorem t8 (hc:PC K n X m c φ)(ha:φ->aA K n a Q X m)(hb:aA K n b Q X m):wpS K n (.ite c a b) Q X m:=
 hc _ λt h=>by
  cases t with
  | true=>exact ha (h rfl)
  | false=>exact hb
omit hK in
theorem AZ (h:hp[st]?=aT (.list (di fs))):PC K n X ⟨aT (.ref st)::vs,hp⟩ (.cmp .lt (.blt .len [.var 0]) (.cst (.int 8))) (fs.length<8):=λQ hq=>by
 refine af h ?_;refine hq _ λe=>?_;have:=of_decide_eq_true e;simp [di] at this;lia
omit hK in
theorem DF (h:hp[st]?=aT (.list (di fs))):PC K n X ⟨aT (.ref st)::vs,hp⟩ (.cmp .gt (.blt .len [.var 0]) (.cst (.int 1))) (1<fs.length):=λQ hq=>by
 refine af h ?_;refine hq _ λe=>?_;have:=of_decide_eq_true e;simp [di] at this;lia
theorem wa (A:At L h0 r ss hp st fs)(hB:wts fs+5<=B)(hB':B<=2000)(hM:1<=M){t:Tm}(ht:t.gp (·∈ss))(hmode:mode=0\/mode=1\/mode=2)
  (hq:∀hp' fs',At L h0 r ss hp' st fs'->wts fs'<=wts fs+5->Q .none hp') :
  aA K M (gq.body.drop 5) (fin Q) (xin X) ⟨[aT (.ref st),aT (.ref r),aT (.int more),aT (.int mode),aT (.int way),aT (.bool dark),aT t.mv,aT (.bool sec),aT (.bool shut),iD,iD],hp⟩:=by
 refine e21 (qk A.ne) λgs f ef=>?_;have hfB:f.wt<=B:=by rw [ef,ci] at hB;exact n1 hB (by simp +arith only)
 have put:∀{hp1:List MO} {w:Rw} {e:ME} {vs:List (Option MV)},hp<+:hp1->w.gp (·∈ss)->w.nest=0->w.lines.length=1->(∀Q:PQ,Q w.mv ⟨aT (.ref st)::vs,hp1⟩->wpE K M e Q (xin X) ⟨aT (.ref st)::vs,hp1⟩)->aA K M [kD e] (fin Q) (xin X) ⟨aT (.ref st)::vs,hp1⟩:=by
  intro hp1 w e vs hpre hg hn hl he;have A1:=A.up hpre;have S1:=A1.S;rw [ef] at S1;refine ql S1 hfB hB' he ?_;refine hq _ _ (A1.row ef hg hn) ?_;rw [ef,ci,ci,AY,hl];exact by simp +arith only
 have setrow:∀{hp1:List MO} {i:Nat},hp<+:hp1->jZ ss hp1 i->aA K M [kD (.tup [.cst (.str gJ),.idx (.var 9) (.bin .mod (.bin .fdiv (.var 2) (.cst (.int 96))) (.blt .len [.var 9])),.var 6])] (fin Q) (xin X)
   ⟨[aT (.ref st),aT (.ref r),aT (.int more),aT (.int mode),aT (.int way),aT (.bool dark),aT t.mv,aT (.bool sec),aT (.bool shut),aT (.ref i),iD],hp1⟩:=by
  intro hp1 i hpre h1;refine e13 h1 λsl e1 hne hsub=>?_;have hpos:0<sl.length:=OI.mpr hne;have hx:0<=more / 96 % (sl.length:Int)/\more / 96 % (sl.length:Int)<sl.length:=⟨Os _ (cne hpos),Np _ (lW hpos)⟩
  have hk:(more / 96 % (sl.length:Int)).toNat<sl.length:=tn (z1 hx.1 (by simp +arith only)) (z1 hx.2 (by simp +arith only));refine put (w:=.set (sl[(more / 96 % (sl.length:Int)).toNat]'hk) t) hpre ⟨hsub _ (MC _),ht⟩ rfl rfl λQ hq=>?_;refine af e1 ?_;rw [tO];refine aw (decide_eq_true (z2 hx.1 hx.2 (by simp +arith only))) ?_;refine af e1 ?_;delta cS onO;try dsimp only
  rw [bn hx.1 (by rw [tO];exact hx.2)];dsimp only;rw [LG,Ls hk];exact hq
 refine eW (dh rfl .lt (.inr (.inr rfl))) ?_ ?_
 ·have after:∀{hp1:List MO} {i:Nat},hp<+:hp1->jZ ss hp1 i->aA K M [.ite (.var 8) [.asg [9] bY (.sl (.var 1) (aT (.cst (.int 5))) iD)] [],kD (.tup [.cst (.str gJ),.idx (.var 9) (.bin .mod (.bin .fdiv (.var 2) (.cst (.int 96))) (.blt .len [.var 9])),.var 6])] (fin Q) (xin X)
    ⟨[aT (.ref st),aT (.ref r),aT (.int more),aT (.int mode),aT (.int way),aT (.bool dark),aT t.mv,aT (.bool sec),aT (.bool shut),aT (.ref i),iD],hp1⟩:=by
   intro hp1 i hpre h1;refine eW (kC rfl) ?_ (setrow hpre h1);refine af ((A.up hpre).names) ?_;exact setrow (aa hpre) (oU A.ten hp1)
  conv=>whnf
  dsimp only;refine af A.names ?_;refine af (aj A.names) ?_
  conv=>whnf
  dsimp only [MS.push];rw [ae];delta cS onO;try dsimp only
  refine aB (jP) (lL) ?_;have hpre3:hp<+:hp++[MO.list (aC (ss.map MV.str) iD (aT 5))]++[MO.list (aC (ss.map MV.str) (aT 5) iD)]++[MO.list [.ref hp.length,.ref (hp++[MO.list (aC (ss.map MV.str) iD (aT 5))]).length]]:=aa (aa (aa (ai _)));have hk:∃k,sel (more / 7 % 4==3) (MV.ref hp.length) (.ref (hp++[MO.list (aC (ss.map MV.str) iD (aT 5))]).length)=.ref k/\jZ ss (hp++[MO.list (aC (ss.map MV.str) iD (aT 5))]++[MO.list (aC (ss.map MV.str) (aT 5) iD)]++[MO.list [.ref hp.length,.ref (hp++[MO.list (aC (ss.map MV.str) iD (aT 5))]).length]]) k:=by
   cases (more / 7 % 4==3)
   ·exact ⟨_,rfl,(xK A.ten hp).up (aa (aa (ai _)))⟩
   ·exact ⟨_,rfl,(oU A.ten _).up (aa (ai _))⟩
  refine e12 hk λk ek hk=>?_;rw [ek]
  conv=>whnf
  dsimp only [MS.push];rw [ae];have hr:=A.all
  rcases hmode with rfl | rfl | rfl
  ·exact after (aa hpre3) (hr.up (aa hpre3))
  ·exact after (aa hpre3) (hr.up (aa hpre3))
  ·exact after (aa hpre3) (hk.up (aa (ai _)))
 ·show wpS K M _ _ _ _;refine eW (ie (dh rfl .eq (.inl rfl)) (AX (kC rfl))).1 ?_ ?_
  ·exact put (w:=.tell t) (ai _) ht rfl rfl λQ hq=>hq
  ·show wpS K M _ _ _ _;refine eW (dh rfl .eq (.inl rfl)) ?_ ?_
   ·exact put (w:=.skip) (ai _) trivial rfl rfl λQ hq=>hq
   ·show wpS K M _ _ _ _;refine t8 (HF (dh rfl .lt (.inr (.inr rfl))) (AZ A.S.at_)) (λhl=>?_) ?_
    ·exact kE hK A hl ht (.inl rfl) λhp' fs' A' h'=>hq hp' fs' A' (n1 h' (by simp +arith only))
    ·show wpS K M _ _ _ _;refine t8 (DE (dh rfl .lt (.inr (.inr rfl))) (AZ A.S.at_) (AX (kC rfl))) (λhl=>?_) ?_
     ·show wpS K M _ _ _ _;refine eW (ie (dh rfl .eq (.inl rfl)) (qh rfl (by decide) (by decide) .gt (.inr rfl))).1 ?_ ?_
      ·have hk:(more / 384 % 5).toNat<ss.length:=by rw [A.ten];exact emN rfl
       have hg:(Tm.op 60 (.nm (ss[(more / 384 % 5).toNat]'hk)) (.num (1+more / 1920 % 4))).gp (·∈ss):=⟨⟨.inr (.inr (.inr (.inl rfl))),MC _,by lia,by lia⟩,by show 1<=3;decide⟩
       refine af A.names (aB (bn (em0 rfl) (by rw [tO];exact (Rn (em0 rfl)).mp hk)) (by rw [LG,Ls hk];rfl) ?_);exact kE hK A hl hg (.inr rfl) λhp' fs' A' h'=>hq hp' fs' A' (n1 h' (by simp +arith only))
      ·exact kE hK A hl ht (.inr rfl) λhp' fs' A' h'=>hq hp' fs' A' (n1 h' (by simp +arith only))
     ·show wpS K M _ _ _ _;refine t8 (DF A.S.at_) (λhl=>?_) (hq hp fs A (by simp +arith only));obtain ⟨M,rfl⟩:∃M',M=M'+1:=⟨M-1,sb hM⟩
      have S1:=A.S;have O1:=A.O;rw [ef] at S1 O1;have hgs:gs≠[]:=λe=>by rw [ef,e] at hl;exact absurd hl (N7 1)
      refine rU hK S1 O1 hgs (B:=B) (by rw [<-ef];exact n1 hB (by simp +arith only)) hB' λhp' fs' S' O' n' l' w' c' p'=>?_;rw [<-ef] at l' w';exact hq hp' fs' ⟨S',O',n',iF l' A.len,p' h0 A.L0 A.pre,A.L0,A.nm,A.ten,A.gn⟩ (n1 w' (by simp +arith only))
theorem JM {L st r:Nat}{h0 hp:List MO}{ss:List (List Nat)}{fs:List Fr}(A:At L h0 r ss hp st fs){B N:Nat}(hB:wts fs+5<=B)(hB':B<=2000)(hN:9<=N){more mode:Int}(hmode:mode=0\/mode=1\/mode=2){Q:MV->List MO->Prop}{X:XT}
  (hq:∀hp' fs',At L h0 r ss hp' st fs'->wts fs'<=wts fs+5->Q .none hp'):K N 40 [.ref st,.ref r,.int more,.int mode] Q X hp:=by
 obtain ⟨M,rfl,hM⟩:=room (k:=8) (show 8<N by lia);refine hK _ _ _ _ _ _ gq rfl rfl ?_;refine aZ (bf A.S.at_) ?_;refine u3 (λw=>⟨[aT (.ref st),aT (.ref r),aT (.int more),aT (.int mode),aT (.int (more % 12)),iD,iD,iD,iD,iD,w],hp⟩) (λ_=>True) iD rfl trivial (λ_ _=>A.S.at_) (λj y w P hy _ h1 h2=>?_) (λa w _=>?_)
 ·obtain ⟨f,ef,rfl⟩:=LF.mp (LG ..▸hy);refine af ((A.S.fr f (Lo ef)).1) ?_
  conv=>whnf
  cases f.sec with
  | true=>exact h1 _ _ trivial
  | false=>exact h2 _ trivial
 ·refine .nil _ _ a rfl rfl (aj (ae _ _)) (ae _ _) ?_;have A1:=A.up (aa (o:=.list []) (aa (o:=.list a) (ai hp)));refine DD hK A1.names A1.gn hM λhp2 t b hpre ht=>?_;have hpre:hp++[.list a]++[.list []]<+:hp2:=hpre;have A2:=A1.up hpre;refine ⟨rfl,?_⟩;change aA K M (gq.body.drop 3) (fin Q) _ ⟨[aT (.ref st),aT (.ref r),aT (.int more),aT (.int mode),aT (.int (more % 12)),aT (.bool (!a.isEmpty)),aT t.mv,aT (.bool b),iD,iD,iD],hp2⟩;refine HE (ie (dh rfl .eq (.inl rfl)) (ie (kC rfl) (kC rfl)).2).1 λshut=>?_;refine eW (dh rfl .eq (.inl rfl)) ?_ (wa hK A2 hB hB' (iF (nb rfl) hM) ht hmode hq)
  conv=>whnf
  dsimp only [MS.push,MS.set];rw [ae];delta cS onO;try dsimp only
  rw [bn (em0 rfl) (by show _<(4:Int);exact em2 rfl)];refine e11 (K2 (j:=(more / 7 % 4).toNat) (emN rfl)) λw' ew=>?_;refine aI ew ?_;exact wa hK (A2.up (aa (ai _))) hB hB' (iF (nb rfl) hM) ht hmode hq
end
section
variable {N:Nat}{Q:MV->List MO->Prop}{h:List MO}
variable {K:KT}(hK:ar PP K)
include hK
omit hK in
theorem xL (x:Int):fB (mix x):=by
 have:=CN x;obtain ⟨n,hn⟩:=My this.1;unfold fB;rw [hn];exact Lp (M8.mp (hn▸this.2)) (nb rfl)
omit hK in
theorem At.base (A:At L h0 r ss hp st [f]):hp[f.ra]?=aT (.list (mvs f.rows))/\hp[f.a]?=aT (.list f.cells)/\gps (·∈ss) f.rows/\ay f.rows<=7:=
 have h:=A.S.fr f (oF.mpr rfl);have o:=A.O 0 f rfl
 ⟨h.2,h.1,o.good,by have:=o.nest;exact this⟩
theorem xM (A:At L h0 r ss hp st fs)(hM:1<=M)(hB':B<=2000)(hB:wts fs<=B)
  (hq:∀hp' i rows,h0<+:hp'->hp'[i]?=aT (.list (mvs rows))->gps (·∈ss) rows->ay rows<=7->(lns rows).length<=B->Q (.ref i) hp') :
  aA K M (dL.body.drop 2) (fin Q) (xin X) ⟨v0::v1::v2::aT (.ref st)::vs,hp⟩:=by
 refine ⟨cls fs+1,iI (λk m=>∃hp fs,m=⟨v0::v1::v2::aT (.ref st)::vs,hp⟩/\At L h0 r ss hp st fs/\wts fs<=B/\cls fs+1<=k) (λm hI=>by obtain ⟨_,_,_,_,_,h⟩:=hI;exact nf (n1 h (by simp +arith only))) (λk m W hI hW=>?_) _ _ ⟨hp,fs,rfl,A,hB,nO _⟩⟩;obtain ⟨hp,fs,rfl,A,hB,hk⟩:=hI;refine e21 (qk A.ne) λgs f ef=>?_;refine af A.S.at_ ?_
 conv=>whnf
 cases gs with
 | nil=>
  subst ef;refine e04 A.base λb1 b2 b3 b4=>?_;refine af A.S.at_ ?_;refine af b2 ?_;refine hq hp f.ra f.rows A.pre b1 b3 b4 ?_;have:wts ([]++[f])=f.wt+0:=rfl;have:(lns f.rows).length+4<=f.wt:=by unfold Fr.wt;exact by simp +arith only
  lia
 | cons g gs=>
  have hl:(1:Int)<(di fs).length:=by rw [ef];simp [di];lia
  rw [decide_eq_true hl];obtain ⟨M,rfl⟩:∃M',M=M'+1:=⟨M-1,sb hM⟩
  have S1:=A.S;have O1:=A.O;rw [ef] at S1 O1;refine rU hK S1 O1 (M2 _ _) (B:=B) (by rw [<-ef];exact hB) hB' λhp' fs' S' O' n' l' w' c' p'=>?_;rw [<-ef] at l' w' c';exact hW _ ⟨hp',fs',rfl,⟨S',O',n',iF l' A.len,p' h0 A.L0 A.pre,A.L0,A.nm,A.ten,A.gn⟩,n2 w' hB (by simp +arith only),n2 c' hk (by simp +arith only)⟩
theorem DG {cells:List Int}{ss:List (List Nat)}(hc:h[rc]?=aT (.list (cells.map .int)))(hr:h[r]?=aT (.list (ss.map .str)))(ten:ss.length=10)(gn:∀s∈ss,Gn s)(hz:cells.length<=63)(hN:10<=N)
  (hq:∀hp' i rows,h<+:hp'->hp'[i]?=aT (.list (mvs rows))->gps (·∈ss) rows->ay rows<=7->(lns rows).length<=4+5 * cells.length->Q (.ref i) hp'):K N 41 [.ref rc,.ref r,.int loose] Q X h:=by
 obtain ⟨M,rfl,hM⟩:=room (k:=9) (show 9<N by lia);have e1:(h++[MO.list []]).length=h.length+1:=by simp
 have e2:(h++[MO.list []]++[MO.list [.str [],.none,.ref h.length,.bool bY,.none]]).length=h.length+2:=by simp
 have A0:At h.length h r ss (h++[MO.list []]++[MO.list [.str [],.none,.ref h.length,.bool bY,.none]]++[MO.list [.ref (h++[MO.list []]).length]]) (h++[MO.list []]++[MO.list [.str [],.none,.ref h.length,.bool bY,.none]]).length [⟨(h++[MO.list []]).length,h.length,[],iD,[],bY,iD⟩]:=by
  refine ⟨⟨ae _ _,λf hf=>?_,Nw ..,λf hf=>?_,by rw [e2];exact by simp +arith only⟩,λi f e=>?_,M2 _ _,Oh rfl,aa (aa (aa (ai _))),nO _,hr,ten,gn⟩
  ·rw [oF.mp hf];exact ⟨aj (ae _ _),aj (aj (ae _ _))⟩
  ·rw [oF.mp hf,e1,e2];exact ⟨by show h.length<h.length+1;exact by simp +arith only,by show h.length≠h.length+2;lia,by show h.length+1≠h.length+2;lia,nO _⟩
  ·cases i with
   | zero=>cases e;exact ⟨trivial,Ly _,(λrs e=>by cases e),.inl rfl⟩
   | succ i=>cases e
 refine hK _ _ _ _ _ _ dL rfl rfl ?_
 conv=>whnf
 dsimp only [js,MS.set,MS.push];refine aZ (xt (ak A0.pre hc)) ?_;generalize (h++[MO.list []]++[MO.list [.str [],.none,.ref h.length,.bool bY,.none]]).length=st at *;refine pM (λj w4 w5 w6 w7 hp fs=>⟨[aT (.ref rc),aT (.ref r),aT (.int loose),aT (.ref st),w4,w5,w6,w7],hp⟩) (λj w4 w5 w6 w7 hp fs=>At h.length h r ss hp st fs/\wts fs<=4+5 * j)
  _ _ _ _ _ _ rfl ⟨A0,nO 4⟩ (λ_ _ _ _ _ _ _ hI=>ak hI.1.pre hc) (λj y w4 w5 w6 w7 hp fs P hy hI hn _=>?_) (λw4 w5 w6 w7 hp fs hI=>?_)
 ·obtain ⟨A,hw⟩:=hI;obtain ⟨z,hz1,rfl⟩:=uX hy;obtain ⟨c,hc1,rfl⟩:=LF.mp (LG ..▸hz1);have hj:j<cells.length:=(By.mp hc1).1;have hc':=ak A.pre hc;have last:∀more mode:Int,mode=0\/mode=1\/mode=2->aA K M [.expr (.call 40 [.var 3,.var 1,.var 6,.var 7])] P (xin X) ⟨[aT (.ref rc),aT (.ref r),aT (.int loose),aT (.ref st),aT (.int j),aT (.int c),aT (.int more),aT (.int mode)],hp⟩:=λmore mode hm=>by
   refine JM hK A (B:=2000) (by lia) (nO _) hM hm λhp' fs' A' hw'=>?_;exact hn _ _ _ _ _ _ ⟨A',n2 hw' hw (by simp +arith only)⟩
  have second:∀more mode:Int,mode=0\/mode=1->aA K M [.ite (.and [.cmp .gt (.var 2) (.cst (.int 1)),.cmp .eq (.var 4) (.bin .mod (.var 2) (.blt .len [.var 0]))]) [.asg [7] bY (.cst (.int 2))] [],.expr (.call 40 [.var 3,.var 1,.var 6,.var 7])] P (xin X) ⟨[aT (.ref rc),aT (.ref r),aT (.int loose),aT (.ref st),aT (.int j),aT (.int c),aT (.int more),aT (.int mode)],hp⟩:=λmore mode hm=>by
   refine eW (ie (dh rfl .gt (.inr (.inl rfl))) λQ hq=>?_).1 (last more 2 (.inr (.inr rfl))) (last more mode (by lia));refine af hc' ?_;refine aw (decide_eq_true (by rw [tO];exact lW (n1 hj (by simp +arith only)))) ?_;exact hq _
  refine ⟨rfl,?_⟩;refine ⟨.inl (by unfold fB;decide),?_⟩;obtain ⟨M,rfl⟩:∃M',M=M'+1:=⟨M-1,sb (n1 hN (by simp +arith only))⟩
  refine dG hK ?_;refine ⟨.inl (xL _),?_⟩;refine dG hK ?_;change aA K (M+1) [_,_,_,_] P _ ⟨[aT (.ref rc),aT (.ref r),aT (.int loose),aT (.ref st),aT (.int j),aT (.int c),aT (.int _),w7],hp⟩;refine eW (ie (dh rfl .eq (.inl rfl)) (qh rfl (by decide) (by decide) .eq (.inl rfl))).1 (second _ 1 (.inr rfl)) (second _ 0 (.inl rfl))
 ·refine e02 hI λA hw=>?_;rw [zV,tO] at hw;exact xM hK A (iF (nb rfl) hM) (B:=4+5 * cells.length) (by lia) hw hq
end
section
theorem xN (rs:List Rw):eV rs<=(lns rs).length:=
 Rw.rec_1 (motive_1:=λr=>r.fl.length<=r.lines.length) (motive_2:=λrs=>eV rs<=(lns rs).length) (λ_ _=>nO _) (λ_=>nO _) (nO _)
  (λt a b ia ib=>by
   show (fls a++fls b).length+1<=(lns a++rC::(lns b++[nP])).length+1;rw [iN,iN,MD,iN];exact Ln (Mt ia (iF ib (LQ _ 2))))
  (λt a ia=>by
   show (fls a).length+1<=(lns a++[nP]).length+1;rw [iN];exact Ln (iF ia (LQ _ 1)))
  (nO _) (λr rs i1 i2=>by
   show (r.fl++fls rs).length<=(r.lines++lns rs).length;rw [iN,iN];exact Mt i1 i2) rs
theorem JN {r:Rw}(h:r.gp p):∀s∈r.own,p s:=by
 cases r with
 | set s t=>exact alc h.1 (rN h.2.1)
 | tell t=>exact rN h.1
 | skip=>exact al0
 | ite t a b=>exact rN h.1.1
 | wh t a=>exact rN h.1.1
theorem Ew {ss Y Z:List (List Nat)}{rows:List Rw}(t:Ten ss)(g:gps (·∈ss) rows)(n:ay rows<=7)(l:(lns rows).length<=204)(hy:(Y++Z).Sublist (fz ss 0 30++fz ss 1 30)):AF ss (ss.take 2++Y) ((ss.take 4).drop 2++Z) rows:=by
 have gg:=rS t.gn rows g;have hs:=iF (xN rows) l;have b1:(bns rows).length<=9 * eV rows:=rO λr hr=>vm (jX rows gg r hr);have b2:∀s∈bns rows,s∈ss:=λs hs=>e12 (QX.mp hs) λr h1 h2=>JN (jX rows g r h1) s h2;have nz:∀s∈Y++Z,Gn s/\s∉ss:=λs h=>by
  have h:=hy.subset h;have key:∀k,s∈fz ss k 30->s∈zN k 30/\s∉ss:=λk h=>by
   refine e02 (List.mem_filter.mp h) λh1 h2=>?_;exact ⟨h1,λq=>by rw [Mc.mpr q] at h2;exact ff h2⟩
  exact (Lg.mp h).elim (λh=>⟨vx s (LC _ (key 0 h).1),(key 0 h).2⟩) λh=>⟨vx s (Lx _ (key 1 h).1),(key 1 h).2⟩
 have pm:(ss.take 2++Y++((ss.take 4).drop 2++Z)).Perm (ss.take 4++(Y++Z)):=by
  have e:ss.take 2++(ss.take 4).drop 2=ss.take 4:=by
   have:ss.take 2=(ss.take 4).take 2:=by rw [List.take_take];rfl
   rw [this,Mj]
  have h1:(Y++(ss.take 4).drop 2).Perm ((ss.take 4).drop 2++Y):=Om;have h2:=(h1.append_left (ss.take 2)).append_right Z;rw [<-DO,<-DO,e] at h2;rw [<-DO,DO (ss.take 2),<-DO (ss.take 4)];rw [DO (ss.take 2)] at h2;exact h2
 have zl:(Y++Z).length<=60:=iF hy.length_le (by
  have h1:∀k,(fz ss k 30).length<=30:=λk=>iF (List.length_filter_le ..) (Lw (AQ k 30));rw [iN];exact Mt (h1 0) (h1 1))
 have nd4:=(M7.mp ((Mj 4 ss).symm▸t.nd))
 refine ⟨λs h=>?_,pm.nodup_iff.mpr (M7.mpr ⟨nd4.1,(K1.sublist (hy.trans (List.filter_sublist.append List.filter_sublist))),λa ha b hb e=>(nz b hb).2 (e▸Mp ha)⟩),gg,n,iF hs (nb rfl),iF b1 (iF (NC 9 hs) (nb rfl)),λs h=>t.gn s (b2 s h),?_,t.gn,λs h q=>?_,t.len⟩
 ·exact (Lg.mp (pm.mem_iff.mp h)).elim (λh=>t.gn s (Mp h)) λh=>(nz s h).1
 ·have:=pm.length_eq;rw [iN] at this;rw [this,iN];exact iF (Mt (Ql ..) zl) (nb rfl)
 ·exact (Lg.mp (pm.mem_iff.mp q)).elim (λq=>nd4.2.2 s q s h rfl) λq=>(nz s q).2 (MX h)
theorem Ex (x:Int):∃b,x % 2=b2i b:=(Int.emod_two_eq x).elim (λh=>⟨bY,h⟩) λh=>⟨eQ,h⟩
theorem wc {K:KT}{is:List Int}{r rp M k c:Nat}{rows:List Rw}{ce mo z:Int}{u5 v7 v8 v9 v10 v11 v12 v13 v14:Option MV}{A:List (List Nat)}{l:List MV}{h:List MO}{Q:PQ}{X:XM}(hz:decide (0<z/\z<2 ^ 30)=eQ)(hp:h[rp]?=aT (.list l))(e:l[k]?=aT (.ref c))(hc:h[c]?=aT (.list (A.map .str)))
  (hq:∀v h',h<+:h'->Cp h.length h'.length h' A v->Q v ⟨VL is r rows ce mo u5 rp v7 v8 v9 v10 v11 v12 v13 v14,h'⟩) :
  wpE K M (.idx (.list [.blt .list [.idx (.var 6) (.cst (.int k))],.blt .tuple [.idx (.var 6) (.cst (.int k))]]) (.bin .mod (.bin .fdiv (.var 4) (.cst (.int z))) (.cst (.int 2)))) Q X ⟨VL is r rows ce mo u5 rp v7 v8 v9 v10 v11 v12 v13 v14,h⟩:=by
 refine af hp (aF k e (af hc (af (aj hp) (aF k e (af (aj hc) (aw hz ?_))))));refine e11 (Ex (mo / z)) λb hb=>?_;refine af (ae _ _) (aB (by rw [hb];exact jP) lL (hq _ _ (aa (aa (ai _))) ?_))
 cases b with
 | false=>exact .l h.length rfl (nO _) (lta (aj (ae _ _))) (aj (ae _ _))
 | true=>exact .t rfl
variable {K:KT}(hK:ar PP K)
include hK
theorem A8 {is:List Int}{ce mo:Int}{v7 v11 v12 v13 v14:Option MV}{n0 m r rp ra rb M:Nat}{u5:MV}{ss A B:List (List Nat)}{rows:List Rw}{X:XM}{w:Bool}{h:List MO}(F:AF ss A B rows)(hM:40<M)(r0:r<n0)(mp:m<=rp/\m<=ra/\m<=rb)(mh:m<=h.length)(C:Cs h (c4 r rp ra rb ss A B))(hu:hbl w h rows n0 m u5)(hl:(lns rows).length<=1000) :
  aA K M (cy.body.drop 8) (fin λv _=>v=.bool eQ) X ⟨VL is r rows ce mo (aT u5) rp v7 iD iD iD v11 v12 v13 v14,h⟩:=by
 refine wc (k:=0) (z:=2) rfl (C.at 1 rfl) rfl (C.at 2 rfl) λx8 h1 p1 c8=>wc (k:=1) (z:=3) rfl (ak p1 (C.at 1 rfl)) rfl (ak p1 (C.at 3 rfl)) λx9 h2 p2 c9=>?_;have pp:=LS p1 p2;have O:Ord n0 m h2.length h.length (c4 r rp ra rb ss A B):=⟨mh,al4 ⟨.inl r0,lta (C.at 0 rfl)⟩ ⟨.inr mp.1,lta (C.at 1 rfl)⟩ ⟨.inr mp.2.1,lta (C.at 2 rfl)⟩ ⟨.inr mp.2.2,lta (C.at 3 rfl)⟩⟩
 exact JL hK F hM O (C.up pp) (hbl.up hu (.pre pp) (nO _) (nO _)) (c8.mv (λ_ _ _ _ e=>ak p2 e) (nO _) (nO _)) c9 p1.length_le p2.length_le hl
theorem HG {is:List Int}{ce mo:Int}{n0 r M:Nat}{u5:MV}{ss:List (List Nat)}{rows:List Rw}{X:XM}{w:Bool}{h:List MO}(tn:Ten ss)(g:gps (·∈ss) rows)(n:ay rows<=7)(bl:(lns rows).length<=204)(hM:40<M)(r0:r<n0)(hr:h[r]?=aT (.list (ss.map .str)))(hu:hbl w h rows n0 h.length u5) :
  aA K M (cy.body.drop 6) (fin λv _=>v=.bool eQ) X ⟨[aT (.scr is),aT (.ref r),aT (.tup (mvs rows)),aT (.int ce),aT (.int mo),aT u5,iD,iD,iD,iD,iD,iD,iD,iD,iD],h⟩:=by
 refine kU hr (ys:=(ss.take 2).map .str) ?_ (kU (aj hr) (ys:=((ss.take 4).drop 2).map .str) ?_ ?_)
 ·rw [dB (by decide),Oa];rfl
 ·rw [JB (by rw [tO];exact tn.len),OD,Oa]
 have lz:(lns rows).length<=1000:=iF bl (nb rfl);have p3:∀a b c,h<+:h++[a]++[b]++[c]:=λ_ _ _=>aa (aa (aa (ai _)));refine xZ (λ_=>?_) λ_=>?_
 ·have F:=Ew (Y:=[]) (Z:=[]) tn g n bl (List.nil_sublist _);rw [LJ,LJ] at F;exact A8 hK F hM r0 ⟨(aa (aa (ai _))).length_le,nO _,(aa (ai _)).length_le⟩ (p3 _ _ _).length_le (al4 (ak (p3 _ _ _) hr) (ae _ _) (aj (aj (ae _ _))) (aj (ae _ _))) (hbl.up hu (.pre (p3 _ _ _)) (nO _) (nO _)) lz
 ·have mn:(mo / 12 % 30).toNat<=30:=LM (emN rfl);refine JI (X:=X) λa0 a1 h1 p1 e0 e1 q e2=>?_;have q1:=LS (p3 _ _ _) p1;refine JJ (X:=X) (ss:=ss) (ak q1 hr) (λs h=>(tn.gn s h).1.ok) (ak p1 (ae _ _)) e2 (ak p1 (aj (aj (ae _ _)))) (ak p1 (aj (ae _ _))) e0 e1 (iF (Ql ..) (nb rfl)) (iF (iF (Lw Mv) (N1 _ _)) (iF (Ql ..) (nb rfl))) mn λa b h2 p2 la lb ea eb q' lq eq=>?_;have q2:=LS q1 p2;have lh:=q1.length_le;have fs:∀k,(fz ss k (mo / 12 % 30).toNat).Sublist (fz ss k 30):=λk=>(Es k mn).filter _;exact A8 hK (Ew tn g n bl ((fs 0).append (fs 1))) hM r0 ⟨iF lh lq,iF lh la,iF lh lb⟩ q2.length_le (al4 (ak q2 hr) eq ea eb) (hbl.up hu (.pre q2) (nO _) (nO _)) lz
theorem HH (is:List Int):aA K 600 cy.body (fin λv _=>v=.bool eQ) (λ_ _=>False) (js cy [.scr is] []):=by
 refine pO hK (by decide) (pO hK (by decide) (CS hK λh1 r ss hpre hlen hr ten hs hnd hkw=>?_));have gn:∀s∈ss,Gn s:=λs h=>⟨hs s h,hkw s h⟩
 have tn:Ten ss:=⟨ten,gn,hnd⟩
 have ei:aC (is.map MV.int) (aT 3) (aT 43)=(aC is (aT 3) (aT 43)).map MV.int:=by
  unfold aC;dsimp only;rw [tO,OD,Oa]
 have el:(aC is (aT 3) (aT 43)).length<=40:=by
  unfold aC;dsimp only;rw [Mv,Mq,jQ (by decide),jQ (by decide)];refine Nat.sub_le_of_le_add (show min (min 43 is.length) is.length<=40+min 3 is.length from ?_);refine (Nat.le_total 3 is.length).elim (λh=>?_) λh=>?_
  ·rw [Nf h];exact iF (NE _ _) (NE _ _)
  ·rw [OJ h];exact iF (P5 _ _) (Nl _ _)
 conv=>whnf
 rw [ei];refine DG hK (cells:=aC is (aT 3) (aT 43)) (ae _ _) (aj hr) ten gn (iF el (nb rfl)) (by decide) λh2 i2 rows p2 e2 g2 n2 bl=>?_;have bl:(lns rows).length<=204:=iF bl (Mh (NC 5 el) 4);have hr:=ak (LS (aa (ai _)) p2) hr;refine af e2 (pO hK (by decide) (pO hK (by decide) ⟨.inl (by unfold fB;decide),dG hK ?_⟩));generalize mix _=mo;refine xZ (λ_=>?_) λ_=>dG hK (Df hK tn hr (rS gn rows g2) n2 (iF bl (nb rfl)) (by decide) λh'=>rfl);refine e11 (Ex mo) λw hw=>?_
 conv=>whnf
 rw [hw];exact AP hK rows (iF bl (nb rfl)) (IT (Ln n2) (by decide)) λh3 u5 p3 hu=>HG hK tn g2 n2 bl (by decide) (lta hr) (ak p3 hr) hu
end
end Internal
end
set_option tactic.hygienic true
set_option Elab.async false
set_option maxRecDepth 100000
set_option maxHeartbeats 8000000
open PySem PySem.W PyProof.Rows Internal
noncomputable def Internal.T05:ki:=⟨Internal.tab,Internal.mtab,[(0,"Program",["opens","secrets","rows"])],"HushError"::EE,λf=>f==47,Internal.gl⟩
theorem PySem.Challenge.cw_uf010009_05_holds : PySem.Challenge.rw_uf010009_05.Holds := by
 w_on
 refine holds_law J2 fun said=>?_
 refine holds_open (q:=Q05) (loose:=["MODULUS","THINGS"]) (Xt:=X05) (XP:=fun mg h=>XL Q05 HM mg h∧fv ("HushError"::EE) mg h) (Yf:=nS "THINGS") (Ya:=qm xR) (YP:=kh "THINGS" xR Challenge.pw_uf010009_05) (N:=10000) ER (fun w s e=>Jc (by unfold line;decide) (by decide +kernel) e) (fun w h h' y k=>y.keeps k)
  (fun s e=>⟨xl_of s (Bool.and_eq_true_iff.mp (Bool.and_eq_true_iff.mp e).1).1,xo (Bool.and_eq_true_iff.mp (Bool.and_eq_true_iff.mp e).1).2⟩) (fun mg h h' y k=>⟨XL.keeps mg h h' y.1 k,y.2.keeps k⟩) (by rfl) (by rfl) (by rfl) (fun s e=>recFacts_of (Bool.and_eq_true_iff.mp e).2) (by rfl) said (by decide +kernel) ⟨rfl,rfl,rfl,rfl,rfl,by decide +kernel⟩ ?hw ?hc
 case hw=>w_witness2
 intro w s₀ s₁ mg mb G Y fa o pm cd doc dV kV ho hd hcd hD hmg hg args vals as hpre hlay hrd hwl hlo
 have V:=(Ground.X G).1
 have XF:=(Ground.X G).2
 have T:=G.T
 have B:=G.B
 have TE:=G.TE
 clear hd hcd hD
 wrow_args hpre hlay hrd hwl hlo
 rename Well _ _ _ _=>hW
 rename IntsAre _ _=>hI
 rename Heap.IsList _ _ _=>hL
 rename (¬ _<_)=>hc
 have hct:rj (plainsOf Q05 (looseW Q05 ["MODULUS","THINGS"])) T05=true:=by decide +kernel
 obtain ⟨cm,hcm⟩:=Je (t:=T05) TE hct
 refine zP (t:=T05) (prog:=PySem.Challenge.pw_uf010009_05) T TE XF hcm (f:=81) (x:="law") (d:=cy) ?zzimp ?zzchk ?zzmt hct ?zzblt ?zzhgl rfl hg rfl hmg rfl (GR hW hL hI ?zzhz) (fun K hK=>HH hK _) ?zzhQ
 case zzimp=>decide +kernel
 case zzchk=>decide +kernel
 case zzmt=>decide +kernel
 case zzblt=>decide +kernel
 case zzhz=>unfold line;lia
 case zzhgl=>
  intro g x v e
  replace e:Internal.gl g=some (x,v):=e
  unfold Internal.gl at e
  split at e
  ·cases e
   obtain ⟨u,h1,h2⟩:=V.2.val _ (List.mem_cons_self ..)
   refine ⟨u,h1,fun ρ h' _=>?_⟩
   cases h2
   exact .int _ _
  ·cases e;exact zT B (by decide +kernel) (by unfold line;decide)
  ·cases e;exact zT B (by decide +kernel) (by unfold line;decide)
  ·cases e;exact zR T (by decide +kernel) (by unfold line;decide)
  ·cases e;exact zR T (by decide +kernel) (by unfold line;decide)
  ·cases e;exact tE T (by decide +kernel)
  ·cases e;exact tE T (by decide +kernel)
  ·cases e;exact tE T (by decide +kernel)
  ·cases e;exact CL T Y
  ·cases e
 case zzhQ=>
  intro s' h1 h2 h3
  refine GoodW.toG ⟨.inl ⟨_,.bool true,[],rfl,?_,?_,?_,?_⟩,h1,h2,h3⟩
  ·exact fun _=>rfl
  ·exact .bool _
  ·exact xq _ _ _
  ·exact fun _=>⟨List.nodup_nil,fun _ h=>by cases h⟩
